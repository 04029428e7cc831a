import PyProof.Rows.All
import Wide.All
import OpenK.AllK
import Wide.FinOn
import PyProof.EqAt
import PyProof.EqKinds
import PyProof.TupleCall
import HandS.ForMost
import HandS.Exc
import HandS.WordsExc
import HandS.Style
import HandS.Flow
import HandS.IsInst
import HandS.Deep
import HandS.More
import HandS.Conv
import HandS.TupAny
import HandS.Dict
import HandS.Iter
import HandS.Text
import HandS.SortRule
import HandS.TupLe
import HandS.Words
import HandS.Ends
import HandS.DictComp
import PyProof.DictMoreH
import HandS.SetKeys
import HandS.TupLen
import KE.LtSeq
import HandS.RaiseMore
import PyProof.CallStr
import HandS.Zip
import HandS.Strs
import HandS.Replace
import PyProof.StrOps2
import HandS.AnyAll
import PyProof.StrOps
import HandS.EndTab
import HandS.TryOnly
import HandS.ExcInit
import HandS.ExcField
import HandS.ExcIs
import KE.KExcIs
import KE.RegKSuper
import KE.KExcSuper
import HandS.FStr
import PySem.Challenge.RW_graphtwins_k12_texts_of_graphs
set_option Elab.async false
set_option linter.all false
set_option maxRecDepth 100000
set_option maxHeartbeats 4000000
/-! DL1: plain data D over the layer's values; readings over plain data; names, constants, operators, statements. -/
namespace DL
open PySem PySem.Spec PyProof.Rows L2

/-- plain data: immutable things by their content, lists, dicts and instances by their address; cl: a list that nobody writes -/
inductive D where
  | non | bl (b : Bool) | int (i : Int) | str (l : List Nat) | tup (l : List D) | cl (l : List D) | ref (a : Addr)

/-- what stands at an address; fdic: a dict while it is walked; tbl: a def's table of code objects; xd: an exception's own dict -/
inductive AO where
  | lst (xs : List D) | dic (kvs : List (D × D)) | fdic (od : Obj) (kvs : List (D × D)) | ins (C : Addr) (fs : List (String × D)) | tbl | xd (fs : List (String × D))

abbrev AH := Addr → Option AO
def up (A : AH) (a : Addr) (o : AO) : AH := fun b => if b = a then some o else A b
@[simp] theorem up_same {A : AH} {a : Addr} {o : AO} : up A a o a = some o := if_pos rfl
theorem up_ne {A : AH} {a b : Addr} {o : AO} (h : b ≠ a) : up A a o b = A b := if_neg h

structure Bs where
  P : Program
  w : World
  K : PySem.W.Frag

/-! ### the relation to the layer's values -/
def TupAt (K : PySem.W.Frag) (H : Hp) (a : Addr) (vs : List V) : Prop :=
  H a = some (.tup vs) ∨ ∃ (o : Obj) (its : Array Value) (n : Nat), K.lookup a = some o ∧ o.cls = .type "tuple" ∧ o.data = .seq its n ∧ its.size ≤ sizeLine ∧ Vals vs its.toList
def CstAt (K : PySem.W.Frag) (H : Hp) (a : Addr) (vs : List V) : Prop :=
  (∃ o, H a = some (.frz o (.lst vs))) ∨ ∃ (o : Obj) (its : Array Value) (n : Nat), K.lookup a = some o ∧ o.cls = .type "list" ∧ o.dict = none ∧ o.data = .seq its n ∧ its.size ≤ sizeLine ∧ Vals vs its.toList
mutual
def RelD (K : PySem.W.Frag) (H : Hp) : D → V → Prop
  | .non, v => v = .non
  | .bl b, v => v = .bl b
  | .int i, v => v = .int i
  | .str l, v => v = .str ⟨l.toArray⟩ ∧ ∀ c ∈ l, c < 1114112
  | .tup l, v => ∃ a vs, v = .ref a ∧ TupAt K H a vs ∧ RelL K H l vs
  | .cl l, v => ∃ a vs, v = .ref a ∧ CstAt K H a vs ∧ RelL K H l vs
  | .ref a, v => v = .ref a
def RelL (K : PySem.W.Frag) (H : Hp) : List D → List V → Prop
  | [], vs => vs = []
  | d :: ds, vs => ∃ v r, vs = v :: r ∧ RelD K H d v ∧ RelL K H ds r
end
/-- what data lean on stays -/
def Grow (H H' : Hp) : Prop := (∀ a xs, H a = some (.tup xs) → H' a = some (.tup xs)) ∧ ∀ a o xs, H a = some (.frz o (.lst xs)) → H' a = some (.frz o (.lst xs))
theorem Grow.refl {H : Hp} : Grow H H := ⟨fun _ _ h => h, fun _ _ _ h => h⟩
theorem Grow.trans {H H1 H2 : Hp} (a : Grow H H1) (b : Grow H1 H2) : Grow H H2 := ⟨fun c xs h => b.1 c xs (a.1 c xs h), fun c o xs h => b.2 c o xs (a.2 c o xs h)⟩
theorem Grow.new {H : Hp} {p : Addr} {o : HO} (h : H p = none) : Grow H (upd H p o) :=
  ⟨fun a xs e => by rw [upd_ne (ne_of_none e h)]; exact e, fun a o xs e => by rw [upd_ne (ne_of_none e h)]; exact e⟩
theorem Grow.put {H : Hp} {p : Addr} {o u : HO} (h : H p = some u) (h1 : ∀ xs, u ≠ .tup xs) (h2 : ∀ ob xs, u ≠ .frz ob (.lst xs)) : Grow H (upd H p o) :=
  ⟨fun a xs e => by rw [upd_ne (ne_of e h (Ne.symm (h1 xs)))]; exact e, fun a ob xs e => by rw [upd_ne (ne_of e h (Ne.symm (h2 ob xs)))]; exact e⟩
section
variable {K : PySem.W.Frag} {H H' : Hp}
theorem TupAt.grow {a : Addr} {vs : List V} (h : TupAt K H a vs) (g : Grow H H') : TupAt K H' a vs := h.elim (fun h => .inl (g.1 _ _ h)) .inr
theorem CstAt.grow {a : Addr} {vs : List V} (h : CstAt K H a vs) (g : Grow H H') : CstAt K H' a vs := h.elim (fun ⟨o, h⟩ => .inl ⟨o, g.2 _ _ _ h⟩) .inr
theorem TupAt.seq {a : Addr} {vs : List V} (h : TupAt K H a vs) : SqT K H a vs := h.elim (fun h => .inl (.inl h)) .inr
theorem CstAt.seq {a : Addr} {vs : List V} (h : CstAt K H a vs) : SqL K H a vs := h.elim (fun ⟨o, h⟩ => .inl (.inr ⟨o, h⟩)) .inr
mutual
theorem RelD.grow (g : Grow H H') : ∀ {d : D} {v : V}, RelD K H d v → RelD K H' d v
  | .non, _, h => h
  | .bl _, _, h => h
  | .int _, _, h => h
  | .str _, _, h => h
  | .ref _, _, h => h
  | .tup _, _, ⟨a, vs, e, t, r⟩ => ⟨a, vs, e, t.grow g, RelL.grow g r⟩
  | .cl _, _, ⟨a, vs, e, t, r⟩ => ⟨a, vs, e, t.grow g, RelL.grow g r⟩
theorem RelL.grow (g : Grow H H') : ∀ {ds : List D} {vs : List V}, RelL K H ds vs → RelL K H' ds vs
  | [], _, h => h
  | _ :: _, _, ⟨v, r, e, h1, h2⟩ => ⟨v, r, e, RelD.grow g h1, RelL.grow g h2⟩
end
theorem RelL.length : ∀ {ds : List D} {vs : List V}, RelL K H ds vs → ds.length = vs.length
  | [], _, h => by cases h; rfl
  | _ :: _, _, ⟨_, _, e, _, h⟩ => by cases e; simp [RelL.length h]
theorem RelL.cons {d : D} {ds : List D} {v : V} {vs : List V} (h : RelD K H d v) (t : RelL K H ds vs) : RelL K H (d :: ds) (v :: vs) := ⟨v, vs, rfl, h, t⟩
theorem RelL.nil : RelL K H [] [] := rfl
theorem RelL.get : ∀ {ds : List D} {vs : List V} {i : Nat} {d : D}, RelL K H ds vs → ds[i]? = some d → ∃ v, vs[i]? = some v ∧ RelD K H d v
  | d :: _, _, 0, _, ⟨v, r, e, h, _⟩, q => by
    cases e; cases q
    exact ⟨v, rfl, h⟩
  | _ :: ds, _, i + 1, _, ⟨v, r, e, _, h⟩, q => by
    cases e
    exact RelL.get (i := i) h (by simpa using q)
  | [], _, _, _, _, q => by simp at q
theorem RelL.get' : ∀ {ds : List D} {vs : List V} {i : Nat} {v : V}, RelL K H ds vs → vs[i]? = some v → ∃ d, ds[i]? = some d ∧ RelD K H d v
  | d :: _, _, 0, _, ⟨v, r, e, h, _⟩, q => by
    cases e; cases q
    exact ⟨d, rfl, h⟩
  | _ :: ds, _, i + 1, _, ⟨v, r, e, _, h⟩, q => by
    cases e
    exact RelL.get' (i := i) h (by simpa using q)
  | [], _, _, _, h, q => by cases h; simp at q
theorem RelL.append : ∀ {ds es : List D} {vs us : List V}, RelL K H ds vs → RelL K H es us → RelL K H (ds ++ es) (vs ++ us)
  | [], _, _, _, h, t => by cases h; exact t
  | _ :: _, _, _, _, ⟨v, r, e, h, h2⟩, t => by cases e; exact ⟨v, _, rfl, h, RelL.append h2 t⟩
theorem RelL.take : ∀ {ds : List D} {vs : List V} (n : Nat), RelL K H ds vs → RelL K H (ds.take n) (vs.take n)
  | _, _, 0, _ => by simp [RelL]
  | [], _, n + 1, h => by cases h; simp [RelL]
  | _ :: _, _, n + 1, ⟨v, r, e, h, t⟩ => by cases e; exact ⟨v, _, rfl, h, RelL.take n t⟩
theorem RelL.drop : ∀ {ds : List D} {vs : List V} (n : Nat), RelL K H ds vs → RelL K H (ds.drop n) (vs.drop n)
  | _, _, 0, h => h
  | [], _, n + 1, h => by cases h; simp [RelL]
  | _ :: _, _, n + 1, ⟨v, r, e, h, t⟩ => by cases e; exact RelL.drop n t
theorem RelL.set : ∀ {ds : List D} {vs : List V} {d : D} {v : V} (n : Nat), RelL K H ds vs → RelD K H d v → RelL K H (ds.set n d) (vs.set n v)
  | [], _, _, _, _, h, _ => by cases h; simp [RelL]
  | _ :: _, _, _, _, 0, ⟨_, r, e, h, t⟩, q => by cases e; exact ⟨_, _, rfl, q, t⟩
  | _ :: _, _, _, _, n + 1, ⟨v, r, e, h, t⟩, q => by cases e; exact ⟨_, _, rfl, h, RelL.set n t q⟩
theorem RelL.erase : ∀ {ds : List D} {vs : List V} (n : Nat), RelL K H ds vs → RelL K H (ds.eraseIdx n) (vs.eraseIdx n)
  | [], _, _, h => by cases h; simp [RelL]
  | _ :: _, _, 0, ⟨_, r, e, h, t⟩ => by cases e; exact t
  | _ :: _, _, n + 1, ⟨v, r, e, h, t⟩ => by cases e; exact ⟨_, _, rfl, h, RelL.erase n t⟩
end
/-- a field is put in its place, or behind -/
def putS (f : String) (d : D) : List (String × D) → List (String × D)
  | [] => [(f, d)]
  | (g, x) :: r => if g = f then (g, d) :: r else (g, x) :: putS f d r
def getS (f : String) : List (String × D) → Option D
  | [] => none
  | (g, x) :: r => if g = f then some x else getS f r
def RelF (K : PySem.W.Frag) (H : Hp) : List (String × D) → List (Str × V) → Prop
  | [], vs => vs = []
  | p :: ps, vs => ∃ v r, vs = (PySem.Str.ofString p.1, v) :: r ∧ RelD K H p.2 v ∧ RelF K H ps r
/-- an entry: the key, its value, the value -/
abbrev Ent := D × Value × Value
def ReV (K : PySem.W.Frag) (H : Hp) (d : D) (u : Value) : Prop := ∃ v, RelD K H d v ∧ RelV v u
def EntL (K : PySem.W.Frag) (H : Hp) : List (D × D) → List Ent → Prop
  | [], es => es = []
  | p :: ps, es => ∃ e r, es = e :: r ∧ e.1 = p.1 ∧ ReV K H p.1 e.2.1 ∧ ReV K H p.2 e.2.2 ∧ EntL K H ps r
/-- the hash of a key -/
def hsh (w : World) : D → Int
  | .int i => hashInt i
  | .str l => hashStr w ⟨l.toArray⟩
  | .tup l => reduceHash (Builtin.Tuple.tupleHashOf (hshs w l))
  | _ => 0
where hshs (w : World) : List D → List Int
  | [] => []
  | d :: ds => hsh w d :: hshs w ds
/-- a key is an int or a text (sort false), or a tuple of keys (sort true), n deep -/
def isKeyN : Nat → D → Bool
  | 0, .int _ => true
  | 0, .str _ => true
  | _ + 1, .int _ => true
  | _ + 1, .str _ => true
  | n + 1, .tup l => l.all (isKeyN n)
  | _, _ => false
abbrev isKey (d : D) : Bool := isKeyN 4 d
def isTup : D → Bool
  | .tup _ => true
  | _ => false
/-- the dict at a, entry by entry -/
def DicAt (w : World) (a : Addr) (es : List Ent) (h : Heap) : Prop :=
  ∃ o ep, h.get? a = some o ∧ o.ExactDict ∧ o.data = .dict (es.map fun e => (⟨hsh w e.1, e.2.1, e.2.2⟩ : DictEntry)).toArray ep ∧ (a == sysModules) = false
def GoodD (kvs : List (D × D)) : Prop := (kvs.map (·.1)).Nodup ∧ kvs.length ≤ sizeLine ∧ (∀ p ∈ kvs, isKey p.1 = true) ∧ ∃ b, ∀ p ∈ kvs, isTup p.1 = b
def RelO (B : Bs) (H : Hp) (a : Addr) : AO → Prop
  | .lst ds => ∃ vs, H a = some (.lst vs) ∧ RelL B.K H ds vs
  | .dic kvs => ∃ es, H a = some (.ext (DicAt B.w a es)) ∧ EntL B.K H kvs es ∧ GoodD kvs
  | .fdic o kvs => ∃ es, H a = some (.frz o (.ext (DicAt B.w a es))) ∧ EntL B.K H kvs es ∧ GoodD kvs ∧ ∃ ep, o.data = .dict (es.map fun e => (⟨hsh B.w e.1, e.2.1, e.2.2⟩ : DictEntry)).toArray ep
  | .ins C fs => ∃ dx vs, H a = some (.ins C dx vs) ∧ RelF B.K H fs vs
  | .tbl => ∃ ps : Array Value, H a = some (.tbl ps) ∧ TriplesOk ps.toList
  | .xd fs => ∃ vs, H a = some (.xd vs) ∧ RelF B.K H fs vs
def RelH (B : Bs) (A : AH) (H : Hp) : Prop := ∀ a o, A a = some o → RelO B H a o
section
variable {K : PySem.W.Frag} {B : Bs} {H H' : Hp} {A : AH}
theorem ReV.grow {d : D} {u : Value} (g : Grow H H') (h : ReV K H d u) : ReV K H' d u := let ⟨v, a, b⟩ := h; ⟨v, a.grow g, b⟩
theorem RelF.grow (g : Grow H H') : ∀ {fs : List (String × D)} {vs : List (Str × V)}, RelF K H fs vs → RelF K H' fs vs
  | [], _, h => h
  | _ :: _, _, ⟨v, r, e, h, t⟩ => ⟨v, r, e, h.grow g, RelF.grow g t⟩
theorem EntL.grow (g : Grow H H') : ∀ {kvs : List (D × D)} {es : List Ent}, EntL K H kvs es → EntL K H' kvs es
  | [], _, h => h
  | _ :: _, _, ⟨e, r, q, h1, h2, h3, t⟩ => ⟨e, r, q, h1, h2.grow g, h3.grow g, EntL.grow g t⟩
theorem RelO.grow {a : Addr} {o : AO} (g : Grow H H') (k : H' a = H a) (h : RelO B H a o) : RelO B H' a o := by
  cases o with
  | lst ds => obtain ⟨vs, e, r⟩ := h; exact ⟨vs, k.trans e, r.grow g⟩
  | dic kvs => obtain ⟨es, e, r, q⟩ := h; exact ⟨es, k.trans e, r.grow g, q⟩
  | fdic ob kvs => obtain ⟨es, e, r, q⟩ := h; exact ⟨es, k.trans e, r.grow g, q⟩
  | ins C fs => obtain ⟨dx, vs, e, r⟩ := h; exact ⟨dx, vs, k.trans e, r.grow g⟩
  | tbl => obtain ⟨ps, e, r⟩ := h; exact ⟨ps, k.trans e, r⟩
  | xd fs => obtain ⟨vs, e, r⟩ := h; exact ⟨vs, k.trans e, r.grow g⟩
theorem RelO.there {a : Addr} {o : AO} (h : RelO B H a o) : ∃ u, H a = some u := by
  cases o with
  | lst ds => obtain ⟨vs, e, r⟩ := h; exact ⟨_, e⟩
  | dic kvs => obtain ⟨es, e, r, q⟩ := h; exact ⟨_, e⟩
  | fdic ob kvs => obtain ⟨es, e, r, q⟩ := h; exact ⟨_, e⟩
  | ins C fs => obtain ⟨dx, vs, e, r⟩ := h; exact ⟨_, e⟩
  | tbl => obtain ⟨ps, e, r⟩ := h; exact ⟨_, e⟩
  | xd fs => obtain ⟨vs, e, r⟩ := h; exact ⟨_, e⟩
theorem RelH.free (h : RelH B A H) {p : Addr} (e : H p = none) : A p = none := by
  cases q : A p with
  | none => rfl
  | some o => obtain ⟨u, z⟩ := (h p o q).there; rw [e] at z; cases z
/-- a new tuple or other thing that is not told -/
theorem RelH.new (h : RelH B A H) {p : Addr} {o : HO} (e : H p = none) : RelH B A (upd H p o) := fun a u q => by
  obtain ⟨v, z⟩ := (h a u q).there
  exact (h a u q).grow (Grow.new e) (upd_ne (ne_of_none z e))
/-- a new object -/
theorem RelH.add (h : RelH B A H) {p : Addr} {o : HO} {u : AO} (e : H p = none) (r : RelO B (upd H p o) p u) : RelH B (up A p u) (upd H p o) := fun a x q => by
  by_cases c : a = p
  · subst c; rw [up_same] at q; cases q; exact r
  · rw [up_ne c] at q; exact h.new e a x q
/-- an object written -/
theorem RelH.put (h : RelH B A H) {p : Addr} {o : HO} {u : AO} (g : Grow H (upd H p o)) (r : RelO B (upd H p o) p u) : RelH B (up A p u) (upd H p o) := fun a x q => by
  by_cases c : a = p
  · subst c; rw [up_same] at q; cases q; exact r
  · rw [up_ne c] at q; exact (h a x q).grow g (upd_ne c)
end
theorem str_inj {x y : String} (h : PySem.Str.ofString x = PySem.Str.ofString y) : x = y := by
  rw [PySem.Str.ofString_eq_toList, PySem.Str.ofString_eq_toList] at h
  injection h with h
  have h := congrArg Array.toList h
  simp only [] at h
  have inj : ∀ {l m : List Char}, l.map Char.toNat = m.map Char.toNat → l = m := by
    intro l
    induction l with
    | nil => intro m e; cases m with
      | nil => rfl
      | cons _ _ => simp at e
    | cons a l ih => intro m e; cases m with
      | nil => simp at e
      | cons b m =>
        simp only [List.map_cons, List.cons.injEq] at e
        rw [ih e.2, Char.toNat_inj.mp e.1]
  exact String.toList_inj.mp (inj h)
section
variable {K : PySem.W.Frag} {H : Hp}
theorem RelF.get : ∀ {fs : List (String × D)} {vs : List (Str × V)} {f : String} {d : D}, RelF K H fs vs → getS f fs = some d → ∃ v, vs.lookup (PySem.Str.ofString f) = some v ∧ RelD K H d v
  | (g, x) :: r, _, f, d, ⟨v, t, e, h, q⟩, z => by
    cases e
    unfold getS at z
    by_cases c : g = f
    · rw [if_pos c] at z; cases z; subst c
      exact ⟨v, by simp [List.lookup_cons], h⟩
    · rw [if_neg c] at z
      have n : (PySem.Str.ofString f == PySem.Str.ofString g) = false := beq_eq_false_iff_ne.mpr fun e => c (str_inj e).symm
      obtain ⟨v', h1, h2⟩ := RelF.get q z
      exact ⟨v', by rw [List.lookup_cons, n]; exact h1, h2⟩
  | [], _, _, _, _, z => by cases z
theorem RelF.no : ∀ {fs : List (String × D)} {vs : List (Str × V)} {f : String}, RelF K H fs vs → getS f fs = none → vs.lookup (PySem.Str.ofString f) = none
  | (g, x) :: r, _, f, ⟨v, t, e, h, q⟩, z => by
    cases e
    unfold getS at z
    by_cases c : g = f
    · rw [if_pos c] at z; cases z
    · rw [if_neg c] at z
      have n : (PySem.Str.ofString f == PySem.Str.ofString g) = false := beq_eq_false_iff_ne.mpr fun e => c (str_inj e).symm
      rw [List.lookup_cons, n]; exact RelF.no q z
  | [], _, _, h, _ => by cases h; rfl
theorem RelF.put : ∀ {fs : List (String × D)} {vs : List (Str × V)} {f : String} {d : D} {v : V}, RelF K H fs vs → RelD K H d v → RelF K H (putS f d fs) (putF (PySem.Str.ofString f) v vs)
  | [], _, f, d, v, h, q => by cases h; exact ⟨v, [], rfl, q, rfl⟩
  | (g, x) :: r, _, f, d, v, ⟨v', t, e, h, q⟩, z => by
    cases e
    show RelF K H (if g = f then (g, d) :: r else (g, x) :: putS f d r) (if PySem.Str.ofString g = PySem.Str.ofString f then (PySem.Str.ofString g, v) :: t else (PySem.Str.ofString g, v') :: putF (PySem.Str.ofString f) v t)
    by_cases c : g = f
    · rw [if_pos c, if_pos (by rw [c])]; exact ⟨v, t, rfl, z, q⟩
    · rw [if_neg c, if_neg (fun e => c (str_inj e))]; exact ⟨v', _, rfl, h, RelF.put q z⟩
theorem RelF.length : ∀ {fs : List (String × D)} {vs : List (Str × V)}, RelF K H fs vs → fs.length = vs.length
  | [], _, h => by cases h; rfl
  | _ :: _, _, ⟨_, _, e, _, h⟩ => by cases e; simp [RelF.length h]
end
/-! ### slots -/
abbrev DS := List (Option D)
def RelS (K : PySem.W.Frag) (H : Hp) (dσ : DS) (σ : L2.St) : Prop := dσ.length = σ.length ∧ ∀ (i : Nat) (d : D), dσ[i]? = some (some d) → ∃ v, σ[i]? = some (some v) ∧ RelD K H d v
theorem RelS.grow {K : PySem.W.Frag} {H H' : Hp} {dσ : DS} {σ : L2.St} (g : Grow H H') (h : RelS K H dσ σ) : RelS K H' dσ σ := ⟨h.1, fun i d e => let ⟨v, a, b⟩ := h.2 i d e; ⟨v, a, b.grow g⟩⟩
theorem RelS.set {K : PySem.W.Frag} {H : Hp} {dσ : DS} {σ : L2.St} {i : Nat} {d : D} {v : V} (h : RelS K H dσ σ) (r : RelD K H d v) : RelS K H (dσ.set i (some d)) (σ.set i (some v)) := by
  refine ⟨by simp [h.1], fun j e q => ?_⟩
  by_cases c : i = j
  · subst c
    by_cases l : i < dσ.length
    · rw [List.getElem?_set_self l] at q; cases q
      exact ⟨v, List.getElem?_set_self (by rw [← h.1]; exact l), r⟩
    · rw [List.getElem?_eq_none (by simpa using l)] at q; cases q
  · rw [List.getElem?_set_ne c] at q ⊢
    exact h.2 j e q
theorem RelS.unset {K : PySem.W.Frag} {H : Hp} {dσ : DS} {σ : L2.St} {i : Nat} (h : RelS K H dσ σ) : RelS K H (dσ.set i none) (σ.set i none) := by
  refine ⟨by simp [h.1], fun j e q => ?_⟩
  by_cases c : i = j
  · subst c
    by_cases l : i < dσ.length
    · rw [List.getElem?_set_self l] at q; cases q
    · rw [List.getElem?_eq_none (by simpa using l)] at q; cases q
  · rw [List.getElem?_set_ne c] at q ⊢
    exact h.2 j e q
def dwipe (σ : DS) : List Nat → DS
  | [] => σ
  | v :: vs => (dwipe σ vs).set v none
theorem RelS.wipe {K : PySem.W.Frag} {H : Hp} {dσ : DS} {σ : L2.St} (h : RelS K H dσ σ) : ∀ vs : List Nat, RelS K H (dwipe dσ vs) (wipe σ vs)
  | [] => h
  | _ :: vs => (RelS.wipe h vs).unset

/-! ### readings over plain data, and the layer's reading of one -/
abbrev DQ := D → AH → Prop
abbrev DTE := DS → AH → DQ → Prop
abbrev DTT := DS → AH → (Bool → AH → Prop) → Prop
abbrev DTA := DS → AH → (List D → AH → Prop) → Prop
structure DE where
  nx : DS → AH → Prop
  rt : DQ
  bk : DS → AH → Prop := fun _ _ => False
  ct : DS → AH → Prop := fun _ _ => False
abbrev DTS := DE → DS → AH → Prop
abbrev _root_.L2.Cx.b (X : Cx) : Bs := ⟨X.prog, X.w, X.K⟩

/-- what is wanted of the layer's values follows -/
def Kp (B : Bs) (H : Hp) (R : DQ) (Q : VK) : Prop := ∀ d A' v H', R d A' → RelH B A' H' → RelD B.K H' d v → Grow H H' → Q v H'
theorem Kp.at {B : Bs} {H : Hp} {R : DQ} {Q : VK} {d : D} {A : AH} {v : V} (k : Kp B H R Q) (r : R d A) (h : RelH B A H) (q : RelD B.K H d v) : Q v H := k d A v H r h q Grow.refl
theorem Kp.from {B : Bs} {H H1 : Hp} {R : DQ} {Q : VK} (k : Kp B H R Q) (g : Grow H H1) : Kp B H1 R Q := fun d A v H' r h q g' => k d A v H' r h q (g.trans g')
theorem Kp.id {B : Bs} {H : Hp} {R : DQ} : Kp B H R (fun v H' => ∃ d A', R d A' ∧ RelH B A' H' ∧ RelD B.K H' d v ∧ Grow H H') := fun d A v H' r h q g => ⟨d, A, r, h, q, g⟩
def lE (B : Bs) (t : DTE) : TE := fun σ H Q => ∃ dσ A R, RelH B A H ∧ RelS B.K H dσ σ ∧ t dσ A R ∧ Kp B H R Q
def lT (B : Bs) (t : DTT) : TT := fun σ H Q => ∃ dσ A R, RelH B A H ∧ RelS B.K H dσ σ ∧ t dσ A R ∧ ∀ b A' H', R b A' → RelH B A' H' → Grow H H' → Q b H'
def lA (B : Bs) (n : Nat) (t : DTA) : TA := fun σ H Q => ∃ dσ A R, RelH B A H ∧ RelS B.K H dσ σ ∧ t dσ A R ∧ ∀ ds A' vs H', R ds A' → ds.length = n → RelH B A' H' → RelL B.K H' ds vs → Grow H H' → Q vs H'
structure Kd (B : Bs) (H : Hp) (DD : DE) (D : Ends) : Prop where
  nx : ∀ dσ A σ H', DD.nx dσ A → RelH B A H' → RelS B.K H' dσ σ → Grow H H' → D.nx σ H'
  rt : Kp B H DD.rt D.rt
  bk : ∀ dσ A σ H', DD.bk dσ A → RelH B A H' → RelS B.K H' dσ σ → Grow H H' → D.bk σ H'
  ct : ∀ dσ A σ H', DD.ct dσ A → RelH B A H' → RelS B.K H' dσ σ → Grow H H' → D.ct σ H'
theorem Kd.from {B : Bs} {H H1 : Hp} {DD : DE} {D : Ends} (k : Kd B H DD D) (g : Grow H H1) : Kd B H1 DD D :=
  ⟨fun a b c d e f h i => k.nx a b c d e f h (g.trans i), k.rt.from g, fun a b c d e f h i => k.bk a b c d e f h (g.trans i), fun a b c d e f h i => k.ct a b c d e f h (g.trans i)⟩
def lS (B : Bs) (t : DTS) : TS := fun D σ H => ∃ dσ A DD, RelH B A H ∧ RelS B.K H dσ σ ∧ t DD dσ A ∧ Kd B H DD D

abbrev QE (X : Cx) (e : Expr) (t : DTE) : Prop := PE X e (lE X.b t)
abbrev QT (X : Cx) (e : Expr) (t : DTT) : Prop := PT X e (lT X.b t)
abbrev QA (X : Cx) (es : List Expr) (t : DTA) : Prop := PA X es (lA X.b es.length t)
abbrev QS (X : Cx) (st : Stmt) (t : DTS) : Prop := PS X st (lS X.b t)
abbrev QSs (X : Cx) (st : List Stmt) (t : DTS) : Prop := PSs X st (lS X.b t)
section
variable {X : Cx}
theorem imE {e : Expr} {t t' : TE} (h : PE X e t) (w : ∀ σ H Q, t' σ H Q → t σ H Q) : PE X e t' := ⟨fun p s σ H Q I q => h.run p s σ H Q I (w σ H Q q)⟩
theorem imT {e : Expr} {t t' : TT} (h : PT X e t) (w : ∀ σ H Q, t' σ H Q → t σ H Q) : PT X e t' := ⟨fun p s σ H Q I q => h.run p s σ H Q I (w σ H Q q)⟩
theorem imW {e : Expr} {t t' : TT} (h : PW X e t) (w : ∀ σ H Q, t' σ H Q → t σ H Q) : PW X e t' := ⟨fun wh p s σ H Q I q => h.run wh p s σ H Q I (w σ H Q q)⟩
theorem imA {e : List Expr} {t t' : TA} (h : PA X e t) (w : ∀ σ H Q, t' σ H Q → t σ H Q) : PA X e t' := ⟨fun po p s σ H Q I q => h.run po p s σ H Q I (w σ H Q q)⟩
theorem imS {e : Stmt} {t t' : TS} (h : PS X e t) (w : ∀ D σ H, t' D σ H → t D σ H) : PS X e t' := ⟨fun p s σ H D I q => h.run p s σ H D I (w D σ H q)⟩
theorem imSs {e : List Stmt} {t t' : TS} (h : PSs X e t) (w : ∀ D σ H, t' D σ H → t D σ H) : PSs X e t' := ⟨fun p s σ H D I q => h.run p s σ H D I (w D σ H q)⟩
end

/-! ### names, constants -/
def dC (d : D) : DTE := fun _ A Q => Q d A
def dV (i : Nat) : DTE := fun σ A Q => match σ[i]? with
  | some (some d) => Q d A
  | _ => False
section
variable {X : Cx} {pos : Pos}
theorem qe_cst {e : Expr} {v : V} {d : D} (h : PE X e (tC v)) (r : ∀ H, RelD X.K H d v) : QE X e (dC d) := imE h fun σ H Q ⟨_, A, R, hA, _, t, k⟩ => k.at (show R d A from t) hA (r H)
theorem qe_int {i j} : QE X (.Constant (.int i) j pos) (dC (.int i)) := qe_cst pe_int fun _ => rfl
theorem qe_bl {b j} : QE X (.Constant (.bool b) j pos) (dC (.bl b)) := qe_cst pe_bl fun _ => rfl
theorem qe_non {j} : QE X (.Constant .none j pos) (dC .non) := qe_cst pe_non fun _ => rfl
theorem qe_str {x : Str} {j} (l : List Nat) (h : x = ⟨l.toArray⟩) (hc : (l.all fun c => decide (c < 1114112)) = true) : QE X (.Constant (.str x) j pos) (dC (.str l)) :=
  qe_cst pe_str fun _ => ⟨congrArg V.str h, fun c m => of_decide_eq_true (List.all_eq_true.mp hc c m)⟩
theorem qe_var (i : Nat) {x : Str} (hN : X.N[i]? = some x := by rfl) (hv : Vis X.env.scope x := by first | exact Or.inl rfl | exact Or.inr (Or.inl rfl) | exact Or.inr (Or.inr rfl)) (hd : (x == ("__debug__" : Str)) = false := by decide)
    (hcd : (x == ("__classdict__" : Str)) = false := by decide) : QE X (.Name x pos) (dV i) := imE (pe_var hN hv hd hcd) fun σ H Q ⟨dσ, A, R, hA, hS, t, k⟩ => by
  unfold dV at t
  split at t
  · rename_i d q
    obtain ⟨v, e, r⟩ := hS.2 i d q
    exact ⟨v, e, k.at t hA r⟩
  · exact t.elim
end

/-! ### operators by values -/
abbrev DR2 := D → D → AH → DQ → Prop
abbrev DR1 := D → AH → DQ → Prop
abbrev DRn := List D → AH → DQ → Prop
structure DOp (X : Cx) (g : Value → Value → Sem Value) (f : DR2) : Prop where
  ex : ∃ r : R2, OpR X g r ∧ ∀ x y A R v u H Q, RelH X.b A H → RelD X.K H x v → RelD X.K H y u → f x y A R → Kp X.b H R Q → r v u H Q
structure DUn (X : Cx) (g : Value → Sem Value) (f : DR1) : Prop where
  ex : ∃ r, UnR X g r ∧ ∀ x A R v H Q, RelH X.b A H → RelD X.K H x v → f x A R → Kp X.b H R Q → r v H Q
structure DCa (X : Cx) (g : Value) (f : DRn) : Prop where
  ex : ∃ r, CallR X g r ∧ ∀ x A R v H Q, RelH X.b A H → RelL X.K H x v → f x A R → Kp X.b H R Q → r v H Q
structure DIx (X : Cx) (f : DR2) : Prop where
  ex : ∃ r : R2, IxR X r ∧ ∀ x y A R v u H Q, RelH X.b A H → RelD X.K H x v → RelD X.K H y u → f x y A R → Kp X.b H R Q → r v u H Q
def dOp (f : DR2) (ta tb : DTE) : DTE := fun σ A Q => ta σ A fun x A1 => tb σ A1 fun y A2 => f x y A2 Q
def dUn (f : DR1) (ta : DTE) : DTE := fun σ A Q => ta σ A fun x A1 => f x A1 Q
def dNil : DTA := fun _ A Q => Q [] A
def dCons (ta : DTE) (tr : DTA) : DTA := fun σ A Q => ta σ A fun x A1 => tr σ A1 fun xs A2 => Q (x :: xs) A2
def dCall (f : DRn) (ta : DTA) : DTE := fun σ A Q => ta σ A fun xs A1 => f xs A1 Q
section
variable {X : Cx} {a b : Expr} {ta tb : DTE} {pos : Pos}
/-- two in a row -/
theorem two {B : Bs} {r : R2} {f : DR2} (hr : ∀ x y A R v u H Q, RelH B A H → RelD B.K H x v → RelD B.K H y u → f x y A R → Kp B H R Q → r v u H Q) : ∀ σ H Q, lE B (dOp f ta tb) σ H Q → tOp r (lE B ta) (lE B tb) σ H Q := by
  intro σ H Q ⟨dσ, A, R, hA, hS, t, k⟩
  refine ⟨dσ, A, _, hA, hS, t, fun x A1 v H1 t1 hA1 rx g1 => ?_⟩
  refine ⟨dσ, A1, _, hA1, hS.grow g1, t1, fun y A2 u H2 t2 hA2 ry g2 => ?_⟩
  exact hr x y A2 R v u H2 Q hA2 (rx.grow g2) ry t2 (k.from (g1.trans g2))
theorem qe_op {op : Operator} {f : DR2} (ho : DOp X (binaryOp op) f) (ha : QE X a ta) (hb : QE X b tb) : QE X (.BinOp a op b pos) (dOp f ta tb) := by
  obtain ⟨r, h, hr⟩ := ho.ex
  exact imE (pe_op h ha hb) (two hr)
theorem qe_cmp {op : CmpOp} {f : DR2} (ho : DOp X (compareOp op) f) (ha : QE X a ta) (hb : QE X b tb) (hm : behindInMarks op b = false := by first | exact nomark _ | rfl) : QE X (.Compare a [op] [b] pos) (dOp f ta tb) := by
  obtain ⟨r, h, hr⟩ := ho.ex
  exact imE (pe_cmpR h ha hb hm) (two hr)
theorem qe_un {op : UnaryOp} {f : DR1} (ho : DUn X (unaryOp op) f) (ha : QE X a ta) : QE X (.UnaryOp op a pos) (dUn f ta) := by
  obtain ⟨r, h, hr⟩ := ho.ex
  refine imE (pe_un h ha) ?_
  intro σ H Q ⟨dσ, A, R, hA, hS, t, k⟩
  exact ⟨dσ, A, _, hA, hS, t, fun x A1 v H1 t1 hA1 rx g1 => hr x A1 R v H1 Q hA1 rx t1 (k.from g1)⟩
theorem qe_ix {f : DR2} (ho : DIx X f) (ha : QE X a ta) (hb : QE X b tb) (hs : PlainIx b := by exact fun _ _ => rfl) : QE X (.Subscript a b pos) (dOp f ta tb) := by
  obtain ⟨r, h, hr⟩ := ho.ex
  exact imE (pe_ix h ha hb hs) (two hr)
theorem qa_nil : QA X [] dNil := imA pa_nil fun σ H Q ⟨dσ, A, R, hA, hS, t, k⟩ => k [] A [] H t rfl hA rfl Grow.refl
theorem qa_cons {e : Expr} {es : List Expr} {te : DTE} {t : DTA} (ha : QE X e te) (hr : QA X es t) (hs : starEach (e :: es) X.env = (false, eval e X.env) :: starEach es X.env := by rfl) : QA X (e :: es) (dCons te t) := by
  refine imA (pa_cons ha hr hs) ?_
  intro σ H Q ⟨dσ, A, R, hA, hS, t, k⟩
  refine ⟨dσ, A, _, hA, hS, t, fun x A1 v H1 t1 hA1 rx g1 => ?_⟩
  refine ⟨dσ, A1, _, hA1, hS.grow g1, t1, fun xs A2 vs H2 t2 l2 hA2 rxs g2 => ?_⟩
  exact k (x :: xs) A2 (v :: vs) H2 t2 (by simp [l2]) hA2 (RelL.cons (rx.grow g2) rxs) (g1.trans g2)
theorem alls {B : Bs} {n : Nat} {r : List V → Hp → VK → Prop} {f : DRn} {t : DTA} (hr : ∀ x A R v H Q, RelH B A H → RelL B.K H x v → f x A R → Kp B H R Q → r v H Q) : ∀ σ H Q, lE B (dCall f t) σ H Q → tCB r (lA B n t) σ H Q := by
  intro σ H Q ⟨dσ, A, R, hA, hS, t, k⟩
  exact ⟨dσ, A, _, hA, hS, t, fun xs A1 vs H1 t1 _ hA1 rx g1 => hr xs A1 R vs H1 Q hA1 rx t1 (k.from g1)⟩
theorem qe_callB {x : Str} {id : String} {f : DRn} {e : Expr} {es : List Expr} {t : DTA} {p : Pos} (hc : DCa X (.builtin id) f) (hg : Gl X x) (hm : X.mg x = none) (hv : bootBuiltins x = some (.builtin id)) (ha : QA X (e :: es) t) (hn : x ≠ "__name__" := by decide) (hdb : (x == ("__debug__" : Str)) = false := by decide)
    (hs : starEach (e :: es) X.env = (false, eval e X.env) :: starEach es X.env := by rfl) (hpl : (backTo pos (starEach es X.env)).any (·.1) = false := by rfl) : QE X (.Call (.Name x p) (e :: es) [] pos) (dCall f t) := by
  obtain ⟨r, h, hr⟩ := hc.ex
  exact imE (pe_callB h hg hm hv ha hn hdb hs hpl) (alls hr)
theorem qe_callTy {x : Str} {T : String} {f : DRn} {e : Expr} {es : List Expr} {t : DTA} {p : Pos} (hc : DCa X (.type T) f) (hg : Gl X x) (hm : X.mg x = none) (hv : bootBuiltins x = some (.type T)) (ha : QA X (e :: es) t) (hn : x ≠ "__name__" := by decide) (hdb : (x == ("__debug__" : Str)) = false := by decide)
    (hs : starEach (e :: es) X.env = (false, eval e X.env) :: starEach es X.env := by rfl) (hpl : (backTo pos (starEach es X.env)).any (·.1) = false := by rfl) : QE X (.Call (.Name x p) (e :: es) [] pos) (dCall f t) := by
  obtain ⟨r, h, hr⟩ := hc.ex
  exact imE (pe_callTy h hg hm hv ha hn hdb hs hpl) (alls hr)
end
end DL
set_option Elab.async false
set_option linter.all false
set_option maxRecDepth 100000
set_option maxHeartbeats 4000000
/-! DL2: operators by values. -/
namespace DL
open PySem PySem.Spec PyProof.Rows L2

abbrev SL : Nat := 16777216
theorem SL_eq : sizeLine = SL := sizeLine_eq

/-! ### data told as a tree -/
inductive T where
  | non | bl (b : Bool) | int (i : Int) | str (l : List Nat) | tup (l : List T) | lst (l : List T)
mutual
def T.py : T → PyData
  | .non => .none | .bl b => .bool b | .int i => .int i | .str l => .str ⟨l.toArray⟩ | .tup l => .tuple (T.pys l) | .lst l => .list (T.pys l)
def T.pys : List T → List PyData
  | [] => []
  | t :: ts => T.py t :: T.pys ts
end
mutual
def T.dep : T → Nat
  | .tup l => T.deps l + 1
  | .lst l => T.deps l + 1
  | _ => 0
def T.deps : List T → Nat
  | [] => 0
  | t :: ts => max (T.dep t) (T.deps ts)
end
mutual
/-- == -/
def T.eqv : T → T → Bool
  | .non, .non => true
  | .bl a, .bl b => a == b
  | .bl a, .int j => (if a then 1 else 0) == j
  | .int i, .bl b => i == (if b then 1 else 0)
  | .int i, .int j => i == j
  | .str x, .str y => x == y
  | .lst x, .lst y => T.eqvs x y
  | .tup x, .tup y => T.eqvs x y
  | _, _ => false
def T.eqvs : List T → List T → Bool
  | [], [] => true
  | x :: xs, y :: ys => T.eqv x y && T.eqvs xs ys
  | _, _ => false
end
mutual
theorem eqv_py : ∀ x y : T, PyData.eqv x.py y.py = T.eqv x y
  | .non, y => by cases y <;> rfl
  | .bl a, y => by cases y <;> rfl
  | .int i, y => by cases y <;> rfl
  | .str x, y => by
    cases y <;> try rfl
    rename_i l
    simp only [T.py, PyData.eqv, T.eqv]
    rw [Bool.eq_iff_iff]; simp
  | .tup x, y => by
    cases y <;> try rfl
    simp only [T.py, PyData.eqv, T.eqv]
    exact eqvs_py _ _
  | .lst x, y => by
    cases y <;> try rfl
    simp only [T.py, PyData.eqv, T.eqv]
    exact eqvs_py _ _
theorem eqvs_py : ∀ x y : List T, PyData.eqvAll (T.pys x) (T.pys y) = T.eqvs x y
  | [], [] => rfl
  | [], _ :: _ => rfl
  | _ :: _, [] => rfl
  | x :: xs, y :: ys => by
    simp only [T.pys, PyData.eqvAll, T.eqvs]
    rw [eqv_py, eqvs_py]
end
mutual
theorem T.eqv_refl : ∀ t : T, T.eqv t t = true
  | .non => rfl
  | .bl a => by simp [T.eqv]
  | .int i => by simp [T.eqv]
  | .str x => by simp [T.eqv]
  | .tup x => T.eqvs_refl x
  | .lst x => T.eqvs_refl x
theorem T.eqvs_refl : ∀ t : List T, T.eqvs t t = true
  | [] => rfl
  | t :: ts => by simp [T.eqvs, T.eqv_refl t, T.eqvs_refl ts]
end
mutual
/-- what d is at the heap A -/
def Snap (A : AH) : D → T → Prop
  | d, .non => d = .non
  | d, .bl b => d = .bl b
  | d, .int i => d = .int i
  | d, .str l => d = .str l
  | d, .tup ts => ∃ ds, d = .tup ds ∧ Snaps A ds ts
  | d, .lst ts => (∃ a ds, d = .ref a ∧ A a = some (.lst ds) ∧ Snaps A ds ts) ∨ ∃ ds, d = .cl ds ∧ Snaps A ds ts
def Snaps (A : AH) : List D → List T → Prop
  | ds, [] => ds = []
  | ds, t :: ts => ∃ d r, ds = d :: r ∧ Snap A d t ∧ Snaps A r ts
end
theorem arr_ok {l : List Nat} (h : ∀ c ∈ l, c < 1114112) : PyData.strOk ⟨l.toArray⟩ = true := by
  unfold PyData.strOk
  simp only [List.all_toArray, List.all_eq_true, decide_eq_true_eq]
  exact h
mutual
theorem snap_dp {B : Bs} {A : AH} {H : Hp} (hA : RelH B A H) : ∀ (t : T) (d : D) (v : V), Snap A d t → RelD B.K H d v → Dp B.K H v t.py ∧ t.py.canLay0 = true ∧ t.py.depth = t.dep
  | .non, _, _, h, r => by
    have h : _ = D.non := h
    subst h; have r : _ = V.non := r; subst r; exact ⟨.non, rfl, rfl⟩
  | .bl b, _, _, h, r => by
    have h : _ = D.bl b := h
    subst h; have r : _ = V.bl b := r; subst r; exact ⟨.bl b, rfl, rfl⟩
  | .int i, _, _, h, r => by
    have h : _ = D.int i := h
    subst h; have r : _ = V.int i := r; subst r; exact ⟨.int i, rfl, rfl⟩
  | .str l, _, _, h, r => by
    have h : _ = D.str l := h
    subst h; obtain ⟨r, q⟩ := (show _ = V.str ⟨l.toArray⟩ ∧ _ from r); subst r; exact ⟨.str _, arr_ok q, rfl⟩
  | .tup ts, _, _, h, r => by
    obtain ⟨ds, rfl, hs⟩ := (show ∃ ds, _ = D.tup ds ∧ Snaps A ds ts from h)
    obtain ⟨a, vs, rfl, ta, rl⟩ := (show ∃ a vs, _ = V.ref a ∧ TupAt B.K H a vs ∧ RelL B.K H ds vs from r)
    obtain ⟨h1, h2, h3⟩ := snaps_dp hA ts ds vs hs rl
    exact ⟨.tup ta.seq h1, h2, by simp only [T.py, PyData.depth, T.dep, h3]⟩
  | .lst ts, _, _, h, r => by
    rcases (show (∃ a ds, _ = D.ref a ∧ A a = some (.lst ds) ∧ Snaps A ds ts) ∨ ∃ ds, _ = D.cl ds ∧ Snaps A ds ts from h) with ⟨a, ds, rfl, e, hs⟩ | ⟨ds, rfl, hs⟩
    · have r : _ = V.ref a := r
      subst r
      obtain ⟨vs, e2, rl⟩ := (show ∃ vs, H a = some (.lst vs) ∧ RelL B.K H ds vs from hA a _ e)
      obtain ⟨h1, h2, h3⟩ := snaps_dp hA ts ds vs hs rl
      exact ⟨.lst (.of e2) h1, h2, by simp only [T.py, PyData.depth, T.dep, h3]⟩
    · obtain ⟨a, vs, rfl, ta, rl⟩ := (show ∃ a vs, _ = V.ref a ∧ CstAt B.K H a vs ∧ RelL B.K H ds vs from r)
      obtain ⟨h1, h2, h3⟩ := snaps_dp hA ts ds vs hs rl
      exact ⟨.lst ta.seq h1, h2, by simp only [T.py, PyData.depth, T.dep, h3]⟩
theorem snaps_dp {B : Bs} {A : AH} {H : Hp} (hA : RelH B A H) : ∀ (t : List T) (d : List D) (v : List V), Snaps A d t → RelL B.K H d v → DpAll B.K H v (T.pys t) ∧ PyData.canLayAll0 (T.pys t) = true ∧ PyData.depthAll (T.pys t) = T.deps t
  | [], _, _, h, r => by
    have h : _ = [] := h
    subst h; have r : _ = [] := r; subst r; exact ⟨.nil, rfl, rfl⟩
  | t :: ts, _, _, h, r => by
    obtain ⟨d, ds, rfl, h1, h2⟩ := (show ∃ d r, _ = d :: r ∧ Snap A d t ∧ Snaps A r ts from h)
    obtain ⟨v, vs, rfl, r1, r2⟩ := r
    obtain ⟨a1, a2, a3⟩ := snap_dp hA t d v h1 r1
    obtain ⟨b1, b2, b3⟩ := snaps_dp hA ts ds vs h2 r2
    refine ⟨.cons a1 b1, ?_, ?_⟩
    · simp only [T.pys, PyData.canLayAll0, a2, b2, Bool.and_self]
    · simp only [T.pys, PyData.depthAll, T.deps, a3, b3]
end
theorem snap_shaped {B : Bs} {A : AH} {H : Hp} (hA : RelH B A H) {t : T} {d : D} {v : V} (h : Snap A d t) (r : RelD B.K H d v) (hd : t.dep ≤ 64) : Dp B.K H v t.py ∧ SeqAt.shaped t.py = true := by
  obtain ⟨a, b, c⟩ := snap_dp hA t d v h r
  exact ⟨a, by unfold SeqAt.shaped; rw [b, c]; simpa using hd⟩

/-! ### arithmetic -/
def fAdd : DR2
  | .int i, .int j, A, Q => Q (.int (i + j)) A
  | .str s, .str t, A, Q => s.length + t.length ≤ SL ∧ Q (.str (s ++ t)) A
  | .ref a, .ref b, A, Q => match A a, A b with
    | some (.lst xs), some (.lst ys) => xs.length + ys.length ≤ SL ∧ ∀ p, A p = none → Q (.ref p) (up A p (.lst (xs ++ ys)))
    | _, _ => False
  | _, _, _, _ => False
def fI2 (g : Int → Int → D) : DR2
  | .int i, .int j, A, Q => Q (g i j) A
  | _, _, _, _ => False
def fI2C (C : Int → Int → Prop) (g : Int → Int → D) : DR2
  | .int i, .int j, A, Q => C i j ∧ Q (g i j) A
  | _, _, _, _ => False
/-- a product: one side small -/
def smallI (i : Int) : Prop := -18446744073709551616 < i ∧ i < 18446744073709551616
abbrev fSub : DR2 := fI2 fun i j => .int (i - j)
abbrev fMul : DR2 := fI2C (fun i j => smallI i ∨ smallI j) fun i j => .int (i * j)
abbrev fDiv : DR2 := fI2C (fun _ j => 0 < j ∧ j < 1073741824) fun i j => .int (i / j)
abbrev fMod : DR2 := fI2C (fun _ j => 0 < j) fun i j => .int (i % j)
abbrev fPow : DR2 := fI2C (fun i j => 0 ≤ j ∧ j ≤ 1000000 ∧ smallI i) fun i j => .int (i ^ j.toNat)
theorem toArray_app (s t : List Nat) : (⟨s.toArray⟩ : Str) ++ (⟨t.toArray⟩ : Str) = (⟨(s ++ t).toArray⟩ : Str) := by
  show (⟨s.toArray ++ t.toArray⟩ : Str) = _
  simp
section
variable {X : Cx}
theorem d_add : DOp X (binaryOp .Add) fAdd := by
  refine ⟨_, OpR.or op_add (OpR.or op_add_str op_cat), fun x y A R v u H Q hA rx ry h k => ?_⟩
  unfold fAdd at h
  split at h
  · cases rx; cases ry
    exact .inl ⟨_, _, rfl, rfl, k.at h hA rfl⟩
  · obtain ⟨rfl, cx⟩ := rx
    obtain ⟨rfl, cy⟩ := ry
    refine .inr (.inl ⟨_, _, rfl, rfl, ?_, ?_⟩)
    · rw [SL_eq]; exact h.1
    · rw [toArray_app]
      exact k.at h.2 hA ⟨rfl, fun c m => (List.mem_append.mp m).elim (cx c) (cy c)⟩
  · rename_i a b A Q
    cases rx; cases ry
    split at h
    · rename_i xs ys ea eb
      obtain ⟨vs, e1, r1⟩ := hA _ _ ea
      obtain ⟨us, e2, r2⟩ := hA _ _ eb
      refine .inr (.inr ⟨_, _, vs, us, rfl, rfl, e1, e2, ?_, fun p hp => ?_⟩)
      · rw [SL_eq, ← r1.length, ← r2.length]; exact h.1
      · exact k _ _ _ _ (h.2 p (hA.free hp)) (hA.add hp ⟨_, upd_same, (r1.append r2).grow (Grow.new hp)⟩) rfl (Grow.new hp)
    · exact h.elim
  · exact h.elim
theorem d_i2 {g : Value → Value → Sem Value} {f : Int → Int → Int} (h : OpR X g (rI0 fun i j => .int (f i j))) : DOp X g (fI2 fun i j => .int (f i j)) := by
  refine ⟨_, h, fun x y A R v u H Q hA rx ry h k => ?_⟩
  unfold fI2 at h
  split at h
  · cases rx; cases ry
    exact ⟨_, _, rfl, rfl, k.at h hA rfl⟩
  · exact h.elim
theorem d_i2b {g : Value → Value → Sem Value} {f : Int → Int → Bool} (h : OpR X g (rI0 fun i j => .bl (f i j))) : DOp X g (fI2 fun i j => .bl (f i j)) := by
  refine ⟨_, h, fun x y A R v u H Q hA rx ry h k => ?_⟩
  unfold fI2 at h
  split at h
  · cases rx; cases ry
    exact ⟨_, _, rfl, rfl, k.at h hA rfl⟩
  · exact h.elim
theorem d_i2c {g : Value → Value → Sem Value} {C C' : Int → Int → Prop} {f : Int → Int → Int} (h : OpR X g (rI C' fun i j => .int (f i j))) (hC : ∀ i j, C i j → C' i j) : DOp X g (fI2C C fun i j => .int (f i j)) := by
  refine ⟨_, h, fun x y A R v u H Q hA rx ry h k => ?_⟩
  unfold fI2C at h
  split at h
  · cases rx; cases ry
    exact ⟨_, _, rfl, rfl, hC _ _ h.1, k.at h.2 hA rfl⟩
  · exact h.elim
theorem p64 : (2 : Int) ^ 64 = 18446744073709551616 := by decide
theorem d_sub : DOp X (binaryOp .Sub) fSub := d_i2 op_sub
theorem d_mul : DOp X (binaryOp .Mult) fMul := d_i2c op_mul fun i j h => by unfold CMul; rw [p64]; exact h
theorem d_div : DOp X (binaryOp .FloorDiv) fDiv := d_i2c op_fdiv fun i j h => h
theorem d_mod : DOp X (binaryOp .Mod) fMod := d_i2c op_mod fun i j h => h
theorem d_pow : DOp X (binaryOp .Pow) fPow := d_i2c op_pow fun i j ⟨a, b, c, d⟩ => ⟨a, b, by
  show i.natAbs < 18446744073709551616
  omega⟩
def fNeg : DR1
  | .int i, A, Q => Q (.int (-i)) A
  | _, _, _ => False
theorem d_neg : DUn X (unaryOp .USub) fNeg := by
  refine ⟨_, un_neg, fun x A R v H Q hA rx h k => ?_⟩
  unfold fNeg at h
  split at h
  · cases rx
    exact ⟨_, rfl, k.at h hA rfl⟩
  · exact h.elim

/-! ### comparisons -/
def fEq : DR2 := fun x y A Q => ∃ t u, Snap A x t ∧ Snap A y u ∧ t.dep ≤ 64 ∧ u.dep ≤ 64 ∧ Q (.bl (T.eqv t u)) A
def fNe : DR2 := fun x y A Q => ∃ t u, Snap A x t ∧ Snap A y u ∧ t.dep ≤ 64 ∧ u.dep ≤ 64 ∧ Q (.bl (!T.eqv t u)) A
theorem d_eq (hu : X.A.units + 64 < cLine) : DOp X (compareOp .Eq) fEq := by
  refine ⟨_, op_eqD hu, fun x y A R v u H Q hA rx ry ⟨t, w, h1, h2, h3, h4, q⟩ k => ?_⟩
  obtain ⟨a1, a2⟩ := snap_shaped hA h1 rx h3
  obtain ⟨b1, b2⟩ := snap_shaped hA h2 ry h4
  exact ⟨_, _, a1, b1, a2, b2, by rw [eqv_py]; exact k.at q hA rfl⟩
theorem d_ne (hu : X.A.units + 64 < cLine) : DOp X (compareOp .NotEq) fNe := by
  refine ⟨_, op_neD hu, fun x y A R v u H Q hA rx ry ⟨t, w, h1, h2, h3, h4, q⟩ k => ?_⟩
  obtain ⟨a1, a2⟩ := snap_shaped hA h1 rx h3
  obtain ⟨b1, b2⟩ := snap_shaped hA h2 ry h4
  exact ⟨_, _, a1, b1, a2, b2, by rw [eqv_py]; exact k.at q hA rfl⟩
theorem d_lt : DOp X (compareOp .Lt) (fI2 fun i j => .bl (decide (i < j))) := d_i2b op_lt
theorem d_le : DOp X (compareOp .LtE) (fI2 fun i j => .bl (decide (i ≤ j))) := d_i2b op_le
theorem d_gt : DOp X (compareOp .Gt) (fI2 fun i j => .bl (decide (j < i))) := d_i2b op_gt
theorem d_ge : DOp X (compareOp .GtE) (fI2 fun i j => .bl (decide (j ≤ i))) := d_i2b op_ge
def D.isNon : D → Bool
  | .non => true
  | _ => false
theorem RelD.isNon {K : PySem.W.Frag} {H : Hp} : ∀ {d : D} {v : V}, RelD K H d v → decide (v = .non) = d.isNon
  | .non, _, h => by cases h; rfl
  | .bl _, _, h => by cases h; rfl
  | .int _, _, h => by cases h; rfl
  | .str _, _, h => by cases h.1; rfl
  | .ref _, _, h => by cases h; rfl
  | .tup _, _, ⟨_, _, e, _⟩ => by cases e; rfl
  | .cl _, _, ⟨_, _, e, _⟩ => by cases e; rfl
/-- is None; is of bools -/
def fIs : DR2
  | x, .non, A, Q => Q (.bl x.isNon) A
  | .bl a, .bl b, A, Q => Q (.bl (a == b)) A
  | _, _, _, _ => False
def fNot : DR2
  | x, .non, A, Q => Q (.bl (!x.isNon)) A
  | .bl a, .bl b, A, Q => Q (.bl (!(a == b))) A
  | _, _, _, _ => False
theorem d_is : DOp X (compareOp .Is) fIs := by
  refine ⟨_, OpR.or op_isN op_isBl, fun x y A R v u H Q hA rx ry h k => ?_⟩
  unfold fIs at h
  split at h
  · cases ry
    exact .inl ⟨rfl, by rw [rx.isNon]; exact k.at h hA rfl⟩
  · cases rx; cases ry
    refine .inr ⟨_, _, rfl, rfl, k.at (d := .bl _) ?_ hA rfl⟩
    rw [← Bool.beq_eq_decide_eq]; exact h
  · exact h.elim
theorem d_isnot : DOp X (compareOp .IsNot) fNot := by
  refine ⟨_, OpR.or op_notN op_notBl, fun x y A R v u H Q hA rx ry h k => ?_⟩
  unfold fNot at h
  split at h
  · cases ry
    exact .inl ⟨rfl, by rw [rx.isNon]; exact k.at h hA rfl⟩
  · cases rx; cases ry
    refine .inr ⟨_, _, rfl, rfl, k.at (d := .bl _) ?_ hA rfl⟩
    rw [← Bool.beq_eq_decide_eq]; exact h
  · exact h.elim
end
end DL
set_option Elab.async false
set_option linter.all false
set_option maxRecDepth 100000
set_option maxHeartbeats 4000000
/-! DL3: displays, tests, targets, statements, calls, loops, list comprehensions. -/
namespace DL
open PySem PySem.Spec PyProof.Rows L2

/-! ### displays -/
def dTup (t : DTA) : DTE := fun σ A Q => t σ A fun xs A1 => Q (.tup xs) A1
def dLst (t : DTA) : DTE := fun σ A Q => t σ A fun xs A1 => ∀ p, A1 p = none → Q (.ref p) (up A1 p (.lst xs))
section
variable {X : Cx} {es : List Expr} {t : DTA} {pos : Pos}
theorem le_line {n : Nat} (h : n ≤ 1000) : n ≤ sizeLine := by rw [SL_eq]; show n ≤ 16777216; omega
theorem qe_tup {k} (h : QA X es t) (hl : es.length ≤ 1000 := by simp) : QE X (.Tuple es k pos) (dTup t) := by
  refine imE (pe_tup h) ?_
  intro σ H Q ⟨dσ, A, R, hA, hS, q, k⟩
  refine ⟨dσ, A, _, hA, hS, q, fun ds A1 vs H1 q1 l1 hA1 rl g1 => ⟨?_, fun p hp => ?_⟩⟩
  · rw [← rl.length, l1]; exact le_line hl
  · exact k _ _ _ _ q1 (hA1.new hp) ⟨p, vs, rfl, .inl upd_same, rl.grow (Grow.new hp)⟩ (g1.trans (Grow.new hp))
theorem qe_lst (h : QA X es t) (hl : es.length ≤ 1000 := by simp) : QE X (.List es pos) (dLst t) := by
  refine imE (pe_lst h) ?_
  intro σ H Q ⟨dσ, A, R, hA, hS, q, k⟩
  refine ⟨dσ, A, _, hA, hS, q, fun ds A1 vs H1 q1 l1 hA1 rl g1 => ⟨?_, fun p hp => ?_⟩⟩
  · rw [← rl.length, l1]; exact le_line hl
  · exact k _ _ _ _ (q1 p (hA1.free hp)) (hA1.add hp ⟨vs, upd_same, rl.grow (Grow.new hp)⟩) rfl (g1.trans (Grow.new hp))
end

/-! ### tests -/
def truth (A : AH) : D → Option Bool
  | .non => some false
  | .bl b => some b
  | .int i => some (i != 0)
  | .str l => if l.length ≤ SL then some (!l.isEmpty) else none
  | .tup l => some (!l.isEmpty)
  | .cl l => some (!l.isEmpty)
  | .ref a => match A a with
    | some (.lst xs) => some (!xs.isEmpty)
    | _ => none
theorem RelL.isEmpty {K : PySem.W.Frag} {H : Hp} {ds : List D} {vs : List V} (r : RelL K H ds vs) : (!ds.isEmpty) = !vs.isEmpty := by
  have := r.length
  cases ds <;> cases vs <;> simp_all
theorem truth_tru {B : Bs} {A : AH} {H : Hp} (hA : RelH B A H) : ∀ {d : D} {v : V} {k : Bool}, RelD B.K H d v → truth A d = some k → TruV B.K v H k
  | .non, _, _, r, e => by cases r; cases e; rfl
  | .bl b, _, _, r, e => by cases r; cases e; rfl
  | .int i, _, _, r, e => by cases r; cases e; rfl
  | .str l, _, _, r, e => by
    obtain ⟨rfl, _⟩ := r
    have e : (if l.length ≤ SL then some (!l.isEmpty) else none) = _ := e
    by_cases h : l.length ≤ SL
    · rw [if_pos h] at e
      cases e
      refine ⟨?_, ?_⟩
      · rw [SL_eq]; show l.toArray.size ≤ _; simpa using h
      · show (!l.isEmpty) = (((l.toArray.size : Nat) : Int) != 0)
        cases l with
        | nil => simp
        | cons a l => simp; omega
    · rw [if_neg h] at e; cases e
  | .tup l, _, _, ⟨a, vs, rfl, t, r⟩, e => by cases e; exact .inr (.inl ⟨vs, t.seq, r.isEmpty⟩)
  | .cl l, _, _, ⟨a, vs, rfl, t, r⟩, e => by cases e; exact .inl ⟨vs, t.seq, r.isEmpty⟩
  | .ref a, _, _, r, e => by
    cases r
    have e : (match A a with | some (.lst xs) => some (!xs.isEmpty) | _ => none) = _ := e
    split at e
    · rename_i xs h
      cases e
      obtain ⟨vs, e1, r1⟩ := hA _ _ h
      exact .inl ⟨vs, .of e1, r1.isEmpty⟩
    · cases e
def dB (t : DTE) : DTT := fun σ A Q => t σ A fun x A1 => match x with
  | .bl c => Q c A1
  | _ => False
def dTru (t : DTE) : DTT := fun σ A Q => t σ A fun x A1 => match truth A1 x with
  | some c => Q c A1
  | none => False
def dAndT (t u : DTT) : DTT := fun σ A Q => t σ A fun c A1 => if c = true then u σ A1 Q else Q false A1
def dOrT (t u : DTT) : DTT := fun σ A Q => t σ A fun c A1 => if c = true then Q true A1 else u σ A1 Q
def dNotT (t : DTT) : DTT := fun σ A Q => t σ A fun c A1 => Q (!c) A1
def dChain (f f' : DR2) (ta tb tc : DTE) : DTE := fun σ A Q => ta σ A fun x A1 => tb σ A1 fun y A2 => f x y A2 fun z A3 => match z with
  | .bl true => tc σ A3 fun w A4 => f' y w A4 Q
  | .bl false => Q (.bl false) A3
  | _ => False
def dAnd (ta tb : DTE) : DTE := fun σ A Q => ta σ A fun x A1 => match truth A1 x with
  | some true => tb σ A1 Q
  | some false => Q x A1
  | none => False
def dOr (ta tb : DTE) : DTE := fun σ A Q => ta σ A fun x A1 => match truth A1 x with
  | some true => Q x A1
  | some false => tb σ A1 Q
  | none => False
def dNotE (ta : DTE) : DTE := fun σ A Q => ta σ A fun x A1 => match truth A1 x with
  | some c => Q (.bl (!c)) A1
  | none => False
def dIfE (t : DTT) (ta tb : DTE) : DTE := fun σ A Q => t σ A fun c A1 => if c = true then ta σ A1 Q else tb σ A1 Q
abbrev QW (X : Cx) (e : Expr) (t : DTT) : Prop := PW X e (lT X.b t)
section
variable {X : Cx} {a b c : Expr} {ta tb tc : DTE} {t u : DTT} {rest : List Expr} {pos : Pos}
theorem bl_of {K : PySem.W.Frag} {H : Hp} {d : D} {b : Bool} {v : V} (r : RelD K H d v) (e : d = .bl b) : v = .bl b := by subst e; exact r
theorem dB_t {B : Bs} {ta : DTE} : ∀ σ H Q, lT B (dB ta) σ H Q → tB (lE B ta) σ H Q := by
  intro σ H Q ⟨dσ, A, R, hA, hS, q, k⟩
  refine ⟨dσ, A, _, hA, hS, q, fun x A1 v H1 q1 hA1 rx g1 => ?_⟩
  cases x with
  | bl c => exact ⟨c, rx, k c A1 H1 q1 hA1 g1⟩
  | _ => exact False.elim q1
theorem qt_val (h : QE X a ta) (he : ∀ whole, isTrue a X.env whole = (do let v ← whole; standAt a.pos; holding [v] (truthy v)) := by intro _; rfl) : QT X a (dB ta) := imT (pt_val h he) dB_t
theorem qt_cmp {op : CmpOp} {f : DR2} (ho : DOp X (compareOp op) f) (ha : QE X a ta) (hb : QE X b tb) (hm : behindInMarks op b = false := by first | exact nomark _ | rfl) : QT X (.Compare a [op] [b] pos) (dB (dOp f ta tb)) := by
  obtain ⟨r, h, hr⟩ := ho.ex
  refine imT (pt_cmpR h ha hb hm) ?_
  intro σ H Q hq
  exact two (B := X.b) hr σ H _ (dB_t (B := X.b) (ta := dOp f ta tb) σ H Q hq)
theorem qt_truth (h : QE X a ta) (he : ∀ whole, isTrue a X.env whole = (do let v ← whole; standAt a.pos; holding [v] (truthy v)) := by intro _; rfl) : QT X a (dTru ta) := by
  refine imT (pt_truth h he) ?_
  intro σ H Q ⟨dσ, A, R, hA, hS, q, k⟩
  refine ⟨dσ, A, _, hA, hS, q, fun x A1 v H1 q1 hA1 rx g1 => ?_⟩
  revert q1
  show (match truth A1 x with | some c => R c A1 | none => False) → _
  cases e : truth A1 x with
  | some c => exact fun q1 => ⟨c, truth_tru hA1 rx e, k c A1 H1 q1 hA1 g1⟩
  | none => exact fun q1 => q1.elim
theorem chain_t {B : Bs} {r r' : R2} {f f' : DR2} (hr : ∀ x y A R v u H Q, RelH B A H → RelD B.K H x v → RelD B.K H y u → f x y A R → Kp B H R Q → r v u H Q)
    (hr' : ∀ x y A R v u H Q, RelH B A H → RelD B.K H x v → RelD B.K H y u → f' x y A R → Kp B H R Q → r' v u H Q) : ∀ σ H Q, lE B (dChain f f' ta tb tc) σ H Q → tChain r r' (lE B ta) (lE B tb) (lE B tc) σ H Q := by
  intro σ H Q ⟨dσ, A, R, hA, hS, q, k⟩
  refine ⟨dσ, A, _, hA, hS, q, fun x A1 v H1 q1 hA1 rx g1 => ?_⟩
  refine ⟨dσ, A1, _, hA1, hS.grow g1, q1, fun y A2 u H2 q2 hA2 ry g2 => ?_⟩
  refine hr x y A2 _ v u H2 _ hA2 (rx.grow g2) ry q2 ?_
  intro z A3 zv H3 q3 hA3 rz g3
  cases z with
  | bl c =>
    refine ⟨c, rz, ?_⟩
    cases c with
    | false => exact iteF (k _ _ _ _ q3 hA3 rfl ((g1.trans g2).trans g3))
    | true =>
      refine iteT ⟨dσ, A3, _, hA3, hS.grow ((g1.trans g2).trans g3), q3, fun w A4 wv H4 q4 hA4 rw4 g4 => ?_⟩
      exact hr' y w A4 R u wv H4 Q hA4 ((ry.grow g3).grow g4) rw4 q4 (k.from (((g1.trans g2).trans g3).trans g4))
  | _ => exact False.elim q3
theorem qe_chain {op op' : CmpOp} {f f' : DR2} (ho : DOp X (compareOp op) f) (ho' : DOp X (compareOp op') f') (ha : QE X a ta) (hb : QE X b tb) (hc : QE X c tc)
    (hm : lastMarks [op, op'] [b, c] = false := by with_unfolding_all rfl) : QE X (.Compare a [op, op'] [b, c] pos) (dChain f f' ta tb tc) := by
  obtain ⟨r, h, hr⟩ := ho.ex
  obtain ⟨r', h', hr'⟩ := ho'.ex
  exact imE (pe_chain h h' ha hb hc hm) (chain_t hr hr')
theorem qt_chain {op op' : CmpOp} {f f' : DR2} (ho : DOp X (compareOp op) f) (ho' : DOp X (compareOp op') f') (ha : QE X a ta) (hb : QE X b tb) (hc : QE X c tc)
    (hm : lastMarks [op, op'] [b, c] = false := by with_unfolding_all rfl) : QT X (.Compare a [op, op'] [b, c] pos) (dB (dChain f f' ta tb tc)) := by
  obtain ⟨r, h, hr⟩ := ho.ex
  obtain ⟨r', h', hr'⟩ := ho'.ex
  refine imT (pt_chain h h' ha hb hc hm) ?_
  intro σ H Q hq
  exact chain_t hr hr' σ H _ (dB_t (B := X.b) (ta := dChain f f' ta tb tc) σ H Q hq)
theorem qw_and1 (ha : QT X a t) : QW X (.BoolOp .And [a] pos) t := pw_and1 ha
theorem qw_or1 (ha : QT X a t) : QW X (.BoolOp .Or [a] pos) t := pw_or1 ha
theorem qw_and (ha : QT X a t) (hb : QW X (.BoolOp .And (b :: rest) pos) u) : QW X (.BoolOp .And (a :: b :: rest) pos) (dAndT t u) := by
  refine imW (pw_and ha hb) ?_
  intro σ H Q ⟨dσ, A, R, hA, hS, q, k⟩
  refine ⟨dσ, A, _, hA, hS, q, fun c A1 H1 q1 hA1 g1 => ?_⟩
  cases c with
  | true => exact iteT ⟨dσ, A1, R, hA1, hS.grow g1, q1, fun c A2 H2 q2 hA2 g2 => k c A2 H2 q2 hA2 (g1.trans g2)⟩
  | false => exact iteF (k false A1 H1 q1 hA1 g1)
theorem qw_or (ha : QT X a t) (hb : QW X (.BoolOp .Or (b :: rest) pos) u) : QW X (.BoolOp .Or (a :: b :: rest) pos) (dOrT t u) := by
  refine imW (pw_or ha hb) ?_
  intro σ H Q ⟨dσ, A, R, hA, hS, q, k⟩
  refine ⟨dσ, A, _, hA, hS, q, fun c A1 H1 q1 hA1 g1 => ?_⟩
  cases c with
  | false => exact iteF ⟨dσ, A1, R, hA1, hS.grow g1, q1, fun c A2 H2 q2 hA2 g2 => k c A2 H2 q2 hA2 (g1.trans g2)⟩
  | true => exact iteT (k true A1 H1 q1 hA1 g1)
theorem qt_w (h : QW X a t) : QT X a t := PW.pt h
theorem qt_not (ha : QT X a t) : QT X (.UnaryOp .Not a pos) (dNotT t) := by
  refine imT (pt_not ha) ?_
  intro σ H Q ⟨dσ, A, R, hA, hS, q, k⟩
  exact ⟨dσ, A, _, hA, hS, q, fun c A1 H1 q1 hA1 g1 => k (!c) A1 H1 q1 hA1 g1⟩
theorem qe_one {op} (h : QE X a ta) : QE X (.BoolOp op [a] pos) ta := pe_one h
theorem qe_and (ha : QE X a ta) (hb : QE X (.BoolOp .And (b :: rest) pos) tb) : QE X (.BoolOp .And (a :: b :: rest) pos) (dAnd ta tb) := by
  refine imE (pe_andT ha hb) ?_
  intro σ H Q ⟨dσ, A, R, hA, hS, q, k⟩
  refine ⟨dσ, A, _, hA, hS, q, fun x A1 v H1 q1 hA1 rx g1 => ?_⟩
  revert q1
  show (match truth A1 x with | some true => tb dσ A1 R | some false => R x A1 | none => False) → _
  cases e : truth A1 x with
  | some c =>
    cases c with
    | true => exact fun q1 => ⟨true, truth_tru hA1 rx e, iteT ⟨dσ, A1, R, hA1, hS.grow g1, q1, k.from g1⟩⟩
    | false => exact fun q1 => ⟨false, truth_tru hA1 rx e, iteF (k x A1 v H1 q1 hA1 rx g1)⟩
  | none => exact fun q1 => q1.elim
theorem qe_or (ha : QE X a ta) (hb : QE X (.BoolOp .Or (b :: rest) pos) tb) : QE X (.BoolOp .Or (a :: b :: rest) pos) (dOr ta tb) := by
  refine imE (pe_orT ha hb) ?_
  intro σ H Q ⟨dσ, A, R, hA, hS, q, k⟩
  refine ⟨dσ, A, _, hA, hS, q, fun x A1 v H1 q1 hA1 rx g1 => ?_⟩
  revert q1
  show (match truth A1 x with | some true => R x A1 | some false => tb dσ A1 R | none => False) → _
  cases e : truth A1 x with
  | some c =>
    cases c with
    | false => exact fun q1 => ⟨false, truth_tru hA1 rx e, iteF ⟨dσ, A1, R, hA1, hS.grow g1, q1, k.from g1⟩⟩
    | true => exact fun q1 => ⟨true, truth_tru hA1 rx e, iteT (k x A1 v H1 q1 hA1 rx g1)⟩
  | none => exact fun q1 => q1.elim
theorem qe_not (ha : QE X a ta) : QE X (.UnaryOp .Not a pos) (dNotE ta) := by
  refine imE (pe_notT ha) ?_
  intro σ H Q ⟨dσ, A, R, hA, hS, q, k⟩
  refine ⟨dσ, A, _, hA, hS, q, fun x A1 v H1 q1 hA1 rx g1 => ?_⟩
  revert q1
  show (match truth A1 x with | some c => R (.bl (!c)) A1 | none => False) → _
  cases e : truth A1 x with
  | some c => exact fun q1 => ⟨c, truth_tru hA1 rx e, k _ _ _ _ q1 hA1 rfl g1⟩
  | none => exact fun q1 => q1.elim
theorem qe_if (hc : QT X c t) (ha : QE X a ta) (hb : QE X b tb) : QE X (.IfExp c a b pos) (dIfE t ta tb) := by
  refine imE (pe_ifExp hc ha hb) ?_
  intro σ H Q ⟨dσ, A, R, hA, hS, q, k⟩
  refine ⟨dσ, A, _, hA, hS, q, fun c A1 H1 q1 hA1 g1 => ?_⟩
  cases c with
  | true => exact iteT ⟨dσ, A1, R, hA1, hS.grow g1, q1, k.from g1⟩
  | false => exact iteF ⟨dσ, A1, R, hA1, hS.grow g1, q1, k.from g1⟩
end

/-! ### targets -/
abbrev DTG := D → DS → AH → (DS → AH → Prop) → Prop
abbrev DTGs := List D → DS → AH → (DS → AH → Prop) → Prop
/-- the slots vs alone are changed -/
structure QG (X : Cx) (tg : Expr) (g : DTG) (vs : List Nat) (gv : TG) : Prop where
  pg : PG X tg gv
  im : ∀ d v dσ A σ H R (Q : L2.St → Hp → Prop), RelH X.b A H → RelS X.K H dσ σ → RelD X.K H d v → g d dσ A R →
    (∀ dσ' A' σ' H', R dσ' A' → RelH X.b A' H' → RelS X.K H' dσ' σ' → Grow H H' → wipe σ' vs = wipe σ vs → Q σ' H') → gv v σ H Q
structure QGs (X : Cx) (tgs : List Expr) (g : DTGs) (vs : List Nat) (gv : TGs) : Prop where
  pg : PGs X tgs gv
  im : ∀ ds us dσ A σ H R (Q : L2.St → Hp → Prop), RelH X.b A H → RelS X.K H dσ σ → RelL X.K H ds us → g ds dσ A R →
    (∀ dσ' A' σ' H', R dσ' A' → RelH X.b A' H' → RelS X.K H' dσ' σ' → Grow H H' → wipe σ' vs = wipe σ vs → Q σ' H') → gv us σ H Q
theorem wipe_get {σ : L2.St} : ∀ (vs : List Nat) (j : Nat), (wipe σ vs)[j]? = if j ∈ vs ∧ j < σ.length then some none else σ[j]?
  | [], j => by simp [wipe]
  | v :: vs, j => by
    unfold wipe
    have ih := wipe_get (σ := σ) vs j
    by_cases c : v = j
    · subst c
      by_cases l : v < σ.length
      · rw [List.getElem?_set_self (by rw [wipe_length]; exact l)]; simp [l]
      · rw [List.getElem?_eq_none (by rw [List.length_set, wipe_length]; omega)]
        simp [l]
    · rw [List.getElem?_set_ne c, ih]
      have : (j ∈ v :: vs) = (j ∈ vs) := by simp [Ne.symm c]
      simp only [this]
theorem wipe_set {σ : L2.St} {i : Nat} {x : Option V} {vs : List Nat} (h : i ∈ vs) : wipe (σ.set i x) vs = wipe σ vs := by
  apply List.ext_getElem?
  intro j
  rw [wipe_get, wipe_get, List.length_set]
  by_cases c : j ∈ vs ∧ j < σ.length
  · rw [if_pos c, if_pos c]
  · rw [if_neg c, if_neg c]
    by_cases e : i = j
    · subst e
      have l : ¬ i < σ.length := fun l => c ⟨h, l⟩
      rw [List.getElem?_eq_none (by simpa using l), List.getElem?_eq_none (by simpa using l)]
    · rw [List.getElem?_set_ne e]
def dName (i : Nat) : DTG := fun d σ A Q => Q (σ.set i (some d)) A
def dgNil : DTGs := fun ds σ A Q => ds = [] ∧ Q σ A
def dgCons (g : DTG) (gs : DTGs) : DTGs := fun ds σ A Q => match ds with
  | d :: r => g d σ A fun σ' A' => gs r σ' A' Q
  | [] => False
def dgTup (gs : DTGs) : DTG := fun d σ A Q => match d with
  | .tup l => gs l σ A Q
  | _ => False
section
variable {X : Cx} {pos : Pos} {vs : List Nat}
theorem qg_name (i : Nat) {x : Str} (hN : X.N.Nodup) (hi : X.N[i]? = some x := by rfl) (hx : Loc X.env.scope x := by first | exact Or.inl rfl | exact Or.inr rfl) (hm : i ∈ vs := by simp) (hf : X.fn x = true ∨ X.env.scope.names.lookup x = some .local := by first | exact .inl rfl | exact .inr rfl) : QG X (.Name x pos) (dName i) vs (gName i) where
  pg := pg_name hN hi hx hf
  im := fun d v dσ A σ H R Q hA hS rd q k => k _ _ _ _ q hA (hS.set rd) Grow.refl (wipe_set hm)
theorem qgs_nil : QGs X [] dgNil vs gNil where
  pg := pgs_nil
  im := fun ds us dσ A σ H R Q hA hS rd q k => by
    obtain ⟨rfl, q⟩ := q
    cases rd
    exact ⟨rfl, k _ _ _ _ q hA hS Grow.refl rfl⟩
theorem qgs_cons {e : Expr} {es : List Expr} {g : DTG} {gs : DTGs} {gv : TG} {gvs : TGs} (h1 : QG X e g vs gv) (h2 : QGs X es gs vs gvs)
    (hs : (assignEach (e :: es) X.env).map (·.2) = assign e X.env :: (assignEach es X.env).map (·.2) := by rfl) : QGs X (e :: es) (dgCons g gs) vs (gCons gv gvs) where
  pg := pgs_cons h1.pg h2.pg hs
  im := fun ds us dσ A σ H R Q hA hS rd q k => by
    cases ds with
    | nil => exact q.elim
    | cons d r =>
      obtain ⟨v, us', rfl, rv, rr⟩ := rd
      refine ⟨v, us', rfl, h1.im d v dσ A σ H _ _ hA hS rv q fun dσ' A' σ' H' q' hA' hS' g' w' => ?_⟩
      exact h2.im r us' dσ' A' σ' H' R Q hA' hS' (rr.grow g') q' fun dσ2 A2 σ2 H2 q2 hA2 hS2 g2 w2 => k _ _ _ _ q2 hA2 hS2 (g'.trans g2) (w2.trans w')
theorem qg_tup {es : List Expr} {k : Nat} {gs : DTGs} {gvs : TGs} {n : Nat} (hc : X.calm = true) (h : QGs X es gs vs gvs) (hlen : ∀ l σ A Q, gs l σ A Q → l.length = n)
    (hn : (assignEach es X.env).length = n := by rfl) (hst : (assignEach es X.env).findIdx? (·.1) = none := by rfl) : QG X (.Tuple es k pos) (dgTup gs) vs (gTup X.K n gvs) where
  pg := pg_tup hc h.pg hn hst
  im := fun d v dσ A σ H R Q hA hS rd q k => by
    cases d with
    | tup l =>
      obtain ⟨a, vs', rfl, ta, rl⟩ := rd
      exact ⟨a, vs', rfl, ta.seq, by rw [← rl.length]; exact hlen l _ _ _ q, h.im l vs' dσ A σ H R Q hA hS rl q k⟩
    | _ => exact q.elim
/-- the length of what names take -/
theorem len_nil : ∀ l σ A Q, dgNil l σ A Q → l.length = 0 := fun l σ A Q h => by rw [h.1]; rfl
theorem len_name {i n : Nat} {gs : DTGs} (h : ∀ l σ A Q, gs l σ A Q → l.length = n) : ∀ l σ A Q, dgCons (dName i) gs l σ A Q → l.length = n + 1 := fun l σ A Q q => by
  cases l with
  | nil => exact q.elim
  | cons d r => simp [h r _ _ _ q]
end

/-! ### statements -/
def dNext : DTS := fun DD σ A => DD.nx σ A
def dSeq (t u : DTS) : DTS := fun DD σ A => t { DD with nx := u DD } σ A
def dBreak : DTS := fun DD σ A => DD.bk σ A
def dCont : DTS := fun DD σ A => DD.ct σ A
def dDrop (t : DTE) : DTS := fun DD σ A => t σ A fun _ A1 => DD.nx σ A1
def dRet (t : DTE) : DTS := fun DD σ A => t σ A DD.rt
def dRetN : DTS := fun DD σ A => DD.rt .non A
def dIf (c : DTT) (t u : DTS) : DTS := fun DD σ A => c σ A fun b A1 => if b = true then t DD σ A1 else u DD σ A1
def dAsg (t : DTE) (g : DTG) : DTS := fun DD σ A => t σ A fun x A1 => g x σ A1 DD.nx
def dNever : DTS := fun _ _ _ => False
section
variable {X : Cx} {st : Stmt} {rest : List Stmt} {t u : DTS} {e : Expr} {te : DTE} {pos : Pos}
theorem qs_nil : QSs X [] dNext := imSs pss_nil fun D σ H ⟨dσ, A, DD, hA, hS, q, k⟩ => k.nx _ _ _ _ q hA hS Grow.refl
theorem qs_cons (h1 : QS X st t) (h2 : QSs X rest u) : QSs X (st :: rest) (dSeq t u) := by
  refine imSs (pss_cons h1 h2) ?_
  intro D σ H ⟨dσ, A, DD, hA, hS, q, k⟩
  refine ⟨dσ, A, _, hA, hS, q, ⟨fun dσ' A' σ' H' q' hA' hS' g' => ?_, k.rt, k.bk, k.ct⟩⟩
  exact ⟨dσ', A', DD, hA', hS', q', k.from g'⟩
theorem qs_one (h1 : QS X st t) : QSs X [st] t := pss_one h1
theorem qs_pass : QS X (.Pass pos) dNext := imS ps_pass fun D σ H ⟨dσ, A, DD, hA, hS, q, k⟩ => k.nx _ _ _ _ q hA hS Grow.refl
theorem qs_break : QS X (.Break pos) dBreak := imS ps_break fun D σ H ⟨dσ, A, DD, hA, hS, q, k⟩ => k.bk _ _ _ _ q hA hS Grow.refl
theorem qs_continue : QS X (.Continue pos) dCont := imS ps_continue fun D σ H ⟨dσ, A, DD, hA, hS, q, k⟩ => k.ct _ _ _ _ q hA hS Grow.refl
theorem qs_expr (he : QE X e te) (hs : swapsWith e none pos.line X.env = pure false := by rfl) : QS X (.Expr e pos) (dDrop te) := by
  refine imS (ps_expr he hs) ?_
  intro D σ H ⟨dσ, A, DD, hA, hS, q, k⟩
  exact ⟨dσ, A, _, hA, hS, q, fun x A1 v H1 q1 hA1 rx g1 => k.nx _ _ _ _ q1 hA1 (hS.grow g1) g1⟩
theorem qs_ret (he : QE X e te) : QS X (.Return (some e) pos) (dRet te) := by
  refine imS (ps_ret he) ?_
  intro D σ H ⟨dσ, A, DD, hA, hS, q, k⟩
  exact ⟨dσ, A, _, hA, hS, q, k.rt⟩
theorem qs_retN : QS X (.Return none pos) dRetN := imS ps_retN fun D σ H ⟨dσ, A, DD, hA, hS, q, k⟩ => k.rt.at q hA rfl
theorem qs_if {c : Expr} {a b : List Stmt} {tc : DTT} (hc : QT X c tc) (ha : QSs X a t) (hb : QSs X b u) : QS X (.If c a b pos) (dIf tc t u) := by
  refine imS (ps_if hc ha hb) ?_
  intro D σ H ⟨dσ, A, DD, hA, hS, q, k⟩
  refine ⟨dσ, A, _, hA, hS, q, fun c A1 H1 q1 hA1 g1 => ?_⟩
  cases c with
  | true => exact iteT ⟨dσ, A1, DD, hA1, hS.grow g1, q1, k.from g1⟩
  | false => exact iteF ⟨dσ, A1, DD, hA1, hS.grow g1, q1, k.from g1⟩
theorem asg_t {g : DTG} {gv : TG} {vs : List Nat} {tg : Expr} (hg : QG X tg g vs gv) : ∀ D σ H, lS X.b (dAsg te g) D σ H → tAsg (lE X.b te) gv D σ H := by
  intro D σ H ⟨dσ, A, DD, hA, hS, q, k⟩
  refine ⟨dσ, A, _, hA, hS, q, fun x A1 v H1 q1 hA1 rx g1 => ?_⟩
  exact hg.im x v dσ A1 σ H1 _ _ hA1 (hS.grow g1) rx q1 fun dσ' A' σ' H' q' hA' hS' g' _ => k.nx _ _ _ _ q' hA' hS' (g1.trans g')
theorem qs_asg {tg : Expr} {g : DTG} {gv : TG} {vs : List Nat} (he : QE X e te) (hg : QG X tg g vs gv) (hs : swapsWithSole [tg] e pos.line X.env = pure false := by rfl) (hw : swappedStores [tg] e X.env = pure none := by rfl)
    (h1 : (assignEach [tg] X.env).map (·.2) = [assign tg X.env] := by rfl) : QS X (.Assign [tg] e pos) (dAsg te g) := imS (ps_asg he hg.pg hs hw h1) (asg_t hg)
theorem qs_set (i : Nat) {x : Str} {pos' : Pos} (hN : X.N.Nodup) (he : QE X e te) (hi : X.N[i]? = some x := by rfl) (hx : Loc X.env.scope x := by first | exact Or.inl rfl | exact Or.inr rfl) (hs : swapsWith e (some (.Name x pos')) pos.line X.env = pure false := by rfl) (hf : X.fn x = true ∨ X.env.scope.names.lookup x = some .local := by first | exact .inl rfl | exact .inr rfl) :
    QS X (.Assign [.Name x pos'] e pos) (dAsg te (dName i)) := imS (ps_set hN hi hx he hs hf) (asg_t (tg := .Name x pos') (vs := [i]) (qg_name i hN hi hx (by simp) hf))
theorem qs_never : QS X st dNever := imS (ps_never) fun D σ H ⟨dσ, A, DD, hA, hS, q, k⟩ => q.elim
theorem qss_never {sts : List Stmt} : QSs X sts dNever := imSs (pss_never) fun D σ H ⟨dσ, A, DD, hA, hS, q, k⟩ => q.elim
/-- a, b = x, y -/
def dPar (i j : Nat) (t : DTA) : DTS := fun DD σ A => t σ A fun ds A1 => match ds with
  | [x, y] => DD.nx ((σ.set i (some x)).set j (some y)) A1
  | _ => False
theorem qs_par (i j : Nat) {x y : Str} {a b : Expr} {ta : DTA} {px py pt : Pos} {kt k2 pt2} (hc : X.calm = true) (hN : X.N.Nodup) (ha : QA X [a, b] ta) (hi : X.N[i]? = some x := by rfl) (hj : X.N[j]? = some y := by rfl) (hij : i ≠ j := by decide)
    (hx : X.env.scope.names.lookup x = some .local := by rfl) (hy : X.env.scope.names.lookup y = some .local := by rfl)
    (hw : swappedStores [.Tuple [.Name x px, .Name y py] kt pt] (.Tuple [a, b] k2 pt2) X.env = pure (some [x, y]) := by rfl)
    (hs : swapsWithSole [.Tuple [.Name x px, .Name y py] kt pt] (.Tuple [a, b] k2 pt2) pos.line X.env = pure false := by rfl) :
    QS X (.Assign [.Tuple [.Name x px, .Name y py] kt pt] (.Tuple [a, b] k2 pt2) pos) (dPar i j ta) := by
  refine imS (ps_par hc hN hi hj hij hx hy ha hw hs) ?_
  intro D σ H ⟨dσ, A, DD, hA, hS, q, k⟩
  refine ⟨dσ, A, _, hA, hS, q, fun ds A1 vs H1 q1 l1 hA1 rl g1 => ?_⟩
  match ds, q1, rl with
  | [x, y], q1, rl =>
    obtain ⟨v, r, rfl, rv, w, r2, rfl, rw2, e⟩ := rl
    cases e
    exact ⟨v, w, rfl, k.nx _ _ _ _ q1 hA1 (((hS.grow g1).set rv).set rw2) g1⟩
/-- name op= e -/
def dAug (i : Nat) (te : DTE) (f : DR2) : DTS := fun DD σ A => match σ[i]? with
  | some (some x) => te σ A fun y A1 => f x y A1 fun z A2 => DD.nx (σ.set i (some z)) A2
  | _ => False
theorem qs_aug (i : Nat) {x : Str} {op : Operator} {f : DR2} {pos' : Pos} (hN : X.N.Nodup) (he : QE X e te) (ho : DOp X (inplaceOp op) f) (hi : X.N[i]? = some x := by rfl) (hx : Loc X.env.scope x := by first | exact Or.inl rfl | exact Or.inr rfl) (hf : X.fn x = true ∨ X.env.scope.names.lookup x = some .local := by first | exact .inl rfl | exact .inr rfl) :
    QS X (.AugAssign (.Name x pos') op e pos) (dAug i te f) := by
  obtain ⟨r, h, hr⟩ := ho.ex
  refine imS (ps_aug hN hi hx he h hf) ?_
  intro D σ H ⟨dσ, A, DD, hA, hS, q, k⟩
  unfold dAug at q
  split at q
  · rename_i d hd
    obtain ⟨v, e1, r1⟩ := hS.2 i d hd
    refine ⟨v, e1, dσ, A, _, hA, hS, q, fun y A1 u H1 q1 hA1 ry g1 => ?_⟩
    refine hr d y A1 _ v u H1 _ hA1 (r1.grow g1) ry q1 ?_
    intro z A2 w H2 q2 hA2 rz g2
    exact k.nx _ _ _ _ q2 hA2 ((hS.grow (g1.trans g2)).set rz) (g1.trans g2)
  · exact q.elim
end
end DL
set_option Elab.async false
set_option linter.all false
set_option maxRecDepth 100000
set_option maxHeartbeats 4000000
/-! DL4: fields, calls of defs and methods, makes; for, while; list comprehensions. -/
namespace DL
open PySem PySem.Spec PyProof.Rows L2

/-! ### fields -/
def dFld (C : Addr) (f : String) (to : DTE) : DTE := fun σ A Q => to σ A fun x A1 => match x with
  | .ref a => match A1 a with
    | some (.ins C' fs) => C' = C ∧ match getS f fs with
      | some d => Q d A1
      | none => False
    | _ => False
  | _ => False
def sFld (C : Addr) (f : String) (to tv : DTE) : DTS := fun DD σ A => tv σ A fun y A1 => to σ A1 fun x A2 => match x with
  | .ref a => match A2 a with
    | some (.ins C' fs) => C' = C ∧ fs.length < 1000 ∧ DD.nx σ (up A2 a (.ins C (putS f y fs)))
    | _ => False
  | _ => False
def sFldAug (C : Addr) (f : String) (g : DR2) (to tv : DTE) : DTS := fun DD σ A => to σ A fun x A1 => match x with
  | .ref a => match A1 a with
    | some (.ins C' fs) => C' = C ∧ match getS f fs with
      | some d => tv σ A1 fun y A2 => g d y A2 fun z A3 => match A3 a with
        | some (.ins C2 fs2) => C2 = C ∧ fs2.length < 1000 ∧ DD.nx σ (up A3 a (.ins C (putS f z fs2)))
        | _ => False
      | none => False
    | _ => False
  | _ => False
section
variable {X : Cx} {o e value : Expr} {pos pos' tpos : Pos} {to tv : DTE} {C : Addr}
theorem qe_fld (f : String) (c : Cls X.K C) (n : NoAttr X.K C (PySem.Str.ofString f)) (he : QE X e to) (hb : attributeBase e (PySem.Str.ofString f) X.env (eval e X.env) = eval e X.env := by rfl) : QE X (.Attribute e (PySem.Str.ofString f) pos) (dFld C f to) := by
  refine imE (pe_fld he hb) ?_
  intro σ H Q ⟨dσ, A, R, hA, hS, q, k⟩
  refine ⟨dσ, A, _, hA, hS, q, fun x A1 v H1 q1 hA1 rx g1 => ?_⟩
  cases x with
  | ref a =>
    cases rx
    revert q1
    show (match A1 a with | some (.ins C' fs) => C' = C ∧ (match getS f fs with | some d => R d A1 | none => False) | _ => False) → _
    split
    · rename_i C' fs hq
      rintro ⟨rfl, q1⟩
      obtain ⟨dx, vs, e1, rf⟩ := hA1 _ _ hq
      revert q1
      cases e2 : getS f fs with
      | none => exact fun z => z.elim
      | some d =>
        intro q1
        obtain ⟨v, hv, rv⟩ := rf.get e2
        exact ⟨a, _, dx, vs, v, rfl, e1, c, n, hv, k d A1 v H1 q1 hA1 rv g1⟩
    · exact fun z => z.elim
  | _ => exact q1.elim
theorem grow_ins {H : Hp} {a C dx : Addr} {vs vs' : List (Str × V)} (h : H a = some (.ins C dx vs)) : Grow H (upd H a (.ins C dx vs')) := Grow.put h (fun _ z => nomatch z) (fun _ _ z => nomatch z)
theorem qs_fld (f : String) (c : Cls X.K C) (n : NoAttr X.K C (PySem.Str.ofString f)) (ha : QE X o to) (hv : QE X value tv) (hs : swapsWith value (some (.Attribute o (PySem.Str.ofString f) pos')) pos.line X.env = pure false := by rfl) :
    QS X (.Assign [.Attribute o (PySem.Str.ofString f) pos'] value pos) (sFld C f to tv) := by
  refine imS (ps_fld ha hv hs) ?_
  intro D σ H ⟨dσ, A, DD, hA, hS, q, k⟩
  refine ⟨dσ, A, _, hA, hS, q, fun y A1 v H1 q1 hA1 ry g1 => ?_⟩
  refine ⟨dσ, A1, _, hA1, hS.grow g1, q1, fun x A2 u H2 q2 hA2 rx g2 => ?_⟩
  cases x with
  | ref a =>
    cases rx
    revert q2
    show (match A2 a with | some (.ins C' fs) => C' = C ∧ fs.length < 1000 ∧ DD.nx dσ (up A2 a (.ins C (putS f y fs))) | _ => False) → _
    split
    · rename_i C' fs hq
      rintro ⟨rfl, hl, q2⟩
      obtain ⟨dx, vs, e1, rf⟩ := hA2 _ _ hq
      refine ⟨a, _, dx, vs, rfl, e1, c, n, by rw [← rf.length]; exact hl, ?_⟩
      have g3 := grow_ins (vs' := putF (PySem.Str.ofString f) v vs) e1
      exact k.nx _ _ _ _ q2 (hA2.put g3 ⟨dx, _, upd_same, (rf.grow g3).put ((ry.grow g2).grow g3)⟩) (hS.grow ((g1.trans g2).trans g3)) ((g1.trans g2).trans g3)
    · exact fun z => z.elim
  | _ => exact q2.elim
theorem qs_fldaug (f : String) {op : Operator} {g : DR2} (c : Cls X.K C) (n : NoAttr X.K C (PySem.Str.ofString f)) (ho : DOp X (inplaceOp op) g) (ha : QE X o to) (hv : QE X value tv) :
    QS X (.AugAssign (.Attribute o (PySem.Str.ofString f) tpos) op value pos) (sFldAug C f g to tv) := by
  obtain ⟨r, h, hr⟩ := ho.ex
  refine imS (ps_fldaug (rd := r) ha hv (fun pins s σ H x y u v Q I r1 r2 q => h pins s σ H x y u v Q I r1 r2 q)) ?_
  intro D σ H ⟨dσ, A, DD, hA, hS, q, k⟩
  refine ⟨dσ, A, _, hA, hS, q, fun x A1 v H1 q1 hA1 rx g1 => ?_⟩
  cases x with
  | ref a =>
    cases rx
    revert q1
    show (match A1 a with | some (.ins C' fs) => C' = C ∧ (match getS f fs with | some d => tv dσ A1 fun y A2 => g d y A2 fun z A3 => (match A3 a with | some (.ins C2 fs2) => C2 = C ∧ fs2.length < 1000 ∧ DD.nx dσ (up A3 a (.ins C (putS f z fs2))) | _ => False) | none => False) | _ => False) → _
    split
    · rename_i C' fs hq
      rintro ⟨rfl, q1⟩
      obtain ⟨dx, vs, e1, rf⟩ := hA1 _ _ hq
      revert q1
      cases e2 : getS f fs with
      | none => exact fun z => z.elim
      | some d =>
        intro q1
        obtain ⟨v, hv, rv⟩ := rf.get e2
        refine ⟨a, _, dx, vs, v, rfl, e1, c, n, hv, dσ, A1, _, hA1, hS.grow g1, q1, fun y A2 u H2 q2 hA2 ry g2 => ?_⟩
        refine hr d y A2 _ v u H2 _ hA2 (rv.grow g2) ry q2 ?_
        intro z A3 w H3 q3 hA3 rz g3
        revert q3
        show (match A3 a with | some (.ins C2 fs2) => C2 = C' ∧ fs2.length < 1000 ∧ DD.nx dσ (up A3 a (.ins C' (putS f z fs2))) | _ => False) → _
        split
        · rename_i C2 fs2 hq2
          rintro ⟨rfl, hl, q3⟩
          obtain ⟨dx2, vs2, e3, rf2⟩ := hA3 _ _ hq2
          refine ⟨dx2, vs2, e3, by rw [← rf2.length]; exact hl, ?_⟩
          have g4 := grow_ins (vs' := putF (PySem.Str.ofString f) w vs2) e3
          exact k.nx _ _ _ _ q3 (hA3.put g4 ⟨dx2, _, upd_same, (rf2.grow g4).put (rz.grow g4)⟩) (hS.grow (((g1.trans g2).trans g3).trans g4)) (((g1.trans g2).trans g3).trans g4)
        · exact fun z => z.elim
    · exact fun z => z.elim
  | _ => exact q1.elim
end

/-! ### defs: what one is worth, over plain data. DX: what is wanted of an exception (its class, its fields) -/
abbrev DX := Value → List (String × D) → AH → Prop
abbrev DSp := List D → AH → DQ → DX → Prop
/-- an exception's own dict -/
def XF (K : PySem.W.Frag) (H : Hp) (d : Option Addr) (fs : List (String × D)) : Prop := (d = none ∧ fs = []) ∨ ∃ dd vs, d = some dd ∧ H dd = some (.xd vs) ∧ RelF K H fs vs
def KpX (B : Bs) (H : Hp) (R : DX) (E : XK) : Prop := ∀ cls fs A' d H', R cls fs A' → RelH B A' H' → XF B.K H' d fs → Grow H H' → E cls d H'
def lSp (B : Bs) (n : Nat) (sp : DSp) : Sp := fun vs H Q E => ∃ ds A R RE, RelH B A H ∧ RelL B.K H ds vs ∧ ds.length = n ∧ sp ds A R RE ∧ Kp B H R Q ∧ KpX B H RE E
abbrev noX : DX := fun _ _ _ => False
/-- f(..), nothing is raised -/
def dCal (sp : DSp) (t : DTA) : DTE := fun σ A Q => t σ A fun ds A1 => sp ds A1 Q noX
/-- o.m(..) -/
def dMet (C : Addr) (m : String) (sp : DSp) (to : DTE) (t : DTA) : DTE := fun σ A Q => to σ A fun x A1 => match x with
  | .ref a => match A1 a with
    | some (.ins C' fs) => C' = C ∧ getS m fs = none ∧ t σ A1 fun ds A2 => sp (.ref a :: ds) A2 Q noX
    | _ => False
  | _ => False
/-- C(..) -/
def dMak (C : Addr) (sp : DSp) (t : DTA) : DTE := fun σ A Q => t σ A fun ds A1 => ∀ x, A1 x = none → sp (.ref x :: ds) (up A1 x (.ins C [])) (fun r A2 => r = .non ∧ Q (.ref x) A2) noX
section
variable {X : Cx} {k n : Nat} {f C : Addr} {fd : FuncData} {ps : List Str} {sp : DSp} {x : Str} {p pos apos : Pos} {e o : Expr} {es : List Expr} {to : DTE} {t : DTA}
theorem lsp_at {B : Bs} {H H0 : Hp} {A : AH} {ds : List D} {vs : List V} {R : DQ} {Q : VK} (hA : RelH B A H) (r : RelL B.K H ds vs) (hl : ds.length = n) (q : sp ds A R noX) (k : Kp B H R Q) : lSp B n sp vs H Q E0 :=
  ⟨ds, A, R, noX, hA, r, hl, q, k, fun _ _ _ _ _ z => z.elim⟩
theorem cal_t {B : Bs} {m : Nat} (hn : m = n) : ∀ σ H Q, lE B (dCal sp t) σ H Q → tCall (lSp B n sp) [] E0 (lA B m t) σ H Q := by
  intro σ H Q ⟨dσ, A, R, hA, hS, q, k⟩
  refine ⟨dσ, A, _, hA, hS, q, fun ds A1 vs H1 q1 l1 hA1 rl g1 => ?_⟩
  show lSp B n sp (vs ++ []) H1 Q E0
  rw [List.append_nil]
  exact lsp_at (H0 := H) hA1 rl (l1.trans hn) q1 (k.from g1)
theorem qe_call (F : FnOk X.prog X.w X.K X.mg X.base CX0 k f fd ps (lSp X.b n sp)) (hr : Room k X.A) (hm : X.mg x = some (.ref f)) (hk : PySem.W.keepIn X.K (.ref f) = true) (hb : Binds X.K fd ps []) (ha : QA X (e :: es) t) (hn : (e :: es).length = n := by rfl) (hg : Gl X x := by rfl)
    (hdb : (x == ("__debug__" : Str)) = false := by decide) (he : starEach (e :: es) X.env = (false, eval e X.env) :: starEach es X.env := by rfl) (hpl : (backTo pos (starEach es X.env)).any (·.1) = false := by rfl) : QE X (.Call (.Name x p) (e :: es) [] pos) (dCal sp t) :=
  imE (pe_call F hr hg hm hk hb .nil pass0 ha hdb he hpl) (cal_t hn)
theorem qe_call0 (F : FnOk X.prog X.w X.K X.mg X.base CX0 k f fd ps (lSp X.b 0 sp)) (hr : Room k X.A) (hm : X.mg x = some (.ref f)) (hk : PySem.W.keepIn X.K (.ref f) = true) (hb : Binds X.K fd ps []) (hg : Gl X x := by rfl)
    (hdb : (x == ("__debug__" : Str)) = false := by decide) : QE X (.Call (.Name x p) [] [] pos) (dCal sp dNil) := by
  refine imE (pe_call0 F hr hg hm hk hb .nil pass0 hdb) ?_
  intro σ H Q ⟨dσ, A, R, hA, hS, q, k⟩
  exact lsp_at (H0 := H) (ds := []) hA (show [] = [] from rfl) rfl q k
theorem met_t {B : Bs} {m : Nat} {mn : String} (hn : m + 1 = n) : ∀ σ H Q, lE B (dMet C mn sp to t) σ H Q → tMeth C (PySem.Str.ofString mn) (lSp B n sp) [] E0 (lE B to) (lA B m t) σ H Q := by
  intro σ H Q ⟨dσ, A, R, hA, hS, q, k⟩
  refine ⟨dσ, A, _, hA, hS, q, fun x A1 v H1 q1 hA1 rx g1 => ?_⟩
  cases x with
  | ref a =>
    cases rx
    revert q1
    show (match A1 a with | some (.ins C' fs) => C' = C ∧ getS mn fs = none ∧ t dσ A1 fun ds A2 => sp (.ref a :: ds) A2 R noX | _ => False) → _
    split
    · rename_i C' fs hq
      rintro ⟨rfl, hno, q1⟩
      obtain ⟨dx, vs, e1, rf⟩ := hA1 _ _ hq
      refine ⟨a, dx, vs, rfl, e1, rf.no hno, dσ, A1, _, hA1, hS.grow g1, q1, fun ds A2 us H2 q2 l2 hA2 rl g2 => ?_⟩
      show lSp B n sp (V.ref a :: (us ++ [])) H2 Q E0
      rw [List.append_nil]
      exact lsp_at (H0 := H) (ds := .ref a :: ds) hA2 (RelL.cons rfl rl) (by simp [l2]; exact hn) q2 (k.from (g1.trans g2))
    · exact fun z => z.elim
  | _ => exact q1.elim
theorem qe_meth (m : String) {pl : Sem Bool} (c : Cls X.K C) (hm : Meth X.K C (PySem.Str.ofString m) f) (F : FnOk X.prog X.w X.K X.mg X.base CX0 k f fd ps (lSp X.b n sp)) (hr : Room k X.A) (hb : Binds X.K fd ps []) (he : QE X o to) (ha : QA X (e :: es) t) (hn : (e :: es).length + 1 = n := by rfl)
    (hst : starEach (e :: es) X.env = (false, eval e X.env) :: starEach es X.env := by rfl) (hpl : (backTo pos (starEach es X.env)).any (·.1) = false := by rfl)
    (ht : eval (.Call (.Attribute o (PySem.Str.ofString m) apos) (e :: es) [] pos) X.env = (do
      let ov ← eval o X.env
      standAt apos.atName
      let (f, first) ← holding [ov] (getMethod ov (PySem.Str.ofString m) pl)
      callWith pos f first (backTo pos (starEach (e :: es) X.env)) (backToKw pos (keywordEach [] X.env))) := by rfl) :
    QE X (.Call (.Attribute o (PySem.Str.ofString m) apos) (e :: es) [] pos) (dMet C m sp to t) := imE (pe_meth he c hm F hr hb .nil pass0 ha hst hpl ht) (met_t hn)
theorem qe_meth0 (m : String) {pl : Sem Bool} (c : Cls X.K C) (hm : Meth X.K C (PySem.Str.ofString m) f) (F : FnOk X.prog X.w X.K X.mg X.base CX0 k f fd ps (lSp X.b 1 sp)) (hr : Room k X.A) (hb : Binds X.K fd ps []) (he : QE X o to)
    (ht : eval (.Call (.Attribute o (PySem.Str.ofString m) apos) [] [] pos) X.env = (do
      let ov ← eval o X.env
      standAt apos.atName
      let (f, first) ← holding [ov] (getMethod ov (PySem.Str.ofString m) pl)
      callWith pos f first (backTo pos (starEach [] X.env)) (backToKw pos (keywordEach [] X.env))) := by rfl) :
    QE X (.Call (.Attribute o (PySem.Str.ofString m) apos) [] [] pos) (dMet C m sp to dNil) := by
  refine imE (pe_meth0 he c hm F hr hb .nil pass0 ht) ?_
  intro σ H Q ⟨dσ, A, R, hA, hS, q, k⟩
  refine ⟨dσ, A, _, hA, hS, q, fun x A1 v H1 q1 hA1 rx g1 => ?_⟩
  cases x with
  | ref a =>
    cases rx
    revert q1
    show (match A1 a with | some (.ins C' fs) => C' = C ∧ getS m fs = none ∧ sp [.ref a] A1 R noX | _ => False) → _
    split
    · rename_i C' fs hq
      rintro ⟨rfl, hno, q1⟩
      obtain ⟨dx, vs, e1, rf⟩ := hA1 _ _ hq
      exact ⟨a, dx, vs, rfl, e1, rf.no hno, lsp_at (H0 := H) (ds := [.ref a]) hA1 (RelL.cons rfl rfl) rfl q1 (k.from g1)⟩
    · exact fun z => z.elim
  | _ => exact q1.elim
/-- the new instance at x, its dict at dx -/
theorem made_rel {B : Bs} {A : AH} {H : Hp} {x dx C : Addr} (hA : RelH B A H) (hx : H x = none) (hd : H dx = none) (hne : dx ≠ x) :
    RelH B (up A x (.ins C [])) (upd (upd H dx (.own x)) x (.ins C dx [])) ∧ Grow H (upd (upd H dx (.own x)) x (.ins C dx [])) := by
  have h1 : (upd H dx (.own x)) x = none := by rw [upd_ne (Ne.symm hne)]; exact hx
  exact ⟨(hA.new hd).add h1 ⟨dx, [], upd_same, rfl⟩, (Grow.new hd).trans (Grow.new h1)⟩
theorem mak_sp {B : Bs} {H : Hp} {A : AH} {ds : List D} {vs : List V} {R : DQ} {Q : VK} {m : Nat} (hA : RelH B A H) (rl : RelL B.K H ds vs) (hl : ds.length + 1 = n) (k : Kp B H R Q)
    (q : ∀ x, A x = none → sp (.ref x :: ds) (up A x (.ins C [])) (fun r A2 => r = .non ∧ R (.ref x) A2) noX) :
    ∀ x dx, H x = none → H dx = none → dx ≠ x → lSp B n sp (.ref x :: vs) (upd (upd H dx (.own x)) x (.ins C dx [])) (fun v H2 => v = .non ∧ Q (.ref x) H2) E0 := by
  intro x dx hx hd hne
  obtain ⟨m1, m2⟩ := made_rel (C := C) hA hx hd hne
  refine lsp_at (H0 := H) (ds := .ref x :: ds) m1 (RelL.cons rfl (rl.grow m2)) (by simpa using hl) (q x (hA.free hx)) ?_
  intro d A' v H' hq hA' rd g
  obtain ⟨rfl, hq⟩ := hq
  cases rd
  exact ⟨rfl, k _ _ _ _ hq hA' rfl (m2.trans g)⟩
theorem qe_make (M : Mk X.K C f) (F : FnOk X.prog X.w X.K X.mg X.base CX0 k f fd ps (lSp X.b n sp)) (hr : Room (k + 1) X.A) (hm : X.mg x = some (.ref C)) (hb : Binds X.K fd ps []) (ha : QA X (e :: es) t) (hn : (e :: es).length + 1 = n := by rfl) (hg : Gl X x := by rfl)
    (hdb : (x == ("__debug__" : Str)) = false := by decide) (he : starEach (e :: es) X.env = (false, eval e X.env) :: starEach es X.env := by rfl) (hpl : (backTo pos (starEach es X.env)).any (·.1) = false := by rfl) : QE X (.Call (.Name x p) (e :: es) [] pos) (dMak C sp t) := by
  refine imE (pe_make M F hr hg hm hb .nil pass0 ha hdb he hpl) ?_
  intro σ H Q ⟨dσ, A, R, hA, hS, q, k⟩
  refine ⟨dσ, A, _, hA, hS, q, fun ds A1 vs H1 q1 l1 hA1 rl g1 => ?_⟩
  have z := mak_sp (n := n) (m := 0) hA1 rl ((congrArg (· + 1) l1).trans hn) (k.from g1) q1
  intro x dx hx hd hne
  rw [List.append_nil]
  exact z x dx hx hd hne
theorem qe_make0 (M : Mk X.K C f) (F : FnOk X.prog X.w X.K X.mg X.base CX0 k f fd ps (lSp X.b 1 sp)) (hr : Room (k + 1) X.A) (hm : X.mg x = some (.ref C)) (hb : Binds X.K fd ps []) (hg : Gl X x := by rfl)
    (hdb : (x == ("__debug__" : Str)) = false := by decide) : QE X (.Call (.Name x p) [] [] pos) (dMak C sp dNil) := by
  refine imE (pe_make0 M F hr hg hm hb .nil pass0 hdb) ?_
  intro σ H Q ⟨dσ, A, R, hA, hS, q, k⟩
  exact mak_sp (m := 0) (ds := []) hA rfl rfl k q
end
/-- THE RULE for a def that raises nothing: its reading (d), and that what is told of it makes the reading true (q) -/
theorem fn_ok {P : Program} {w : World} {K : PySem.W.Frag} {mg : Str → Option Value} {base : Heap} {x qual : Str} {st : Stmt} {f : Addr} {fd : FuncData} {N ps : List Str} {k : Nat} {sp : DSp} {t : DTS} (F : Fun K x qual st f fd) (S : FnScope N ps (defScope st))
    (d : ∀ (X : Cx), (∃ cdv A outer s H E, X = (cxOf CX0 P w K mg base N qual (defScope st) f cdv A outer s H E).nox) → Room k X.A → QSs X (defBody st) t)
    (q : ∀ ds A R E, ds.length = ps.length → sp ds A R E → t { nx := fun _ A' => R .non A', rt := R } (ds.map some ++ List.replicate (N.length - ds.length) none) A) :
    FnOk P w K mg base CX0 (k + 1) f fd ps (lSp ⟨P, w, K⟩ ps.length sp) := by
  refine F.ok S (fun vs H Q E h => ?_) (fun cdv A outer s H vs Q E hr h => ?_)
  · obtain ⟨ds, A, R, RE, hA, rl, hl, _⟩ := h
    rw [← rl.length, hl]
  · obtain ⟨ds, A1, R, RE, hA, rl, hl, hs, k1, _⟩ := h
    refine ⟨_, d _ ⟨cdv, A, outer, s, H, E, rfl⟩ hr, ds.map some ++ List.replicate (N.length - ds.length) none, A1, _, hA, ?_, q ds A1 R RE hl hs, ⟨fun dσ A' σ H' hn hA' _ g => k1 _ _ _ _ hn hA' rfl g, k1, fun _ _ _ _ z => z.elim, fun _ _ _ _ z => z.elim⟩⟩
    have e := rl.length
    refine ⟨by unfold L2.start; simp [e], fun i d hi => ?_⟩
    by_cases c : i < ds.length
    · rw [List.getElem?_append_left (by simpa using c), List.getElem?_map] at hi
      cases e2 : ds[i]? with
      | none => rw [e2] at hi; cases hi
      | some d' =>
        rw [e2] at hi; cases hi
        obtain ⟨v, hv, rv⟩ := rl.get e2
        refine ⟨v, ?_, rv⟩
        unfold L2.start
        rw [List.getElem?_append_left (by simpa [← e] using c), List.getElem?_map, hv]; rfl
    · rw [List.getElem?_append_right (by simpa using c)] at hi
      rw [List.getElem?_replicate] at hi
      split at hi <;> cases hi

/-! ### what is walked: the items as they stand at a heap -/
abbrev DSrc := AH → List D → Prop
abbrev DI := DS → AH → (DSrc → AH → Prop) → Prop
structure Wlk (B : Bs) (H0 : Hp) (J : It) (S : DSrc) : Prop where
  stop : ∀ A H i xs, Grow H0 H → RelH B A H → S A xs → xs.length ≤ i → J.stop i H
  go : ∀ A H i xs d, Grow H0 H → RelH B A H → S A xs → xs[i]? = some d → J.go i H ∧ ∀ x H', J.yld i H x H' → RelH B A H' ∧ Grow H H' ∧ RelD B.K H' d x
def lI (B : Bs) (wi : DI) : TI := fun σ H R => ∃ dσ A P, RelH B A H ∧ RelS B.K H dσ σ ∧ wi dσ A P ∧ ∀ S A' J H', P S A' → RelH B A' H' → Grow H H' → Wlk B H' J S → R J H'
abbrev QI (X : Cx) (tg iter : Expr) (wi : DI) : Prop := PI X tg iter (lI X.b wi)
/-- for: an invariant I by the turn -/
def dFor (wi : DI) (g : DTG) (tb : DTS) : DTS := fun DD σ A => wi σ A fun S A1 => ∃ (xs : List D) (I : Nat → DS → AH → Prop), I 0 σ A1 ∧ (∀ i σ A, i ≤ xs.length → I i σ A → S A xs) ∧
  (∀ i x σ A, xs[i]? = some x → I i σ A → g x σ A fun σ2 A2 => tb { DD with nx := I (i + 1), ct := I (i + 1), bk := DD.nx } σ2 A2) ∧ ∀ σ A, I xs.length σ A → DD.nx σ A
/-- while: an invariant by what is left -/
def dWhile (c : DTT) (tb : DTS) : DTS := fun DD σ A => ∃ I : Nat → DS → AH → Prop, (∃ m, I m σ A) ∧ ∀ m σ A, I m σ A →
  c σ A fun b A1 => if b = true then tb { DD with nx := fun σ' A' => ∃ m', m' < m ∧ I m' σ' A', ct := fun σ' A' => ∃ m', m' < m ∧ I m' σ' A', bk := DD.nx } σ A1 else DD.nx σ A1
section
variable {X : Cx} {tg iter c : Expr} {body : List Stmt} {wi : DI} {g : DTG} {gv : TG} {vs : List Nat} {tb : DTS} {tc : DTT} {pos : Pos}
theorem qs_for (hp : PassesOwn (model X.prog X.w) X.A X.env X.xe) (hc : X.calm = true) (hi : QI X tg iter wi) (hg : QG X tg g vs gv) (hb : QSs X body tb)
    (hs : ∀ x, foldedSetIterable iter X.env x = pure x := by intro _; rfl) : QS X (.For tg iter body [] pos) (dFor wi g tb) := by
  refine imS (ps_for hp hc hi hg.pg hb hs) ?_
  intro D σ H ⟨dσ, A, DD, hA, hS, q, k⟩
  refine ⟨dσ, A, _, hA, hS, q, fun S A1 J H1 ⟨xs, I, i0, still, turn, fin⟩ hA1 g1 W => ?_⟩
  refine ⟨fun i m σ H2 => ∃ dσ A, RelH X.b A H2 ∧ RelS X.K H2 dσ σ ∧ Grow H1 H2 ∧ I i dσ A ∧ i ≤ xs.length ∧ m = xs.length - i, ⟨xs.length, dσ, A1, hA1, hS.grow g1, Grow.refl, i0, Nat.zero_le _, rfl⟩, ?_⟩
  rintro i m σ2 H2 ⟨dσ2, A2, hA2, hS2, g2, i2, hi2, rfl⟩
  have st := still i dσ2 A2 hi2 i2
  by_cases hlt : i < xs.length
  · have hx : xs[i]? = some xs[i] := by simp [hlt]
    obtain ⟨go, yl⟩ := W.go A2 H2 i xs _ g2 hA2 st hx
    refine .inr ⟨go, fun σ' H' => ∃ dσ A, RelH X.b A H' ∧ RelS X.K H' dσ σ' ∧ Grow H1 H' ∧ I (i + 1) dσ A, fun σ' H' ⟨d', A', h1, h2, h3, h4⟩ => ⟨xs.length - (i + 1), by omega, d', A', h1, h2, h3, h4, hlt, rfl⟩, fun x H3 y => ?_⟩
    obtain ⟨hA3, g3, rx⟩ := yl x H3 y
    refine hg.im _ x dσ2 A2 σ2 H3 _ _ hA3 (hS2.grow g3) rx (turn i _ dσ2 A2 hx i2) fun dσ4 A4 σ4 H4 q4 hA4 hS4 g4 _ => ?_
    have g14 := (g2.trans g3).trans g4
    exact ⟨dσ4, A4, _, hA4, hS4, q4, ⟨fun d' A' σ' H' n h1 h2 h3 => ⟨d', A', h1, h2, g14.trans h3, n⟩, k.rt.from (g1.trans g14), fun d' A' σ' H' n h1 h2 h3 => k.nx _ _ _ _ n h1 h2 ((g1.trans g14).trans h3), fun d' A' σ' H' n h1 h2 h3 => ⟨d', A', h1, h2, g14.trans h3, n⟩⟩⟩
  · have e : i = xs.length := by omega
    subst e
    exact .inl ⟨W.stop A2 H2 _ xs g2 hA2 st (Nat.le_refl _), k.nx _ _ _ _ (fin dσ2 A2 i2) hA2 hS2 (g1.trans g2)⟩
theorem qs_while (hp : PassesOwn (model X.prog X.w) X.A X.env X.xe) (hc : QT X c tc) (hb : QSs X body tb) : QS X (.While c body [] pos) (dWhile tc tb) := by
  refine imS (ps_while hp hc hb) ?_
  intro D σ H ⟨dσ, A, DD, hA, hS, ⟨I, ⟨m0, i0⟩, turn⟩, k⟩
  refine ⟨fun m σ H2 => ∃ dσ A, RelH X.b A H2 ∧ RelS X.K H2 dσ σ ∧ Grow H H2 ∧ I m dσ A, ⟨m0, dσ, A, hA, hS, Grow.refl, i0⟩, ?_⟩
  rintro m σ2 H2 ⟨dσ2, A2, hA2, hS2, g2, i2⟩
  refine ⟨dσ2, A2, _, hA2, hS2, turn m dσ2 A2 i2, fun b A3 H3 q3 hA3 g3 => ?_⟩
  cases b with
  | false => exact iteF (k.nx _ _ _ _ q3 hA3 (hS2.grow g3) (g2.trans g3))
  | true =>
    refine iteT ⟨fun σ' H' => ∃ m', m' < m ∧ ∃ dσ A, RelH X.b A H' ∧ RelS X.K H' dσ σ' ∧ Grow H H' ∧ I m' dσ A, fun σ' H' h => h, dσ2, A3, _, hA3, hS2.grow g3, q3, ?_⟩
    have g23 := g2.trans g3
    exact ⟨fun d' A' σ' H' ⟨m', hm, n⟩ h1 h2 h3 => ⟨m', hm, d', A', h1, h2, g23.trans h3, n⟩, k.rt.from g23, fun d' A' σ' H' n h1 h2 h3 => k.nx _ _ _ _ n h1 h2 (g23.trans h3), fun d' A' σ' H' ⟨m', hm, n⟩ h1 h2 h3 => ⟨m', hm, d', A', h1, h2, g23.trans h3, n⟩⟩
end

/-! ### list comprehensions -/
def dYes : DTT := fun _ A Q => Q true A
/-- [e for g in wi if tt]: I by the turn, the new list at p -/
def dLc (wi : DI) (g : DTG) (tt : DTT) (te : DTE) (vs : List Nat) : DTE := fun σ A Q => wi σ A fun S A1 => ∃ xs : List D, ∀ p, A1 p = none → ∃ I : Nat → AH → Prop, I 0 (up A1 p (.lst [])) ∧ (∀ i A, i ≤ xs.length → I i A → S A xs) ∧
  (∀ i x A, xs[i]? = some x → I i A → g x (dwipe σ vs) A fun σ2 A2 => tt σ2 A2 fun b A3 => if b = true then te σ2 A3 fun y A4 => ∃ acc, A4 p = some (.lst acc) ∧ acc.length < SL ∧ I (i + 1) (up A4 p (.lst (acc ++ [y]))) else I (i + 1) A3) ∧
  ∀ A, I xs.length A → Q (.ref p) A
abbrev QTs (X : Cx) (ifs : List Expr) (t : DTT) : Prop := PTs X ifs (lT X.b t)
section
variable {X : Cx} {elt tg iter : Expr} {ifs : List Expr} {scope : Scope} {own : List (Str × Nat)} {pos spos : Pos} {wi : DI} {g : DTG} {gv : TG} {tt : DTT} {te : DTE}
theorem qts_nil : QTs X [] dYes := ⟨fun pins s σ H Q I ⟨dσ, A, R, hA, hS, q, k⟩ => pts_nil.run pins s σ H Q I (k true A H q hA Grow.refl)⟩
theorem qts_one {c : Expr} {t : DTT} (h : QT X c t) : QTs X [c] t := pts_one h
theorem lc_t {B : Bs} (him : ∀ d v dσ A σ H R (Q : L2.St → Hp → Prop), RelH B A H → RelS B.K H dσ σ → RelD B.K H d v → g d dσ A R →
    (∀ dσ' A' σ' H', R dσ' A' → RelH B A' H' → RelS B.K H' dσ' σ' → Grow H H' → wipe σ' (own.map (·.2)) = wipe σ (own.map (·.2)) → Q σ' H') → gv v σ H Q) :
    ∀ σ H Q, lE B (dLc wi g tt te (own.map (·.2))) σ H Q → tLc (lI B wi) gv (lT B tt) (lE B te) (own.map (·.2)) σ H Q := by
  intro σ H Q ⟨dσ, A, R, hA, hS, q, k⟩
  refine ⟨dσ, A, _, hA, hS, q, fun S A1 J H1 ⟨xs, hxs⟩ hA1 g1 W p hp => ?_⟩
  obtain ⟨I, i0, still, turn, fin⟩ := hxs p (hA1.free hp)
  refine ⟨fun i m H2 => ∃ A, RelH B A H2 ∧ Grow H1 H2 ∧ I i A ∧ i ≤ xs.length ∧ m = xs.length - i, ⟨xs.length, _, hA1.add (u := .lst []) hp ⟨[], upd_same, rfl⟩, Grow.new hp, i0, Nat.zero_le _, rfl⟩, ?_⟩
  rintro i m H2 ⟨A2, hA2, g2, i2, hi2, rfl⟩
  have st := still i A2 hi2 i2
  by_cases hlt : i < xs.length
  · have hx : xs[i]? = some xs[i] := by simp [hlt]
    obtain ⟨go, yl⟩ := W.go A2 H2 i xs _ g2 hA2 st hx
    refine .inr ⟨go, fun H' => ∃ A, RelH B A H' ∧ Grow H1 H' ∧ I (i + 1) A, fun H' ⟨A', h1, h3, h4⟩ => ⟨xs.length - (i + 1), by omega, A', h1, h3, h4, hlt, rfl⟩, fun x H3 y => ?_⟩
    obtain ⟨hA3, g3, rx⟩ := yl x H3 y
    have hS3 := (hS.grow ((g1.trans g2).trans g3)).wipe (own.map (·.2))
    refine him _ x _ A2 _ H3 _ _ hA3 hS3 rx (turn i _ A2 hx i2) fun dσ4 A4 σ4 H4 q4 hA4 hS4 g4 w4 => ⟨?_, ?_⟩
    · refine w4.trans ?_
      apply List.ext_getElem?
      intro j
      rw [wipe_get, wipe_get, wipe_length]
      by_cases c : j ∈ own.map (·.2) ∧ j < σ.length
      · rw [if_pos c]
        simp [c.1, c.2]
      · rw [if_neg c]
    · refine ⟨dσ4, A4, _, hA4, hS4, q4, fun b A5 H5 q5 hA5 g5 => ?_⟩
      have g15 := ((g2.trans g3).trans g4).trans g5
      cases b with
      | false => exact iteF ⟨A5, hA5, g15, q5⟩
      | true =>
        refine iteT ⟨dσ4, A5, _, hA5, hS4.grow g5, q5, fun z A6 v H6 ⟨acc, e6, l6, i6⟩ hA6 rz g6 => ?_⟩
        obtain ⟨us, e7, r7⟩ := hA6 _ _ e6
        have g7 : Grow H6 (upd H6 p (.lst (us ++ [v]))) := Grow.put e7 (fun _ z => nomatch z) (fun _ _ z => nomatch z)
        refine ⟨us, e7, by rw [SL_eq, ← r7.length]; exact l6, _, hA6.put (u := .lst (acc ++ [z])) g7 ⟨_, upd_same, (r7.append (RelL.cons rz RelL.nil)).grow g7⟩, (g15.trans g6).trans g7, i6⟩
  · have e : i = xs.length := by omega
    subst e
    exact .inl ⟨W.stop A2 H2 _ xs g2 hA2 st (Nat.le_refl _), k _ _ _ _ (fin A2 i2) hA2 rfl (g1.trans g2)⟩
/-- a block's context -/
abbrev Blk (X : Cx) (scope : Scope) (s : Shared) (H : Hp) (C : Addr) (cl : List (Str × Addr)) (fp : List Addr) : Cx := X.blk s H scope (compEnvC scope cl C X.env) fp
theorem qe_lc (own : List (Str × Nat)) (hc : X.calm = true) (hN : X.N.Nodup) (hi : QI X tg iter wi) (ok : blkC X.N X.env.scope scope own = true)
    (hg : ∀ s H C cl fp, QG (Blk X scope s H C cl fp) tg g (own.map (·.2)) gv) (ht : ∀ s H C cl fp, QTs (Blk X scope s H C cl fp) ifs tt) (he : ∀ s H C cl fp, QE (Blk X scope s H C cl fp) elt te)
    (hs : ∀ x, foldedSetIterable iter X.env x = pure x := by intro _; rfl) : QE X (.ListComp elt [⟨tg, iter, ifs, 0⟩] scope pos) (dLc wi g tt te (own.map (·.2))) := by
  refine ⟨fun pins s σ H Q I hq => ?_⟩
  exact (imE (pe_lc (own := own) hc hN hi (blkOk_by ok) (fun s H C cl fp => (hg s H C cl fp).pg) ht he hs) (lc_t (own := own) (hg s H 0 [] []).im)).run pins s σ H Q I hq
theorem qs_setLc (i : Nat) (own : List (Str × Nat)) {y : Str} {py : Pos} (hc : X.calm = true) (hN : X.N.Nodup) (hi : QI X tg iter wi) (ok : blkC X.N X.env.scope scope own = true)
    (hg : ∀ s H C cl fp, QG (Blk X scope s H C cl fp) tg g (own.map (·.2)) gv) (ht : ∀ s H C cl fp, QTs (Blk X scope s H C cl fp) ifs tt) (he : ∀ s H C cl fp, QE (Blk X scope s H C cl fp) elt te)
    (hsw : swapsWith (.ListComp elt [⟨tg, iter, ifs, 0⟩] scope pos) (some (.Name y py)) spos.line X.env = pure true)
    (hy : X.N[i]? = some y := by rfl) (hyl : X.env.scope.names.lookup y = some .local := by rfl) (hs : ∀ x, foldedSetIterable iter X.env x = pure x := by intro _; rfl) :
    QS X (.Assign [.Name y py] (.ListComp elt [⟨tg, iter, ifs, 0⟩] scope pos) spos) (dAsg (dLc wi g tt te (own.map (·.2))) (dName i)) := by
  refine ⟨fun pins s σ H D I hq => ?_⟩
  refine (imS (ps_setLc (tt := lT X.b tt) (te := lE X.b te) (own := own) hc hN hy hyl hsw hi (blkOk_by ok) (fun s H C cl fp => (hg s H C cl fp).pg) ht he hs) ?_).run pins s σ H D I hq
  intro D σ H ⟨dσ, A, DD, hA, hS, q, k⟩
  refine lc_t (B := X.b) (own := own) (hg s H 0 [] []).im σ H _ ⟨dσ, A, _, hA, hS, q, fun d A' v H' q' hA' rd g' => ?_⟩
  exact k.nx _ _ _ _ q' hA' ((hS.grow g').set rd) g'
end
end DL
set_option Elab.async false
set_option linter.all false
set_option maxRecDepth 100000
set_option maxHeartbeats 4000000
/-! DL5: sequences: items, slices, stores, built-ins, methods of lists; what loops walk. -/
namespace DL
open PySem PySem.Spec PyProof.Rows L2

/-! ### lists, tuples, texts -/
def ixS (A : AH) : D → Option (List D)
  | .tup l => some l
  | .cl l => some l
  | .str l => if l.length ≤ SL then some (l.map fun c => .str [c]) else none
  | .ref a => match A a with
    | some (.lst xs) => some xs
    | _ => none
  | _ => none
/-- xs[i] of a list, a tuple, a text -/
def fIx : DR2 := fun x y A Q => match ixS A x, y with
  | some xs, .int i => match atI xs i with
    | some d => Q d A
    | none => False
  | _, _ => False
theorem atI_rel {K : PySem.W.Frag} {H : Hp} {ds : List D} {vs : List V} {i : Int} {d : D} (r : RelL K H ds vs) (h : atI ds i = some d) : ∃ v, atI vs i = some v ∧ RelD K H d v := by
  unfold atI at h ⊢
  rw [← r.length]
  cases e : ixN ds.length i with
  | none => rw [e] at h; cases h
  | some j => rw [e] at h; exact r.get h
theorem atI_map {α β : Type} (f : α → β) (xs : List α) (i : Int) : atI (xs.map f) i = (atI xs i).map f := by
  unfold atI
  rw [List.length_map]
  cases ixN xs.length i with
  | none => rfl
  | some j => simp
section
variable {X : Cx}
theorem d_ix : DIx X fIx := by
  refine ⟨_, ix_seq, fun x y A R v u H Q hA rx ry h k => ?_⟩
  unfold fIx at h
  split at h
  · rename_i xs i hx
    cases ry
    split at h
    · rename_i d hd
      cases x with
      | tup l =>
        cases hx
        obtain ⟨a, vs, rfl, t, r⟩ := rx
        obtain ⟨v, hv, rv⟩ := atI_rel r hd
        exact .inr (.inl ⟨a, vs, i, v, rfl, rfl, t.seq, hv, k.at h hA rv⟩)
      | cl l =>
        cases hx
        obtain ⟨a, vs, rfl, t, r⟩ := rx
        obtain ⟨v, hv, rv⟩ := atI_rel r hd
        exact .inl ⟨a, vs, i, v, rfl, rfl, t.seq, hv, k.at h hA rv⟩
      | str l =>
        obtain ⟨rfl, hl⟩ := rx
        have hx : (if l.length ≤ SL then some (l.map fun c => D.str [c]) else none) = some xs := hx
        split at hx
        · rename_i hlen
          cases hx
          rw [atI_map] at hd
          obtain ⟨c, hc, rfl⟩ := Option.map_eq_some_iff.mp hd
          refine .inr (.inr ⟨_, i, c, rfl, rfl, ?_, by simpa using hc, k.at h hA ⟨rfl, ?_⟩⟩)
          · rw [SL_eq]; show l.toArray.size ≤ _; simpa using hlen
          · obtain ⟨j, _, hj, _⟩ := atI_get hc
            intro c' m
            simp at m; subst m
            exact hl _ (List.mem_of_getElem? hj)
        · cases hx
      | ref a =>
        cases rx
        have hx : (match A a with | some (.lst xs) => some xs | _ => none) = some xs := hx
        split at hx
        · rename_i ys hq
          cases hx
          obtain ⟨vs, e1, r⟩ := hA _ _ hq
          obtain ⟨v, hv, rv⟩ := atI_rel r hd
          exact .inl ⟨a, vs, i, v, rfl, rfl, .of e1, hv, k.at h hA rv⟩
        · cases hx
      | _ => cases hx
    · exact h.elim
  · exact h.elim
end

/-! ### slices -/
abbrev DTO := DS → AH → (Option Int → AH → Prop) → Prop
def lO (B : Bs) (t : DTO) : TO := fun σ H Q => ∃ dσ A R, RelH B A H ∧ RelS B.K H dσ σ ∧ t dσ A R ∧ ∀ o A' H', R o A' → RelH B A' H' → Grow H H' → Q o H'
abbrev QO (X : Cx) (e : Option Expr) (t : DTO) : Prop := PO X e (lO X.b t)
def dNoP : DTO := fun _ A Q => Q none A
def dPart (t : DTE) : DTO := fun σ A Q => t σ A fun x A1 => match x with
  | .int i => Q (some i) A1
  | _ => False
/-- the items of xs[lo:hi] -/
def cutD {α : Type} (xs : List α) (lo hi : Option Int) : List α := (xs.drop (HT.sIx xs.length 0 lo)).take (HT.sIx xs.length xs.length hi - HT.sIx xs.length 0 lo)
def fSl : D → Option Int → Option Int → AH → DQ → Prop
  | .str l, lo, hi, A, Q => l.length ≤ SL ∧ Q (.str (cutD l lo hi)) A
  | .ref a, lo, hi, A, Q => match A a with
    | some (.lst xs) => ∀ p, A p = none → Q (.ref p) (up A p (.lst (cutD xs lo hi)))
    | _ => False
  | .tup l, lo, hi, A, Q => Q (.tup (cutD l lo hi)) A
  | _, _, _, _, _ => False
def dSl (te : DTE) (tl th : DTO) : DTE := fun σ A Q => te σ A fun x A1 => tl σ A1 fun lo A2 => th σ A2 fun hi A3 => fSl x lo hi A3 Q
section
variable {X : Cx} {e : Expr} {lo hi : Option Expr} {te : DTE} {tl th : DTO} {pos p2 : Pos}
theorem qo_none : QO X none dNoP := ⟨fun pins s σ H Q I ⟨dσ, A, R, hA, hS, q, k⟩ => po_none.run pins s σ H Q I (k none A H q hA Grow.refl)⟩
theorem qo_some {e : Expr} (h : QE X e te) : QO X (some e) (dPart te) := ⟨fun pins s σ H Q I ⟨dσ, A, R, hA, hS, q, k⟩ => (po_some h).run pins s σ H Q I ⟨dσ, A, _, hA, hS, q, fun x A1 v H1 q1 hA1 rx g1 => by
  cases x with
  | int i => exact ⟨i, rx, k _ _ _ q1 hA1 g1⟩
  | _ => exact q1.elim⟩⟩
theorem cut_rel {K : PySem.W.Frag} {H : Hp} {ds : List D} {vs : List V} (r : RelL K H ds vs) (lo hi : Option Int) : RelL K H (cutD ds lo hi) (cutV vs lo hi) := by
  unfold cutD cutV
  rw [← r.length]
  exact (r.drop _).take _
theorem qe_slice (he : QE X e te) (hl : QO X lo tl) (hu : QO X hi th) : QE X (.Subscript e (.Slice lo hi none p2) pos) (dSl te tl th) := by
  refine imE (pe_slice (SlR.or sl_list (SlR.or sl_tupA sl_str)) he hl hu) ?_
  intro σ H Q ⟨dσ, A, R, hA, hS, q, k⟩
  refine ⟨dσ, A, _, hA, hS, q, fun x A1 v H1 q1 hA1 rx g1 => ?_⟩
  refine ⟨dσ, A1, _, hA1, hS.grow g1, q1, fun lo A2 H2 q2 hA2 g2 => ?_⟩
  refine ⟨dσ, A2, _, hA2, hS.grow (g1.trans g2), q2, fun hi A3 H3 q3 hA3 g3 => ?_⟩
  have k3 := k.from ((g1.trans g2).trans g3)
  have rx := (rx.grow g2).grow g3
  cases x with
  | str l =>
    obtain ⟨rfl, hl⟩ := rx
    refine .inr (.inr ⟨_, rfl, ?_, ?_⟩)
    · rw [SL_eq]; show l.toArray.size ≤ _; simpa using q3.1
    · have e1 : cutS ⟨l.toArray⟩ lo hi = ⟨(cutD l lo hi).toArray⟩ := by
        unfold cutS cutD
        simp [Str.length]
      rw [e1]
      exact k3.at q3.2 hA3 ⟨rfl, fun c m => hl c (List.mem_of_mem_drop (List.mem_of_mem_take m))⟩
  | ref a =>
    cases rx
    revert q3
    show (match A3 a with | some (.lst xs) => ∀ p, A3 p = none → R (.ref p) (up A3 p (.lst (cutD xs lo hi))) | _ => False) → _
    split
    · rename_i xs hq
      intro q3
      obtain ⟨vs, e1, r⟩ := hA3 _ _ hq
      refine .inl ⟨a, vs, rfl, .of e1, fun p hp => ?_⟩
      exact k3 _ _ _ _ (q3 p (hA3.free hp)) (hA3.add (u := .lst _) hp ⟨_, upd_same, (cut_rel r lo hi).grow (Grow.new hp)⟩) rfl (Grow.new hp)
    · exact fun z => z.elim
  | tup l =>
    obtain ⟨a, vs, rfl, t, r⟩ := rx
    refine .inr (.inl ⟨a, vs, rfl, t.seq, fun hw => ?_, fun hw p hp => ?_⟩)
    · rw [← r.length] at hw
      have e : cutD l lo hi = l := by
        unfold cutD
        rw [hw.1, hw.2, List.drop_zero, Nat.sub_zero, List.take_length]
      have q3 : R (.tup (cutD l lo hi)) A3 := q3
      rw [e] at q3
      exact k3 _ _ _ _ q3 hA3 ⟨a, vs, rfl, t, r⟩ Grow.refl
    exact k3 _ _ _ _ q3 (hA3.new hp) ⟨p, _, rfl, .inl upd_same, (cut_rel r lo hi).grow (Grow.new hp)⟩ (Grow.new hp)
  | _ => exact q3.elim
end

/-! ### stores to items -/
abbrev DSet := D → D → D → AH → (AH → Prop) → Prop
structure DSt (X : Cx) (f : DSet) : Prop where
  ex : ∃ r : TSet, PSet X r ∧ ∀ o i d A (R : AH → Prop) ov iv v H (Q : Hp → Prop), RelH X.b A H → RelD X.K H o ov → RelD X.K H i iv → RelD X.K H d v → f o i d A R → (∀ A' H', R A' → RelH X.b A' H' → Grow H H' → Q H') → r ov iv v H Q
def fSetL : DSet
  | .ref a, .int i, d, A, Q => match A a with
    | some (.lst xs) => match ixN xs.length i with
      | some j => Q (up A a (.lst (xs.set j d)))
      | none => False
    | _ => False
  | _, _, _, _, _ => False
def dgSub (f : DSet) (to ti : DTE) : DTG := fun d σ A Q => to σ A fun o A1 => ti σ A1 fun i A2 => f o i d A2 fun A3 => Q σ A3
theorem grow_lst {H : Hp} {a : Addr} {xs ys : List V} (h : H a = some (.lst xs)) : Grow H (upd H a (.lst ys)) := Grow.put h (fun _ z => nomatch z) (fun _ _ z => nomatch z)
section
variable {X : Cx} {o i : Expr} {to ti : DTE} {pos : Pos} {vs : List Nat}
theorem d_setL : DSt X fSetL := by
  refine ⟨_, set_list, fun o i d A R ov iv v H Q hA ro ri rd h k => ?_⟩
  unfold fSetL at h
  split at h
  · cases ro; cases ri
    split at h
    · rename_i xs hq
      split at h
      · rename_i j hj
        obtain ⟨us, e1, r⟩ := hA _ _ hq
        refine ⟨_, us, _, j, rfl, rfl, e1, by rw [← r.length]; exact hj, ?_⟩
        have g := grow_lst (ys := us.set j v) e1
        exact k _ _ h (hA.put (u := .lst _) g ⟨_, upd_same, (r.set j rd).grow g⟩) g
      · exact h.elim
    · exact h.elim
  · exact h.elim
theorem exSt {f : DSet} (h : DSt X f) : ∃ r : TSet, PSet X r ∧ ∀ o i d A (R : AH → Prop) ov iv v H (Q : Hp → Prop), RelH X.b A H → RelD X.K H o ov → RelD X.K H i iv → RelD X.K H d v → f o i d A R → (∀ A' H', R A' → RelH X.b A' H' → Grow H H' → Q H') → r ov iv v H Q := h.ex
/-- o[i] = e -/
theorem qs_sub {f : DSet} {e : Expr} {te : DTE} {spos : Pos} (hf : DSt X f) (he : QE X e te) (ho : QE X o to) (hi : QE X i ti)
    (hs : swapsWithSole [.Subscript o i pos] e spos.line X.env = pure false := by rfl) (hw : swappedStores [.Subscript o i pos] e X.env = pure none := by rfl)
    (h1 : (assignEach [.Subscript o i pos] X.env).map (·.2) = [assign (.Subscript o i pos) X.env] := by rfl)
    (ha : ∀ v, assign (.Subscript o i pos) X.env v = (do
      let ov ← holding [v] (eval o X.env)
      let iv ← holding [v, ov] (eval i X.env)
      standAt pos
      holding [v, ov, iv] (setItem ov iv v)
      release [v, ov, iv] []) := by intro _; rfl) : QS X (.Assign [.Subscript o i pos] e spos) (dAsg te (dgSub f to ti)) := by
  obtain ⟨r, hr, im⟩ := hf.ex
  have pg : PG X (.Subscript o i pos) (gSub (lE X.b to) (lE X.b ti) r) := pg_sub ho hi hr ha
  refine qs_asg (vs := []) (gv := gSub (lE X.b to) (lE X.b ti) r) he ⟨pg, ?_⟩ hs hw h1
  intro d v dσ A σ H R Q hA hS rd q k
  refine ⟨dσ, A, _, hA, hS, q, fun o A1 ov H1 q1 hA1 ro g1 => ?_⟩
  refine ⟨dσ, A1, _, hA1, hS.grow g1, q1, fun i A2 iv H2 q2 hA2 ri g2 => ?_⟩
  exact im o i d A2 _ ov iv v H2 _ hA2 (ro.grow g2) ri (rd.grow (g1.trans g2)) q2 fun A3 H3 q3 hA3 g3 => k _ _ _ _ q3 hA3 (hS.grow ((g1.trans g2).trans g3)) ((g1.trans g2).trans g3) rfl
end

/-! ### built-ins -/
def fLen : DRn
  | [.str l], A, Q => l.length ≤ SL ∧ Q (.int l.length) A
  | [.tup l], A, Q => Q (.int l.length) A
  | [.cl l], A, Q => Q (.int l.length) A
  | [.ref a], A, Q => match A a with
    | some (.lst xs) => Q (.int xs.length) A
    | _ => False
  | _, _, _ => False
def fInt : DRn
  | [.int i], A, Q => Q (.int i) A
  | [.bl b], A, Q => Q (.int (if b then 1 else 0)) A
  | _, _, _ => False
def fMin : DRn
  | [.int i, .int j], A, Q => Q (.int (min i j)) A
  | _, _, _ => False
def fMax : DRn
  | [.int i, .int j], A, Q => Q (.int (max i j)) A
  | _, _, _ => False
def fAbs : DRn
  | [.int i], A, Q => Q (.int i.natAbs) A
  | _, _, _ => False
/-- list(xs) -/
def fListOf : DRn
  | [.tup l], A, Q => ∀ p, A p = none → Q (.ref p) (up A p (.lst l))
  | [.cl l], A, Q => ∀ p, A p = none → Q (.ref p) (up A p (.lst l))
  | [.ref a], A, Q => match A a with
    | some (.lst xs) => ∀ p, A p = none → Q (.ref p) (up A p (.lst xs))
    | _ => False
  | _, _, _ => False
/-- tuple(xs) of a list -/
def fTupOf : DRn
  | [.ref a], A, Q => match A a with
    | some (.lst xs) => Q (.tup xs) A
    | _ => False
  | _, _, _ => False
theorem rel1 {K : PySem.W.Frag} {H : Hp} {d : D} {vs : List V} (r : RelL K H [d] vs) : ∃ v, vs = [v] ∧ RelD K H d v := by
  obtain ⟨v, r, rfl, h, t⟩ := r
  cases t
  exact ⟨v, rfl, h⟩
theorem rel2 {K : PySem.W.Frag} {H : Hp} {d e : D} {vs : List V} (r : RelL K H [d, e] vs) : ∃ v u, vs = [v, u] ∧ RelD K H d v ∧ RelD K H e u := by
  obtain ⟨v, r, rfl, h, t⟩ := r
  obtain ⟨u, rfl, h2⟩ := rel1 t
  exact ⟨v, u, rfl, h, h2⟩
section
variable {X : Cx}
theorem c_len : DCa X (.builtin "len") fLen := by
  refine ⟨_, CallR.or call_len_seq call_len_str, fun x A R v H Q hA rx h k => ?_⟩
  unfold fLen at h
  split at h
  · obtain ⟨v, rfl, rfl, hl⟩ := rel1 rx
    refine .inr ⟨_, rfl, ?_, ?_⟩
    · rw [SL_eq]; show Array.size _ ≤ _; simpa using h.1
    · refine k.at (d := .int _) h.2 hA ?_
      show V.int _ = V.int _
      simp [Str.length]
  · obtain ⟨v, rfl, a, vs, rfl, t, r⟩ := rel1 rx
    exact .inl ⟨a, vs, rfl, .inr t.seq, by rw [← r.length]; exact k.at h hA rfl⟩
  · obtain ⟨v, rfl, a, vs, rfl, t, r⟩ := rel1 rx
    exact .inl ⟨a, vs, rfl, .inl t.seq, by rw [← r.length]; exact k.at h hA rfl⟩
  · obtain ⟨v, rfl, rfl⟩ := rel1 rx
    split at h
    · rename_i xs hq
      obtain ⟨vs, e1, r⟩ := hA _ _ hq
      exact .inl ⟨_, vs, rfl, .inl (.of e1), by rw [← r.length]; exact k.at h hA rfl⟩
    · exact h.elim
  · exact h.elim
theorem c_int : DCa X (.type "int") fInt := by
  refine ⟨_, call_int1, fun x A R v H Q hA rx h k => ?_⟩
  unfold fInt at h
  split at h
  · obtain ⟨v, rfl, rfl⟩ := rel1 rx
    exact .inl ⟨_, rfl, k.at h hA rfl⟩
  · obtain ⟨v, rfl, rfl⟩ := rel1 rx
    exact .inr ⟨_, rfl, k.at h hA rfl⟩
  · exact h.elim
theorem c_min (hc : X.calm = true) : DCa X (.builtin "min") fMin := by
  refine ⟨_, call_min2 hc, fun x A R v H Q hA rx h k => ?_⟩
  unfold fMin at h
  split at h
  · obtain ⟨v, u, rfl, rfl, rfl⟩ := rel2 rx
    refine ⟨_, _, rfl, k.at (d := .int _) h hA ?_⟩
    show V.int _ = V.int _
    congr 1
    split <;> omega
  · exact h.elim
theorem c_max (hc : X.calm = true) : DCa X (.builtin "max") fMax := by
  refine ⟨_, call_max2 hc, fun x A R v H Q hA rx h k => ?_⟩
  unfold fMax at h
  split at h
  · obtain ⟨v, u, rfl, rfl, rfl⟩ := rel2 rx
    refine ⟨_, _, rfl, k.at (d := .int _) h hA ?_⟩
    show V.int _ = V.int _
    congr 1
    split <;> omega
  · exact h.elim
theorem c_abs : DCa X (.builtin "abs") fAbs := by
  refine ⟨_, call_abs, fun x A R v H Q hA rx h k => ?_⟩
  unfold fAbs at h
  split at h
  · obtain ⟨v, rfl, rfl⟩ := rel1 rx
    refine ⟨_, rfl, k.at (d := .int _) h hA ?_⟩
    show V.int _ = V.int _
    congr 1
    split <;> omega
  · exact h.elim
theorem c_listOf : DCa X (.type "list") fListOf := by
  refine ⟨_, call_list_of, fun x A R v H Q hA rx h k => ?_⟩
  unfold fListOf at h
  split at h
  · obtain ⟨v, rfl, a, vs, rfl, t, r⟩ := rel1 rx
    exact ⟨a, vs, rfl, .inr t.seq, fun p hp => k _ _ _ _ (h p (hA.free hp)) (hA.add (u := .lst _) hp ⟨_, upd_same, r.grow (Grow.new hp)⟩) rfl (Grow.new hp)⟩
  · obtain ⟨v, rfl, a, vs, rfl, t, r⟩ := rel1 rx
    exact ⟨a, vs, rfl, .inl t.seq, fun p hp => k _ _ _ _ (h p (hA.free hp)) (hA.add (u := .lst _) hp ⟨_, upd_same, r.grow (Grow.new hp)⟩) rfl (Grow.new hp)⟩
  · obtain ⟨v, rfl, rfl⟩ := rel1 rx
    split at h
    · rename_i xs hq
      obtain ⟨vs, e1, r⟩ := hA _ _ hq
      exact ⟨_, vs, rfl, .inl (.of e1), fun p hp => k _ _ _ _ (h p (hA.free hp)) (hA.add (u := .lst _) hp ⟨_, upd_same, r.grow (Grow.new hp)⟩) rfl (Grow.new hp)⟩
    · exact h.elim
  · exact h.elim
theorem c_tupOf : DCa X (.type "tuple") fTupOf := by
  refine ⟨_, call_tuple_of, fun x A R v H Q hA rx h k => ?_⟩
  unfold fTupOf at h
  split at h
  · obtain ⟨v, rfl, rfl⟩ := rel1 rx
    split at h
    · rename_i xs hq
      obtain ⟨vs, e1, r⟩ := hA _ _ hq
      exact ⟨_, vs, rfl, .inl ⟨.of e1, fun p hp => k _ _ _ _ h (hA.new hp) ⟨p, _, rfl, .inl upd_same, r.grow (Grow.new hp)⟩ (Grow.new hp)⟩⟩
    · exact h.elim
  · exact h.elim
end

/-! ### isinstance(x, T) -/
def tyN (A : AH) : D → Option String
  | .non => some "NoneType"
  | .bl _ => some "bool"
  | .int _ => some "int"
  | .str _ => some "str"
  | .tup _ => some "tuple"
  | .cl _ => some "list"
  | .ref a => match A a with
    | some (.lst _) => some "list"
    | some (.dic _) => some "dict"
    | some (.fdic _ _) => some "dict"
    | _ => none
def isT (T n : String) : Bool := n == T || (n == "bool" && T == "int")
/-! ### methods of lists -/
structure DMe (X : Cx) (id : String) (f : D → DRn) : Prop where
  ex : ∃ r, MtR X id r ∧ ∀ o x A R ov v H Q, RelH X.b A H → RelD X.K H o ov → RelL X.K H x v → f o x A R → Kp X.b H R Q → r ov v H Q
def dBm (ty : D → AH → Prop) (f : D → DRn) (to : DTE) (t : DTA) : DTE := fun σ A Q => to σ A fun o A1 => ty o A1 ∧ t σ A1 fun xs A2 => f o xs A2 Q
def isL : D → AH → Prop
  | .ref a, A => ∃ xs, A a = some (.lst xs)
  | .cl _, _ => True
  | _, _ => False
def isS : D → AH → Prop
  | .str _, _ => True
  | _, _ => False
def fAppend : D → DRn
  | .ref a, [d], A, Q => match A a with
    | some (.lst xs) => xs.length < SL ∧ Q .non (up A a (.lst (xs ++ [d])))
    | _ => False
  | _, _, _, _ => False
def fPop : D → DRn
  | .ref a, [], A, Q => match A a with
    | some (.lst xs) => match xs[xs.length - 1]? with
      | some d => Q d (up A a (.lst xs.dropLast))
      | none => False
    | _ => False
  | _, _, _, _ => False
/-- xs.pop(i), the place in bounds -/
def fPopAt : D → DRn
  | .ref a, [.int i], A, Q => match A a with
    | some (.lst xs) => match atI xs i, ixN xs.length i with
      | some d, some j => (-9223372036854775808 ≤ i ∧ i < 9223372036854775808) ∧ Q d (up A a (.lst (xs.eraseIdx j)))
      | _, _ => False
    | _ => False
  | _, _, _, _ => False
section
variable {X : Cx}
theorem tyL {B : Bs} {A : AH} {H : Hp} {o : D} {v : V} (hA : RelH B A H) (r : RelD B.K H o v) (h : isL o A) : tyV B.K "list" v H := by
  cases o with
  | ref a =>
    cases r
    obtain ⟨xs, e⟩ := h
    obtain ⟨vs, e1, _⟩ := hA _ _ e
    exact .inl ⟨rfl, vs, .of e1⟩
  | cl l =>
    obtain ⟨a, vs, rfl, t, _⟩ := r
    exact .inl ⟨rfl, vs, t.seq⟩
  | _ => exact h.elim
theorem tyS {B : Bs} {A : AH} {H : Hp} {o : D} {v : V} (hA : RelH B A H) (r : RelD B.K H o v) (h : isS o A) : tyV B.K "str" v H := by
  cases o with
  | str l =>
    obtain ⟨rfl, _⟩ := r
    rfl
  | _ => exact h.elim
theorem bm_t {T : String} {ty : D → AH → Prop} {f : D → DRn} {B : Bs} {m : Nat} {to : DTE} {t : DTA} {r : V → List V → Hp → VK → Prop} (hT : ∀ {A H o v}, RelH B A H → RelD B.K H o v → ty o A → tyV B.K T v H)
    (im : ∀ o x A R ov v H Q, RelH B A H → RelD B.K H o ov → RelL B.K H x v → f o x A R → Kp B H R Q → r ov v H Q) : ∀ σ H Q, lE B (dBm ty f to t) σ H Q → tBM B.K T r (lE B to) (lA B m t) σ H Q := by
  intro σ H Q ⟨dσ, A, R, hA, hS, q, k⟩
  refine ⟨dσ, A, _, hA, hS, q, fun o A1 ov H1 ⟨ty1, q1⟩ hA1 ro g1 => ⟨hT hA1 ro ty1, ?_⟩⟩
  exact ⟨dσ, A1, _, hA1, hS.grow g1, q1, fun xs A2 vs H2 q2 _ hA2 rl g2 => im o xs A2 R ov vs H2 Q hA2 (ro.grow g2) rl q2 (k.from (g1.trans g2))⟩
variable {o e : Expr} {es : List Expr} {to : DTE} {t : DTA} {name : Str} {apos cpos : Pos} {T id : String} {f : D → DRn} {ty : D → AH → Prop}
theorem qe_bm (hT : ∀ {A H o v}, RelH X.b A H → RelD X.K H o v → ty o A → tyV X.K T v H) (pa : PlainAttrs T) (slot : Slot T name id) (hty : typeOf (.builtin id) = pure (.type "method_descriptor")) (hm : DMe X id f) (ho : QE X o to) (ha : QA X (e :: es) t)
    (hbase : attributeBase o name X.env (eval o X.env) = eval o X.env := by rfl)
    (hfew : ((backTo cpos (starEach (e :: es) X.env)).all (fun x => !x.1) && (backToKw cpos (keywordEach [] X.env)).all (fun x => x.1.isSome)
      && decide ((e :: es).length + ([] : List Keyword).length + (if ([] : List Keyword).isEmpty then 0 else 1) < 30)) = true := by rfl)
    (hline : (apos.endLine == cpos.line) = true := by rfl) (hs : starEach (e :: es) X.env = (false, eval e X.env) :: starEach es X.env := by rfl) (hplain : (backTo cpos (starEach es X.env)).any (·.1) = false := by rfl) :
    QE X (.Call (.Attribute o name apos) (e :: es) [] cpos) (dBm ty f to t) := by
  obtain ⟨r, hr, im⟩ := hm.ex
  exact imE (pe_bm pa slot hty hr ho ha hbase hfew hline hs hplain) (bm_t hT im)
theorem qe_bm0 (hT : ∀ {A H o v}, RelH X.b A H → RelD X.K H o v → ty o A → tyV X.K T v H) (pa : PlainAttrs T) (slot : Slot T name id) (hty : typeOf (.builtin id) = pure (.type "method_descriptor")) (hm : DMe X id f) (ho : QE X o to)
    (hbase : attributeBase o name X.env (eval o X.env) = eval o X.env := by rfl) (hline : (apos.endLine == cpos.line) = true := by rfl) : QE X (.Call (.Attribute o name apos) [] [] cpos) (dBm ty f to dNil) := by
  obtain ⟨r, hr, im⟩ := hm.ex
  refine imE (pe_bm0 pa slot hty hr ho hbase hline) ?_
  intro σ H Q ⟨dσ, A, R, hA, hS, q, k⟩
  exact ⟨dσ, A, _, hA, hS, q, fun o A1 ov H1 ⟨ty1, q1⟩ hA1 ro g1 => ⟨hT hA1 ro ty1, im o [] A1 R ov [] H1 Q hA1 ro rfl q1 (k.from g1)⟩⟩
theorem mtr_of {id : String} {r : V → List V → Hp → VK → Prop} (h : MtM X id r) : MtR X id r := h
theorem m_append : DMe X "list.append" fAppend := by
  refine ⟨_, mtr_of mt_append, fun o x A R ov v H Q hA ro rx h k => ?_⟩
  unfold fAppend at h
  split at h
  · obtain ⟨v, rfl, rv⟩ := rel1 rx
    cases ro
    split at h
    · rename_i xs hq
      obtain ⟨vs, e1, r⟩ := hA _ _ hq
      refine ⟨_, vs, v, rfl, rfl, e1, by rw [SL_eq, ← r.length]; exact h.1, ?_⟩
      have g := grow_lst (ys := vs ++ [v]) e1
      exact k _ _ _ _ h.2 (hA.put (u := .lst _) g ⟨_, upd_same, (r.append (RelL.cons rv RelL.nil)).grow g⟩) rfl g
    · exact h.elim
  · exact h.elim
theorem m_pop : DMe X "list.pop" fPop := by
  refine ⟨_, mtr_of mt_pop, fun o x A R ov v H Q hA ro rx h k => ?_⟩
  unfold fPop at h
  split at h
  · cases rx
    cases ro
    split at h
    · rename_i xs hq
      obtain ⟨vs, e1, r⟩ := hA _ _ hq
      split at h
      · rename_i d hd
        obtain ⟨v, hv, rv⟩ := r.get hd
        refine ⟨_, vs, v, rfl, rfl, e1, by rw [← r.length]; exact hv, ?_⟩
        have g := grow_lst (ys := vs.dropLast) e1
        refine k _ _ _ _ h (hA.put (u := .lst _) g ⟨_, upd_same, ?_⟩) (rv.grow g) g
        refine RelL.grow g ?_
        have e2 := r.length
        rw [List.dropLast_eq_take, List.dropLast_eq_take, ← e2]
        exact r.take _
      · exact h.elim
    · exact h.elim
  · exact h.elim
theorem m_popAt : DMe X "list.pop" fPopAt := by
  refine ⟨_, mtr_of mt_popAt, fun o x A R ov v H Q hA ro rx h k => ?_⟩
  unfold fPopAt at h
  split at h
  · obtain ⟨v, rfl, rv⟩ := rel1 rx
    cases rv
    cases ro
    split at h
    · rename_i xs hq
      obtain ⟨vs, e1, r⟩ := hA _ _ hq
      split at h
      · rename_i d j hd hj
        obtain ⟨h1, h2, h3, h4⟩ := ixN_seq hj
        have hd' : xs[j]? = some d := by
          unfold atI at hd; rw [hj] at hd; exact hd
        obtain ⟨v, hv, rv⟩ := r.get hd'
        refine ⟨_, vs, _, j, v, rfl, rfl, e1, by have := h.1.1; omega, by have := h.1.2; omega, by rw [← r.length]; exact h1, hv, ?_⟩
        have g := grow_lst (ys := vs.eraseIdx j) e1
        exact k _ _ _ _ h.2 (hA.put (u := .lst _) g ⟨_, upd_same, (r.erase j).grow g⟩) (rv.grow g) g
      · exact h.elim
    · exact h.elim
  · exact h.elim
end

/-! ### what loops walk -/
def rangeD (lo : Int) (n : Nat) : List D := (List.range n).map fun (i : Nat) => .int (lo + i)
theorem rangeD_len {lo : Int} {n : Nat} : (rangeD lo n).length = n := by unfold rangeD; simp
theorem rangeD_get {lo : Int} {n i : Nat} (h : i < n) : (rangeD lo n)[i]? = some (.int (lo + i)) := by unfold rangeD; simp [h]
def small62 (i : Int) : Prop := -4611686018427387904 ≤ i ∧ i < 4611686018427387904
def diL (t : DTE) : DI := fun σ A P => t σ A fun x A1 => match x with
  | .ref a => (∃ xs, A1 a = some (.lst xs)) ∧ P (fun A xs => A a = some (.lst xs)) A1
  | .cl l => P (fun _ xs => xs = l) A1
  | _ => False
def diT (t : DTE) : DI := fun σ A P => t σ A fun x A1 => match x with
  | .tup l => P (fun _ xs => xs = l) A1
  | _ => False
def diS (t : DTE) : DI := fun σ A P => t σ A fun x A1 => match x with
  | .str l => P (fun _ xs => xs = l.map fun c => .str [c]) A1
  | _ => False
def diR1 (t : DTA) : DI := fun σ A P => t σ A fun ds A1 => match ds with
  | [.int j] => small62 j ∧ P (fun _ xs => xs = rangeD 0 j.toNat) A1
  | _ => False
def diR2 (t : DTA) : DI := fun σ A P => t σ A fun ds A1 => match ds with
  | [.int i, .int j] => small62 i ∧ small62 j ∧ P (fun _ xs => xs = rangeD i (j - i).toNat) A1
  | _ => False
/-- range(i, j, -1) -/
def diRn (t : DTA) : DI := fun σ A P => t σ A fun ds A1 => match ds with
  | [.int i, .int j, .int c] => c = -1 ∧ small62 i ∧ small62 j ∧ P (fun _ xs => xs = (List.range (i - j).toNat).map fun (k : Nat) => .int (i - k)) A1
  | _ => False
def enumD : Nat → List D → List D
  | _, [] => []
  | n, d :: ds => .tup [.int n, d] :: enumD (n + 1) ds
def zipD : List D → List D → List D
  | d :: ds, e :: es => .tup [d, e] :: zipD ds es
  | _, _ => []
def diE (t : DTA) : DI := fun σ A P => t σ A fun ds A1 => match ds with
  | [.ref a] => (∃ xs, A1 a = some (.lst xs)) ∧ P (fun A xs => ∃ ys, A a = some (.lst ys) ∧ xs = enumD 0 ys) A1
  | _ => False
def diZ (t : DTA) : DI := fun σ A P => t σ A fun ds A1 => match ds with
  | [.ref a, .ref b] => (∃ xs, A1 a = some (.lst xs)) ∧ (∃ xs, A1 b = some (.lst xs)) ∧ P (fun A xs => ∃ ys zs, A a = some (.lst ys) ∧ A b = some (.lst zs) ∧ xs = zipD ys zs) A1
  | _ => False
theorem enumD_get : ∀ {ys : List D} {n i : Nat} {d : D}, (enumD n ys)[i]? = some d → ∃ y, ys[i]? = some y ∧ d = .tup [.int ((n + i : Nat) : Int), y]
  | [], _, _, _, h => by simp [enumD] at h
  | y :: ys, n, 0, d, h => by
    simp [enumD] at h
    exact ⟨y, rfl, h.symm⟩
  | y :: ys, n, i + 1, d, h => by
    simp only [enumD, List.getElem?_cons_succ] at h
    obtain ⟨z, h1, h2⟩ := enumD_get h
    exact ⟨z, by simpa using h1, by rw [h2]; congr 4; omega⟩
theorem enumD_len : ∀ {ys : List D} {n : Nat}, (enumD n ys).length = ys.length
  | [], _ => rfl
  | _ :: ys, n => by simp [enumD, enumD_len (ys := ys)]
theorem zipD_get : ∀ {ys zs : List D} {i : Nat} {d : D}, (zipD ys zs)[i]? = some d → ∃ y z, ys[i]? = some y ∧ zs[i]? = some z ∧ d = .tup [y, z]
  | [], _, _, _, h => by simp [zipD] at h
  | _ :: _, [], _, _, h => by simp [zipD] at h
  | y :: ys, z :: zs, 0, d, h => by
    simp [zipD] at h
    exact ⟨y, z, rfl, rfl, h.symm⟩
  | y :: ys, z :: zs, i + 1, d, h => by
    simp only [zipD, List.getElem?_cons_succ] at h
    obtain ⟨a, b, h1, h2, h3⟩ := zipD_get h
    exact ⟨a, b, by simpa using h1, by simpa using h2, h3⟩
theorem zipD_len : ∀ {ys zs : List D}, (zipD ys zs).length = min ys.length zs.length
  | [], _ => by simp [zipD]
  | _ :: _, [] => by simp [zipD]
  | _ :: ys, _ :: zs => by simp [zipD, zipD_len (ys := ys) (zs := zs)]
section
variable {X : Cx} {tg : Expr} {e : Expr} {te : DTE} {p pos : Pos}
theorem piI {tg iter : Expr} {wi wi' : TI} (h : PI X tg iter wi) (w : ∀ σ H R, wi' σ H R → wi σ H R) : PI X tg iter wi' := ⟨fun pins s σ H R I q => h.run pins s σ H R I (w σ H R q)⟩
theorem wlk_list {B : Bs} {H0 : Hp} (a : Addr) : Wlk B H0 (Itl B.K a) (fun A xs => A a = some (.lst xs)) where
  stop := fun A H i xs _ hA e l => by
    obtain ⟨vs, e1, r⟩ := hA _ _ e
    exact ⟨vs, .of e1, by rw [← r.length]; exact l⟩
  go := fun A H i xs d _ hA e hx => by
    obtain ⟨vs, e1, r⟩ := hA _ _ e
    obtain ⟨v, hv, rv⟩ := r.get hx
    refine ⟨⟨vs, v, .of e1, hv⟩, fun x H' ⟨e', y⟩ => ?_⟩
    subst e'
    have := y vs (.of e1)
    rw [hv] at this; cases this
    exact ⟨hA, Grow.refl, rv⟩
theorem wlk_cst {B : Bs} {H0 : Hp} {a : Addr} {l : List D} {vs : List V} (t : CstAt B.K H0 a vs) (r : RelL B.K H0 l vs) : Wlk B H0 (Itl B.K a) (fun _ xs => xs = l) where
  stop := fun A H i xs g hA e hl => by
    subst e
    exact ⟨vs, (t.grow g).seq, by rw [← r.length]; exact hl⟩
  go := fun A H i xs d g hA e hx => by
    subst e
    obtain ⟨v, hv, rv⟩ := r.get hx
    refine ⟨⟨vs, v, (t.grow g).seq, hv⟩, fun x H' ⟨e', y⟩ => ?_⟩
    subst e'
    have := y vs (t.grow g).seq
    rw [hv] at this; cases this
    exact ⟨hA, Grow.refl, rv.grow g⟩
theorem wlk_tup {B : Bs} {H0 : Hp} {a : Addr} {l : List D} {vs : List V} (t : TupAt B.K H0 a vs) (r : RelL B.K H0 l vs) : Wlk B H0 (Itt B.K a) (fun _ xs => xs = l) where
  stop := fun A H i xs g hA e hl => by
    subst e
    exact ⟨vs, (t.grow g).seq, by rw [← r.length]; exact hl⟩
  go := fun A H i xs d g hA e hx => by
    subst e
    obtain ⟨v, hv, rv⟩ := r.get hx
    refine ⟨⟨vs, v, (t.grow g).seq, hv⟩, fun x H' ⟨e', y⟩ => ?_⟩
    subst e'
    have := y vs (t.grow g).seq
    rw [hv] at this; cases this
    exact ⟨hA, Grow.refl, rv.grow g⟩
theorem qi_list (h : QE X e te) : QI X tg e (diL te) := by
  refine piI (pi_list h) ?_
  intro σ H R ⟨dσ, A, P, hA, hS, q, k⟩
  refine ⟨dσ, A, _, hA, hS, q, fun x A1 v H1 q1 hA1 rx g1 => ?_⟩
  cases x with
  | ref a =>
    cases rx
    obtain ⟨⟨xs, e1⟩, q1⟩ := q1
    obtain ⟨vs, e2, r⟩ := hA1 _ _ e1
    exact ⟨a, rfl, ⟨vs, .of e2⟩, k _ _ _ _ q1 hA1 g1 (wlk_list a)⟩
  | cl l =>
    obtain ⟨a, vs, rfl, t, r⟩ := rx
    exact ⟨a, rfl, ⟨vs, t.seq⟩, k _ _ _ _ q1 hA1 g1 (wlk_cst t r)⟩
  | _ => exact q1.elim
theorem qi_tup (h : QE X e te) : QI X tg e (diT te) := by
  refine piI (pi_tup h) ?_
  intro σ H R ⟨dσ, A, P, hA, hS, q, k⟩
  refine ⟨dσ, A, _, hA, hS, q, fun x A1 v H1 q1 hA1 rx g1 => ?_⟩
  cases x with
  | tup l =>
    obtain ⟨a, vs, rfl, t, r⟩ := rx
    exact ⟨a, rfl, ⟨vs, t.seq⟩, k _ _ _ _ q1 hA1 g1 (wlk_tup t r)⟩
  | _ => exact q1.elim
theorem qi_str (h : QE X e te) : QI X tg e (diS te) := by
  refine piI (pi_str h) ?_
  intro σ H R ⟨dσ, A, P, hA, hS, q, k⟩
  refine ⟨dσ, A, _, hA, hS, q, fun x A1 v H1 q1 hA1 rx g1 => ?_⟩
  cases x with
  | str l =>
    obtain ⟨rfl, hl⟩ := rx
    refine ⟨_, rfl, k _ _ _ _ q1 hA1 g1 ⟨fun A H i xs _ hA e h => ?_, fun A H i xs d _ hA e hx => ?_⟩⟩
    · subst e
      show l.toArray.size ≤ i
      simpa using h
    · subst e
      rw [List.getElem?_map] at hx
      obtain ⟨c, hc, rfl⟩ := Option.map_eq_some_iff.mp hx
      refine ⟨?_, fun x H' ⟨e', c', hc', ex⟩ => ?_⟩
      · show i < l.toArray.size
        have := (List.getElem?_eq_some_iff.mp hc).1
        simpa using this
      · subst e'
        have hc' : l.toArray[i]? = some c' := hc'
        rw [List.getElem?_toArray, hc] at hc'
        cases hc'
        refine ⟨hA, Grow.refl, ?_⟩
        rw [ex]
        refine ⟨rfl, fun c' m => ?_⟩
        simp at m; subst m
        exact hl _ (List.mem_of_getElem? hc)
  | _ => exact q1.elim
theorem wlk_rng {B : Bs} {H0 : Hp} {lo : Int} {n : Nat} : Wlk B H0 (Itr lo n) (fun _ xs => xs = rangeD lo n) where
  stop := fun A H i xs _ hA e h => by
    subst e
    rw [rangeD_len] at h
    exact h
  go := fun A H i xs d _ hA e hx => by
    subst e
    have hi : i < n := by
      have := (List.getElem?_eq_some_iff.mp hx).1
      rwa [rangeD_len] at this
    rw [rangeD_get hi] at hx
    cases hx
    refine ⟨hi, fun x H' ⟨e', ex⟩ => ?_⟩
    subst e'
    exact ⟨hA, Grow.refl, ex⟩
theorem p62 : (2 : Int) ^ 62 = 4611686018427387904 := by decide
theorem qi_range1 {a : Expr} {ta : DTA} (hm : X.mg "range" = none) (ha : QA X [a] ta) (hg : Gl X "range" := by rfl) (hs : starEach [a] X.env = [(false, eval a X.env)] := by rfl) : QI X tg (.Call (.Name "range" p) [a] [] pos) (diR1 ta) := by
  refine piI (pi_range1 hg hm ha hs) ?_
  intro σ H R ⟨dσ, A, P, hA, hS, q, k⟩
  refine ⟨dσ, A, _, hA, hS, q, fun ds A1 vs H1 q1 l1 hA1 rl g1 => ?_⟩
  match ds, q1, rl with
  | [.int j], q1, rl =>
    obtain ⟨v, rfl, rfl⟩ := rel1 rl
    exact ⟨j, rfl, by rw [p62]; exact q1.1.1, by rw [p62]; exact q1.1.2, k _ _ _ _ q1.2 hA1 g1 wlk_rng⟩
theorem qi_range2 {a b : Expr} {ta : DTA} (hm : X.mg "range" = none) (ha : QA X [a, b] ta) (hg : Gl X "range" := by rfl) (hs : starEach [a, b] X.env = [(false, eval a X.env), (false, eval b X.env)] := by rfl) (hs2 : starEach [b] X.env = [(false, eval b X.env)] := by rfl) :
    QI X tg (.Call (.Name "range" p) [a, b] [] pos) (diR2 ta) := by
  refine piI (pi_range2 hg hm ha hs hs2) ?_
  intro σ H R ⟨dσ, A, P, hA, hS, q, k⟩
  refine ⟨dσ, A, _, hA, hS, q, fun ds A1 vs H1 q1 l1 hA1 rl g1 => ?_⟩
  match ds, q1, rl with
  | [.int i, .int j], q1, rl =>
    obtain ⟨v, u, rfl, rfl, rfl⟩ := rel2 rl
    exact ⟨i, j, rfl, by rw [p62]; exact ⟨q1.1.1, q1.1.2, q1.2.1.1, q1.2.1.2⟩, k _ _ _ _ q1.2.2 hA1 g1 wlk_rng⟩
theorem qi_rangeN {a b c : Expr} {ta : DTA} (hm : X.mg "range" = none) (ha : QA X [a, b, c] ta) (hg : Gl X "range" := by rfl)
    (hs : starEach [a, b, c] X.env = (false, eval a X.env) :: starEach [b, c] X.env := by rfl) (hpl : (backTo pos (starEach [b, c] X.env)).any (·.1) = false := by rfl) :
    QI X tg (.Call (.Name "range" p) [a, b, c] [] pos) (diRn ta) := by
  refine piI (pi_range3 hg hm ha hs hpl) ?_
  intro σ H R ⟨dσ, A, P, hA, hS, q, k⟩
  refine ⟨dσ, A, _, hA, hS, q, fun ds A1 vs H1 q1 l1 hA1 rl g1 => ?_⟩
  match ds, q1, rl with
  | [.int i, .int j, .int c], ⟨qc, q2, q3, q4⟩, rl =>
    subst qc
    obtain ⟨v, r, rfl, rfl, rl3⟩ := rl
    obtain ⟨u, w, rfl, rfl, rfl⟩ := rel2 rl3
    refine ⟨i, j, -1, _, rfl, RgC.neg (by rw [p62]; exact q2.1) (by rw [p62]; exact q2.2) (by rw [p62]; exact q3.1) (by rw [p62]; exact q3.2), k _ _ _ _ q4 hA1 g1 ⟨fun A H n xs _ hA e h => ?_, fun A H n xs d _ hA e hx => ?_⟩⟩
    · subst e
      rw [List.length_map, List.length_range] at h
      exact h
    · subst e
      have hi : n < (i - j).toNat := by
        have := (List.getElem?_eq_some_iff.mp hx).1
        simpa using this
      rw [List.getElem?_map, List.getElem?_range hi] at hx
      cases hx
      refine ⟨hi, fun x H' ⟨e', ex⟩ => ?_⟩
      subst e'
      refine ⟨hA, Grow.refl, ?_⟩
      rw [ex]
      show V.int _ = V.int _
      congr 1
      omega
theorem qi_enum {elts : List Expr} {kk : Nat} {tpos : Pos} {ta : DTA} (hm : X.mg "enumerate" = none) (ha : QA X [e] ta) (hg : Gl X "enumerate" := by rfl) (hs : starEach [e] X.env = [(false, eval e X.env)] := by rfl) :
    QI X (.Tuple elts kk tpos) (.Call (.Name "enumerate" p) [e] [] pos) (diE ta) := by
  refine piI (pi_enum hg hm ha hs) ?_
  intro σ H R ⟨dσ, A, P, hA, hS, q, k⟩
  refine ⟨dσ, A, _, hA, hS, q, fun ds A1 vs H1 q1 l1 hA1 rl g1 => ?_⟩
  match ds, q1, rl with
  | [.ref a], ⟨⟨xs, e1⟩, q1⟩, rl =>
    obtain ⟨v, rfl, rfl⟩ := rel1 rl
    obtain ⟨us, e2, r⟩ := hA1 _ _ e1
    refine ⟨a, us, rfl, .of e2, k _ _ _ _ q1 hA1 g1 ⟨fun A H n xs _ hA ⟨ys, e3, e4⟩ h => ?_, fun A H n xs d _ hA ⟨ys, e3, e4⟩ hx => ?_⟩⟩
    · subst e4
      obtain ⟨us, e2, r⟩ := hA _ _ e3
      refine ⟨us, .of e2, ?_⟩
      rw [enumD_len] at h
      rw [← r.length]; exact h
    · subst e4
      obtain ⟨us, e2, r⟩ := hA _ _ e3
      obtain ⟨y, hy, rfl⟩ := enumD_get hx
      obtain ⟨v, hv, rv⟩ := r.get hy
      refine ⟨⟨us, v, .of e2, hv⟩, fun x H' ⟨T, x', ex, hT, eH, yl⟩ => ?_⟩
      subst ex eH
      have := yl us (.of e2)
      rw [hv] at this; cases this
      refine ⟨hA.new hT, Grow.new hT, ⟨T, _, rfl, .inl upd_same, ?_⟩⟩
      exact RelL.cons (by show V.int _ = V.int _; congr 1; omega) (RelL.cons (rv.grow (Grow.new hT)) RelL.nil)
theorem qi_zip {e2 : Expr} {elts : List Expr} {kk : Nat} {tpos : Pos} {ta : DTA} (hm : X.mg "zip" = none) (ha : QA X [e, e2] ta) (hg : Gl X "zip" := by rfl) (hs : starEach [e, e2] X.env = (false, eval e X.env) :: starEach [e2] X.env := by rfl) (hs2 : (backTo pos (starEach [e2] X.env)).any (·.1) = false := by rfl) :
    QI X (.Tuple elts kk tpos) (.Call (.Name "zip" p) [e, e2] [] pos) (diZ ta) := by
  refine piI (pi_zip hg hm ha hs hs2) ?_
  intro σ H R ⟨dσ, A, P, hA, hS, q, k⟩
  refine ⟨dσ, A, _, hA, hS, q, fun ds A1 vs H1 q1 l1 hA1 rl g1 => ?_⟩
  match ds, q1, rl with
  | [.ref a, .ref b], ⟨⟨xs, e1⟩, ⟨xs', e1'⟩, q1⟩, rl =>
    obtain ⟨v, u, rfl, rfl, rfl⟩ := rel2 rl
    obtain ⟨us, e2, r⟩ := hA1 _ _ e1
    obtain ⟨us', e2', r'⟩ := hA1 _ _ e1'
    refine ⟨a, b, us, us', rfl, .of e2, .of e2', k _ _ _ _ q1 hA1 g1 ⟨fun A H n xs _ hA ⟨ys, zs, e3, e4, e5⟩ h => ?_, fun A H n xs d _ hA ⟨ys, zs, e3, e4, e5⟩ hx => ?_⟩⟩
    · subst e5
      obtain ⟨us, e2, r⟩ := hA _ _ e3
      obtain ⟨us', e2', r'⟩ := hA _ _ e4
      refine ⟨us, us', .of e2, .of e2', ?_⟩
      rw [zipD_len] at h
      rw [← r.length, ← r'.length]; omega
    · subst e5
      obtain ⟨us, e2, r⟩ := hA _ _ e3
      obtain ⟨us', e2', r'⟩ := hA _ _ e4
      obtain ⟨y, z, hy, hz, rfl⟩ := zipD_get hx
      obtain ⟨v, hv, rv⟩ := r.get hy
      obtain ⟨v', hv', rv'⟩ := r'.get hz
      refine ⟨⟨us, us', v, v', .of e2, .of e2', hv, hv'⟩, fun x H' ⟨T, x', y', ex, hT, eH, yl, yl'⟩ => ?_⟩
      subst ex eH
      have q1 := yl us (.of e2)
      rw [hv] at q1; cases q1
      have q2 := yl' us' (.of e2')
      rw [hv'] at q2; cases q2
      refine ⟨hA.new hT, Grow.new hT, ⟨T, _, rfl, .inl upd_same, ?_⟩⟩
      exact RelL.cons (rv.grow (Grow.new hT)) (RelL.cons (rv'.grow (Grow.new hT)) RelL.nil)
end
end DL
set_option Elab.async false
set_option linter.all false
set_option maxRecDepth 100000
set_option maxHeartbeats 400000
/-! DL6: keys that are ints, texts, or tuples of keys; dicts over these. -/
namespace DL
open PySem PySem.Spec PyProof.Rows L2

mutual
def D.dec : (a b : D) → Decidable (a = b)
  | .non, .non => .isTrue rfl
  | .bl a, .bl b => if h : a = b then .isTrue (by rw [h]) else .isFalse (fun e => h (by injection e))
  | .int a, .int b => if h : a = b then .isTrue (by rw [h]) else .isFalse (fun e => h (by injection e))
  | .str a, .str b => if h : a = b then .isTrue (by rw [h]) else .isFalse (fun e => h (by injection e))
  | .ref a, .ref b => if h : a = b then .isTrue (by rw [h]) else .isFalse (fun e => h (by injection e))
  | .tup a, .tup b => match D.decs a b with
    | .isTrue h => .isTrue (by rw [h])
    | .isFalse h => .isFalse (fun e => h (by injection e))
  | .cl a, .cl b => match D.decs a b with
    | .isTrue h => .isTrue (by rw [h])
    | .isFalse h => .isFalse (fun e => h (by injection e))
  | .non, .bl _ => .isFalse (fun e => nomatch e)
  | .non, .int _ => .isFalse (fun e => nomatch e)
  | .non, .str _ => .isFalse (fun e => nomatch e)
  | .non, .tup _ => .isFalse (fun e => nomatch e)
  | .non, .cl _ => .isFalse (fun e => nomatch e)
  | .non, .ref _ => .isFalse (fun e => nomatch e)
  | .bl _, .non => .isFalse (fun e => nomatch e)
  | .bl _, .int _ => .isFalse (fun e => nomatch e)
  | .bl _, .str _ => .isFalse (fun e => nomatch e)
  | .bl _, .tup _ => .isFalse (fun e => nomatch e)
  | .bl _, .cl _ => .isFalse (fun e => nomatch e)
  | .bl _, .ref _ => .isFalse (fun e => nomatch e)
  | .int _, .non => .isFalse (fun e => nomatch e)
  | .int _, .bl _ => .isFalse (fun e => nomatch e)
  | .int _, .str _ => .isFalse (fun e => nomatch e)
  | .int _, .tup _ => .isFalse (fun e => nomatch e)
  | .int _, .cl _ => .isFalse (fun e => nomatch e)
  | .int _, .ref _ => .isFalse (fun e => nomatch e)
  | .str _, .non => .isFalse (fun e => nomatch e)
  | .str _, .bl _ => .isFalse (fun e => nomatch e)
  | .str _, .int _ => .isFalse (fun e => nomatch e)
  | .str _, .tup _ => .isFalse (fun e => nomatch e)
  | .str _, .cl _ => .isFalse (fun e => nomatch e)
  | .str _, .ref _ => .isFalse (fun e => nomatch e)
  | .tup _, .non => .isFalse (fun e => nomatch e)
  | .tup _, .bl _ => .isFalse (fun e => nomatch e)
  | .tup _, .int _ => .isFalse (fun e => nomatch e)
  | .tup _, .str _ => .isFalse (fun e => nomatch e)
  | .tup _, .cl _ => .isFalse (fun e => nomatch e)
  | .tup _, .ref _ => .isFalse (fun e => nomatch e)
  | .cl _, .non => .isFalse (fun e => nomatch e)
  | .cl _, .bl _ => .isFalse (fun e => nomatch e)
  | .cl _, .int _ => .isFalse (fun e => nomatch e)
  | .cl _, .str _ => .isFalse (fun e => nomatch e)
  | .cl _, .tup _ => .isFalse (fun e => nomatch e)
  | .cl _, .ref _ => .isFalse (fun e => nomatch e)
  | .ref _, .non => .isFalse (fun e => nomatch e)
  | .ref _, .bl _ => .isFalse (fun e => nomatch e)
  | .ref _, .int _ => .isFalse (fun e => nomatch e)
  | .ref _, .str _ => .isFalse (fun e => nomatch e)
  | .ref _, .tup _ => .isFalse (fun e => nomatch e)
  | .ref _, .cl _ => .isFalse (fun e => nomatch e)
def D.decs : (a b : List D) → Decidable (a = b)
  | [], [] => .isTrue rfl
  | [], _ :: _ => .isFalse (fun e => nomatch e)
  | _ :: _, [] => .isFalse (fun e => nomatch e)
  | x :: xs, y :: ys => match D.dec x y, D.decs xs ys with
    | .isTrue h, .isTrue h' => .isTrue (by rw [h, h'])
    | .isFalse h, _ => .isFalse (fun e => h (by injection e))
    | _, .isFalse h => .isFalse (fun e => h (by injection e))
end
instance : DecidableEq D := D.dec

/-! ### keys at a heap -/
/-- the value u is the key d, at most n tuples deep -/
inductive KeyAt (h : Heap) : Nat → D → Value → Prop
  | int {n : Nat} {i : Int} {t : Tok} : KeyAt h n (.int i) (.int i t)
  | str {n : Nat} {l : List Nat} {t : Tok} (c : ∀ c ∈ l, c < 1114112) : KeyAt h n (.str l) (.str ⟨l.toArray⟩ t)
  | tup {n : Nat} {l : List D} {a : Addr} {o : Obj} {its : Array Value} {m : Nat} (e1 : h.get? a = some o) (e2 : o.cls = .type "tuple") (e3 : o.data = .seq its m) (e4 : its.toList.length = l.length)
      (e5 : ∀ (j : Nat) d v, l[j]? = some d → its.toList[j]? = some v → KeyAt h n d v) : KeyAt h (n + 1) (.tup l) (.ref a)
/-- tokens that a hash takes -/
def drw : D → Nat
  | .tup l => drws l + 1
  | _ => 1
where drws : List D → Nat
  | [] => 0
  | d :: ds => drw d + drws ds
theorem KeyAt.keeps {h h' : Heap} {d : Addr} {o : Obj} {es ep} (ho : h.get? d = some o) (hd : o.data = .dict es ep) (hs : Heap.SameBut d h h') {n : Nat} {k : D} {u : Value} (x : KeyAt h n k u) : KeyAt h' n k u := by
  induction x with
  | int => exact .int
  | str c => exact .str c
  | @tup n l a oa its m e1 e2 e3 e4 e5 ih =>
    have hne : a ≠ d := by
      rintro rfl
      rw [ho] at e1; cases e1
      rw [hd] at e3; cases e3
    exact .tup ((hs.2 a hne).trans e1) e2 e3 e4 ih
theorem KeyAt.inj {h : Heap} {n m : Nat} {x y : D} {u : Value} (hx : KeyAt h n x u) (hy : KeyAt h m y u) : x = y := by
  induction hx generalizing m y with
  | int => cases hy; rfl
  | @str n l t c =>
    generalize e : Value.str ⟨l.toArray⟩ t = u at hy
    cases hy with
    | int => cases e
    | @str _ l' t' c' =>
      injection e with e1 _
      injection e1 with e1
      have := congrArg Array.toList e1
      simp at this
      rw [this]
    | tup => cases e
  | @tup n x a o its k e1 e2 e3 e4 e5 ih =>
    generalize e : Value.ref a = u at hy
    cases hy with
    | int => cases e
    | str => cases e
    | @tup _ y a' o' its' k' f1 f2 f3 f4 f5 =>
      cases e
      rw [e1] at f1; cases f1
      rw [e3] at f3; cases f3
      congr 1
      apply List.ext_getElem?
      intro j
      by_cases c : j < x.length
      · have hx : x[j]? = some x[j] := by simp [c]
        have hy : y[j]? = some (y[j]'(by omega)) := by simp [show j < y.length by omega]
        have hi : its.toList[j]? = some (its.toList[j]'(by omega)) := List.getElem?_eq_getElem (by omega)
        rw [hx, hy, ih j _ _ hx hi (f5 j _ _ hy hi)]
      · rw [List.getElem?_eq_none (by omega), List.getElem?_eq_none (by omega)]
/-- the key told as the library tells data -/
def kpy : D → PyData
  | .int i => .int i
  | .str l => .str ⟨l.toArray⟩
  | .tup l => .tuple (kpys l)
  | _ => .none
where kpys : List D → List PyData
  | [] => []
  | d :: ds => kpy d :: kpys ds
def kdep : D → Nat
  | .tup l => kdeps l + 1
  | _ => 0
where kdeps : List D → Nat
  | [] => 0
  | d :: ds => max (kdep d) (kdeps ds)
theorem readsAll_of {h : Heap} {n : Nat} : ∀ (l : List D) (vs : List Value), vs.length = l.length → (∀ (j : Nat) d v, l[j]? = some d → vs[j]? = some v → (∃ as, Reads h v (kpy d) as) ∧ (kpy d).canLay0 = true ∧ (kpy d).depth ≤ n) →
    (∃ as, ReadsAll h vs (kpy.kpys l) as) ∧ PyData.canLayAll0 (kpy.kpys l) = true ∧ PyData.depthAll (kpy.kpys l) ≤ n
  | [], vs, hl, _ => by
    cases vs with
    | nil => exact ⟨⟨_, ReadsAll.nil⟩, rfl, Nat.zero_le _⟩
    | cons _ _ => simp at hl
  | d :: ds, vs, hl, hk => by
    cases vs with
    | nil => simp at hl
    | cons v vs =>
      obtain ⟨⟨as, r⟩, c1, c2⟩ := hk 0 d v rfl rfl
      obtain ⟨⟨bs, s⟩, c3, c4⟩ := readsAll_of ds vs (by simpa using hl) fun j d v q1 q2 => hk (j + 1) d v (by simpa using q1) (by simpa using q2)
      refine ⟨⟨_, ReadsAll.cons r s⟩, ?_, ?_⟩
      · simp only [kpy.kpys, PyData.canLayAll0, c1, c3, Bool.and_self]
      · simp only [kpy.kpys, PyData.depthAll]; omega
theorem KeyAt.reads {h : Heap} {n : Nat} {d : D} {u : Value} (x : KeyAt h n d u) : (∃ as, Reads h u (kpy d) as) ∧ (kpy d).canLay0 = true ∧ (kpy d).depth ≤ n := by
  induction x with
  | int => exact ⟨⟨_, Reads.int _ _⟩, rfl, Nat.zero_le _⟩
  | str c => exact ⟨⟨_, Reads.str _ _⟩, arr_ok c, Nat.zero_le _⟩
  | @tup n l a o its m e1 e2 e3 e4 e5 ih =>
    obtain ⟨⟨as, r⟩, c1, c2⟩ := readsAll_of l its.toList e4 ih
    exact ⟨⟨_, Reads.tuple e1 e2 e3 r⟩, c1, by show PyData.depthAll _ + 1 ≤ _; omega⟩
theorem kpys_eqv_of : ∀ (x y : List D), (∀ (j : Nat) d e, x[j]? = some d → y[j]? = some e → PyData.eqv (kpy d) (kpy e) = decide (d = e)) → PyData.eqvAll (kpy.kpys x) (kpy.kpys y) = decide (x = y)
  | [], [], _ => rfl
  | [], _ :: _, _ => rfl
  | _ :: _, [], _ => rfl
  | x :: xs, y :: ys, h => by
    have e1 := h 0 x y rfl rfl
    have e2 := kpys_eqv_of xs ys fun j d e q1 q2 => h (j + 1) d e (by simpa using q1) (by simpa using q2)
    simp only [kpy.kpys, PyData.eqvAll]
    rw [e1, e2, Bool.eq_iff_iff]; simp
theorem kpy_eqv {h : Heap} {n m : Nat} {x y : D} {u v : Value} (hx : KeyAt h n x u) (hy : KeyAt h m y v) : PyData.eqv (kpy x) (kpy y) = decide (x = y) := by
  induction hx generalizing m y v with
  | int =>
    cases hy with
    | int => simp only [kpy, PyData.eqv]; rw [Bool.eq_iff_iff]; simp
    | str => rfl
    | tup => rfl
  | str c =>
    cases hy with
    | int => rfl
    | str => simp only [kpy, PyData.eqv]; rw [Bool.eq_iff_iff]; simp
    | tup => rfl
  | @tup n x a o its k e1 e2 e3 e4 e5 ih =>
    cases hy with
    | int => rfl
    | str => rfl
    | @tup _ y a' o' its' k' f1 f2 f3 f4 f5 =>
      show PyData.eqvAll (kpy.kpys x) (kpy.kpys y) = _
      rw [kpys_eqv_of x y fun j d e q1 q2 => ?_]
      · rw [Bool.eq_iff_iff]; simp
      · have l1 := (List.getElem?_eq_some_iff.mp q1).1
        have l2 := (List.getElem?_eq_some_iff.mp q2).1
        exact ih j d _ q1 (List.getElem?_eq_getElem (by omega)) (f5 j e _ q2 (List.getElem?_eq_getElem (by omega)))
section
variable {prog : Program} {w : World} {A : Around} {E : Value → Shared → Prop}
theorem hash_key : ∀ (n : Nat) (A : Around) (s : Shared) (d : D) (u : Value) (Q : Int → Shared → Prop), A.units + n < cLine → KeyAt s.heap n d u → Q (hsh w d) { s with toks := s.toks + drw d } → wpAny (model prog w) A (pyHash u) Q E s
  | _, A, s, _, _, Q, _, .int, h => wpAny_pyHash_int h
  | _, A, s, _, _, Q, _, .str _, h => wpAny_pyHash_str h
  | n + 1, A, s, _, _, Q, hu, .tup (l := l) (a := a) (o := o) (its := items) ho hc hd hl hk, h => by
    have hT : s.TypeIs (.ref a) "tuple" := ⟨o, ho, hc⟩
    unfold pyHash
    first | unfold pyHashByItsType | skip
    first | refine wpAny_bind (wpAny_cRoomFor_or (.inr (by omega)) ?_) | skip
    refine wpAny_bind (wpAny_specialOf hT F.slot_tuple_hash.lookup ?_)
    show wpAny _ _ (if (some (Value.builtin "tuple.__hash__") == some Value.none) = true then _ else _) Q E s
    rw [if_neg (by rw [beq_builtin_none]; exact Bool.false_ne_true)]
    refine wpAny_bind (wpAny_specialOf hT F.slot_tuple_hash.lookup ?_)
    show wpAny _ _ (callSpecialIfBoundUnlessNone? (.ref a) "__hash__" _ >>= _) Q E s
    refine wpAny_bind (wpAny_callSpecialIfBoundUnlessNone?_slot hT F.slot_tuple_hash (wpAny_call_entry F.slot_tuple_hash hT F.entry_tuple_hash ?_ (F.args_tuple_hash_1 _)))
    show wpAny _ _ (Builtin.Tuple.tupleItemsOf (.ref a) >>= _) _ _ s
    refine wpAny_bind (wpAny_tupleItemsOf ho hd ?_)
    refine wpAny_bind ?_
    rw [← Array.forIn_toList]
    refine wpAny_forIn_list _
      (fun rest (b : Array Int) s' => ∃ done left, l = done ++ left ∧ rest.length = left.length ∧ (∀ (j : Nat) d v, left[j]? = some d → rest[j]? = some v → KeyAt s.heap n d v) ∧ b.toList = hsh.hshs w done ∧ s' = { s with toks := s.toks + drw.drws done })
      _ ?_ ?_ _ _ ⟨[], l, rfl, hl, hk, rfl, rfl⟩
    · rintro x rest b s' ⟨done, left, rfl, hl', hk', hb, rfl⟩
      cases left with
      | nil => simp at hl'
      | cons k ks =>
        have app : ∀ (a : List D), hsh.hshs w (a ++ [k]) = hsh.hshs w a ++ [hsh w k] := by
          intro a; induction a with
          | nil => rfl
          | cons z a ih => simp only [List.cons_append, hsh.hshs, ih]
        have app2 : ∀ (a : List D), drw.drws (a ++ [k]) = drw.drws a + drw k := by
          intro a; induction a with
          | nil => simp [drw.drws]
          | cons z a ih => simp only [List.cons_append, drw.drws, ih]; omega
        have fin : ∃ done' left, done ++ k :: ks = done' ++ left ∧ rest.length = left.length ∧ (∀ (j : Nat) d v, left[j]? = some d → rest[j]? = some v → KeyAt s.heap n d v) ∧ (b.push (hsh w k)).toList = hsh.hshs w done' ∧ ({ s with toks := s.toks + drw.drws done + drw k } : Shared) = { s with toks := s.toks + drw.drws done' } :=
          ⟨done ++ [k], ks, by simp, by simpa using hl', fun j d v q1 q2 => hk' (j + 1) d v (by simpa using q1) (by simpa using q2), by rw [app]; simp [hb], by rw [app2, Nat.add_assoc]⟩
        refine wpAny_bind (hash_key n _ _ k x _ (by first | omega | (show A.units + 1 + n < cLine; omega)) (hk' 0 k x rfl rfl) ?_)
        first
          | exact wpAny_pure fin
          | exact wpAny_bind (wpAny_pure (wpAny_pure fin))
    · rintro b s' ⟨done, left, rfl, hl', hk', hb, rfl⟩
      cases left with
      | cons _ _ => simp at hl'
      | nil =>
        rw [List.append_nil] at h
        show wpAny _ _ (retInt (Builtin.Tuple.tupleHashOf b.toList)) _ _ _
        rw [hb]
        refine wpAny_ret_mkInt ?_
        show wpAny _ _ (if (decide (-(2 : Int) ^ 63 ≤ Builtin.Tuple.tupleHashOf (hsh.hshs w done)) && decide (Builtin.Tuple.tupleHashOf (hsh.hshs w done) < 2 ^ 63)) = true then _ else _) Q E _
        have h : Q (reduceHash (Builtin.Tuple.tupleHashOf (hsh.hshs w done))) { s with toks := s.toks + (drw.drws done + 1) } := h
        unfold reduceHash at h
        by_cases hr : (decide (-(2 : Int) ^ 63 ≤ Builtin.Tuple.tupleHashOf (hsh.hshs w done)) && decide (Builtin.Tuple.tupleHashOf (hsh.hshs w done) < 2 ^ 63)) = true
        · rw [if_pos hr]
          rw [if_pos hr] at h
          exact wpAny_pure (by simpa [Nat.add_assoc] using h)
        · rw [if_neg hr]
          rw [if_neg hr] at h
          exact wpAny_bind (wpAny_rule (wpAny_pure (by simpa [Nat.add_assoc] using h)))
theorem quiet_key {s : Shared} {n : Nat} {d : D} {u : Value} (hk : KeyAt s.heap n d u) : ∀ (m : Nat) (Q : Bool → Shared → Prop), n ≤ m → Q true s → wpAny (model prog w) A (eqIsQuiet m u) Q E s := by
  induction hk with
  | @int n i t =>
    intro m Q hm h
    rw [eqIsQuiet_byValue m (show carriedByValue (Value.int i t) = true from rfl)]
    exact wpAny_pure h
  | @str n l t c =>
    intro m Q hm h
    rw [eqIsQuiet_byValue m (show carriedByValue (Value.str ⟨l.toArray⟩ t) = true from rfl)]
    exact wpAny_pure h
  | @tup n l a o items mm ho hc hd hl hk ih =>
    intro m Q hm h
    obtain ⟨m, rfl⟩ : ∃ k, m = k + 1 := ⟨m - 1, by omega⟩
    have hT : s.TypeIs (.ref a) "tuple" := ⟨o, ho, hc⟩
    unfold eqIsQuiet
    refine wpAny_bind (wpAny_specialOf hT F.slot_tuple_eq.lookup ?_)
    show wpAny _ _ (isInstance (.ref a) (.type "tuple") >>= _) _ _ s
    refine wpAny_bind (wpAny_isInstance hT isSubtype_tuple_tuple ?_)
    simp only [Bool.not_true, Bool.false_eq_true, if_false]
    refine wpAny_bind (wpAny_seqItems ho hd ?_)
    refine wpAny_bind ?_
    show wpAny _ _ (forIn items _ _) _ _ s
    rw [← Array.forIn_toList]
    refine wpAny_forIn_list _ (fun rest r s' => r.1 = none ∧ s' = s ∧ ∃ left : List D, rest.length = left.length ∧ ∀ (j : Nat) d v, left[j]? = some d → rest[j]? = some v → ∀ (m : Nat) (Q : Bool → Shared → Prop), n ≤ m → Q true s → wpAny (model prog w) A (eqIsQuiet m v) Q E s) _ ?_ ?_ _ _ ⟨rfl, rfl, l, hl, ih⟩
    · rintro v rest r s' ⟨hr, rfl, left, hl', hk'⟩
      cases left with
      | nil => simp at hl'
      | cons k ks =>
        refine wpAny_bind (hk' 0 k v rfl rfl m _ (by omega) ?_)
        simp only [Bool.not_true, Bool.false_eq_true, if_false]
        exact wpAny_pure ⟨rfl, rfl, ks, by simpa using hl', fun j d v q1 q2 => hk' (j + 1) d v (by simpa using q1) (by simpa using q2)⟩
    · rintro ⟨r1, r2⟩ s' ⟨hr, rfl, _⟩
      simp only at hr
      subst hr
      exact wpAny_pure h
theorem eq_key {n m : Nat} {s : Shared} {x y : D} {u v : Value} {Q : Bool → Shared → Prop} (hu : A.units + n < cLine) (hx : KeyAt s.heap n x u) (hy : KeyAt s.heap m y v) (h : Q (decide (x = y)) s) : wpAny (model prog w) A (eqBool u v) Q E s := by
  obtain ⟨⟨as, r1⟩, c1, d1⟩ := hx.reads
  obtain ⟨⟨bs, r2⟩, c2, d2⟩ := hy.reads
  have := SeqAt.eqAt_reads _ _ A s u v as bs r1 r2 c1 c2 (by have : min (kpy x).depth (kpy y).depth ≤ n := Nat.le_trans (Nat.min_le_left _ _) d1; omega)
  rw [kpy_eqv hx hy] at this
  exact this prog w E Q h
end
/-- tuples of keys, at most four deep -/
def nestKind (prog : Program) (w : World) : HeapKind prog w D where
  is := fun h k a => isTup k = true ∧ KeyAt h 4 k (.ref a)
  hash := hsh w
  draws := drw
  room := fun A => A.units + 4 < cLine
  inj := fun hx hy => hx.2.inj hy.2
  keeps := fun x ho hd hs => ⟨x.1, x.2.keeps ho hd hs⟩
  pyHash := fun hu hk h => hash_key 4 _ _ _ _ _ hu hk.2 h
  eqBool := fun hu hx hy h => eq_key hu hx.2 hy.2 h
  quiet := fun hk h => quiet_key hk.2 8 _ (by decide) h
end DL
set_option Elab.async false
set_option linter.all false
set_option maxRecDepth 100000
set_option maxHeartbeats 1000000
/-! DL7: dicts over plain data: get, in, store, methods. -/
namespace DL
open PySem PySem.Spec PyProof.Rows L2

/-! ### tables -/
def dget {α : Type} (kvs : List (D × α)) (k : D) : Option α := (kvs.find? fun p => decide (p.1 = k)).map (·.2)
def dput {α : Type} (kvs : List (D × α)) (k : D) (v : α) : List (D × α) :=
  if (kvs.any fun p => decide (p.1 = k)) = true then kvs.map (fun p => if p.1 = k then (p.1, v) else p) else kvs ++ [(k, v)]
/-- a key that goes with a table -/
def okK {α : Type} (kvs : List (D × α)) (k : D) : Bool := isKey k && kvs.all fun p => isTup p.1 == isTup k
/-- the dict at a -/
def DicOf (A : AH) (a : Addr) (kvs : List (D × D)) : Prop := A a = some (.dic kvs) ∨ ∃ od, A a = some (.fdic od kvs)

/-! ### raw readings: plain data in the place of values -/
def lR2 (B : Bs) (f : DR2) : R2 := fun x y H Q => ∃ dx dy A R, RelH B A H ∧ RelD B.K H dx x ∧ RelD B.K H dy y ∧ f dx dy A R ∧ Kp B H R Q
def lRn (B : Bs) (f : DRn) : List V → Hp → VK → Prop := fun xs H Q => ∃ ds A R, RelH B A H ∧ RelL B.K H ds xs ∧ f ds A R ∧ Kp B H R Q
theorem DOp.raw {X : Cx} {g : Value → Value → Sem Value} {f : DR2} (h : OpR X g (lR2 X.b f)) : DOp X g f := ⟨_, h, fun x y A R v u H Q hA rx ry q k => ⟨x, y, A, R, hA, rx, ry, q, k⟩⟩
theorem DCa.raw {X : Cx} {g : Value} {f : DRn} (h : CallR X g (lRn X.b f)) : DCa X g f := ⟨_, h, fun x A R v H Q hA rx q k => ⟨x, A, R, hA, rx, q, k⟩⟩
theorem DOp.or {X : Cx} {g : Value → Value → Sem Value} {f f1 f2 : DR2} (h1 : DOp X g f1) (h2 : DOp X g f2) (w : ∀ x y A R, f x y A R → f1 x y A R ∨ f2 x y A R) : DOp X g f := by
  obtain ⟨r1, o1, i1⟩ := h1.ex
  obtain ⟨r2, o2, i2⟩ := h2.ex
  refine ⟨_, OpR.or o1 o2, fun x y A R v u H Q hA rx ry q k => ?_⟩
  rcases w x y A R q with q | q
  · exact .inl (i1 x y A R v u H Q hA rx ry q k)
  · exact .inr (i2 x y A R v u H Q hA rx ry q k)
theorem DCa.or {X : Cx} {g : Value} {f f1 f2 : DRn} (h1 : DCa X g f1) (h2 : DCa X g f2) (w : ∀ x A R, f x A R → f1 x A R ∨ f2 x A R) : DCa X g f := by
  obtain ⟨r1, o1, i1⟩ := h1.ex
  obtain ⟨r2, o2, i2⟩ := h2.ex
  refine ⟨_, CallR.or o1 o2, fun x A R v H Q hA rx q k => ?_⟩
  rcases w x A R q with q | q
  · exact .inl (i1 x A R v H Q hA rx q k)
  · exact .inr (i2 x A R v H Q hA rx q k)
theorem DIx.or {X : Cx} {f f1 f2 : DR2} (h1 : DIx X f1) (h2 : DIx X f2) (w : ∀ x y A R, f x y A R → f1 x y A R ∨ f2 x y A R) : DIx X f := by
  obtain ⟨r1, o1, i1⟩ := h1.ex
  obtain ⟨r2, o2, i2⟩ := h2.ex
  refine ⟨_, IxR.or o1 o2, fun x y A R v u H Q hA rx ry q k => ?_⟩
  rcases w x y A R q with q | q
  · exact .inl (i1 x y A R v u H Q hA rx ry q k)
  · exact .inr (i2 x y A R v u H Q hA rx ry q k)

/-! ### keys of the heap -/
section
variable {X : Cx} {pins : List (Addr × Obj)} {σ : L2.St} {H : Hp} {s : Shared}
theorem TupAt.raw (I : L2.Inv X pins σ H s) {a : Addr} {vs : List V} (h : TupAt X.K H a vs) : ∃ o its n, s.heap.get? a = some o ∧ o.cls = .type "tuple" ∧ o.data = .seq its n ∧ Vals vs its.toList := by
  obtain ⟨its, r, ⟨o, e, c, n, d⟩, _⟩ := I.tuple h.seq
  exact ⟨o, its.toArray, n, e, c, d, by simpa using r⟩
theorem key_at (I : L2.Inv X pins σ H s) : ∀ (n : Nat) (d : D) (v : V) (u : Value), isKeyN n d = true → RelD X.K H d v → RelV v u → KeyAt s.heap n d u := by
  intro n
  induction n with
  | zero =>
    intro d v u hk rd ru
    cases d with
    | int i => cases rd; obtain ⟨t, rfl⟩ := ru; exact .int
    | str l => obtain ⟨rfl, c⟩ := rd; obtain ⟨t, rfl⟩ := ru; exact .str c
    | _ => cases hk
  | succ n ih =>
    intro d v u hk rd ru
    cases d with
    | int i => cases rd; obtain ⟨t, rfl⟩ := ru; exact .int
    | str l => obtain ⟨rfl, c⟩ := rd; obtain ⟨t, rfl⟩ := ru; exact .str c
    | tup l =>
      obtain ⟨a, vs, rfl, t, r⟩ := rd
      cases ru
      obtain ⟨o, its, m, e1, e2, e3, rv⟩ := TupAt.raw I t
      have hl := rv.length
      refine .tup e1 e2 e3 (by rw [← hl, r.length]) fun j d v q1 q2 => ?_
      obtain ⟨w, hw, rw'⟩ := r.get q1
      obtain ⟨u', hu', ru'⟩ := rv.get hw
      rw [q2] at hu'; cases hu'
      exact ih d w v (List.all_eq_true.mp hk d (List.mem_of_getElem? q1)) rw' ru'
    | _ => cases hk
theorem isTup_ref {K : PySem.W.Frag} {d : D} {u : Value} (h : ReV K H d u) (t : isTup d = true) : ∃ b, u = .ref b := by
  cases d with
  | tup l =>
    obtain ⟨v, ⟨a, vs, rfl, _⟩, rv⟩ := h
    cases rv
    exact ⟨a, rfl⟩
  | _ => cases t
/-- a flat key as the library has it -/
def kyD : D → Key
  | .int i => .inl i
  | .str l => .inr ⟨l.toArray⟩
  | _ => .inl 0
theorem kyD_rel {K : PySem.W.Frag} {d : D} {v : V} (hk : isKey d = true) (ht : isTup d = false) (r : RelD K H d v) : v = kV (kyD d) := by
  cases d with
  | int i => exact r
  | str l => exact r.1
  | tup l => cases ht
  | _ => cases hk
theorem kyD_inj {d e : D} (h1 : isKey d = true) (h2 : isTup d = false) (h3 : isKey e = true) (h4 : isTup e = false) (h : kyD d = kyD e) : d = e := by
  cases d with
  | int i => cases e with
    | int j => cases h; rfl
    | str l => cases h
    | tup l => cases h4
    | _ => cases h3
  | str l => cases e with
    | int j => cases h
    | str m =>
      have h : (Sum.inr ⟨l.toArray⟩ : Key) = Sum.inr ⟨m.toArray⟩ := h
      injection h with h
      injection h with h
      have := congrArg Array.toList h
      simp at this
      rw [this]
    | tup l => cases h4
    | _ => cases h3
  | tup l => cases h2
  | _ => cases h1
theorem kyD_hash (w : World) {d : D} (h1 : isKey d = true) (h2 : isTup d = false) : hsh w d = keyH w (kyD d) := by
  cases d with
  | int i => rfl
  | str l => rfl
  | tup l => cases h2
  | _ => cases h1
/-- tables side by side -/
def TR (K : PySem.W.Frag) (H : Hp) : List (D × D) → List (D × Addr × Value) → Prop
  | [], xs => xs = []
  | p :: ps, xs => ∃ x r, xs = x :: r ∧ x.1 = p.1 ∧ ReV K H p.1 (.ref x.2.1) ∧ ReV K H p.2 x.2.2 ∧ TR K H ps r
def FR (K : PySem.W.Frag) (H : Hp) : List (D × D) → List (Key × Value) → Prop
  | [], xs => xs = []
  | p :: ps, xs => ∃ x r, xs = x :: r ∧ x.1 = kyD p.1 ∧ ReV K H p.2 x.2 ∧ FR K H ps r
theorem view_at (I : L2.Inv X pins σ H s) {A : AH} (hA : RelH X.b A H) {a : Addr} {kvs : List (D × D)} (e : DicOf A a kvs) : ∃ es, DicAt X.w a es s.heap ∧ EntL X.K H kvs es ∧ GoodD kvs := by
  rcases e with e | e
  · obtain ⟨es, e1, r, g⟩ := hA _ _ e
    exact ⟨es, (I.hok _ _ e1).1, r, g⟩
  · obtain ⟨o, e⟩ := e
    obtain ⟨es, e1, r, g, _⟩ := hA _ _ e
    exact ⟨es, (I.hok _ _ e1).2.1, r, g⟩
theorem TR.keys {K : PySem.W.Frag} : ∀ {kvs : List (D × D)} {xs : List (D × Addr × Value)}, TR K H kvs xs → xs.map (·.1) = kvs.map (·.1)
  | [], _, h => by cases h; rfl
  | _ :: _, _, ⟨x, r, e, h1, _, _, t⟩ => by cases e; simp only [List.map_cons, h1, TR.keys t]
theorem TR.length {K : PySem.W.Frag} {kvs : List (D × D)} {xs : List (D × Addr × Value)} (h : TR K H kvs xs) : xs.length = kvs.length := by
  have := congrArg List.length h.keys
  simpa using this
theorem FR.keys {K : PySem.W.Frag} : ∀ {kvs : List (D × D)} {xs : List (Key × Value)}, FR K H kvs xs → xs.map (·.1) = kvs.map fun p => kyD p.1
  | [], _, h => by cases h; rfl
  | _ :: _, _, ⟨x, r, e, h1, _, t⟩ => by cases e; simp only [List.map_cons, h1, FR.keys t]
theorem FR.length {K : PySem.W.Frag} {kvs : List (D × D)} {xs : List (Key × Value)} (h : FR K H kvs xs) : xs.length = kvs.length := by
  have := congrArg List.length h.keys
  simpa using this
/-- a table of tuple keys -/
theorem view_t (I : L2.Inv X pins σ H s) {A : AH} (hA : RelH X.b A H) {a : Addr} {kvs : List (D × D)} (e : DicOf A a kvs) (ht : ∀ p ∈ kvs, isTup p.1 = true) :
    ∃ xs, s.heap.DictOfH (nestKind X.prog X.w) a xs ∧ TR X.K H kvs xs ∧ (a == sysModules) = false ∧ GoodD kvs := by
  obtain ⟨es, ⟨o, ep, h1, h2, h3, h4⟩, r, g⟩ := view_at I hA e
  have key : ∀ (kvs : List (D × D)) (es : List Ent), EntL X.K H kvs es → (∀ p ∈ kvs, isTup p.1 = true) → (∀ p ∈ kvs, isKey p.1 = true) →
      ∃ xs : List (D × Addr × Value), TR X.K H kvs xs ∧ (es.map fun e => (⟨hsh X.w e.1, e.2.1, e.2.2⟩ : DictEntry)) = xs.map (entryOfKey (nestKind X.prog X.w)) ∧ ∀ x ∈ xs, (nestKind X.prog X.w).is s.heap x.1 x.2.1 := by
    intro kvs
    induction kvs with
    | nil => intro es h _ _; cases h; exact ⟨[], rfl, rfl, fun _ z => nomatch z⟩
    | cons p ps ih =>
      intro es ⟨en, r, e1, e2, e3, e4, e5⟩ ht hk
      subst e1
      obtain ⟨xs, t1, t2, t3⟩ := ih r e5 (fun q m => ht q (List.mem_cons_of_mem _ m)) (fun q m => hk q (List.mem_cons_of_mem _ m))
      obtain ⟨b, hb⟩ := isTup_ref e3 (ht p List.mem_cons_self)
      obtain ⟨v, rd, rv⟩ := id e3
      refine ⟨(p.1, b, en.2.2) :: xs, ⟨_, xs, rfl, rfl, by rw [← hb]; exact e3, e4, t1⟩, ?_, fun x m => ?_⟩
      · rw [List.map_cons, List.map_cons, t2]
        congr 1
        show (⟨hsh X.w en.1, en.2.1, en.2.2⟩ : DictEntry) = ⟨hsh X.w p.1, .ref b, en.2.2⟩
        rw [e2, hb]
      · rcases List.mem_cons.mp m with rfl | m
        · exact ⟨ht p List.mem_cons_self, by rw [← hb]; exact key_at I 4 _ _ _ (hk p List.mem_cons_self) rd rv⟩
        · exact t3 x m
  obtain ⟨xs, t1, t2, t3⟩ := key kvs es r ht g.2.2.1
  exact ⟨xs, ⟨o, _, ep, h1, h2, h3, by simpa using t2, t3, by rw [t1.keys]; exact g.1⟩, t1, h4, g⟩
theorem nodup_ky : ∀ {kvs : List (D × D)}, (∀ p ∈ kvs, isKey p.1 = true) → (∀ p ∈ kvs, isTup p.1 = false) → (kvs.map (·.1)).Nodup → (kvs.map fun p => kyD p.1).Nodup
  | [], _, _, _ => List.nodup_nil
  | p :: ps, hk, ht, hn => by
    rw [List.map_cons, List.nodup_cons] at hn ⊢
    refine ⟨fun m => hn.1 ?_, nodup_ky (fun q m => hk q (List.mem_cons_of_mem _ m)) (fun q m => ht q (List.mem_cons_of_mem _ m)) hn.2⟩
    obtain ⟨q, mq, e⟩ := List.mem_map.mp m
    have := kyD_inj (hk q (List.mem_cons_of_mem _ mq)) (ht q (List.mem_cons_of_mem _ mq)) (hk p List.mem_cons_self) (ht p List.mem_cons_self) e
    exact List.mem_map.mpr ⟨q, mq, this⟩
/-- a table of flat keys -/
theorem view_f (I : L2.Inv X pins σ H s) {A : AH} (hA : RelH X.b A H) {a : Addr} {kvs : List (D × D)} (e : DicOf A a kvs) (ht : ∀ p ∈ kvs, isTup p.1 = false) :
    ∃ xs, s.heap.DictOf (mixKind X.prog X.w) a xs ∧ FR X.K H kvs xs ∧ (a == sysModules) = false ∧ GoodD kvs := by
  obtain ⟨es, ⟨o, ep, h1, h2, h3, h4⟩, r, g⟩ := view_at I hA e
  have key : ∀ (kvs : List (D × D)) (es : List Ent), EntL X.K H kvs es → (∀ p ∈ kvs, isTup p.1 = false) → (∀ p ∈ kvs, isKey p.1 = true) →
      ∃ xs : List (Key × Value), FR X.K H kvs xs ∧ Pairs (mixKind X.prog X.w) (es.map fun e => (⟨hsh X.w e.1, e.2.1, e.2.2⟩ : DictEntry)) xs ∧ ∀ en ∈ (es.map fun e => (⟨hsh X.w e.1, e.2.1, e.2.2⟩ : DictEntry)), ∃ k, (mixKind X.prog X.w).is k en.key = true ∧ en.hash = (mixKind X.prog X.w).hash k := by
    intro kvs
    induction kvs with
    | nil => intro es h _ _; cases h; exact ⟨[], rfl, .nil, fun _ z => nomatch z⟩
    | cons p ps ih =>
      intro es ⟨en, r, e1, e2, e3, e4, e5⟩ ht hk
      subst e1
      obtain ⟨xs, t1, t2, t3⟩ := ih r e5 (fun q m => ht q (List.mem_cons_of_mem _ m)) (fun q m => hk q (List.mem_cons_of_mem _ m))
      obtain ⟨v, rd, rv⟩ := id e3
      have hv := kyD_rel (hk p List.mem_cons_self) (ht p List.mem_cons_self) rd
      subst hv
      have is : (mixKind X.prog X.w).is (kyD p.1) en.2.1 = true := kV_is rv
      refine ⟨(kyD p.1, en.2.2) :: xs, ⟨_, xs, rfl, rfl, e4, t1⟩, .cons is rfl t2, fun x m => ?_⟩
      rw [List.map_cons] at m
      rcases List.mem_cons.mp m with rfl | m
      · refine ⟨kyD p.1, is, ?_⟩
        show hsh X.w en.1 = keyH X.w (kyD p.1)
        rw [e2]; exact kyD_hash X.w (hk p List.mem_cons_self) (ht p List.mem_cons_self)
      · exact t3 x m
  obtain ⟨xs, t1, t2, t3⟩ := key kvs es r ht g.2.2.1
  exact ⟨xs, ⟨o, _, ep, h1, h2, h3, fun en m => t3 en (by simpa using m), by simpa using t2, by rw [t1.keys]; exact nodup_ky g.2.2.1 ht g.1⟩, t1, h4, g⟩
theorem TR.get {K : PySem.W.Frag} {k : D} : ∀ {kvs : List (D × D)} {xs : List (D × Addr × Value)}, TR K H kvs xs → (dget kvs k = none ∧ atKey xs k = none) ∨ ∃ d p, dget kvs k = some d ∧ atKey xs k = some p ∧ ReV K H d p.2
  | [], _, h => by cases h; exact .inl ⟨rfl, rfl⟩
  | q :: ps, _, ⟨x, r, e, h1, h2, h3, t⟩ => by
    cases e
    unfold dget atKey
    by_cases c : q.1 = k
    · refine .inr ⟨q.2, x.2, ?_, ?_, h3⟩
      · simp [List.find?_cons, c]
      · simp [List.find?_cons, h1.trans c]
    · have c' : ¬ x.1 = k := fun z => c (h1.symm.trans z)
      have ih := TR.get (k := k) t
      unfold dget atKey at ih
      simpa only [List.find?_cons, decide_eq_false c, decide_eq_false c'] using ih
theorem FR.get {K : PySem.W.Frag} {k : D} (hk : isKey k = true) (ht : isTup k = false) : ∀ {kvs : List (D × D)} {xs : List (Key × Value)}, (∀ p ∈ kvs, isKey p.1 = true) → (∀ p ∈ kvs, isTup p.1 = false) → FR K H kvs xs →
    (dget kvs k = none ∧ valueAt xs (kyD k) = none) ∨ ∃ d v, dget kvs k = some d ∧ valueAt xs (kyD k) = some v ∧ ReV K H d v
  | [], _, _, _, h => by cases h; exact .inl ⟨rfl, rfl⟩
  | q :: ps, _, g1, g2, ⟨x, r, e, h1, h3, t⟩ => by
    cases e
    unfold dget valueAt
    by_cases c : q.1 = k
    · refine .inr ⟨q.2, x.2, ?_, ?_, h3⟩
      · simp [List.find?_cons, c]
      · simp [List.find?_cons, h1, c]
    · have c' : ¬ x.1 = kyD k := fun z => c (kyD_inj (g1 q List.mem_cons_self) (g2 q List.mem_cons_self) hk ht (h1.symm.trans z))
      have ih := FR.get hk ht (fun p m => g1 p (List.mem_cons_of_mem _ m)) (fun p m => g2 p (List.mem_cons_of_mem _ m)) t
      unfold dget valueAt at ih
      simpa only [List.find?_cons, decide_eq_false c, decide_eq_false c'] using ih
theorem okK_key {kvs : List (D × D)} {k : D} (h : okK kvs k = true) : isKey k = true := (Bool.and_eq_true_iff.mp h).1
theorem okK_all {kvs : List (D × D)} {k : D} (h : okK kvs k = true) : ∀ p ∈ kvs, isTup p.1 = isTup k := fun p m => by
  have := List.all_eq_true.mp (Bool.and_eq_true_iff.mp h).2 p m
  simpa using this
variable {A₀ : Around} {E : Value → Shared → Prop} {A : AH} {a : Addr} {kvs : List (D × D)} {k : D} {y : V} {u : Value}
theorem x_getItem {d : D} {Q : Value → Shared → Prop} (hu : A₀.units + 5 < cLine) (I : L2.Inv X pins σ H s) (hA : RelH X.b A H) (e : DicOf A a kvs) (ok : okK kvs k = true) (rk : RelD X.K H k y) (ry : RelV y u) (hd : dget kvs k = some d)
    (h : ∀ w' s', L2.Inv X pins σ H s' → ReV X.K H d w' → Q w' s') : s.TypeIs (.ref a) "dict" ∧ wpAny (model X.prog X.w) A₀ (getItem (.ref a) u) Q E s := by
  have all := okK_all ok
  cases ht : isTup k with
  | true =>
    rw [ht] at all
    obtain ⟨xs, dd, t, hs, g⟩ := view_t I hA e all
    obtain ⟨b, hb⟩ := isTup_ref ⟨y, rk, ry⟩ ht
    subst hb
    rcases t.get (k := k) with ⟨z, _⟩ | ⟨d', p, h1, h2, h3⟩
    · rw [hd] at z; cases z
    · rw [hd] at h1; cases h1
      exact ⟨dd.typeIs, wpAny_getItem_heap (knd := nestKind X.prog X.w) (by show A₀.units + 1 + 4 < cLine; omega) ⟨ht, key_at I 4 _ _ _ (okK_key ok) rk ry⟩ dd h2 (h _ _ (I.tok _) h3)⟩
  | false =>
    rw [ht] at all
    obtain ⟨xs, dd, t, hs, g⟩ := view_f I hA e all
    have := kyD_rel (okK_key ok) ht rk
    subst this
    rcases t.get (okK_key ok) ht g.2.2.1 all with ⟨z, _⟩ | ⟨d', v, h1, h2, h3⟩
    · rw [hd] at z; cases z
    · rw [hd] at h1; cases h1
      exact ⟨dd.typeIs, wpAny_getItem_of (kV_is ry) dd.mapOf h2 (h _ _ (I.tok _) h3)⟩
theorem x_in {Q : Value → Shared → Prop} (hu : A₀.units + 5 < cLine) (I : L2.Inv X pins σ H s) (hA : RelH X.b A H) (e : DicOf A a kvs) (ok : okK kvs k = true) (rk : RelD X.K H k y) (ry : RelV y u)
    (h : ∀ s', L2.Inv X pins σ H s' → Q (.bool (dget kvs k).isSome) s') : wpAny (model X.prog X.w) A₀ (compareOp .In u (.ref a)) Q E s := by
  have all := okK_all ok
  cases ht : isTup k with
  | true =>
    rw [ht] at all
    obtain ⟨xs, dd, t, hs, g⟩ := view_t I hA e all
    obtain ⟨b, hb⟩ := isTup_ref ⟨y, rk, ry⟩ ht
    subst hb
    refine wpAny_in_heap (knd := nestKind X.prog X.w) (by show A₀.units + 1 + 4 < cLine; omega) ⟨ht, key_at I 4 _ _ _ (okK_key ok) rk ry⟩ hs dd ?_
    have z := h _ (I.tok (s.toks + drw k))
    rcases t.get (k := k) with ⟨h1, h2⟩ | ⟨d', p, h1, h2, h3⟩
    · rw [h1] at z; rw [h2]; exact z
    · rw [h1] at z; rw [h2]; exact z
  | false =>
    rw [ht] at all
    obtain ⟨xs, dd, t, hs, g⟩ := view_f I hA e all
    have := kyD_rel (okK_key ok) ht rk
    subst this
    refine wpAny_in_of (kV_is ry) hs dd.mapOf ?_
    have z := h _ (I.tok (s.toks + 1))
    rcases t.get (okK_key ok) ht g.2.2.1 all with ⟨h1, h2⟩ | ⟨d', v, h1, h2, h3⟩
    · rw [h1] at z; rw [h2]; exact z
    · rw [h1] at z; rw [h2]; exact z
theorem x_notIn {Q : Value → Shared → Prop} (hu : A₀.units + 5 < cLine) (I : L2.Inv X pins σ H s) (hA : RelH X.b A H) (e : DicOf A a kvs) (ok : okK kvs k = true) (rk : RelD X.K H k y) (ry : RelV y u)
    (h : ∀ s', L2.Inv X pins σ H s' → Q (.bool (!(dget kvs k).isSome)) s') : wpAny (model X.prog X.w) A₀ (compareOp .NotIn u (.ref a)) Q E s := by
  have all := okK_all ok
  cases ht : isTup k with
  | true =>
    rw [ht] at all
    obtain ⟨xs, dd, t, hs, g⟩ := view_t I hA e all
    obtain ⟨b, hb⟩ := isTup_ref ⟨y, rk, ry⟩ ht
    subst hb
    refine wpAny_notIn_heap (knd := nestKind X.prog X.w) (by show A₀.units + 1 + 4 < cLine; omega) ⟨ht, key_at I 4 _ _ _ (okK_key ok) rk ry⟩ hs dd ?_
    have z := h _ (I.tok (s.toks + drw k))
    rcases t.get (k := k) with ⟨h1, h2⟩ | ⟨d', p, h1, h2, h3⟩
    · rw [h1] at z; rw [h2]; exact z
    · rw [h1] at z; rw [h2]; exact z
  | false =>
    rw [ht] at all
    obtain ⟨xs, dd, t, hs, g⟩ := view_f I hA e all
    have := kyD_rel (okK_key ok) ht rk
    subst this
    refine wpAny_notIn_of (kV_is ry) hs dd.mapOf ?_
    have z := h _ (I.tok (s.toks + 1))
    rcases t.get (okK_key ok) ht g.2.2.1 all with ⟨h1, h2⟩ | ⟨d', v, h1, h2, h3⟩
    · rw [h1] at z; rw [h2]; exact z
    · rw [h1] at z; rw [h2]; exact z
theorem ReV.getD {K : PySem.W.Frag} {o : Option D} {w : Option Value} {d : D} {v : Value} (h : (o = none ∧ w = none) ∨ ∃ e x, o = some e ∧ w = some x ∧ ReV K H e x) (r : ReV K H d v) : ReV K H (o.getD d) (w.getD v) := by
  rcases h with ⟨rfl, rfl⟩ | ⟨e, x, rfl, rfl, h⟩
  · exact r
  · exact h
theorem x_get {d : D} {r : Value} {more : List Value} {Q : Value → Shared → Prop} (hm : (more = [] ∧ d = .non ∧ r = .none) ∨ more = [r]) (hu : A₀.units + 5 < cLine) (I : L2.Inv X pins σ H s) (hA : RelH X.b A H) (e : DicOf A a kvs) (ok : okK kvs k = true) (rk : RelD X.K H k y) (ry : RelV y u) (rd : ReV X.K H d r)
    (h : ∀ w' s', L2.Inv X pins σ H s' → ReV X.K H ((dget kvs k).getD d) w' → Q w' s') : wpAny (model X.prog X.w) A₀ (call (.builtin "dict.get") (.ref a :: u :: more)) Q E s := by
  have all := okK_all ok
  cases ht : isTup k with
  | true =>
    rw [ht] at all
    obtain ⟨xs, dd, t, hs, g⟩ := view_t I hA e all
    obtain ⟨b, hb⟩ := isTup_ref ⟨y, rk, ry⟩ ht
    subst hb
    have t' : (dget kvs k = none ∧ (atKey xs k).map (·.2) = none) ∨ ∃ e x, dget kvs k = some e ∧ (atKey xs k).map (·.2) = some x ∧ ReV X.K H e x := by
      rcases t.get (k := k) with ⟨h1, h2⟩ | ⟨d', p, h1, h2, h3⟩
      · exact .inl ⟨h1, by rw [h2]; rfl⟩
      · exact .inr ⟨d', p.2, h1, by rw [h2]; rfl, h3⟩
    rcases hm with ⟨rfl, rfl, rfl⟩ | rfl
    · exact call_meetsIn PySem.F.slot_dict_get dd.typeIs PySem.F.entry_dict_get (PySem.F.args_dict_get_2 _ _) (meetsH_dict_get (nestKind X.prog X.w) a b hs) ⟨by show A₀.units + 1 + 4 < cLine; omega, k, xs, ⟨ht, key_at I 4 _ _ _ (okK_key ok) rk ry⟩, dd, h _ _ (I.tok _) (ReV.getD t' rd)⟩
    · exact call_meetsIn PySem.F.slot_dict_get dd.typeIs PySem.F.entry_dict_get (PySem.F.args_dict_get_3 _ _ _) (meetsH_dict_get_default (nestKind X.prog X.w) a b hs r) ⟨by show A₀.units + 1 + 4 < cLine; omega, k, xs, ⟨ht, key_at I 4 _ _ _ (okK_key ok) rk ry⟩, dd, h _ _ (I.tok _) (ReV.getD t' rd)⟩
  | false =>
    rw [ht] at all
    obtain ⟨xs, dd, t, hs, g⟩ := view_f I hA e all
    have := kyD_rel (okK_key ok) ht rk
    subst this
    have t' := t.get (okK_key ok) ht g.2.2.1 all
    rcases hm with ⟨rfl, rfl, rfl⟩ | rfl
    · exact call_meetsIn PySem.F.slot_dict_get dd.typeIs PySem.F.entry_dict_get (PySem.F.args_dict_get_2 _ _) (meets_dict_get (mixKind X.prog X.w) a (kV_is ry) hs) ⟨_, dd.mapOf, h _ _ (I.tok _) (ReV.getD t' rd)⟩
    · exact call_meetsIn PySem.F.slot_dict_get dd.typeIs PySem.F.entry_dict_get (PySem.F.args_dict_get_3 _ _ _) (meets_dict_get_default (mixKind X.prog X.w) a (kV_is ry) hs r) ⟨_, dd.mapOf, h _ _ (I.tok _) (ReV.getD t' rd)⟩
end
end DL
set_option Elab.async false
set_option linter.all false
set_option maxRecDepth 100000
set_option maxHeartbeats 1000000
/-! DL8: dicts over plain data: stores, setdefault; the rules by values; displays. -/
namespace DL
open PySem PySem.Spec PyProof.Rows L2
section
variable {X : Cx} {pins : List (Addr × Obj)} {σ : L2.St} {H : Hp} {s : Shared}
theorem dput_any {α : Type} (kvs : List (D × α)) (k : D) : (kvs.any fun p => decide (p.1 = k)) = (dget kvs k).isSome := by
  induction kvs with
  | nil => rfl
  | cons q ps ih =>
    unfold dget at ih ⊢
    by_cases c : q.1 = k
    · simp [List.find?_cons, c]
    · simp only [List.any_cons, List.find?_cons, decide_eq_false c, Bool.false_or]
      exact ih
theorem keys_dput {α : Type} (kvs : List (D × α)) (k : D) (v : α) : (dput kvs k v).map (·.1) = if (dget kvs k).isSome then kvs.map (·.1) else kvs.map (·.1) ++ [k] := by
  unfold dput
  rw [dput_any]
  split
  · rw [List.map_map]
    apply List.map_congr_left
    intro p _
    show (if p.1 = k then (p.1, v) else p).1 = p.1
    split <;> rfl
  · simp
theorem dget_mem {α : Type} {kvs : List (D × α)} {k : D} : (dget kvs k).isSome = true ↔ k ∈ kvs.map (·.1) := by
  rw [← dput_any, List.any_eq_true, List.mem_map]
  constructor
  · rintro ⟨p, m, e⟩; exact ⟨p, m, of_decide_eq_true e⟩
  · rintro ⟨p, m, e⟩; exact ⟨p, m, decide_eq_true e⟩
theorem GoodD.put {kvs : List (D × D)} {k d : D} (g : GoodD kvs) (ok : okK kvs k = true) (hl : kvs.length < SL) : GoodD (dput kvs k d) := by
  have hk := okK_key ok
  have all := okK_all ok
  have mem : ∀ p ∈ dput kvs k d, p.1 = k ∨ p.1 ∈ kvs.map (·.1) := fun p m => by
    have : p.1 ∈ (dput kvs k d).map (·.1) := List.mem_map.mpr ⟨p, m, rfl⟩
    rw [keys_dput] at this
    split at this
    · exact .inr this
    · rcases List.mem_append.mp this with h | h
      · exact .inr h
      · exact .inl (by simpa using h)
  refine ⟨?_, ?_, fun p m => ?_, isTup k, fun p m => ?_⟩
  · rw [keys_dput]
    split
    · exact g.1
    · rename_i h
      refine List.nodup_append.mpr ⟨g.1, by simp, fun x hx y hy e => ?_⟩
      simp at hy
      subst hy e
      exact h (dget_mem.mpr hx)
  · have h1 := congrArg List.length (keys_dput kvs k d)
    have h2 := g.2.1
    rw [SL_eq] at h2 ⊢
    rw [List.length_map] at h1
    rw [h1]
    split <;> simp <;> omega
  · rcases mem p m with e | e
    · rw [e]; exact hk
    · obtain ⟨q, mq, e⟩ := List.mem_map.mp e
      rw [← e]; exact g.2.2.1 q mq
  · rcases mem p m with e | e
    · rw [e]
    · obtain ⟨q, mq, e⟩ := List.mem_map.mp e
      rw [← e]; exact all q mq
theorem GoodD.nil : GoodD [] := ⟨List.nodup_nil, Nat.zero_le _, (fun _ z => by cases z), false, (fun _ z => by cases z)⟩
theorem TR.any {K : PySem.W.Frag} {kvs : List (D × D)} {xs : List (D × Addr × Value)} (t : TR K H kvs xs) (k : D) : (kvs.any fun p => decide (p.1 = k)) = (atKey xs k).isSome := by
  rw [dput_any]
  rcases t.get (k := k) with ⟨h1, h2⟩ | ⟨d, p, h1, h2, _⟩
  · rw [h1, h2]; rfl
  · rw [h1, h2]; rfl
theorem TR.repl {K : PySem.W.Frag} {k d : D} {v : Value} (rd : ReV K H d v) : ∀ {kvs : List (D × D)} {xs : List (D × Addr × Value)}, TR K H kvs xs → TR K H (kvs.map fun p => if p.1 = k then (p.1, d) else p) (xs.map (putAt k v))
  | [], _, h => by cases h; rfl
  | q :: ps, _, ⟨x, r, e, h1, h2, h3, t⟩ => by
    cases e
    rw [List.map_cons, List.map_cons]
    have ih := TR.repl (k := k) rd t
    unfold putAt
    by_cases c : q.1 = k
    · rw [if_pos c, if_pos (h1.trans c)]
      exact ⟨_, _, rfl, h1, h2, rd, ih⟩
    · rw [if_neg c, if_neg (fun z => c (h1.symm.trans z))]
      exact ⟨_, _, rfl, h1, h2, h3, ih⟩
theorem TR.snoc {K : PySem.W.Frag} {k d : D} {b : Addr} {v : Value} (rk : ReV K H k (.ref b)) (rd : ReV K H d v) : ∀ {kvs : List (D × D)} {xs : List (D × Addr × Value)}, TR K H kvs xs → TR K H (kvs ++ [(k, d)]) (xs ++ [(k, b, v)])
  | [], _, h => by cases h; exact ⟨_, _, rfl, rfl, rk, rd, rfl⟩
  | q :: ps, _, ⟨x, r, e, h1, h2, h3, t⟩ => by
    cases e
    exact ⟨_, _, rfl, h1, h2, h3, TR.snoc rk rd t⟩
theorem TR.put {K : PySem.W.Frag} {k d : D} {b : Addr} {v : Value} (rk : ReV K H k (.ref b)) (rd : ReV K H d v) {kvs : List (D × D)} {xs : List (D × Addr × Value)} (t : TR K H kvs xs) : TR K H (dput kvs k d) (storedH xs k b v) := by
  unfold dput storedH
  rw [t.any k]
  by_cases c : (atKey xs k).isSome = true
  · rw [if_pos c, if_pos c]; exact t.repl rd
  · rw [if_neg c, if_neg c]; exact t.snoc rk rd
theorem TR.ents {K : PySem.W.Frag} {w : World} {P : Program} : ∀ {kvs : List (D × D)} {xs : List (D × Addr × Value)}, TR K H kvs xs → ∃ es : List Ent, EntL K H kvs es ∧ xs.map (entryOfKey (nestKind P w)) = es.map fun e => (⟨hsh w e.1, e.2.1, e.2.2⟩ : DictEntry)
  | [], _, h => by cases h; exact ⟨[], rfl, rfl⟩
  | q :: ps, _, ⟨x, r, e, h1, h2, h3, t⟩ => by
    cases e
    obtain ⟨es, a, b⟩ := TR.ents (w := w) (P := P) t
    refine ⟨(q.1, .ref x.2.1, x.2.2) :: es, ⟨_, _, rfl, rfl, h2, h3, a⟩, ?_⟩
    rw [List.map_cons, List.map_cons, b]
    congr 1
    show (⟨hsh w x.1, .ref x.2.1, x.2.2⟩ : DictEntry) = ⟨hsh w q.1, .ref x.2.1, x.2.2⟩
    rw [h1]
/-- a key's text is a text -/
def chk : D → Prop
  | .str l => ∀ c ∈ l, c < 1114112
  | _ => True
theorem chk_of {K : PySem.W.Frag} {d : D} {v : V} (r : RelD K H d v) : chk d := by
  cases d with
  | str l => exact r.2
  | _ => trivial
theorem FR.any {K : PySem.W.Frag} {kvs : List (D × D)} {xs : List (Key × Value)} {k : D} (hk : isKey k = true) (ht : isTup k = false) (g1 : ∀ p ∈ kvs, isKey p.1 = true) (g2 : ∀ p ∈ kvs, isTup p.1 = false) (t : FR K H kvs xs) :
    (kvs.any fun p => decide (p.1 = k)) = xs.any fun kv => decide (kv.1 = kyD k) := by
  induction kvs generalizing xs with
  | nil => cases t; rfl
  | cons q ps ih =>
    obtain ⟨x, r, e, h1, h3, t⟩ := t
    cases e
    rw [List.any_cons, List.any_cons, ih (fun p m => g1 p (List.mem_cons_of_mem _ m)) (fun p m => g2 p (List.mem_cons_of_mem _ m)) t, h1]
    congr 1
    by_cases c : q.1 = k
    · rw [c]; simp
    · rw [decide_eq_false c, decide_eq_false fun z => c (kyD_inj (g1 q List.mem_cons_self) (g2 q List.mem_cons_self) hk ht z)]
theorem FR.repl {K : PySem.W.Frag} {k d : D} {v : Value} (hk : isKey k = true) (ht : isTup k = false) (rd : ReV K H d v) : ∀ {kvs : List (D × D)} {xs : List (Key × Value)}, (∀ p ∈ kvs, isKey p.1 = true) → (∀ p ∈ kvs, isTup p.1 = false) → FR K H kvs xs →
    FR K H (kvs.map fun p => if p.1 = k then (p.1, d) else p) (xs.map fun kv => if kv.1 = kyD k then (kv.1, v) else kv)
  | [], _, _, _, h => by cases h; rfl
  | q :: ps, _, g1, g2, ⟨x, r, e, h1, h3, t⟩ => by
    cases e
    rw [List.map_cons, List.map_cons]
    have ih := FR.repl (k := k) hk ht rd (fun p m => g1 p (List.mem_cons_of_mem _ m)) (fun p m => g2 p (List.mem_cons_of_mem _ m)) t
    by_cases c : q.1 = k
    · rw [if_pos c, if_pos (by rw [h1, c])]
      exact ⟨_, _, rfl, h1, rd, ih⟩
    · rw [if_neg c, if_neg (fun z => c (kyD_inj (g1 q List.mem_cons_self) (g2 q List.mem_cons_self) hk ht (h1.symm.trans z)))]
      exact ⟨_, _, rfl, h1, h3, ih⟩
theorem FR.snoc {K : PySem.W.Frag} {k d : D} {v : Value} (rd : ReV K H d v) : ∀ {kvs : List (D × D)} {xs : List (Key × Value)}, FR K H kvs xs → FR K H (kvs ++ [(k, d)]) (xs ++ [(kyD k, v)])
  | [], _, h => by cases h; exact ⟨_, _, rfl, rfl, rd, rfl⟩
  | q :: ps, _, ⟨x, r, e, h1, h3, t⟩ => by
    cases e
    exact ⟨_, _, rfl, h1, h3, FR.snoc rd t⟩
theorem FR.put {K : PySem.W.Frag} {k d : D} {v : Value} {kvs : List (D × D)} {xs : List (Key × Value)} (hk : isKey k = true) (ht : isTup k = false) (g1 : ∀ p ∈ kvs, isKey p.1 = true) (g2 : ∀ p ∈ kvs, isTup p.1 = false) (rd : ReV K H d v) (t : FR K H kvs xs) :
    FR K H (dput kvs k d) (stored xs (kyD k) v) := by
  unfold dput stored
  rw [t.any hk ht g1 g2]
  by_cases c : (xs.any fun kv => decide (kv.1 = kyD k)) = true
  · rw [if_pos c, if_pos c]; exact t.repl hk ht rd g1 g2
  · rw [if_neg c, if_neg c]; exact t.snoc rd
theorem key_rel {K : PySem.W.Frag} {d : D} {u : Value} (hk : isKey d = true) (ht : isTup d = false) (hc : chk d) (h : keyIs (kyD d) u = true) : ReV K H d u := by
  cases d with
  | int i => exact ⟨.int i, rfl, relV_key h⟩
  | str l => exact ⟨.str ⟨l.toArray⟩, ⟨rfl, hc⟩, relV_key h⟩
  | tup l => cases ht
  | _ => cases hk
theorem FR.ents {K : PySem.W.Frag} {w : World} {P : Program} : ∀ {kvs : List (D × D)} {xs : List (Key × Value)} {es : List DictEntry}, (∀ p ∈ kvs, isKey p.1 = true) → (∀ p ∈ kvs, isTup p.1 = false) → (∀ p ∈ kvs, chk p.1) → FR K H kvs xs → Pairs (mixKind P w) es xs →
    (∀ e ∈ es, ∃ k, (mixKind P w).is k e.key = true ∧ e.hash = (mixKind P w).hash k) → ∃ es' : List Ent, EntL K H kvs es' ∧ es = es'.map fun e => (⟨hsh w e.1, e.2.1, e.2.2⟩ : DictEntry)
  | [], _, _, _, _, _, h, p, _ => by cases h; cases p; exact ⟨[], rfl, rfl⟩
  | q :: ps, _, _, g1, g2, g3, ⟨x, r, e, h1, h3, t⟩, p, hk => by
    cases e
    cases p with
    | @cons en kv es kvs p1 p2 p3 =>
      obtain ⟨es', a, b⟩ := FR.ents (fun p m => g1 p (List.mem_cons_of_mem _ m)) (fun p m => g2 p (List.mem_cons_of_mem _ m)) (fun p m => g3 p (List.mem_cons_of_mem _ m)) t p3 fun e m => hk e (List.mem_cons_of_mem _ m)
      have p1' : keyIs (kyD q.1) en.key = true := by rw [← h1]; exact p1
      refine ⟨(q.1, en.key, en.val) :: es', ⟨_, _, rfl, rfl, key_rel (g1 q List.mem_cons_self) (g2 q List.mem_cons_self) (g3 q List.mem_cons_self) p1', by show ReV K H q.2 en.val; rw [p2]; exact h3, a⟩, ?_⟩
      rw [List.map_cons, b]
      congr 1
      obtain ⟨k', i1, i2⟩ := hk en List.mem_cons_self
      have e2 : k' = x.1 := (mixKind P w).inj _ _ _ i1 p1
      obtain ⟨eh, ek, ev⟩ := en
      show (⟨eh, ek, ev⟩ : DictEntry) = ⟨hsh w q.1, ek, ev⟩
      rw [kyD_hash w (g1 q List.mem_cons_self) (g2 q List.mem_cons_self), ← h1, ← e2]
      congr 1
theorem dicAt_stay {w : World} {a : Addr} {es : List Ent} (h1 h2 : Heap) (h : DicAt w a es h1) (k : ∀ o, h1.get? a = some o → h2.get? a = some o) : DicAt w a es h2 :=
  let ⟨o, ep, e1, r⟩ := h; ⟨o, ep, k o e1, r⟩
theorem dic_ok {P : Program} {w : World} {H' : Hp} {h : Heap} {a : Addr} {es : List Ent} (x : DicAt w a es h) : ObjOk P w H' h a (.ext (DicAt w a es)) :=
  ⟨x, let ⟨o, _, e, _⟩ := x; ⟨o, e⟩, dicAt_stay⟩
theorem EntL.chk {K : PySem.W.Frag} : ∀ {kvs : List (D × D)} {es : List Ent}, EntL K H kvs es → ∀ p ∈ kvs, chk p.1
  | [], _, _, _, m => nomatch m
  | q :: ps, _, ⟨e, r, e1, e2, ⟨v, rv, _⟩, e4, t⟩, p, m => by
    rcases List.mem_cons.mp m with rfl | m
    · exact chk_of rv
    · exact EntL.chk t p m
variable {A₀ : Around} {E : Value → Shared → Prop} {A : AH} {a : Addr} {kvs : List (D × D)} {k d : D} {y : V} {u r : Value}
theorem grow_ext {o : HO} {φ : Heap → Prop} (h : H a = some (.ext φ)) : Grow H (upd H a o) := Grow.put h (fun _ z => nomatch z) (fun _ _ z => nomatch z)
theorem x_setItem {Q : Unit → Shared → Prop} (hu : A₀.units + 5 < cLine) (I : L2.Inv X pins σ H s) (hA : RelH X.b A H) (e : A a = some (.dic kvs)) (ok : okK kvs k = true) (hl : kvs.length < SL) (rk : RelD X.K H k y) (ry : RelV y u) (rd : ReV X.K H d r)
    (h : ∀ s' H', L2.Inv X pins σ H' s' → RelH X.b (up A a (.dic (dput kvs k d))) H' → Grow H H' → Q () s') : wpAny (model X.prog X.w) A₀ (setItem (.ref a) u r) Q E s := by
  have all := okK_all ok
  obtain ⟨es0, eH, re0, g⟩ := hA _ _ e
  have gp := g.put (d := d) ok hl
  have fin : ∀ {h' : Heap} {t' : Nat} {es : List Ent}, Heap.SameBut a s.heap h' → DicAt X.w a es h' → EntL X.K H (dput kvs k d) es → Q () { s with heap := h', toks := t' } := fun {h' t' es} sb da el => by
    have gr : Grow H (upd H a (.ext (DicAt X.w a es))) := grow_ext eH
    refine h _ (upd H a (.ext (DicAt X.w a es))) (I.write (x := a) (e := a) (t' := t') (by rw [eH]; trivial) (.inl rfl) (fun b q hb z => (sb.2 b hb).trans z) (let ⟨o, _, q, _⟩ := da; ⟨o, q⟩) (dic_ok da)) ?_ gr
    exact hA.put (u := .dic _) gr ⟨es, upd_same, el.grow gr, gp⟩
  cases ht : isTup k with
  | true =>
    rw [ht] at all
    obtain ⟨xs, dd, t, hs, _⟩ := view_t I hA (.inl e) all
    obtain ⟨b, hb⟩ := isTup_ref ⟨y, rk, ry⟩ ht
    subst hb
    refine wpAny_setItem_heap (knd := nestKind X.prog X.w) (hsz := by rw [t.length, SL_eq]; omega) (by show A₀.units + 1 + 4 < cLine; omega) ⟨ht, key_at I 4 _ _ _ (okK_key ok) rk ry⟩ dd fun h' dd' sb => ?_
    obtain ⟨es, el, ee⟩ := (t.put (k := k) (d := d) ⟨y, rk, ry⟩ rd).ents (w := X.w) (P := X.prog)
    obtain ⟨o, es2, ep, q1, q2, q3, q4, _⟩ := dd'
    exact fin sb ⟨o, ep, q1, q2, by rw [q3, ← ee, ← q4], hs⟩ el
  | false =>
    rw [ht] at all
    obtain ⟨xs, dd, t, hs, _⟩ := view_f I hA (.inl e) all
    have := kyD_rel (okK_key ok) ht rk
    subst this
    refine wpAny_setItem_pairs (hsz := by rw [t.length, SL_eq]; omega) (kV_is ry) dd fun h' dd' sb => ?_
    have t' := t.put (okK_key ok) ht g.2.2.1 all rd
    obtain ⟨o, es2, ep, q1, q2, q3, q4, q5, _⟩ := dd'
    have memk : ∀ p ∈ dput kvs k d, p.1 = k ∨ ∃ q ∈ kvs, q.1 = p.1 := fun p m => by
      have z : p.1 ∈ (dput kvs k d).map (·.1) := List.mem_map.mpr ⟨p, m, rfl⟩
      rw [keys_dput] at z
      split at z
      · exact .inr (by obtain ⟨q, mq, e⟩ := List.mem_map.mp z; exact ⟨q, mq, e⟩)
      · rcases List.mem_append.mp z with z | z
        · exact .inr (by obtain ⟨q, mq, e⟩ := List.mem_map.mp z; exact ⟨q, mq, e⟩)
        · exact .inl (by simpa using z)
    obtain ⟨es, el, ee⟩ := FR.ents (w := X.w) (P := X.prog) gp.2.2.1 (fun p m => by
        rcases memk p m with e | ⟨q, mq, e⟩
        · rw [e]; exact ht
        · rw [← e]; exact all q mq) (fun p m => by
        rcases memk p m with e | ⟨q, mq, e⟩
        · rw [e]; exact chk_of rk
        · rw [← e]; exact re0.chk q mq) t' q5 (fun en m => q4 en (by simpa using m))
    refine fin sb ⟨o, ep, q1, q2, ?_, hs⟩ el
    rw [q3, ← ee]
/-- a new dict -/
theorem x_new {es : List Ent} {h' : Heap} {t' : Nat} (I : L2.Inv X pins σ H s) (hA : RelH X.b A H) (hp : s.heap.objs.size ≤ a) (k : ∀ b o, s.heap.get? b = some o → h'.get? b = some o) (da : DicAt X.w a es h') (el : EntL X.K H kvs es) (g : GoodD kvs) :
    L2.Inv X pins σ (upd H a (.ext (DicAt X.w a es))) { s with heap := h', toks := t' } ∧ RelH X.b (up A a (.dic kvs)) (upd H a (.ext (DicAt X.w a es))) ∧ H a = none := by
  have hn := I.hok.fresh hp
  exact ⟨I.laid k hp (dic_ok da), hA.add (u := .dic _) hn ⟨es, upd_same, el.grow (Grow.new hn), g⟩, hn⟩
theorem dicAt_empty (I : L2.Inv X pins σ H s) : DicAt X.w s.heap.objs.size [] (s.heap.push { cls := .type "dict", data := .dict #[] }) :=
  ⟨_, 0, Heap.get?_push_size _ rfl, ⟨rfl, rfl, rfl⟩, rfl, beq_eq_false_iff_ne.mpr (Ne.symm (Nat.ne_of_lt I.big))⟩
end

/-! ### the rules by values -/
def dicGetD (A : AH) (a : Addr) : Option (List (D × D)) := match A a with
  | some (.dic kvs) => some kvs
  | some (.fdic _ kvs) => some kvs
  | _ => none
theorem dicGetD_of {A : AH} {a : Addr} {kvs : List (D × D)} (h : dicGetD A a = some kvs) : DicOf A a kvs := by
  unfold dicGetD at h
  split at h
  · rename_i q; cases h; exact .inl q
  · rename_i q; cases h; exact .inr ⟨_, q⟩
  · cases h
/-- d[k], there -/
def fDGet : DR2
  | .ref a, k, A, Q => match dicGetD A a with
    | some kvs => okK kvs k = true ∧ match dget kvs k with
      | some d => Q d A
      | none => False
    | none => False
  | _, _, _, _ => False
/-- k in d -/
def fDIn : DR2
  | k, .ref a, A, Q => match dicGetD A a with
    | some kvs => okK kvs k = true ∧ Q (.bl (dget kvs k).isSome) A
    | none => False
  | _, _, _, _ => False
def fDNotIn : DR2
  | k, .ref a, A, Q => match dicGetD A a with
    | some kvs => okK kvs k = true ∧ Q (.bl (!(dget kvs k).isSome)) A
    | none => False
  | _, _, _, _ => False
/-- d[k] = v -/
def fDSet : DSet
  | .ref a, k, d, A, Q => match A a with
    | some (.dic kvs) => okK kvs k = true ∧ kvs.length < SL ∧ Q (up A a (.dic (dput kvs k d)))
    | _ => False
  | _, _, _, _, _ => False
def isDc : D → AH → Prop
  | .ref a, A => ∃ kvs, dicGetD A a = some kvs
  | _, _ => False
def fDGetM : D → DRn
  | .ref a, [k], A, Q => match dicGetD A a with
    | some kvs => okK kvs k = true ∧ Q ((dget kvs k).getD .non) A
    | none => False
  | .ref a, [k, d], A, Q => match dicGetD A a with
    | some kvs => okK kvs k = true ∧ Q ((dget kvs k).getD d) A
    | none => False
  | _, _, _, _ => False
section
variable {X : Cx}
theorem dict_ty {pins : List (Addr × Obj)} {σ : L2.St} {H : Hp} {s : Shared} {A : AH} {a : Addr} {kvs : List (D × D)} (I : L2.Inv X pins σ H s) (hA : RelH X.b A H) (h : dicGetD A a = some kvs) :
    s.TypeIs (.ref a) "dict" ∧ (∀ b, Value.ref a = .ref b → ∃ ob, s.heap.get? b = some ob ∧ ob.dict = none) := by
  obtain ⟨es, ⟨o, ep, h1, h2, _⟩, _⟩ := view_at I hA (dicGetD_of h)
  refine ⟨⟨o, h1, h2.1⟩, fun b e => ?_⟩
  cases e
  exact ⟨o, h1, h2.2.1⟩
theorem d_dget (hu : X.A.units + 64 < cLine) : DIx X fDGet := by
  refine ⟨fun x y H Q => lR2 X.b fDGet x y H Q, ?_, fun x y A R v u H Q hA rx ry q k => ⟨x, y, A, R, hA, rx, ry, q, k⟩⟩
  intro value slice pins s σ H x y v u Q I rx ry ⟨dx, dy, A, R, hA, r1, r2, q, k⟩ hs
  unfold fDGet at q
  split at q
  · cases r1; cases rx
    split at q
    · rename_i kvs hq
      obtain ⟨ok, q⟩ := q
      split at q
      · rename_i d hd
        have z := x_getItem (A₀ := X.A) (E := X.xe) (Q := EP X pins σ Q) (by omega) I hA (dicGetD_of hq) ok r2 ry hd fun w' s' I' ⟨v, rv, rw'⟩ => ⟨v, H, I', rw', k.at q hA rv⟩
        exact tail_any z.1 PySem.F.slot_dict_getitem.lookup z.2 hs
      · exact q.elim
    · exact q.elim
  · exact q.elim
theorem d_din (hu : X.A.units + 64 < cLine) : DOp X (compareOp .In) fDIn := DOp.raw fun pins s σ H x y v u Q I rx ry ⟨dx, dy, A, R, hA, r1, r2, q, k⟩ => by
  unfold fDIn at q
  split at q
  · cases r2; cases ry
    split at q
    · rename_i kvs hq
      exact x_in (by omega) I hA (dicGetD_of hq) q.1 r1 rx fun s' I' => ⟨.bl _, H, I', rfl, k.at q.2 hA rfl⟩
    · exact q.elim
  · exact q.elim
theorem d_dnotin (hu : X.A.units + 64 < cLine) : DOp X (compareOp .NotIn) fDNotIn := DOp.raw fun pins s σ H x y v u Q I rx ry ⟨dx, dy, A, R, hA, r1, r2, q, k⟩ => by
  unfold fDNotIn at q
  split at q
  · cases r2; cases ry
    split at q
    · rename_i kvs hq
      exact x_notIn (by omega) I hA (dicGetD_of hq) q.1 r1 rx fun s' I' => ⟨.bl _, H, I', rfl, k.at q.2 hA rfl⟩
    · exact q.elim
  · exact q.elim
theorem d_dset (hu : X.A.units + 64 < cLine) : DSt X fDSet := by
  refine ⟨fun o i v H Q => ∃ dO di dv A R, RelH X.b A H ∧ RelD X.K H dO o ∧ RelD X.K H di i ∧ RelD X.K H dv v ∧ fDSet dO di dv A R ∧ ∀ A' H', R A' → RelH X.b A' H' → Grow H H' → Q H', ?_, fun o i d A R ov iv v H Q hA ro ri rd q k => ⟨o, i, d, A, R, hA, ro, ri, rd, q, k⟩⟩
  intro pins s σ H o i v ov iv u Q I ro ri rv ⟨dO, di, dv, A, R, hA, r1, r2, r3, q, k⟩
  unfold fDSet at q
  split at q
  · cases r1; cases ro
    split at q
    · rename_i kvs hq
      exact x_setItem (by omega) I hA hq q.1 q.2.1 r2 ri ⟨v, r3, rv⟩ fun s' H' I' hA' g => ⟨H', I', k _ _ q.2.2 hA' g⟩
    · exact q.elim
  · exact q.elim
theorem DSt.or {f f1 f2 : DSet} (h1 : DSt X f1) (h2 : DSt X f2) (w : ∀ o i d A R, f o i d A R → f1 o i d A R ∨ f2 o i d A R) : DSt X f := by
  obtain ⟨r1, o1, i1⟩ := h1.ex
  obtain ⟨r2, o2, i2⟩ := h2.ex
  refine ⟨fun o i v H Q => r1 o i v H Q ∨ r2 o i v H Q, fun pins s σ H o i v ov iv u Q I ro ri rv q => ?_, fun o i d A R ov iv v H Q hA ro ri rd q k => ?_⟩
  · rcases q with q | q
    · exact o1 pins s σ H o i v ov iv u Q I ro ri rv q
    · exact o2 pins s σ H o i v ov iv u Q I ro ri rv q
  · rcases w o i d A R q with q | q
    · exact .inl (i1 o i d A R ov iv v H Q hA ro ri rd q k)
    · exact .inr (i2 o i d A R ov iv v H Q hA ro ri rd q k)
/-- a method of a dict by its rule -/
def MtD (X : Cx) (id : String) (f : D → DRn) : Prop :=
  ∀ (pins : List (Addr × Obj)) (s : Shared) (σ : L2.St) (H : Hp) (a : Addr) (ds : List D) (xs : List V) (us : List Value) (A : AH) (R : DQ), L2.Inv X pins σ H s → RelH X.b A H → RelL X.K H ds xs → Vals xs us → f (.ref a) ds A R →
    wpAny (model X.prog X.w) X.A (call (.builtin id) (.ref a :: us)) (fun u s' => ∃ v H' d A', L2.Inv X pins σ H' s' ∧ RelV v u ∧ R d A' ∧ RelH X.b A' H' ∧ RelD X.K H' d v ∧ Grow H H') X.xe s
theorem m_dget (hu : X.A.units + 64 < cLine) : MtD X "dict.get" fDGetM := by
  intro pins s σ H a ds xs us A R I hA rl rv q
  unfold fDGetM at q
  split at q
  · rename_i k e2
    cases e2
    obtain ⟨y, rfl, ry⟩ := rel1 rl
    obtain ⟨u, rfl, ru⟩ := rv.one
    split at q
    · rename_i kvs hq
      exact x_get (more := []) (d := .non) (.inl ⟨rfl, rfl, rfl⟩) (by omega) I hA (dicGetD_of hq) q.1 ry ru ⟨.non, rfl, rfl⟩ fun w' s' I' ⟨v, r1, r2⟩ => ⟨v, H, _, _, I', r2, q.2, hA, r1, Grow.refl⟩
    · exact q.elim
  · rename_i k d e2
    cases e2
    obtain ⟨y, z, rfl, ry, rz⟩ := rel2 rl
    obtain ⟨u, w, rfl, ru, rw'⟩ := rv.two
    split at q
    · rename_i kvs hq
      exact x_get (more := [w]) (d := d) (.inr rfl) (by omega) I hA (dicGetD_of hq) q.1 ry ru ⟨z, rz, rw'⟩ fun w' s' I' ⟨v, r1, r2⟩ => ⟨v, H, _, _, I', r2, q.2, hA, r1, Grow.refl⟩
    · exact q.elim
  · exact q.elim
variable {o e : Expr} {es : List Expr} {to : DTE} {t : DTA} {name : Str} {apos cpos : Pos} {id : String} {f : D → DRn}
theorem qe_dm (slot : Slot "dict" name id) (hty : typeOf (.builtin id) = pure (.type "method_descriptor")) (hm : MtD X id f) (ho : QE X o to) (ha : QA X (e :: es) t)
    (hbase : attributeBase o name X.env (eval o X.env) = eval o X.env := by rfl)
    (hfew : ((backTo cpos (starEach (e :: es) X.env)).all (fun x => !x.1) && (backToKw cpos (keywordEach [] X.env)).all (fun x => x.1.isSome)
      && decide ((e :: es).length + ([] : List Keyword).length + (if ([] : List Keyword).isEmpty then 0 else 1) < 30)) = true := by rfl)
    (hline : (apos.endLine == cpos.line) = true := by rfl) (hs : starEach (e :: es) X.env = (false, eval e X.env) :: starEach es X.env := by rfl) (hplain : (backTo cpos (starEach es X.env)).any (·.1) = false := by rfl) :
    QE X (.Call (.Attribute o name apos) (e :: es) [] cpos) (dBm isDc f to t) := by
  refine ⟨fun pins s σ H Q I ⟨dσ, A, R, hA, hS, q, k⟩ => ?_⟩
  refine wpAny_Call_method_late hbase hfew hline rfl (thn (ho.run pins s σ H _ I ⟨dσ, A, _, hA, hS, q, Kp.id⟩) fun v s1 ⟨x, H1, I1, r1, d1, A1, ⟨ty, q1⟩, hA1, rd1, g1⟩ => ?_)
  cases d1 with
  | ref a =>
    cases rd1; cases r1
    obtain ⟨kvs, hk⟩ := ty
    obtain ⟨h1, h2⟩ := dict_ty I1 hA1 hk
    refine ⟨"dict", id, PySem.F.plainAttrs_dict, slot, hty, h1, h2, ?_⟩
    have hq := ha.run cpos pins s1 σ H1 (fun vs H2 => ∃ ds A2, f (.ref a) ds A2 R ∧ RelH X.b A2 H2 ∧ RelL X.K H2 ds vs ∧ Grow H1 H2) I1 ⟨dσ, A1, _, hA1, hS.grow g1, q1, fun ds A2 vs H2 z _ hA2 rl g2 => ⟨ds, A2, z, hA2, rl, g2⟩⟩
    rw [hs] at hq ⊢
    refine Calls.callWith_builtin (by show (false || (backTo cpos (starEach es X.env)).any (·.1)) = false; rw [hplain] <;> rfl) (Calls.evalArgs_plain ?_)
    refine thn hq fun us s2 ⟨vs, H2, I2, r2, ds, A2, z, hA2, rl, g2⟩ => ?_
    refine thn (hm pins s2 σ H2 a ds vs us A2 R I2 hA2 rl r2 z) fun u s3 ⟨v, H3, d, A3, I3, r3, z3, hA3, rd3, g3⟩ => ?_
    exact ⟨v, H3, I3, r3, k _ _ _ _ z3 hA3 rd3 ((g1.trans g2).trans g3)⟩
  | _ => exact ty.elim
/-- {} -/
def dDNew : DTE := fun _ A Q => ∀ p, A p = none → Q (.ref p) (up A p (.dic []))
theorem qe_dnew {pos : Pos} : QE X (.Dict [] [] pos) dDNew := by
  refine ⟨fun pins s σ H Q I ⟨dσ, A, R, hA, hS, q, k⟩ => wpAny_Dict_empty ?_⟩
  obtain ⟨I', hA', hn⟩ := x_new (a := s.heap.objs.size) (t' := s.toks) (kvs := []) I hA (Nat.le_refl _) (fun _ _ q => Heap.get?_push_of_some _ q) (dicAt_empty I) rfl GoodD.nil
  exact ⟨.ref s.heap.objs.size, _, I', rfl, k _ _ _ _ (q _ (hA.free hn)) hA' rfl (Grow.new hn)⟩
end
end DL
set_option Elab.async false
set_option linter.all false
set_option maxRecDepth 100000
set_option maxHeartbeats 1000000
/-! DL9: order of keys (ints, texts, tuples of them), sorted. -/
namespace DL
open PySem PySem.Spec PyProof.Rows L2
/-! ### the order, in plain Lean -/
def rkD : D → Nat
  | .int _ => 1
  | .str _ => 2
  | .tup _ => 3
  | _ => 0
def lexW (lt : D → D → Bool) : List D → List D → Bool
  | [], [] => false
  | [], _ :: _ => true
  | _ :: _, [] => false
  | a :: l, b :: m => if lt a b = true then true else if lt b a = true then false else lexW lt l m
def ltD : Nat → D → D → Bool
  | _, .int i, .int j => decide (i < j)
  | _, .str l, .str m => decide (l < m)
  | n + 1, .tup l, .tup m => lexW (ltD n) l m
  | _, x, y => decide (rkD x < rkD y)
theorem lexW_swo {lt : D → D → Bool} (O : SrtO.Swo lt) : SrtO.Swo (lexW lt) := by
  have asym : ∀ x y, lexW lt x y = true → lexW lt y x = false := by
    intro x
    induction x with
    | nil => intro y; cases y <;> simp [lexW]
    | cons a l ih =>
      intro y
      cases y with
      | nil => simp [lexW]
      | cons b m =>
        unfold lexW
        rcases SrtO.bcase (lt a b) with h | h
        · rw [h, O.asym _ _ h]; simp
        · rcases SrtO.bcase (lt b a) with h' | h'
          · rw [h, h']; simp
          · rw [h, h']; simpa using ih m
  refine ⟨asym, ?_⟩
  intro x
  induction x with
  | nil => intro y z; cases z <;> cases y <;> simp [lexW]
  | cons a l ih =>
    intro y z
    cases y with
    | nil => simp [lexW]
    | cons b m =>
      cases z with
      | nil => simp [lexW]
      | cons c k =>
        unfold lexW
        intro h1 h2
        have n1 : lt b a = false := by
          rcases SrtO.bcase (lt b a) with q | q
          · rw [if_pos q] at h1; cases h1
          · exact q
        have n2 : lt c b = false := by
          rcases SrtO.bcase (lt c b) with q | q
          · rw [if_pos q] at h2; cases h2
          · exact q
        have n3 := O.tr _ _ _ n1 n2
        rw [n1] at h1
        rw [n2] at h2
        rw [n3]
        simp only [Bool.false_eq_true, if_false] at h1 h2 ⊢
        rcases SrtO.bcase (lt a c) with q | q
        · rw [q]; rfl
        · rw [q]
          simp only [Bool.false_eq_true, if_false]
          have q1 : lt a b = false := by
            rcases SrtO.bcase (lt a b) with p | p
            · have := O.ltle p n2
              rw [q] at this; cases this
            · exact p
          have q2 : lt b c = false := by
            rcases SrtO.bcase (lt b c) with p | p
            · have := O.lelt n1 p
              rw [q] at this; cases this
            · exact p
          rw [q1] at h1
          rw [q2] at h2
          exact ih m k (by simpa using h1) (by simpa using h2)
theorem natl_asym {l m : List Nat} (h : l < m) : ¬ m < l := List.lt_asymm h
theorem ltD_ne {n : Nat} {x y : D} (h : rkD x ≠ rkD y) : ltD n x y = decide (rkD x < rkD y) := by
  cases x <;> cases y <;> first | (exact absurd rfl h) | (cases n <;> rfl)
theorem swo_rk : ∀ n, SrtO.Swo (ltD n) := by
  intro n
  have gen : ∀ n, (∀ l m, ltD n (.tup l) (.tup m) = true → ltD n (.tup m) (.tup l) = false) → (∀ l m k, ltD n (.tup m) (.tup l) = false → ltD n (.tup k) (.tup m) = false → ltD n (.tup k) (.tup l) = false) → SrtO.Swo (ltD n) := by
    intro n t1 t2
    refine ⟨fun x y h => ?_, fun x y z h1 h2 => ?_⟩
    · by_cases e : rkD x = rkD y
      · cases x <;> cases y <;> first | (simp [rkD] at e; done) | skip
        case int.int i j => cases n <;> (simp only [ltD, decide_eq_true_eq, decide_eq_false_iff_not] at h ⊢; omega)
        case str.str l m => cases n <;> (simp only [ltD, decide_eq_true_eq, decide_eq_false_iff_not] at h ⊢; exact natl_asym h)
        case tup.tup l m => exact t1 l m h
        all_goals (cases n <;> simp [ltD, rkD] at h)
      · rw [ltD_ne e] at h
        rw [ltD_ne (Ne.symm e)]
        simp only [decide_eq_true_eq, decide_eq_false_iff_not] at h ⊢
        omega
    · by_cases e1 : rkD x = rkD y
      · by_cases e2 : rkD y = rkD z
        · cases x <;> cases y <;> first | (simp [rkD] at e1; done) | skip
          case int.int i j => cases z <;> first | (simp [rkD] at e2; done) | (cases n <;> (simp only [ltD, decide_eq_true_eq, decide_eq_false_iff_not] at h1 h2 ⊢; omega))
          case str.str l m => cases z <;> first | (simp [rkD] at e2; done) | (cases n <;> (simp only [ltD, decide_eq_true_eq, decide_eq_false_iff_not] at h1 h2 ⊢; exact List.not_lt.mpr (List.le_trans (List.not_lt.mp h1) (List.not_lt.mp h2))))
          case tup.tup l m => cases z <;> first | (simp [rkD] at e2; done) | (exact t2 _ _ _ h1 h2)
          all_goals (cases z <;> first | (simp [rkD] at e2; done) | (cases n <;> rfl))
        · rw [ltD_ne (Ne.symm e2)] at h2
          rw [ltD_ne (by omega)]
          simp only [decide_eq_false_iff_not] at h2 ⊢
          omega
      · rw [ltD_ne (Ne.symm e1)] at h1
        simp only [decide_eq_false_iff_not] at h1
        by_cases e2 : rkD y = rkD z
        · rw [ltD_ne (by omega)]
          simp only [decide_eq_false_iff_not]
          omega
        · rw [ltD_ne (Ne.symm e2)] at h2
          simp only [decide_eq_false_iff_not] at h2
          rw [ltD_ne (by omega)]
          simp only [decide_eq_false_iff_not]
          omega
  induction n with
  | zero => exact gen 0 (fun _ _ h => by cases h) fun _ _ _ _ _ => rfl
  | succ n ih => exact gen (n + 1) (fun l m h => (lexW_swo ih).asym l m h) fun l m k h1 h2 => (lexW_swo ih).tr l m k h1 h2
/-- keys that neither way differ are one -/
theorem tri_l {n : Nat} (ih : ∀ x y, isKeyN n x = true → isKeyN n y = true → ltD n x y = false → ltD n y x = false → x = y) : ∀ (l m : List D), l.all (isKeyN n) = true → m.all (isKeyN n) = true → lexW (ltD n) l m = false → lexW (ltD n) m l = false → l = m
  | [], [], _, _, _, _ => rfl
  | [], _ :: _, _, _, h, _ => by cases h
  | _ :: _, [], _, _, _, h => by cases h
  | a :: l, b :: m, k1, k2, h1, h2 => by
    simp only [List.all_cons, Bool.and_eq_true] at k1 k2
    unfold lexW at h1 h2
    have q1 : ltD n a b = false := by
      rcases SrtO.bcase (ltD n a b) with q | q
      · rw [if_pos q] at h1; cases h1
      · exact q
    have q2 : ltD n b a = false := by
      rcases SrtO.bcase (ltD n b a) with q | q
      · rw [if_pos q] at h2; cases h2
      · exact q
    rw [q1, q2] at h1 h2
    simp only [Bool.false_eq_true, if_false] at h1 h2
    rw [ih a b k1.1 k2.1 q1 q2, tri_l ih l m k1.2 k2.2 h1 h2]
theorem tri : ∀ (n : Nat) (x y : D), isKeyN n x = true → isKeyN n y = true → ltD n x y = false → ltD n y x = false → x = y := by
  have base : ∀ n, (∀ l m, isKeyN n (.tup l) = true → isKeyN n (.tup m) = true → ltD n (.tup l) (.tup m) = false → ltD n (.tup m) (.tup l) = false → D.tup l = .tup m) → ∀ x y, isKeyN n x = true → isKeyN n y = true → ltD n x y = false → ltD n y x = false → x = y := by
    intro n ht x y k1 k2 h1 h2
    by_cases e : rkD x = rkD y
    · cases x <;> cases y <;> first | (simp [rkD] at e; done) | skip
      case int.int i j =>
        have : ¬ i < j ∧ ¬ j < i := by cases n <;> (simp only [ltD, decide_eq_false_iff_not] at h1 h2; exact ⟨h1, h2⟩)
        rw [show i = j by omega]
      case str.str l m =>
        have : ¬ l < m ∧ ¬ m < l := by cases n <;> (simp only [ltD, decide_eq_false_iff_not] at h1 h2; exact ⟨h1, h2⟩)
        rw [List.le_antisymm (List.not_lt.mp this.2) (List.not_lt.mp this.1)]
      case tup.tup l m => exact ht l m k1 k2 h1 h2
      all_goals (cases n <;> cases k1)
    · rw [ltD_ne e] at h1
      rw [ltD_ne (Ne.symm e)] at h2
      simp only [decide_eq_false_iff_not] at h1 h2
      omega
  intro n
  induction n with
  | zero => exact base 0 fun _ _ k1 _ _ _ => by cases k1
  | succ n ih => exact base (n + 1) fun l m k1 k2 h1 h2 => congrArg D.tup (tri_l ih l m k1 k2 h1 h2)
/-- the two may be compared -/
def okLx (ok : D → D → Bool) : List D → List D → Bool
  | a :: l, b :: m => (decide (a = b) || ok a b) && okLx ok l m
  | _, _ => true
def okD : Nat → D → D → Bool
  | _, .int _, .int _ => true
  | _, .str _, .str _ => true
  | n + 1, .tup l, .tup m => okLx (okD n) l m
  | _, _, _ => false
def opD (op : CmpOp) (n : Nat) (x y : D) : Bool := match op with
  | .Lt => ltD n x y
  | .Gt => ltD n y x
  | .LtE => !ltD n y x
  | _ => !ltD n x y
def opZ (op : CmpOp) (n m : Nat) : Bool := match op with
  | .Lt => decide (n < m)
  | .Gt => decide (n > m)
  | .LtE => decide (n ≤ m)
  | _ => decide (n ≥ m)
def Ord4 (op : CmpOp) : Prop := op = .Lt ∨ op = .Gt ∨ op = .LtE ∨ op = .GtE
def lexO (op : CmpOp) (n : Nat) : List D → List D → Bool
  | a :: l, b :: m => if a = b then lexO op n l m else opD op n a b
  | l, m => opZ op l.length m.length
theorem lexO_eq {op : CmpOp} (ho : Ord4 op) {n : Nat} : ∀ {l m : List D}, l.all (isKeyN n) = true → m.all (isKeyN n) = true → lexO op n l m = opD op (n + 1) (.tup l) (.tup m)
  | [], [], _, _ => by rcases ho with h | h | h | h <;> subst h <;> rfl
  | [], b :: m, _, _ => by rcases ho with h | h | h | h <;> subst h <;> simp [lexO, opD, opZ, ltD, lexW]
  | a :: l, [], _, _ => by rcases ho with h | h | h | h <;> subst h <;> simp [lexO, opD, opZ, ltD, lexW]
  | a :: l, b :: m, k1, k2 => by
    simp only [List.all_cons, Bool.and_eq_true] at k1 k2
    have ih := lexO_eq ho k1.2 k2.2
    unfold lexO
    by_cases e : a = b
    · subst e
      rw [if_pos rfl, ih]
      have r := (swo_rk n).refl a
      rcases ho with h | h | h | h <;> subst h <;> simp [opD, ltD, lexW, r]
    · rw [if_neg e]
      have asy := (swo_rk n).asym a b
      have asy' := (swo_rk n).asym b a
      have tr := tri n a b k1.1 k2.1
      rcases SrtO.bcase (ltD n a b) with q | q
      · have q' := asy q
        rcases ho with h | h | h | h <;> subst h <;> simp [opD, ltD, lexW, q, q']
      · rcases SrtO.bcase (ltD n b a) with q' | q'
        · rcases ho with h | h | h | h <;> subst h <;> simp [opD, ltD, lexW, q, q']
        · exact absurd (tr q q') e
/-- the kit's walk over the places -/
theorem lexAt_lexO {op : CmpOp} {n : Nat} {e r : Nat → Bool} {z : Bool} : ∀ (l m : List D) (i : Nat), z = opZ op l.length m.length → (∀ j a b, l[j]? = some a → m[j]? = some b → e (i + j) = decide (a = b) ∧ r (i + j) = opD op n a b) →
    Ob.lexAt e r z i (min l.length m.length) = lexO op n l m
  | [], [], i, hz, _ => by rw [hz]; rfl
  | [], b :: m, i, hz, _ => by rw [hz, List.length_nil, Nat.zero_min]; rfl
  | a :: l, [], i, hz, _ => by rw [hz, List.length_nil, Nat.min_zero]; rfl
  | a :: l, b :: m, i, hz, h => by
    rw [List.length_cons, List.length_cons, Nat.succ_min_succ, Ob.lexAt_succ]
    obtain ⟨h1, h2⟩ := h 0 a b rfl rfl
    rw [Nat.add_zero] at h1 h2
    unfold lexO
    by_cases c : a = b
    · rw [h1, if_pos (decide_eq_true c), if_pos c]
      refine lexAt_lexO l m (i + 1) ?_ fun j a' b' q1 q2 => ?_
      · rw [hz, List.length_cons, List.length_cons]
        unfold opZ
        split <;> simp
      · rw [show i + 1 + j = i + (j + 1) by omega]
        exact h (j + 1) a' b' (by simpa using q1) (by simpa using q2)
    · rw [h1, if_neg (by rw [decide_eq_false c]; simp), if_neg c, h2]
/-! ### at a heap -/
theorem okLx_at {ok : D → D → Bool} : ∀ {l m : List D}, okLx ok l m = true → ∀ (j : Nat) a b, l[j]? = some a → m[j]? = some b → a ≠ b → ok a b = true
  | [], _, _, j, a, b, h, _, _ => by simp at h
  | _ :: _, [], _, j, a, b, _, h, _ => by simp at h
  | x :: l, y :: m, h, 0, a, b, h1, h2, hn => by
    simp at h1 h2
    subst h1 h2
    unfold okLx at h
    simpa [hn] using (Bool.and_eq_true_iff.mp h).1
  | x :: l, y :: m, h, j + 1, a, b, h1, h2, hn => by
    unfold okLx at h
    exact okLx_at (Bool.and_eq_true_iff.mp h).2 j a b (by simpa using h1) (by simpa using h2) hn
theorem KeyAt.key {h : Heap} {n : Nat} {d : D} {u : Value} (x : KeyAt h n d u) : isKeyN n d = true := by
  induction x with
  | @int n _ _ => cases n <;> rfl
  | @str n _ _ _ => cases n <;> rfl
  | @tup n l a o its m e1 e2 e3 e4 e5 ih =>
    show l.all (isKeyN n) = true
    rw [List.all_eq_true]
    intro d hd
    obtain ⟨j, hj, e⟩ := List.getElem_of_mem hd
    have h2 : j < its.toList.length := by rw [e4]; exact hj
    exact ih j d its.toList[j] (by rw [← e]; exact List.getElem?_eq_getElem hj) (List.getElem?_eq_getElem h2)
theorem rc_int {op : CmpOp} (ho : Ord4 op) {n : Nat} {A : Around} {s : Shared} (i j : Int) (t u : Tok) : Ob.RcOp op A s (.int i t) (.int j u) (opD op n (.int i) (.int j)) := by
  rcases ho with h | h | h | h <;> subst h
  · have e : opD .Lt n (.int i) (.int j) = decide (i < j) := by cases n <;> rfl
    rw [e]; exact Ob.RcOp.lt_int _ _ _ _
  · have e : opD .Gt n (.int i) (.int j) = decide (j < i) := by cases n <;> rfl
    rw [e]; exact Ob.RcOp.gt_int _ _ _ _
  · have e : opD .LtE n (.int i) (.int j) = decide (i ≤ j) := by
      have z : decide (i ≤ j) = !decide (j < i) := by rw [← decide_not]; exact decide_eq_decide.mpr Int.not_lt.symm
      rw [z]; cases n <;> rfl
    rw [e]; exact Ob.RcOp.le_int _ _ _ _
  · have e : opD .GtE n (.int i) (.int j) = decide (j ≤ i) := by
      have z : decide (j ≤ i) = !decide (i < j) := by rw [← decide_not]; exact decide_eq_decide.mpr Int.not_lt.symm
      rw [z]; cases n <;> rfl
    rw [e]; exact Ob.RcOp.ge_int _ _ _ _
theorem rc_str {op : CmpOp} (ho : Ord4 op) {n : Nat} {A : Around} {s : Shared} (l m : List Nat) (t u : Tok) : Ob.RcOp op A s (.str ⟨l.toArray⟩ t) (.str ⟨m.toArray⟩ u) (opD op n (.str l) (.str m)) := by
  intro prog w E Q h
  rcases ho with q | q | q | q <;> subst q
  · have e : opD .Lt n (.str l) (.str m) = decide (l < m) := by cases n <;> rfl
    rw [e] at h
    exact PyProof.Rows.lt_str h
  · have e : opD .Gt n (.str l) (.str m) = decide (m < l) := by cases n <;> rfl
    rw [e] at h
    exact PySem.P.gt_str h
  · have e : opD .LtE n (.str l) (.str m) = !decide (m < l) := by cases n <;> rfl
    rw [e] at h
    exact PySem.P.le_str h
  · have e : opD .GtE n (.str l) (.str m) = !decide (l < m) := by cases n <;> rfl
    rw [e] at h
    exact PySem.P.ge_str h
theorem rc_at {op : CmpOp} (ho : Ord4 op) : ∀ (n : Nat) (A : Around) (s : Shared) (x y : D) (u v : Value), A.units + n < cLine → KeyAt s.heap n x u → KeyAt s.heap n y v → okD n x y = true → Ob.RcOp op A s u v (opD op n x y) := by
  intro n
  induction n with
  | zero =>
    intro A s x y u v hu hx hy ok
    cases hx <;> cases hy <;> first | (cases ok; done) | skip
    · exact rc_int ho _ _ _ _
    · exact rc_str ho _ _ _ _
  | succ n ih =>
    intro A s x y u v hu hx hy ok
    cases hx <;> cases hy <;> first | (cases ok; done) | skip
    · exact rc_int ho _ _ _ _
    · exact rc_str ho _ _ _ _
    · rename_i l a o its m e1 e2 e3 e4 e5 l' a' o' its' m' e1' e2' e3' e4' e5'
      have k1 : l.all (isKeyN n) = true := (KeyAt.tup (n := n) e1 e2 e3 e4 e5).key
      have k2 : l'.all (isKeyN n) = true := (KeyAt.tup (n := n) e1' e2' e3' e4' e5').key
      rw [← lexO_eq ho k1 k2]
      have len : its.size = l.length := by rw [← e4, Array.length_toList]
      have len' : its'.size = l'.length := by rw [← e4', Array.length_toList]
      have at1 : ∀ j (h1 : j < its.size) (h2 : j < its'.size), ∃ p q, l[j]? = some p ∧ l'[j]? = some q ∧ KeyAt s.heap n p its[j] ∧ KeyAt s.heap n q its'[j] := fun j h1 h2 => by
        have g1 : j < l.length := by omega
        have g2 : j < l'.length := by omega
        exact ⟨_, _, List.getElem?_eq_getElem g1, List.getElem?_eq_getElem g2, e5 j _ _ (List.getElem?_eq_getElem g1) (by simp [h1]), e5' j _ _ (List.getElem?_eq_getElem g2) (by simp [h2])⟩
      have hE : ∀ j (h1 : j < its.size) (h2 : j < its'.size), SeqAt.EqAt A.in1 s its[j] its'[j] (decide (l.getD j .non = l'.getD j .non)) := fun j h1 h2 prog w E Q h => by
        obtain ⟨p, q, q1, q2, q3, q4⟩ := at1 j h1 h2
        refine eq_key (n := n) (m := n) (by show A.units + 1 + n < cLine; omega) q3 q4 ?_
        simpa [List.getD, q1, q2] using h
      have hR : ∀ j (h1 : j < its.size) (h2 : j < its'.size), (decide (l.getD j .non = l'.getD j .non)) = false → Ob.RcOp op A.in1 s its[j] its'[j] (opD op n (l.getD j .non) (l'.getD j .non)) := fun j h1 h2 hf => by
        obtain ⟨p, q, q1, q2, q3, q4⟩ := at1 j h1 h2
        have f1 : l.getD j .non = p := by simp [List.getD, q1]
        have f2 : l'.getD j .non = q := by simp [List.getD, q2]
        rw [f1, f2] at hf ⊢
        exact ih A.in1 s p q _ _ (by show A.units + 1 + n < cLine; omega) q3 q4 (okLx_at ok j p q q1 q2 (of_decide_eq_false hf))
      have hz : ∀ z, z = opZ op l.length l'.length → Ob.lexAt (fun j => decide (l.getD j .non = l'.getD j .non)) (fun j => opD op n (l.getD j .non) (l'.getD j .non)) z 0 (min its.size its'.size) = lexO op n l l' := fun z hz => by
        rw [len, len']
        refine lexAt_lexO l l' 0 hz fun j a b q1 q2 => ?_
        rw [Nat.zero_add]
        simp [List.getD, q1, q2]
      have t1 : s.heap.IsTuple a its := ⟨o, e1, e2, m, e3⟩
      have t2 : s.heap.IsTuple a' its' := ⟨o', e1', e2', m', e3'⟩
      rcases ho with h | h | h | h <;> subst h
      · rw [← hz _ (by rw [← len, ← len'])]
        exact Ob.RcOp.tuples_lt t1 t2 (by omega) hE hR
      · rw [← hz _ (by rw [← len, ← len'])]
        exact Ob.RcOp.tuples_gt t1 t2 (by omega) hE hR
      · rw [← hz _ (by rw [← len, ← len'])]
        exact Ob.RcOp.tuples_le t1 t2 (by omega) hE hR
      · rw [← hz _ (by rw [← len, ← len'])]
        exact Ob.RcOp.tuples_ge t1 t2 (by omega) hE hR
/-! ### the rules by values -/
def fOrd (op : CmpOp) : DR2 := fun x y A Q => isKey x = true ∧ isKey y = true ∧ okD 4 x y = true ∧ Q (.bl (opD op 4 x y)) A
section
variable {X : Cx}
theorem d_ord {op : CmpOp} (ho : Ord4 op) (hu : X.A.units + 64 < cLine) : DOp X (compareOp op) (fOrd op) := DOp.raw fun pins s σ H x y v u Q I rx ry ⟨dx, dy, A, R, hA, r1, r2, q, k⟩ => by
  obtain ⟨k1, k2, ok, q⟩ := q
  have z := rc_at ho 4 X.A s dx dy v u (by omega) (key_at I 4 _ _ _ k1 r1 rx) (key_at I 4 _ _ _ k2 r2 ry) ok X.prog X.w X.xe (EP X pins σ Q) ⟨.bl _, H, I, rfl, k.at q hA rfl⟩
  rcases ho with h | h | h | h <;> subst h <;> exact z
end
/-! ### sorted -/
/-- which D stands at a value, of those given -/
noncomputable def dAt (h : Heap) (u : Value) : D := open Classical in if q : ∃ d, KeyAt h 4 d u then q.choose else .non
theorem dAt_of {h : Heap} {d : D} {u : Value} (x : KeyAt h 4 d u) : dAt h u = d := by
  unfold dAt
  rw [dif_pos ⟨d, x⟩]
  exact (Exists.choose_spec (⟨d, x⟩ : ∃ d, KeyAt h 4 d u)).inj x
theorem KeyAt.grows {h h' : Heap} (k : ∀ b o, h.get? b = some o → o.cls = .type "tuple" → h'.get? b = some o) {n : Nat} {d : D} {u : Value} (x : KeyAt h n d u) : KeyAt h' n d u := by
  induction x with
  | int => exact .int
  | str c => exact .str c
  | tup e1 e2 e3 e4 e5 ih => exact .tup (k _ _ e1 e2) e2 e3 e4 ih
/-- all of one type, tuples with firsts of one type -/
def tyK : D → Nat
  | .int _ => 1
  | .str _ => 2
  | .tup (.int _ :: _) => 3
  | .tup (.str _ :: _) => 4
  | .tup (.tup _ :: _) => 5
  | _ => 0
def okS : List D → Bool
  | [] => true
  | d :: ds => tyK d != 0 && ds.all fun e => tyK e == tyK d
theorem okS_at {l : List D} (h : okS l = true) : ∃ t, ∀ d ∈ l, tyK d = t := by
  cases l with
  | nil => exact ⟨0, fun _ m => by cases m⟩
  | cons d ds =>
    unfold okS at h
    simp only [Bool.and_eq_true, List.all_eq_true, beq_iff_eq] at h
    exact ⟨tyK d, fun e m => by
      rcases List.mem_cons.mp m with q | q
      · rw [q]
      · exact h.2 e q⟩
section
variable {prog : Program} {w : World} {A : Around} {E : Value → Shared → Prop} {s : Shared}
theorem oneLt_key {f : Bool} {n : Nat} {x y : D} {u v : Value} {Q : Bool → Shared → Prop} (hu : A.units + n < cLine) (hx : KeyAt s.heap n x u) (hy : KeyAt s.heap n y v) (ok : okD n x y = true) (hf : f = true → isTup x = false) (h : Q (ltD n x y) s) :
    wpAny (model prog w) A (oneLt' f u v) Q E s := by
  cases f with
  | false => exact PySem.W.kat_one _ _ (rc_at (op := .Lt) (.inl rfl) n A s _ _ _ _ hu hx hy ok prog w _ _ h)
  | true =>
    cases hx with
    | @tup n l a o its m e1 e2 e3 e4 e5 => exact nomatch hf rfl
    | @int _ i t => cases hy with
      | @int _ j t' => exact PyProof.Rows.oneLt_int (by cases n <;> exact h)
      | str c => cases n <;> cases ok
      | tup e1 e2 e3 e4 e5 => cases ok
    | @str _ l t c => cases hy with
      | int => cases n <;> cases ok
      | @str _ m t' c' => exact PyProof.Rows.oneLt_str (by cases n <;> exact h)
      | tup e1 e2 e3 e4 e5 => cases ok
theorem lex_key {b : Bool} {n : Nat} {Q : Bool → Shared → Prop} (hu : A.units + n < cLine) : ∀ (l m : List D) (ps qs : List Value) (i : Nat) (fin : Bool), ps.length = l.length → qs.length = m.length →
    (∀ (j : Nat) d v, l[j]? = some d → ps[j]? = some v → KeyAt s.heap n d v) → (∀ (j : Nat) d v, m[j]? = some d → qs[j]? = some v → KeyAt s.heap n d v) → okLx (okD n) l m = true → (b = true → i = 0 → ∀ d, l[0]? = some d → isTup d = false) →
    fin = opZ .Lt l.length m.length → Q (lexO .Lt n l m) s → PySem.W.KatLex prog w A b fin Q (ps.zip qs) i s
  | [], m, ps, qs, i, fin, h1, h2, h3, h4, ok, hb, hz, h => by
    have : ps = [] := List.eq_nil_of_length_eq_zero h1
    subst this
    have e : lexO .Lt n [] m = fin := by rw [hz]; cases m <;> rfl
    rw [e] at h
    exact PySem.W.kat_nil h
  | a :: l, [], ps, qs, i, fin, h1, h2, h3, h4, ok, hb, hz, h => by
    have : qs = [] := List.eq_nil_of_length_eq_zero h2
    subst this
    have e : lexO .Lt n (a :: l) [] = fin := by rw [hz]; rfl
    rw [e] at h
    rw [List.zip_nil_right]
    exact PySem.W.kat_nil h
  | a :: l, c :: m, p :: ps, q :: qs, i, fin, h1, h2, h3, h4, ok, hb, hz, h => by
    have kp := h3 0 a p rfl rfl
    have kq := h4 0 c q rfl rfl
    unfold okLx at ok
    have ok2 := Bool.and_eq_true_iff.mp ok
    unfold lexO at h
    rw [List.zip_cons_cons]
    refine PySem.W.kat_cons (eq_key hu kp kq (PySem.W.kat_go (fun e => ?_) fun e => ?_))
    · rw [if_pos (of_decide_eq_true e)] at h
      refine PySem.W.kat_yes (lex_key hu l m ps qs (i + 1) fin (by simpa using h1) (by simpa using h2) (fun j d v g1 g2 => h3 (j + 1) d v (by simpa using g1) (by simpa using g2)) (fun j d v g1 g2 => h4 (j + 1) d v (by simpa using g1) (by simpa using g2)) ok2.2 (fun _ z => by omega) ?_ h)
      rw [hz]
      simp [opZ]
    · have ne := of_decide_eq_false e
      rw [if_neg ne] at h
      refine PySem.W.kat_no (oneLt_key hu kp kq (by simpa [ne] using ok2.1) (fun hf => ?_) h)
      simp only [Bool.and_eq_true, beq_iff_eq] at hf
      exact hb hf.1 hf.2 a rfl
  | a :: l, c :: m, [], qs, i, fin, h1, h2, h3, h4, ok, hb, hz, h => by cases h1
  | a :: l, c :: m, p :: ps, [], i, fin, h1, h2, h3, h4, ok, hb, hz, h => by cases h2
def KeysAt (h : Heap) (ds : List D) (vs : List Value) : Prop := vs.length = ds.length ∧ ∀ (j : Nat) d v, ds[j]? = some d → vs[j]? = some v → KeyAt h 4 d v
theorem KeysAt.mem {h : Heap} {ds : List D} {vs : List Value} (x : KeysAt h ds vs) {v : Value} (m : v ∈ vs) : ∃ d ∈ ds, KeyAt h 4 d v := by
  obtain ⟨j, hj, e⟩ := List.getElem_of_mem m
  have h2 : j < ds.length := by rw [← x.1]; exact hj
  exact ⟨ds[j], List.getElem_mem h2, x.2 j _ _ (List.getElem?_eq_getElem h2) (by rw [← e]; exact List.getElem?_eq_getElem hj)⟩
theorem KeysAt.map {h : Heap} {ds : List D} {vs : List Value} (x : KeysAt h ds vs) : ds = vs.map (dAt h) := by
  refine List.ext_getElem (by rw [List.length_map, x.1]) fun j h1 h2 => ?_
  rw [List.getElem_map]
  rw [List.length_map] at h2
  exact (dAt_of (x.2 j _ _ (List.getElem?_eq_getElem h1) (List.getElem?_eq_getElem h2))).symm
noncomputable abbrev ltAt (h : Heap) : Value → Value → Bool := fun v u => ltD 4 (dAt h v) (dAt h u)
theorem swo_at (h : Heap) : SrtO.Swo (ltAt h) := ⟨fun x y q => (swo_rk 4).asym _ _ q, fun x y z p q => (swo_rk 4).tr _ _ _ p q⟩
theorem ints_of {h : Heap} : ∀ {vs : List Value}, (∀ v ∈ vs, ∃ d, KeyAt h 4 d v ∧ tyK d = 1) → ∃ ns, IntsAre vs ns
  | [], _ => ⟨[], .nil⟩
  | v :: vs, x => by
    obtain ⟨ns, r⟩ := ints_of fun u m => x u (List.mem_cons_of_mem _ m)
    obtain ⟨d, k, e⟩ := x v List.mem_cons_self
    cases k with
    | @int _ i t => exact ⟨i :: ns, .cons i t r⟩
    | str c => cases e
    | @tup n l => match l, e with
      | [], e => cases e
      | .int _ :: _, e => cases e
      | .str _ :: _, e => cases e
      | .tup _ :: _, e => cases e
      | .non :: _, e => cases e
      | .bl _ :: _, e => cases e
      | .cl _ :: _, e => cases e
      | .ref _ :: _, e => cases e
theorem strs_of {h : Heap} : ∀ {vs : List Value}, (∀ v ∈ vs, ∃ d, KeyAt h 4 d v ∧ tyK d = 2) → ∃ ns, StrsAre vs ns
  | [], _ => ⟨[], .nil⟩
  | v :: vs, x => by
    obtain ⟨ns, r⟩ := strs_of fun u m => x u (List.mem_cons_of_mem _ m)
    obtain ⟨d, k, e⟩ := x v List.mem_cons_self
    cases k with
    | int => cases e
    | @str _ l t c => exact ⟨⟨l.toArray⟩ :: ns, .cons _ t r⟩
    | @tup n l => match l, e with
      | [], e => cases e
      | .int _ :: _, e => cases e
      | .str _ :: _, e => cases e
      | .tup _ :: _, e => cases e
      | .non :: _, e => cases e
      | .bl _ :: _, e => cases e
      | .cl _ :: _, e => cases e
      | .ref _ :: _, e => cases e
theorem first_of {h : Heap} {d : D} {v : Value} {t : Nat} (ht : 3 ≤ t) (x : KeyAt h 4 d v) (e : tyK d = t) : ∃ a o its m f l d0, v = .ref a ∧ h.get? a = some o ∧ o.cls = .type "tuple" ∧ o.data = .seq its m ∧ its[0]? = some f ∧ d = .tup (d0 :: l) ∧ KeyAt h 3 d0 f := by
  cases x with
  | int => simp [tyK] at e; omega
  | str => simp [tyK] at e; omega
  | @tup _ l a o its m e1 e2 e3 e4 e5 =>
    cases l with
    | nil => simp [tyK] at e; omega
    | cons d0 l =>
      have : 0 < its.toList.length := by rw [e4]; exact Nat.succ_pos _
      exact ⟨a, o, its, m, _, l, d0, rfl, e1, e2, e3, by rw [← Array.getElem?_toList]; exact List.getElem?_eq_getElem this, rfl, e5 0 _ _ rfl (List.getElem?_eq_getElem this)⟩
/-- the type of what a first is -/
def tyF (t : Nat) : Value := if t = 3 then .type "int" else if t = 4 then .type "str" else .type "tuple"
theorem tup_firsts {h : Heap} {t : Nat} (ht : 3 ≤ t) : ∀ {vs : List Value}, (∀ v ∈ vs, ∃ d, KeyAt h 4 d v ∧ tyK d = t) → ∃ fs, PySem.W.KatTups h vs fs ∧ fs.length = vs.length ∧ ∀ f ∈ fs, PySem.W.Looks (model prog w) h (typeOf f) (tyF t)
  | [], _ => ⟨[], .nil, rfl, fun _ m => by cases m⟩
  | v :: vs, x => by
    obtain ⟨fs, r, hl, q⟩ := tup_firsts ht fun u m => x u (List.mem_cons_of_mem _ m)
    obtain ⟨d, k, e⟩ := x v List.mem_cons_self
    obtain ⟨a, o, its, m, f, l, d0, rfl, g1, g2, g3, g4, g5, g6⟩ := first_of ht k e
    refine ⟨f :: fs, .cons g1 g2 g3 g4 r, by rw [List.length_cons, List.length_cons, hl], fun u m => ?_⟩
    rcases List.mem_cons.mp m with z | m
    · subst z
      subst g5
      cases g6 with
      | int => have : t = 3 := e.symm
               subst this; exact PySem.W.Looks.now
      | str => have : t = 4 := e.symm
               subst this; exact PySem.W.Looks.now
      | tup e1 e2 e3 e4 e5 =>
        have : t = 5 := e.symm
        subst this
        rename_i a2 o2 its2 m2
        have z : PySem.W.Looks (model prog w) h (typeOf (.ref a2)) o2.cls := (PySem.W.Looks.ld e1).andThen .now
        rw [e2] at z
        exact z
    · exact q u m
theorem keys_sortable {a : Addr} {ds : List D} {vs : List Value} (hu : A.units + 8 < cLine) (h2 : 2 ≤ vs.length) (x : KeysAt s.heap ds vs) (ok : okS ds = true) (hc : ∀ d ∈ ds, ∀ e ∈ ds, okD 4 d e = true) (ha : ∀ o, s.heap.get? a = some o → o.cls ≠ .type "tuple") :
    SrtO.SortableO prog w A s a vs (ltAt s.heap) := by
  intro h' keep
  have kp : ∀ {d u}, KeyAt s.heap 4 d u → KeyAt h' 4 d u := fun x => x.grows fun b o e c => keep b o (fun z => by subst z; exact ha o e c) e
  obtain ⟨t, ht⟩ := okS_at ok
  have all : ∀ v ∈ vs, ∃ d ∈ ds, KeyAt s.heap 4 d v ∧ KeyAt h' 4 d v ∧ tyK d = t := fun v m => by
    obtain ⟨d, hd, k⟩ := x.mem m
    exact ⟨d, hd, k, kp k, ht d hd⟩
  have t0 : t ≠ 0 := by
    match vs, h2, x with
    | v :: _, _, x =>
      obtain ⟨d, hd, k⟩ := x.mem (List.mem_cons_self (a := v))
      cases ds with
      | nil => cases hd
      | cons e es =>
        have := ht e List.mem_cons_self
        unfold okS at ok
        simp only [Bool.and_eq_true, bne_iff_ne] at ok
        rw [← this]; exact ok.1
  have cmp1 : t < 3 → SrtO.Cmp prog w A { s with heap := h' } oneType' (fun p => p.1 ∈ vs) (SrtO.lt2 (ltAt s.heap)) := fun hlt p q mp mq => by
    obtain ⟨d, hd, k, k', e⟩ := all _ mp
    obtain ⟨d', hd', k2, k2', e'⟩ := all _ mq
    show wpAny (model prog w) A (keyLt' oneType' p.1 q.1) (fun r s' => s' = { s with heap := h' } ∧ r = ltD 4 (dAt s.heap p.1) (dAt s.heap q.1)) (fun _ _ => False) _
    rw [keyLt'_oneType, dAt_of k, dAt_of k2]
    refine oneLt_key (s := { s with heap := h' }) (n := 4) (by omega) k' k2' (hc d hd d' hd') (fun _ => ?_) ⟨rfl, rfl⟩
    match d, e with
    | .int _, _ => rfl
    | .str _, _ => rfl
    | .tup [], e => exact absurd e.symm t0
    | .tup (.int _ :: _), e => simp [tyK] at e; omega
    | .tup (.str _ :: _), e => simp [tyK] at e; omega
    | .tup (.tup _ :: _), e => simp [tyK] at e; omega
    | .tup (.non :: _), e => exact absurd e.symm t0
    | .tup (.bl _ :: _), e => exact absurd e.symm t0
    | .tup (.cl _ :: _), e => exact absurd e.symm t0
    | .tup (.ref _ :: _), e => exact absurd e.symm t0
    | .non, e => rfl
    | .bl _, e => rfl
    | .cl _, e => rfl
    | .ref _, e => rfl
  by_cases c3 : 3 ≤ t
  · obtain ⟨fs, r, hl, q⟩ := tup_firsts (prog := prog) (w := w) c3 (vs := vs) (h := h') fun v m => by
      obtain ⟨d, _, _, k, e⟩ := all v m
      exact ⟨d, k, e⟩
    refine ⟨tuples' (tyF t != Value.type "tuple"), fun Q E hq => PySem.W.kat_kind (s := { s with heap := h' }) (T := tyF t) r (by omega) q ?_ hq, fun p q mp mq => ?_⟩
    · unfold tyF
      split
      · rfl
      · split <;> rfl
    · obtain ⟨d, hd, k, k', e⟩ := all _ mp
      obtain ⟨d', hd', k2, k2', e'⟩ := all _ mq
      show wpAny (model prog w) A (keyLt' (tuples' (tyF t != Value.type "tuple")) p.1 q.1) (fun r s' => s' = { s with heap := h' } ∧ r = ltD 4 (dAt s.heap p.1) (dAt s.heap q.1)) (fun _ _ => False) _
      rw [dAt_of k, dAt_of k2]
      have hcc := hc d hd d' hd'
      generalize p.1 = pv at k k'
      generalize q.1 = qv at k2 k2'
      cases k' with
      | int => simp [tyK] at e; omega
      | str => simp [tyK] at e; omega
      | @tup _ l a1 o1 its1 m1 e1 e2 e3 e4 e5 => cases k2' with
        | int => cases hcc
        | str => cases hcc
        | @tup _ l' a1' o1' its1' m1' e1' e2' e3' e4' e5' =>
          have y1 := (KeyAt.tup (n := 3) e1 e2 e3 e4 e5).key
          have y2 := (KeyAt.tup (n := 3) e1' e2' e3' e4' e5').key
          refine PySem.W.kat_lt (s := { s with heap := h' }) e1 e3 e1' e3' ?_
          refine lex_key (s := { s with heap := h' }) (n := 3) (by omega) l l' _ _ 0 _ e4 e4' e5 e5' hcc (fun hb _ d0 hd0 => ?_) ?_ ⟨rfl, (lexO_eq (.inl rfl) y1 y2)⟩
          · cases l with
            | nil => cases hd0
            | cons x0 l0 =>
              simp at hd0
              subst hd0
              cases x0 with
              | tup z =>
                have : t = 5 := e.symm
                subst this
                simp [tyF] at hb
              | _ => rfl
          · show decide (its1.size < its1'.size) = decide (l.length < l'.length)
            rw [← e4, ← e4', Array.length_toList, Array.length_toList]
  · have hlt : t < 3 := by omega
    match vs, h2, all, x with
    | v1 :: v2 :: rest, _, all, _ =>
      refine ⟨oneType', fun Q E hq => ?_, cmp1 hlt⟩
      by_cases c1 : t = 1
      · obtain ⟨ns, hI⟩ := ints_of (h := h') (vs := v1 :: v2 :: rest) fun v m => by
          obtain ⟨d, _, _, k, e⟩ := all v m
          exact ⟨d, k, by rw [e, c1]⟩
        rw [keyKind_ints hI]
        exact wpAny_pure hq
      · obtain ⟨ns, hI⟩ := strs_of (h := h') (vs := v1 :: v2 :: rest) fun v m => by
          obtain ⟨d, _, _, k, e⟩ := all v m
          exact ⟨d, k, by rw [e]; omega⟩
        rw [keyKind_strs hI]
        exact wpAny_pure hq
end
end DL
set_option Elab.async false
set_option linter.all false
set_option maxRecDepth 100000
set_option maxHeartbeats 1000000
/-! DL10: dicts walked (locked), sorted, list(d). -/
namespace DL
open PySem PySem.Spec PyProof.Rows L2
/-! ### the lock -/
/-- the statement runs while the dict at a is locked -/
def dLock (t : DTS) : DTS := fun DD σ A => t DD σ A ∨ ∃ a kvs, A a = some (.dic kvs) ∧ ∀ od,
  t { nx := fun σ' A' => A' a = some (.fdic od kvs) ∧ DD.nx σ' (up A' a (.dic kvs)), rt := fun d A' => A' a = some (.fdic od kvs) ∧ DD.rt d (up A' a (.dic kvs)),
      bk := fun σ' A' => A' a = some (.fdic od kvs) ∧ DD.bk σ' (up A' a (.dic kvs)), ct := fun σ' A' => A' a = some (.fdic od kvs) ∧ DD.ct σ' (up A' a (.dic kvs)) } σ (up A a (.fdic od kvs))
def dLockE (t : DTE) : DTE := fun σ A Q => t σ A Q ∨ ∃ a kvs, A a = some (.dic kvs) ∧ ∀ od, t σ (up A a (.fdic od kvs)) fun d A' => A' a = some (.fdic od kvs) ∧ Q d (up A' a (.dic kvs))
section
variable {X : Cx} {B : Bs} {A : AH} {H : Hp} {a : Addr} {kvs : List (D × D)}
theorem lock_in {X : Cx} {pins : List (Addr × Obj)} {σ : L2.St} {s : Shared} (I : L2.Inv X pins σ H s) (hA : RelH X.b A H) (e : A a = some (.dic kvs)) :
    ∃ es od, H a = some (.ext (DicAt X.w a es)) ∧ L2.Inv X pins σ (upd H a (.frz od (.ext (DicAt X.w a es)))) s ∧ RelH X.b (up A a (.fdic od kvs)) (upd H a (.frz od (.ext (DicAt X.w a es)))) ∧ Grow H (upd H a (.frz od (.ext (DicAt X.w a es)))) := by
  obtain ⟨es, e1, r, g⟩ := hA _ _ e
  obtain ⟨od, I1⟩ := I.lock e1 trivial
  have gr : Grow H (upd H a (.frz od (.ext (DicAt X.w a es)))) := grow_ext e1
  refine ⟨es, od, e1, I1, hA.put (u := .fdic od kvs) gr ⟨es, upd_same, r.grow gr, g, ?_⟩, gr⟩
  obtain ⟨h1, ⟨o, ep, h2, h3, h4, h5⟩, _⟩ := I1.hok a _ upd_same
  rw [h1] at h2
  cases h2
  exact ⟨ep, h4⟩
theorem lock_out {od : Obj} (hA : RelH B A H) (e : A a = some (.fdic od kvs)) : ∃ es, H a = some (.frz od (.ext (DicAt B.w a es))) ∧ RelH B (up A a (.dic kvs)) (upd H a (.ext (DicAt B.w a es))) ∧ Grow H (upd H a (.ext (DicAt B.w a es))) := by
  obtain ⟨es, e1, r, g, _⟩ := hA _ _ e
  have gr : Grow H (upd H a (.ext (DicAt B.w a es))) := Grow.put e1 (fun _ z => nomatch z) (fun _ _ z => nomatch z)
  exact ⟨es, e1, hA.put (u := .dic kvs) gr ⟨es, upd_same, r.grow gr, g⟩, gr⟩
end
section
variable {X : Cx}
theorem qs_lock {st : Stmt} {t : DTS} (h : QS X st t) : QS X st (dLock t) := by
  refine ⟨fun pins s σ H D I ⟨dσ, A, DD, hA, hS, q, k⟩ => ?_⟩
  rcases q with q | ⟨a, kvs, e, q⟩
  · exact h.run pins s σ H D I ⟨dσ, A, DD, hA, hS, q, k⟩
  obtain ⟨es, od, e1, I1, hA1, g1⟩ := lock_in I hA e
  have nf := I.nofrz e1 trivial
  refine thn (h.run pins s σ _ ⟨fun σ' H' => ∃ es, H' a = some (.frz od (.ext (DicAt X.b.w a es))) ∧ D.nx σ' (upd H' a (.ext (DicAt X.b.w a es))), fun v H' => ∃ es, H' a = some (.frz od (.ext (DicAt X.b.w a es))) ∧ D.rt v (upd H' a (.ext (DicAt X.b.w a es))),
    fun σ' H' => ∃ es, H' a = some (.frz od (.ext (DicAt X.b.w a es))) ∧ D.bk σ' (upd H' a (.ext (DicAt X.b.w a es))), fun σ' H' => ∃ es, H' a = some (.frz od (.ext (DicAt X.b.w a es))) ∧ D.ct σ' (upd H' a (.ext (DicAt X.b.w a es)))⟩ I1
    ⟨dσ, _, _, hA1, hS.grow g1, q od, ⟨fun dσ A' σ H' ⟨z1, z2⟩ hA' hS' g => ?_, fun d A' v H' ⟨z1, z2⟩ hA' rd g => ?_, fun dσ A' σ H' ⟨z1, z2⟩ hA' hS' g => ?_, fun dσ A' σ H' ⟨z1, z2⟩ hA' hS' g => ?_⟩⟩) fun f s1 q => ?_
  · obtain ⟨es, y1, y2, y3⟩ := lock_out hA' z1
    exact ⟨es, y1, k.nx _ _ _ _ z2 y2 (hS'.grow y3) ((g1.trans g).trans y3)⟩
  · obtain ⟨es, y1, y2, y3⟩ := lock_out hA' z1
    exact ⟨es, y1, k.rt _ _ _ _ z2 y2 (rd.grow y3) ((g1.trans g).trans y3)⟩
  · obtain ⟨es, y1, y2, y3⟩ := lock_out hA' z1
    exact ⟨es, y1, k.bk _ _ _ _ z2 y2 (hS'.grow y3) ((g1.trans g).trans y3)⟩
  · obtain ⟨es, y1, y2, y3⟩ := lock_out hA' z1
    exact ⟨es, y1, k.ct _ _ _ _ z2 y2 (hS'.grow y3) ((g1.trans g).trans y3)⟩
  · cases f with
    | next => obtain ⟨σ', H', I2, es, e, q⟩ := q; exact ⟨σ', _, I2.unlock e nf, q⟩
    | brk => obtain ⟨σ', H', I2, es, e, q⟩ := q; exact ⟨σ', _, I2.unlock e nf, q⟩
    | cont => obtain ⟨σ', H', I2, es, e, q⟩ := q; exact ⟨σ', _, I2.unlock e nf, q⟩
    | ret v => obtain ⟨x, σ', H', I2, r, es, e, q⟩ := q; exact ⟨x, σ', _, I2.unlock e nf, r, q⟩
theorem qe_lock {e : Expr} {t : DTE} (h : QE X e t) : QE X e (dLockE t) := by
  refine ⟨fun pins s σ H Q I ⟨dσ, A, R, hA, hS, q, k⟩ => ?_⟩
  rcases q with q | ⟨a, kvs, e, q⟩
  · exact h.run pins s σ H Q I ⟨dσ, A, R, hA, hS, q, k⟩
  obtain ⟨es, od, e1, I1, hA1, g1⟩ := lock_in I hA e
  have nf := I.nofrz e1 trivial
  refine thn (h.run pins s σ _ (fun v H' => ∃ es, H' a = some (.frz od (.ext (DicAt X.b.w a es))) ∧ Q v (upd H' a (.ext (DicAt X.b.w a es)))) I1
    ⟨dσ, _, _, hA1, hS.grow g1, q od, fun d A' v H' ⟨z1, z2⟩ hA' rd g => ?_⟩) fun v s1 ⟨x, H1, I2, r, es, e2, q⟩ => ⟨x, _, I2.unlock e2 nf, r, q⟩
  obtain ⟨es, y1, y2, y3⟩ := lock_out hA' z1
  exact ⟨es, y1, k _ _ _ _ z2 y2 (rd.grow y3) ((g1.trans g).trans y3)⟩
end
/-! ### for k in d (locked) -/
def ItD (d : Addr) (od : Obj) (eA : Array DictEntry) : It :=
  ⟨fun i H => (∃ u, H d = some (.frz od u)) ∧ ∃ en z, eA[i]? = some en ∧ RelV z en.key,
   fun i H x H' => H' = H ∧ ∃ en, eA[i]? = some en ∧ RelV x en.key,
   fun i H => (∃ u, H d = some (.frz od u)) ∧ eA.size ≤ i⟩
theorem turn_D {P : Program} {w : World} {K : PySem.W.Frag} {tg : Expr} {d : Addr} {o : Obj} {eA : Array DictEntry} {ep : Nat} (it : Addr) (hod : o.data = .dict eA ep) : Turn P w K tg (ItD d o eA) [it] it (fun i h => h.IsKeyIter it d i eA.size ep) where
  mem := by simp
  obj := fun i h st b hb => by
    have e : b = it := by simpa using hb
    subst e
    obtain ⟨oi, e, c, dd⟩ := st
    exact ⟨oi, e, fun v z => by rw [dd] at z; cases z⟩
  keep := fun i h h' st k => st.at fun oi e => k it (by simp) oi e
  item := by
    intro X hP hw hK hc i pins s σ H E I hf st hg
    subst hP hw hK
    obtain ⟨⟨u, hd⟩, en, z, he, hz⟩ := hg
    obtain ⟨f0, f1, f2, f3, f4, f5⟩ := hf it (by simp)
    have hgd : s.heap.get? d = some o := (I.hok d _ hd).1
    refine next_key_item st hgd hod rfl he fun h' st' sb => ?_
    have I1 : L2.Inv X pins σ H { s with heap := h' } := I.turned (t' := s.toks) (fun b ob hb e => (sb.2 b hb).trans e) f0 f1 f3 f4 f5
    obtain ⟨oi, e, c, dd⟩ := id st'
    exact ⟨_, rfl, go_of (s := { s with heap := h' }) e c dd (by decide) ⟨z, H, I1, hz, ⟨rfl, en, he, hz⟩, st', fun b hb => (hf b hb).1⟩⟩
  done := by
    intro X hP hw hK hc i pins s σ H E I hf st hg
    subst hP hw hK
    obtain ⟨⟨u, hd⟩, hi⟩ := hg
    obtain ⟨f0, f1, f2, f3, f4, f5⟩ := hf it (by simp)
    have hgd : s.heap.get? d = some o := (I.hok d _ hd).1
    exact next_key_end (I.ok.hd hc) st hgd hod rfl hi fun h' eb => ⟨rfl, I.turned (t' := s.toks) (fun b ob hb e => eb b ob hb e) f0 f1 f3 f4 f5⟩
  self := fun A i s Q E st h => wpAny_pyIter_keyiter st h
theorem EntL.get {K : PySem.W.Frag} {H : Hp} : ∀ {kvs : List (D × D)} {es : List Ent} {i : Nat} {p : D × D}, EntL K H kvs es → kvs[i]? = some p → ∃ e, es[i]? = some e ∧ ReV K H p.1 e.2.1 ∧ ReV K H p.2 e.2.2
  | [], _, i, p, _, h => by simp at h
  | q :: ps, _, 0, p, ⟨e, r, h1, h2, h3, h4, t⟩, h => by
    subst h1
    simp at h
    subst h
    exact ⟨e, rfl, h3, h4⟩
  | q :: ps, _, i + 1, p, ⟨e, r, h1, h2, h3, h4, t⟩, h => by
    subst h1
    obtain ⟨e', a, b⟩ := EntL.get t (i := i) (by simpa using h)
    exact ⟨e', by simpa using a, b⟩
theorem EntL.length {K : PySem.W.Frag} {H : Hp} : ∀ {kvs : List (D × D)} {es : List Ent}, EntL K H kvs es → es.length = kvs.length
  | [], _, h => by cases h; rfl
  | q :: ps, _, ⟨e, r, h1, h2, h3, h4, t⟩ => by subst h1; rw [List.length_cons, List.length_cons, EntL.length t]
theorem wlk_dict {B : Bs} {H0 : Hp} {a : Addr} {od : Obj} {eA : Array DictEntry} {ep : Nat} (hd : od.data = .dict eA ep) : Wlk B H0 (ItD a od eA) (fun A xs => ∃ kvs, A a = some (.fdic od kvs) ∧ xs = kvs.map (·.1)) where
  stop := fun A H i xs g hA ⟨kvs, e, ex⟩ hl => by
    subst ex
    obtain ⟨es, e1, r, _, ep', h2⟩ := hA _ _ e
    obtain ⟨h3, _⟩ := dict_ep hd h2
    refine ⟨⟨_, e1⟩, ?_⟩
    rw [← h3]
    simpa [r.length] using hl
  go := fun A H i xs d g hA ⟨kvs, e, ex⟩ hx => by
    subst ex
    obtain ⟨es, e1, r, _, ep', h2⟩ := hA _ _ e
    obtain ⟨h3, _⟩ := dict_ep hd h2
    subst h3
    rw [List.getElem?_map] at hx
    cases hp : kvs[i]? with
    | none => rw [hp] at hx; cases hx
    | some p =>
      rw [hp] at hx
      simp at hx
      subst hx
      obtain ⟨en, e3, ⟨v, rv, ru⟩, _⟩ := r.get hp
      have e4 : (es.map fun e => (⟨hsh B.w e.1, e.2.1, e.2.2⟩ : DictEntry)).toArray[i]? = some ⟨hsh B.w en.1, en.2.1, en.2.2⟩ := by simp [e3]
      refine ⟨⟨⟨_, e1⟩, _, v, e4, ru⟩, fun x H' ⟨q1, en', q2, q3⟩ => ?_⟩
      subst q1
      rw [e4] at q2
      cases q2
      have := q3.inj ru
      subst this
      exact ⟨hA, Grow.refl, rv⟩
def diD (t : DTE) : DI := fun σ A P => t σ A fun x A1 => match x with
  | .ref a => ∃ od kvs, A1 a = some (.fdic od kvs) ∧ P (fun A xs => ∃ kvs, A a = some (.fdic od kvs) ∧ xs = kvs.map (·.1)) A1
  | _ => False
section
variable {X : Cx} {tg e : Expr} {te : DTE}
theorem qi_dict (h : QE X e te) : QI X tg e (diD te) := by
  refine ⟨fun pins s σ H R I ⟨dσ, A, P, hA, hS, q, k⟩ => ?_⟩
  refine thn (h.run pins s σ H _ I ⟨dσ, A, _, hA, hS, q, Kp.id⟩) fun u s1 ⟨x, H1, I1, rx, d, A1, q1, hA1, rd, g1⟩ => ?_
  cases d with
  | ref a =>
    cases rd; cases rx
    obtain ⟨od, kvs, e1, q1⟩ := q1
    obtain ⟨es, e2, r, _, ep, hd⟩ := hA1 _ _ e1
    obtain ⟨h1, ⟨o, ep', h2, h3, h4, h5⟩, _⟩ := I1.hok a _ e2
    rw [h1] at h2
    cases h2
    refine iter_keys h5 h1 h3 hd (pi_one (tk := s1.toks) I1 _ (turn_D _ hd) ⟨_, Heap.get?_push_size _ rfl, rfl, ?_⟩ (k _ _ _ _ q1 hA1 g1 (wlk_dict hd)))
    rfl
  | _ => exact q1.elim
end
/-! ### a dict collected -/
section
variable {prog : Program} {w : World} {d : Addr} {o : Obj} {es : Array DictEntry} {ep : Nat}
theorem kdl_obj (lo : (d == sysModules) = false) (hx : o.ExactDict) (hd : o.data = .dict es ep) : PySem.W.KdlSrc prog w "dict" d d es.size (fun i v => ∃ en, es[i]? = some en ∧ v = en.key) (fun h => h.get? d = some o) where
  type := fun _ hm => ⟨o, hm, hx.1⟩
  there := fun _ hm => ⟨Heap.lt_size hm, Heap.lt_size hm⟩
  keep := fun _ _ hm hk => hk d (.inl rfl) _ hm
  notList := by decide
  notTuple := by decide
  hint := fun _ _ _ _ hm hq => PySem.W.kdl_hint_dict ⟨o, hm, hx.1⟩ hq
  iter := fun A s hh hm => ⟨_, fun i h => h.IsKeyIter s.heap.objs.size d i es.size ep ∧ h.get? d = some o, (fun _ _ hq => iter_keys lo hm hx hd hq), {
    sub := fun b hb => by simp at hb; simp [hb]
    frame := fun _ _ _ st hk => ⟨st.1.at fun o e => hk _ (by simp) o e, hk d (by simp) _ st.2⟩
    item := fun i s1 Q E hi st hQ => by
      have he : es[i]? = some es[i] := by simp [hi]
      refine next_key_item st.1 st.2 hd rfl he fun h' st' sb => ?_
      exact hQ _ h' s1.toks ⟨_, he, rfl⟩ ⟨st', (sb.2 d (Nat.ne_of_lt (Heap.lt_size hm))).trans st.2⟩ fun b o hb e => (sb.2 b (fun h => hb (by simp [h]))).trans e
    done := fun s1 Q E st hQ => next_key_end hh st.1 st.2 hd rfl (Nat.le_refl _) fun h' eb => hQ h' s1.toks fun b o hb e => eb b o (fun h => hb (by simp [h])) e
    self := fun _ _ _ _ st hQ => wpAny_pyIter_keyiter st.1 hQ }, ⟨⟨_, Heap.get?_push_size _ rfl, rfl, rfl⟩, Heap.get?_push_of_some _ hm⟩⟩
end
/-! ### sorted -/
def sortD (ds : List D) : List D := ds.mergeSort fun x y => !ltD 4 y x
def sortOk (ds : List D) : Bool := okS ds && ds.all fun d => isKey d && ds.all fun e => okD 4 d e
theorem sortD_perm (ds : List D) : (sortD ds).Perm ds := List.mergeSort_perm _ _
theorem sortD_srtd (ds : List D) : SrtO.Srtd (ltD 4) (sortD ds) := by
  have O := swo_rk 4
  refine (List.pairwise_mergeSort (le := fun x y => !ltD 4 y x) (fun a b c h1 h2 => ?_) (fun a b => ?_) ds).imp fun h => by simpa using h
  · simp only [Bool.not_eq_true'] at h1 h2 ⊢
    exact O.tr _ _ _ h1 h2
  · rcases SrtO.bcase (ltD 4 b a) with h | h
    · rw [h, O.asym _ _ h]; rfl
    · rw [h]; rfl
theorem sortD_uniq {ds ys : List D} (hk : ∀ d ∈ ds, isKey d = true) (hs : SrtO.Srtd (ltD 4) ys) (hp : ys.Perm ds) : ys = sortD ds := by
  refine List.Perm.eq_of_pairwise (le := fun x y => ltD 4 y x = false) (fun a b ha hb h1 h2 => ?_) hs (sortD_srtd ds) (hp.trans (sortD_perm ds).symm)
  exact tri 4 a b (hk a (hp.mem_iff.mp ha)) (hk b ((sortD_perm ds).mem_iff.mp hb)) h2 h1
theorem sortOk_at {ds : List D} (h : sortOk ds = true) : okS ds = true ∧ (∀ d ∈ ds, isKey d = true) ∧ ∀ d ∈ ds, ∀ e ∈ ds, okD 4 d e = true := by
  unfold sortOk at h
  simp only [Bool.and_eq_true, List.all_eq_true] at h
  exact ⟨h.1, fun d m => (h.2 d m).1, fun d m => (h.2 d m).2⟩
/-- r gives, collected, values with the property P -/
def SrcOf (X : Cx) (A : Around) (s : Shared) (r : Addr) (P : List Value → Prop) : Prop :=
  ∀ (E : Value → Shared → Prop) (R : List Value → Shared → Prop), (∀ h' tk acc, (∀ b o, s.heap.get? b = some o → h'.get? b = some o) → P acc → R acc { s with heap := h', toks := tk }) → wpAny (model X.prog X.w) A (collect (.ref r)) R E s
theorem RelL.at {K : PySem.W.Frag} {H : Hp} : ∀ {ds : List D} {vs : List V} {us : List Value}, RelL K H ds vs → Vals vs us → us.length = ds.length ∧ ∀ (j : Nat) d u, ds[j]? = some d → us[j]? = some u → ∃ x, RelD K H d x ∧ RelV x u
  | [], _, us, h, r => by cases h; cases r; exact ⟨rfl, fun j d u e => by simp at e⟩
  | d :: ds, _, us, ⟨v, vs, e, h1, h2⟩, r => by
    subst e
    cases r with
    | cons r t =>
      obtain ⟨a, b⟩ := RelL.at h2 t
      refine ⟨by simp [a], fun j d' u' e1 e2 => ?_⟩
      cases j with
      | zero => simp at e1 e2; subst e1 e2; exact ⟨v, h1, r⟩
      | succ j => exact b j d' u' (by simpa using e1) (by simpa using e2)
theorem rel_out {K : PySem.W.Frag} {H : Hp} {f : Value → D} : ∀ {out : List Value}, (∀ v ∈ out, ∃ x, RelD K H (f v) x ∧ RelV x v) → ∃ xs, RelL K H (out.map f) xs ∧ Vals xs out
  | [], _ => ⟨[], rfl, .nil⟩
  | v :: out, h => by
    obtain ⟨xs, a, b⟩ := rel_out (out := out) fun u m => h u (List.mem_cons_of_mem _ m)
    obtain ⟨x, r1, r2⟩ := h v List.mem_cons_self
    exact ⟨x :: xs, ⟨x, xs, rfl, r1, a⟩, .cons r2 b⟩
section
variable {X : Cx} {pins : List (Addr × Obj)} {σ : L2.St} {H : Hp} {s : Shared}
theorem x_sorted {A : AH} {r : Addr} {ds : List D} {R : DQ} {Q : VK} (hu : X.A.units + 64 < cLine) (I : L2.Inv X pins σ H s) (hA : RelH X.b A H) (hz : ds.length ≤ SL) (ok : sortOk ds = true)
    (hsrc : SrcOf X X.A.in1 s r fun acc => ∃ vs, RelL X.K H ds vs ∧ Vals vs acc) (hR : ∀ p, A p = none → R (.ref p) (up A p (.lst (sortD ds)))) (k : Kp X.b H R Q) :
    wpAny (model X.prog X.w) X.A (call (.builtin "sorted") [.ref r]) (EP X pins σ Q) X.xe s := by
  obtain ⟨o1, o2, o3⟩ := sortOk_at ok
  refine Calls.call_function_entry PyProof.Rows.kind_sorted PyProof.Rows.plain_sorted PyProof.Rows.entry_sorted (PyProof.Rows.args_sorted1 _) ?_
  unfold Builtin.«sorted»
  refine wpAny_bind (m := checkCount "sorted" 1 1 _) (wpAny_pure ?_)
  refine wpAny_bind (hsrc _ _ fun h' tk acc hk ⟨vs, rl, rv⟩ => ?_)
  obtain ⟨hl, hat⟩ := rl.at rv
  have hacc : acc.length ≤ sizeLine := by rw [hl, SL_eq]; exact hz
  refine wpAny_bind (wpAny_newList ?_ hacc)
  have hoL : (h'.push (seqObj "list" acc.toArray 0)).get? h'.objs.size = some (seqObj "list" acc.toArray 0) := Heap.get?_push_size _ rfl
  show wpAny _ _ _ _ _ { s with heap := h'.push (seqObj "list" acc.toArray 0), toks := tk }
  have hk1 : ∀ b o, s.heap.get? b = some o → (h'.push (seqObj "list" acc.toArray 0)).get? b = some o := fun b o q => Heap.get?_push_of_some _ (hk b o q)
  have ks : KeysAt (h'.push (seqObj "list" acc.toArray 0)) ds acc := ⟨hl, fun j d v e1 e2 => by
    obtain ⟨x, r1, r2⟩ := hat j d v e1 e2
    exact (key_at I 4 d x v (o2 d (List.mem_of_getElem? e1)) r1 r2).grows fun b o q _ => hk1 b o q⟩
  have I1 : L2.Inv X pins σ H { s with heap := h', toks := tk } := I.kept hk
  refine wpAny_bind (wpAny_holding (wpAny_call_entry PyProof.Rows.slot_list_sort ⟨_, hoL, rfl⟩ PyProof.Rows.entry_list_sort
    (SrtO.list_sort_ord (s := { s with heap := h'.push (seqObj "list" acc.toArray 0), toks := tk }) (swo_at (h'.push (seqObj "list" acc.toArray 0))) hoL hacc (fun h2 => keys_sortable (s := { s with heap := h'.push (seqObj "list" acc.toArray 0), toks := tk }) (by show X.A.units + 1 + 1 + 8 < cLine; omega) h2 ks o1 o3 fun o e => by rw [hoL] at e; cases e; show Value.type "list" ≠ Value.type "tuple"; decide) fun out hs hb => ⟨_, rfl, ?_⟩)
    (PyProof.Rows.args_list_sort _)))
  obtain ⟨e', he'⟩ := PyProof.Rows.sortedHeap_at (vs := acc) (out := out.toArray) hoL
  have hm := ks.map
  have e3 : out.map (dAt (h'.push (seqObj "list" acc.toArray 0))) = sortD ds := by
    refine sortD_uniq o2 (SrtO.srtd_map (f := dAt _) hs) ?_
    rw [hm]
    exact hb.perm.map _
  obtain ⟨xs, q1, q2⟩ := rel_out (K := X.K) (H := H) (f := dAt (h'.push (seqObj "list" acc.toArray 0))) (out := out) fun v m => by
    obtain ⟨j, hj, e⟩ := List.getElem_of_mem (hb.perm.mem_iff.mp m)
    have h2 : j < ds.length := by rw [← hl]; exact hj
    obtain ⟨x, r1, r2⟩ := hat j ds[j] v (List.getElem?_eq_getElem h2) (by rw [← e]; exact List.getElem?_eq_getElem hj)
    rw [dAt_of (ks.2 j ds[j] v (List.getElem?_eq_getElem h2) (by rw [← e]; exact List.getElem?_eq_getElem hj))]
    exact ⟨x, r1, r2⟩
  rw [e3] at q1
  have hlen : xs.length ≤ sizeLine := by rw [q2.length, hb.perm.length_eq]; exact hacc
  have hn := I1.hok.fresh (Nat.le_refl h'.objs.size)
  refine wpAny_pure ⟨_, rfl, .ref h'.objs.size, upd H h'.objs.size (.lst xs), I1.laid (t' := tk) (fun b u e => ?_) (Nat.le_refl _)
    (show ObjOk X.prog X.w _ _ _ (.lst xs) from ⟨hlen, out, e', q2, he'⟩), rfl, k _ _ _ _ (hR _ (hA.free hn)) (hA.add (u := .lst _) hn ⟨_, upd_same, q1.grow (Grow.new hn)⟩) rfl (Grow.new hn)⟩
  have hb' : b < h'.objs.size := Heap.lt_size e
  rw [PyProof.Rows.sortedHeap_old (Nat.ne_of_lt hb') (by rw [size_push']; exact Nat.lt_succ_of_lt hb')]
  exact Heap.get?_push_of_some _ e
end
end DL
set_option Elab.async false
set_option linter.all false
set_option maxRecDepth 100000
set_option maxHeartbeats 1000000
/-! DL11: == of dicts, isinstance, sorted by its sources. -/
namespace DL
open PySem PySem.Spec PyProof.Rows L2
theorem dget_at {α : Type} : ∀ {kvs : List (D × α)} {j : Nat} {k : D} {d : α}, (kvs.map (·.1)).Nodup → kvs[j]? = some (k, d) → dget kvs k = some d
  | [], j, k, d, _, h => by simp at h
  | q :: ps, 0, k, d, _, h => by
    simp at h
    subst h
    simp [dget]
  | q :: ps, j + 1, k, d, nd, h => by
    rw [List.map_cons, List.nodup_cons] at nd
    have h : ps[j]? = some (k, d) := by simpa using h
    have ih := dget_at nd.2 h
    have ne : q.1 ≠ k := fun e => nd.1 (by rw [e]; exact List.mem_map.mpr ⟨(k, d), List.mem_of_getElem? h, rfl⟩)
    unfold dget at ih ⊢
    rw [List.find?_cons_of_neg (by simpa using ne)]
    exact ih
theorem dget_none {α : Type} {kvs : List (D × α)} {k : D} (h : k ∉ kvs.map (·.1)) : dget kvs k = none := by
  cases e : dget kvs k with
  | none => rfl
  | some d => exact absurd (dget_mem.mp (by rw [e]; rfl)) h
section
variable {X : Cx} {pins : List (Addr × Obj)} {σ : L2.St} {H : Hp} {s : Shared} {A₀ : Around} {E : Value → Shared → Prop} {A : AH} {a b : Addr} {kvs kb : List (D × D)} {k : D} {y : V} {u : Value}
/-- where the key k stands -/
theorem x_find {Q : Option Nat → Shared → Prop} (hu : A₀.units + 5 < cLine) (I : L2.Inv X pins σ H s) (hA : RelH X.b A H) (e : DicOf A a kvs) (ok : okK kvs k = true) (rk : RelD X.K H k y) (ry : RelV y u)
    (hn : dget kvs k = none → Q none s) (hs : ∀ j d, kvs[j]? = some (k, d) → dget kvs k = some d → Q (some j) s) : wpAny (model X.prog X.w) A₀ (dictFind a u (hsh X.w k)) Q E s := by
  have all := okK_all ok
  have kk := okK_key ok
  obtain ⟨_, _, _, gd⟩ := view_at I hA e
  have found : ∀ j : Nat, (kvs.map (·.1))[j]? = some k → Q (some j) s := fun j h => by
    rw [List.getElem?_map] at h
    cases hp : kvs[j]? with
    | none => rw [hp] at h; cases h
    | some p =>
      rw [hp] at h
      obtain ⟨p1, p2⟩ := p
      have : p1 = k := by simpa using h
      subst this
      exact hs j p2 hp (dget_at gd.1 hp)
  cases ht : isTup k with
  | true =>
    rw [ht] at all
    obtain ⟨xs, ⟨o, es, ep, g1, g2, g3, g4, g5, g6⟩, t, _, _⟩ := view_t I hA e all
    obtain ⟨p, hp⟩ := isTup_ref ⟨y, rk, ry⟩ ht
    subst hp
    have tk := t.keys
    refine wpAny_dictFind_heap (knd := nestKind X.prog X.w) (by show A₀.units + 4 < cLine; omega) ⟨ht, key_at I 4 _ _ _ kk rk ry⟩ g1 g3 g4 g5 g6 (fun h => hn (dget_none fun m => ?_)) fun j p h => found j ?_
    · rw [← tk] at m
      obtain ⟨z, mz, ez⟩ := List.mem_map.mp m
      obtain ⟨j, hj, ej⟩ := List.getElem_of_mem mz
      obtain ⟨z1, z2⟩ := z
      have : z1 = k := ez
      subst this
      exact h j z2 (by rw [← ej]; exact List.getElem?_eq_getElem hj)
    · rw [← tk, List.getElem?_map, h] <;> rfl
  | false =>
    rw [ht] at all
    obtain ⟨xs, ⟨o, es, ep, g1, g2, g3, g4, g5, g6⟩, t, _, _⟩ := view_f I hA e all
    have hy := kyD_rel kk ht rk
    subst hy
    have hidx := g5.findIdx (kyD k)
    rw [kyD_hash X.w kk ht]
    refine wpAny_dictFind_of (knd := mixKind X.prog X.w) (k := kyD k) (kV_is ry) g1 g3 g4 ?_
    have e3 : (es.findIdx? fun e => (mixKind X.prog X.w).is (kyD k) e.key) = xs.findIdx? fun kv => decide (kv.1 = kyD k) := by
      rw [← hidx]
      obtain ⟨l⟩ := es
      simp
    rw [e3]
    have fk := t.keys
    cases h : xs.findIdx? fun kv => decide (kv.1 = kyD k) with
    | none =>
      refine hn (dget_none fun m => ?_)
      obtain ⟨p, mp, ep⟩ := List.mem_map.mp m
      have : kyD k ∈ xs.map (·.1) := by rw [fk]; exact List.mem_map.mpr ⟨p, mp, by rw [ep]⟩
      obtain ⟨z, mz, ez⟩ := List.mem_map.mp this
      have := List.findIdx?_eq_none_iff.mp h z mz
      simp [ez] at this
    | some j =>
      refine found j ?_
      obtain ⟨hj, hp, _⟩ := List.findIdx?_eq_some_iff_getElem.mp h
      have e4 : xs[j].1 = kyD k := of_decide_eq_true hp
      have e5 : (xs.map (·.1))[j]? = some (kyD k) := by rw [List.getElem?_map, List.getElem?_eq_getElem hj, ← e4] <;> rfl
      rw [fk, List.getElem?_map] at e5
      rw [List.getElem?_map]
      cases hp : kvs[j]? with
      | none => rw [hp] at e5; cases e5
      | some p =>
        rw [hp] at e5
        have e6 : kyD p.1 = kyD k := by simpa using e5
        have mp := List.mem_of_getElem? hp
        rw [← kyD_inj (gd.2.2.1 p mp) (all p mp) kk ht e6] <;> rfl
/-! ### == of dicts -/
/-- the pairs of ka, looked up in kb, compare as f says -/
def pairsB (f : D → D → Bool) (kb : List (D × D)) (ka : List (D × D)) : Bool := ka.all fun p => match dget kb p.1 with
  | some d => f p.2 d
  | none => false
theorem x_same {nm : String} {f : D → D → Bool} {Q : Bool → Shared → Prop} (hu : A₀.units + 5 < cLine) (I : L2.Inv X pins σ H s) (hA : RelH X.b A H) (ea : DicOf A a kvs) (eb : DicOf A b kb) (ok : ∀ p ∈ kvs, okK kb p.1 = true)
    (hv : ∀ p ∈ kvs, ∀ d, dget kb p.1 = some d → ∀ v u, ReV X.K H p.2 v → ReV X.K H d u → SeqAt.EqAt A₀ s v u (f p.2 d)) (h : Q (decide (kvs.length = kb.length) && pairsB f kb kvs) s) :
    wpAny (model X.prog X.w) A₀ (Builtin.Dict.samePairs nm a b) Q E s := by
  obtain ⟨la, ⟨oa, na, a1, a2, a3, a4⟩, ra, ga⟩ := view_at I hA ea
  obtain ⟨lb, ⟨ob, nb, b1, b2, b3, b4⟩, rb, gb⟩ := view_at I hA eb
  have sa : (la.map fun e => (⟨hsh X.w e.1, e.2.1, e.2.2⟩ : DictEntry)).toArray.size = kvs.length := by simp [ra.length]
  have sb : (lb.map fun e => (⟨hsh X.w e.1, e.2.1, e.2.2⟩ : DictEntry)).toArray.size = kb.length := by simp [rb.length]
  have keyOf : ∀ {ks : List (D × D)} {ls : List Ent} (r : EntL X.K H ks ls) (j : Nat) (p : D × D), ks[j]? = some p → ∃ e, ls[j]? = some e ∧ e.1 = p.1 ∧ ReV X.K H p.1 e.2.1 ∧ ReV X.K H p.2 e.2.2 := by
    intro ks
    induction ks with
    | nil => intro ls r j p h; simp at h
    | cons q qs ih =>
      intro ls r j p h
      obtain ⟨e, r', x1, x2, x3, x4, x5⟩ := r
      subst x1
      cases j with
      | zero => simp at h; subst h; exact ⟨e, rfl, x2, x3, x4⟩
      | succ j =>
        obtain ⟨e', y1, y2⟩ := ih x5 j p (by simpa using h)
        exact ⟨e', by simpa using y1, y2⟩
  generalize hga : (la.map fun e => (⟨hsh X.w e.1, e.2.1, e.2.2⟩ : DictEntry)).toArray = ga' at a3 sa
  generalize hgb : (lb.map fun e => (⟨hsh X.w e.1, e.2.1, e.2.2⟩ : DictEntry)).toArray = gb' at b3 sb
  unfold Builtin.Dict.samePairs Builtin.Dict.showsAll
  rw [a4, b4]
  simp only [Bool.false_eq_true, if_false]
  refine wpAny_bind (wpAny_pure (wpAny_bind (wpAny_pure (wpAny_bind (wpAny_dictEntries a1 a3 ?_)))))
  refine wpAny_bind (wpAny_dictEntries b1 b3 ?_)
  by_cases hl : kvs.length = kb.length
  · have h : Q (pairsB f kb kvs) s := by simpa [hl] using h
    rw [if_neg (by rw [sa, sb, hl]; simp)]
    refine wpAny_bind (wpAny_dictEpoch a1 a3 (wpAny_bind ?_))
    rw [Std.Legacy.Range.forIn_eq_forIn_range']
    simp only [Std.Legacy.Range.size, Nat.sub_zero, Nat.add_sub_cancel, Nat.div_one, sa]
    refine wpAny_forIn_list _ (fun left q st => st = s ∧ q = (none, ()) ∧ ∃ i, i ≤ kvs.length ∧ left = List.range' i (kvs.length - i) ∧ Q (pairsB f kb (kvs.drop i)) s) _ ?_ ?_ _ _ ⟨rfl, rfl, 0, Nat.zero_le _, by simp, by simpa using h⟩
    · intro x left q st ⟨e1, e2, i, hi, e3, hq⟩
      subst e1 e2
      have lt : i < kvs.length := by
        rcases Nat.lt_or_ge i kvs.length with z | z
        · exact z
        · rw [Nat.sub_eq_zero_of_le z] at e3; cases e3
      rw [show kvs.length - i = (kvs.length - (i + 1)) + 1 by omega, List.range'_succ] at e3
      obtain ⟨rfl, e3⟩ := List.cons.inj e3
      have kx : kvs[x]? = some kvs[x] := List.getElem?_eq_getElem lt
      obtain ⟨en, l1, l2, l3, l4⟩ := keyOf ra x _ kx
      have hx : ga'[x]? = some ⟨hsh X.w en.1, en.2.1, en.2.2⟩ := by rw [← hga]; simp [l1]
      have mx : kvs[x] ∈ kvs := List.getElem_mem lt
      rw [List.drop_eq_getElem_cons lt] at hq
      refine wpAny_bind (wpAny_dictEntries a1 a3 ?_)
      rw [hx]
      show wpAny _ _ (holding [en.2.1, en.2.2] _ >>= _) _ _ _
      obtain ⟨kv, r1, r2⟩ := l3
      rw [l2]
      refine wpAny_bind (wpAny_holding (wpAny_bind (x_find hu I hA eb (ok _ mx) r1 r2 (fun hn => ?_) fun j d hj hd => ?_)))
      · have z : pairsB f kb (kvs[x] :: kvs.drop (x + 1)) = false := by
          unfold pairsB
          rw [List.all_cons, hn, Bool.false_and]
        rw [z] at hq
        exact wpAny_pure (wpAny_pure (wpAny_pure hq))
      · obtain ⟨eo, m1, m2, m3, m4⟩ := keyOf rb j _ hj
        have hy : gb'[j]? = some ⟨hsh X.w eo.1, eo.2.1, eo.2.2⟩ := by rw [← hgb]; simp [m1]
        refine wpAny_bind (wpAny_dictEntries b1 b3 ?_)
        rw [hy]
        have eqa := hv _ mx d hd _ _ l4 m4
        have z : pairsB f kb (kvs[x] :: kvs.drop (x + 1)) = (f kvs[x].2 d && pairsB f kb (kvs.drop (x + 1))) := by
          unfold pairsB
          rw [List.all_cons, hd]
        rw [z] at hq
        refine wpAny_holding (eqa _ _ _ _ ?_)
        cases hf : f kvs[x].2 d with
        | false =>
          rw [hf, Bool.false_and] at hq
          exact wpAny_pure (wpAny_pure hq)
        | true =>
          rw [hf, Bool.true_and] at hq
          refine wpAny_bind (wpAny_dictEpoch a1 a3 ?_)
          rw [if_neg (by simp)]
          exact wpAny_pure ⟨rfl, rfl, x + 1, lt, e3, hq⟩
    · intro q st ⟨e1, e2, i, hi, e3, hq⟩
      subst e1 e2
      have : i = kvs.length := by
        rcases Nat.lt_or_ge i kvs.length with z | z
        · rw [show kvs.length - i = (kvs.length - (i + 1)) + 1 by omega, List.range'_succ] at e3; cases e3
        · omega
      subst this
      rw [List.drop_length] at hq
      exact wpAny_pure hq
  · rw [if_pos (by rw [sa, sb]; simpa using hl)]
    have h : Q false s := by simpa [hl] using h
    exact wpAny_bind (wpAny_rule (wpAny_pure h))
end
/-! ### plain data -/
mutual
def isPl : D → Bool
  | .non => true
  | .int _ => true
  | .str _ => true
  | .tup l => isPls l
  | _ => false
def isPls : List D → Bool
  | [] => true
  | d :: ds => isPl d && isPls ds
end
mutual
def plT : D → T
  | .int i => .int i
  | .str l => .str l
  | .tup l => .tup (plTs l)
  | _ => .non
def plTs : List D → List T
  | [] => []
  | d :: ds => plT d :: plTs ds
end
mutual
theorem snap_pl {A : AH} : ∀ (d : D), isPl d = true → Snap A d (plT d)
  | .non, _ => rfl
  | .int i, _ => rfl
  | .str l, _ => rfl
  | .tup l, h => ⟨l, rfl, snaps_pl l h⟩
  | .bl _, h => nomatch h
  | .cl _, h => nomatch h
  | .ref _, h => nomatch h
theorem snaps_pl {A : AH} : ∀ (d : List D), isPls d = true → Snaps A d (plTs d)
  | [], _ => rfl
  | d :: ds, h => ⟨d, ds, rfl, snap_pl d (Bool.and_eq_true_iff.mp h).1, snaps_pl ds (Bool.and_eq_true_iff.mp h).2⟩
end
mutual
theorem eqv_pl : ∀ (d e : D), isPl d = true → isPl e = true → T.eqv (plT d) (plT e) = decide (d = e)
  | .non, e, _, h => by cases e <;> first | (cases h; done) | simp [plT, T.eqv]
  | .int i, e, _, h => by cases e <;> first | (cases h; done) | (simp [plT, T.eqv]; done) | (simp only [plT, T.eqv]; rw [Bool.eq_iff_iff]; simp)
  | .str l, e, _, h => by cases e <;> first | (cases h; done) | (simp [plT, T.eqv]; done) | (simp only [plT, T.eqv]; rw [Bool.eq_iff_iff]; simp)
  | .tup l, .tup m, h, h' => by
    have := eqvs_pl l m h h'
    simp only [plT, T.eqv, this, D.tup.injEq]
  | .tup l, .non, h, h' => by simp [plT, T.eqv]
  | .tup l, .int _, h, h' => by simp [plT, T.eqv]
  | .tup l, .str _, h, h' => by simp [plT, T.eqv]
  | .tup _, .bl _, _, h => nomatch h
  | .tup _, .cl _, _, h => nomatch h
  | .tup _, .ref _, _, h => nomatch h
  | .bl _, _, h, _ => nomatch h
  | .cl _, _, h, _ => nomatch h
  | .ref _, _, h, _ => nomatch h
theorem eqvs_pl : ∀ (d e : List D), isPls d = true → isPls e = true → T.eqvs (plTs d) (plTs e) = decide (d = e)
  | [], [], _, _ => rfl
  | [], _ :: _, _, _ => rfl
  | _ :: _, [], _, _ => rfl
  | d :: ds, e :: es, h, h' => by
    have h1 := Bool.and_eq_true_iff.mp h
    have h2 := Bool.and_eq_true_iff.mp h'
    simp only [plTs, T.eqvs, eqv_pl d e h1.1 h2.1, eqvs_pl ds es h1.2 h2.2, List.cons.injEq]
    simp
end
def plV (d : D) : Prop := isPl d = true ∧ (plT d).dep ≤ 60
def dEqB (ka kb : List (D × D)) : Bool := decide (ka.length = kb.length) && pairsB (fun x y => decide (x = y)) kb ka
def fDEqB (neg : Bool) : DR2
  | .ref a, .ref b, A, Q => match dicGetD A a, dicGetD A b with
    | some ka, some kb => (∀ p ∈ ka, okK kb p.1 = true ∧ plV p.2) ∧ (∀ p ∈ kb, plV p.2) ∧ Q (.bl (neg ^^ dEqB ka kb)) A
    | _, _ => False
  | _, _, _, _ => False
section
variable {X : Cx}
theorem eqAt_pl {pins : List (Addr × Obj)} {σ : L2.St} {H : Hp} {s : Shared} {A₀ : Around} {A : AH} {d e : D} {v u : Value} (hu : A₀.units + 60 < cLine) (I : L2.Inv X pins σ H s) (hA : RelH X.b A H) (h1 : plV d) (h2 : plV e) (r1 : ReV X.K H d v) (r2 : ReV X.K H e u) : SeqAt.EqAt A₀ s v u (decide (d = e)) := by
  obtain ⟨x, r1, q1⟩ := r1
  obtain ⟨y, r2, q2⟩ := r2
  obtain ⟨a1, a2, a3⟩ := snap_dp hA _ _ _ (snap_pl d h1.1) r1
  obtain ⟨b1, b2, b3⟩ := snap_dp hA _ _ _ (snap_pl e h2.1) r2
  obtain ⟨as, z1⟩ := Dp.reads I _ _ _ a1 q1
  obtain ⟨bs, z2⟩ := Dp.reads I _ _ _ b1 q2
  have := SeqAt.eqAt_reads _ _ A₀ s v u as bs z1 z2 a2 b2 (by have := h1.2; rw [← a3] at this; have : min (plT d).py.depth (plT e).py.depth ≤ 60 := Nat.le_trans (Nat.min_le_left _ _) this; omega)
  rw [eqv_py, eqv_pl d e h1.1 h2.1] at this
  exact this
theorem d_deq (hu : X.A.units + 64 < cLine) : DOp X (compareOp .Eq) (fDEqB false) := DOp.raw fun pins s σ H x y v u Q I rx ry ⟨dx, dy, A, R, hA, r1, r2, q, k⟩ => by
  unfold fDEqB at q
  split at q
  · rename_i a b
    cases r1; cases rx; cases r2; cases ry
    split at q
    · rename_i ka kb ha hb
      obtain ⟨q1, q2, q3⟩ := q
      have t1 := (dict_ty I hA ha).1
      have t2 := (dict_ty I hA hb).1
      refine wpAny_richCompare_same_room (op := .Eq) t1 t2 PySem.F.slot_dict_eq (wpAny_call_entry PySem.F.slot_dict_eq t1 PySem.F.entry_dict_eq ?_ (PySem.F.args_dict_eq_2 _ _)) (by omega)
      show wpAny _ _ (Builtin.Dict.dictSlotArgs "__eq__" _ >>= _) _ _ s
      refine wpAny_bind (wpAny_bind (wpAny_notOrdered_dict t1 (wpAny_pure (wpAny_bind (wpAny_isInstance (T := "dict") t2 PySem.F.sub_dict_dict ?_)))))
      simp only [Bool.not_true, Bool.false_eq_true, if_false]
      refine wpAny_bind (wpAny_pure (wpAny_bind (wpAny_pure (wpAny_bind (x_same (f := fun x y => decide (x = y)) (by show X.A.units + 1 + 5 < cLine; omega) I hA (dicGetD_of ha) (dicGetD_of hb) (fun p m => (q1 p m).1) (fun p m d hd v u e1 e2 => ?_) ?_)))))
      · have md : ∃ p' ∈ kb, p'.2 = d := by
          unfold dget at hd
          cases hf : kb.find? fun z => decide (z.1 = p.1) with
          | none => rw [hf] at hd; cases hd
          | some z => rw [hf] at hd; exact ⟨z, List.mem_of_find?_eq_some hf, by simpa using hd⟩
        obtain ⟨p', mp', ep'⟩ := md
        exact eqAt_pl (by show X.A.units + 1 + 60 < cLine; omega) I hA (q1 p m).2 (by rw [← ep']; exact q2 p' mp') e1 e2
      · refine wpAny_pure ⟨_, rfl, fun z => (nomatch z), ⟨.bl (dEqB ka kb), H, I, ?_, k.at (d := .bl (dEqB ka kb)) (by simpa using q3) hA rfl⟩⟩
        show Value.bool _ = Value.bool _
        congr 1
        unfold dEqB
        simp
    · exact q.elim
  · exact q.elim
theorem d_dne (hu : X.A.units + 64 < cLine) : DOp X (compareOp .NotEq) (fDEqB true) := DOp.raw fun pins s σ H x y v u Q I rx ry ⟨dx, dy, A, R, hA, r1, r2, q, k⟩ => by
  unfold fDEqB at q
  split at q
  · rename_i a b
    cases r1; cases rx; cases r2; cases ry
    split at q
    · rename_i ka kb ha hb
      obtain ⟨q1, q2, q3⟩ := q
      have t1 := (dict_ty I hA ha).1
      have t2 := (dict_ty I hA hb).1
      refine wpAny_richCompare_same_room (op := .NotEq) t1 t2 PySem.F.slot_dict_ne (wpAny_call_entry PySem.F.slot_dict_ne t1 PySem.F.entry_dict_ne ?_ (PySem.F.args_dict_ne_2 _ _)) (by omega)
      show wpAny _ _ (Builtin.Dict.dictSlotArgs "__ne__" _ >>= _) _ _ s
      refine wpAny_bind (wpAny_bind (wpAny_notOrdered_dict t1 (wpAny_pure (wpAny_bind (wpAny_isInstance (T := "dict") t2 PySem.F.sub_dict_dict ?_)))))
      simp only [Bool.not_true, Bool.false_eq_true, if_false]
      refine wpAny_bind (wpAny_pure (wpAny_bind (wpAny_pure (wpAny_bind (x_same (f := fun x y => decide (x = y)) (by show X.A.units + 1 + 5 < cLine; omega) I hA (dicGetD_of ha) (dicGetD_of hb) (fun p m => (q1 p m).1) (fun p m d hd v u e1 e2 => ?_) ?_)))))
      · have md : ∃ p' ∈ kb, p'.2 = d := by
          unfold dget at hd
          cases hf : kb.find? fun z => decide (z.1 = p.1) with
          | none => rw [hf] at hd; cases hd
          | some z => rw [hf] at hd; exact ⟨z, List.mem_of_find?_eq_some hf, by simpa using hd⟩
        obtain ⟨p', mp', ep'⟩ := md
        exact eqAt_pl (by show X.A.units + 1 + 60 < cLine; omega) I hA (q1 p m).2 (by rw [← ep']; exact q2 p' mp') e1 e2
      · refine wpAny_pure ⟨_, rfl, fun z => (nomatch z), ⟨.bl (!dEqB ka kb), H, I, ?_, k.at (d := .bl (!dEqB ka kb)) (by simpa using q3) hA rfl⟩⟩
        show Value.bool _ = Value.bool _
        congr 1
        unfold dEqB
        simp
    · exact q.elim
  · exact q.elim
end
/-! ### isinstance(x, T), T a built-in type -/
def dIsi (T : String) (t : DTE) : DTE := fun σ A Q => t σ A fun d A1 => match tyN A1 d with
  | some n => Q (.bl (isT T n)) A1
  | none => False
def rIsD (B : Bs) (T : String) : List V → Hp → VK → Prop := fun xs H Q => ∃ x A d n, xs = [x, .ty T] ∧ RelH B A H ∧ RelD B.K H d x ∧ tyN A d = some n ∧ Q (.bl (isT T n)) H
/-- the types that the program asks for -/
def okT (T : String) : Prop := ∀ n ∈ ["NoneType", "bool", "int", "str", "tuple", "list", "dict"], kitB n T = some (isT T n)
section
variable {X : Cx}
theorem kit_D {pins : List (Addr × Obj)} {σ : L2.St} {H : Hp} {s : Shared} {A : AH} {d : D} {x : V} {u : Value} {n : String} (I : L2.Inv X pins σ H s) (hA : RelH X.b A H) (rd : RelD X.K H d x) (rx : RelV x u) (hn : tyN A d = some n) :
    (∃ P : Heap → Prop, PySem.W.KitX X.K u (.type n) P ∧ P s.heap ∧ u ≠ .builtin "__main__.__loader__#opaque") ∧ n ∈ ["NoneType", "bool", "int", "str", "tuple", "list", "dict"] := by
  cases d with
  | non => cases hn; cases rd; exact ⟨kit_of I rx (.base .non), by simp⟩
  | bl b => cases hn; cases rd; exact ⟨kit_of I rx (.base (.bl b)), by simp⟩
  | int i => cases hn; cases rd; exact ⟨kit_of I rx (.base (.int i)), by simp⟩
  | str l => cases hn; obtain ⟨rfl, _⟩ := rd; exact ⟨kit_of I rx (.base (.str _)), by simp⟩
  | tup l =>
    cases hn
    obtain ⟨a, vs, rfl, t, r⟩ := rd
    rcases t with t | t
    · exact ⟨kit_of I rx (.base (.tup t)), by simp⟩
    · exact ⟨by obtain ⟨o, _, _, e, c, _⟩ := t; exact kit_of I rx (.kTuple e c), by simp⟩
  | cl l =>
    cases hn
    obtain ⟨a, vs, rfl, t, r⟩ := rd
    rcases t with ⟨o, t⟩ | t
    · exact ⟨kit_of I rx (.base (.frz t)), by simp⟩
    · exact ⟨by obtain ⟨o, _, _, e, c, _⟩ := t; exact kit_of I rx (.kList e c), by simp⟩
  | ref a =>
    cases rd
    have dic : ∀ kvs, DicOf A a kvs → ∃ P : Heap → Prop, PySem.W.KitX X.K u (.type "dict") P ∧ P s.heap ∧ u ≠ .builtin "__main__.__loader__#opaque" := fun kvs h => by
      cases (show u = Value.ref a from rx)
      obtain ⟨es, ⟨o, ep, h1, h2, _⟩, _⟩ := view_at I hA h
      exact ⟨_, PySem.W.kitx_dict, ⟨o, h1, h2.1⟩, fun z => nomatch z⟩
    unfold tyN at hn
    cases e : A a with
    | none => simp [e] at hn
    | some o =>
      simp only [e] at hn
      cases o with
      | lst xs =>
        cases hn
        obtain ⟨vs, e1, r⟩ := hA _ _ e
        exact ⟨kit_of I rx (.base (.lst e1)), by simp⟩
      | dic kvs => cases hn; exact ⟨dic kvs (.inl e), by simp⟩
      | fdic od kvs => cases hn; exact ⟨dic kvs (.inr ⟨od, e⟩), by simp⟩
      | ins C fs => cases hn
      | tbl => cases hn
      | xd fs => cases hn
theorem call_isD {T : String} (ok : okT T) : CallR X (.builtin "isinstance") (rIsD X.b T) := by
  intro pins s σ H xs us Q I r ⟨x, A, d, n, ex, hA, rd, hn, q⟩
  subst ex
  obtain ⟨u1, u2, rfl, r1, r2⟩ := vals2 r
  cases (show u2 = Value.type T from r2)
  obtain ⟨⟨P, Z, p, hx⟩, mn⟩ := kit_D I hA rd r1 hn
  exact PySem.W.kia_one Z I.kIn p (kit_ty (ok n mn)) hx fun tk => ⟨.bl _, H, I.tok tk, rfl, q⟩
theorem qe_isi {e : Expr} {te : DTE} {T : String} {x : Str} {p tp pos : Pos} (he : QE X e te) (ok : okT T) (hg : Gl X "isinstance") (hm : X.mg "isinstance" = none) (hgT : Gl X x) (hmT : X.mg x = none) (hv : bootBuiltins x = some (.type T))
    (hn : x ≠ "__name__" := by decide) (hdb : (x == ("__debug__" : Str)) = false := by decide)
    (hs : starEach [e, .Name x tp] X.env = (false, eval e X.env) :: starEach [.Name x tp] X.env := by rfl) (hpl : (backTo pos (starEach [.Name x tp] X.env)).any (·.1) = false := by rfl) (hs2 : starEach [.Name x tp] X.env = (false, eval (.Name x tp) X.env) :: starEach [] X.env := by rfl) :
    QE X (.Call (.Name "isinstance" p) [e, .Name x tp] [] pos) (dIsi T te) := by
  refine imE (pe_callB (call_isD ok) hg hm PyProof.Rows.boot_isinstance (pa_cons he (pa_cons (pe_bltn (v := .ty T) hgT hmT hv rfl hn hdb) pa_nil hs2) hs) (by decide) (by decide) hs hpl) ?_
  intro σ H Q ⟨dσ, A, R, hA, hS, q, k⟩
  refine ⟨dσ, A, _, hA, hS, q, fun d A' v H' q' hA' rd g => ?_⟩
  cases hn : tyN A' d with
  | none => rw [hn] at q'; exact q'.elim
  | some n =>
    rw [hn] at q'
    exact ⟨v, A', d, n, rfl, hA', rd, hn, k _ _ _ _ q' hA' rfl g⟩
theorem okT_tuple : okT "tuple" := by unfold okT; decide +kernel
theorem okT_str : okT "str" := by unfold okT; decide +kernel
theorem okT_list : okT "list" := by unfold okT; decide +kernel
theorem okT_bool : okT "bool" := by unfold okT; decide +kernel
theorem okT_int : okT "int" := by unfold okT; decide +kernel
theorem okT_dict : okT "dict" := by unfold okT; decide +kernel
end
/-! ### sorted(xs), sorted(d) -/
def fSorted : DRn
  | [.ref a], A, Q => match A a with
    | some (.lst xs) => xs.length ≤ SL ∧ sortOk xs = true ∧ ∀ p, A p = none → Q (.ref p) (up A p (.lst (sortD xs)))
    | some (.dic kvs) => sortOk (kvs.map (·.1)) = true ∧ ∀ p, A p = none → Q (.ref p) (up A p (.lst (sortD (kvs.map (·.1)))))
    | some (.fdic _ kvs) => sortOk (kvs.map (·.1)) = true ∧ ∀ p, A p = none → Q (.ref p) (up A p (.lst (sortD (kvs.map (·.1)))))
    | _ => False
  | _, _, _ => False
theorem ents_rel {K : PySem.W.Frag} {H : Hp} : ∀ {kvs : List (D × D)} {es : List Ent}, EntL K H kvs es → ∃ vs, RelL K H (kvs.map (·.1)) vs ∧ Vals vs (es.map fun e => e.2.1)
  | [], _, h => by cases h; exact ⟨[], rfl, .nil⟩
  | q :: ps, _, ⟨e, r, h1, h2, ⟨v, rv, ru⟩, h4, t⟩ => by
    subst h1
    obtain ⟨vs, a, b⟩ := ents_rel t
    exact ⟨v :: vs, ⟨v, vs, rfl, rv, a⟩, .cons ru b⟩
section
variable {X : Cx}
theorem src_dict {pins : List (Addr × Obj)} {σ : L2.St} {H : Hp} {s : Shared} {A : AH} {a : Addr} {kvs : List (D × D)} (hc : X.calm = true) (I : L2.Inv X pins σ H s) (hA : RelH X.b A H) (e : DicOf A a kvs) :
    SrcOf X X.A.in1 s a fun acc => ∃ vs, RelL X.K H (kvs.map (·.1)) vs ∧ Vals vs acc := by
  intro E R h
  obtain ⟨es, ⟨o, ep, h1, h2, h3, h4⟩, r, g⟩ := view_at I hA e
  obtain ⟨vs, v1, v2⟩ := ents_rel r
  refine PySem.W.kdu_collect (kdl_obj h4 h2 h3) (show X.A.in1.handled = none from I.ok.hd hc) h1 (by have := g.2.1; simp [r.length]; exact this) fun h' tk acc hk hi => h h' tk acc.toList hk ⟨vs, v1, ?_⟩
  have : acc.toList = es.map fun e => e.2.1 := by
    have l1 : acc.size = es.length := by rw [hi.1]; simp
    refine List.ext_getElem (by simp [l1]) fun j j1 j2 => ?_
    have l2 : j < acc.size := by simpa using j1
    obtain ⟨en, e1, e2⟩ := hi.2 j acc[j] (by simp [l2])
    have l3 : j < es.length := by simpa using j2
    have : en = ⟨hsh X.w es[j].1, es[j].2.1, es[j].2.2⟩ := by
      have z : (es.map fun e => (⟨hsh X.w e.1, e.2.1, e.2.2⟩ : DictEntry)).toArray[j]? = some ⟨hsh X.w es[j].1, es[j].2.1, es[j].2.2⟩ := by simp [l3]
      rw [z] at e1
      exact (Option.some.inj e1).symm
    rw [Array.getElem_toList, e2, this, List.getElem_map]
  rw [this]
  exact v2
theorem src_list {pins : List (Addr × Obj)} {σ : L2.St} {H : Hp} {s : Shared} {A : AH} {a : Addr} {xs : List D} (I : L2.Inv X pins σ H s) (hA : RelH X.b A H) (e : A a = some (.lst xs)) :
    SrcOf X X.A.in1 s a fun acc => ∃ vs, RelL X.K H xs vs ∧ Vals vs acc := by
  intro E R h
  obtain ⟨vs, e1, r⟩ := hA _ _ e
  obtain ⟨its, rv, hl, hz⟩ := I.list (.of e1)
  refine PyProof.Rows.collect_list hl.isList (h _ s.toks its (fun b o q => ?_) ⟨vs, r, rv⟩) (by rw [← rv.length]; exact hz)
  rw [Heap.get?_update_ne _ _ _ _ (Nat.ne_of_lt (Heap.lt_size q))]
  exact Heap.get?_push_of_some _ q
theorem c_sorted (hc : X.calm = true) (hu : X.A.units + 64 < cLine) : DCa X (.builtin "sorted") fSorted := DCa.raw fun pins s σ H xs us Q I rv ⟨ds, A, R, hA, rl, q, k⟩ => by
  unfold fSorted at q
  split at q
  · rename_i a
    obtain ⟨v, rfl, rfl⟩ := rel1 rl
    obtain ⟨u, rfl, ru⟩ := vals1 rv
    cases ru
    have dic : ∀ kvs, DicOf A a kvs → sortOk (kvs.map (·.1)) = true → (∀ p, A p = none → R (.ref p) (up A p (.lst (sortD (kvs.map (·.1)))))) → wpAny (model X.prog X.w) X.A (call (.builtin "sorted") [.ref a]) (EP X pins σ _) X.xe s := fun kvs e ok q =>
      x_sorted hu I hA (by obtain ⟨_, _, _, g⟩ := view_at I hA e; rw [List.length_map, ← SL_eq]; exact g.2.1) ok (src_dict hc I hA e) q k
    split at q
    · rename_i ys e
      exact x_sorted hu I hA q.1 q.2.1 (src_list I hA e) q.2.2 k
    · rename_i kvs e
      exact dic kvs (.inl e) q.1 q.2
    · rename_i od kvs e
      exact dic kvs (.inr ⟨od, e⟩) q.1 q.2
    · exact q.elim
  · exact q.elim
end
end DL
set_option Elab.async false
set_option linter.all false
set_option maxRecDepth 100000
set_option maxHeartbeats 1000000
/-! DL12: operators over all kinds of data, by cases. -/
namespace DL
open PySem PySem.Spec PyProof.Rows L2
def plB (d : D) : Bool := isPl d && decide ((plT d).dep ≤ 60)
theorem plB_V {d : D} (h : plB d = true) : plV d := by
  unfold plB at h
  simpa [plV] using h
def isDcB (A : AH) (a : Addr) : Bool := (dicGetD A a).isSome
def fEqn (neg : Bool) : DR2 := fun x y A Q => ∃ t u, Snap A x t ∧ Snap A y u ∧ t.dep ≤ 64 ∧ u.dep ≤ 64 ∧ Q (.bl (neg ^^ T.eqv t u)) A
/-- == (neg: !=) -/
def mEq (neg : Bool) : DR2 := fun x y A Q => if plB x && plB y then Q (.bl (neg ^^ decide (x = y))) A else match x, y with
  | .bl a, .bl b => Q (.bl (neg ^^ (a == b))) A
  | .ref a, .ref b => if isDcB A a then fDEqB neg (.ref a) (.ref b) A Q else fEqn neg (.ref a) (.ref b) A Q
  | x, y => fEqn neg x y A Q
theorem mEq_or {neg : Bool} (x y : D) (A : AH) (R : DQ) (h : mEq neg x y A R) : fEqn neg x y A R ∨ fDEqB neg x y A R := by
  unfold mEq at h
  split at h
  · rename_i hp
    obtain ⟨h1, h2⟩ := Bool.and_eq_true_iff.mp hp
    have v1 := plB_V h1
    have v2 := plB_V h2
    exact .inl ⟨_, _, snap_pl x v1.1, snap_pl y v2.1, by have := v1.2; omega, by have := v2.2; omega, by rw [eqv_pl x y v1.1 v2.1]; exact h⟩
  · split at h
    · exact .inl ⟨.bl _, .bl _, rfl, rfl, Nat.zero_le _, Nat.zero_le _, h⟩
    · split at h
      · exact .inr h
      · exact .inl h
    · exact .inl h
/-- < of keys; ints at once -/
def mLt (op : CmpOp) : DR2 := fun x y A Q => match x, y with
  | .int i, .int j => Q (.bl (match op with | .Lt => decide (i < j) | .Gt => decide (j < i) | .LtE => decide (i ≤ j) | _ => decide (j ≤ i))) A
  | x, y => fOrd op x y A Q
theorem mLt_ord {op : CmpOp} (ho : Ord4 op) (x y : D) (A : AH) (R : DQ) (h : mLt op x y A R) : fOrd op x y A R := by
  unfold mLt at h
  split at h
  · rename_i i j
    refine ⟨rfl, rfl, rfl, ?_⟩
    rcases ho with e | e | e | e <;> subst e
    · exact h
    · exact h
    · have z : opD .LtE 4 (.int i) (.int j) = decide (i ≤ j) := by
        show (!decide (j < i)) = _
        rw [← decide_not]; exact decide_eq_decide.mpr Int.not_lt
      rw [z]; exact h
    · have z : opD .GtE 4 (.int i) (.int j) = decide (j ≤ i) := by
        show (!decide (i < j)) = _
        rw [← decide_not]; exact decide_eq_decide.mpr Int.not_lt
      rw [z]; exact h
  · exact h
/-- x[i] -/
def mIx : DR2 := fun x y A Q => match x with
  | .ref a => if isDcB A a then fDGet (.ref a) y A Q else fIx (.ref a) y A Q
  | x => fIx x y A Q
/-- x[i] = v -/
def mSt : DSet := fun o i d A Q => match o with
  | .ref a => if isDcB A a then fDSet (.ref a) i d A Q else fSetL (.ref a) i d A Q
  | _ => False
section
variable {X : Cx}
theorem DOp.im {g : Value → Value → Sem Value} {f f' : DR2} (h : DOp X g f) (w : ∀ x y A R, f' x y A R → f x y A R) : DOp X g f' := h.or h fun x y A R q => .inl (w x y A R q)
theorem o_eq (hu : X.A.units + 64 < cLine) : DOp X (compareOp .Eq) (mEq false) := (d_eq hu).or (d_deq hu) fun x y A R q => by
  rcases mEq_or x y A R q with ⟨t, u, a, b, c, d, q⟩ | q
  · exact .inl ⟨t, u, a, b, c, d, by simpa using q⟩
  · exact .inr q
theorem o_ne (hu : X.A.units + 64 < cLine) : DOp X (compareOp .NotEq) (mEq true) := (d_ne hu).or (d_dne hu) fun x y A R q => by
  rcases mEq_or x y A R q with ⟨t, u, a, b, c, d, q⟩ | q
  · exact .inl ⟨t, u, a, b, c, d, by simpa using q⟩
  · exact .inr q
theorem o_lt (hu : X.A.units + 64 < cLine) : DOp X (compareOp .Lt) (mLt .Lt) := (d_ord (.inl rfl) hu).im (mLt_ord (.inl rfl))
theorem o_gt (hu : X.A.units + 64 < cLine) : DOp X (compareOp .Gt) (mLt .Gt) := (d_ord (.inr (.inl rfl)) hu).im (mLt_ord (.inr (.inl rfl)))
theorem o_le (hu : X.A.units + 64 < cLine) : DOp X (compareOp .LtE) (mLt .LtE) := (d_ord (.inr (.inr (.inl rfl))) hu).im (mLt_ord (.inr (.inr (.inl rfl))))
theorem o_ge (hu : X.A.units + 64 < cLine) : DOp X (compareOp .GtE) (mLt .GtE) := (d_ord (.inr (.inr (.inr rfl))) hu).im (mLt_ord (.inr (.inr (.inr rfl))))
theorem o_ix (hu : X.A.units + 64 < cLine) : DIx X mIx := d_ix.or (d_dget hu) fun x y A R q => by
  unfold mIx at q
  split at q
  · split at q
    · exact .inr q
    · exact .inl q
  · exact .inl q
theorem o_st (hu : X.A.units + 64 < cLine) : DSt X mSt := d_setL.or (d_dset hu) fun o i d A R q => by
  unfold mSt at q
  split at q
  · split at q
    · exact .inr q
    · exact .inl q
  · exact q.elim
end
end DL
set_option Elab.async false
set_option linter.all false
set_option maxRecDepth 100000
set_option maxHeartbeats 1000000
/-! DL13: defs, methods, classes by their promises alone; short names of rules; the law's own head. -/
namespace DL
open PySem PySem.Spec PyProof.Rows L2
/-- a def of the module -/
def CalF (P : Program) (w : World) (K : PySem.W.Frag) (mg : Str → Option Value) (base : Heap) (x : Str) (k n : Nat) (ps : List Str) (sp : DSp) : Prop :=
  ∃ f fd, FnOk P w K mg base CX0 k f fd ps (lSp ⟨P, w, K⟩ n sp) ∧ mg x = some (.ref f) ∧ PySem.W.keepIn K (.ref f) = true ∧ Binds K fd ps []
/-- a method of the class at C -/
def MetF (P : Program) (w : World) (K : PySem.W.Frag) (mg : Str → Option Value) (base : Heap) (C : Addr) (m : String) (k n : Nat) (ps : List Str) (sp : DSp) : Prop :=
  ∃ f fd, Cls K C ∧ Meth K C (PySem.Str.ofString m) f ∧ FnOk P w K mg base CX0 k f fd ps (lSp ⟨P, w, K⟩ n sp) ∧ Binds K fd ps []
/-- a class that is made -/
def MakF (P : Program) (w : World) (K : PySem.W.Frag) (mg : Str → Option Value) (base : Heap) (C : Addr) (x : Str) (k n : Nat) (ps : List Str) (sp : DSp) : Prop :=
  ∃ f fd, Mk K C f ∧ FnOk P w K mg base CX0 k f fd ps (lSp ⟨P, w, K⟩ n sp) ∧ mg x = some (.ref C) ∧ Binds K fd ps []
section
variable {X : Cx} {k n : Nat} {C : Addr} {ps : List Str} {sp : DSp} {x : Str} {p pos apos : Pos} {e o : Expr} {es : List Expr} {to : DTE} {t : DTA}
theorem qe_calF (F : CalF X.prog X.w X.K X.mg X.base x k n ps sp) (hr : Room k X.A) (ha : QA X (e :: es) t) (hn : (e :: es).length = n := by rfl) (hg : Gl X x := by rfl)
    (hdb : (x == ("__debug__" : Str)) = false := by decide) (he : starEach (e :: es) X.env = (false, eval e X.env) :: starEach es X.env := by rfl) (hpl : (backTo pos (starEach es X.env)).any (·.1) = false := by rfl) : QE X (.Call (.Name x p) (e :: es) [] pos) (dCal sp t) := by
  obtain ⟨f, fd, F, hm, hk, hb⟩ := F
  exact qe_call F hr hm hk hb ha hn hg hdb he hpl
theorem qe_metF (m : String) {pl : Sem Bool} (F : MetF X.prog X.w X.K X.mg X.base C m k n ps sp) (hr : Room k X.A) (he : QE X o to) (ha : QA X (e :: es) t) (hn : (e :: es).length + 1 = n := by rfl)
    (hst : starEach (e :: es) X.env = (false, eval e X.env) :: starEach es X.env := by rfl) (hpl : (backTo pos (starEach es X.env)).any (·.1) = false := by rfl)
    (ht : eval (.Call (.Attribute o (PySem.Str.ofString m) apos) (e :: es) [] pos) X.env = (do
      let ov ← eval o X.env
      standAt apos.atName
      let (f, first) ← holding [ov] (getMethod ov (PySem.Str.ofString m) pl)
      callWith pos f first (backTo pos (starEach (e :: es) X.env)) (backToKw pos (keywordEach [] X.env))) := by rfl) :
    QE X (.Call (.Attribute o (PySem.Str.ofString m) apos) (e :: es) [] pos) (dMet C m sp to t) := by
  obtain ⟨f, fd, c, hm, F, hb⟩ := F
  exact qe_meth m c hm F hr hb he ha hn hst hpl ht
theorem qe_metF0 (m : String) {pl : Sem Bool} (F : MetF X.prog X.w X.K X.mg X.base C m k 1 ps sp) (hr : Room k X.A) (he : QE X o to)
    (ht : eval (.Call (.Attribute o (PySem.Str.ofString m) apos) [] [] pos) X.env = (do
      let ov ← eval o X.env
      standAt apos.atName
      let (f, first) ← holding [ov] (getMethod ov (PySem.Str.ofString m) pl)
      callWith pos f first (backTo pos (starEach [] X.env)) (backToKw pos (keywordEach [] X.env))) := by rfl) :
    QE X (.Call (.Attribute o (PySem.Str.ofString m) apos) [] [] pos) (dMet C m sp to dNil) := by
  obtain ⟨f, fd, c, hm, F, hb⟩ := F
  exact qe_meth0 m c hm F hr hb he ht
theorem qe_makF (F : MakF X.prog X.w X.K X.mg X.base C x k n ps sp) (hr : Room (k + 1) X.A) (ha : QA X (e :: es) t) (hn : (e :: es).length + 1 = n := by rfl) (hg : Gl X x := by rfl)
    (hdb : (x == ("__debug__" : Str)) = false := by decide) (he : starEach (e :: es) X.env = (false, eval e X.env) :: starEach es X.env := by rfl) (hpl : (backTo pos (starEach es X.env)).any (·.1) = false := by rfl) : QE X (.Call (.Name x p) (e :: es) [] pos) (dMak C sp t) := by
  obtain ⟨f, fd, M, F, hm, hb⟩ := F
  exact qe_make M F hr hm hb ha hn hg hdb he hpl
theorem qe_makF0 (F : MakF X.prog X.w X.K X.mg X.base C x k 1 ps sp) (hr : Room (k + 1) X.A) (hg : Gl X x := by rfl)
    (hdb : (x == ("__debug__" : Str)) = false := by decide) : QE X (.Call (.Name x p) [] [] pos) (dMak C sp dNil) := by
  obtain ⟨f, fd, M, F, hm, hb⟩ := F
  exact qe_make0 M F hr hm hb hg hdb
theorem blk_of {N : List Str} {sc scope : Scope} {own : List (Str × Nat)} (h : blkC N sc scope own = true) : blkC N sc scope own = true := h
end
section
variable {X : Cx} {o e : Expr} {es : List Expr} {to : DTE} {t : DTA} {apos cpos : Pos}
theorem qe_append (ho : QE X o to) (ha : QA X [e] t)
    (hfew : ((backTo cpos (starEach [e] X.env)).all (fun x => !x.1) && (backToKw cpos (keywordEach [] X.env)).all (fun x => x.1.isSome)
      && decide (([e] : List Expr).length + ([] : List Keyword).length + (if ([] : List Keyword).isEmpty then 0 else 1) < 30)) = true := by rfl)
    (hbase : attributeBase o "append" X.env (eval o X.env) = eval o X.env := by rfl) (hline : (apos.endLine == cpos.line) = true := by rfl) (hs : starEach [e] X.env = (false, eval e X.env) :: starEach [] X.env := by rfl) :
    QE X (.Call (.Attribute o "append" apos) [e] [] cpos) (dBm isL fAppend to t) := qe_bm tyL PySem.F.plainAttrs_list PySem.F.slot_list_append PySem.F.type_list_append m_append ho ha hbase hfew hline hs (by rfl)
theorem qe_popAt (ho : QE X o to) (ha : QA X [e] t)
    (hfew : ((backTo cpos (starEach [e] X.env)).all (fun x => !x.1) && (backToKw cpos (keywordEach [] X.env)).all (fun x => x.1.isSome)
      && decide (([e] : List Expr).length + ([] : List Keyword).length + (if ([] : List Keyword).isEmpty then 0 else 1) < 30)) = true := by rfl)
    (hbase : attributeBase o "pop" X.env (eval o X.env) = eval o X.env := by rfl) (hline : (apos.endLine == cpos.line) = true := by rfl) (hs : starEach [e] X.env = (false, eval e X.env) :: starEach [] X.env := by rfl) :
    QE X (.Call (.Attribute o "pop" apos) [e] [] cpos) (dBm isL fPopAt to t) := qe_bm tyL PySem.F.plainAttrs_list PySem.F.slot_list_pop PySem.F.type_list_pop m_popAt ho ha hbase hfew hline hs (by rfl)
theorem qe_pop (ho : QE X o to)
    (hbase : attributeBase o "pop" X.env (eval o X.env) = eval o X.env := by rfl) (hline : (apos.endLine == cpos.line) = true := by rfl) :
    QE X (.Call (.Attribute o "pop" apos) [] [] cpos) (dBm isL fPop to dNil) := qe_bm0 tyL PySem.F.plainAttrs_list PySem.F.slot_list_pop PySem.F.type_list_pop m_pop ho hbase hline
theorem qe_dget (hu : X.A.units + 64 < cLine) (ho : QE X o to) (ha : QA X (e :: es) t)
    (hbase : attributeBase o "get" X.env (eval o X.env) = eval o X.env := by rfl)
    (hfew : ((backTo cpos (starEach (e :: es) X.env)).all (fun x => !x.1) && (backToKw cpos (keywordEach [] X.env)).all (fun x => x.1.isSome)
      && decide ((e :: es).length + ([] : List Keyword).length + (if ([] : List Keyword).isEmpty then 0 else 1) < 30)) = true := by rfl)
    (hline : (apos.endLine == cpos.line) = true := by rfl) (hs : starEach (e :: es) X.env = (false, eval e X.env) :: starEach es X.env := by rfl) (hplain : (backTo cpos (starEach es X.env)).any (·.1) = false := by rfl) :
    QE X (.Call (.Attribute o "get" apos) (e :: es) [] cpos) (dBm isDc fDGetM to t) := qe_dm PySem.F.slot_dict_get PySem.F.type_dict_get (m_dget hu) ho ha hbase hfew hline hs hplain
end
/-- len -/
abbrev mLen : DRn := fLen
theorem o_len {X : Cx} (hu : X.A.units + 64 < cLine) : DCa X (.builtin "len") mLen := c_len
/-- a law: a list of at most 63 ints, True comes out -/
def sp_law : DSp := fun ds _ R _ => ∃ ns : List Int, ds = [.cl (ns.map .int)] ∧ ns.length ≤ 63 ∧ ∀ A, R (.bl true) A
theorem law_sp {P : Program} {w : World} {K : PySem.W.Frag} {H : Hp} {a : Addr} {ns : List Int} (hl : ns.length ≤ 63) (hO : Only H) (hS : SqL K H a (ns.map V.int)) : lSp ⟨P, w, K⟩ 1 sp_law [.ref a] H (fun v _ => v = .bl true) fun _ _ _ => False := by
  have hc : CstAt K H a (ns.map V.int) := by
    rcases hS with h | h
    · rcases h with h | ⟨o, h⟩
      · rcases hO a with z | ⟨o, xs, z⟩
        · rw [h] at z; cases z
        · rw [h] at z; cases z
      · exact .inl ⟨o, h⟩
    · exact .inr h
  have hr : ∀ l : List Int, RelL K H (l.map D.int) (l.map V.int) := by
    intro l
    induction l with
    | nil => rfl
    | cons i l ih => exact ⟨_, _, rfl, rfl, ih⟩
  exact ⟨[.cl (ns.map .int)], fun _ => none, fun d _ => d = .bl true, noX, (fun _ _ z => nomatch z), ⟨_, _, rfl, ⟨a, _, rfl, hc, hr ns⟩, rfl⟩, rfl, ⟨ns, rfl, hl, fun _ => rfl⟩, fun d A' v H' h _ rd _ => by subst h; exact rd, fun _ _ _ _ _ z => z.elim⟩
end DL
set_option Elab.async false
set_option linter.all false
set_option maxRecDepth 100000
set_option maxHeartbeats 1000000
/-! DL14: in, not in. -/
namespace DL
open PySem PySem.Spec PyProof.Rows L2
theorem pl_any {x : D} (hx : isPl x = true) : ∀ {xs : List D}, xs.all plB = true → ((T.pys (plTs xs)).any fun z => PyData.eqv z (plT x).py) = decide (x ∈ xs)
  | [], _ => by simp [plTs, T.pys]
  | y :: ys, h => by
    rw [List.all_cons, Bool.and_eq_true] at h
    simp only [plTs, T.pys, List.any_cons, pl_any hx h.2, eqv_py, eqv_pl y x (plB_V h.1).1 hx]
    by_cases c : y = x
    · subst c; simp
    · have c' : ¬ x = y := fun e => c e.symm
      simp [c, c', List.mem_cons]
theorem pls_of : ∀ {xs : List D}, xs.all plB = true → isPls xs = true ∧ T.deps (plTs xs) ≤ 60
  | [], _ => ⟨rfl, Nat.zero_le _⟩
  | y :: ys, h => by
    rw [List.all_cons, Bool.and_eq_true] at h
    obtain ⟨a, b⟩ := pls_of h.2
    have v := plB_V h.1
    refine ⟨by simp [isPls, v.1, a], ?_⟩
    simp only [plTs, T.deps]
    exact Nat.max_le.mpr ⟨v.2, b⟩
def listOf (A : AH) : D → Option (List D)
  | .ref a => match A a with
    | some (.lst xs) => some xs
    | _ => none
  | .cl xs => some xs
  | _ => none
def fInL (neg : Bool) : DR2 := fun x y A Q => match listOf A y with
  | some xs => plB x = true ∧ xs.all plB = true ∧ Q (.bl (neg ^^ decide (x ∈ xs))) A
  | none => False
theorem snap_listOf {A : AH} {y : D} {xs : List D} (h : listOf A y = some xs) (hp : isPls xs = true) : Snap A y (.lst (plTs xs)) := by
  cases y with
  | ref a =>
    have h : (match A a with | some (.lst xs) => some xs | _ => none) = some xs := h
    split at h
    · rename_i ys e; cases h; exact .inl ⟨a, _, rfl, e, snaps_pl _ hp⟩
    · cases h
  | cl ys => cases h; exact .inr ⟨_, rfl, snaps_pl _ hp⟩
  | _ => cases h
/-- x in y -/
def mIn (neg : Bool) : DR2 := fun x y A Q => match y with
  | .ref a => if isDcB A a then (if neg then fDNotIn x (.ref a) A Q else fDIn x (.ref a) A Q) else fInL neg x (.ref a) A Q
  | y => fInL neg x y A Q
section
variable {X : Cx}
theorem d_inL (hu : X.A.units + 65 < cLine) : DOp X (compareOp .In) (fInL false) := by
  refine ⟨_, op_inD hu, fun x y A R v u H Q hA rx ry h k => ?_⟩
  unfold fInL at h
  split at h
  · rename_i xs hl
    obtain ⟨h1, h2, q⟩ := h
    have v1 := plB_V h1
    obtain ⟨p1, p2⟩ := pls_of h2
    obtain ⟨a1, a2⟩ := snap_shaped hA (snap_pl x v1.1) rx (by have := v1.2; omega)
    obtain ⟨b1, b2⟩ := snap_shaped hA (snap_listOf hl p1) ry (by simp only [T.dep]; omega)
    exact ⟨_, T.pys (plTs xs), a1, b1, a2, b2, by rw [pl_any v1.1 h2]; exact k.at (d := .bl _) (by simpa using q) hA rfl⟩
  · exact h.elim
theorem d_notInL (hu : X.A.units + 65 < cLine) : DOp X (compareOp .NotIn) (fInL true) := by
  refine ⟨_, op_notInD hu, fun x y A R v u H Q hA rx ry h k => ?_⟩
  unfold fInL at h
  split at h
  · rename_i xs hl
    obtain ⟨h1, h2, q⟩ := h
    have v1 := plB_V h1
    obtain ⟨p1, p2⟩ := pls_of h2
    obtain ⟨a1, a2⟩ := snap_shaped hA (snap_pl x v1.1) rx (by have := v1.2; omega)
    obtain ⟨b1, b2⟩ := snap_shaped hA (snap_listOf hl p1) ry (by simp only [T.dep]; omega)
    exact ⟨_, T.pys (plTs xs), a1, b1, a2, b2, by rw [pl_any v1.1 h2]; exact k.at (d := .bl _) (by simpa using q) hA rfl⟩
  · exact h.elim
theorem o_in (hu : X.A.units + 65 < cLine) : DOp X (compareOp .In) (mIn false) := (d_inL hu).or (d_din (by omega)) fun x y A R q => by
  unfold mIn at q
  split at q
  · split at q
    · exact .inr q
    · exact .inl q
  · exact .inl q
theorem o_notin (hu : X.A.units + 65 < cLine) : DOp X (compareOp .NotIn) (mIn true) := (d_notInL hu).or (d_dnotin (by omega)) fun x y A R q => by
  unfold mIn at q
  split at q
  · split at q
    · exact .inr q
    · exact .inl q
  · exact .inl q
end
end DL
set_option Elab.async false
set_option linter.all false
set_option maxRecDepth 100000
set_option maxHeartbeats 1000000
/-! DL15: dict comprehensions. -/
namespace DL
open PySem PySem.Spec PyProof.Rows L2
section
variable {X : Cx} {pins : List (Addr × Obj)} {σ : L2.St} {H : Hp} {s : Shared} {A₀ : Around} {E : Value → Shared → Prop} {A : AH} {a : Addr} {kvs : List (D × D)} {k d : D} {y : V} {u r : Value}
/-- a comprehension's store -/
theorem x_dictSet {Q : Unit → Shared → Prop} (hu : A₀.units + 5 < cLine) (I : L2.Inv X pins σ H s) (hA : RelH X.b A H) (e : A a = some (.dic kvs)) (ok : okK kvs k = true) (hl : kvs.length < SL) (rk : RelD X.K H k y) (ry : RelV y u) (rd : ReV X.K H d r)
    (h : ∀ s' H', L2.Inv X pins σ H' s' → RelH X.b (up A a (.dic (dput kvs k d))) H' → Grow H H' → Q () s') : wpAny (model X.prog X.w) A₀ (dictSet a u r) Q E s := by
  have all := okK_all ok
  obtain ⟨es0, eH, re0, g⟩ := hA _ _ e
  have gp := g.put (d := d) ok hl
  have fin : ∀ {h' : Heap} {t' : Nat} {es : List Ent}, Heap.SameBut a s.heap h' → DicAt X.w a es h' → EntL X.K H (dput kvs k d) es → Q () { s with heap := h', toks := t' } := fun {h' t' es} sb da el => by
    have gr : Grow H (upd H a (.ext (DicAt X.w a es))) := grow_ext eH
    refine h _ (upd H a (.ext (DicAt X.w a es))) (I.write (x := a) (e := a) (t' := t') (by rw [eH]; trivial) (.inl rfl) (fun b q hb z => (sb.2 b hb).trans z) (let ⟨o, _, q, _⟩ := da; ⟨o, q⟩) (dic_ok da)) ?_ gr
    exact hA.put (u := .dic _) gr ⟨es, upd_same, el.grow gr, gp⟩
  cases ht : isTup k with
  | true =>
    rw [ht] at all
    obtain ⟨xs, dd, t, hs, _⟩ := view_t I hA (.inl e) all
    obtain ⟨b, hb⟩ := isTup_ref ⟨y, rk, ry⟩ ht
    subst hb
    refine wpAny_dictSet_heap (knd := nestKind X.prog X.w) (hsz := by rw [t.length, SL_eq]; omega) (by show A₀.units + 4 < cLine; omega) ⟨ht, key_at I 4 _ _ _ (okK_key ok) rk ry⟩ dd fun h' dd' sb => ?_
    obtain ⟨es, el, ee⟩ := (t.put (k := k) (d := d) ⟨y, rk, ry⟩ rd).ents (w := X.w) (P := X.prog)
    obtain ⟨o, es2, ep, q1, q2, q3, q4, _⟩ := dd'
    exact fin sb ⟨o, ep, q1, q2, by rw [q3, ← ee, ← q4], hs⟩ el
  | false =>
    rw [ht] at all
    obtain ⟨xs, dd, t, hs, _⟩ := view_f I hA (.inl e) all
    have := kyD_rel (okK_key ok) ht rk
    subst this
    refine wpAny_dictSet_pairs (hsz := by rw [t.length, SL_eq]; omega) (kV_is ry) dd fun h' dd' sb => ?_
    have t' := t.put (okK_key ok) ht g.2.2.1 all rd
    obtain ⟨o, es2, ep, q1, q2, q3, q4, q5, _⟩ := dd'
    have memk : ∀ p ∈ dput kvs k d, p.1 = k ∨ ∃ q ∈ kvs, q.1 = p.1 := fun p m => by
      have z : p.1 ∈ (dput kvs k d).map (·.1) := List.mem_map.mpr ⟨p, m, rfl⟩
      rw [keys_dput] at z
      split at z
      · exact .inr (by obtain ⟨q, mq, e⟩ := List.mem_map.mp z; exact ⟨q, mq, e⟩)
      · rcases List.mem_append.mp z with z | z
        · exact .inr (by obtain ⟨q, mq, e⟩ := List.mem_map.mp z; exact ⟨q, mq, e⟩)
        · exact .inl (by simpa using z)
    obtain ⟨es, el, ee⟩ := FR.ents (w := X.w) (P := X.prog) gp.2.2.1 (fun p m => by
        rcases memk p m with e | ⟨q, mq, e⟩
        · rw [e]; exact ht
        · rw [← e]; exact all q mq) (fun p m => by
        rcases memk p m with e | ⟨q, mq, e⟩
        · rw [e]; exact chk_of rk
        · rw [← e]; exact re0.chk q mq) t' q5 (fun en m => q4 en (by simpa using m))
    refine fin sb ⟨o, ep, q1, q2, ?_, hs⟩ el
    rw [q3, ← ee]
end
/-- a store into the dict at D, and what is wanted of the heap behind -/
def rSto (B : Bs) (D : Addr) (y z : V) (H : Hp) (Nx : Hp → Prop) : Prop := ∃ A kvs k d, RelH B A H ∧ A D = some (.dic kvs) ∧ okK kvs k = true ∧ kvs.length < SL ∧ RelD B.K H k y ∧ RelD B.K H d z ∧ ∀ H', RelH B (up A D (.dic (dput kvs k d))) H' → Grow H H' → Nx H'
/-- raw: {k: v for .. in .. if ..} -/
def rDc (B : Bs) (wi : TI) (g : TG) (tt : TT) (tk tv : TE) (vs : List Nat) : TE := fun σ H Q => wi σ H fun J H1 => ∀ D, H1 D = none → ∃ W : Nat → Nat → Hp → Prop, (∃ m, W 0 m (upd H1 D (.ext (DicAt B.w D [])))) ∧ ∀ i m H, W i m H →
  (J.stop i H ∧ Q (.ref D) H) ∨ (J.go i H ∧ ∃ Nx : Hp → Prop, (∀ H', Nx H' → ∃ m', m' < m ∧ W (i + 1) m' H') ∧ ∀ x H', J.yld i H x H' → g x (wipe σ vs) H' fun σ2 H2 => wipe σ2 vs = wipe σ vs ∧ tt σ2 H2 fun b H3 =>
    if b = true then tk σ2 H3 fun y H4 => tv σ2 H4 fun z H5 => rSto B D y z H5 Nx else Nx H3)
section
variable {X : Cx} {kx vx tg iter : Expr} {ifs : List Expr} {scope : Scope} {own : List (Str × Nat)} {pos : Pos} {wi : TI} {g : TG} {tt : TT} {tk tv : TE}
theorem rdc_core {pins : List (Addr × Obj)} {s : Shared} {σ : L2.St} {H : Hp} {Q : VK} {pos' : Pos} {use : Option (Value → Sem Unit)} {Qf : Value → Shared → Prop} (hu : X.A.units + 64 < cLine) (hc : X.calm = true) (hN : X.N.Nodup) (I : L2.Inv X pins σ H s) (hi : PI X tg iter wi) (ok : BlkOk X.N X.env.scope scope own)
    (hg : ∀ s H C cl fp, PG (Blk X scope s H C cl fp) tg g) (ht : ∀ s H C cl fp, PTs (Blk X scope s H C cl fp) ifs tt) (hk : ∀ s H C cl fp, PE (Blk X scope s H C cl fp) kx tk) (hv : ∀ s H C cl fp, PE (Blk X scope s H C cl fp) vx tv)
    (hs : ∀ x, foldedSetIterable iter X.env x = pure x) (h : rDc X.b wi g tt tk tv (own.map (·.2)) σ H Q)
    (hRR : ∀ D C s' m H', L2.Inv X pins σ H' s' → Q (.ref D) H' → s'.heap.Ns C m → FpOk X pins H' C → compPost (model X.prog X.w) X.A X.xe use Qf (.ref D) C (.ok .next) s') :
    wpAny (model X.prog X.w) X.A (comprehension (.DictComp kx vx [⟨tg, iter, ifs, 0⟩] scope pos) scope X.env pos' (newObj (.type "dict") (.dict #[])) false (eval iter X.env) use) Qf X.xe s := by
  have clos : ∀ z ∈ scope.names, z.2 = .free → ∃ c, X.env.cells.lookup z.1 = some c := fun z mz e =>
    (ok.free z mz e).elim (fun t => I.ok.has _ (.inl t)) fun t => I.ok.has _ (.inr t)
  refine wpAny_comprehension_free (use := use) rfl hs (closure_ok clos) ok.kind (fun z mz e => (ok.uniq z mz).trans (by rw [e])) (thn (hi.run pins s σ H _ I h) fun seq sa ha => thn ha fun itv sb hb => ?_)
  obtain ⟨it, fp, tn, J, Hb, rfl, Ib, T, tb, fb, q⟩ := hb
  refine wpAny_newObj_type (newEnv_comp ?_)
  have nD : Hb sb.heap.objs.size = none := Ib.hok.fresh (Nat.le_refl _)
  obtain ⟨W, ⟨m0, w0⟩, turn⟩ := q _ nD
  -- the dict is laid
  have da : DicAt X.w sb.heap.objs.size [] (sb.heap.push { cls := .type "dict", data := .dict #[] }) := dicAt_empty Ib
  have Ic : L2.Inv X pins σ (upd Hb sb.heap.objs.size (.ext (DicAt X.w sb.heap.objs.size []))) { sb with heap := sb.heap.push { cls := .type "dict", data := .dict #[] } } :=
    Ib.laid (t' := sb.toks) (fun _ _ z => Heap.get?_push_of_some _ z) (Nat.le_refl _) (dic_ok da)
  have low : ∀ b ∈ fp, b < sb.heap.objs.size := fun b mb => let ⟨_, z, _⟩ := T.obj _ _ tb b mb; Heap.lt_size z
  have fc : ∀ b ∈ fp, FpOk X pins (upd Hb sb.heap.objs.size (.ext (DicAt X.w sb.heap.objs.size []))) b ∧ b < (sb.heap.push { cls := .type "dict", data := .dict #[] }).objs.size := fun b mb =>
    ⟨⟨by rw [upd_ne (Nat.ne_of_lt (low b mb))]; exact (fb b mb).1, (fb b mb).2⟩, by rw [Heap.size_push]; exact Nat.lt_succ_of_lt (low b mb)⟩
  have tc : tn 0 (sb.heap.push { cls := .type "dict", data := .dict #[] }) := T.keep _ _ _ tb fun b _ o z => Heap.get?_push_of_some _ z
  generalize hsc : ({ sb with heap := sb.heap.push { cls := .type "dict", data := .dict #[] } } : Shared) = sc at Ic ⊢
  have hc1 : sb.heap.push { cls := .type "dict", data := .dict #[] } = sc.heap := by rw [← hsc]
  rw [hc1] at fc tc
  generalize hHc : upd Hb sb.heap.objs.size (.ext (DicAt X.w sb.heap.objs.size [])) = Hc at Ic fc
  have w0 : W 0 m0 Hc := by rw [← hHc]; exact w0
  have Id := block_start Ic ok hN fc
  have pg : PG (X.blk sc Hc scope (compEnvC scope (cellsFrom (sc.heap.objs.size + 1) scope.names (cloFrom X.env.cells scope.names [])) sc.heap.objs.size X.env) fp) tg g := hg sc Hc sc.heap.objs.size (cellsFrom (sc.heap.objs.size + 1) scope.names (cloFrom X.env.cells scope.names [])) fp
  have pt : PTs (X.blk sc Hc scope (compEnvC scope (cellsFrom (sc.heap.objs.size + 1) scope.names (cloFrom X.env.cells scope.names [])) sc.heap.objs.size X.env) fp) ifs tt := ht sc Hc sc.heap.objs.size (cellsFrom (sc.heap.objs.size + 1) scope.names (cloFrom X.env.cells scope.names [])) fp
  have pk : PE (X.blk sc Hc scope (compEnvC scope (cellsFrom (sc.heap.objs.size + 1) scope.names (cloFrom X.env.cells scope.names [])) sc.heap.objs.size X.env) fp) kx tk := hk sc Hc sc.heap.objs.size (cellsFrom (sc.heap.objs.size + 1) scope.names (cloFrom X.env.cells scope.names [])) fp
  have pv : PE (X.blk sc Hc scope (compEnvC scope (cellsFrom (sc.heap.objs.size + 1) scope.names (cloFrom X.env.cells scope.names [])) sc.heap.objs.size X.env) fp) vx tv := hv sc Hc sc.heap.objs.size (cellsFrom (sc.heap.objs.size + 1) scope.names (cloFrom X.env.cells scope.names [])) fp
  show codeAny (model X.prog X.w) X.A (.compStart (.DictComp kx vx [⟨tg, iter, ifs, 0⟩] scope pos) 0 (.ref it) (.ref sb.heap.objs.size)
    (compEnvC scope (cellsFrom (sc.heap.objs.size + 1) scope.names (cloFrom X.env.cells scope.names [])) sc.heap.objs.size X.env)) _ _
  have fcn : ∀ b ∈ fp, Hc b = none := fun b mb => (fc b mb).1.1
  generalize hce : compEnvC scope (cellsFrom (sc.heap.objs.size + 1) scope.names (cloFrom X.env.cells scope.names [])) sc.heap.objs.size X.env = ce at Id pg pt pk pv ⊢
  have eL : ce.locals = sc.heap.objs.size := by rw [← hce] <;> rfl
  generalize hsd : ({ sc with heap := pushCells (sc.heap.push { cls := .type "dict", data := .dict #[] }) scope.names } : Shared) = sd at Id ⊢
  have td : tn 0 sd.heap := T.keep _ _ _ tc fun b _ o z => by rw [← hsd]; exact pushCells_keeps _ _ _ _ (Heap.get?_push_of_some _ z)
  have live : ∀ {σ' : L2.St} {H' : Hp} {s' : Shared}, L2.Inv (X.blk sc Hc scope ce fp) [] σ' H' s' → (∀ b ∈ fp, H' b = none) → ∀ b ∈ fp, FpOk (X.blk sc Hc scope ce fp) [] H' b := fun {σ' H' s'} Iq nq b mb =>
    ⟨nq b mb, (Iq.ok.exf b mb).1, Iq.ok.exfs b mb, .inl mb, fun x c z => (Iq.ok.exf b mb).2 x c z, fun p mp => absurd (show p ∈ ([] : List (Addr × Obj)) ++ [] from mp) (by simp)⟩
  have loop : codeAny (model X.prog X.w) X.A (.compLoop (.DictComp kx vx [⟨tg, iter, ifs, 0⟩] scope pos) 0 (.ref it) (.ref sb.heap.objs.size) ce) (compPost (model X.prog X.w) X.A X.xe use Qf (.ref sb.heap.objs.size) sc.heap.objs.size) sd := by
    refine compLoop_anyD (fun n s' => ∃ i H', L2.Inv (X.blk sc Hc scope ce fp) [] (wipe σ (own.map (·.2))) H' s' ∧ tn i s'.heap ∧ (∀ b ∈ fp, H' b = none) ∧ W i n H') ?_ m0 ⟨0, Hc, Id, td, fcn, w0⟩
    rintro n s1 ⟨i, H1, I1, t1, n1, w1⟩
    rcases turn i n H1 w1 with ⟨stop, fin⟩ | ⟨go, Nx, hNx, step⟩
    · refine thnF (T.done (X.blk sc Hc scope ce fp) rfl rfl rfl hc i [] s1 _ H1 (fun _ _ => False) I1 (live I1 n1) t1 stop) fun r s2 ⟨er, I2⟩ => ?_
      subst er
      have back : L2.Inv X pins σ H1 s2 := Ic.call' (ch := fp) I2.os I2.base I2.hok I2.bare fun b mb => let z := (fc b mb).1.2; ⟨z.2.2.1, z.1, z.2.2.2.1, z.2.2.2.2⟩
      have nC : H1 sc.heap.objs.size = none := by rw [← eL]; exact I2.free
      obtain ⟨m, hm, _⟩ := I2.loc
      have hm : s2.heap.Ns ce.locals m := hm
      rw [eL] at hm
      exact hRR _ _ _ m _ back fin hm (Ic.fpOk (Nat.le_refl _) nC)
    · refine thnF (T.item (X.blk sc Hc scope ce fp) rfl rfl rfl hc i [] s1 _ H1 (fun _ _ => False) I1 (live I1 n1) t1 go) fun r s2 ⟨u, er, h2⟩ => ?_
      subst er
      refine thnF h2 fun _ s3 ⟨x, H3, I3, r3, y3, t3, n3⟩ => ?_
      refine thnF (pg.run _ s3 _ H3 x u _ (I3.pinned (live I3 n3) (T.obj _ _ t3)) r3 (step x H3 y3)) fun _ s4 ⟨σ4, H4, I4, hw4, q4⟩ => ?_
      refine thnF (pt.run _ s4 σ4 H4 _ I4 q4) fun b s5 ⟨H5, I5, q5⟩ => ?_
      -- behind a turn
      have more : ∀ {s' : Shared} {H' : Hp}, L2.Inv (X.blk sc Hc scope ce fp) ([] ++ pinsAt fp s3.heap) σ4 H' s' → Nx H' → ∃ m, m < n ∧ ∃ i H', L2.Inv (X.blk sc Hc scope ce fp) [] (wipe σ (own.map (·.2))) H' s' ∧ tn i s'.heap ∧ (∀ b ∈ fp, H' b = none) ∧ W i m H' := fun {s' H'} Iq nx => by
        obtain ⟨m', lt, w'⟩ := hNx H' nx
        have held : ∀ b ∈ fp, ∀ o, s3.heap.get? b = some o → s'.heap.get? b = some o ∧ H' b = none := fun b mb o z => by
          have := Iq.pin (b, o) (List.mem_append_right _ (List.mem_append_right _ (mem_pinsAt mb z)))
          exact ⟨this.1, this.2.1⟩
        refine ⟨m', lt, i + 1, H', (Iq.unpinned (pins := [])).weak (by rw [← hw4, wipe_length]) (fun j v z => ?_), T.keep _ _ _ t3 fun b mb o z => (held b mb o z).1, fun b mb => ?_, w'⟩
        · rw [← hw4] at z
          exact (wipe_some z).1
        · obtain ⟨o, z, _⟩ := T.obj _ _ t3 b mb
          exact (held b mb o z).2
      cases b with
      | false =>
        have q5 : Nx H5 := by simpa using q5
        simp only [Bool.false_eq_true, if_false]
        exact more I5 q5
      | true =>
        simp only [if_true] at q5 ⊢
        refine thnF (pk.run _ s5 σ4 H5 _ I5 q5) fun ku s6 ⟨yk, H6, I6, r6, q6⟩ => ?_
        refine thnF (pv.run _ s6 σ4 H6 _ I6 q6) fun vu s7 ⟨yv, H7, I7, r7, A, kvs, k, d, hA, eD, okk, hl, rk, rd, fin⟩ => ?_
        exact x_dictSet (X := X.blk sc Hc scope ce fp) (by show X.A.units + 5 < cLine; omega) I7 hA eD okk hl rk r6 ⟨yv, rd, r7⟩ fun s8 H8 I8 hA8 g8 => more I8 (fin H8 hA8 g8)
  exact codeAny_compStart_dict loop (T.self X.A 0 _ _ _ td loop)
theorem pe_rdc (hu : X.A.units + 64 < cLine) (hc : X.calm = true) (hN : X.N.Nodup) (hi : PI X tg iter wi) (ok : BlkOk X.N X.env.scope scope own)
    (hg : ∀ s H C cl fp, PG (Blk X scope s H C cl fp) tg g) (ht : ∀ s H C cl fp, PTs (Blk X scope s H C cl fp) ifs tt) (hk : ∀ s H C cl fp, PE (Blk X scope s H C cl fp) kx tk) (hv : ∀ s H C cl fp, PE (Blk X scope s H C cl fp) vx tv)
    (hs : ∀ x, foldedSetIterable iter X.env x = pure x) : PE X (.DictComp kx vx [⟨tg, iter, ifs, 0⟩] scope pos) (rDc X.b wi g tt tk tv (own.map (·.2))) := by
  refine ⟨fun pins s σ H Q I h => ?_⟩
  rw [arm_eval_DictComp]
  refine rdc_core hu hc hN I hi ok hg ht hk hv hs h fun D C s' m H' I' q hn f => ⟨m, hn, fun h2 k2 => ?_⟩
  obtain ⟨f0, f1, f2, f3, f4, f5⟩ := f
  exact ⟨.ref D, H', I'.turned (t' := s'.toks) (fun b o nb z => (k2.2 b nb).trans z) f0 f1 f3 f4 f5, rfl, q⟩
/-- name = {..} on one line, the name a local -/
theorem ps_setRdc {i : Nat} {y : Str} {py spos : Pos} (hu : X.A.units + 64 < cLine) (hc : X.calm = true) (hN : X.N.Nodup) (hy : X.N[i]? = some y) (hyl : X.env.scope.names.lookup y = some .local)
    (hsw : swapsWith (.DictComp kx vx [⟨tg, iter, ifs, 0⟩] scope pos) (some (.Name y py)) spos.line X.env = pure true) (hi : PI X tg iter wi) (ok : BlkOk X.N X.env.scope scope own)
    (hg : ∀ s H C cl fp, PG (Blk X scope s H C cl fp) tg g) (ht : ∀ s H C cl fp, PTs (Blk X scope s H C cl fp) ifs tt) (hk : ∀ s H C cl fp, PE (Blk X scope s H C cl fp) kx tk) (hv : ∀ s H C cl fp, PE (Blk X scope s H C cl fp) vx tv)
    (hs : ∀ x, foldedSetIterable iter X.env x = pure x) : PS X (.Assign [.Name y py] (.DictComp kx vx [⟨tg, iter, ifs, 0⟩] scope pos) spos) (tAsg (rDc X.b wi g tt tk tv (own.map (·.2))) (gName i)) := by
  refine ⟨fun pins s σ H D I h => ?_⟩
  rw [exec_Assign_Name_used _ _ _ _ hsw]
  refine wpAny_bind (wpAny_standAt (wpAny_bind ?_))
  show wpAny _ X.A (do let _ ← comprehension (.DictComp kx vx [⟨tg, iter, ifs, 0⟩] scope pos) scope X.env (firstIterPos [⟨tg, iter, ifs, 0⟩] pos) (newObj (.type "dict") (.dict #[])) false (eval iter X.env) (some (assign (.Name y py) X.env))) _ _ s
  have h : rDc X.b wi g tt tk tv (own.map (·.2)) σ H (fun x H1 => gName i x σ H1 D.nx) := h
  refine wpAny_bind (thn (rdc_core (use := some (assign (.Name y py) X.env)) (Qf := fun _ s' => SP X pins D .next s') hu hc hN I hi ok hg ht hk hv hs h fun L C s' m H' I' q hn f => ?_) fun _ s' hq => wpAny_pure (wpAny_pure hq))
  show wpAny _ _ (assign (.Name y py) X.env (.ref L)) _ _ _
  refine wpAny_assign_Name (store_ok2 (v := V.ref L) I' hN hy (.inl hyl) rfl (fun s2 I2 ⟨a, sb, ha⟩ => ?_) (.inr hyl))
  obtain ⟨f0, f1, f2, f3, f4, f5⟩ := f
  have far : C ≠ a := ha.elim (fun z => by rw [z]; exact f1) fun z e => f4 y a z e.symm
  exact ⟨m, hn.sameBut sb far, fun h3 k3 => ⟨_, H', I2.turned (t' := s2.toks) (fun b o nb z => (k3.2 b nb).trans z) f0 f1 f3 f4 f5, q⟩⟩
end
/-- {k: v for g in wi if tt}: I by the turn, the new dict at p -/
def dDc (wi : DI) (g : DTG) (tt : DTT) (tk tv : DTE) (vs : List Nat) : DTE := fun σ A Q => wi σ A fun S A1 => ∃ xs : List D, ∀ p, A1 p = none → ∃ I : Nat → AH → Prop, I 0 (up A1 p (.dic [])) ∧ (∀ i A, i ≤ xs.length → I i A → S A xs) ∧
  (∀ i x A, xs[i]? = some x → I i A → g x (dwipe σ vs) A fun σ2 A2 => tt σ2 A2 fun b A3 => if b = true then tk σ2 A3 fun y A4 => tv σ2 A4 fun z A5 => ∃ kvs, A5 p = some (.dic kvs) ∧ okK kvs y = true ∧ kvs.length < SL ∧ I (i + 1) (up A5 p (.dic (dput kvs y z))) else I (i + 1) A3) ∧
  ∀ A, I xs.length A → Q (.ref p) A
section
variable {X : Cx} {kx vx tg iter : Expr} {ifs : List Expr} {scope : Scope} {own : List (Str × Nat)} {pos spos : Pos} {wi : DI} {g : DTG} {gv : TG} {tt : DTT} {tk tv : DTE}
theorem dc_t {B : Bs} (him : ∀ d v dσ A σ H R (Q : L2.St → Hp → Prop), RelH B A H → RelS B.K H dσ σ → RelD B.K H d v → g d dσ A R →
    (∀ dσ' A' σ' H', R dσ' A' → RelH B A' H' → RelS B.K H' dσ' σ' → Grow H H' → wipe σ' (own.map (·.2)) = wipe σ (own.map (·.2)) → Q σ' H') → gv v σ H Q) :
    ∀ σ H Q, lE B (dDc wi g tt tk tv (own.map (·.2))) σ H Q → rDc B (lI B wi) gv (lT B tt) (lE B tk) (lE B tv) (own.map (·.2)) σ H Q := by
  intro σ H Q ⟨dσ, A, R, hA, hS, q, k⟩
  refine ⟨dσ, A, _, hA, hS, q, fun S A1 J H1 ⟨xs, hxs⟩ hA1 g1 W p hp => ?_⟩
  obtain ⟨I, i0, still, turn, fin⟩ := hxs p (hA1.free hp)
  refine ⟨fun i m H2 => ∃ A, RelH B A H2 ∧ Grow H1 H2 ∧ I i A ∧ i ≤ xs.length ∧ m = xs.length - i, ⟨xs.length, _, hA1.add (u := .dic []) hp ⟨[], upd_same, rfl, GoodD.nil⟩, Grow.new hp, i0, Nat.zero_le _, rfl⟩, ?_⟩
  rintro i m H2 ⟨A2, hA2, g2, i2, hi2, rfl⟩
  have st := still i A2 hi2 i2
  by_cases hlt : i < xs.length
  · have hx : xs[i]? = some xs[i] := by simp [hlt]
    obtain ⟨go, yl⟩ := W.go A2 H2 i xs _ g2 hA2 st hx
    refine .inr ⟨go, fun H' => ∃ A, RelH B A H' ∧ Grow H1 H' ∧ I (i + 1) A, fun H' ⟨A', h1, h3, h4⟩ => ⟨xs.length - (i + 1), by omega, A', h1, h3, h4, hlt, rfl⟩, fun x H3 y => ?_⟩
    obtain ⟨hA3, g3, rx⟩ := yl x H3 y
    have hS3 := (hS.grow ((g1.trans g2).trans g3)).wipe (own.map (·.2))
    refine him _ x _ A2 _ H3 _ _ hA3 hS3 rx (turn i _ A2 hx i2) fun dσ4 A4 σ4 H4 q4 hA4 hS4 g4 w4 => ⟨?_, ?_⟩
    · refine w4.trans ?_
      apply List.ext_getElem?
      intro j
      rw [wipe_get, wipe_get, wipe_length]
      by_cases c : j ∈ own.map (·.2) ∧ j < σ.length
      · rw [if_pos c]
        simp [c.1, c.2]
      · rw [if_neg c]
    · refine ⟨dσ4, A4, _, hA4, hS4, q4, fun b A5 H5 q5 hA5 g5 => ?_⟩
      have g15 := ((g2.trans g3).trans g4).trans g5
      cases b with
      | false => exact iteF ⟨A5, hA5, g15, q5⟩
      | true =>
        refine iteT ⟨dσ4, A5, _, hA5, hS4.grow g5, q5, fun y A6 v H6 q6 hA6 ry g6 => ?_⟩
        refine ⟨dσ4, A6, _, hA6, (hS4.grow g5).grow g6, q6, fun z A7 u H7 ⟨kvs, e7, ok, hl, i7⟩ hA7 rz g7 => ?_⟩
        exact ⟨A7, kvs, y, z, hA7, e7, ok, hl, ry.grow g7, rz, fun H8 hA8 g8 => ⟨_, hA8, ((g15.trans g6).trans g7).trans g8, i7⟩⟩
  · have e : i = xs.length := by omega
    subst e
    exact .inl ⟨W.stop A2 H2 _ xs g2 hA2 st (Nat.le_refl _), k _ _ _ _ (fin A2 i2) hA2 rfl (g1.trans g2)⟩
theorem qe_dc (hu : X.A.units + 64 < cLine) (own : List (Str × Nat)) (hc : X.calm = true) (hN : X.N.Nodup) (hi : QI X tg iter wi) (ok : blkC X.N X.env.scope scope own = true)
    (hg : ∀ s H C cl fp, QG (Blk X scope s H C cl fp) tg g (own.map (·.2)) gv) (ht : ∀ s H C cl fp, QTs (Blk X scope s H C cl fp) ifs tt) (hk : ∀ s H C cl fp, QE (Blk X scope s H C cl fp) kx tk) (hv : ∀ s H C cl fp, QE (Blk X scope s H C cl fp) vx tv)
    (hs : ∀ x, foldedSetIterable iter X.env x = pure x := by intro _; rfl) : QE X (.DictComp kx vx [⟨tg, iter, ifs, 0⟩] scope pos) (dDc wi g tt tk tv (own.map (·.2))) := by
  refine ⟨fun pins s σ H Q I hq => ?_⟩
  exact (imE (pe_rdc (own := own) hu hc hN hi (blkOk_by ok) (fun s H C cl fp => (hg s H C cl fp).pg) ht hk hv hs) (dc_t (own := own) (hg s H 0 [] []).im)).run pins s σ H Q I hq
theorem qs_setDc (hu : X.A.units + 64 < cLine) (i : Nat) (own : List (Str × Nat)) {y : Str} {py : Pos} (hc : X.calm = true) (hN : X.N.Nodup) (hi : QI X tg iter wi) (ok : blkC X.N X.env.scope scope own = true)
    (hg : ∀ s H C cl fp, QG (Blk X scope s H C cl fp) tg g (own.map (·.2)) gv) (ht : ∀ s H C cl fp, QTs (Blk X scope s H C cl fp) ifs tt) (hk : ∀ s H C cl fp, QE (Blk X scope s H C cl fp) kx tk) (hv : ∀ s H C cl fp, QE (Blk X scope s H C cl fp) vx tv)
    (hsw : swapsWith (.DictComp kx vx [⟨tg, iter, ifs, 0⟩] scope pos) (some (.Name y py)) spos.line X.env = pure true)
    (hy : X.N[i]? = some y := by rfl) (hyl : X.env.scope.names.lookup y = some .local := by rfl) (hs : ∀ x, foldedSetIterable iter X.env x = pure x := by intro _; rfl) :
    QS X (.Assign [.Name y py] (.DictComp kx vx [⟨tg, iter, ifs, 0⟩] scope pos) spos) (dAsg (dDc wi g tt tk tv (own.map (·.2))) (dName i)) := by
  refine ⟨fun pins s σ H D I hq => ?_⟩
  refine (imS (ps_setRdc (tt := lT X.b tt) (tk := lE X.b tk) (tv := lE X.b tv) (own := own) hu hc hN hy hyl hsw hi (blkOk_by ok) (fun s H C cl fp => (hg s H C cl fp).pg) ht hk hv hs) ?_).run pins s σ H D I hq
  intro D σ H ⟨dσ, A, DD, hA, hS, q, k⟩
  refine dc_t (B := X.b) (own := own) (hg s H 0 [] []).im σ H _ ⟨dσ, A, _, hA, hS, q, fun d A' v H' q' hA' rd g' => ?_⟩
  exact k.nx _ _ _ _ q' hA' ((hS.grow g').set rd) g'
end
end DL
set_option Elab.async false
set_option linter.all false
set_option maxRecDepth 100000
set_option maxHeartbeats 1000000
/-! DL16: setdefault, list.index, names of the module, dict displays. -/
namespace DL
open PySem PySem.Spec PyProof.Rows L2
section
variable {X : Cx} {pins : List (Addr × Obj)} {σ : L2.St} {H : Hp} {s : Shared} {A₀ : Around} {E : Value → Shared → Prop} {A : AH} {a : Addr} {kvs : List (D × D)} {k d : D} {y : V} {u r : Value}
theorem x_setd {Q : Value → Shared → Prop} (hu : A₀.units + 6 < cLine) (I : L2.Inv X pins σ H s) (hA : RelH X.b A H) (e : A a = some (.dic kvs)) (ok : okK kvs k = true) (hl : kvs.length < SL) (rk : RelD X.K H k y) (ry : RelV y u) (rd : ReV X.K H d r)
    (h1 : ∀ d', dget kvs k = some d' → ∀ w' s', L2.Inv X pins σ H s' → ReV X.K H d' w' → Q w' s')
    (h2 : dget kvs k = none → ∀ s' H', L2.Inv X pins σ H' s' → RelH X.b (up A a (.dic (dput kvs k d))) H' → Grow H H' → Q r s') : wpAny (model X.prog X.w) A₀ (call (.builtin "dict.setdefault") [.ref a, u, r]) Q E s := by
  have all := okK_all ok
  obtain ⟨es0, eH, re0, g⟩ := hA _ _ e
  have gp := g.put (d := d) ok hl
  have fin : dget kvs k = none → ∀ {h' : Heap} {t' : Nat} {es : List Ent}, Heap.SameBut a s.heap h' → DicAt X.w a es h' → EntL X.K H (dput kvs k d) es → Q r { s with heap := h', toks := t' } := fun hn {h' t' es} sb da el => by
    have gr : Grow H (upd H a (.ext (DicAt X.w a es))) := grow_ext eH
    refine h2 hn _ (upd H a (.ext (DicAt X.w a es))) (I.write (x := a) (e := a) (t' := t') (by rw [eH]; trivial) (.inl rfl) (fun b q hb z => (sb.2 b hb).trans z) (let ⟨o, _, q, _⟩ := da; ⟨o, q⟩) (dic_ok da)) ?_ gr
    exact hA.put (u := .dic _) gr ⟨es, upd_same, el.grow gr, gp⟩
  cases ht : isTup k with
  | true =>
    rw [ht] at all
    obtain ⟨xs, dd, t, hs, _⟩ := view_t I hA (.inl e) all
    obtain ⟨b, hb⟩ := isTup_ref ⟨y, rk, ry⟩ ht
    subst hb
    refine call_setdefault_heap (knd := nestKind X.prog X.w) (hsz := by rw [t.length, SL_eq]; omega) (by show A₀.units + 1 + 4 < cLine; omega) ⟨ht, key_at I 4 _ _ _ (okK_key ok) rk ry⟩ hs dd (fun p hp => ?_) fun hn h' dd' sb => ?_
    · rcases t.get (k := k) with ⟨_, z⟩ | ⟨d', p', z1, z2, z3⟩
      · rw [hp] at z; cases z
      · rw [hp] at z2; cases z2
        exact h1 d' z1 _ _ (I.tok _) z3
    · have hn' : dget kvs k = none := by
        rcases t.get (k := k) with ⟨z, _⟩ | ⟨d', p', _, z2, _⟩
        · exact z
        · rw [hn] at z2; cases z2
      obtain ⟨es, el, ee⟩ := (t.put (k := k) (d := d) ⟨y, rk, ry⟩ rd).ents (w := X.w) (P := X.prog)
      obtain ⟨o, es2, ep, q1, q2, q3, q4, _⟩ := dd'
      exact fin hn' sb ⟨o, ep, q1, q2, by rw [q3, ← ee, ← q4], hs⟩ el
  | false =>
    rw [ht] at all
    obtain ⟨xs, dd, t, hs, _⟩ := view_f I hA (.inl e) all
    have := kyD_rel (okK_key ok) ht rk
    subst this
    refine call_meetsIn PySem.F.slot_dict_setdefault dd.typeIs PySem.F.entry_dict_setdefault (PySem.F.args_dict_setdefault_3 _ _ _) (kt_meets_setdefault (mixKind X.prog X.w) a (kV_is ry) hs r) ⟨xs, dd, by rw [t.length, SL_eq]; omega, fun v hv => ?_, fun hn h' dd' sb => ?_⟩
    · rcases t.get (okK_key ok) ht g.2.2.1 all with ⟨_, z⟩ | ⟨d', v', z1, z2, z3⟩
      · rw [hv] at z; cases z
      · rw [hv] at z2; cases z2
        exact h1 d' z1 _ _ (I.tok _) z3
    · have hn' : dget kvs k = none := by
        rcases t.get (okK_key ok) ht g.2.2.1 all with ⟨z, _⟩ | ⟨d', v', _, z2, _⟩
        · exact z
        · rw [hn] at z2; cases z2
      have t' := t.put (okK_key ok) ht g.2.2.1 all rd
      obtain ⟨o, es2, ep, q1, q2, q3, q4, q5, _⟩ := dd'
      have memk : ∀ p ∈ dput kvs k d, p.1 = k ∨ ∃ q ∈ kvs, q.1 = p.1 := fun p m => by
        have z : p.1 ∈ (dput kvs k d).map (·.1) := List.mem_map.mpr ⟨p, m, rfl⟩
        rw [keys_dput] at z
        split at z
        · exact .inr (by obtain ⟨q, mq, e⟩ := List.mem_map.mp z; exact ⟨q, mq, e⟩)
        · rcases List.mem_append.mp z with z | z
          · exact .inr (by obtain ⟨q, mq, e⟩ := List.mem_map.mp z; exact ⟨q, mq, e⟩)
          · exact .inl (by simpa using z)
      obtain ⟨es, el, ee⟩ := FR.ents (w := X.w) (P := X.prog) gp.2.2.1 (fun p m => by
          rcases memk p m with e | ⟨q, mq, e⟩
          · rw [e]; exact ht
          · rw [← e]; exact all q mq) (fun p m => by
          rcases memk p m with e | ⟨q, mq, e⟩
          · rw [e]; exact chk_of rk
          · rw [← e]; exact re0.chk q mq) t' q5 (fun en m => q4 en (by simpa using m))
      refine fin hn' sb ⟨o, ep, q1, q2, ?_, hs⟩ el
      rw [q3, ← ee]
end
def fSetd : D → DRn
  | .ref a, [k, d], A, Q => match A a with
    | some (.dic kvs) => okK kvs k = true ∧ kvs.length < SL ∧ match dget kvs k with
      | some d' => Q d' A
      | none => Q d (up A a (.dic (dput kvs k d)))
    | _ => False
  | _, _, _, _ => False
def fIndex : D → DRn := fun o xs A Q => match o, xs with
  | .ref a, [d] => match A a with
    | some (.lst ds) => plB d = true ∧ ds.all plB = true ∧ d ∈ ds ∧ Q (.int (ds.idxOf d : Nat)) A
    | _ => False
  | _, _ => False
theorem pl_get : ∀ {ds : List D} {j : Nat} {d : D}, ds[j]? = some d → (T.pys (plTs ds))[j]? = some (plT d).py
  | [], j, d, h => by simp at h
  | e :: ds, 0, d, h => by simp at h; subst h; rfl
  | e :: ds, j + 1, d, h => by
    simp only [plTs, T.pys, List.getElem?_cons_succ]
    exact pl_get (by simpa using h)
theorem pl_len : ∀ {ds : List D}, (T.pys (plTs ds)).length = ds.length
  | [] => rfl
  | e :: ds => by simp [plTs, T.pys, pl_len (ds := ds)]
theorem before_idx : ∀ {ds : List D} {d e : D} {m : Nat}, m < ds.idxOf d → ds[m]? = some e → e ≠ d
  | [], d, e, m, _, h => by simp at h
  | x :: ds, d, e, m, hm, h => by
    rw [List.idxOf_cons] at hm
    by_cases c : x = d
    · subst c
      simp at hm
    · have : (x == d) = false := by simpa using c
      rw [this] at hm
      cases m with
      | zero => simp at h; subst h; exact c
      | succ m => exact before_idx (by simpa using hm) (by simpa using h)
/-- a name of the module: its value -/
def GlobD (K : PySem.W.Frag) (mg : Str → Option Value) (x : Str) (d : D) : Prop := ∃ u v, mg x = some u ∧ RelV v u ∧ ∀ H, RelD K H d v
section
variable {X : Cx}
theorem m_setd (hu : X.A.units + 64 < cLine) : MtD X "dict.setdefault" fSetd := by
  intro pins s σ H a ds xs us A R I hA rl rv q
  unfold fSetd at q
  split at q
  · rename_i k d e2
    cases e2
    obtain ⟨y, z, rfl, ry, rz⟩ := rel2 rl
    obtain ⟨u, w, rfl, ru, rw'⟩ := rv.two
    split at q
    · rename_i kvs hq
      obtain ⟨ok, hl, q⟩ := q
      refine x_setd (by omega) I hA hq ok hl ry ru ⟨z, rz, rw'⟩ (fun d' hd w' s' I' ⟨v, r1, r2⟩ => ?_) fun hn s' H' I' hA' g => ?_
      · rw [hd] at q
        exact ⟨v, H, d', _, I', r2, q, hA, r1, Grow.refl⟩
      · rw [hn] at q
        exact ⟨z, H', d, _, I', rw', q, hA', rz.grow g, g⟩
    · exact q.elim
  · exact q.elim
theorem m_index (hu : X.A.units + 65 < cLine) : DMe X "list.index" fIndex := by
  refine ⟨_, mt_indexD hu, fun o x A R ov v H Q hA ro rx h k => ?_⟩
  unfold fIndex at h
  split at h
  · rename_i a d
    obtain ⟨v, rfl, rv⟩ := rel1 rx
    cases ro
    split at h
    · rename_i ds hq
      obtain ⟨h1, h2, h3, q⟩ := h
      have v1 := plB_V h1
      obtain ⟨p1, p2⟩ := pls_of h2
      obtain ⟨a1, a2⟩ := snap_shaped hA (snap_pl d v1.1) rv (by have := v1.2; omega)
      obtain ⟨b1, b2⟩ := snap_shaped hA (t := .lst (plTs ds)) (d := .ref a) (v := .ref a) (.inl ⟨a, ds, rfl, hq, snaps_pl _ p1⟩) rfl (by simp only [T.dep]; omega)
      have hlt := List.idxOf_lt_length_of_mem h3
      have hg : ds[ds.idxOf d]? = some d := by rw [List.getElem?_eq_getElem hlt, List.getElem_idxOf hlt]
      refine ⟨a, v, _, T.pys (plTs ds), ds.idxOf d, _, rfl, rfl, b1, a1, b2, a2, pl_get hg, ?_, fun m z' hm hz => ?_, k.at (d := .int _) q hA rfl⟩
      · rw [eqv_py, T.eqv_refl]
      · have ml : m < ds.length := Nat.lt_trans hm hlt
        have := pl_get (List.getElem?_eq_getElem ml)
        rw [this] at hz
        cases hz
        have pe : plB ds[m] = true := List.all_eq_true.mp h2 _ (List.getElem_mem ml)
        rw [eqv_py, eqv_pl _ _ (plB_V pe).1 v1.1]
        exact decide_eq_false (before_idx hm (List.getElem?_eq_getElem ml))
    · exact h.elim
  · exact h.elim
theorem qe_glob {x : Str} {d : D} {pos : Pos} (G : GlobD X.K X.mg x d) (hg : Gl X x := by rfl) (hdb : (x == ("__debug__" : Str)) = false := by decide) : QE X (.Name x pos) (dC d) := by
  obtain ⟨u, v, hm, rv, rd⟩ := G
  refine ⟨fun pins s σ H Q I ⟨dσ, A, R, hA, hS, q, k⟩ => ld_glob I hg hm ⟨v, H, I, rv, k.at (show R d A from q) hA (rd H)⟩ hdb⟩
end
end DL
namespace DL
open PySem PySem.Spec PyProof.Rows L2
/-- {k: v} -/
def dD1 (tk tv : DTE) : DTE := fun σ A Q => ∀ p, A p = none → tk σ (up A p (.dic [])) fun y A1 => tv σ A1 fun z A2 => A2 p = some (.dic []) ∧ isKey y = true ∧ Q (.ref p) (up A2 p (.dic [(y, z)]))
theorem qe_d1 {X : Cx} {ke ve : Expr} {pos : Pos} {tk tv : DTE} (hu : X.A.units + 64 < cLine) (hk : QE X ke tk) (hv : QE X ve tv) : QE X (.Dict [some ke] [ve] pos) (dD1 tk tv) := by
  refine ⟨fun pins s σ H Q I ⟨dσ, A, R, hA, hS, q, k⟩ => ?_⟩
  refine wpAny_Dict_any rfl rfl (by simp) (by show 1 ≤ 15; omega) ?_
  obtain ⟨I', hA', hn⟩ := x_new (a := s.heap.objs.size) (t' := s.toks) (kvs := []) I hA (Nat.le_refl _) (fun _ _ q => Heap.get?_push_of_some _ q) (dicAt_empty I) rfl GoodD.nil
  have q' := q _ (hA.free hn)
  have g0 : Grow H (upd H s.heap.objs.size (.ext (DicAt X.w s.heap.objs.size []))) := Grow.new hn
  refine evalPairs_cons (thn (hk.run pins _ σ _ _ I' ⟨dσ, _, _, hA', hS.grow g0, q', Kp.id⟩) fun ku s1 ⟨y, H1, I1, ry, dy, A1, q1, hA1, rdy, g1⟩ => ?_)
  refine wpAny_bind (thn (hv.run pins s1 σ H1 _ I1 ⟨dσ, A1, _, hA1, hS.grow (g0.trans g1), q1, Kp.id⟩) fun vu s2 ⟨z, H2, I2, rz, dz, A2, ⟨e2, kk, q2⟩, hA2, rdz, g2⟩ => ?_)
  refine wpAny_bind (wpAny_standAt (wpAny_pure ?_))
  refine evalPairs_nil ?_
  unfold storeAll
  rw [List.forIn_cons]
  refine wpAny_bind (wpAny_bind (x_dictSet (by omega) I2 hA2 e2 (k := dy) (d := dz) (by unfold okK; rw [kk]; rfl) (by decide) (rdy.grow g2) ry ⟨z, rdz, rz⟩ fun s3 H3 I3 hA3 g3 => wpAny_pure ?_))
  dsimp only
  rw [List.forIn_nil]
  refine wpAny_pure ⟨.ref s.heap.objs.size, H3, I3, rfl, ?_⟩
  exact k _ _ _ _ q2 hA3 rfl (((g0.trans g1).trans g2).trans g3)
end DL
namespace DL
open PySem PySem.Spec PyProof.Rows L2
section
variable {X : Cx} {o e : Expr} {es : List Expr} {to : DTE} {t : DTA} {apos cpos : Pos}
theorem qe_setd (hu : X.A.units + 64 < cLine) (ho : QE X o to) (ha : QA X (e :: es) t)
    (hbase : attributeBase o "setdefault" X.env (eval o X.env) = eval o X.env := by rfl)
    (hfew : ((backTo cpos (starEach (e :: es) X.env)).all (fun x => !x.1) && (backToKw cpos (keywordEach [] X.env)).all (fun x => x.1.isSome)
      && decide ((e :: es).length + ([] : List Keyword).length + (if ([] : List Keyword).isEmpty then 0 else 1) < 30)) = true := by rfl)
    (hline : (apos.endLine == cpos.line) = true := by rfl) (hs : starEach (e :: es) X.env = (false, eval e X.env) :: starEach es X.env := by rfl) (hplain : (backTo cpos (starEach es X.env)).any (·.1) = false := by rfl) :
    QE X (.Call (.Attribute o "setdefault" apos) (e :: es) [] cpos) (dBm isDc fSetd to t) := qe_dm PySem.F.slot_dict_setdefault PySem.F.type_dict_setdefault (m_setd hu) ho ha hbase hfew hline hs hplain
theorem qe_index (hu : X.A.units + 65 < cLine) (ho : QE X o to) (ha : QA X [e] t)
    (hfew : ((backTo cpos (starEach [e] X.env)).all (fun x => !x.1) && (backToKw cpos (keywordEach [] X.env)).all (fun x => x.1.isSome)
      && decide (([e] : List Expr).length + ([] : List Keyword).length + (if ([] : List Keyword).isEmpty then 0 else 1) < 30)) = true := by rfl)
    (hbase : attributeBase o "index" X.env (eval o X.env) = eval o X.env := by rfl) (hline : (apos.endLine == cpos.line) = true := by rfl) (hs : starEach [e] X.env = (false, eval e X.env) :: starEach [] X.env := by rfl) :
    QE X (.Call (.Attribute o "index" apos) [e] [] cpos) (dBm isL fIndex to t) := qe_bm tyL PySem.F.plainAttrs_list PySem.F.slot_list_index PySem.F.type_list_index (m_index hu) ho ha hbase hfew hline hs (by rfl)
end
end DL
set_option Elab.async false
set_option linter.all false
set_option maxRecDepth 100000
set_option maxHeartbeats 1000000
/-! DL17: the values of a dict that is then left alone; list(d), len(d). -/
namespace DL
open PySem PySem.Spec PyProof.Rows L2
def ItVl (d : Addr) (od : Obj) (eA : Array DictEntry) : It :=
  ⟨fun i H => (∃ u, H d = some (.frz od u)) ∧ ∃ en z, eA[i]? = some en ∧ RelV z en.val,
   fun i H x H' => H' = H ∧ ∃ en, eA[i]? = some en ∧ RelV x en.val,
   fun i H => (∃ u, H d = some (.frz od u)) ∧ eA.size ≤ i⟩
theorem turn_Vl {P : Program} {w : World} {K : PySem.W.Frag} {tg : Expr} {d : Addr} {o : Obj} {eA : Array DictEntry} {ep : Nat} {vs : List (Key × Value)} (it : Addr) (hx : o.ExactDict) (hod : o.data = .dict eA ep)
    (hk : KeysOf (mixKind P w) eA) (hp : Pairs (mixKind P w) eA.toList vs) (hn : (vs.map (·.1)).Nodup) : Turn P w K tg (ItVl d o eA) [it] it (fun i h => h.IsValIter it d i eA.size ep) where
  mem := by simp
  obj := fun i h st b hb => by
    have e : b = it := by simpa using hb
    subst e
    obtain ⟨oi, e, c, dd⟩ := st
    exact ⟨oi, e, fun v z => by rw [dd] at z; cases z⟩
  keep := fun i h h' st k => st.at fun oi e => k it (by simp) oi e
  item := by
    intro X hP hw hK hc i pins s σ H E I hf st hg
    subst hP hw hK
    obtain ⟨⟨u, hd⟩, en, z, he, hz⟩ := hg
    obtain ⟨f0, f1, f2, f3, f4, f5⟩ := hf it (by simp)
    have hgd : s.heap.get? d = some o := (I.hok d _ hd).1
    have hl : eA.size = vs.length := by rw [← hp.length, Array.length_toList]
    have lt : i < vs.length := by rw [← hl]; exact (Array.getElem?_eq_some_iff.mp he).1
    obtain ⟨⟨k, v⟩, hv⟩ : ∃ p, vs[i]? = some p := ⟨vs[i], List.getElem?_eq_getElem lt⟩
    obtain ⟨_, ev⟩ := hp.get? (by rw [Array.getElem?_toList]; exact he) hv
    have hm : s.heap.DictAt (mixKind X.prog X.w) d vs ep := ⟨o, eA, hgd, hx, hod, hk, hp, hn⟩
    rw [hl] at st
    refine wpAny_pyNext_values_item st hm hv fun h' st' sb => ?_
    have I1 : L2.Inv X pins σ H { s with heap := h' } := I.turned (t' := s.toks) (fun b ob hb e => (sb.2 b hb).trans e) f0 f1 f3 f4 f5
    obtain ⟨oi, e, c, dd⟩ := id st'
    rw [← ev]
    exact ⟨_, rfl, go_of (s := { s with heap := h' }) e c dd (by decide) ⟨z, H, I1, hz, ⟨rfl, en, he, hz⟩, by rw [hl]; exact st', fun b hb => (hf b hb).1⟩⟩
  done := by
    intro X hP hw hK hc i pins s σ H E I hf st hg
    subst hP hw hK
    obtain ⟨⟨u, hd⟩, hi⟩ := hg
    obtain ⟨f0, f1, f2, f3, f4, f5⟩ := hf it (by simp)
    have hgd : s.heap.get? d = some o := (I.hok d _ hd).1
    have hl : eA.size = vs.length := by rw [← hp.length, Array.length_toList]
    have hm : s.heap.DictAt (mixKind X.prog X.w) d vs ep := ⟨o, eA, hgd, hx, hod, hk, hp, hn⟩
    rw [hl] at st
    exact wpAny_pyNext_values_end (I.ok.hd hc) st hm (List.getElem?_eq_none (by omega)) fun h' eb => ⟨rfl, I.turned (t' := s.toks) (fun b ob hb e => eb b ob hb e) f0 f1 f3 f4 f5⟩
  self := fun A i s Q E st h => wpAny_pyIter_valiter st h
theorem wlk_vals {B : Bs} {H0 : Hp} {a : Addr} {od : Obj} {eA : Array DictEntry} {ep : Nat} (hd : od.data = .dict eA ep) : Wlk B H0 (ItVl a od eA) (fun A xs => ∃ kvs, A a = some (.fdic od kvs) ∧ xs = kvs.map (·.2)) where
  stop := fun A H i xs g hA ⟨kvs, e, ex⟩ hl => by
    subst ex
    obtain ⟨es, e1, r, _, ep', h2⟩ := hA _ _ e
    obtain ⟨h3, _⟩ := dict_ep hd h2
    refine ⟨⟨_, e1⟩, ?_⟩
    rw [← h3]
    simpa [r.length] using hl
  go := fun A H i xs d g hA ⟨kvs, e, ex⟩ hx => by
    subst ex
    obtain ⟨es, e1, r, _, ep', h2⟩ := hA _ _ e
    obtain ⟨h3, _⟩ := dict_ep hd h2
    subst h3
    rw [List.getElem?_map] at hx
    cases hp : kvs[i]? with
    | none => rw [hp] at hx; cases hx
    | some p =>
      rw [hp] at hx
      simp at hx
      subst hx
      obtain ⟨en, e3, _, ⟨v, rv, ru⟩⟩ := r.get hp
      have e4 : (es.map fun e => (⟨hsh B.w e.1, e.2.1, e.2.2⟩ : DictEntry)).toArray[i]? = some ⟨hsh B.w en.1, en.2.1, en.2.2⟩ := by simp [e3]
      refine ⟨⟨⟨_, e1⟩, _, v, e4, ru⟩, fun x H' ⟨q1, en', q2, q3⟩ => ?_⟩
      subst q1
      rw [e4] at q2
      cases q2
      have := q3.inj ru
      subst this
      exact ⟨hA, Grow.refl, rv⟩
/-- d.values(), the dict (flat keys) not written any more -/
def diV (t : DTE) : DI := fun σ A P => t σ A fun x A1 => match x with
  | .ref a => ∃ kvs, A1 a = some (.dic kvs) ∧ (∀ p ∈ kvs, isTup p.1 = false) ∧ ∀ od, P (fun A xs => ∃ kvs, A a = some (.fdic od kvs) ∧ xs = kvs.map (·.2)) (up A1 a (.fdic od kvs))
  | _ => False
section
variable {X : Cx} {tg e : Expr} {te : DTE} {apos cpos : Pos}
theorem qi_vals (h : QE X e te) (hbase : attributeBase e "values" X.env (eval e X.env) = eval e X.env := by rfl) (hline : (apos.endLine == cpos.line) = true := by rfl) : QI X tg (.Call (.Attribute e "values" apos) [] [] cpos) (diV te) := by
  refine ⟨fun pins s σ H R I ⟨dσ, A, P, hA, hS, q, k⟩ => ?_⟩
  refine wpAny_Call_method (T := "dict") (id := "dict.values") hbase rfl hline PySem.F.plainAttrs_dict PySem.F.slot_dict_values PySem.F.type_dict_values (thn (h.run pins s σ H _ I ⟨dσ, A, _, hA, hS, q, Kp.id⟩) fun u s1 ⟨x, H1, I1, rx, d, A1, q1, hA1, rd, g1⟩ => ?_)
  cases d with
  | ref a =>
    cases rd; cases rx
    obtain ⟨kvs, e1, ht, q1⟩ := q1
    obtain ⟨es, od, eH, I2, hA2, g2⟩ := lock_in I1 hA1 e1
    obtain ⟨xs, ⟨o, eA, ep, d1, d2, d3, d4, d5, d6⟩, t, lo, gd⟩ := view_f I1 hA1 (.inl e1) ht
    have hgd : s1.heap.get? a = some od := (I2.hok a _ upd_same).1
    rw [hgd] at d1
    cases d1
    have dd : s1.heap.DictOf (mixKind X.prog X.w) a xs := ⟨od, eA, ep, hgd, d2, d3, d4, d5, d6⟩
    refine ⟨dd.typeIs, dd.mapOf.noDict, ?_⟩
    have I3 : L2.Inv X pins σ (upd H1 a (.frz od (.ext (DicAt X.w a es)))) { s1 with heap := s1.heap.push { cls := .type "dict_values", data := .fields #[.ref a] } } := I2.kept (t' := s1.toks) fun b ob q => Heap.get?_push_of_some _ q
    have da : s1.heap.DictAt (mixKind X.prog X.w) a xs ep := ⟨od, eA, hgd, d2, d3, d4, d5, d6⟩
    have hl : eA.size = xs.length := by rw [← d5.length, Array.length_toList]
    have fin : wpAny (model X.prog X.w) X.A (pyIter (.ref s1.heap.objs.size)) (PIE X pins σ tg R) X.xe { s1 with heap := s1.heap.push { cls := .type "dict_values", data := .fields #[.ref a] } } := by
      refine wpAny_pyIter_values (d := a) (knd := mixKind X.prog X.w) ⟨_, Heap.get?_push_size _ rfl, rfl, rfl⟩ (da.push _) (pi_one (tk := s1.toks) I3 _ (turn_Vl _ d2 d3 d4 d5 d6) ⟨_, Heap.get?_push_size _ rfl, rfl, ?_⟩ (k _ _ _ _ (q1 od) hA2 (g1.trans g2) (wlk_vals d3)))
      rw [hl] <;> rfl
    show wpAny _ _ (callWith cpos (.builtin "dict.values") [.ref a] [] []) _ X.xe s1
    exact method_meetsIn PySem.F.slot_dict_values PySem.F.entry_dict_values rfl (PySem.evalArgs_none ⟨rfl, dd.typeIs, PySem.F.args_dict_values_1 _, _, meets_dict_values (mixKind X.prog X.w) a lo, ⟨xs, dd⟩, fin⟩)
  | _ => exact q1.elim
end
end DL

namespace DL
open PySem PySem.Spec PyProof.Rows L2
/-- len(d), all keys of one kind -/
def nLen : DRn
  | [.ref a], A, Q => match dicGetD A a with
    | some kvs => (∃ b, ∀ p ∈ kvs, isTup p.1 = b) ∧ Q (.int kvs.length) A
    | none => False
  | _, _, _ => False
/-- list(d) -/
def nList : DRn
  | [.ref a], A, Q => match dicGetD A a with
    | some kvs => ∀ p, A p = none → Q (.ref p) (up A p (.lst (kvs.map (·.1))))
    | none => False
  | _, _, _ => False
section
variable {X : Cx}
theorem c_nlen : DCa X (.builtin "len") nLen := DCa.raw fun pins s σ H xs us Q I rv ⟨ds, A, R, hA, rl, q, k⟩ => by
  unfold nLen at q
  split at q
  · rename_i a
    obtain ⟨v, rfl, rfl⟩ := rel1 rl
    obtain ⟨u, rfl, ru⟩ := vals1 rv
    cases ru
    split at q
    · rename_i kvs hq
      obtain ⟨⟨b, hb⟩, q⟩ := q
      have fin : ∀ (t : Nat) (tk : Nat), EP X pins σ Q (.int (kvs.length : Int) t) { s with toks := tk } := fun t tk => ⟨.int _, H, I.tok _, ⟨t, rfl⟩, k.at (d := .int _) q hA rfl⟩
      have big : ∀ n : Nat, n ≤ sizeLine → (n : Int) < 2 ^ 63 := fun n h => by rw [SL_eq] at h; have : n ≤ 16777216 := h; omega
      cases b with
      | true =>
        obtain ⟨xs, dd, t, hs, g⟩ := view_t I hA (dicGetD_of hq) hb
        exact call_len_dictH hs dd (by rw [t.length]; exact big _ g.2.1) (by rw [t.length]; exact fin _ _)
      | false =>
        obtain ⟨xs, dd, t, hs, g⟩ := view_f I hA (dicGetD_of hq) hb
        exact call_len_dict hs dd (by rw [t.length]; exact big _ g.2.1) (by rw [t.length]; exact fin _ _)
    · exact q.elim
  · exact q.elim
theorem c_nlist (hc : X.calm = true) : DCa X (.type "list") nList := DCa.raw fun pins s σ H xs us Q I rv ⟨ds, A, R, hA, rl, q, k⟩ => by
  unfold nList at q
  split at q
  · rename_i a
    obtain ⟨v, rfl, rfl⟩ := rel1 rl
    obtain ⟨u, rfl, ru⟩ := vals1 rv
    cases ru
    split at q
    · rename_i kvs hq
      obtain ⟨es, ⟨o, ep, h1, h2, h3, h4⟩, r, g⟩ := view_at I hA (dicGetD_of hq)
      obtain ⟨vs, v1, v2⟩ := ents_rel r
      refine PySem.W.kdl_call (kdl_obj h4 h2 h3) (I.ok.hd hc) h1 (by have := g.2.1; simp [r.length]; exact this) fun h' tk acc c' hk hD hi => ?_
      have ea : acc.toList = es.map fun e => e.2.1 := by
        have l1 : acc.size = es.length := by rw [hi.1]; simp
        refine List.ext_getElem (by simp [l1]) fun j j1 j2 => ?_
        have l2 : j < acc.size := by simpa using j1
        obtain ⟨en, e1, e2⟩ := hi.2 j acc[j] (by simp [l2])
        have l3 : j < es.length := by simpa using j2
        have : en = ⟨hsh X.w es[j].1, es[j].2.1, es[j].2.2⟩ := by
          have z : (es.map fun e => (⟨hsh X.w e.1, e.2.1, e.2.2⟩ : DictEntry)).toArray[j]? = some ⟨hsh X.w es[j].1, es[j].2.1, es[j].2.2⟩ := by simp [l3]
          rw [z] at e1
          exact (Option.some.inj e1).symm
        rw [Array.getElem_toList, e2, this, List.getElem_map]
      have hn := I.hok.fresh (Nat.le_refl s.heap.objs.size)
      have hz : vs.length ≤ sizeLine := by rw [← v1.length, List.length_map]; exact g.2.1
      exact ⟨.ref s.heap.objs.size, upd H s.heap.objs.size (.lst vs), I.laid (t' := tk) hk (Nat.le_refl _)
        (show ObjOk X.prog X.w _ _ _ (.lst vs) from ⟨hz, acc.toList, c', by rw [ea]; exact v2, by rw [Array.toArray_toList]; exact hD⟩), rfl,
        k _ _ _ _ (q _ (hA.free hn)) (hA.add (u := .lst _) hn ⟨_, upd_same, v1.grow (Grow.new hn)⟩) rfl (Grow.new hn)⟩
    · exact q.elim
  · exact q.elim
end
end DL
set_option Elab.async false
set_option linter.all false
set_option maxRecDepth 100000
set_option maxHeartbeats 1000000
/-! DL18: operators in place; a tuple of names in a comprehension. -/
namespace DL
open PySem PySem.Spec PyProof.Rows L2
def fIad : DR2
  | .int i, .int j, A, Q => Q (.int (i + j)) A
  | .str s, .str t, A, Q => s.length + t.length ≤ SL ∧ Q (.str (s ++ t)) A
  | _, _, _, _ => False
section
variable {X : Cx} {pos : Pos} {vs : List Nat}
theorem i_add : DOp X (inplaceOp .Add) fIad := by
  refine ⟨_, OpR.or iop_add iop_add_str, fun x y A R v u H Q hA rx ry h k => ?_⟩
  unfold fIad at h
  split at h
  · cases rx; cases ry
    exact .inl ⟨_, _, rfl, rfl, k.at h hA rfl⟩
  · obtain ⟨rfl, cx⟩ := rx
    obtain ⟨rfl, cy⟩ := ry
    refine .inr ⟨_, _, rfl, rfl, ?_, ?_⟩
    · rw [SL_eq]; exact h.1
    · rw [toArray_app]
      exact k.at h.2 hA ⟨rfl, fun c m => (List.mem_append.mp m).elim (cx c) (cy c)⟩
  · exact h.elim
theorem i_sub : DOp X (inplaceOp .Sub) fSub := d_i2 iop_sub
theorem qg_tupB {scope : Scope} {s : Shared} {H : Hp} {C : Addr} {cl : List (Str × Addr)} {fp : List Addr} {es : List Expr} {k : Nat} {gs : DTGs} {gvs : TGs} {n : Nat} (hc : X.calm = true) (h : QGs (Blk X scope s H C cl fp) es gs vs gvs) (hlen : ∀ l σ A Q, gs l σ A Q → l.length = n)
    (hn : (assignEach es (Blk X scope s H C cl fp).env).length = n := by rfl) (hst : (assignEach es (Blk X scope s H C cl fp).env).findIdx? (·.1) = none := by rfl) : QG (Blk X scope s H C cl fp) (.Tuple es k pos) (dgTup gs) vs (gTup X.K n gvs) :=
  qg_tup (X := Blk X scope s H C cl fp) hc h hlen hn hst
end
end DL
set_option Elab.async false
set_option linter.all false
set_option maxRecDepth 100000
set_option maxHeartbeats 1000000
/-! DL19: the order of lists of texts. -/
namespace DL
open PySem PySem.Spec PyProof.Rows L2
def isStr : D → Bool
  | .str _ => true
  | _ => false
theorem firstLt_lexO {n : Nat} {e r : Nat → Bool} {z : Bool} : ∀ (l m : List D) (i : Nat), z = decide (l.length < m.length) → (∀ j a b, l[j]? = some a → m[j]? = some b → e (i + j) = decide (a = b) ∧ r (i + j) = opD .Lt n a b) →
    SeqAt.firstLt e r z (List.range' i (min l.length m.length)) = lexO .Lt n l m
  | [], [], i, hz, _ => by rw [hz]; rfl
  | [], b :: m, i, hz, _ => by rw [hz, List.length_nil, Nat.zero_min]; rfl
  | a :: l, [], i, hz, _ => by rw [hz, List.length_nil, Nat.min_zero]; rfl
  | a :: l, b :: m, i, hz, h => by
    rw [List.length_cons, List.length_cons, Nat.succ_min_succ, List.range'_succ]
    obtain ⟨h1, h2⟩ := h 0 a b rfl rfl
    rw [Nat.add_zero] at h1 h2
    unfold lexO SeqAt.firstLt
    by_cases c : a = b
    · rw [h1, decide_eq_true c, if_pos c]
      have := firstLt_lexO (z := z) (e := e) (r := r) l m (i + 1) (by rw [hz, List.length_cons, List.length_cons]; simp) fun j a' b' q1 q2 => by
        rw [show i + 1 + j = i + (j + 1) by omega]
        exact h (j + 1) a' b' (by simpa using q1) (by simpa using q2)
      simpa using this
    · rw [h1, decide_eq_false c, if_neg c, h2]
      simp
def fLtL : DR2
  | .ref a, .ref b, A, Q => match A a, A b with
    | some (.lst xs), some (.lst ys) => xs.all isStr = true ∧ ys.all isStr = true ∧ Q (.bl (ltD 4 (.tup xs) (.tup ys))) A
    | _, _ => False
  | _, _, _, _ => False
/-- <, of lists of texts too -/
def mLtR : DR2 := fun x y A Q => match x, y with
  | .ref a, .ref b => fLtL (.ref a) (.ref b) A Q
  | x, y => mLt .Lt x y A Q
section
variable {X : Cx}
theorem d_ltL (hu : X.A.units + 64 < cLine) : DOp X (compareOp .Lt) fLtL := DOp.raw fun pins s σ H x y v u Q I rx ry ⟨dx, dy, A, R, hA, r1, r2, q, k⟩ => by
  unfold fLtL at q
  split at q
  · rename_i a b
    split at q
    · rename_i xs ys ha hb
      obtain ⟨k1, k2, q⟩ := q
      cases r1; cases r2; cases rx; cases ry
      obtain ⟨vs, e1, l1⟩ := hA _ _ ha
      obtain ⟨ws, e2, l2⟩ := hA _ _ hb
      obtain ⟨_, us, c1, v1, o1⟩ := I.hok a _ e1
      obtain ⟨_, ts, c2, v2, o2⟩ := I.hok b _ e2
      obtain ⟨n1, g1⟩ := l1.at v1
      obtain ⟨n2, g2⟩ := l2.at v2
      have kx : ∀ d ∈ xs, isKeyN 3 d = true := fun d m => by
        have := List.all_eq_true.mp k1 d m
        cases d <;> first | rfl | cases this
      have ky : ∀ d ∈ ys, isKeyN 3 d = true := fun d m => by
        have := List.all_eq_true.mp k2 d m
        cases d <;> first | rfl | cases this
      have at1 : ∀ j (h1 : j < us.toArray.size) (h2 : j < ts.toArray.size), ∃ p q, xs[j]? = some p ∧ ys[j]? = some q ∧ isStr p = true ∧ isStr q = true ∧ KeyAt s.heap 3 p us.toArray[j] ∧ KeyAt s.heap 3 q ts.toArray[j] := fun j h1 h2 => by
        have h1' : j < us.length := by simpa using h1
        have h2' : j < ts.length := by simpa using h2
        have i1 : j < xs.length := by omega
        have i2 : j < ys.length := by omega
        obtain ⟨x, r1, r2⟩ := g1 j xs[j] us[j] (List.getElem?_eq_getElem i1) (List.getElem?_eq_getElem h1')
        obtain ⟨y, r3, r4⟩ := g2 j ys[j] ts[j] (List.getElem?_eq_getElem i2) (List.getElem?_eq_getElem h2')
        refine ⟨xs[j], ys[j], List.getElem?_eq_getElem i1, List.getElem?_eq_getElem i2, List.all_eq_true.mp k1 _ (List.getElem_mem i1), List.all_eq_true.mp k2 _ (List.getElem_mem i2), ?_, ?_⟩
        · simpa using key_at I 3 _ _ _ (kx _ (List.getElem_mem i1)) r1 r2
        · simpa using key_at I 3 _ _ _ (ky _ (List.getElem_mem i2)) r3 r4
      have hE : ∀ j (h1 : j < us.toArray.size) (h2 : j < ts.toArray.size), SeqAt.EqAt X.A.in1 s us.toArray[j] ts.toArray[j] (decide (xs.getD j .non = ys.getD j .non)) := fun j h1 h2 prog w E Q h => by
        obtain ⟨p, q, q1, q2, _, _, q3, q4⟩ := at1 j h1 h2
        refine eq_key (n := 3) (m := 3) (by show X.A.units + 1 + 3 < cLine; omega) q3 q4 ?_
        simpa [List.getD, q1, q2] using h
      have hR : ∀ j (h1 : j < us.toArray.size) (h2 : j < ts.toArray.size), (decide (xs.getD j .non = ys.getD j .non)) = false → SeqAt.RcLt X.A.in1 s us.toArray[j] ts.toArray[j] (opD .Lt 3 (xs.getD j .non) (ys.getD j .non)) := fun j h1 h2 hf => by
        obtain ⟨p, q, q1, q2, s1, s2, q3, q4⟩ := at1 j h1 h2
        have f1 : xs.getD j .non = p := by simp [List.getD, q1]
        have f2 : ys.getD j .non = q := by simp [List.getD, q2]
        rw [f1, f2]
        have := rc_at (op := .Lt) (.inl rfl) 3 X.A.in1 s p q _ _ (by show X.A.units + 1 + 3 < cLine; omega) q3 q4 (by
          cases p <;> cases s1
          cases q <;> cases s2
          rfl)
        exact this
      have z := SeqAt.RcLt.lists (A := X.A) (s := s) ⟨_, o1, rfl, c1, rfl⟩ ⟨_, o2, rfl, c2, rfl⟩ (by omega) hE hR
      have e : SeqAt.firstLt (fun j => decide (xs.getD j .non = ys.getD j .non)) (fun j => opD .Lt 3 (xs.getD j .non) (ys.getD j .non)) (decide (us.toArray.size < ts.toArray.size)) (List.range (min us.toArray.size ts.toArray.size)) = ltD 4 (.tup xs) (.tup ys) := by
        have s1 : us.toArray.size = xs.length := by simpa using n1
        have s2 : ts.toArray.size = ys.length := by simpa using n2
        rw [s1, s2, List.range_eq_range', firstLt_lexO (n := 3) xs ys 0 rfl fun j a b q1 q2 => by
          rw [Nat.zero_add]
          simp [List.getD, q1, q2]]
        exact lexO_eq (.inl rfl) (List.all_eq_true.mpr kx) (List.all_eq_true.mpr ky)
      rw [e] at z
      exact z X.prog X.w X.xe (EP X pins σ Q) ⟨.bl _, H, I, rfl, k.at q hA rfl⟩
    · exact q.elim
  · exact q.elim
theorem o_ltR (hu : X.A.units + 64 < cLine) : DOp X (compareOp .Lt) mLtR := (d_ltL hu).or (o_lt hu) fun x y A R q => by
  unfold mLtR at q
  split at q
  · exact .inl q
  · exact .inr q
end
end DL
set_option Elab.async false
set_option linter.all false
set_option maxRecDepth 100000
set_option maxHeartbeats 1000000
/-! DL20: str of an int, a truth value, a text; targets within targets. -/
namespace DL
open PySem PySem.Spec PyProof.Rows L2
def intS (i : Int) : List Nat := (Str.ofString (toString i)).cps.toList
def boolS (b : Bool) : List Nat := if b then [84, 114, 117, 101] else [70, 97, 108, 115, 101]
def fStr : DRn
  | [.int i], A, Q => i.natAbs < 1073741824 ∧ (∀ c ∈ intS i, c < 1114112) ∧ Q (.str (intS i)) A
  | [.bl b], A, Q => Q (.str (boolS b)) A
  | [.str l], A, Q => Q (.str l) A
  | _, _, _ => False
section
variable {X : Cx}
theorem c_str : DCa X (.type "str") fStr := DCa.raw fun pins s σ H xs us Q I rv ⟨ds, A, R, hA, rl, q, k⟩ => by
  unfold fStr at q
  split at q
  · rename_i i
    obtain ⟨v, rfl, rfl⟩ := rel1 rl
    obtain ⟨h1, h2, q⟩ := q
    exact call_str_int pins s σ H _ us Q I rv ⟨i, rfl, by
      rcases Nat.eq_zero_or_pos i.natAbs with z | z
      · rw [z]; decide
      · have := (Nat.log2_lt (Nat.pos_iff_ne_zero.mp z)).mpr (show i.natAbs < 2 ^ 30 from h1)
        omega, k.at (d := .str _) q hA ⟨by show V.str _ = V.str _; unfold intS; rw [Array.toArray_toList], h2⟩⟩
  · rename_i b
    obtain ⟨v, rfl, rfl⟩ := rel1 rl
    obtain ⟨u, rfl, r1⟩ := vals1 rv
    cases r1
    refine PySem.P.str_of_bool ⟨.str _, H, I.tok _, ⟨_, rfl⟩, k.at (d := .str _) q hA ⟨?_, ?_⟩⟩
    · cases b <;> rfl
    · cases b <;> decide
  · rename_i l
    obtain ⟨v, rfl, r1⟩ := rel1 rl
    obtain ⟨rfl, cx⟩ := r1
    exact SkE.call_str_str pins s σ H _ us Q I rv ⟨_, rfl, k.at (d := .str _) q hA ⟨rfl, cx⟩⟩
  · exact q.elim
/-! ### targets within targets -/
def TgOk (g : DTG) : Prop := ∀ d σ A Q, g d σ A Q → ∃ σ2 A2, Q σ2 A2
def TgsOk (n : Nat) (gs : DTGs) : Prop := ∀ l σ A Q, gs l σ A Q → l.length = n ∧ ∃ σ2 A2, Q σ2 A2
theorem tk_name {i : Nat} : TgOk (dName i) := fun d σ A Q h => ⟨_, _, h⟩
theorem tk_nil : TgsOk 0 dgNil := fun l σ A Q h => by
  obtain ⟨rfl, q⟩ := h
  exact ⟨rfl, _, _, q⟩
theorem tk_cons {n : Nat} {g : DTG} {gs : DTGs} (h1 : TgOk g) (h2 : TgsOk n gs) : TgsOk (n + 1) (dgCons g gs) := fun l σ A Q h => by
  cases l with
  | nil => exact h.elim
  | cons d r =>
    obtain ⟨σ2, A2, q⟩ := h1 d σ A _ h
    obtain ⟨e, q⟩ := h2 r σ2 A2 Q q
    exact ⟨by rw [List.length_cons, e], q⟩
theorem tk_tup {n : Nat} {gs : DTGs} (h : TgsOk n gs) : TgOk (dgTup gs) := fun d σ A Q q => by
  cases d with
  | tup l => exact (h l σ A Q q).2
  | _ => exact q.elim
theorem tk_len {n : Nat} {gs : DTGs} (h : TgsOk n gs) : ∀ l σ A Q, gs l σ A Q → l.length = n := fun l σ A Q q => (h l σ A Q q).1
end
end DL
set_option Elab.async false
set_option linter.all false
set_option maxRecDepth 100000
set_option maxHeartbeats 4000000
/-! DL21: sorted(set(xs)), len(set(xs)) of a list of whole numbers. -/
namespace DL
open PySem PySem.Spec PyProof.Rows L2
abbrev metB (val : Nat → Int) (i : Nat) : Int → Bool := fun j => (firstMet val i).any (· == j)
theorem SetR.turned {w : World} {h : Heap} {a : Addr} {f g : Int → Bool} {n m : Nat} (r : SetR w h a f n) (e : ∀ k, f k = g k) (q : n = m) : SetR w h a g m := by
  have z : f = g := funext e
  subst z q
  exact r
section
variable {prog : Program} {w : World} {A : Around}
theorem upd_loopR {R : Result → Shared → Prop} {I : Addr} {fp wr : List Addr} {G : Array GenState → Array GenState → Prop} {n : Nat} {Pv : Nat → Value → Prop} {St : Nat → Shared → Prop} (W : WalksS prog w A.in1 I fp wr G n Pv St) (z : Addr) (far : z ∉ fp)
    (val : Nat → Int) (hval : ∀ i v, Pv i v → ∃ t, v = .int (val i) t) (hb : n + 1 < scanBound) :
    ∀ (k i : Nat) (s : Shared), n - i = k → i ≤ n → St i s → SetR w s.heap z (metB val i) (firstMet val i).length →
      (∀ s', Moved (z :: wr) G s s' → SetR w s'.heap z (metB val n) (firstMet val n).length → R (.ok (.ret .none)) s') →
      codeAny (model prog w) A (.builtin "set.update.loop" ⟨[.ref z, .ref I], []⟩) R s := by
  have zw : z ∉ wr := fun h => far (W.sub _ h)
  have up : ∀ b ∈ wr, b ∈ z :: wr := fun b hb => List.mem_cons_of_mem _ hb
  intro k
  induction k with
  | zero =>
    intro i s hk hi at_ rs hR
    have : i = n := by omega
    subst this
    refine codeAny_builtin PyProof.Rows.F.entry_set_update_loop ?_; rw [Around.under_plainId PyProof.Rows.F.plain_set_update_loop _]
    show wpAny _ A.in1 (pyNext (.ref I) >>= _) _ _ s
    exact wpAny_bind (W.done s _ _ at_ fun s' hm => by
      show wpAny _ A.in1 (ret Value.none) _ _ s'
      exact wpAny_pure (hR s' (hm.mono up) (rs.at fun o e => hm.heap z _ zw e)))
  | succ k ih =>
    intro i s hk hi at_ rs hR
    have lt : i < n := by omega
    refine codeAny_builtin PyProof.Rows.F.entry_set_update_loop ?_; rw [Around.under_plainId PyProof.Rows.F.plain_set_update_loop _]
    show wpAny _ A.in1 (pyNext (.ref I) >>= _) _ _ s
    refine wpAny_bind (W.item i s _ _ lt at_ fun v s' hP at' hm => ?_)
    obtain ⟨t, rfl⟩ := hval i v hP
    have rs' : SetR w s'.heap z (metB val i) (firstMet val i).length := rs.at fun o e => hm.heap z _ zw e
    show wpAny _ A.in1 (holding [Value.int (val i) t] (setAdd z (.int (val i) t)) >>= _) _ _ s'
    refine wpAny_bind (wpAny_holding ?_); unfold setAdd
    refine wpAny_holding (wpAny_bind ((intKind prog w).pyHash (k := val i) (intKind_is _ _ _ _) ?_))
    have room : (firstMet val i).length + 1 < scanBound := by have := firstMet_length_le val i; omega
    refine setR_add_hashed (s := { s' with toks := s'.toks + 1 }) rs' room fun h' sb r2 => ?_
    have r3 : SetR w h' z (metB val (i + 1)) (firstMet val (i + 1)).length := SetR.turned r2 (fun j => by show _ = (firstMet val (i + 1)).any _; rw [firstMet_succ, step_any]) (by rw [firstMet_succ, step_length])
    refine wpAny_pure ⟨plainId_quiet PyProof.Rows.F.plain_set_update_loop _, ih (i + 1) _ (by omega) lt (W.frame _ s' _ _ at' (Nat.le_succ _) fun b hb o e => ?_) r3 fun s2 m2 r4 => ?_⟩
    · rw [sb.2 b fun e2 : b = z => far (e2 ▸ hb)]; exact e
    · refine hR s2 (Moved.trans W.gtrans ((hm.mono up).then_heap (Nat.le_succ _) fun b o hb e => ?_) m2) r4
      rw [sb.2 b fun e2 : b = z => hb (e2 ▸ List.mem_cons_self)]; exact e
variable {E : Value → Shared → Prop} {s : Shared}
abbrev set0 (w : World) : Obj := { cls := .type "set", dict := none, data := .set #[] 0 (.fresh 0 0 (!w.params.followText "set-order")) }
theorem new_led (a : Value) {Q1 : Value → Shared → Prop} (h : Q1 (.ref s.heap.objs.size) { s with heap := s.heap.push (set0 w) }) :
    codeAny (model prog w) A (.call (.builtin "set.__new__") ⟨[.type "set", a], []⟩) (wants Q1 E) s := by
  refine codeAny_of_tree ?_
  show wpAny _ A.in1 (do checkBuiltinCall "set.__new__" ⟨[.type "set", a], []⟩; again (.builtin "set.__new__" ⟨[.type "set", a], []⟩)) _ _ s
  refine wpAny_bind (wpAny_of_eq (PySem.F.newCall_set_1 a) (wpAny_pure ⟨plainId_quiet PySem.F.plain_set_new _, codeAny_builtin PySem.F.entry_set_new ?_⟩))
  rw [Around.under_plainId PySem.F.plain_set_new _]; unfold Builtin.«set.__new__» Builtin.Frozenset.newClass
  have hsub := sub_set_self
  obtain ⟨hp, g, d, tk, os⟩ := s
  dsimp only
  wp_walk
  refine wpAny_askSetting (wpAny_pure ?_)
  dsimp only
  simp only [newObj]
  exact wpAny_bind (wpAny_alloc (wpAny_pure (wpAny_pure h)))
set_option maxHeartbeats 6400000 in
theorem set_of_list {l : Addr} {items : Array Value} {ns : List Int} {Q : Value → Shared → Prop}
    (hh : A.handled = none) (hl : s.heap.IsList l items) (hi : IntsAre items.toList ns) (hb : items.size + 1 < scanBound)
    (h : ∀ (h' : Heap) (tk : Nat), SetR w h' s.heap.objs.size (metB (fun i => ns.getD i 0) items.size) (firstMet (fun i => ns.getD i 0) items.size).length →
      (∀ b o, b < s.heap.objs.size → s.heap.get? b = some o → h'.get? b = some o) → Q (.ref s.heap.objs.size) { s with heap := h', toks := tk }) :
    wpAny (model prog w) A (call (.type "set") [.ref l]) Q E s := by
  obtain ⟨c, tl, hmro⟩ := PySem.F.called_set.mro
  have hmade := PySem.F.called_set.made
  have hsub := PySem.F.called_set.sub
  refine wpAny_call (codeAny_of_tree ?_); show wpAny _ _ (callAny (.type "set") _) _ _ _
  refine wpAny_pure ⟨Code.quiet_builtin _ (by decide +kernel), codeAny_builtin PySem.F.entry_type_call ?_⟩
  rw [Around.under_plain (weight_type_call_type "set" [.ref l] []) rfl]
  have h1 := PySem.F.called_set.notType
  have h2 := PySem.F.called_set.canCreate
  have hct := PySem.F.typeCall_set_1 (.ref l)
  repeat (any_goals (first | assumption | wp_step))
  refine codeAny_mono (new_led (.ref l) (E := E) (Q1 := fun obj s1 => obj = .ref s.heap.objs.size ∧ s1 = { s with heap := s.heap.push (set0 w) }) ⟨rfl, rfl⟩) fun r s1 hr => ?_
  cases r with
  | error e => exact hr
  | ok fl =>
    cases fl with
    | ret obj =>
      obtain ⟨rfl, rfl⟩ := hr
      have hS : (s.heap.push (set0 w)).get? s.heap.objs.size = some (set0 w) := Heap.get?_push_size _ rfl
      have hT : Shared.TypeIs { s with heap := s.heap.push (set0 w) } (.ref s.heap.objs.size) "set" := ⟨_, hS, rfl⟩
      have hli := PySem.F.called_set.init.lookup
      have hbi := PySem.F.called_set.init.bind (.ref s.heap.objs.size)
      repeat (any_goals (first | assumption | wp_step))
      refine codeAny_mono (codeAny_call_builtin (R := wants (fun r s2 => r = .none ∧ ∃ h' tk, s2 = { s with heap := h', toks := tk } ∧
          SetR w h' s.heap.objs.size (metB (fun i => ns.getD i 0) items.size) (firstMet (fun i => ns.getD i 0) items.size).length ∧
          (∀ b o, b < s.heap.objs.size → s.heap.get? b = some o → h'.get? b = some o)) E) PySem.F.called_set.init.plain PySem.F.entry_set_init (check_set_init_1 hT ?_)) fun r2 s2 hr2 => ?_
      · obtain ⟨⟨ocls, odict, odata, oslots⟩, hol, hcl, nl, hdl⟩ := hl
        simp only at hcl hdl
        subst hcl hdl
        have hol2 : (s.heap.push (set0 w)).get? l = some { cls := .type "list", dict := odict, data := .seq items nl, slots := oslots } := Heap.get?_push_of_some _ hol
        have hsls := PySem.F.sub_list_set
        have hslf := PySem.F.sub_list_frozenset
        have hne : (Value.type "list" == Value.type "dict") = false := by decide
        have hl1 : (s.heap.push (set0 w)).IsList l items := ⟨_, hol2, rfl, nl, rfl⟩
        unfold Builtin.«set.__init__» noKeywords Builtin.Frozenset.updateFrom
        generalize hPI : pyIter = PI
        wp_walk
        subst hPI
        refine wpAny_pyIter_list hl1 (wpAny_bind (wpAny_runValue ?_))
        have hlS : l < s.heap.objs.size := Heap.lt_size hol
        have hh3 : A.in1.in1.in1.handled = none := by simp [hh]
        have szp : (s.heap.push (set0 w)).objs.size = s.heap.objs.size + 1 := Heap.size_push _ _
        have neI : l ≠ (s.heap.push (set0 w)).objs.size := by rw [szp]; exact Nat.ne_of_lt (Nat.lt_succ_of_lt hlS)
        have far : s.heap.objs.size ∉ [(s.heap.push (set0 w)).objs.size, l] := by
          rw [szp]; exact fun z => (List.mem_cons.mp z).elim (Nat.ne_of_lt (Nat.lt_succ_self _)) fun z => Nat.ne_of_gt hlS (List.mem_singleton.mp z)
        have hval : ∀ (i : Nat) (v : Value), items[i]? = some v → ∃ t, v = .int ((fun i => ns.getD i 0) i) t := fun i v hv => IntsAre.int_at hi i v (by rw [Array.getElem?_toList]; exact hv)
        refine upd_loopR ((Walks.list hh3 _ l neI items).toS) s.heap.objs.size far (fun i => ns.getD i 0) hval hb (items.size - 0) 0 _ (by omega) (Nat.zero_le _)
          ⟨⟨_, Heap.get?_push_size _ rfl, rfl, rfl⟩, (hl1.push _)⟩ ?hS0 ?hR
        case hS0 =>
          exact (setR_fresh (h := s.heap) w).at fun o e => Heap.get?_push_of_some _ e
        case hR =>
          intro s' hm hS'
          obtain ⟨h', g', d', tk', os'⟩ := s'
          have eg : g' = s.gens := hm.gens
          have ed : d' = s.drawn := hm.drawn
          have eo : os' = s.os := hm.os
          subst eg ed eo
          show wpAny _ _ _ _ _ _
          refine wpAny_pure ?_
          show wpAny _ _ (ret Value.none) _ _ _
          refine wpAny_pure ⟨rfl, h', tk', rfl, hS', fun b o hb e => ?_⟩
          exact hm.heap b o (by rw [szp]; exact fun z => (List.mem_cons.mp z).elim (Nat.ne_of_lt hb) fun z => Nat.ne_of_lt (Nat.lt_succ_of_lt hb) (List.mem_singleton.mp z)) (Heap.get?_push_of_some _ (Heap.get?_push_of_some _ e))
      · cases r2 with
        | error e => exact hr2
        | ok fl2 =>
          cases fl2 with
          | ret r =>
            obtain ⟨rfl, h', tk, rfl, hS', hk'⟩ := hr2
            repeat (any_goals (first | assumption | wp_step))
            exact h _ _ hS' hk'
          | _ => exact hr2.elim
    | _ => exact hr.elim
end
section
variable {X : Cx}
theorem fm_mem (ns : List Int) (k : Int) : metB (fun i => ns.getD i 0) ns.length k = true ↔ k ∈ ns := by
  show (firstMet _ _).any _ = true ↔ _
  rw [firstMet_any]
  have : (List.range ns.length).map (fun i => ns.getD i 0) = ns := by
    refine List.ext_getElem (by simp) fun i h1 h2 => ?_
    simp [h2]
  rw [this, List.any_eq_true]
  exact ⟨fun ⟨x, h, e⟩ => (eq_of_beq e) ▸ h, fun h => ⟨k, h, by simp⟩⟩
theorem ints_rel {K : PySem.W.Frag} {H : Hp} : ∀ {ns : List Int} {vs : List V}, RelL K H (ns.map D.int) vs → vs = ns.map V.int
  | [], _, h => h
  | n :: ns, _, ⟨v, r, e, h1, t⟩ => by
    have h1 : v = V.int n := h1
    subst e h1
    rw [ints_rel t]; rfl
theorem vals_int : ∀ {ns : List Int} {us : List Value}, Vals (ns.map V.int) us → IntsAre us ns
  | [], _, .nil => .nil
  | n :: ns, _, .cons r t => by
    obtain ⟨k, rfl⟩ := r
    exact .cons n k (vals_int t)
/-- set(xs) of a list of whole numbers: what stands behind it -/
theorem setO_of {pins : List (Addr × Obj)} {σ : L2.St} {H : Hp} {s : Shared} {A : AH} {a : Addr} {ns : List Int} {Q : Value → Shared → Prop} {A0 : Around} {E : Value → Shared → Prop} (hd : A0.handled = none) (I : L2.Inv X pins σ H s) (hA : RelH X.b A H) (e : A a = some (.lst (ns.map D.int))) (hn : ns.length < 64)
    (h : ∀ (p : Addr) (f : Int → Bool) (n : Nat) (s' : Shared), (∀ k, f k = true ↔ k ∈ ns) → n ≤ ns.length → H p = none → L2.Inv X pins σ (upd H p (SetO X.w p f n)) s' → Q (.ref p) s') :
    wpAny (model X.prog X.w) A0 (call (.type "set") [.ref a]) Q E s := by
  obtain ⟨vs, e1, r⟩ := hA _ _ e
  obtain ⟨its, rv, hl, hz⟩ := I.list (.of e1)
  have ev := ints_rel r
  subst ev
  have hlen : its.toArray.size = ns.length := by rw [List.size_toArray, ← rv.length, List.length_map]
  refine set_of_list hd hl.isList (by simpa using vals_int rv) (by rw [hlen]; unfold scanBound; omega) fun h' tk R hk => ?_
  rw [hlen] at R
  exact h _ _ _ _ (fm_mem ns) (firstMet_length_le _ _) (I.hok.fresh (Nat.le_refl _)) (I.laid (o := SetO X.w s.heap.objs.size (metB (fun i => ns.getD i 0) ns.length) (firstMet (fun i => ns.getD i 0) ns.length).length) (t' := tk) (fun b o e => hk b o (Heap.lt_size e) e) (Nat.le_refl _) (setO_new R))
/-- sorted(set(xs)) -/
def dSrtSet (t : DTE) : DTE := fun σ A Q => t σ A fun d A1 => ∃ (a : Addr) (ns : List Int), d = .ref a ∧ A1 a = some (.lst (ns.map D.int)) ∧ ns.length < 64 ∧
  ∀ ms : List Int, ms.Pairwise (· < ·) → (∀ k, k ∈ ms ↔ k ∈ ns) → ∀ p, A1 p = none → Q (.ref p) (up A1 p (.lst (ms.map D.int)))
theorem rel_ints {K : PySem.W.Frag} {H : Hp} : ∀ ns : List Int, RelL K H (ns.map D.int) (ns.map V.int)
  | [] => rfl
  | n :: ns => ⟨_, _, rfl, rfl, rel_ints ns⟩
theorem qe_srtSet {e : Expr} {t : DTE} {p p2 q pos : Pos} (hc : X.calm = true) (hg : Gl X "sorted") (hm : X.mg "sorted" = none) (hg2 : Gl X "set") (hm2 : X.mg "set" = none) (he : QE X e t)
    (na : starEach [e] X.env = (false, eval e X.env) :: starEach [] X.env := by rfl) : QE X (.Call (.Name "sorted" p) [.Call (.Name "set" p2) [e] [] q] [] pos) (dSrtSet t) := by
  refine ⟨fun pins s σ H Q I h => ?_⟩
  obtain ⟨dσ, A, R, hA, hS, h, k⟩ := h
  refine Call_ (ld_blt I hg hm boot_sorted ?_)
  refine PyProof.Rows.callWith_builtin1 (PyProof.Rows.args_cons ?_ rfl) rfl rfl
  refine Call_ (ld_blt I hg2 hm2 boot_set ?_)
  refine PyProof.Rows.callWith_type1 (PyProof.Rows.args_cons (thn (he.run pins s σ H _ I ⟨dσ, A, _, hA, hS, h, Kp.id⟩) fun v s1 ⟨x, H1, I1, r1, d, A1, q1, hA1, rd, g1⟩ => PyProof.Rows.args_nil ?_) na) na rfl
  obtain ⟨a, ns, rfl, ea, hn, q1⟩ := q1
  cases rd
  cases r1
  refine setO_of (I1.ok.hd hc) I1 hA1 ea hn fun p f n s2 hf hl hp I2 => PyProof.Rows.args_nil ?_
  have g2 : Grow H1 (upd H1 p (SetO X.w p f n)) := Grow.new hp
  refine cr_sortedSet hc pins s2 σ _ [.ref p] [.ref p] Q I2 (.cons rfl .nil) ⟨p, f, n, rfl, by simp [upd], by omega, fun ms p2 hs hm2 hl2 hp2 => ?_⟩
  have hA2 : RelH X.b A1 (upd H1 p (SetO X.w p f n)) := hA1.new hp
  refine k.from (g1.trans (g2.trans (Grow.new hp2))) _ _ _ _ (q1 ms hs (fun j => (hm2 j).trans (hf j)) p2 (hA2.free hp2)) (hA2.add hp2 ⟨_, by simp [upd], rel_ints ms⟩) rfl Grow.refl
/-- len(set(xs)) -/
def dLenSet (t : DTE) : DTE := fun σ A Q => t σ A fun d A1 => ∃ (a : Addr) (ns : List Int), d = .ref a ∧ A1 a = some (.lst (ns.map D.int)) ∧ ns.length < 64 ∧
  ∀ ms : List Int, ms.Nodup → (∀ k, k ∈ ms ↔ k ∈ ns) → Q (.int (ms.length : Nat)) A1
theorem qe_lenSet {e : Expr} {t : DTE} {p p2 q pos : Pos} (hc : X.calm = true) (hg : Gl X "len") (hm : X.mg "len" = none) (hg2 : Gl X "set") (hm2 : X.mg "set" = none) (he : QE X e t)
    (na : starEach [e] X.env = (false, eval e X.env) :: starEach [] X.env := by rfl) : QE X (.Call (.Name "len" p) [.Call (.Name "set" p2) [e] [] q] [] pos) (dLenSet t) := by
  refine ⟨fun pins s σ H Q I h => ?_⟩
  obtain ⟨dσ, A, R, hA, hS, h, k⟩ := h
  refine Call_ (ld_blt I hg hm boot_len ?_)
  refine PyProof.Rows.callWith_builtin1 (PyProof.Rows.args_cons ?_ rfl) rfl rfl
  refine Call_ (ld_blt I hg2 hm2 boot_set ?_)
  refine PyProof.Rows.callWith_type1 (PyProof.Rows.args_cons (thn (he.run pins s σ H _ I ⟨dσ, A, _, hA, hS, h, Kp.id⟩) fun v s1 ⟨x, H1, I1, r1, d, A1, q1, hA1, rd, g1⟩ => PyProof.Rows.args_nil ?_) na) na rfl
  obtain ⟨a, ns, rfl, ea, hn, q1⟩ := q1
  cases rd
  cases r1
  refine setO_of (I1.ok.hd hc) I1 hA1 ea hn fun p f n s2 hf hl hp I2 => PyProof.Rows.args_nil ?_
  obtain ⟨o, es, ep, tb, ho, hex, hd, _, nd, hm3, _, hf3, hn3, _⟩ := setO_get (S := f) (n := n) I2 (a := p) (by simp [upd])
  have hA2 : RelH X.b A1 (upd H1 p (SetO X.w p f n)) := hA1.new hp
  have e3 : (es.toList.map keyOf).length = n := by rw [List.length_map, Array.length_toList, hn3]
  refine call_len_set ho hex hd hf3 (by omega) ⟨.int n, _, I2.tok _, ⟨_, by rw [hn3]⟩, ?_⟩
  have q2 := q1 (es.toList.map keyOf) nd fun j => (hm3 j).symm.trans (hf j)
  rw [e3] at q2
  exact k.from (g1.trans (Grow.new hp)) _ _ _ _ q2 hA2 rfl Grow.refl
end
end DL
set_option Elab.async false
set_option linter.all false
set_option maxRecDepth 100000
set_option maxHeartbeats 4000000
/-! DL22: insert at the beginning, index in the alphabet, a letter some times, tuples among the globals. -/
namespace DL
open PySem PySem.Spec PyProof.Rows L2
def fInsert : D → DRn
  | .ref a, [.int i, d], A, Q => match A a with
    | some (.lst xs) => i = 0 ∧ xs.length < SL ∧ Q .non (up A a (.lst (d :: xs)))
    | _ => False
  | _, _, _, _ => False
def alphL : List Nat := [97, 98, 99, 100, 101, 102, 103, 104, 105, 106, 107, 108, 109, 110, 111, 112, 113, 114, 115, 116, 117, 118, 119, 120, 121, 122]
def fSIndex : D → DRn
  | .str l, [.str t], A, Q => l = alphL ∧ ∃ c : Nat, t = [c] ∧ 97 ≤ c ∧ c ≤ 122 ∧ Q (.int ((c - 97 : Nat) : Int)) A
  | _, _, _, _ => False
def fMulS : DR2
  | .str l, .int i, A, Q => ∃ c : Nat, l = [c] ∧ 0 ≤ i ∧ i ≤ 1000 ∧ Q (.str (List.replicate i.toNat c)) A
  | _, _, _, _ => False
theorem occ_alph (c : Nat) (h1 : 97 ≤ c) (h2 : c ≤ 122) : ∃ rest, Builtin.Str.occurrences ⟨alphL.toArray⟩ ⟨[c].toArray⟩ 0 (⟨alphL.toArray⟩ : Str).length 1 = (c - 97) :: rest := by
  have : c = 97 ∨ c = 98 ∨ c = 99 ∨ c = 100 ∨ c = 101 ∨ c = 102 ∨ c = 103 ∨ c = 104 ∨ c = 105 ∨ c = 106 ∨ c = 107 ∨ c = 108 ∨ c = 109 ∨ c = 110 ∨ c = 111 ∨ c = 112 ∨ c = 113 ∨ c = 114 ∨ c = 115 ∨ c = 116 ∨ c = 117 ∨ c = 118 ∨ c = 119 ∨ c = 120 ∨ c = 121 ∨ c = 122 := by omega
  rcases this with rfl | rfl | rfl | rfl | rfl | rfl | rfl | rfl | rfl | rfl | rfl | rfl | rfl | rfl | rfl | rfl | rfl | rfl | rfl | rfl | rfl | rfl | rfl | rfl | rfl | rfl <;> exact ⟨[], by decide +kernel⟩
section
variable {X : Cx}
theorem m_insert : DMe X "list.insert" fInsert := by
  refine ⟨_, mtr_of mt_insert, fun o x A R ov v H Q hA ro rx h k => ?_⟩
  unfold fInsert at h
  split at h
  · obtain ⟨v1, v2, rfl, r1, r2⟩ := rel2 rx
    cases r1
    cases ro
    split at h
    · rename_i xs hq
      obtain ⟨vs, e1, r⟩ := hA _ _ hq
      obtain ⟨rfl, hl, h⟩ := h
      refine ⟨_, vs, 0, v2, rfl, rfl, e1, by rw [SL_eq, ← r.length]; exact hl, by omega, by decide, ?_⟩
      have g := grow_lst (ys := vs.take (0 : Int).toNat ++ [v2] ++ vs.drop (0 : Int).toNat) e1
      exact k _ _ _ _ h (hA.put (u := .lst _) g ⟨_, upd_same, (RelL.cons r2 r).grow g⟩) rfl g
    · exact h.elim
  · exact h.elim
theorem m_sindex : DMe X "str.index" fSIndex := by
  refine ⟨_, mtr_of mt_sindex, fun o x A R ov v H Q hA ro rx h k => ?_⟩
  unfold fSIndex at h
  split at h
  · obtain ⟨v1, rfl, r1⟩ := rel1 rx
    obtain ⟨rfl, c, rfl, h1, h2, h⟩ := h
    obtain ⟨rfl, _⟩ := ro
    obtain ⟨rfl, _⟩ := r1
    obtain ⟨rest, e⟩ := occ_alph c h1 h2
    exact ⟨_, _, _, rest, rfl, rfl, e, k.at (d := .int _) h hA rfl⟩
  · exact h.elim
theorem op_smul : OpR X (binaryOp .Mult) (fun x y H Q => ∃ (c : Nat) (i : Int), x = .str ⟨[c].toArray⟩ ∧ y = .int i ∧ 0 ≤ i ∧ i ≤ 1000 ∧ Q (.str ⟨(List.replicate i.toNat c).toArray⟩) H) := by
  intro pins s σ H x y v u Q I rx ry h
  obtain ⟨c, i, rfl, rfl, h0, h1, q⟩ := h
  obtain ⟨t, rfl⟩ := rx
  obtain ⟨t2, rfl⟩ := ry
  have cap : ∀ n : Int, 0 < n → n ≤ 1000 → (1 : Int) ≤ (2 ^ 63 - 1) / n := fun n z z2 => (Int.le_ediv_iff_mul_le z).mpr (by omega)
  have lo : (decide (i < -(2 ^ 63 : Int)) || decide (i ≥ 2 ^ 63)) = false := by
    rw [decide_eq_false (show ¬ i < -(2 ^ 63 : Int) by omega), decide_eq_false (show ¬ i ≥ (2 ^ 63 : Int) by omega)]; rfl
  have fold : ∀ (n : Nat) (acc : Array Nat), (List.replicate n (#[c] : Array Nat)).foldl (· ++ ·) acc = acc ++ (List.replicate n c).toArray := by
    intro n
    induction n with
    | zero => intro acc; simp
    | succ n ih => intro acc; rw [List.replicate_succ, List.foldl_cons, ih]; apply Array.ext'; simp [List.replicate_succ]
  refine PySem.P.mul_str lo (fun z _ => ?_) (fun z _ => ?_) ?_
  · have := cap i (by omega) h1
    show ¬ ((1 : Int) > _)
    omega
  · show Builtin.Str.tooLong (1 * i.toNat) = false
    unfold Builtin.Str.tooLong
    exact decide_eq_false (by rw [sizeLine_eq]; omega)
  · by_cases z : i < 1
    · rw [if_pos z]
      have e : i = 0 := by omega
      subst e
      exact ⟨by decide, .str _, H, I.tok _, ⟨_, rfl⟩, q⟩
    · rw [if_neg z]
      by_cases z1 : i = 1
      · subst z1
        rw [if_pos (by rfl)]
        exact ⟨.str _, H, I, ⟨_, rfl⟩, q⟩
      · have nb : ((i == 1) || (([c].length : Nat) == 0)) = false := by
          rw [beq_eq_false_iff_ne.mpr z1]; rfl
        have e : (⟨(List.replicate i.toNat (#[c] : Array Nat)).foldl (· ++ ·) #[]⟩ : Str) = ⟨(List.replicate i.toNat c).toArray⟩ := by rw [fold]; simp
        rw [if_neg (by intro z3; exact absurd (z3.symm.trans nb) (by decide))]
        show (Made.str (⟨(List.replicate i.toNat (#[c] : Array Nat)).foldl (· ++ ·) #[]⟩ : Str)).post _ s
        rw [e]
        refine ⟨?_, .str _, H, I.tok _, ⟨_, rfl⟩, q⟩
        show (List.replicate i.toNat c).toArray.size ≤ sizeLine
        rw [sizeLine_eq, List.size_toArray, List.length_replicate]
        omega
theorem d_mulS : DOp X (binaryOp .Mult) fMulS := by
  refine ⟨_, op_smul, fun x y A R v u H Q hA rx ry h k => ?_⟩
  unfold fMulS at h
  split at h
  · obtain ⟨c, rfl, h0, h1, q⟩ := h
    obtain ⟨rfl, hc⟩ := rx
    cases ry
    exact ⟨c, _, rfl, rfl, h0, h1, k.at (d := .str _) q hA ⟨rfl, fun d m => by rw [List.eq_of_mem_replicate m]; exact hc c (by simp)⟩⟩
  · exact h.elim
variable {o e e2 : Expr} {es : List Expr} {to : DTE} {t : DTA} {apos cpos : Pos}
theorem qe_insert (ho : QE X o to) (ha : QA X (e :: es) t)
    (hfew : ((backTo cpos (starEach (e :: es) X.env)).all (fun x => !x.1) && (backToKw cpos (keywordEach [] X.env)).all (fun x => x.1.isSome)
      && decide ((e :: es).length + ([] : List Keyword).length + (if ([] : List Keyword).isEmpty then 0 else 1) < 30)) = true := by rfl)
    (hbase : attributeBase o "insert" X.env (eval o X.env) = eval o X.env := by rfl) (hline : (apos.endLine == cpos.line) = true := by rfl) (hs : starEach (e :: es) X.env = (false, eval e X.env) :: starEach es X.env := by rfl) (hplain : (backTo cpos (starEach es X.env)).any (·.1) = false := by rfl) :
    QE X (.Call (.Attribute o "insert" apos) (e :: es) [] cpos) (dBm isL fInsert to t) :=
  qe_bm tyL PySem.F.plainAttrs_list PySem.F.slot_list_insert PySem.F.type_list_insert m_insert ho ha hbase hfew hline hs hplain
theorem qe_sindex (ho : QE X o to) (ha : QA X (e :: es) t)
    (hfew : ((backTo cpos (starEach (e :: es) X.env)).all (fun x => !x.1) && (backToKw cpos (keywordEach [] X.env)).all (fun x => x.1.isSome)
      && decide ((e :: es).length + ([] : List Keyword).length + (if ([] : List Keyword).isEmpty then 0 else 1) < 30)) = true := by rfl)
    (hbase : attributeBase o "index" X.env (eval o X.env) = eval o X.env := by rfl) (hline : (apos.endLine == cpos.line) = true := by rfl) (hs : starEach (e :: es) X.env = (false, eval e X.env) :: starEach es X.env := by rfl) (hplain : (backTo cpos (starEach es X.env)).any (·.1) = false := by rfl) :
    QE X (.Call (.Attribute o "index" apos) (e :: es) [] cpos) (dBm isS fSIndex to t) :=
  qe_bm tyS PySem.F.plainAttrs_str PySem.F.slot_str_index PySem.F.type_str_index m_sindex ho ha hbase hfew hline hs hplain
theorem globT {K : PySem.W.Frag} {mg : Str → Option Value} {x : Str} {a : Addr} {od : Option Addr} {its : Array Value} {n : Nat} {sl : Array (Option Value)} {ds : List D} {vs : List V} (h : mg x = some (.ref a)) (l : K.lookup a = some ⟨.type "tuple", od, .seq its n, sl⟩) (hs : its.size ≤ sizeLine) (rv : Vals vs its.toList) (rd : ∀ H, RelL K H ds vs) : GlobD K mg x (.tup ds) :=
  ⟨_, .ref a, h, rfl, fun H => ⟨a, vs, rfl, .inr ⟨_, its, n, l, rfl, rfl, hs, rv⟩, rd H⟩⟩
end
end DL
set_option Elab.async false
set_option linter.all false
set_option maxRecDepth 100000
set_option maxHeartbeats 1000000
/-! PL1: plain rules for reading the readings: what stays, items, loops, comprehensions. -/
namespace DL
open PySem L2
/-! ### what stays: all but W -/
def Sm (W : List Addr) (A A' : AH) : Prop := ∀ a o, a ∉ W → A a = some o → A' a = some o
theorem Sm.refl {W : List Addr} {A : AH} : Sm W A A := fun _ _ _ h => h
theorem Sm.trans {W : List Addr} {A B C : AH} (h1 : Sm W A B) (h2 : Sm W B C) : Sm W A C := fun a o n h => h2 a o n (h1 a o n h)
theorem Sm.weak {W V : List Addr} {A B : AH} (h : Sm W A B) (s : ∀ a ∈ W, a ∈ V) : Sm V A B := fun a o n q => h a o (fun m => n (s a m)) q
theorem Sm.new {W : List Addr} {A : AH} {p : Addr} {o : AO} (h : A p = none) : Sm W A (up A p o) := fun a u _ q => by
  rw [up_ne (fun e => by rw [e, h] at q; cases q)]; exact q
theorem Sm.put {W : List Addr} {A : AH} {p : Addr} {o : AO} (h : p ∈ W) : Sm W A (up A p o) := fun a u n q => by
  rw [up_ne (fun e => n (by rw [e]; exact h))]; exact q
theorem Sm.of0 {W : List Addr} {A B : AH} (h : Sm [] A B) : Sm W A B := h.weak fun _ m => nomatch m
/-- what is fresh is fresh before -/
theorem Sm.none0 {A B : AH} {a : Addr} (h : Sm [] A B) (n : B a = none) : A a = none := by
  cases e : A a with
  | none => rfl
  | some o => rw [h a o (by simp) e] at n; cases n
theorem Sm.noneW {W : List Addr} {A B : AH} {a : Addr} (h : Sm W A B) (w : ∀ c ∈ W, ∃ o, B c = some o) (n : B a = none) : A a = none := by
  cases e : A a with
  | none => rfl
  | some o =>
    by_cases m : a ∈ W
    · obtain ⟨o', e'⟩ := w a m
      rw [n] at e'; cases e'
    · rw [h a o m e] at n; cases n
/-- W's own addresses that were not there before need not be named -/
theorem Sm.drop {W V : List Addr} {A B : AH} (h : Sm W A B) (s : ∀ a ∈ W, a ∈ V ∨ A a = none) : Sm V A B := fun a o n q => by
  refine h a o (fun m => ?_) q
  rcases s a m with z | z
  · exact n z
  · rw [z] at q; cases q
theorem ne_nn {A : AH} {a p : Addr} {o : AO} (h : A a = some o) (n : A p = none) : a ≠ p := fun e => by rw [e, n] at h; cases h
theorem ne_oo {A : AH} {a b : Addr} {o u : AO} (h : A a = some o) (k : A b = some u) (n : o ≠ u) : a ≠ b := fun e => by rw [e, k] at h; cases h; exact n rfl
theorem up_at {A : AH} {a p : Addr} {o u : AO} (h : A a = some o) (n : A p = none) : up A p u a = some o := by rw [up_ne (ne_nn h n)]; exact h
theorem up_up {A : AH} {a : Addr} {o u : AO} : up (up A a o) a u = up A a u := by
  funext b
  unfold up
  split <;> rfl
theorem Sm.own {A B : AH} {p : Addr} {o : AO} (s : Sm [] A B) (h : A p = none) : Sm [] A (up B p o) := ((s.of0 (W := [p])).trans (Sm.put (by simp))).drop fun a m => .inr (by simp at m; rw [m]; exact h)
/-! ### items -/
theorem fAdd_int {i j : Int} {A : AH} {Q : DQ} : fAdd (.int i) (.int j) A Q = Q (.int (i + j)) A := rfl
theorem atI_nat {α : Type} {xs : List α} {k : Int} (h0 : 0 ≤ k) (h1 : k < xs.length) : atI xs k = xs[k.toNat]? := by
  unfold atI ixN
  rw [if_pos h0, if_pos h1]
  rfl
theorem fIx_of {A : AH} {x d : D} {xs : List D} {k : Int} {Q : DQ} (h : ixS A x = some xs) (e : atI xs k = some d) (q : Q d A) : fIx x (.int k) A Q := by
  unfold fIx
  rw [h]
  simp only [e]
  exact q
theorem lst_nd {A : AH} {a : Addr} {xs : List D} (h : A a = some (.lst xs)) : isDcB A a = false := by
  unfold isDcB dicGetD
  rw [h]; rfl
theorem dic_d {A : AH} {a : Addr} {kvs : List (D × D)} (h : A a = some (.dic kvs)) : dicGetD A a = some kvs := by
  unfold dicGetD
  rw [h]
theorem fdic_d {A : AH} {a : Addr} {od : Obj} {kvs : List (D × D)} (h : A a = some (.fdic od kvs)) : dicGetD A a = some kvs := by
  unfold dicGetD
  rw [h]
theorem mIx_tup {A : AH} {l : List D} {k : Int} {d : D} {Q : DQ} (e : atI l k = some d) (q : Q d A) : mIx (.tup l) (.int k) A Q := fIx_of (x := .tup l) (xs := l) rfl e q
theorem mIx_lst {A : AH} {a : Addr} {xs : List D} {k : Int} {d : D} {Q : DQ} (h : A a = some (.lst xs)) (e : atI xs k = some d) (q : Q d A) : mIx (.ref a) (.int k) A Q := by
  show (if isDcB A a then _ else _)
  rw [lst_nd h]
  exact fIx_of (by show (match A a with | some (.lst xs) => some xs | _ => none) = _; rw [h]) e q
theorem mIx_dic {A : AH} {a : Addr} {kvs : List (D × D)} {k d : D} {Q : DQ} (h : dicGetD A a = some kvs) (ok : okK kvs k = true) (e : dget kvs k = some d) (q : Q d A) : mIx (.ref a) k A Q := by
  show (if isDcB A a then _ else _)
  rw [show isDcB A a = true by unfold isDcB; rw [h]; rfl]
  show (match dicGetD A a with | some kvs => okK kvs k = true ∧ (match dget kvs k with | some d => Q d A | none => False) | none => False)
  rw [h]
  refine ⟨ok, ?_⟩
  rw [e]
  exact q
theorem mSt_lst {A : AH} {a : Addr} {xs : List D} {k : Int} {d : D} {j : Nat} {Q : AH → Prop} (h : A a = some (.lst xs)) (e : ixN xs.length k = some j) (q : Q (up A a (.lst (xs.set j d)))) : mSt (.ref a) (.int k) d A Q := by
  show (if isDcB A a then _ else _)
  rw [lst_nd h]
  show (match A a with | some (.lst xs) => (match ixN xs.length k with | some j => Q (up A a (.lst (xs.set j d))) | none => False) | _ => False)
  rw [h]
  simp only [e]
  exact q
theorem mSt_dic {A : AH} {a : Addr} {kvs : List (D × D)} {k d : D} {Q : AH → Prop} (h : A a = some (.dic kvs)) (ok : okK kvs k = true) (hl : kvs.length < SL) (q : Q (up A a (.dic (dput kvs k d)))) : mSt (.ref a) k d A Q := by
  show (if isDcB A a then _ else _)
  rw [show isDcB A a = true by unfold isDcB; rw [dic_d h]; rfl]
  show (match A a with | some (.dic kvs) => okK kvs k = true ∧ kvs.length < SL ∧ Q (up A a (.dic (dput kvs k d))) | _ => False)
  rw [h]
  exact ⟨ok, hl, q⟩
theorem len_lst {A : AH} {a : Addr} {xs : List D} {Q : DQ} (h : A a = some (.lst xs)) (q : Q (.int xs.length) A) : fLen [.ref a] A Q := by
  show (match A a with | some (.lst xs) => Q (.int xs.length) A | _ => False)
  rw [h]
  exact q
theorem app_lst {A : AH} {a : Addr} {xs : List D} {d : D} {Q : DQ} (h : A a = some (.lst xs)) (hl : xs.length < SL) (q : Q .non (up A a (.lst (xs ++ [d])))) : isL (.ref a) A ∧ fAppend (.ref a) [d] A Q := by
  refine ⟨⟨xs, h⟩, ?_⟩
  show (match A a with | some (.lst xs) => xs.length < SL ∧ Q .non (up A a (.lst (xs ++ [d]))) | _ => False)
  rw [h]
  exact ⟨hl, q⟩
theorem fAppend_lst {A : AH} {a : Addr} {xs : List D} {d : D} {Q : DQ} (h : A a = some (.lst xs)) (hl : xs.length < SL) (q : Q .non (up A a (.lst (xs ++ [d])))) : fAppend (.ref a) [d] A Q := (app_lst h hl q).2
theorem fPopAt_lst {A : AH} {a : Addr} {xs : List D} {k : Int} {d : D} {Q : DQ} (h : A a = some (.lst xs)) (h0 : 0 ≤ k) (h1 : k < xs.length) (hs : xs.length ≤ SL) (hd : xs[k.toNat]? = some d) (q : Q d (up A a (.lst (xs.eraseIdx k.toNat)))) : fPopAt (.ref a) [.int k] A Q := by
  show (match A a with | some (.lst xs) => (match atI xs k, ixN xs.length k with | some d, some j => (-9223372036854775808 ≤ k ∧ k < 9223372036854775808) ∧ Q d (up A a (.lst (xs.eraseIdx j))) | _, _ => False) | _ => False)
  rw [h]
  have e : ixN xs.length k = some k.toNat := by unfold ixN; rw [if_pos h0, if_pos h1]
  simp only [atI_nat h0 h1, hd, e]
  have : SL = 16777216 := rfl
  exact ⟨⟨by omega, by omega⟩, q⟩
theorem fDGetM_dic {A : AH} {a : Addr} {kvs : List (D × D)} {k : D} {Q : DQ} (h : dicGetD A a = some kvs) (ok : okK kvs k = true) (q : Q ((dget kvs k).getD .non) A) : fDGetM (.ref a) [k] A Q := by
  show (match dicGetD A a with | some kvs => okK kvs k = true ∧ Q ((dget kvs k).getD .non) A | none => False)
  rw [h]
  exact ⟨ok, q⟩
theorem mIn_dic {A : AH} {a : Addr} {kvs : List (D × D)} {k : D} {neg : Bool} {Q : DQ} (h : dicGetD A a = some kvs) (ok : okK kvs k = true) (q : Q (.bl (neg ^^ (dget kvs k).isSome)) A) : mIn neg k (.ref a) A Q := by
  show (if isDcB A a then _ else _)
  rw [show isDcB A a = true by unfold isDcB; rw [h]; rfl]
  simp only [if_true]
  cases neg with
  | true =>
    show (match dicGetD A a with | some kvs => okK kvs k = true ∧ Q (.bl (!(dget kvs k).isSome)) A | none => False)
    rw [h]
    exact ⟨ok, by simpa using q⟩
  | false =>
    show (match dicGetD A a with | some kvs => okK kvs k = true ∧ Q (.bl (dget kvs k).isSome) A | none => False)
    rw [h]
    exact ⟨ok, by simpa using q⟩
theorem mEq_pl {x y : D} {neg : Bool} {A : AH} {Q : DQ} (hx : plB x = true) (hy : plB y = true) (q : Q (.bl (neg ^^ decide (x = y))) A) : mEq neg x y A Q := by
  unfold mEq
  rw [hx, hy]
  exact q
theorem mEq_dic {A : AH} {a b : Addr} {ka kb : List (D × D)} {neg : Bool} {Q : DQ} (ha : dicGetD A a = some ka) (hb : dicGetD A b = some kb) (ok : ∀ p ∈ ka, okK kb p.1 = true) (pa : ∀ p ∈ ka, plB p.2 = true) (pb : ∀ p ∈ kb, plB p.2 = true) (q : Q (.bl (neg ^^ dEqB ka kb)) A) : mEq neg (.ref a) (.ref b) A Q := by
  unfold mEq
  rw [if_neg (by simp [plB, isPl])]
  show (if isDcB A a then fDEqB neg (.ref a) (.ref b) A Q else _)
  rw [show isDcB A a = true by unfold isDcB; rw [ha]; rfl]
  show (match dicGetD A a, dicGetD A b with | some ka, some kb => (∀ p ∈ ka, okK kb p.1 = true ∧ plV p.2) ∧ (∀ p ∈ kb, plV p.2) ∧ Q (.bl (neg ^^ dEqB ka kb)) A | _, _ => False)
  rw [ha, hb]
  exact ⟨fun p m => ⟨ok p m, plB_V (pa p m)⟩, fun p m => plB_V (pb p m), q⟩
theorem fld_of {A : AH} {a C : Addr} {f : String} {fs : List (String × D)} {d : D} {Q : DQ} (h : A a = some (.ins C fs)) (e : getS f fs = some d) (q : Q d A) : (match A a with
    | some (.ins C' fs) => C' = C ∧ match getS f fs with
      | some d => Q d A
      | none => False
    | _ => False) := by
  rw [h]
  refine ⟨rfl, ?_⟩
  rw [e]
  exact q
theorem fNot_non {x : D} {A : AH} {Q : DQ} : fNot x .non A Q = Q (.bl (!x.isNon)) A := by cases x <;> rfl
theorem fIs_non {x : D} {A : AH} {Q : DQ} : fIs x .non A Q = Q (.bl x.isNon) A := by cases x <;> rfl
/-! ### loops -/
theorem forR {lo : Int} {n : Nat} {g : DTG} {tb : DTS} {DD : DE} {σ : DS} {A : AH} (I : Nat → DS → AH → Prop) (h0 : I 0 σ A)
    (step : ∀ i σ A, i < n → I i σ A → g (.int (lo + i)) σ A fun σ2 A2 => tb { DD with nx := I (i + 1), ct := I (i + 1), bk := DD.nx } σ2 A2) (fin : ∀ σ A, I n σ A → DD.nx σ A) :
    ∃ (xs : List D) (I : Nat → DS → AH → Prop), I 0 σ A ∧ (∀ i σ A, i ≤ xs.length → I i σ A → (fun (_ : AH) xs => xs = rangeD lo n) A xs) ∧ (∀ i x σ A, xs[i]? = some x → I i σ A → g x σ A fun σ2 A2 => tb { DD with nx := I (i + 1), ct := I (i + 1), bk := DD.nx } σ2 A2) ∧ ∀ σ A, I xs.length σ A → DD.nx σ A := by
  refine ⟨rangeD lo n, I, h0, fun _ _ _ _ _ => rfl, fun i x σ A hx hi => ?_, ?_⟩
  · have lt : i < n := by
      have := (List.getElem?_eq_some_iff.mp hx).1
      rwa [rangeD_len] at this
    rw [rangeD_get lt] at hx
    cases hx
    exact step i σ A lt hi
  · rw [rangeD_len]; exact fin
theorem forL {a : Addr} {xs : List D} {g : DTG} {tb : DTS} {DD : DE} {σ : DS} {A : AH} (I : Nat → DS → AH → Prop) (h0 : I 0 σ A) (st : ∀ i σ A, i ≤ xs.length → I i σ A → A a = some (.lst xs))
    (step : ∀ i x σ A, xs[i]? = some x → I i σ A → g x σ A fun σ2 A2 => tb { DD with nx := I (i + 1), ct := I (i + 1), bk := DD.nx } σ2 A2) (fin : ∀ σ A, I xs.length σ A → DD.nx σ A) :
    ∃ (xs : List D) (I : Nat → DS → AH → Prop), I 0 σ A ∧ (∀ i σ A, i ≤ xs.length → I i σ A → (fun A xs => A a = some (.lst xs)) A xs) ∧ (∀ i x σ A, xs[i]? = some x → I i σ A → g x σ A fun σ2 A2 => tb { DD with nx := I (i + 1), ct := I (i + 1), bk := DD.nx } σ2 A2) ∧ ∀ σ A, I xs.length σ A → DD.nx σ A :=
  ⟨xs, I, h0, st, step, fin⟩
/-- a comprehension that changes nothing but its own list: f x the item, or none -/
theorem lc_of {S : DSrc} {g : DTG} {tt : DTT} {te : DTE} {σ : DS} {A : AH} {Q : DQ} {vs : List Nat} {xs : List D} (f : D → Option D) (hl : xs.length ≤ SL) (still : ∀ p o, A p = none → S (up A p o) xs)
    (body : ∀ x p o, x ∈ xs → A p = none → ∀ (K : D → AH → Prop) (N : AH → Prop), (∀ y, f x = some y → K y (up A p o)) → (f x = none → N (up A p o)) → g x (dwipe σ vs) (up A p o) fun σ2 A2 => tt σ2 A2 fun b A3 => if b = true then te σ2 A3 K else N A3)
    (q : ∀ p, A p = none → Q (.ref p) (up A p (.lst (xs.filterMap f)))) :
    ∃ xs : List D, ∀ p, A p = none → ∃ I : Nat → AH → Prop, I 0 (up A p (.lst [])) ∧ (∀ i A, i ≤ xs.length → I i A → S A xs) ∧
  (∀ i x A, xs[i]? = some x → I i A → g x (dwipe σ vs) A fun σ2 A2 => tt σ2 A2 fun b A3 => if b = true then te σ2 A3 fun y A4 => ∃ acc, A4 p = some (.lst acc) ∧ acc.length < SL ∧ I (i + 1) (up A4 p (.lst (acc ++ [y]))) else I (i + 1) A3) ∧
  ∀ A, I xs.length A → Q (.ref p) A := by
  refine ⟨xs, fun p hp => ⟨fun i A' => A' = up A p (.lst ((xs.take i).filterMap f)), rfl, fun i A' _ e => by rw [e]; exact still p _ hp, fun i x A' hx e => ?_, fun A' e => ?_⟩⟩
  · subst e
    have lt := (List.getElem?_eq_some_iff.mp hx).1
    have tk : xs.take (i + 1) = xs.take i ++ [x] := by rw [List.take_succ, hx]; rfl
    refine body x p _ (List.mem_of_getElem? hx) hp _ _ (fun y hy => ⟨(xs.take i).filterMap f, up_same, ?_, ?_⟩) fun hn => ?_
    · have := List.length_filterMap_le f (xs.take i)
      rw [List.length_take] at this
      omega
    · show _ = up A p (.lst ((xs.take (i + 1)).filterMap f))
      rw [up_up, tk, List.filterMap_append]
      simp [hy]
    · show _ = up A p (.lst ((xs.take (i + 1)).filterMap f))
      rw [tk, List.filterMap_append]
      simp [hn]
  · subst e
    rw [List.take_length]
    exact q p hp
/-- for .. in range(i, j) -/
theorem for_r2 {i j : Int} {t : DTA} {g : DTG} {tb : DTS} {DD : DE} {σ : DS} {A : AH} (s1 : small62 i) (s2 : small62 j) (I : Nat → DS → AH → Prop) (h0 : I 0 σ A)
    (step : ∀ k σ A, k < (j - i).toNat → I k σ A → g (.int (i + k)) σ A fun σ2 A2 => tb { DD with nx := I (k + 1), ct := I (k + 1), bk := DD.nx } σ2 A2) (fin : ∀ σ A, I (j - i).toNat σ A → DD.nx σ A) (ht : ∀ Q : List D → AH → Prop, Q [.int i, .int j] A → t σ A Q) :
    dFor (diR2 t) g tb DD σ A := ht _ ⟨s1, s2, forR I h0 step fin⟩
/-- for .. in range(j) -/
theorem for_r1 {j : Int} {t : DTA} {g : DTG} {tb : DTS} {DD : DE} {σ : DS} {A : AH} (s2 : small62 j) (I : Nat → DS → AH → Prop) (h0 : I 0 σ A)
    (step : ∀ k σ A, k < j.toNat → I k σ A → g (.int (0 + k)) σ A fun σ2 A2 => tb { DD with nx := I (k + 1), ct := I (k + 1), bk := DD.nx } σ2 A2) (fin : ∀ σ A, I j.toNat σ A → DD.nx σ A) (ht : ∀ Q : List D → AH → Prop, Q [.int j] A → t σ A Q) :
    dFor (diR1 t) g tb DD σ A := ht _ ⟨s2, forR I h0 step fin⟩
/-- the same, behind the call that gives the bound -/
theorem for_r1' {j : Int} {g : DTG} {tb : DTS} {DD : DE} {σ : DS} {A : AH} (s2 : small62 j) (I : Nat → DS → AH → Prop) (h0 : I 0 σ A)
    (step : ∀ k σ A, k < j.toNat → I k σ A → g (.int (0 + k)) σ A fun σ2 A2 => tb { DD with nx := I (k + 1), ct := I (k + 1), bk := DD.nx } σ2 A2) (fin : ∀ σ A, I j.toNat σ A → DD.nx σ A) :
    small62 j ∧ ∃ (xs : List D) (I : Nat → DS → AH → Prop), I 0 σ A ∧ (∀ i σ A, i ≤ xs.length → I i σ A → (fun (_ : AH) xs => xs = rangeD 0 j.toNat) A xs) ∧ (∀ i x σ A, xs[i]? = some x → I i σ A → g x σ A fun σ2 A2 => tb { DD with nx := I (i + 1), ct := I (i + 1), bk := DD.nx } σ2 A2) ∧ ∀ σ A, I xs.length σ A → DD.nx σ A := ⟨s2, forR I h0 step fin⟩
/-- for .. in xs -/
theorem for_l {a : Addr} {xs : List D} {t : DTE} {g : DTG} {tb : DTS} {DD : DE} {σ : DS} {A : AH} (h : A a = some (.lst xs)) (I : Nat → DS → AH → Prop) (h0 : I 0 σ A) (st : ∀ i σ A, i ≤ xs.length → I i σ A → A a = some (.lst xs))
    (step : ∀ i x σ A, xs[i]? = some x → I i σ A → g x σ A fun σ2 A2 => tb { DD with nx := I (i + 1), ct := I (i + 1), bk := DD.nx } σ2 A2) (fin : ∀ σ A, I xs.length σ A → DD.nx σ A) (ht : ∀ Q : D → AH → Prop, Q (.ref a) A → t σ A Q) :
    dFor (diL t) g tb DD σ A := ht _ ⟨⟨xs, h⟩, forL I h0 st step fin⟩
/-- [.. for .. in xs] -/
theorem lc_l {a : Addr} {xs : List D} {t : DTE} {g : DTG} {tt : DTT} {te : DTE} {σ : DS} {A : AH} {Q : DQ} {vs : List Nat} (f : D → Option D) (h : A a = some (.lst xs)) (hl : xs.length ≤ SL)
    (body : ∀ x p o, x ∈ xs → A p = none → ∀ (K : D → AH → Prop) (N : AH → Prop), (∀ y, f x = some y → K y (up A p o)) → (f x = none → N (up A p o)) → g x (dwipe σ vs) (up A p o) fun σ2 A2 => tt σ2 A2 fun b A3 => if b = true then te σ2 A3 K else N A3)
    (q : ∀ p, A p = none → Q (.ref p) (up A p (.lst (xs.filterMap f)))) (ht : ∀ Q : D → AH → Prop, Q (.ref a) A → t σ A Q) : dLc (diL t) g tt te vs σ A Q :=
  ht _ ⟨⟨xs, h⟩, lc_of f hl (fun p o hp => up_at h hp) body q⟩
theorem fm_some {f : D → D} {xs : List D} : xs.filterMap (fun x => some (f x)) = xs.map f := by
  induction xs with
  | nil => rfl
  | cons x xs ih => simp [List.filterMap_cons, ih]
theorem erase_perm {α : Type} : ∀ {l : List α} {i : Nat} (h : i < l.length), (l[i] :: l.eraseIdx i).Perm l
  | a :: l, 0, _ => List.Perm.refl _
  | a :: l, i + 1, h => by
    have h' : i < l.length := by simpa using h
    exact (List.Perm.swap a l[i] (l.eraseIdx i)).trans (List.Perm.cons a (erase_perm h'))
/-- for .. in e, e a call -/
def forTail (g : DTG) (tb : DTS) (DD : DE) (σ : DS) (x : D) (A : AH) : Prop := match x with
  | .ref a => (∃ xs, A a = some (.lst xs)) ∧ ∃ (xs : List D) (I : Nat → DS → AH → Prop), I 0 σ A ∧ (∀ i σ A, i ≤ xs.length → I i σ A → A a = some (.lst xs)) ∧
      (∀ i x σ A, xs[i]? = some x → I i σ A → g x σ A fun σ2 A2 => tb { DD with nx := I (i + 1), ct := I (i + 1), bk := DD.nx } σ2 A2) ∧ ∀ σ A, I xs.length σ A → DD.nx σ A
  | .cl l => ∃ (xs : List D) (I : Nat → DS → AH → Prop), I 0 σ A ∧ (∀ i σ A, i ≤ xs.length → I i σ A → xs = l) ∧
      (∀ i x σ A, xs[i]? = some x → I i σ A → g x σ A fun σ2 A2 => tb { DD with nx := I (i + 1), ct := I (i + 1), bk := DD.nx } σ2 A2) ∧ ∀ σ A, I xs.length σ A → DD.nx σ A
  | _ => False
theorem dFor_diL {t : DTE} {g : DTG} {tb : DTS} {DD : DE} {σ : DS} {A : AH} : dFor (diL t) g tb DD σ A = t σ A (forTail g tb DD σ) := rfl
theorem for_tail {a : Addr} {xs : List D} {g : DTG} {tb : DTS} {DD : DE} {σ : DS} {A : AH} (h : A a = some (.lst xs)) (I : Nat → DS → AH → Prop) (h0 : I 0 σ A) (st : ∀ i σ A, i ≤ xs.length → I i σ A → A a = some (.lst xs))
    (step : ∀ i x σ A, xs[i]? = some x → I i σ A → g x σ A fun σ2 A2 => tb { DD with nx := I (i + 1), ct := I (i + 1), bk := DD.nx } σ2 A2) (fin : ∀ σ A, I xs.length σ A → DD.nx σ A) :
    forTail g tb DD σ (.ref a) A := ⟨⟨xs, h⟩, forL I h0 st step fin⟩
theorem fAdd_lst {A : AH} {a b : Addr} {xs ys : List D} {Q : DQ} (h1 : A a = some (.lst xs)) (h2 : A b = some (.lst ys)) (hl : xs.length + ys.length ≤ SL) (q : ∀ p, A p = none → Q (.ref p) (up A p (.lst (xs ++ ys)))) : fAdd (.ref a) (.ref b) A Q := by
  show (match A a, A b with | some (.lst xs), some (.lst ys) => xs.length + ys.length ≤ SL ∧ ∀ p, A p = none → Q (.ref p) (up A p (.lst (xs ++ ys))) | _, _ => False)
  rw [h1, h2]
  exact ⟨hl, q⟩
theorem fSl_lst {A : AH} {a : Addr} {xs : List D} {lo hi : Option Int} {Q : DQ} (h : A a = some (.lst xs)) (q : ∀ p, A p = none → Q (.ref p) (up A p (.lst (cutD xs lo hi)))) : fSl (.ref a) lo hi A Q := by
  show (match A a with | some (.lst xs) => ∀ p, A p = none → Q (.ref p) (up A p (.lst (cutD xs lo hi))) | _ => False)
  rw [h]
  exact q
theorem mem_cutD {α : Type} {xs : List α} {lo hi : Option Int} {x : α} (h : x ∈ cutD xs lo hi) : x ∈ xs := List.mem_of_mem_drop (List.mem_of_mem_take h)
theorem len_cutD {α : Type} {xs : List α} {lo hi : Option Int} : (cutD xs lo hi).length ≤ xs.length := by
  unfold cutD
  rw [List.length_take, List.length_drop]
  omega
/-! ### dicts -/
theorem mem_dput {α : Type} {kvs : List (D × α)} {k : D} {v : α} {p : D × α} (h : p ∈ dput kvs k v) : p = (k, v) ∨ (p ∈ kvs ∧ p.1 ≠ k) := by
  unfold dput at h
  split at h
  · obtain ⟨q, mq, e⟩ := List.mem_map.mp h
    split at e
    · rename_i hk
      left; rw [← e, hk]
    · rename_i hk
      right; subst e; exact ⟨mq, hk⟩
  · rename_i hn
    rcases List.mem_append.mp h with m | m
    · right
      refine ⟨m, fun e => hn ?_⟩
      exact List.any_eq_true.mpr ⟨p, m, decide_eq_true e⟩
    · left; simpa using m
theorem nodup_dput {α : Type} {kvs : List (D × α)} {k : D} {v : α} (h : (kvs.map (·.1)).Nodup) : ((dput kvs k v).map (·.1)).Nodup := by
  rw [keys_dput]
  split
  · exact h
  · rename_i hn
    refine List.nodup_append.mpr ⟨h, by simp, fun x hx y hy e => ?_⟩
    simp at hy
    subst hy e
    exact hn (dget_mem.mpr hx)
theorem len_dput {α : Type} {kvs : List (D × α)} {k : D} {v : α} : (dput kvs k v).length ≤ kvs.length + 1 := by
  have := congrArg List.length (keys_dput kvs k v)
  rw [List.length_map] at this
  rw [this]
  split <;> simp
theorem dget_cons {α : Type} {q : D × α} {ps : List (D × α)} {k : D} : dget (q :: ps) k = if q.1 = k then some q.2 else dget ps k := by
  unfold dget
  by_cases c : q.1 = k
  · simp [c]
  · simp [c]
theorem dget_repl {α : Type} {k k' : D} {v : α} : ∀ {kvs : List (D × α)}, dget (kvs.map fun p => if p.1 = k then (p.1, v) else p) k' = if k' = k then (if (dget kvs k).isSome then some v else none) else dget kvs k'
  | [] => by simp [dget]
  | q :: ps => by
    rw [List.map_cons, dget_cons, dget_repl (kvs := ps), dget_cons, dget_cons]
    by_cases c : q.1 = k
    · rw [if_pos c, if_pos c]
      by_cases e : k' = k
      · subst e
        simp [c]
      · have ne : ¬ q.1 = k' := fun z => e (z.symm.trans c)
        simp [e, ne]
    · rw [if_neg c, if_neg c]
      by_cases e : k' = k
      · subst e
        simp [c]
      · simp [e]
theorem dget_dput {α : Type} {kvs : List (D × α)} {k k' : D} {v : α} : dget (dput kvs k v) k' = if k' = k then some v else dget kvs k' := by
  unfold dput
  rw [dput_any]
  split
  · rename_i h
    rw [dget_repl, h]
    rfl
  · rename_i h
    have hn : dget kvs k = none := by
      cases z : dget kvs k with
      | none => rfl
      | some d => rw [z] at h; exact absurd rfl h
    have app : ∀ ps : List (D × α), dget (ps ++ [(k, v)]) k' = match dget ps k' with | some d => some d | none => if k = k' then some v else none := by
      intro ps
      induction ps with
      | nil =>
        rw [List.nil_append, dget_cons]
        rfl
      | cons q ps ih =>
        rw [List.cons_append, dget_cons, ih, dget_cons]
        by_cases c : q.1 = k' <;> simp [c]
    rw [app]
    by_cases e : k' = k
    · subst e; rw [hn]
    · have ne : ¬ k = k' := fun z => e z.symm
      rw [if_neg e]
      cases dget kvs k' <;> simp [ne]
theorem pairsB_refl {kvs : List (D × D)} (nd : (kvs.map (·.1)).Nodup) : pairsB (fun x y => decide (x = y)) kvs kvs = true := by
  unfold pairsB
  rw [List.all_eq_true]
  intro p m
  obtain ⟨j, hj, e⟩ := List.getElem_of_mem m
  have : dget kvs p.1 = some p.2 := dget_at (j := j) nd (by rw [List.getElem?_eq_getElem hj, e])
  rw [this]
  simp
theorem dEqB_refl {kvs : List (D × D)} (nd : (kvs.map (·.1)).Nodup) : dEqB kvs kvs = true := by
  unfold dEqB
  rw [pairsB_refl nd]
  simp
theorem dget_in {kvs : List (D × D)} (nd : (kvs.map (·.1)).Nodup) {p : D × D} (m : p ∈ kvs) : dget kvs p.1 = some p.2 := by
  obtain ⟨j, hj, e⟩ := List.getElem_of_mem m
  exact dget_at (j := j) nd (by rw [List.getElem?_eq_getElem hj, e])
theorem dget_mem2 {kvs : List (D × D)} {k d : D} (h : dget kvs k = some d) : (k, d) ∈ kvs := by
  unfold dget at h
  cases f : kvs.find? fun p => decide (p.1 = k) with
  | none => rw [f] at h; cases h
  | some p =>
    rw [f] at h
    have e1 := List.find?_some f
    have e2 : p.1 = k := of_decide_eq_true e1
    have e3 : p.2 = d := by simpa using h
    have := List.mem_of_find?_eq_some f
    obtain ⟨a, b⟩ := p
    cases e2; cases e3
    exact this
theorem nd_len : ∀ (l m : List D), l.Nodup → (∀ x ∈ l, x ∈ m) → l.length ≤ m.length
  | [], _, _, _ => Nat.zero_le _
  | x :: l, m, nd, h => by
    rw [List.nodup_cons] at nd
    have hx := h x List.mem_cons_self
    have ih := nd_len l (m.erase x) nd.2 fun y my => (List.mem_erase_of_ne (fun e => nd.1 (by rw [← e]; exact my))).mpr (h y (List.mem_cons_of_mem _ my))
    rw [List.length_erase_of_mem hx] at ih
    have := List.length_pos_of_mem hx
    rw [List.length_cons]
    omega
theorem dEqB_of {ka kb : List (D × D)} (na : (ka.map (·.1)).Nodup) (nb : (kb.map (·.1)).Nodup) (h : ∀ k, dget ka k = dget kb k) : dEqB ka kb = true := by
  have l1 : (ka.map (·.1)).length ≤ (kb.map (·.1)).length := nd_len _ _ na fun x m => dget_mem.mp (by rw [← h]; exact dget_mem.mpr m)
  have l2 : (kb.map (·.1)).length ≤ (ka.map (·.1)).length := nd_len _ _ nb fun x m => dget_mem.mp (by rw [h]; exact dget_mem.mpr m)
  rw [List.length_map, List.length_map] at l1 l2
  unfold dEqB
  rw [decide_eq_true (show ka.length = kb.length by omega), Bool.true_and]
  unfold pairsB
  rw [List.all_eq_true]
  intro p m
  rw [← h, dget_in na m]
  simp
theorem dEqB_put {kvs : List (D × D)} {k v : D} (hv : dget kvs k ≠ some v) : dEqB (dput kvs k v) kvs = false := by
  unfold dEqB
  cases hg : dget kvs k with
  | none =>
    have : (dput kvs k v).length = kvs.length + 1 := by
      have := congrArg List.length (keys_dput kvs k v)
      rw [hg] at this
      simpa using this
    rw [this]
    simp
  | some o =>
    have m : (k, v) ∈ dput kvs k v := dget_mem2 (by rw [dget_dput, if_pos rfl])
    have : pairsB (fun x y => decide (x = y)) kvs (dput kvs k v) = false := by
      unfold pairsB
      rw [Bool.eq_false_iff]
      intro h
      have := List.all_eq_true.mp h _ m
      rw [hg] at this
      have e : v = o := of_decide_eq_true this
      exact hv (by rw [hg, e])
    rw [this, Bool.and_false]
/-- [.. for .. in d], f k the item -/
theorem lc_d {a : Addr} {kvs : List (D × D)} {t : DTE} {g : DTG} {tt : DTT} {te : DTE} {σ : DS} {A : AH} {Q : DQ} {vs : List Nat} (f : D → Option D) (h : A a = some (.dic kvs)) (hl : kvs.length ≤ SL)
    (body : ∀ k p o od, k ∈ kvs.map (·.1) → A p = none → ∀ (K : D → AH → Prop) (N : AH → Prop), (∀ y, f k = some y → K y (up (up A a (.fdic od kvs)) p o)) → (f k = none → N (up (up A a (.fdic od kvs)) p o)) →
      g k (dwipe σ vs) (up (up A a (.fdic od kvs)) p o) fun σ2 A2 => tt σ2 A2 fun b A3 => if b = true then te σ2 A3 K else N A3)
    (q : ∀ p, A p = none → Q (.ref p) (up A p (.lst ((kvs.map (·.1)).filterMap f)))) (ht : ∀ (A' : AH) (Q : D → AH → Prop), Q (.ref a) A' → t σ A' Q) : dLockE (dLc (diD t) g tt te vs) σ A Q := by
  refine .inr ⟨a, kvs, h, fun od => ht _ _ ?_⟩
  refine ⟨od, kvs, up_same, ?_⟩
  have fr : ∀ p, up A a (.fdic od kvs) p = none → A p = none := fun p hp => by
    by_cases e : p = a
    · subst e; rw [up_same] at hp; cases hp
    · rw [up_ne e] at hp; exact hp
  refine lc_of (S := fun A xs => ∃ kvs, A a = some (.fdic od kvs) ∧ xs = kvs.map (·.1)) (Q := fun d A' => A' a = some (.fdic od kvs) ∧ Q d (up A' a (.dic kvs))) (xs := kvs.map (·.1)) f (by rw [List.length_map]; exact hl) (fun p o hp => ⟨kvs, up_at up_same hp, rfl⟩) (fun k p o mk hp K N h1 h2 => body k p o od mk (fr p hp) K N h1 h2) fun p hp => ?_
  have hp' := fr p hp
  have ne : a ≠ p := ne_nn h hp'
  refine ⟨by rw [up_ne ne, up_same], ?_⟩
  have e : up (up (up A a (.fdic od kvs)) p (.lst ((kvs.map (·.1)).filterMap f))) a (.dic kvs) = up A p (.lst ((kvs.map (·.1)).filterMap f)) := by
    funext b
    unfold up
    by_cases c : b = a
    · subst c; rw [if_pos rfl, if_neg ne, h]
    · rw [if_neg c]
      by_cases c2 : b = p
      · rw [if_pos c2, if_pos c2]
      · rw [if_neg c2, if_neg c2, if_neg c]
  rw [e]
  exact q p hp'
end DL
set_option Elab.async false
set_option linter.all false
set_option maxRecDepth 100000
set_option maxHeartbeats 1000000
/-! PL2: more plain rules: dict comprehensions, equality and membership of lists, sorted. -/
namespace DL
open PySem L2
/-- {k: v for .. in xs} -/
theorem dc_l {a : Addr} {xs : List D} {t : DTE} {g : DTG} {tt : DTT} {tk tv : DTE} {σ : DS} {A : AH} {Q : DQ} {vs : List Nat} (kf vf : D → D) (b : Bool) (h : A a = some (.lst xs)) (hl : xs.length < SL) (hk : ∀ x ∈ xs, isKey (kf x) = true ∧ isTup (kf x) = b)
    (body : ∀ x p o, x ∈ xs → A p = none → ∀ (K : D → D → AH → Prop) (N : AH → Prop), K (kf x) (vf x) (up A p o) → g x (dwipe σ vs) (up A p o) fun σ2 A2 => tt σ2 A2 fun b A3 => if b = true then tk σ2 A3 fun y A4 => tv σ2 A4 fun z A5 => K y z A5 else N A3)
    (q : ∀ p, A p = none → Q (.ref p) (up A p (.dic (xs.foldl (fun kvs x => dput kvs (kf x) (vf x)) [])))) (ht : ∀ Q : D → AH → Prop, Q (.ref a) A → t σ A Q) : dDc (diL t) g tt tk tv vs σ A Q := by
  refine ht _ ⟨⟨xs, h⟩, xs, fun p hp => ⟨fun i A' => A' = up A p (.dic ((xs.take i).foldl (fun kvs x => dput kvs (kf x) (vf x)) [])), rfl, fun i A' _ e => by rw [e]; exact up_at h hp, fun i x A' hx e => ?_, fun A' e => ?_⟩⟩
  · subst e
    have lt := (List.getElem?_eq_some_iff.mp hx).1
    have tk' : xs.take (i + 1) = xs.take i ++ [x] := by rw [List.take_succ, hx]; rfl
    have all : ∀ (l : List D), (∀ x ∈ l, x ∈ xs) → ∀ kvs : List (D × D), (∀ p ∈ kvs, isTup p.1 = b) → (∀ p ∈ l.foldl (fun kvs x => dput kvs (kf x) (vf x)) kvs, isTup p.1 = b) ∧ (l.foldl (fun kvs x => dput kvs (kf x) (vf x)) kvs).length ≤ kvs.length + l.length := by
      intro l
      induction l with
      | nil => intro _ kvs hh; exact ⟨hh, Nat.le_refl _⟩
      | cons y l ih =>
        intro hm kvs hh
        obtain ⟨a1, a2⟩ := ih (fun z m => hm z (List.mem_cons_of_mem _ m)) (dput kvs (kf y) (vf y)) (fun p m => by
          rcases mem_dput m with rfl | ⟨m, _⟩
          · exact (hk y (hm y List.mem_cons_self)).2
          · exact hh p m)
        refine ⟨a1, Nat.le_trans a2 ?_⟩
        have := len_dput (kvs := kvs) (k := kf y) (v := vf y)
        rw [List.length_cons]
        omega
    obtain ⟨a1, a2⟩ := all (xs.take i) (fun z m => List.mem_of_mem_take m) [] (fun _ z => nomatch z)
    obtain ⟨k1, k2⟩ := hk x (List.mem_of_getElem? hx)
    refine body x p _ (List.mem_of_getElem? hx) hp _ _ ⟨_, up_same, ?_, ?_, ?_⟩
    · unfold okK
      rw [k1, Bool.true_and, List.all_eq_true]
      intro z mz
      rw [a1 z mz, k2]
      simp
    · rw [List.length_take] at a2
      simp at a2
      omega
    · show _ = up A p (.dic ((xs.take (i + 1)).foldl (fun kvs x => dput kvs (kf x) (vf x)) []))
      rw [up_up, tk', List.foldl_append]
      rfl
  · subst e
    rw [List.take_length]
    exact q p hp
theorem eqvs_all {xs ys : List D} (hx : xs.all plB = true) (hy : ys.all plB = true) : T.eqvs (plTs xs) (plTs ys) = decide (xs = ys) := eqvs_pl xs ys (pls_of hx).1 (pls_of hy).1
theorem mEq_lst {A : AH} {a b : Addr} {xs ys : List D} {neg : Bool} {Q : DQ} (ha : A a = some (.lst xs)) (hb : A b = some (.lst ys)) (hx : xs.all plB = true) (hy : ys.all plB = true) (q : Q (.bl (neg ^^ decide (xs = ys))) A) : mEq neg (.ref a) (.ref b) A Q := by
  unfold mEq
  rw [if_neg (by simp [plB, isPl])]
  show (if isDcB A a then _ else fEqn neg (.ref a) (.ref b) A Q)
  rw [lst_nd ha, if_neg (by simp)]
  obtain ⟨p1, p2⟩ := pls_of hx
  obtain ⟨p3, p4⟩ := pls_of hy
  refine ⟨.lst (plTs xs), .lst (plTs ys), .inl ⟨a, xs, rfl, ha, snaps_pl _ p1⟩, .inl ⟨b, ys, rfl, hb, snaps_pl _ p3⟩, by simp only [T.dep]; omega, by simp only [T.dep]; omega, ?_⟩
  have : T.eqv (.lst (plTs xs)) (.lst (plTs ys)) = decide (xs = ys) := eqvs_all hx hy
  rw [this]
  exact q
theorem mIn_lst {A : AH} {a : Addr} {xs : List D} {x : D} {neg : Bool} {Q : DQ} (ha : A a = some (.lst xs)) (hx : plB x = true) (hy : xs.all plB = true) (q : Q (.bl (neg ^^ decide (x ∈ xs))) A) : mIn neg x (.ref a) A Q := by
  show (if isDcB A a then _ else fInL neg x (.ref a) A Q)
  rw [lst_nd ha, if_neg (by simp)]
  show (match listOf A (.ref a) with | some xs => plB x = true ∧ xs.all plB = true ∧ Q (.bl (neg ^^ decide (x ∈ xs))) A | none => False)
  have : listOf A (.ref a) = some xs := by
    show (match A a with | some (.lst xs) => some xs | _ => none) = some xs
    rw [ha]
  rw [this]
  exact ⟨hx, hy, q⟩
theorem sorted_lst {A : AH} {a : Addr} {xs : List D} {Q : DQ} (ha : A a = some (.lst xs)) (hl : xs.length ≤ SL) (ok : sortOk xs = true) (q : ∀ p, A p = none → Q (.ref p) (up A p (.lst (sortD xs)))) : fSorted [.ref a] A Q := by
  show (match A a with | some (.lst xs) => _ | some (.dic kvs) => _ | some (.fdic _ kvs) => _ | _ => _)
  rw [ha]
  exact ⟨hl, ok, q⟩
theorem sorted_dic {A : AH} {a : Addr} {kvs : List (D × D)} {Q : DQ} (ha : A a = some (.dic kvs)) (ok : sortOk (kvs.map (·.1)) = true) (q : ∀ p, A p = none → Q (.ref p) (up A p (.lst (sortD (kvs.map (·.1)))))) : fSorted [.ref a] A Q := by
  show (match A a with | some (.lst xs) => _ | some (.dic kvs) => _ | some (.fdic _ kvs) => _ | _ => _)
  rw [ha]
  exact ⟨ok, q⟩
theorem mem_sortD {xs : List D} {x : D} : x ∈ sortD xs ↔ x ∈ xs := (sortD_perm xs).mem_iff
/-- two rows of keys with the same keys, each once, are sorted alike -/
theorem sortD_same {xs ys : List D} (hk : ∀ d ∈ xs, isKey d = true) (p : ys.Perm xs) : sortD ys = sortD xs :=
  sortD_uniq hk (sortD_srtd ys) ((sortD_perm ys).trans p)
theorem perm_nodup : ∀ {l m : List D}, l.Nodup → m.Nodup → (∀ x, x ∈ l ↔ x ∈ m) → l.Perm m
  | [], m, _, _, h => by
    cases m with
    | nil => exact List.Perm.refl _
    | cons y m => exact absurd ((h y).mpr List.mem_cons_self) (by simp)
  | x :: l, m, nd, nm, h => by
    rw [List.nodup_cons] at nd
    have hx := (h x).mp List.mem_cons_self
    have ih := perm_nodup nd.2 (nm.erase x) fun y => by
      rw [List.Nodup.mem_erase_iff nm, ← h y]
      constructor
      · intro my
        exact ⟨fun e => nd.1 (by rw [← e]; exact my), List.mem_cons_of_mem _ my⟩
      · rintro ⟨ne, my⟩
        rcases List.mem_cons.mp my with e | my
        · exact absurd e ne
        · exact my
    exact (ih.cons x).trans (List.perm_cons_erase hx).symm
theorem dLc_call {t : DTE} {g : DTG} {tt : DTT} {te : DTE} {vs : List Nat} {σ : DS} {A : AH} {Q : DQ} : dLc (diL t) g tt te vs σ A Q = t σ A fun x A1 => dLc (diL (dC x)) g tt te vs σ A1 Q := rfl
theorem dFor_call {t : DTE} {g : DTG} {tb : DTS} {DD : DE} {σ : DS} {A : AH} : dFor (diL t) g tb DD σ A = t σ A fun x A1 => dFor (diL (dC x)) g tb DD σ A1 := rfl
end DL
set_option Elab.async false
set_option linter.all false
set_option maxRecDepth 100000
set_option maxHeartbeats 1000000
/-! PL3: plain rules: while, dict's setdefault, keys, values, index; same data are equal. -/
namespace DL
open PySem L2
theorem while_of {c : DTT} {tb : DTS} {DD : DE} {σ : DS} {A : AH} (I : Nat → DS → AH → Prop) (m : Nat) (h0 : I m σ A)
    (step : ∀ m σ A, I m σ A → c σ A fun b A1 => if b = true then tb { DD with nx := fun σ' A' => ∃ m', m' < m ∧ I m' σ' A', ct := fun σ' A' => ∃ m', m' < m ∧ I m' σ' A', bk := DD.nx } σ A1 else DD.nx σ A1) : dWhile c tb DD σ A :=
  ⟨I, ⟨m, h0⟩, step⟩
theorem setd_old {A : AH} {a : Addr} {kvs : List (D × D)} {k d d' : D} {Q : DQ} (h : A a = some (.dic kvs)) (ok : okK kvs k = true) (hl : kvs.length < SL) (e : dget kvs k = some d') (q : Q d' A) : fSetd (.ref a) [k, d] A Q := by
  show (match A a with | some (.dic kvs) => okK kvs k = true ∧ kvs.length < SL ∧ (match dget kvs k with | some d' => Q d' A | none => Q d (up A a (.dic (dput kvs k d)))) | _ => False)
  rw [h]
  refine ⟨ok, hl, ?_⟩
  rw [e]
  exact q
theorem setd_new {A : AH} {a : Addr} {kvs : List (D × D)} {k d : D} {Q : DQ} (h : A a = some (.dic kvs)) (ok : okK kvs k = true) (hl : kvs.length < SL) (e : dget kvs k = none) (q : Q d (up A a (.dic (dput kvs k d)))) : fSetd (.ref a) [k, d] A Q := by
  show (match A a with | some (.dic kvs) => okK kvs k = true ∧ kvs.length < SL ∧ (match dget kvs k with | some d' => Q d' A | none => Q d (up A a (.dic (dput kvs k d)))) | _ => False)
  rw [h]
  refine ⟨ok, hl, ?_⟩
  rw [e]
  exact q
theorem index_lst {A : AH} {a : Addr} {xs : List D} {d : D} {Q : DQ} (h : A a = some (.lst xs)) (hd : plB d = true) (hx : xs.all plB = true) (m : d ∈ xs) (q : Q (.int (xs.idxOf d : Nat)) A) : fIndex (.ref a) [d] A Q := by
  show (match A a with | some (.lst ds) => plB d = true ∧ ds.all plB = true ∧ d ∈ ds ∧ Q (.int (ds.idxOf d : Nat)) A | _ => False)
  rw [h]
  exact ⟨hd, hx, m, q⟩
theorem nlen_dic {A : AH} {a : Addr} {kvs : List (D × D)} {Q : DQ} {b : Bool} (h : dicGetD A a = some kvs) (hb : ∀ p ∈ kvs, isTup p.1 = b) (q : Q (.int kvs.length) A) : nLen [.ref a] A Q := by
  show (match dicGetD A a with | some kvs => (∃ b, ∀ p ∈ kvs, isTup p.1 = b) ∧ Q (.int kvs.length) A | none => False)
  rw [h]
  exact ⟨⟨b, hb⟩, q⟩
theorem nlist_dic {A : AH} {a : Addr} {kvs : List (D × D)} {Q : DQ} (h : dicGetD A a = some kvs) (q : ∀ p, A p = none → Q (.ref p) (up A p (.lst (kvs.map (·.1))))) : nList [.ref a] A Q := by
  show (match dicGetD A a with | some kvs => ∀ p, A p = none → Q (.ref p) (up A p (.lst (kvs.map (·.1)))) | none => False)
  rw [h]
  exact q
/-- != and == of two tuples of the same contents, with lists in them -/
theorem mEq_snap {A : AH} {l m : List D} {t : T} {neg : Bool} {Q : DQ} (np : plB (.tup l) = false) (h1 : Snap A (.tup l) t) (h2 : Snap A (.tup m) t) (hd : t.dep ≤ 64) (q : Q (.bl (neg ^^ true)) A) : mEq neg (.tup l) (.tup m) A Q := by
  unfold mEq
  rw [np, Bool.false_and, if_neg (by simp)]
  show fEqn neg (.tup l) (.tup m) A Q
  refine ⟨t, t, h1, h2, hd, hd, ?_⟩
  rw [T.eqv_refl]
  exact q
end DL
set_option Elab.async false
set_option linter.all false
set_option maxRecDepth 100000
set_option maxHeartbeats 4000000
/-! DL23: all(test for x in text) where the test may read the module's globals; the def's table of code objects. -/
namespace DL
open PySem PySem.Spec PyProof.Rows L2 GxR
/-- the element, read over the module's globals: a test of the sign c -/
def EltG (X : Cx) (scope : Scope) (x : Str) (elt : Expr) (pb : Nat → Bool) : Prop :=
  ∀ (cenv : Env) (A' : Around) (E' : Value → Shared → Prop) (c : Nat) (t : Tok) (s₂ : Shared) (m₂ : Str → Option Value), cenv.scope = scope → cenv.globals = mainGlobals → s₂.heap.Ns mainGlobals X.mg → s₂.heap.Ns cenv.locals m₂ → m₂ x = some (.str ⟨#[c]⟩ t) →
    wpAny (model X.prog X.w) A' (eval elt cenv) (fun y s₃ => y = .bool (pb c) ∧ Keeps s₂ s₃) E' s₂
section
variable {X : Cx} {pins : List (Addr × Obj)} {σ : L2.St} {H : Hp} {s : Shared}
/-- x in G, G a text among the globals -/
def inB (g : List Nat) (c : Nat) : Bool := !(Builtin.Str.occurrences ⟨g.toArray⟩ ⟨#[c]⟩ 0 (⟨g.toArray⟩ : Str).length 1).isEmpty
theorem elt_in {scope : Scope} {x y : Str} {g : List Nat} {u : Tok} {p1 p2 p3 : Pos} (hm : X.mg y = some (.str ⟨g.toArray⟩ u)) (hk : scope.kind = .function) (hl : scope.names.lookup x = some .local) (hy : ∀ cenv : Env, cenv.scope = scope → cenv.kindOf y = some .globalImplicit)
    (hd : (x == ("__debug__" : Str)) = false := by decide) (hd2 : (y == ("__debug__" : Str)) = false := by decide) : EltG X scope x (.Compare (.Name x p1) [.In] [.Name y p2] p3) (inB g) := by
  intro cenv A' E' c t s₂ m₂ hs hg hn hl2 hx
  refine wpAny_Compare1 (wpAny_Name (wpAny_loadName_local (by rw [hs]; exact hk) (show cenv.scope.names.lookup x = some .local by rw [hs]; exact hl) hl2 hx ?_) hd)
  refine Calls.Name_function_global (by rw [hs]; exact hk) (hy cenv hs) (Calls.loadGlobal_global (by rw [hg]; exact hn) hm ?_) hd2
  exact PySem.P.in_str ⟨rfl, keeps_refl _⟩
/-- the generator over the signs of a text is made: it stands Ready -/
theorem gen_G {c P : Addr} {elt iter : Expr} {x : Str} {px gpos : Pos} {scope : Scope} {pb : Nat → Bool} {te : TE} {k : Nat} {Q' : Value → Shared → Prop} {R : Str → Hp → Prop}
    (hr : Room k X.A) (TB : TabB X.base X.mg c P) (hcode : X.env.code = .ref c) (S : GenS X.env scope x) (hi : PE X iter te) (hel : EltG X scope x elt pb) (hs : ∀ v, genFold iter X.env v = pure v) (I : Inv X pins σ H s)
    (h : te σ H fun v H1 => ∃ a : Str, v = .str a ∧ TabG H1 P ∧ R a H1) (hQ : ∀ a H1 g s5, R a H1 → Ready X pins σ H1 P a pb g s5 → Q' (.ref g) s5) :
    wpAny (model X.prog X.w) X.A (eval (.GeneratorExp elt [⟨.Name x px, iter, [], 0⟩] scope gpos) X.env) Q' X.xe s := by
  refine wpAny_GeneratorExp_walksQ hr.hd S.co (closure_ok S.free) S.cell S.dot S.loc S.kind (by have := hr.dp; omega) (thn (hi.run pins s σ H _ I h) fun xv s1 ⟨v, H1, I1, r1, q1⟩ => ?_) hs
  obtain ⟨a, rfl, ⟨ps, hP, ht⟩, hR⟩ := q1
  obtain ⟨t, rfl⟩ := _root_.id r1
  refine wpAny_pyIter_str fun o St W hst => ?_
  have hPs : s1.heap.get? P = some { cls := .none, data := .fields ps } := I1.hok P _ hP
  have hP2 : (s1.heap.push o).get? P = some { cls := .none, data := .fields ps } := Heap.get?_push_of_some _ hPs
  have cd : PySem.W.CodeHd (s1.heap.push o) c P := TB.code.keeps fun b u e => Heap.get?_push_of_some _ (I1.bk b u e)
  have lim2 : (s1.heap.push o).NoLimit := I1.nolimit.push o
  have sz2 : (s1.heap.push o).objs.size = s1.heap.objs.size + 1 := Heap.size_push ..
  have ltP : P < s1.heap.objs.size := Heap.lt_size hPs
  have notP : ∀ b u, X.base.get? b = some u → b ≠ P := fun b u e z => by
    have := (I1.bs b u e).2
    rw [z, hP] at this; cases this
  have stP : cStatics ≠ P := fun e => by
    obtain ⟨_, ⟨o', es, ep, ho, hd, _⟩, _⟩ := I1.nolimit
    rw [e, hPs] at ho
    cases ho
    cases hd
  have stL : cStatics < s1.heap.objs.size := let ⟨_, hns, _⟩ := I1.nolimit; hns.lt
  -- what follows the code object, found in the table or made anew
  have next : ∀ (code : Value) (h3 : Heap) (tk : Nat) (ps' : Array Value), Heap.ExtBut P (s1.heap.push o) h3 → s1.heap.objs.size < h3.objs.size → h3.get? P = some { cls := .none, data := .fields ps' } → (∃ more, ps' = ps ++ more) → TriplesOk ps'.toList →
      wpAny (model X.prog X.w) X.A (builtinsFor X.env.globals X.env.builtins) (fun bi s₄ =>
        ∃ Ia fp wr n₀ Pf St₀ pz F, Value.ref s1.heap.objs.size = .ref Ia ∧ (∀ A' : Around, A'.handled = none → Walks X.prog X.w A' Ia fp wr n₀ Pf St₀) ∧ St₀ 0 s₄.heap ∧ (∀ b ∈ fp, b < s₄.heap.objs.size) ∧ s₄.heap.NoLimit ∧ cStatics ∉ wr ∧
          (∀ href : Heap, (∀ b o, s₄.heap.get? b = some o → href.get? b = some o) →
            QuietGen X.prog X.w (genEnv scope (cloFrom X.env.cells scope.names []) s₄.heap.objs.size code bi X.env) x [] elt (List.range s₄.heap.objs.size) wr Pf pz F href) ∧
          (∀ g h₅ tk gs, gs.bare = true → s₄.heap.objs.size < g → h₅.objs.size = g + 1 → (∀ b o, s₄.heap.get? b = some o → h₅.get? b = some o) →
            WalksS X.prog X.w X.A.in4 g (g :: s₄.heap.objs.size :: List.range s₄.heap.objs.size) (s₄.heap.objs.size :: wr) (GenOnlyQ s₄.gens.size) (passing pz n₀ 0).length
              (fun j y => ∃ i, (passing pz n₀ 0)[j]? = some i ∧ F i y) (GenAt X.prog X.w X.A.in4 g s₄.gens.size s₄.heap.objs.size (List.range s₄.heap.objs.size) wr pz n₀ F) →
            GenAt X.prog X.w X.A.in4 g s₄.gens.size s₄.heap.objs.size (List.range s₄.heap.objs.size) wr pz n₀ F 0 { s₄ with gens := s₄.gens.push gs, toks := tk, heap := h₅ } →
            Q' (.ref g) { s₄ with gens := s₄.gens.push gs, toks := tk, heap := h₅ })) X.xe { s1 with heap := h3, toks := tk } := by
    rintro code h3 tk _ hx hlt hP3 ⟨more, rfl⟩ ht3
    obtain ⟨bm, ob, e1, e2, e3, e4, e5, e6, e7, e8⟩ := TB.bm
    have old : ∀ b u, b ≠ P → s1.heap.get? b = some u → h3.get? b = some u := fun b u hb e => hx b u hb (Heap.get?_push_of_some _ e)
    have glob3 : h3.Ns mainGlobals X.mg := ((I1.mod.glob.keeps I1.bk).push o).extBut hx TB.gP
    refine wpAny_builtinsFor (m := X.mg) (by rw [I1.ok.glob]; exact glob3) e1 e2 (old _ _ e4 (I1.bk _ _ e5)) e6 e7 e8 ?_
    refine ⟨s1.heap.objs.size, [s1.heap.objs.size], [s1.heap.objs.size], a.cps.size, SignAt a, St, (fun _ => true), (fun i y => ∃ cc, a.cps[i]? = some cc ∧ y = .bool (pb cc)), rfl, W, ?_, ?_, lim2.extBut hx stP, ?_, fun href hhref => ⟨?_, ?_⟩, ?_⟩
    · refine (W X.A hr.hd).frame _ _ _ hst fun b hb u e => hx b u (fun z => ?_) e
      have z2 : b = s1.heap.objs.size := by simpa using hb
      rw [← z, z2] at ltP
      exact Nat.lt_irrefl _ ltP
    · intro b hb
      have z2 : b = s1.heap.objs.size := by simpa using hb
      rw [z2]; exact hlt
    · intro z
      have z2 : cStatics = s1.heap.objs.size := by simpa using z
      rw [z2] at stL
      exact Nat.lt_irrefl _ stL
    · intro A' E' i v s₂ m₂ hA hPv hn hm hk
      simp only [List.forIn_nil]
      exact wpAny_pure ⟨rfl, keeps_refl _⟩
    · intro A' E' i v s₂ m₂ hA hPv hp hn hm hk
      obtain ⟨cc, u, hcc, rfl⟩ := hPv
      have base2 : ∀ b ob, X.base.get? b = some ob → s₂.heap.get? b = some ob := fun b ob e => by
        have b1 := I1.bk b ob e
        have l1 := Heap.lt_size b1
        have z1 : (b : Nat) < s1.heap.objs.size := l1
        refine hk b (List.mem_range.mpr (Nat.lt_trans l1 hlt)) (fun z => ?_) ob (hhref _ _ (old b ob (notP b ob e) b1))
        have z2 : b = s1.heap.objs.size := by simpa using z
        rw [z2] at l1
        exact Nat.lt_irrefl _ l1
      exact wpAny_mono (hel _ A' E' cc u s₂ m₂ rfl I1.ok.glob (I1.mod.glob.keeps base2) hn hm) (fun y s3 r => ⟨⟨cc, hcc, r.1⟩, r.2⟩) fun _ _ e => e
    · intro g h5 tk5 gs hgb hag hsz5 hk5 W5 hat
      simp only [GxR.passing_true, List.length_range] at W5
      refine hQ a H1 g _ hR ⟨_, _, _, _, _, W5.in4_1, hat, fun j y sj Qj Ej hy hQj => ?_, fun s' hm => ?_⟩
      · obtain ⟨i, hij, cc, hcc, rfl⟩ := hy
        obtain ⟨hj, ej⟩ := List.getElem?_eq_some_iff.mp hij
        rw [List.getElem_range] at ej
        subst ej
        have e9 : a.cps.toList[j]? = some cc := by rw [Array.getElem?_toList]; exact hcc
        have hQ2 : Qj (trF pb a.cps.toList j) sj := hQj
        rw [trF_some e9] at hQ2
        exact wpAny_truthy_bool hQ2
      · have notW : ∀ b u, s1.heap.get? b = some u → b ∉ h3.objs.size :: [s1.heap.objs.size] := fun b u e hb => by
          have l1 := Heap.lt_size e
          have z1 : (b : Nat) < s1.heap.objs.size := l1
          simp only [List.mem_cons, List.not_mem_nil, or_false] at hb
          rcases hb with z | z
          · rw [z] at z1; exact Nat.lt_irrefl _ (Nat.lt_trans z1 hlt)
          · rw [z] at z1; exact Nat.lt_irrefl _ z1
        have J := inv_tab (more := more) (h' := s'.heap) (g' := s'.gens) (d' := s'.drawn) (t' := s'.toks) I1 hP (fun b u hb e => hm.heap b u (notW b u e) (hk5 b u (old b u hb e))) (hm.heap P _ (notW P _ hPs) (hk5 P _ hP3)) (AllBare.movedS (I1.bare.push hgb) hm)
        rw [sh_eta s1 s' hm.os] at J
        exact ⟨upd H1 P (.tbl (ps ++ more)), ⟨⟨ps ++ more, upd_same, ht3⟩, fun b hb => upd_ne hb⟩, J⟩
  refine ⟨lim2, ?_⟩
  cases hf : codeAmong gpos ps.toList with
  | some cv =>
    refine wpAny_genexprCode_hit hcode (cd.code hP2 ht) hf ?_
    exact next cv (s1.heap.push o) s1.toks ps (Heap.ExtBut.refl _ _) (by rw [sz2]; exact Nat.lt_succ_self _) hP2 ⟨#[], by simp⟩ ht
  | none =>
    refine wpAny_genexprCodeX hcode (cd.code hP2 ht) (cd.tab hP2) hf fun c' h' tk hx hge hlt hco' _ htab' _ => ?_
    obtain ⟨o1, vs, f1, tf, fl, tg, inF, tx, tt, op, _, _, _, _, _, _, _, _, _, htr, _⟩ := hco'
    exact next _ h' tk _ hx (Nat.lt_of_lt_of_le (by rw [sz2]; exact Nat.lt_succ_self _) (Nat.le_trans hge (Nat.le_of_lt hlt))) htab'.2 ⟨_, rfl⟩ htr
theorem pe_allG {c P : Addr} {elt iter : Expr} {x : Str} {px p pos gpos : Pos} {scope : Scope} {pb : Nat → Bool} {te : TE} {k : Nat}
    (hr : Room k X.A) (hg : Gl X "all") (hm : X.mg "all" = none) (hb : bootBuiltins "all" = some (.builtin "all")) (TB : TabB X.base X.mg c P) (hcode : X.env.code = .ref c) (S : GenS X.env scope x) (hi : PE X iter te) (hel : EltG X scope x elt pb)
    (hs : ∀ v, genFold iter X.env v = pure v)
    (he : starEach [.GeneratorExp elt [⟨.Name x px, iter, [], 0⟩] scope gpos] X.env = (false, eval (.GeneratorExp elt [⟨.Name x px, iter, [], 0⟩] scope gpos) X.env) :: starEach [] X.env := by rfl) :
    PE X (.Call (.Name "all" p) [.GeneratorExp elt [⟨.Name x px, iter, [], 0⟩] scope gpos] [] pos) (tAllS P pb te) := by
  refine ⟨fun pins s σ H Q I h => wpAny_Call_Name_kw (ld_blt I hg hm hb (PyProof.Rows.callWith_builtin1 ?_ he (by rfl)))⟩
  rw [he]
  show wpAny _ _ (spliced ((false, eval (.GeneratorExp elt [⟨.Name x px, iter, [], 0⟩] scope gpos) X.env) :: backTo pos (starEach [] X.env))) _ _ s
  refine Calls.spliced_cons (gen_G (R := fun a H1 => ∀ H2, Tabbed P H1 H2 → Q (.bl (a.cps.toList.all pb)) H2) hr TB hcode S hi hel hs I h fun a H1 g s5 hR hG => Calls.spliced_nil ?_)
  obtain ⟨fp, wr, G, F, St, W, hst, htr, hI⟩ := hG
  refine call_all_walkS (W.self 0 _ _ _ hst ⟨g, fp, wr, G, _, F, St, _, rfl, W, hst, htr, fun s' hmv => ?_⟩)
  obtain ⟨H2, hT, J⟩ := hI s' hmv
  exact ⟨.bl _, H2, J, rfl, by rw [all_signs a pb]; exact hR H2 hT⟩
end
/-- all(test for x in text): P, the def's table -/
def dAllS (P : Addr) (pb : Nat → Bool) (te : DTE) : DTE := fun σ A Q => te σ A fun x A1 => match x with
  | .str l => A1 P = some .tbl ∧ Q (.bl (l.all pb)) A1
  | _ => False
theorem RelH.tabbed {B : Bs} {A : AH} {H H' : Hp} {P : Addr} (h : RelH B A H) (hp : A P = some .tbl) (t : Tabbed P H H') : RelH B A H' ∧ Grow H H' := by
  obtain ⟨t1, t2⟩ := t
  obtain ⟨ps, e, _⟩ := h P _ hp
  have g : Grow H H' := ⟨fun a xs q => by rw [t2 a (fun z => by rw [z, e] at q; cases q)]; exact q, fun a o xs q => by rw [t2 a (fun z => by rw [z, e] at q; cases q)]; exact q⟩
  refine ⟨fun a o q => ?_, g⟩
  by_cases c : a = P
  · subst c
    rw [hp] at q; cases q
    exact t1
  · exact (h a o q).grow g (t2 a c)
theorem qe_all {X : Cx} {c P : Addr} {elt iter : Expr} {x : Str} {px p pos gpos : Pos} {scope : Scope} {pb : Nat → Bool} {te : DTE} {k : Nat}
    (hr : Room k X.A) (hm : X.mg "all" = none) (TB : TabB X.base X.mg c P) (hcode : X.env.code = .ref c) (hi : QE X iter te) (hel : EltG X scope x elt pb) (S : GenS X.env scope x) (hb : bootBuiltins "all" = some (.builtin "all") := by decide +kernel) (hg : Gl X "all" := by rfl)
    (hs : ∀ v, genFold iter X.env v = pure v := by intro _; rfl)
    (he : starEach [.GeneratorExp elt [⟨.Name x px, iter, [], 0⟩] scope gpos] X.env = (false, eval (.GeneratorExp elt [⟨.Name x px, iter, [], 0⟩] scope gpos) X.env) :: starEach [] X.env := by rfl) :
    QE X (.Call (.Name "all" p) [.GeneratorExp elt [⟨.Name x px, iter, [], 0⟩] scope gpos] [] pos) (dAllS P pb te) := by
  refine imE (pe_allG hr hg hm hb TB hcode S hi hel hs he) ?_
  intro σ H Q ⟨dσ, A, R, hA, hS, q, kp⟩
  refine ⟨dσ, A, _, hA, hS, q, fun d A1 v H1 q1 hA1 rd g1 => ?_⟩
  cases d with
  | str l =>
    obtain ⟨rfl, cx⟩ := rd
    obtain ⟨hp, q1⟩ := q1
    refine ⟨_, rfl, hA1 P _ hp, fun H2 ht => ?_⟩
    obtain ⟨hA2, g2⟩ := hA1.tabbed hp ht
    have e : (⟨l.toArray⟩ : Str).cps.toList = l := by simp
    rw [e]
    exact kp _ _ _ _ q1 hA2 rfl (g1.trans g2)
  | _ => exact q1.elim
end DL
set_option Elab.async false
set_option linter.all false
set_option maxRecDepth 100000
set_option maxHeartbeats 4000000
/-! DL24: a def whose code object is known; a law's head with such a def's table. -/
namespace DL
open PySem PySem.Spec PyProof.Rows L2
/-- a text among the globals -/
theorem elt_inG {X : Cx} {scope : Scope} {x y : Str} {g : List Nat} {p1 p2 p3 : Pos} (hm : GlobD X.K X.mg y (.str g)) (hk : scope.kind = .function := by rfl) (hl : scope.names.lookup x = some .local := by rfl) (hy : ∀ cenv : Env, cenv.scope = scope → cenv.kindOf y = some .globalImplicit := by intro cenv h; unfold Env.kindOf; rw [h]; rfl)
    (hd : (x == ("__debug__" : Str)) = false := by decide) (hd2 : (y == ("__debug__" : Str)) = false := by decide) : EltG X scope x (.Compare (.Name x p1) [.In] [.Name y p2] p3) (inB g) := by
  obtain ⟨u, v, e, r, rd⟩ := hm
  obtain ⟨rfl, _⟩ := rd fun _ => none
  obtain ⟨t, rfl⟩ := r
  exact elt_in e hk hl hy hd hd2
/-- THE RULE for a def that raises nothing, its code object at c -/
theorem fn_okC {P : Program} {w : World} {K : PySem.W.Frag} {mg : Str → Option Value} {base : Heap} {x qual : Str} {st : Stmt} {f : Addr} {oc : Value} {od an : Option Addr} {osl : Array (Option Value)} {kV doc pm cdv ct : Value} {N ps : List Str} {k : Nat} {sp : DSp} {t : DTS}
    (lk : K.lookup f = some ⟨oc, od, .func (PySem.W.fnOf x qual (defArgs st) (defBody st) (defScope st) .none kV doc pm an cdv ct), osl⟩) (hcd : PySem.W.codeIn K cdv qual = true) (S : FnScope N ps (defScope st))
    (d : ∀ (X : Cx), (∃ A outer s H E, X = (cxOf CX0 P w K mg base N qual (defScope st) f cdv A outer s H E).nox) → Room k X.A → QSs X (defBody st) t)
    (q : ∀ ds A R E, ds.length = ps.length → sp ds A R E → t { nx := fun _ A' => R .non A', rt := R } (ds.map some ++ List.replicate (N.length - ds.length) none) A) :
    FnOk P w K mg base CX0 (k + 1) f (PySem.W.fnOf x qual (defArgs st) (defBody st) (defScope st) .none kV doc pm an cdv ct) ps (lSp ⟨P, w, K⟩ ps.length sp) := by
  refine fn_of lk hcd S (fun vs H Q E h => ?_) fun A outer s H vs Q E hr h => ?_
  · obtain ⟨ds, A, R, RE, hA, rl, hl, _⟩ := h
    rw [← rl.length, hl]
  · obtain ⟨ds, A1, R, RE, hA, rl, hl, hs, k1, _⟩ := h
    refine ⟨_, (d _ ⟨A, outer, s, H, E, rfl⟩ hr).nox, ds.map some ++ List.replicate (N.length - ds.length) none, A1, _, hA, ?_, q ds A1 R RE hl hs, ⟨fun dσ A' σ H' hn hA' _ g => k1 _ _ _ _ hn hA' rfl g, k1, fun _ _ _ _ z => z.elim, fun _ _ _ _ z => z.elim⟩⟩
    have e := rl.length
    refine ⟨by unfold L2.start; simp [e], fun i d hi => ?_⟩
    by_cases c : i < ds.length
    · rw [List.getElem?_append_left (by simpa using c), List.getElem?_map] at hi
      cases e2 : ds[i]? with
      | none => rw [e2] at hi; cases hi
      | some d' =>
        rw [e2] at hi; cases hi
        obtain ⟨v, hv, rv⟩ := rl.get e2
        refine ⟨v, ?_, rv⟩
        unfold L2.start
        rw [List.getElem?_append_left (by simpa [← e] using c), List.getElem?_map, hv]; rfl
    · rw [List.getElem?_append_right (by simpa using c), List.getElem?_replicate] at hi
      split at hi <;> cases hi
/-- the script: a list that nobody writes, or a list -/
def Scr (A : AH) (d : D) (ns : List Int) : Prop := d = .cl (ns.map .int) ∨ ∃ a, d = .ref a ∧ A a = some (.lst (ns.map .int))
/-- a law, the table at P -/
def sp_lawT (P : Addr) : DSp := fun ds A R _ => ∃ ns d, ds = [d] ∧ Scr A d ns ∧ ns.length ≤ 63 ∧ A P = some .tbl ∧ ∀ A', R (.bl true) A'
theorem intsRel {K : PySem.W.Frag} {H : Hp} : ∀ l : List Int, RelL K H (l.map D.int) (l.map V.int)
  | [] => rfl
  | i :: l => ⟨_, _, rfl, rfl, intsRel l⟩
theorem law_spT {P : Program} {w : World} {K : PySem.W.Frag} {H : Hp} {a T : Addr} {ns : List Int} (hl : ns.length ≤ 63) (hT : H T = some (.tbl #[])) (hS : SqL K H a (ns.map V.int)) : lSp ⟨P, w, K⟩ 1 (sp_lawT T) [.ref a] H (fun v _ => v = .bl true) fun _ _ _ => False := by
  have tt : RelO ⟨P, w, K⟩ H T .tbl := ⟨#[], hT, trivial⟩
  have cst : CstAt K H a (ns.map V.int) → lSp ⟨P, w, K⟩ 1 (sp_lawT T) [.ref a] H (fun v _ => v = .bl true) fun _ _ _ => False := fun hc => by
    refine ⟨[.cl (ns.map .int)], fun b => if b = T then some .tbl else none, fun d _ => d = .bl true, noX, fun b o e => ?_, ⟨_, _, rfl, ⟨a, _, rfl, hc, intsRel ns⟩, rfl⟩, rfl, ⟨ns, _, rfl, .inl rfl, hl, if_pos rfl, fun _ => rfl⟩, fun d A' v H' h _ rd _ => by subst h; exact rd, fun _ _ _ _ _ z => z.elim⟩
    have e : (if b = T then some AO.tbl else none) = some o := e
    by_cases c : b = T
    · rw [if_pos c] at e; cases e; subst c; exact tt
    · rw [if_neg c] at e; cases e
  rcases hS with (h | ⟨o, h⟩) | h
  · have ne : a ≠ T := fun e => by rw [e, hT] at h; cases h
    refine ⟨[.ref a], fun b => if b = T then some .tbl else if b = a then some (.lst (ns.map .int)) else none, fun d _ => d = .bl true, noX, fun b o e => ?_, ⟨_, _, rfl, rfl, rfl⟩, rfl, ⟨ns, _, rfl, .inr ⟨a, rfl, by show (if a = T then some AO.tbl else if a = a then some (AO.lst (ns.map .int)) else none) = _; rw [if_neg ne, if_pos rfl]⟩, hl, if_pos rfl, fun _ => rfl⟩, fun d A' v H' h _ rd _ => by subst h; exact rd, fun _ _ _ _ _ z => z.elim⟩
    have e : (if b = T then some AO.tbl else if b = a then some (AO.lst (ns.map .int)) else none) = some o := e
    by_cases c : b = T
    · rw [if_pos c] at e; cases e; subst c; exact tt
    · rw [if_neg c] at e
      by_cases c2 : b = a
      · rw [if_pos c2] at e; cases e; subst c2; exact ⟨_, h, intsRel ns⟩
      · rw [if_neg c2] at e; cases e
  · exact cst (.inl ⟨o, h⟩)
  · exact cst (.inr h)
/-- the head: the table of the def named t -/
theorem walkT {l : PySem.W.OpenLaw} {q : Program} {loose : List Str} {XP : (Str → Option Value) → Heap → Prop} {YP : World → Heap → Prop} {d : DefRec} {K : Params → PySem.W.Frag} {k : Nat} {x t : Str} (hn : l.most = some 63) (hdf : d.params.defaults = []) (hr : Room k callerA)
    (hY : ∀ (w : World) (h : Heap), YP w h → (K w.params).In h) (hno : ∀ p : Params, PySem.W.noTabs (K p) = true) (hrec : ((recsOf q).any fun e => e.name == t) = true)
    (F : ∀ (w : World) (mg : Str → Option Value) (fa : Addr) (h : Heap), (K w.params).In h → h.Ns mainGlobals mg → mg d.name = some (.ref fa) → ∀ c P : Addr, (∃ (a : Addr) (o : Obj) (fd : FuncData), mg t = some (.ref a) ∧ h.get? a = some o ∧ o.data = .func fd ∧ fd.code = .ref c) →
      ∃ fd : FuncData, (∀ (s : Shared) (u : Value), BindsTo s fd ⟨[u], []⟩ [(x, u)]) ∧ ∀ base : Heap, (K w.params).In base → base.Ns mainGlobals mg → GxR.TabB base mg c P → FnOk l.prog w (K w.params) mg base CX0 k fa fd [x] (lSp ⟨l.prog, w, K w.params⟩ 1 (sp_lawT P))) :
    PySem.W.WalkO q loose XP YP l.row.toRowW d [] (fun f vs => PySem.call f vs) := by
  refine Att.attach_callB hn hdf fun w s₀ s₁ mg mb fa o pm cd doc a vs ns G Y ho hd hcd hmg hobj hints hlen hbits hg => ?_
  have KX := hY w _ Y
  obtain ⟨r, mr, er⟩ := List.any_eq_true.mp hrec
  have er : r.name = t := beq_iff_eq.mp er
  obtain ⟨ta, to, tf, c, P, h1, h2, h3, h4, h5, h6⟩ := G.T.tab r mr
  rw [er] at h1
  have hP : s₁.heap.get? P = some (PySem.W.tabObj #[]) := by
    obtain ⟨_, g5⟩ := id h6
    exact g5
  have nP : (K w.params).lookup P = none := by
    cases e : (K w.params).lookup P with
    | none => rfl
    | some u =>
      have z := KX _ _ e
      rw [hP] at z
      cases z
      have := List.all_eq_true.mp (hno w.params) (P, _) (PySem.W.mem_of_lookupK e)
      exact absurd (show false = true from this) Bool.false_ne_true
  obtain ⟨fd, hb, hF⟩ := F w mg fa _ KX G.T.g hmg c P ⟨ta, to, tf, h1, h2, h3, h4⟩
  refine LamX.law_callTs (cs := [(c, P)]) KX G.T.g G.T.b G.T.builtins G.T.nolimit hg (fun p m => ?_) (fun p m => ?_) (fun p m => ?_) G.T.bmain hobj hints (Nat.le_trans hlen (by decide)) hr (fun base k1 k2 k3 => hF base k1 k2 ?_) hb (fun H hH hS => law_spT hlen (hH (c, P) (by simp)) hS) fun _ _ _ z => z
  · rw [List.mem_singleton.mp m]; exact hP
  · rw [List.mem_singleton.mp m]; exact nP
  · rw [List.mem_singleton.mp m]; exact PySem.W.CodeHd.of h5 h6
  · have := k3 (c, P) (by simp)
    exact ⟨this.code, this.bm, this.gP⟩
end DL
set_option Elab.async false
set_option linter.all false
set_option maxRecDepth 100000
set_option maxHeartbeats 4000000
/-! DX1: what leaves a def as an exception: calls, methods, raise, defs that raise. -/
namespace DL
open PySem PySem.Spec PyProof.Rows L2
/-- what is wanted of an exception: its class, its fields, the slots, the heap -/
abbrev DW := Value → List (String × D) → DS → AH → Prop
def lW (B : Bs) (W : DW) : WX := fun cls d σ H => ∃ dσ A fs, W cls fs dσ A ∧ RelH B A H ∧ RelS B.K H dσ σ ∧ XF B.K H d fs
abbrev TakesD (X : Cx) (W : DW) : Prop := Takes X (lW X.b W)
theorem inv_grow {X : Cx} {pins : List (Addr × Obj)} {σ : L2.St} {H : Hp} {s : Shared} (I : Inv X pins σ H s) : Grow X.H_0 H := ⟨I.base.tups, fun a o xs h => I.base.frzs a o _ h⟩
/-- from what a def wants of exceptions to what its body's readings tell -/
theorem takes_kpx {X : Cx} {RE : DX} {E : XK} (k : KpX X.b X.H_0 RE E) (t : Takes X (fun cls d _ H => E cls d H)) : TakesD X (fun cls fs _ A => RE cls fs A) := by
  rintro u s' ⟨a, B, sI, pins, σ, H, cls, d, e, I, nb, up, sky, na, os, ag, dσ, A, fs, w, hA, hS, xf⟩
  exact t u s' ⟨a, B, sI, pins, σ, H, cls, d, e, I, nb, up, sky, na, os, ag, k cls fs A d H w hA xf (inv_grow I)⟩
/-- f(..), which may raise -/
def dCalX (W : DW) (sp : DSp) (t : DTA) : DTE := fun σ A Q => t σ A fun ds A1 => sp ds A1 Q fun cls fs A' => W cls fs σ A'
/-- o.m(..), which may raise -/
def dMetX (W : DW) (C : Addr) (m : String) (sp : DSp) (to : DTE) (t : DTA) : DTE := fun σ A Q => to σ A fun x A1 => match x with
  | .ref a => match A1 a with
    | some (.ins C' fs) => C' = C ∧ getS m fs = none ∧ t σ A1 fun ds A2 => sp (.ref a :: ds) A2 Q fun cls fs A' => W cls fs σ A'
    | _ => False
  | _ => False
/-- an expression that makes an exception -/
abbrev DTM := DS → AH → (Value → List (String × D) → AH → Prop) → Prop
def lM (B : Bs) (t : DTM) : L2.St → Hp → XK → Prop := fun σ H Q => ∃ dσ A R, RelH B A H ∧ RelS B.K H dσ σ ∧ t dσ A R ∧ KpX B H R Q
abbrev QM (X : Cx) (e : Expr) (t : DTM) : Prop := PMk X e (lM X.b t)
def dRaise (W : DW) (t : DTM) : DTS := fun _ σ A => t σ A fun cls fs A' => W cls fs σ A'
section
variable {X : Cx} {W : DW} {k n : Nat} {f C : Addr} {fd : FuncData} {ps : List Str} {sp : DSp} {x : Str} {p pos apos : Pos} {e o : Expr} {es : List Expr} {to : DTE} {t : DTA}
theorem lsp_x {B : Bs} {H : Hp} {A : AH} {dσ : DS} {σ : L2.St} {ds : List D} {vs : List V} {R : DQ} {Q : VK} (hA : RelH B A H) (hS : RelS B.K H dσ σ) (r : RelL B.K H ds vs) (hl : ds.length = n) (q : sp ds A R fun cls fs A' => W cls fs dσ A') (k : Kp B H R Q) :
    lSp B n sp vs H Q (WE (lW B W) σ) := ⟨ds, A, R, _, hA, r, hl, q, k, fun cls fs A' d H' w hA' xf g => ⟨dσ, A', fs, w, hA', hS.grow g, xf⟩⟩
theorem calX_t {B : Bs} {m : Nat} (hn : m = n) : ∀ σ H Q, lE B (dCalX W sp t) σ H Q → tCallS (lSp B n sp) (WE (lW B W)) (lA B m t) σ H Q := by
  intro σ H Q ⟨dσ, A, R, hA, hS, q, k⟩
  exact ⟨dσ, A, _, hA, hS, q, fun ds A1 vs H1 q1 l1 hA1 rl g1 => lsp_x hA1 (hS.grow g1) rl (l1.trans hn) q1 (k.from g1)⟩
theorem qe_callX (F : FnOk X.prog X.w X.K X.mg X.base (L2.CX X.prog X.w) k f fd ps (lSp X.b n sp)) (tk : TakesD X W) (hr : Room k X.A) (hm : X.mg x = some (.ref f)) (hk : PySem.W.keepIn X.K (.ref f) = true) (hb : Binds X.K fd ps []) (ha : QA X (e :: es) t) (hn : (e :: es).length = n := by rfl) (hg : Gl X x := by rfl)
    (hdb : (x == ("__debug__" : Str)) = false := by decide) (he : starEach (e :: es) X.env = (false, eval e X.env) :: starEach es X.env := by rfl) (hpl : (backTo pos (starEach es X.env)).any (·.1) = false := by rfl) : QE X (.Call (.Name x p) (e :: es) [] pos) (dCalX W sp t) :=
  imE (pe_callS (E := WE (lW X.b W)) F hr hg hm hk hb (passAt tk) ha hdb he hpl) (calX_t hn)
/-- o.m(e, ..), the wish by the slots -/
theorem qe_methX (m : String) {pl : Sem Bool} (c : Cls X.K C) (hm : Meth X.K C (PySem.Str.ofString m) f) (F : FnOk X.prog X.w X.K X.mg X.base (L2.CX X.prog X.w) k f fd ps (lSp X.b n sp)) (tk : TakesD X W) (hr : Room k X.A) (hb : Binds X.K fd ps []) (he : QE X o to) (ha : QA X (e :: es) t) (hn : (e :: es).length + 1 = n := by rfl)
    (hst : starEach (e :: es) X.env = (false, eval e X.env) :: starEach es X.env := by rfl) (hpl : (backTo pos (starEach es X.env)).any (·.1) = false := by rfl)
    (ht : eval (.Call (.Attribute o (PySem.Str.ofString m) apos) (e :: es) [] pos) X.env = (do
      let ov ← eval o X.env
      standAt apos.atName
      let (f, first) ← holding [ov] (getMethod ov (PySem.Str.ofString m) pl)
      callWith pos f first (backTo pos (starEach (e :: es) X.env)) (backToKw pos (keywordEach [] X.env))) := by rfl) :
    QE X (.Call (.Attribute o (PySem.Str.ofString m) apos) (e :: es) [] pos) (dMetX W C m sp to t) := by
  refine ⟨fun pins s σ H Q I h => ?_⟩
  obtain ⟨dσ, A, R, hA, hS, q, kk⟩ := h
  refine PySem.W.methodCall_KW (pl := pl) (thn (he.run pins s σ H _ I ⟨dσ, A, _, hA, hS, q, Kp.id⟩) fun u s1 hx => ?_) ht
  obtain ⟨v, H1, I1, rv, d, A1, q1, hA1, rd, g1⟩ := hx
  cases d with
  | ref a =>
    cases rd
    obtain rfl : u = Value.ref a := rv
    revert q1
    show (match A1 a with | some (.ins C' fs) => C' = C ∧ getS m fs = none ∧ t dσ A1 (fun ds A2 => sp (.ref a :: ds) A2 R fun cls fs A' => W cls fs dσ A') | _ => False) → _
    split
    · rename_i C' fs hq
      rintro ⟨rfl, hno, q1⟩
      obtain ⟨dx, vs, e1, rf⟩ := hA1 _ _ hq
      refine getmeth_ok I1 e1 c hm (rf.no hno) ?_
      refine PySem.W.callWith_K (first := [.ref a]) (h₀ := X.base) I.ok.mod.kin hm.kp (thn (ha.run pos pins s1 σ H1 (fun vs H2 => lSp X.b n sp (V.ref a :: vs) H2 Q (WE (lW X.b W) σ)) I1 ⟨dσ, A1, _, hA1, hS.grow g1, q1, fun ds A2 us H2 q2 l2 hA2 rl g2 => ?_⟩) fun us s2 hv => ?_) hst hpl
      · exact lsp_x hA2 (hS.grow (g1.trans g2)) (RelL.cons (d := .ref a) rfl rl) (by simp only [List.length_cons, l2]; exact hn) q2 (kk.from (g1.trans g2))
      · obtain ⟨vs2, H2, I2, r2, q3⟩ := hv
        exact ⟨I2.kIn, run_fnS (us := .ref a :: us) (vs := .ref a :: vs2) (E := WE (lW X.b W)) F hr hb (passAt tk σ) I2 (.cons rfl r2) q3⟩
    · exact fun z => z.elim
  | _ => exact q1.elim
theorem qe_methX0 (m : String) {pl : Sem Bool} (c : Cls X.K C) (hm : Meth X.K C (PySem.Str.ofString m) f) (F : FnOk X.prog X.w X.K X.mg X.base (L2.CX X.prog X.w) k f fd ps (lSp X.b 1 sp)) (tk : TakesD X W) (hr : Room k X.A) (hb : Binds X.K fd ps []) (he : QE X o to)
    (ht : eval (.Call (.Attribute o (PySem.Str.ofString m) apos) [] [] pos) X.env = (do
      let ov ← eval o X.env
      standAt apos.atName
      let (f, first) ← holding [ov] (getMethod ov (PySem.Str.ofString m) pl)
      callWith pos f first (backTo pos (starEach [] X.env)) (backToKw pos (keywordEach [] X.env))) := by rfl) :
    QE X (.Call (.Attribute o (PySem.Str.ofString m) apos) [] [] pos) (dMetX W C m sp to dNil) := by
  refine ⟨fun pins s σ H Q I h => ?_⟩
  obtain ⟨dσ, A, R, hA, hS, q, kk⟩ := h
  refine PySem.W.methodCall_KW (pl := pl) (thn (he.run pins s σ H _ I ⟨dσ, A, _, hA, hS, q, Kp.id⟩) fun u s1 hx => ?_) ht
  obtain ⟨v, H1, I1, rv, d, A1, q1, hA1, rd, g1⟩ := hx
  cases d with
  | ref a =>
    cases rd
    obtain rfl : u = Value.ref a := rv
    revert q1
    show (match A1 a with | some (.ins C' fs) => C' = C ∧ getS m fs = none ∧ sp [.ref a] A1 R (fun cls fs A' => W cls fs dσ A') | _ => False) → _
    split
    · rename_i C' fs hq
      rintro ⟨rfl, hno, q1⟩
      obtain ⟨dx, vs, e1, rf⟩ := hA1 _ _ hq
      refine getmeth_ok I1 e1 c hm (rf.no hno) ?_
      exact PySem.W.callWith_K0 (first := [.ref a]) I1.kIn hm.kp (run_fnS (us := [.ref a]) (vs := [.ref a]) (E := WE (lW X.b W)) F hr hb (passAt tk σ) I1 (.cons rfl .nil) (lsp_x hA1 (hS.grow g1) (RelL.cons (d := .ref a) rfl RelL.nil) rfl q1 (kk.from g1)))
    · exact fun z => z.elim
  | _ => exact q1.elim
theorem qs_raise {tm : DTM} (hc : X.calm = true) (tk : TakesD X W) (he : QM X e tm) : QS X (.Raise (some e) none pos) (dRaise W tm) := by
  refine imS (ps_raise hc tk he) ?_
  intro D σ H ⟨dσ, A, DD, hA, hS, q, k⟩
  exact ⟨dσ, A, _, hA, hS, q, fun cls fs A' d H' w hA' xf g => ⟨dσ, A', fs, w, hA', hS.grow g, xf⟩⟩
end
/-- THE RULE for a def that may raise -/
theorem fn_okX {P : Program} {w : World} {K : PySem.W.Frag} {mg : Str → Option Value} {base : Heap} {x qual : Str} {st : Stmt} {f : Addr} {fd : FuncData} {N ps : List Str} {k : Nat} {sp : DSp} {t : DW → DTS} (F : Fun K x qual st f fd) (S : FnScope N ps (defScope st))
    (d : ∀ (X : Cx) (W : DW), (∃ cdv A outer s H E, X = cxOf (L2.CX P w) P w K mg base N qual (defScope st) f cdv A outer s H E) → TakesD X W → PassesOwn (model X.prog X.w) X.A X.env X.xe → Room k X.A → QSs X (defBody st) (t W))
    (q : ∀ ds A R E, ds.length = ps.length → sp ds A R E → t (fun cls fs _ A' => E cls fs A') { nx := fun _ A' => R .non A', rt := R } (ds.map some ++ List.replicate (N.length - ds.length) none) A) :
    FnOk P w K mg base (L2.CX P w) (k + 1) f fd ps (lSp ⟨P, w, K⟩ ps.length sp) := by
  refine F.okX S (fun vs H Q E h => ?_) (fun cdv A outer s H vs Q E hr h => ?_)
  · obtain ⟨ds, A, R, RE, hA, rl, hl, _⟩ := h
    rw [← rl.length, hl]
  · obtain ⟨ds, A1, R, RE, hA, rl, hl, hs, k1, k2⟩ := h
    have tk : TakesD (cxOf (L2.CX P w) P w K mg base N qual (defScope st) f cdv A outer s H E) (fun cls fs _ A' => RE cls fs A') := takes_kpx k2 (takes_of rfl rfl rfl rfl)
    refine ⟨_, d _ _ ⟨cdv, A, outer, s, H, E, rfl⟩ tk (passes_of rfl) hr, ds.map some ++ List.replicate (N.length - ds.length) none, A1, _, hA, ?_, q ds A1 R RE hl hs, ⟨fun dσ A' σ H' hn hA' _ g => k1 _ _ _ _ hn hA' rfl g, k1, fun _ _ _ _ z => z.elim, fun _ _ _ _ z => z.elim⟩⟩
    have e := rl.length
    refine ⟨by unfold L2.start; simp [e], fun i d hi => ?_⟩
    by_cases c : i < ds.length
    · rw [List.getElem?_append_left (by simpa using c), List.getElem?_map] at hi
      cases e2 : ds[i]? with
      | none => rw [e2] at hi; cases hi
      | some d' =>
        rw [e2] at hi; cases hi
        obtain ⟨v, hv, rv⟩ := rl.get e2
        refine ⟨v, ?_, rv⟩
        unfold L2.start
        rw [List.getElem?_append_left (by simpa [← e] using c), List.getElem?_map, hv]; rfl
    · rw [List.getElem?_append_right (by simpa using c), List.getElem?_replicate] at hi
      split at hi <;> cases hi
end DL
set_option Elab.async false
set_option linter.all false
set_option maxRecDepth 100000
set_option maxHeartbeats 4000000
/-! DX2: an own exception class whose __init__ begins with super().__init__(text). -/
namespace DL
open PySem PySem.Spec PyProof.Rows L2
/-- the context of such an __init__ -/
def cxErr (P : Program) (w : World) (K : PySem.W.Frag) (mg : Str → Option Value) (base : Heap) (N : List Str) (qual : Str) (scope : Scope) (f cda cc : Addr) (A : Around) (outer : List Env) (s : Shared) (H : Hp) : Cx where
  prog := P
  w := w
  K := K
  mg := mg
  base := base
  A := A.deeper (PySem.W.ksEnv qual scope s.heap.objs.size f (.ref cda) cc)
  N := N
  s_0 := s
  H_0 := H
  env := PySem.W.ksEnv qual scope s.heap.objs.size f (.ref cda) cc
  outer := outer
  stack := PySem.W.ksEnv qual scope s.heap.objs.size f (.ref cda) cc :: outer
  ex := []
  calm := true
  fn := fun _ => false
  pn := []
  xe := fun _ _ => False
/-- its scope -/
structure ErrScope (ps : List Str) (sc : Scope) : Prop where
  kind : sc.kind = .function
  co : sc.isCoroutine = false
  gen : sc.isGenerator = false
  nd : ps.Nodup
  par : ∀ x ∈ ps, sc.names.lookup x = some .local
  nocell : ∀ y ∈ sc.names, y.2 ≠ .cell
  free : ∀ y ∈ sc.names, y.2 = .free → y.1 = "__class__"
  sup : sc.names.lookup ("super" : Str) = some .globalImplicit
  cl : sc.names.lookup ("__class__" : Str) = some .free
theorem lookup_nd : ∀ {l : List (Str × Value)} {x : Str} {u : Value}, (l.map (·.1)).Nodup → (x, u) ∈ l → l.lookup x = some u
  | [], _, _, _, h => by cases h
  | (y, v) :: l, x, u, hn, h => by
    rw [List.map_cons, List.nodup_cons] at hn
    rcases List.mem_cons.mp h with e | h
    · cases e; simp [List.lookup]
    · have ne : x ≠ y := fun e => hn.1 (by rw [← e]; exact List.mem_map.mpr ⟨_, h, rfl⟩)
      rw [List.lookup_cons, beq_eq_false_iff_ne.mpr ne]
      exact lookup_nd hn.2 h
theorem zip_keys : ∀ {ps : List Str} {us : List Value}, us.length = ps.length → (ps.zip us).map (·.1) = ps
  | [], [], _ => rfl
  | [], _ :: _, h => by simp at h
  | _ :: _, [], h => by simp at h
  | p :: ps, u :: us, h => by rw [List.zip_cons_cons, List.map_cons, zip_keys (by simpa using h)]
theorem zip_mem : ∀ {ps : List Str} {us : List Value} {i : Nat} {x : Str} {u : Value}, ps[i]? = some x → us[i]? = some u → (x, u) ∈ ps.zip us
  | [], _, i, _, _, h, _ => by simp at h
  | _ :: _, [], i, _, _, _, h => by simp at h
  | p :: ps, v :: us, 0, x, u, h1, h2 => by
    simp at h1 h2; subst h1; subst h2; exact List.mem_cons_self
  | p :: ps, v :: us, i + 1, x, u, h1, h2 => List.mem_cons_of_mem _ (zip_mem (i := i) (by simpa using h1) (by simpa using h2))
theorem inv_err {P : Program} {w : World} {K : PySem.W.Frag} {mg : Str → Option Value} {base : Heap} {ps : List Str} {qual : Str} {scope : Scope} {f cda cc : Addr} {A : Around} {outer : List Env} {s : Shared} {H : Hp} {us : List Value} {vs : List V} {h1 : Heap} {tk : Nat} {v : Option Value}
    (S : ErrScope ps scope) (hd : A.handled = none) (e0 : Env0 P w K mg base A outer s H) (hl : vs.length = ps.length) (r : Vals vs us) (hc : base.IsCell cc v)
    (hns : h1.Ns s.heap.objs.size (fun x => (ps.zip us).reverse.lookup x)) (hk : ∀ b o, s.heap.get? b = some o → h1.get? b = some o) :
    Inv (cxErr P w K mg base ps qual scope f cda cc A outer s H) [] (vs.map some) H { s with heap := h1, toks := tk } := by
  have noA : ∀ b : Addr, b ∉ (cxErr P w K mg base ps qual scope f cda cc A outer s H).ex := fun b z => absurd (show b ∈ ([] : List Addr) from z) (by simp)
  have cl1 : ∀ {x : Str} {c : Addr}, (cxErr P w K mg base ps qual scope f cda cc A outer s H).env.cells.lookup x = some c → x = "__class__" ∧ c = cc := fun {x c} e => by
    have e : List.lookup x [(("__class__" : Str), cc)] = some c := e
    rw [List.lookup_cons] at e
    split at e
    · rename_i q
      cases e
      exact ⟨by simpa using q, rfl⟩
    · cases e
  obtain ⟨oc, hoc, hod⟩ := hc
  have cN : H cc = none := (e0.bs cc oc hoc).2
  have cS : s.heap.get? cc = some oc := (e0.bs cc oc hoc).1
  refine ⟨⟨e0.mod, S.kind, rfl, rfl, Nat.le_refl _, fun y z c e1 e2 => ?_, fun y hy => ?_, fun y c z _ => ?_, fun _ => hd, Around.frames_deeper e0.frames, .inr ⟨rfl, rfl⟩, fun b z => absurd z (noA b), e0.bs, e0.bsz, fun b _ _ => noA b, fun b z => absurd z (noA b), e0.funs, e0.frf⟩,
    rfl, e0.bare, Un.kept hk, ⟨_, hns, fun i y v e1 e2 e3 => ?_⟩, fun y c e => ?_, e0.hok.fresh (Nat.le_refl _), fun y c e => ?_, fun p hp => absurd (show p ∈ ([] : List (Addr × Obj)) from hp) (by simp), e0.hok.kept hk, ?_⟩
  · rw [(cl1 e1).1, (cl1 e2).1]
  · have hy : scope.names.lookup y = some .cell ∨ scope.names.lookup y = some .free := hy
    rcases hy with hy | hy
    · exact absurd rfl (S.nocell _ (PySem.mem_of_lookup hy))
    · have e := S.free _ (PySem.mem_of_lookup hy) rfl
      have e : y = "__class__" := e
      subst e
      exact ⟨cc, rfl⟩
  · exact absurd (show false = true from z) Bool.false_ne_true
  · rw [List.getElem?_map] at e2
    cases q : vs[i]? with
    | none => rw [q] at e2; cases e2
    | some v' =>
      rw [q] at e2; cases e2
      obtain ⟨u, hu, rv⟩ := r.get q
      refine ⟨u, rv, .inl ⟨S.par y (List.mem_of_getElem? e1), ?_⟩⟩
      have hul : us.length = ps.length := r.length.symm.trans hl
      refine lookup_nd ?_ (List.mem_reverse.mpr (zip_mem e1 hu))
      rw [List.map_reverse, zip_keys hul]
      exact List.pairwise_reverse.mpr (S.nd.imp fun h e => h e.symm)
  · rw [(cl1 e).2]; exact ⟨_, oc, hk _ _ cS, hod⟩
  · rw [(cl1 e).2]; exact cN
  · rw [List.length_map]; exact hl
/-- the call of super().__init__ as it was bound -/
theorem mw_call {X : Cx} {pins : List (Addr × Obj)} {σ : L2.St} {H : Hp} {s : Shared} {a C u : Addr} {us : List Value} {Q : Value → Shared → Prop} {A : Around} {E : Value → Shared → Prop} (T : OexC X.K C) (I : Inv X pins σ H s) (e : H a = some (exo a C none)) (hu : s.heap.get? u = some (PySem.W.kxs_mw "ValueError.__init__" a)) (hl : us.length ≤ sizeLine)
    (h : ∀ s', Inv X pins σ H s' → Q .none s') : wpAny (model X.prog X.w) A (call (.ref u) us) Q E s := by
  obtain ⟨nm, q, N, bs, bm, sn, sub, ab, col, dd, k0, k1, k2, k3, k5, hC, hbm⟩ := T.cls
  have hCs := I.kIn _ _ hC
  obtain ⟨t1, ho⟩ := exo_at I.hok e
  have fin : ∀ h' t2, (∀ b o, b ≠ a → s.heap.get? b = some o → h'.get? b = some o) → h'.get? a = some (PySem.W.excRec (.ref C) t2 none .none .none (.bool false)) → Q .none { s with heap := h' } := fun h' t2 k hx => by
    have J := I.write (t' := s.toks) (x := a) (e := a) (o := exo a C none) (by rw [e]; exact True.intro) (.inl rfl) k ⟨_, hx⟩ (exo_ok hx)
    have eu : upd H a (exo a C none) = H := by
      funext b
      by_cases hb : b = a
      · rw [hb, upd_same, e]
      · rw [upd_ne hb]
    rw [eu] at J
    exact h _ J
  obtain ⟨hp, g, d, t, os⟩ := s
  have FB := F.excBase_ValueError
  refine wpAny_call (codeAny_of_tree ?_)
  show wpAny _ A.in1 (callAny (.ref u) ⟨us, []⟩) _ _ _
  simp only [callAny]
  refine wpAny_bind (wpAny_load hu ?_)
  simp only [PySem.W.kxs_mw, show (Value.type "method-wrapper" == Value.type "method" || Value.type "method-wrapper" == Value.type "builtin_function_or_method" || Value.type "method-wrapper" == Value.type "method-wrapper") = true by decide, if_true]
  refine PySem.W.KFB.if_so (by decide) ?_
  refine wpAny_bind (PySem.W.check_bound_init FB.toExcCallFacts hCs ho rfl ?_)
  refine wpAny_bind (wpAny_pure (wpAny_pure ?_))
  refine ⟨plainId_quiet FB.init.plain _, codeAny_builtin FB.initEntry ?_⟩
  exact PySem.W.exc_init_tree (cls := .ref C) (t0 := t1) (dv := none) (c2 := .none) (c3 := .none) (b4 := .bool false) ho hl fun h' k hx _ => fin h' _ k hx
/-- the facts of such a class and its __init__ -/
structure ErrC (P : Program) (K : PySem.W.Frag) (C : Addr) (f cda cc : Addr) (fd : FuncData) (qual : Str) : Prop where
  oex : OexC K C
  lk : ∃ oc od osl, K.lookup f = some ⟨oc, od, .func fd, osl⟩
  code : PySem.W.codeIn K (.ref cda) qual = true
  file : ∃ ccl cdd vs ccs file tf, K.lookup cda = some ⟨ccl, cdd, .fields vs, ccs⟩ ∧ vs[2]? = some (.str file tf) ∧ ((P.main.file : Str) == file) = true
  cell : ∃ cl cld csl, K.lookup cc = some ⟨cl, cld, .cell (some (.ref C)), csl⟩
  sup : PySem.W.ks_superIn K C C "__init__" = some (some (.builtin "ValueError.__init__"))
  ve : PySem.W.subIn K (.ref C) (.type "ValueError") = some true
  mro : PySem.W.mroIn K C (.ref C) = some true
  nosup : PySem.W.nsIn K mainGlobals "super" = some none
  opq : PySem.W.nsIn K cStatics "thirdparty.any" = some none
  top : (P.main.scope.names.lookup ("super" : Str)).isSome = false
/-- what such an __init__ is worth -/
def spErr (C : Addr) (n : Nat) (te : TE) (t : TS) : Sp := fun vs H Q _ => vs.length = n ∧ ∃ a r, vs = .ref a :: r ∧ H a = some (exo a C none) ∧
  te (vs.map some) H fun x H1 => [x].length ≤ 1 ∧ H1 a = some (exo a C none) ∧ t { nx := fun _ H' => Q .non H', rt := Q } (vs.map some) H1
theorem boot_super : bootBuiltins "super" = some (.type "super") := by first | boot_by_name | rfl | kernel_rfl
theorem err_fn {P : Program} {w : World} {K : PySem.W.Frag} {mg : Str → Option Value} {base : Heap} {CX : CXT} {k : Nat} {C f cda cc : Addr} {name qual : Str} {params : Arguments} {scope : Scope} {dV kV doc pm ct : Value} {an : Option Addr} {ps : List Str} {p0 p1 p2 p3 p4 : Pos} {ae : Expr} {rest : List Stmt} {ar : Arg} {tl : List Str} {te : TE} {t : TS}
    (F : ErrC P K C f cda cc (PySem.W.ksFn name qual params (.Expr (.Call (.Attribute (.Call (.Name "super" p0) [] [] p1) "__init__" p2) [ae] [] p3) p4 :: rest) scope dV kV doc pm an (.ref cda) ct cc) qual) (S : ErrScope ps scope) (hp : (params.posonlyargs ++ params.args).head? = some ar) (hps : ps = ar.arg :: tl)
    (ha : ∀ A outer s H, Room (k + 1) A → PE (cxErr P w K mg base ps qual scope f cda cc A outer s H) ae te) (hr0 : ∀ A outer s H, PSs (cxErr P w K mg base ps qual scope f cda cc A outer s H) rest t)
    (hm : ∀ L, ∃ pl : Sem Bool, eval (.Call (.Attribute (.Call (.Name "super" p0) [] [] p1) "__init__" p2) [ae] [] p3) (PySem.W.ksEnv qual scope L f (.ref cda) cc) = (do
      let ov ← attributeBase (.Call (.Name "super" p0) [] [] p1) "__init__" (PySem.W.ksEnv qual scope L f (.ref cda) cc) (eval (.Call (.Name "super" p0) [] [] p1) (PySem.W.ksEnv qual scope L f (.ref cda) cc))
      standAt p2.atName
      let (g, first) ← holding [ov] (getMethod ov "__init__" pl)
      callWith p3 g first (backTo p3 (starEach [ae] (PySem.W.ksEnv qual scope L f (.ref cda) cc))) []))
    (hi : ∀ L, interactive (PySem.W.ksEnv qual scope L f (.ref cda) cc) = false) (hsw : ∀ L, swapsWith (.Call (.Attribute (.Call (.Name "super" p0) [] [] p1) "__init__" p2) [ae] [] p3) none p4.line (PySem.W.ksEnv qual scope L f (.ref cda) cc) = pure false)
    (he : ∀ L, starEach [ae] (PySem.W.ksEnv qual scope L f (.ref cda) cc) = (false, eval ae (PySem.W.ksEnv qual scope L f (.ref cda) cc)) :: starEach [] (PySem.W.ksEnv qual scope L f (.ref cda) cc)) :
    FnOk P w K mg base CX (k + 1) f (PySem.W.ksFn name qual params (.Expr (.Call (.Attribute (.Call (.Name "super" p0) [] [] p1) "__init__" p2) [ae] [] p3) p4 :: rest) scope dV kV doc pm an (.ref cda) ct cc) ps (spErr C ps.length te t) := by
  refine ⟨fun vs H Q E h => h.1, fun A outer s H args us vs Q E hr e0 hb r hsp => ?_⟩
  obtain ⟨hl, a, vr, rfl, hea, hte⟩ := hsp
  have KB : K.In base := e0.mod.kin
  have KX : K.In s.heap := KB.keeps fun b o e => (e0.bs b o e).1
  have lim : s.heap.NoLimit := e0.mod.nolimit.keeps fun b o e => (e0.bs b o e).1
  obtain ⟨oc, od, osl, lk⟩ := F.lk
  obtain ⟨ccl, cdd, cvs, ccs, file, tf, hcode, hvs, hfile⟩ := F.file
  obtain ⟨cl, cld, csl, hcell⟩ := F.cell
  obtain ⟨nm, qq, NN, bs, bm, sn, sub, ab, col, dd, k0, k1, k2, k3, k5, hC, hbm⟩ := F.oex.cls
  have hcl : PySem.W.clsIn K C = some { name := nm, bases := bs, mro := .ref C :: bm, ns := NN, qualname := qq, hasDict := true, slotNames := sn, subclasses := sub, abstract := ab, collection := col, hasDel := false } := by unfold PySem.W.clsIn; rw [hC] <;> rfl
  have hul : us.length = ps.length := r.length.symm.trans hl
  refine ks_codeAny_call_defAt (fd := PySem.W.ksFn name qual params (.Expr (.Call (.Attribute (.Call (.Name "super" p0) [] [] p1) "__init__" p2) [ae] [] p3) p4 :: rest) scope dV kV doc pm an (.ref cda) ct cc) (body := .Expr (.Call (.Attribute (.Call (.Name "super" p0) [] [] p1) "__init__" p2) [ae] [] p3) p4 :: rest) (binds := ps.zip us)
    hr.depth (KX _ _ lk) rfl lim (PySem.W.codeRec_of KX F.code) rfl hb S.nocell (fun y hy => S.par y.1 (List.of_mem_zip hy).1) (fun h1 hns hk1 => ?_) S.co S.gen S.kind
  have I := inv_err (qual := qual) (f := f) (cda := cda) (tk := s.toks + (ps.zip us).length) S hr.hd e0 hl r ⟨_, KB _ _ hcell, rfl⟩ hns hk1
  have kb : ∀ b o, base.get? b = some o → h1.get? b = some o := fun b o e => hk1 b o (e0.bs b o e).1
  have K1 : K.In h1 := KB.keeps kb
  obtain ⟨mb, hmb, hbt⟩ := e0.mod.blt
  have hka : scope.names.lookup ar.arg = some .local := S.par _ (by rw [hps]; exact List.mem_cons_self)
  cases r with
  | @cons _ u0 _ ur ra rr =>
  obtain rfl : u0 = Value.ref a := ra
  have hself : (ps.zip (Value.ref a :: ur)).reverse.lookup ar.arg = some (.ref a) := by
    refine lookup_nd ?_ (List.mem_reverse.mpr (zip_mem (i := 0) (by rw [hps]; rfl) rfl))
    rw [List.map_reverse, zip_keys hul]
    exact List.pairwise_reverse.mpr (S.nd.imp fun h e => h e.symm)
  obtain ⟨pl, hm⟩ := hm s.heap.objs.size
  refine ks_wpAt_execs_cons (ks_wpAt_Expr_any (ks_wpAt_MethodCall (pl := pl) ?_ hm) (hi _) (hsw _))
  refine ks_wpAt_super_base (env := PySem.W.ksEnv qual scope s.heap.objs.size f (.ref cda) cc) S.sup S.cl rfl rfl (K1 _ _ lk) rfl hp rfl (K1 _ _ hcode) rfl hvs hfile F.top ?_
  refine PySem.W.ks_loadName_global S.kind S.sup (PySem.Calls.loadGlobal_builtin (env := PySem.W.ksEnv qual scope s.heap.objs.size f (.ref cda) cc) (e0.mod.glob.keeps kb) (PySem.W.mg_none_of KB e0.mod.glob F.nosup) (hmb.keeps kb) ((hbt "super" (by decide +kernel)).trans boot_super) ⟨rfl, ?_⟩)
  refine wpAny_loadName_free S.kind S.cl rfl ⟨_, K1 _ _ hcell, rfl⟩ ?_
  refine wpAny_loadName_local S.kind hka hns hself ?_
  refine ks_wpAny_isType_cls (K1 _ _ hC) rfl ⟨rfl, ?_⟩
  obtain ⟨t1, ho⟩ := exo_at I.hok hea
  have ho : h1.get? a = some _ := ho
  refine ks_wpAny_call_super (K1 _ _ hC) rfl ho rfl (fun c e => by cases e) (PySem.W.looks_mroIn K1 F.mro) (fun h2 eso k2 => ?_)
  have I2 := I.kept (t' := s.toks + (ps.zip (Value.ref a :: ur)).length) (h' := h2) k2
  have K2 : K.In h2 := K1.keeps k2
  have IA : PySem.W.InstAt h2 a _ C none := ⟨k2 _ _ ho, rfl, rfl, trivial⟩
  have hf : PySem.W.alongIn K "__init__" (((Value.ref C :: bm).dropWhile (· != .ref C)).drop 1) = some (some (.builtin "ValueError.__init__")) := by
    have z := F.sup
    unfold PySem.W.ks_superIn at z
    rw [hcl] at z
    exact z
  refine PySem.W.kxs_getMethod PySem.W.kxs_ValueError eso (PySem.W.looks_opaque K2 F.opq) (l₀ := .ref C :: bm) (fun A Q E s k q => wpAny_bind ((PySem.W.looks_clsIn K2 hcl) A _ E s k (wpAny_pure q))) rfl K2 hf (IA.type.andThen (PySem.W.looks_subIn K2 F.ve)) (PySem.W.ks_ne K2 IA hcl) rfl ?_
  have k3 : ∀ b o, h2.get? b = some o → (h2.push (PySem.W.kxs_mw "ValueError.__init__" a)).get? b = some o := fun b o e => Heap.get?_push_of_some _ e
  have I3 := I2.kept (t' := s.toks + (ps.zip (Value.ref a :: ur)).length + 1) k3
  have hu : (h2.push (PySem.W.kxs_mw "ValueError.__init__" a)).get? h2.objs.size = some (PySem.W.kxs_mw "ValueError.__init__" a) := Heap.get?_push_at rfl rfl
  have I4 : Inv (cxErr P w K mg base ps qual scope f cda cc A outer s H) [(h2.objs.size, PySem.W.kxs_mw "ValueError.__init__" a)] _ H _ := I3.pins_of fun p hp => by
    have e : p = (h2.objs.size, PySem.W.kxs_mw "ValueError.__init__" a) := by simpa using hp
    subst e
    refine ⟨hu, I2.hok.fresh (Nat.le_refl _), fun z => ?_, I2.nofs (Nat.le_refl _), fun v z => by cases z⟩
    have := I2.lt
    have z : h2.objs.size = s.heap.objs.size := z
    have lt : s.heap.objs.size < h2.objs.size := this
    rw [z] at lt
    exact absurd lt (Nat.lt_irrefl _)
  show wpAny _ _ (callWith p3 (Value.ref h2.objs.size) [] (backTo p3 (starEach [ae] (PySem.W.ksEnv qual scope s.heap.objs.size f (.ref cda) cc))) []) _ _ _
  rw [he]
  refine PySem.W.kxs_callWith (i := "ValueError.__init__") (x := a) rfl (PySem.Calls.evalArgs_plain ?_)
  have pa := pa_cons (es := []) (ha A outer s H hr) pa_nil (he _)
  have run := pa.run p3 _ _ _ H (fun vs H1 => vs.length ≤ 1 ∧ H1 a = some (exo a C none) ∧ t { nx := fun _ H' => Q .non H', rt := Q } ((V.ref a :: vr).map some) H1) I4 (show tCons te tNil _ H _ from hte)
  rw [show starEach [ae] (cxErr P w K mg base ps qual scope f cda cc A outer s H).env = _ from he _] at run
  refine wpAny_mono run (fun us5 s5 h5 => ?_) fun _ _ z => z.elim
  obtain ⟨vs5, H5, I5, r5, l5, e5, q5⟩ := h5
  have hu5 := (I5.pin _ (List.mem_append_right _ List.mem_cons_self)).1
  refine ⟨hu5, mw_call F.oex I5 e5 hu5 (by show us5.length ≤ _; rw [SL_eq, ← r5.length]; exact Nat.le_trans l5 (by decide)) fun s6 I6 => ?_⟩
  refine wpAt_of_wpAny (wpAny_mono ((hr0 A outer s H).run [] s6 _ H5 _ (I6.unpinned (pins := [])) q5) (fun fl s' hs => ?_) fun _ _ z => z.elim)
  have fin : ∀ {σ' : L2.St} {H' : Hp} {v : V} {u : Value}, Inv (cxErr P w K mg base ps qual scope f cda cc A outer s H) [] σ' H' s' → RelV v u → Q v H' → CE outer P w H s Q u s' := fun {σ' H' v u} J rv q => ⟨v, H', J.os, J.bare, J.base, J.hok, rv, q⟩
  cases fl with
  | ret u =>
    obtain ⟨v, σ', H', J, rv, q⟩ := hs
    exact fin J rv q
  | next =>
    obtain ⟨σ', H', J, q⟩ := hs
    exact fin (v := V.non) (u := Value.none) J rfl q
  | brk =>
    obtain ⟨_, _, _, q⟩ := hs
    exact False.elim q
  | cont =>
    obtain ⟨_, _, _, q⟩ := hs
    exact False.elim q
end DL
set_option Elab.async false
set_option linter.all false
set_option maxRecDepth 100000
set_option maxHeartbeats 4000000
/-! DX3: raise C(i), C an own class with one field, an int. -/
namespace DL
open PySem PySem.Spec PyProof.Rows L2
/-- an __init__ that keeps an int in the field fld -/
def spE1 (C : Addr) (fld : Str) : Sp := fun vs H Q _ => ∃ a i, vs = [.ref a, .int i] ∧ i.natAbs.log2 < 1920 ∧ H a = some (exo a C none) ∧
  ∀ dx, H dx = none → dx ≠ a → Q .non (upd (upd H dx (exd dx [(fld, .int i)])) a (exo a C (some dx)))
theorem joined_int {m : Str} (hm : m.length ≤ 1000) {i : Int} (hi : i.natAbs.log2 < 1920) : (Str.empty ++ m).length ≤ sizeLine ∧ (Str.empty ++ m ++ (toString i : String)).length ≤ sizeLine := by
  have e0 : (Str.empty ++ m).length = m.length := by rw [strLen_append]; show 0 + _ = _; omega
  refine ⟨by rw [e0, SL_eq]; exact Nat.le_trans hm (by decide), ?_⟩
  rw [strLen_append, e0, SL_eq, PySem.ofString_length]
  have := PySem.int_text_length_le (k := 1920) (by decide) hi
  show _ ≤ 16777216
  omega
theorem err1_fn {P : Program} {w : World} {K : PySem.W.Frag} {mg : Str → Option Value} {base : Heap} {C f cda cc : Addr} {name qual fld m : Str} {params : Arguments} {scope : Scope} {dV kV doc pm ct : Value} {an : Option Addr} {j1 : Nat} {p0 p1 p2 p3 p4 q1 q2 q3 q4 r1 r2 r3 r4 : Pos} {ar : Arg}
    (F : ErrC P K C f cda cc (PySem.W.ksFn name qual params [.Expr (.Call (.Attribute (.Call (.Name "super" p0) [] [] p1) "__init__" p2) [.JoinedStr [.Constant (.str m) j1 q1, .FormattedValue (.Name fld q2) (-1) none q3] q4] [] p3) p4, .Assign [.Attribute (.Name "self" r1) fld r2] (.Name fld r3) r4] scope dV kV doc pm an (.ref cda) ct cc) qual)
    (S : ErrScope ["self", fld] scope) (hp : (params.posonlyargs ++ params.args).head? = some ar) (hps : ar.arg = "self") (hno : PySem.W.findIn K (.ref C) fld = some none) (hm : m.length ≤ 1000)
    (hmm : ∀ L, ∃ pl : Sem Bool, eval (.Call (.Attribute (.Call (.Name "super" p0) [] [] p1) "__init__" p2) [.JoinedStr [.Constant (.str m) j1 q1, .FormattedValue (.Name fld q2) (-1) none q3] q4] [] p3) (PySem.W.ksEnv qual scope L f (.ref cda) cc) = (do
      let ov ← attributeBase (.Call (.Name "super" p0) [] [] p1) "__init__" (PySem.W.ksEnv qual scope L f (.ref cda) cc) (eval (.Call (.Name "super" p0) [] [] p1) (PySem.W.ksEnv qual scope L f (.ref cda) cc))
      standAt p2.atName
      let (g, first) ← holding [ov] (getMethod ov "__init__" pl)
      callWith p3 g first (backTo p3 (starEach [.JoinedStr [.Constant (.str m) j1 q1, .FormattedValue (.Name fld q2) (-1) none q3] q4] (PySem.W.ksEnv qual scope L f (.ref cda) cc))) []) := by intro L; exact ⟨_, rfl⟩)
    (hi : ∀ L, interactive (PySem.W.ksEnv qual scope L f (.ref cda) cc) = false := by intro L; rfl)
    (hsw : ∀ L, swapsWith (.Call (.Attribute (.Call (.Name "super" p0) [] [] p1) "__init__" p2) [.JoinedStr [.Constant (.str m) j1 q1, .FormattedValue (.Name fld q2) (-1) none q3] q4] [] p3) none p4.line (PySem.W.ksEnv qual scope L f (.ref cda) cc) = pure false := by intro L; rfl)
    (he : ∀ L, starEach [.JoinedStr [.Constant (.str m) j1 q1, .FormattedValue (.Name fld q2) (-1) none q3] q4] (PySem.W.ksEnv qual scope L f (.ref cda) cc) = (false, eval (.JoinedStr [.Constant (.str m) j1 q1, .FormattedValue (.Name fld q2) (-1) none q3] q4) (PySem.W.ksEnv qual scope L f (.ref cda) cc)) :: starEach [] (PySem.W.ksEnv qual scope L f (.ref cda) cc) := by intro L; rfl)
    (hs2 : ∀ L, swapsWith (.Name fld r3) (some (.Attribute (.Name "self" r1) fld r2)) r4.line (PySem.W.ksEnv qual scope L f (.ref cda) cc) = pure false := by intro L; rfl)
    (hdb : (fld == ("__debug__" : Str)) = false := by decide) (hdc : (fld == ("__classdict__" : Str)) = false := by decide) :
    FnOk P w K mg base CX0 1 f (PySem.W.ksFn name qual params [.Expr (.Call (.Attribute (.Call (.Name "super" p0) [] [] p1) "__init__" p2) [.JoinedStr [.Constant (.str m) j1 q1, .FormattedValue (.Name fld q2) (-1) none q3] q4] [] p3) p4, .Assign [.Attribute (.Name "self" r1) fld r2] (.Name fld r3) r4] scope dV kV doc pm an (.ref cda) ct cc) ["self", fld] (spE1 C fld) := by
  have vis : ∀ {A : Around} {outer : List Env} {s : Shared} {H : Hp} {i : Nat} {x : Str} {pos : Pos}, (["self", fld] : List Str)[i]? = some x → (x == ("__debug__" : Str)) = false → (x == ("__classdict__" : Str)) = false → PE (cxErr P w K mg base ["self", fld] qual scope f cda cc A outer s H) (.Name x pos) (tVar i) :=
    fun {A outer s H i x pos} e h1 h2 => pe_var e (.inl (S.par x (List.mem_of_getElem? e))) h1 h2
  have main := err_fn (CX := CX0) (k := 0) (w := w) (mg := mg) (base := base) (ps := ["self", fld]) (tl := [fld]) (t := tOst K fld (tVar 0) (tVar 1)) F S hp (by rw [hps])
    (fun A outer s H _ => pe_joined (X := cxErr P w K mg base ["self", fld] qual scope f cda cc A outer s H) (PJ.cons pe_str (PJ.cons (pe_fmt (vis (i := 1) rfl hdb hdc)) PJ.nil)))
    (fun A outer s H => pss_one (ps_ost (X := cxErr P w K mg base ["self", fld] qual scope f cda cc A outer s H) (vis (i := 0) rfl (by decide) (by decide)) (vis (i := 1) rfl hdb hdc) (hs2 _))) hmm hi hsw he
  refine main.imp fun vs H Q E h => ?_
  obtain ⟨a, i, rfl, hb, hea, q⟩ := h
  obtain ⟨j1, j2⟩ := joined_int hm hb
  refine ⟨rfl, a, _, rfl, hea, m, rfl, j1, .int i, rfl, .inr ⟨i, rfl, hb, _, rfl, j2, Nat.le_refl 1, hea, .int i, rfl, .ref a, rfl, a, C, rfl, F.oex, hno, .inl ⟨hea, fun dx h1 h2 => q dx h1 h2⟩⟩⟩
/-- a class that is made with an int and raised -/
def ErrF (P : Program) (w : World) (K : PySem.W.Frag) (mg : Str → Option Value) (base : Heap) (C : Addr) (x fld : Str) : Prop :=
  ∃ fI fd, OexC K C ∧ PySem.W.findIn K (.ref C) "__init__" = some (some (.ref fI)) ∧ PySem.W.typeIn K (.ref fI) = some (.type "function") ∧ FnOk P w K mg base CX0 1 fI fd ["self", fld] (spE1 C fld) ∧ Binds K fd ["self", fld] [] ∧ mg x = some (.ref C)
def errK (C : Addr) (f : String) (R : Value → List (String × D) → AH → Prop) : D → AH → Prop
  | .int i, A => i.natAbs < 18446744073709551616 ∧ R (.ref C) [(f, .int i)] A
  | _, _ => False
def dErr1 (C : Addr) (f : String) (te : DTE) : DTM := fun σ A R => te σ A fun y A1 => errK C f R y A1
theorem log_ok {i : Int} (h : i.natAbs < 18446744073709551616) : i.natAbs.log2 < 1920 := by
  rcases Nat.eq_zero_or_pos i.natAbs with z | z
  · rw [z]; decide
  · have := (Nat.log2_lt (Nat.pos_iff_ne_zero.mp z)).mpr (show i.natAbs < 2 ^ 64 from h)
    omega
theorem qm_err1 {X : Cx} {C : Addr} {x : Str} {f : String} {e : Expr} {te : DTE} {p pos : Pos} (E : ErrF X.prog X.w X.K X.mg X.base C x (PySem.Str.ofString f)) (hr : Room 2 X.A) (ha : QE X e te) (hg : Gl X x := by rfl)
    (hdb : (x == ("__debug__" : Str)) = false := by decide) (he : starEach [e] X.env = (false, eval e X.env) :: starEach [] X.env := by rfl) : QM X (.Call (.Name x p) [e] [] pos) (dErr1 C f te) := by
  obtain ⟨fI, fd, T, iC, tI, F, hb, hm⟩ := E
  have z := pmk_oex (ds := []) (dvs := []) (pos := pos) (p := p) T iC tI F hr hb .nil pass0 hg hm (qa_cons ha qa_nil he) hdb he (by rfl)
  intro pins s σ H Q I h
  refine z pins s σ H Q I ?_
  obtain ⟨dσ, A, R, hA, hS, q, k⟩ := h
  refine ⟨dσ, A, fun ds A1 => errK C f R (ds.headD .non) A1, hA, hS, q, fun ds A1 vs H1 q1 l1 hA1 rl g1 => ?_⟩
  obtain ⟨y, rfl⟩ : ∃ y, ds = [y] := List.length_eq_one_iff.mp l1
  have q1 : errK C f R y A1 := q1
  cases y with
  | int i =>
    obtain ⟨v, r, rfl, rv, rr⟩ := rl
    cases rr
    cases rv
    obtain ⟨hb, q1⟩ := q1
    refine ⟨by show 1 ≤ 1000; omega, fun a ha1 => ⟨a, i, rfl, log_ok hb, upd_same, fun dx hd1 hd2 => ⟨rfl, dx, [(PySem.Str.ofString f, .int i)], upd_same, ?_, ?_, ?_⟩⟩⟩
    · rw [upd_ne hd2, upd_same]
    · rw [upd_ne hd2] at hd1; exact hd1
    · rw [upd_ne hd2] at hd1
      have e : upd (del (upd (upd (upd H1 a (exo a C none)) dx (exd dx [(PySem.Str.ofString f, .int i)])) a (exo a C (some dx))) a) dx (.xd [(PySem.Str.ofString f, .int i)]) = upd H1 dx (.xd [(PySem.Str.ofString f, .int i)]) := by
        funext b
        by_cases h1 : b = dx
        · rw [h1, upd_same, upd_same]
        · rw [upd_ne h1, upd_ne h1]
          by_cases h2 : b = a
          · rw [h2, del_same, ha1]
          · rw [del_ne h2, upd_ne h2, upd_ne h1, upd_ne h2]
      rw [e]
      exact k _ _ A1 _ _ q1 (hA1.new hd1) (.inr ⟨dx, _, rfl, upd_same, ⟨_, _, rfl, rfl, rfl⟩⟩) (g1.trans (Grow.new hd1))
  | _ => exact q1.elim
end DL
set_option Elab.async false
set_option linter.all false
set_option maxRecDepth 100000
set_option maxHeartbeats 4000000
/-! DX4: list comprehensions that an exception may leave. -/
namespace DL
open PySem PySem.Spec PyProof.Rows L2
/-- what is wanted behind a comprehension's block, the block's own environment told -/
def postX (M : Model) (A : Around) (E : Value → Shared → Prop) (use : Option (Value → Sem Unit)) (Q : Value → Shared → Prop) (acc : Value) (cenv : Env) (r : Result) (s' : Shared) : Prop :=
  match r with
  | .ok f => compPost M A E use Q acc cenv.locals (.ok f) s'
  | .error x => ∃ m, s'.heap.Ns cenv.locals m ∧ ∀ h', Heap.SameBut cenv.locals s'.heap h' → wpAny M A (passOn "comprehension.variables-let-go" x cenv : Sem Value) (fun _ _ => False) E { s' with heap := h' }
theorem comp_freeX {M : Model} {A : Around} {E : Value → Shared → Prop} {s : Shared} {env : Env} {e : Expr} {scope : Scope} {pos : Pos} {newAcc first : Sem Value} {g : Comprehension} {gs : List Comprehension} {cl : List (Str × Addr)} {use : Option (Value → Sem Unit)} {Q : Value → Shared → Prop}
    (hcl : clausesOf e = g :: gs) (hs : ∀ x, foldedSetIterable g.iter env x = pure x) (hclos : closureFor scope env = pure cl) (hkind : scope.kind = .function) (hnames : ∀ x ∈ scope.names, x.2 = .local → scope.names.lookup x.1 = some .local)
    (h : wpAny M A first (fun x s₁ => wpAny M A (pyIter x) (fun it s₂ => wpAny M A newAcc (fun acc s₃ => wpAny M A (newFunctionEnv scope env.globals cl [] env.qual none .none (some env)) (fun cenv s₄ =>
      codeAny M A (.compStart e 0 it acc { cenv with scope := relabel scope env }) (postX M A E use Q acc { cenv with scope := relabel scope env }) s₄) E s₃) E s₂) E s₁) E s) :
    wpAny M A (comprehension e scope env pos newAcc false first use) Q E s := by
  unfold comprehension
  rw [hclos, hcl]
  refine wpAny_bind (wpAny_mono h (fun x s₁ h₁ => ?_) fun _ _ h' => h')
  refine wpAny_bind (wpAny_standAt (wpAny_bind (wpAny_of_eq (hs x) ?_)))
  refine wpAny_bind (wpAny_holding (wpAny_mono h₁ (fun it s₂ h₂ => ?_) fun _ _ h' => h'))
  refine wpAny_standIf (wpAny_bind (wpAny_mono h₂ (fun acc s₃ h₃ => ?_) fun _ _ h' => h'))
  refine wpAny_bind (wpAny_pure (wpAny_bind (wpAny_mono h₃ (fun cenv s₄ h₄ => ?_) fun _ _ h' => h')))
  dsimp only
  have hk : (({ cenv with scope := relabel scope env } : Env)).scope.kind = .function := hkind
  have hv : ∀ x ∈ (scope.names.filter fun x => (x.2 == .local || x.2 == .cell) && x.1 != (".0" : Str)).reverse, x.2 = .local → Env.kindOf { cenv with scope := relabel scope env } x.1 = some .local := fun x hx hl =>
    lookup_relabel_local (hnames x (List.mem_filter.mp (List.mem_reverse.mp hx)).1 hl)
  have hv' : ∀ x ∈ (scope.names.filter fun x => (x.2 == .local || x.2 == .cell) && x.1 != (".0" : Str)).reverse.drop 1 ++ (scope.names.filter fun x => (x.2 == .local || x.2 == .cell) && x.1 != (".0" : Str)).reverse.take 1, x.2 = .local → Env.kindOf { cenv with scope := relabel scope env } x.1 = some .local :=
    fun x hx hl => (List.mem_append.mp hx).elim (fun z => hv x (List.mem_of_mem_drop z) hl) fun z => hv x (List.mem_of_mem_take z) hl
  refine wpAny_holding (wpAny_bind (wpAny_attempt (wpAny_holding (wpAny_run (codeAny_mono h₄ fun r s' hr => ?_)))))
  cases r with
  | ok f =>
    cases use with
    | none =>
      obtain ⟨m, hn, hr⟩ := hr
      refine wpAny_bind (wpAny_holding (wpAny_comp_letGo (cenv := { cenv with scope := relabel scope env }) hk _ s' m hv hn fun h' m' _ hs' => ?_))
      exact wpAny_pure (hr h' hs')
    | some u =>
      refine wpAny_bind (wpAny_rule (wpAny_bind (wpAny_holding (wpAny_mono hr (fun _ s'' hr' => ?_) fun _ _ h' => h'))))
      obtain ⟨m, hn, hr'⟩ := hr'
      refine wpAny_bind (wpAny_comp_letGo (cenv := { cenv with scope := relabel scope env }) hk _ s'' m hv' hn fun h' m' _ hs' => ?_)
      exact wpAny_pure (hr' h' hs')
  | error x =>
    obtain ⟨m, hn, hr⟩ := hr
    refine wpAny_bind (wpAny_holding (wpAny_comp_letGo (cenv := { cenv with scope := relabel scope env }) hk _ s' m hv hn fun h' m' _ hs' => ?_))
    exact wpAny_mono (hr h' hs') (fun _ _ f => f.elim) fun _ _ y => y
theorem note_eq {x : Value} {env env' : Env} (h : env.frame = env'.frame) : noteFrame x env = noteFrame x env' := by
  unfold noteFrame PySem.frameOf
  rw [h]
/-- noted by a frame that is another one -/
theorem held_other {M : Model} {A : Around} {E : Value → Shared → Prop} {s : Shared} {Z : Obj → Prop} {base : Heap} {env : Env} {outer : List Env} {L L' e : Addr} {Q : Unit → Shared → Prop} (hZ : HandSPX.Steady Z) (hfr : A.frames = some (env :: outer)) (hf : env.frame = some L) (hh : HandSPX.HeldZ base (env :: outer) e Z L' s.heap) (hne : L' ≠ L)
    (hQ : ∀ h', HandSPX.HeldZ base (env :: outer) e Z L h' → s.heap.UpToSlots h' → Q () { s with heap := h' }) : wpAny M A (noteFrame (.ref e) env) Q E s := by
  obtain ⟨kb, en, fl, oe, vs, T, oT, ts, he, hz, hd, h1, nT, Te, hT, hdT, h3⟩ := hh
  unfold noteFrame
  simp only [hf]
  refine wpAny_bind (wpAny_field he hd h1 ?_)
  rw [if_pos (by simp)]
  refine wpAny_bind (wpAny_field hT hdT h3 ?_)
  rw [if_neg (show ¬ ((rawInt L' == rawInt L) = true) from by simp only [rawInt, beq_iff_eq, Value.int.injEq, not_and]; intro z; exact absurd (Int.ofNat_inj.mp z) hne)]
  have sz := (Array.getElem?_eq_some_iff.mp h3).1
  refine wpAny_bind (wpAny_setField hT hdT sz ?_)
  have oth : ∀ b, b ≠ T → (s.heap.update T (Obj.mapFields (·.setIfInBounds 3 Value.none))).get? b = s.heap.get? b := fun b hb => Heap.get?_update_other _ _ (Ne.symm hb)
  have nrec : ∀ b o, s.heap.get? b = some o → (∀ vs, o.data ≠ .fields vs) → b ≠ T := fun b o hb hnf q => by
    rw [q, hT] at hb; cases hb; exact hnf ts hdT
  refine HandSPX.wpAny_entryZ hZ hfr (fl.of_keeps fun b o hb hnf => ⟨o, (oth b (nrec b o hb hnf)).trans hb, rfl⟩) hf ((oth e (Ne.symm Te)).trans he) (fun b o hbo => ?_) en hd (Array.getElem?_eq_some_iff.mp h1).1 hz fun h' hN => ?_
  · exact (oth b fun q => by rw [q, nT] at hbo; cases hbo).trans (kb b o hbo)
  · obtain ⟨x1, x2, x3, x4⟩ := hN
    exact hQ h' ⟨x1, en, x2, x3⟩ fun b o hb hnf => x4 b o ((oth b (nrec b o hb hnf)).trans hb) hnf
theorem ff_move {B B' h1 h' : Heap} (k : ∀ L o, B.get? L = none → h1.get? L = some o → h'.get? L = some o ∧ B'.get? L = none) : ∀ {l : List Env}, h1.FunFrames B l → h'.FunFrames B' l
  | [], _ => trivial
  | _ :: _, ⟨hk, ⟨L, o, hf, hn, ho, hd⟩, hr⟩ => ⟨hk, ⟨L, o, hf, (k L o hn ho).2, (k L o hn ho).1, hd⟩, ff_move k hr⟩
/-- an exception in the air of a block; sI: the state without it -/
def XB (X : Cx) (s3 : Shared) (H3 : Hp) (scope : Scope) (ce : Env) (fp : List Addr) (W0 : WX) (u : Value) (s' : Shared) : Prop :=
  ∃ (a : Addr) (B : Heap) (sI : Shared) (pn : List (Addr × Obj)) (σ : L2.St) (H : Hp) (cls : Value) (d : Option Addr) (L : Addr),
    u = .ref a ∧ Inv (X.blk s3 H3 scope ce fp) pn σ H sI ∧ (∀ b o, sI.heap.get? b = some o → b ∉ frs X.stack → B.get? b = some o) ∧ sI.heap.UpToSlots s'.heap ∧ Sky B X.stack a (Zc cls d) L s'.heap ∧ H a = none ∧ s'.os = sI.os ∧ AllBare s'.gens ∧ W0 cls d σ H
/-- the block's context, its exceptions told -/
abbrev BlkX (X : Cx) (s3 : Shared) (H3 : Hp) (scope : Scope) (ce : Env) (fp : List Addr) (W0 : WX) : Cx := (X.blk s3 H3 scope ce fp).tr [] (XB X s3 H3 scope ce fp W0)
theorem takes_blk {X : Cx} {s3 : Shared} {H3 : Hp} {scope : Scope} {ce : Env} {fp : List Addr} {W0 : WX} (ok : (X.blk s3 H3 scope ce fp).Ok) : Takes (BlkX X s3 H3 scope ce fp W0) W0 := by
  rintro u s' ⟨a, B, sI, pn, σ, H, cls, d, e, I, nb, up, sky, na, os, ag, w⟩
  exact ⟨a, B, sI, _, σ, H, cls, d, _, e, Inv.ofTry (X := X.blk s3 H3 scope ce fp) (pins := []) I ok, nb, up, sky, na, os, ag, w⟩
section
variable {X : Cx} {pins : List (Addr × Obj)} {σ : L2.St} {H H3 : Hp} {s3 : Shared} {scope : Scope} {ce : Env} {fp : List Addr} {W0 W : WX}
/-- .. leaves the comprehension -/
theorem exc_out (hs : X.stack = X.env :: X.outer) (hf : X.env.frame = some X.env.locals) (tk : Takes X W) (I3 : Inv X pins σ H3 s3) (f3 : ∀ b ∈ fp, FpOk X pins H3 b) (hcL : ce.locals = s3.heap.objs.size) (hcf : ce.frame = X.env.frame)
    (hW : ∀ cls d σ' H', W0 cls d σ' H' → Grow H3 H' → W cls d σ H') {use : Option (Value → Sem Unit)} {Qf : Value → Shared → Prop} {acc : Value} {u : Value} {s' : Shared} (x : XB X s3 H3 scope ce fp W0 u s') :
    notedBy (model X.prog X.w) X.A ce (fun e s'' => postX (model X.prog X.w) X.A X.xe use Qf acc ce (.error e) s'') u s' := by
  obtain ⟨a, B, sI, pn, σ', H', cls, d, L, rfl, I, nb, up, sky, na, os, ag, w⟩ := x
  have hfr : X.A.frames = some (X.env :: X.outer) := by rw [I3.ok.frames, hs]
  have cN : ∀ o, s3.heap.get? ce.locals ≠ some o := fun o e => by
    have := Heap.lt_size e
    rw [hcL] at this
    exact absurd this (Nat.lt_irrefl _)
  have cF : ce.locals ∉ frs X.stack := fun hm => by
    obtain ⟨_, o, e, _⟩ := I3.stack.mem hm
    exact cN o e
  obtain ⟨m, hns, _⟩ := I.loc
  have hns : sI.heap.Ns ce.locals m := hns
  obtain ⟨oC, hoC⟩ : ∃ o, sI.heap.get? ce.locals = some o := by
    obtain ⟨o, _, _, e, _⟩ := hns
    exact ⟨o, e⟩
  have bC := nb _ _ hoC cF
  have hcN : H' ce.locals = none := I.free
  show wpAny _ _ (noteFrame (.ref a) ce) _ _ _
  rw [note_eq hcf]
  have fin : ∀ h1, HandSPX.HeldZ B (X.env :: X.outer) a (Zc cls d) X.env.locals h1 → s'.heap.UpToSlots h1 → postX (model X.prog X.w) X.A X.xe use Qf acc ce (.error (.ref a)) { s' with heap := h1 } := fun h1 hh up1 => by
    obtain ⟨kb, an, ff, oe, vs, T, oT, ts, he, hz, hd, e1, nT, Te, hT, hdT, h3⟩ := id hh
    have ha : a ≠ ce.locals := fun e => by rw [e, bC] at an; cases an
    have hTc : T ≠ ce.locals := fun e => by rw [e, bC] at nT; cases nT
    refine ⟨m, hns.at fun o q => by rw [hoC] at q; cases q; exact kb _ _ bC, fun h' sb => ?_⟩
    have oth : ∀ b, b ≠ ce.locals → h'.get? b = h1.get? b := fun b hb => sb.2 b hb
    have hB : HandSPX.HeldZ (PySem.W.hideAll B [ce.locals]) (X.env :: X.outer) a (Zc cls d) X.env.locals h' := by
      have notC : ∀ {b : Addr} {o : Obj}, (PySem.W.hideAll B [ce.locals]).get? b = some o → b ≠ ce.locals := fun {b o} e q => by
        rw [q, PySem.W.hideAll_none _ List.mem_cons_self] at e; cases e
      have none' : ∀ {b : Addr}, B.get? b = none → (PySem.W.hideAll B [ce.locals]).get? b = none := fun {b} e => by
        cases q : (PySem.W.hideAll B [ce.locals]).get? b with
        | none => rfl
        | some o => have z := PySem.W.of_hideAll _ q; rw [e] at z; cases z
      refine ⟨fun b o e => (oth b (notC e)).trans (kb b o (PySem.W.of_hideAll _ e)), none' an, ff_move (fun L o n e => ⟨(oth L fun q => by rw [q, bC] at n; cases n).trans e, none' n⟩) ff, ?_⟩
      exact ⟨oe, vs, T, oT, ts, (oth a ha).trans he, hz, hd, e1, none' nT, Te, (oth T hTc).trans hT, hdT, h3⟩
    have g3 : Grow H3 H' := ⟨I.base.tups, fun b o xs z => I.base.frzs b o _ z⟩
    have ne3 : ∀ {b : Addr} {o : Obj}, s3.heap.get? b = some o → b ∉ [ce.locals] := fun {b o} e z => by
      have z : b = ce.locals := by simpa using z
      rw [z] at e; exact cN o e
    have hg : ∀ {b : Addr} {o : Obj}, b ∉ [ce.locals] → sI.heap.get? b = some o → (PySem.W.hideAll sI.heap [ce.locals]).get? b = some o := fun {b o} n e => PySem.W.hideAll_get _ e n
    have un : Un (frs X.stack) fp H3 H' s3.heap (PySem.W.hideAll sI.heap [ce.locals]) := {
      keep := fun b o e n hb hx => hg (ne3 e) (I.base.keep b o e n hb hx)
      slot := fun b o e n hb hx => by
        obtain ⟨sl, z⟩ := I.base.slot b o e n hb hx
        exact ⟨sl, hg (ne3 e) z⟩
      free := fun b o e n hx => I.base.free b o e n hx
      there := fun b o e hx => by
        obtain ⟨o', z⟩ := I.base.there b o e hx
        exact ⟨o', hg (ne3 e) z⟩
      tups := I.base.tups
      frzs := I.base.frzs
      tbls := I.base.tbls }
    have hok : HOk X.prog X.w H' (PySem.W.hideAll sI.heap [ce.locals]) := fun b o e => by
      refine (I.hok b o e).stay (fun c v hc q => hg (fun z => ?_) q) (fun _ q => q) fun _ _ q => q
      have z : c = ce.locals := by simpa using z
      subst z
      rcases hc with hc | hc
      · rw [← hc, hcN] at e; cases e
      · rw [hcN] at hc; cases hc
    have J : Inv X pins σ H' { sI with heap := PySem.W.hideAll sI.heap [ce.locals] } := I3.call' (ch := fp) (s' := { sI with heap := PySem.W.hideAll sI.heap [ce.locals] }) I.os un hok I.bare fun b hb => ⟨(f3 b hb).2.2.2.1, (f3 b hb).2.1, (f3 b hb).2.2.2.2.1, (f3 b hb).2.2.2.2.2⟩
    have upI : (PySem.W.hideAll sI.heap [ce.locals]).UpToSlots h' := fun b o e hnf => by
      have e0 := PySem.W.of_hideAll _ e
      have nc : b ≠ ce.locals := fun q => by rw [q, PySem.W.hideAll_none _ List.mem_cons_self] at e; cases e
      obtain ⟨sl, z⟩ := (up.trans up1) b o e0 hnf
      exact ⟨sl, (oth b nc).trans z⟩
    unfold PySem.passOn
    refine wpAny_bind (wpAny_field ((oth a ha).trans he) hd e1 ?_)
    rw [if_neg (show ¬ ((Value.ref T == Value.none) = true) from by simp)]
    have go : wpAny (model X.prog X.w) X.A (setFlight (.ref a) ce.frame) (fun _ s4 => wpAny (model X.prog X.w) X.A (throw (.ref a) : Sem Value) (fun _ _ => False) X.xe s4) X.xe { s' with heap := h' } := by
      rw [hcf, hf]
      refine HandSPX.setFlight_onZ hB fun h4 hh4 up4 => wpAny_throw (tk _ _ ?_)
      refine ⟨a, PySem.W.hideAll B [ce.locals], { sI with heap := PySem.W.hideAll sI.heap [ce.locals] }, pins, σ, H', cls, d, rfl, J, fun b o e hb => ?_, upI.trans up4, .inr (.inr (by rw [hs]; exact hh4)), na, os, ag, hW cls d σ' H' w g3⟩
      have nc : b ∉ [ce.locals] := fun z => by
        rw [PySem.W.hideAll_none _ z] at e; cases e
      exact PySem.W.hideAll_get _ (nb b o (PySem.W.of_hideAll _ e) hb) nc
    first
      | exact wpAny_bind (wpAny_pure (wpAny_bind go))
      | exact wpAny_bind go
  rw [hs] at sky
  rcases sky with ⟨hB, hn, hl, oe, vs, he, hz, hd, h1⟩ | fl | hh
  · exact HandSPX.look_newZ Zc.steady hfr hl hf he hB hn hd h1 hz fin
  · exact HandSPX.looks_onZ Zc.steady hfr hf fl fin
  · by_cases e : L = X.env.locals
    · subst e
      exact HandSPX.againZ hf hh.2.2.2 (fin s'.heap hh (Heap.UpToSlots.refl _))
    · exact held_other Zc.steady hfr hf hh e fin
end
end DL
set_option Elab.async false
set_option linter.all false
set_option maxRecDepth 100000
set_option maxHeartbeats 4000000
/-! DX5: list comprehensions that may raise, over plain data. -/
namespace DL
open PySem PySem.Spec PyProof.Rows L2
/-- any wish of the block is that of a block without one -/
theorem blkX_inv {X : Cx} {s3 : Shared} {H3 : Hp} {scope : Scope} {ce : Env} {fp : List Addr} {W0 : WX} {pins : List (Addr × Obj)} {σ : L2.St} {H : Hp} {s : Shared} (I : Inv (X.blk s3 H3 scope ce fp) pins σ H s) : Inv (BlkX X s3 H3 scope ce fp W0) pins σ H s :=
  ⟨I.ok.toTry _ _, I.os, I.bare, I.base, I.loc, I.cell, I.free, I.freeC, I.pin, I.hok, I.len⟩
theorem blkX_un {X : Cx} {s3 : Shared} {H3 : Hp} {scope : Scope} {ce : Env} {fp : List Addr} {W0 : WX} {pins : List (Addr × Obj)} {σ : L2.St} {H : Hp} {s : Shared} (I : Inv (BlkX X s3 H3 scope ce fp W0) pins σ H s) : Inv (X.blk s3 H3 scope ce fp) pins σ H s :=
  ⟨Cx.Ok.ofTry (X := X.blk s3 H3 scope ce fp) I.ok, I.os, I.bare, I.base, I.loc, I.cell, I.free, I.freeC, I.pin, I.hok, I.len⟩
section
variable {X : Cx} {W0 W : WX}
/-- what a comprehension wants behind its first clause -/
def lcB (g : TG) (tt : TT) (te : TE) (vs : List Nat) (σ : L2.St) (Q : VK) : It → Hp → Prop := fun J H1 => ∀ D, H1 D = none → ∃ V : Nat → Nat → Hp → Prop, (∃ m, V 0 m (upd H1 D (.lst []))) ∧ ∀ i m H, V i m H →
  (J.stop i H ∧ Q (.ref D) H) ∨ (J.go i H ∧ ∃ Nx : Hp → Prop, (∀ H', Nx H' → ∃ m', m' < m ∧ V (i + 1) m' H') ∧ ∀ x H', J.yld i H x H' → g x (wipe σ vs) H' fun σ2 H2 => wipe σ2 vs = wipe σ vs ∧ tt σ2 H2 fun b H3 =>
    if b = true then te σ2 H3 fun y H4 => ∃ acc, H4 D = some (.lst acc) ∧ acc.length < sizeLine ∧ Nx (upd H4 D (.lst (acc ++ [y]))) else Nx H3)
theorem lcX_core {pins : List (Addr × Obj)} {s : Shared} {σ : L2.St} {H : Hp} {Q : VK} {elt tg iter : Expr} {ifs : List Expr} {scope : Scope} {own : List (Str × Nat)} {pos pos' : Pos} {wi : TI} {g : TG} {tt : TT} {te : TE} {use : Option (Value → Sem Unit)} {Qf : Value → Shared → Prop}
    (hst : X.stack = X.env :: X.outer) (hf : X.env.frame = some X.env.locals) (tk : Takes X W) (hc : X.calm = true) (hN : X.N.Nodup) (I : Inv X pins σ H s) (hi : PI X tg iter wi) (ok : BlkOk X.N X.env.scope scope own)
    (hg : ∀ s H C cl fp, PG (BlkX X s H scope (compEnvC scope cl C X.env) fp W0) tg g) (ht : ∀ s H C cl fp, PTs (BlkX X s H scope (compEnvC scope cl C X.env) fp W0) ifs tt)
    (he : ∀ s H C cl fp, Takes (BlkX X s H scope (compEnvC scope cl C X.env) fp W0) W0 → PE (BlkX X s H scope (compEnvC scope cl C X.env) fp W0) elt te) (hs : ∀ x, foldedSetIterable iter X.env x = pure x)
    (hW : ∀ cls d σ' H', W0 cls d σ' H' → Grow H H' → W cls d σ H') (h : wi σ H fun J H1 => Grow H H1 ∧ lcB g tt te (own.map (·.2)) σ Q J H1)
    (hRR : ∀ D C s' m H', Inv X pins σ H' s' → Q (.ref D) H' → s'.heap.Ns C m → FpOk X pins H' C → compPost (model X.prog X.w) X.A X.xe use Qf (.ref D) C (.ok .next) s') :
    wpAny (model X.prog X.w) X.A (comprehension (.ListComp elt [⟨tg, iter, ifs, 0⟩] scope pos) scope X.env pos' (newList []) false (eval iter X.env) use) Qf X.xe s := by
  have hfree : ∀ y ∈ scope.names, y.2 = .free → ∃ c, X.env.cells.lookup y.1 = some c := fun y hy e => (ok.free y hy e).elim (fun k => I.ok.has _ (.inl k)) fun k => I.ok.has _ (.inr k)
  refine comp_freeX (use := use) rfl hs (closure_ok hfree) ok.kind (fun y hy e => by rw [ok.uniq y hy, e]) (thn (hi.run pins s σ H _ I h) fun xv s1 hx => thn hx fun itv s2 h2 => ?_)
  obtain ⟨it, fp, tn, J, H2, e, I2, T, st2, f2, g2, q⟩ := h2
  subst e
  refine wpAny_newObj_type (newEnv_comp ?_) (by show 0 ≤ sizeLine; decide)
  generalize hD : s2.heap.objs.size = D
  have hDn : H2 D = none := I2.hok.fresh (Nat.le_of_eq hD)
  obtain ⟨V, ⟨m0, w0⟩, turn⟩ := q D hDn
  generalize hs3 : ({ s2 with heap := s2.heap.push { cls := .type "list", data := .seq ([] : List Value).toArray } } : Shared) = s3
  have I3 : Inv X pins σ (upd H2 D (.lst [])) s3 := by
    rw [← hs3]
    refine I2.laid (t' := s2.toks) (fun b o e => Heap.get?_push_of_some _ e) (Nat.le_of_eq hD) ⟨Nat.zero_le _, [], 0, .nil, ?_⟩
    rw [← hD]; exact Heap.get?_push_size _ rfl
  have h3 : s3.heap = s2.heap.push { cls := .type "list", data := .seq ([] : List Value).toArray } := by rw [← hs3]
  have g3 : Grow H (upd H2 D (.lst [])) := g2.trans (Grow.new hDn)
  have sz : ∀ b ∈ fp, b < s2.heap.objs.size := fun b hb => let ⟨o, e, _⟩ := T.obj _ _ st2 b hb; Heap.lt_size e
  have f3 : ∀ b ∈ fp, FpOk X pins (upd H2 D (.lst [])) b ∧ b < s3.heap.objs.size := fun b hb => by
    have hlt := sz b hb
    refine ⟨⟨?_, (f2 b hb).2⟩, by rw [h3, Heap.size_push]; exact Nat.lt_succ_of_lt hlt⟩
    rw [upd_ne (by rw [← hD]; exact Nat.ne_of_lt hlt)]; exact (f2 b hb).1
  have st3 : tn 0 s3.heap := T.keep _ _ _ st2 fun b _ o e => by rw [h3]; exact Heap.get?_push_of_some _ e
  have I4 := block_start I3 ok hN f3
  have pg := hg s3 (upd H2 D (.lst [])) s3.heap.objs.size (cellsFrom (s3.heap.objs.size + 1) scope.names (cloFrom X.env.cells scope.names [])) fp
  have pt := ht s3 (upd H2 D (.lst [])) s3.heap.objs.size (cellsFrom (s3.heap.objs.size + 1) scope.names (cloFrom X.env.cells scope.names [])) fp
  have pe := he s3 (upd H2 D (.lst [])) s3.heap.objs.size (cellsFrom (s3.heap.objs.size + 1) scope.names (cloFrom X.env.cells scope.names [])) fp
  show codeAny _ _ (.compStart (.ListComp elt [⟨tg, iter, ifs, 0⟩] scope pos) 0 (.ref it) (.ref D) (compEnvC scope (cellsFrom (s3.heap.objs.size + 1) scope.names (cloFrom X.env.cells scope.names [])) s3.heap.objs.size X.env))
    (postX (model X.prog X.w) X.A X.xe use Qf (.ref D) (compEnvC scope (cellsFrom (s3.heap.objs.size + 1) scope.names (cloFrom X.env.cells scope.names [])) s3.heap.objs.size X.env)) { s3 with heap := pushCells (s3.heap.push { cls := .type "dict", data := .dict #[] }) scope.names }
  have nfp : ∀ b ∈ fp, (upd H2 D (.lst [])) b = none := fun b hb => (f3 b hb).1.1
  generalize hce : compEnvC scope (cellsFrom (s3.heap.objs.size + 1) scope.names (cloFrom X.env.cells scope.names [])) s3.heap.objs.size X.env = ce at I4 pg pt pe ⊢
  have cL : ce.locals = s3.heap.objs.size := by subst hce; rfl
  have cFr : ce.frame = X.env.frame := by subst hce; rfl
  generalize hH3 : upd H2 D (.lst []) = H3 at I3 I4 pg pt pe w0 nfp f3 g3
  generalize hs4 : ({ s3 with heap := pushCells (s3.heap.push { cls := .type "dict", data := .dict #[] }) scope.names } : Shared) = s4 at I4 ⊢
  have pe := pe (takes_blk I4.ok)
  have out : ∀ {u : Value} {s' : Shared}, XB X s3 H3 scope ce fp W0 u s' → notedBy (model X.prog X.w) X.A ce (fun e s'' => postX (model X.prog X.w) X.A X.xe use Qf (.ref D) ce (.error e) s'') u s' := fun {u s'} x =>
    exc_out hst hf tk I3 (fun b hb => (f3 b hb).1) cL cFr (fun cls d σ' H' w g => hW cls d σ' H' w (g3.trans g)) x
  have thx : ∀ {α : Type} {t : Sem α} {P P' : α → Shared → Prop} {s : Shared}, wpAny (model X.prog X.w) X.A t P (XB X s3 H3 scope ce fp W0) s → (∀ a s, P a s → P' a s) → wpAny (model X.prog X.w) X.A t P' (notedBy (model X.prog X.w) X.A ce fun e s'' => postX (model X.prog X.w) X.A X.xe use Qf (.ref D) ce (.error e) s'') s :=
    fun hw hp => wpAny_mono hw hp fun _ _ x => out x
  have st4 : tn 0 s4.heap := T.keep _ _ _ st3 fun b _ o e => by rw [← hs4]; exact pushCells_keeps _ _ _ _ (Heap.get?_push_of_some _ e)
  have stat : ∀ {σ' : L2.St} {H' : Hp} {s' : Shared}, Inv (X.blk s3 H3 scope ce fp) [] σ' H' s' → (∀ b ∈ fp, H' b = none) → ∀ b ∈ fp, FpOk (X.blk s3 H3 scope ce fp) [] H' b := fun {σ' H' s'} I' hn b hb =>
    ⟨hn b hb, (I'.ok.exf b hb).1, I'.ok.exfs b hb, .inl hb, fun x c e => (I'.ok.exf b hb).2 x c e, fun p hp => absurd (show p ∈ ([] : List (Addr × Obj)) ++ [] from hp) (by simp)⟩
  have loop : codeAny (model X.prog X.w) X.A (.compLoop (.ListComp elt [⟨tg, iter, ifs, 0⟩] scope pos) 0 (.ref it) (.ref D) ce) (postX (model X.prog X.w) X.A X.xe use Qf (.ref D) ce) s4 := by
    refine compLoop_any (fun n s' => ∃ i H', Inv (X.blk s3 H3 scope ce fp) [] (wipe σ (own.map (·.2))) H' s' ∧ tn i s'.heap ∧ (∀ b ∈ fp, H' b = none) ∧ V i n H') ?_ m0 ⟨0, H3, I4, st4, nfp, w0⟩
    rintro n s5 ⟨i, H5, I5, st5, n5, w5⟩
    rcases turn i n H5 w5 with ⟨stop, qq⟩ | ⟨go, Nx, hNx, step⟩
    · refine thnF (T.done (X.blk s3 H3 scope ce fp) rfl rfl rfl hc i [] s5 _ H5 (fun _ _ => False) I5 (stat I5 n5) st5 stop) fun r s6 ⟨hr, I6⟩ => ?_
      subst hr
      have I7 : Inv X pins σ H5 s6 := I3.call' (ch := fp) I6.os I6.base I6.hok I6.bare fun b hb => let z := (f3 b hb).1.2; ⟨z.2.2.1, z.1, z.2.2.2.1, z.2.2.2.2⟩
      have nC : H5 ce.locals = none := I6.free
      obtain ⟨m, hn, _⟩ := I6.loc
      have hn : s6.heap.Ns ce.locals m := hn
      show compPost _ _ _ _ _ _ _ _ _
      exact hRR D ce.locals s6 m H5 I7 qq hn (I3.fpOk (by rw [cL]; exact Nat.le_refl _) nC)
    · refine thnF (T.item (X.blk s3 H3 scope ce fp) rfl rfl rfl hc i [] s5 _ H5 (fun _ _ => False) I5 (stat I5 n5) st5 go) fun r s6 ⟨u, hr, h6⟩ => ?_
      subst hr
      refine thnF h6 fun _ s7 ⟨x, H7, I7, r7, y7, st7, n7⟩ => ?_
      have I7' := I7.pinned (stat I7 n7) (T.obj _ _ st7)
      refine thx (pg.run _ s7 _ H7 x u _ (blkX_inv I7') r7 (step x H7 y7)) fun _ s8 ⟨σ8, H8, I8, hw8, q8⟩ => ?_
      refine thx (pt.run _ s8 σ8 H8 _ I8 q8) fun b s9 ⟨H9, I9, q9⟩ => ?_
      have fin : ∀ {s' : Shared} {H' : Hp}, Inv (X.blk s3 H3 scope ce fp) ([] ++ pinsAt fp s7.heap) σ8 H' s' → Nx H' → ∃ m, m < n ∧ ∃ i H', Inv (X.blk s3 H3 scope ce fp) [] (wipe σ (own.map (·.2))) H' s' ∧ tn i s'.heap ∧ (∀ b ∈ fp, H' b = none) ∧ V i m H' := fun {s' H'} I' nx => by
        obtain ⟨m', hm, w'⟩ := hNx H' nx
        have pin' : ∀ b ∈ fp, ∀ o, s7.heap.get? b = some o → s'.heap.get? b = some o ∧ H' b = none := fun b hb o e => let z := I'.pin (b, o) (List.mem_append_right _ (List.mem_append_right _ (mem_pinsAt hb e))); ⟨z.1, z.2.1⟩
        refine ⟨m', hm, i + 1, H', (I'.unpinned (pins := [])).weak (by rw [← hw8, wipe_length]) (fun j v e => ?_), T.keep _ _ _ st7 fun b hb o e => (pin' b hb o e).1, fun b hb => ?_, w'⟩
        · rw [← hw8] at e; exact (wipe_some e).1
        · obtain ⟨o, e, _⟩ := T.obj _ _ st7 b hb
          exact (pin' b hb o e).2
      cases b with
      | false =>
        simp only [Bool.false_eq_true, if_false] at q9 ⊢
        exact fin (blkX_un I9) q9
      | true =>
        simp only [if_true] at q9 ⊢
        refine thx (pe.run _ s9 σ8 H9 _ I9 q9) fun z s10 ⟨yv, H10, I10, r10, acc, hD10, hz10, nx⟩ => ?_
        exact app_ok (X := X.blk s3 H3 scope ce fp) (blkX_un I10) hD10 hz10 r10 fun s11 I11 => fin I11 nx
  exact codeAny_compStart_list loop (T.self X.A 0 _ _ _ st4 loop)
end
/-- [e for g in wi if tt], where e may raise -/
def dLcX (W : DW) (wi : DI) (g : DTG) (tt : DTT) (te : DW → DTE) (vs : List Nat) : DTE := fun σ A Q => dLc wi g tt (te fun cls fs _ A' => W cls fs σ A') vs σ A Q
section
variable {X : Cx} {W : DW} {elt tg iter : Expr} {ifs : List Expr} {scope : Scope} {pos spos : Pos} {wi : DI} {g : DTG} {gv : TG} {tt : DTT} {te : DW → DTE}
theorem lI_grow {B : Bs} {σ : L2.St} {H : Hp} {R : It → Hp → Prop} (h : lI B wi σ H R) : lI B wi σ H fun J H1 => Grow H H1 ∧ R J H1 := let ⟨dσ, A, P, hA, hS, q, k⟩ := h; ⟨dσ, A, P, hA, hS, q, fun S A' J H' p hA' g w => ⟨g, k S A' J H' p hA' g w⟩⟩
/-- a block's context, over plain data -/
abbrev BlX (X : Cx) (scope : Scope) (Wb : DW) (s : Shared) (H : Hp) (C : Addr) (cl : List (Str × Addr)) (fp : List Addr) : Cx := BlkX X s H scope (compEnvC scope cl C X.env) fp (lW X.b Wb)
theorem qe_lcX (own : List (Str × Nat)) (hst : X.stack = X.env :: X.outer) (hf : X.env.frame = some X.env.locals) (tk : TakesD X W) (hc : X.calm = true) (hN : X.N.Nodup) (hi : QI X tg iter wi) (ok : blkC X.N X.env.scope scope own = true)
    (hg : ∀ Wb s H C cl fp, QG (BlX X scope Wb s H C cl fp) tg g (own.map (·.2)) gv) (ht : ∀ Wb s H C cl fp, QTs (BlX X scope Wb s H C cl fp) ifs tt) (he : ∀ Wb s H C cl fp, TakesD (BlX X scope Wb s H C cl fp) Wb → QE (BlX X scope Wb s H C cl fp) elt (te Wb))
    (hs : ∀ x, foldedSetIterable iter X.env x = pure x := by intro _; rfl) : QE X (.ListComp elt [⟨tg, iter, ifs, 0⟩] scope pos) (dLcX W wi g tt te (own.map (·.2))) := by
  refine ⟨fun pins s σ H Q I hq => ?_⟩
  obtain ⟨dσ, A, R, hA, hS, q, k⟩ := hq
  have z := lc_t (B := X.b) (own := own) (hg (fun cls fs _ A' => W cls fs dσ A') s H 0 [] []).im σ H Q ⟨dσ, A, R, hA, hS, q, k⟩
  rw [eval_ListComp]
  refine lcX_core (W0 := lW X.b fun cls fs _ A' => W cls fs dσ A') (Q := Q) (te := lE X.b (te fun cls fs _ A' => W cls fs dσ A')) hst hf tk hc hN I hi (blkOk_by ok) (fun s H C cl fp => (hg _ s H C cl fp).pg) (ht _) (fun s H C cl fp t => he _ s H C cl fp t) hs ?_ (lI_grow z) fun D C s' m H' I' q hn f => ⟨m, hn, fun h'' sb => ?_⟩
  · rintro cls d σ' H' ⟨dσ', A', fs, w, hA', _, xf⟩ gr
    exact ⟨dσ, A', fs, w, hA', hS.grow gr, xf⟩
  · obtain ⟨f0, f1, f2, f3, f4, f5⟩ := f
    exact ⟨.ref D, H', I'.turned (t' := s'.toks) (fun b o hb e => (sb.2 b hb).trans e) f0 f1 f3 f4 f5, rfl, q⟩
theorem qs_setLcX (i : Nat) (own : List (Str × Nat)) {y : Str} {py : Pos} (hst : X.stack = X.env :: X.outer) (hf : X.env.frame = some X.env.locals) (tk : TakesD X W) (hc : X.calm = true) (hN : X.N.Nodup) (hi : QI X tg iter wi) (ok : blkC X.N X.env.scope scope own = true)
    (hg : ∀ Wb s H C cl fp, QG (BlX X scope Wb s H C cl fp) tg g (own.map (·.2)) gv) (ht : ∀ Wb s H C cl fp, QTs (BlX X scope Wb s H C cl fp) ifs tt) (he : ∀ Wb s H C cl fp, TakesD (BlX X scope Wb s H C cl fp) Wb → QE (BlX X scope Wb s H C cl fp) elt (te Wb))
    (hsw : swapsWith (.ListComp elt [⟨tg, iter, ifs, 0⟩] scope pos) (some (.Name y py)) spos.line X.env = pure true)
    (hy : X.N[i]? = some y := by rfl) (hyl : X.env.scope.names.lookup y = some .local := by rfl) (hs : ∀ x, foldedSetIterable iter X.env x = pure x := by intro _; rfl) :
    QS X (.Assign [.Name y py] (.ListComp elt [⟨tg, iter, ifs, 0⟩] scope pos) spos) (dAsg (dLcX W wi g tt te (own.map (·.2))) (dName i)) := by
  refine ⟨fun pins s σ H D I hq => ?_⟩
  obtain ⟨dσ, A, DD, hA, hS, q, k⟩ := hq
  have q : dLc wi g tt (te fun cls fs _ A' => W cls fs dσ A') (own.map (·.2)) dσ A (fun x A1 => dName i x dσ A1 DD.nx) := q
  have z := lc_t (B := X.b) (own := own) (hg (fun cls fs _ A' => W cls fs dσ A') s H 0 [] []).im σ H (fun v H1 => gName i v σ H1 D.nx) ⟨dσ, A, _, hA, hS, q, fun d A' v H' q' hA' rd g' => k.nx _ _ _ _ q' hA' ((hS.grow g').set rd) g'⟩
  rw [exec_Assign_Name_used _ _ _ _ hsw]
  refine wpAny_bind (wpAny_standAt (wpAny_bind ?_))
  show wpAny _ X.A (do let _ ← comprehension (.ListComp elt [⟨tg, iter, ifs, 0⟩] scope pos) scope X.env (firstIterPos [⟨tg, iter, ifs, 0⟩] pos) (newList []) false (eval iter X.env) (some (assign (.Name y py) X.env))) _ _ s
  refine wpAny_bind (thn (lcX_core (W0 := lW X.b fun cls fs _ A' => W cls fs dσ A') (Qf := fun _ s' => SP X pins D .next s') (Q := fun v H1 => gName i v σ H1 D.nx) (te := lE X.b (te fun cls fs _ A' => W cls fs dσ A')) hst hf tk hc hN I hi (blkOk_by ok) (fun s H C cl fp => (hg _ s H C cl fp).pg) (ht _) (fun s H C cl fp t => he _ s H C cl fp t) hs ?_ (lI_grow z) fun L C s' m H' I' q hn f => ?_) fun _ s' hq => wpAny_pure (wpAny_pure hq))
  · rintro cls d σ' H' ⟨dσ', A', fs, w, hA', _, xf⟩ gr
    exact ⟨dσ, A', fs, w, hA', hS.grow gr, xf⟩
  · show wpAny _ _ (assign (.Name y py) X.env (.ref L)) _ _ _
    refine wpAny_assign_Name (store_ok2 (v := V.ref L) I' hN hy (.inl hyl) rfl (fun s2 I2 ⟨a, sb, ha⟩ => ?_) (.inr hyl))
    obtain ⟨f0, f1, f2, f3, f4, f5⟩ := f
    have haC : C ≠ a := ha.elim (fun z => by rw [z]; exact f1) fun z e => f4 y a z e.symm
    exact ⟨m, hn.sameBut sb haC, fun h3 sb3 => ⟨_, H', I2.turned (t' := s2.toks) (fun b o hb e => (sb3.2 b hb).trans e) f0 f1 f3 f4 f5, q⟩⟩
end
end DL
set_option Elab.async false
set_option linter.all false
set_option maxRecDepth 100000
set_option maxHeartbeats 4000000
/-! DX6: try .. except X as e, except X; e.field, isinstance(e, X). -/
namespace DL
open PySem PySem.Spec PyProof.Rows L2
/-- a statement of a def's own suite (not in a loop): its ends are told from the def's entry on -/
def lS0 (B : Bs) (H0 : Hp) (t : DTS) : TS := fun D σ H => ∃ dσ A DD, RelH B A H ∧ RelS B.K H dσ σ ∧ t DD dσ A ∧ Kd B H0 DD D
abbrev QS0 (X : Cx) (st : Stmt) (t : DTS) : Prop := PS X st (lS0 X.b X.H_0 t)
abbrev QSs0 (X : Cx) (st : List Stmt) (t : DTS) : Prop := PSs X st (lS0 X.b X.H_0 t)
section
variable {X : Cx} {st : Stmt} {sts : List Stmt} {t u : DTS}
theorem qs0_of (h : QS X st t) : QS0 X st t := ⟨fun pins s σ H D I ⟨dσ, A, DD, hA, hS, q, k⟩ => h.run pins s σ H D I ⟨dσ, A, DD, hA, hS, q, k.from (inv_grow I)⟩⟩
theorem qss0_of (h : QSs X sts t) : QSs0 X sts t := ⟨fun pins s σ H D I ⟨dσ, A, DD, hA, hS, q, k⟩ => h.run pins s σ H D I ⟨dσ, A, DD, hA, hS, q, k.from (inv_grow I)⟩⟩
theorem qss0_cons (h1 : QS0 X st t) (h2 : QSs0 X sts u) : QSs0 X (st :: sts) (dSeq t u) := by
  refine imSs (pss_cons h1 h2) ?_
  intro D σ H ⟨dσ, A, DD, hA, hS, q, k⟩
  exact ⟨dσ, A, _, hA, hS, q, ⟨fun dσ' A' σ' H' q' hA' hS' g' => ⟨dσ', A', DD, hA', hS', q', k⟩, k.rt, k.bk, k.ct⟩⟩
theorem qss0_one (h1 : QS0 X st t) : QSs0 X [st] t := pss_one h1
end
/-- .. if, within such a suite -/
theorem qs0_if {X : Cx} {c : Expr} {a b : List Stmt} {tc : DTT} {t u : DTS} {pos : Pos} (hc : QT X c tc) (ha : QSs0 X a t) (hb : QSs0 X b u) : QS0 X (.If c a b pos) (dIf tc t u) := by
  refine imS (ps_if hc ha hb) ?_
  intro D σ H ⟨dσ, A, DD, hA, hS, q, k⟩
  refine ⟨dσ, A, _, hA, hS, q, fun c A1 H1 q1 hA1 g1 => ?_⟩
  cases c with
  | true => exact iteT ⟨dσ, A1, DD, hA1, hS.grow g1, q1, k⟩
  | false => exact iteF ⟨dσ, A1, DD, hA1, hS.grow g1, q1, k⟩
/-- what the heap tells of the exception that is caught -/
def Cgt (d : Option Addr) (fs : List (String × D)) (A' A'' : AH) : Prop := (d = none ∧ fs = [] ∧ A'' = A') ∨ ∃ dd, d = some dd ∧ (∀ o, A' dd = some o → ∃ gs, o = .xd gs) ∧ A'' = up A' dd (.xd fs)
/-- except X as e (slot i): the classes cs are caught, the classes no go on -/
abbrev Cls1 := Addr × (Addr → Option Addr → DTS)
def wTryAs (cs : List Cls1) (no : List Addr) (i : Nat) (W : DW) (DD : DE) : DW := fun cls fs σ' A' =>
  (∃ c ∈ cs, cls = .ref c.1 ∧ ∀ a d A'', A' a = none → Cgt d fs A' A'' → c.2 a d { nx := fun s B => DD.nx (s.set i none) B, rt := DD.rt, bk := fun s B => DD.bk (s.set i none) B, ct := fun s B => DD.ct (s.set i none) B } (σ'.set i (some (.ref a))) A'') ∨ ∃ C ∈ no, cls = .ref C ∧ W cls fs σ' A'
def dTryAs (cs : List Cls1) (no : List Addr) (i : Nat) (tb : DW → DTS) (W : DW) : DTS := fun DD σ A => tb (wTryAs cs no i W DD) DD σ A
/-- except X -/
def wTryOnly (cs : List Cls1) (no : List Addr) (W : DW) (DD : DE) : DW := fun cls fs σ' A' =>
  (∃ c ∈ cs, cls = .ref c.1 ∧ ∀ a d A'', A' a = none → Cgt d fs A' A'' → c.2 a d DD σ' A'') ∨ ∃ C ∈ no, cls = .ref C ∧ W cls fs σ' A'
def dTryOnly (cs : List Cls1) (no : List Addr) (tb : DW → DTS) (W : DW) : DTS := fun DD σ A => tb (wTryOnly cs no W DD) DD σ A
theorem cgt_rel {B : Bs} {A' : AH} {H : Hp} {d : Option Addr} {fs : List (String × D)} (hA : RelH B A' H) (xf : XF B.K H d fs) : ∃ A'', Cgt d fs A' A'' ∧ RelH B A'' H := by
  rcases xf with ⟨rfl, rfl⟩ | ⟨dd, vs, rfl, e, r⟩
  · exact ⟨A', .inl ⟨rfl, rfl, rfl⟩, hA⟩
  · refine ⟨up A' dd (.xd fs), .inr ⟨dd, rfl, fun o q => ?_, rfl⟩, fun a o q => ?_⟩
    · have z := hA dd o q
      cases o with
      | lst xs => obtain ⟨_, z, _⟩ := z; rw [e] at z; cases z
      | dic kvs => obtain ⟨_, z, _⟩ := z; rw [e] at z; cases z
      | fdic ob kvs => obtain ⟨_, z, _⟩ := z; rw [e] at z; cases z
      | ins C fs => obtain ⟨_, _, z, _⟩ := z; rw [e] at z; cases z
      | tbl => obtain ⟨_, z, _⟩ := z; rw [e] at z; cases z
      | xd gs => exact ⟨gs, rfl⟩
    by_cases c : a = dd
    · subst c; rw [up_same] at q; cases q; exact ⟨vs, e, r⟩
    · rw [up_ne c] at q; exact hA a o q
section
variable {X : Cx} {W : DW} {x n : Str} {c : Value} {i : Nat} {cs : List Cls1} {no : List Addr} {body suite : List Stmt} {b₀ : Stmt} {np pos pos' : Pos} {tb : DW → DTS}
/-- from the layer's wish to plain data's -/
theorem takes_tr {pn : List (Addr × Obj)} {xe : Value → Shared → Prop} {V : WX} {Wd : DW} (t : Takes (X.tr pn xe) V) (h : ∀ cls d σ H, Grow X.H_0 H → lW X.b Wd cls d σ H → V cls d σ H) : TakesD (X.tr pn xe) Wd := by
  rintro u s' ⟨a, B, sI, pins, σ, H, cls, d, e, I, nb, up, sky, na, os, ag, w⟩
  exact t u s' ⟨a, B, sI, pins, σ, H, cls, d, e, I, nb, up, sky, na, os, ag, h cls d σ H (inv_grow (X := X.tr pn xe) I) w⟩
theorem body_tr (hb : ∀ Wd pn xe, TakesD (X.tr pn xe) Wd → PassesOwn (model X.prog X.w) X.A X.env xe → QSs0 (X.tr pn xe) body (tb Wd)) (V : WX) (pn : List (Addr × Obj)) (xe : Value → Shared → Prop) (t : Takes (X.tr pn xe) V) (p : PassesOwn (model X.prog X.w) X.A X.env xe) :
    PSs (X.tr pn xe) body (fun D σ H => ∃ Wd, (∀ cls d σ H, Grow X.H_0 H → lW X.b Wd cls d σ H → V cls d σ H) ∧ lS0 X.b X.H_0 (tb Wd) D σ H) :=
  ⟨fun pins s σ H D I ⟨Wd, hW, h⟩ => (hb Wd pn xe (takes_tr t hW) p).run pins s σ H D I h⟩
/-- each class that is caught, with its suite -/
def AllS (X : Cx) (c : Value) (suite : List Stmt) (cs : List Cls1) : Prop := ∀ p ∈ cs, PySem.W.exmOne X.K (.ref p.1) c = some true ∧ ∀ a oe d pn, Zc (.ref p.1) d oe → (∃ vs, oe.data = .fields vs) → QSs0 (X.suite a ((a, oe) :: pn)) suite (p.2 a d)
theorem allS_nil {suite : List Stmt} : AllS X c suite [] := fun _ h => nomatch h
theorem allS_cons {suite : List Stmt} {C : Addr} {ts : Addr → Option Addr → DTS} (h1 : PySem.W.exmOne X.K (.ref C) c = some true) (h2 : ∀ a oe d pn, Zc (.ref C) d oe → (∃ vs, oe.data = .fields vs) → QSs0 (X.suite a ((a, oe) :: pn)) suite (ts a d)) (h : AllS X c suite cs) : AllS X c suite ((C, ts) :: cs) := fun p hp => by
  rcases List.mem_cons.mp hp with rfl | hp
  · exact ⟨h1, h2⟩
  · exact h p hp
def AllN (X : Cx) (c : Value) (no : List Addr) : Prop := ∀ C ∈ no, PySem.W.exmOne X.K (.ref C) c = some false
theorem allN_nil : AllN X c [] := fun _ h => nomatch h
theorem allN_cons {C : Addr} (h1 : PySem.W.exmOne X.K (.ref C) c = some false) (h : AllN X c no) : AllN X c (C :: no) := fun p hp => by
  rcases List.mem_cons.mp hp with rfl | hp
  · exact h1
  · exact h p hp
theorem suite_tr {a : Addr} {oe : Obj} {cls : Value} {d : Option Addr} {pn : List (Addr × Obj)} {suite : List Stmt} (hsu : AllS X c suite cs) (hz : Zc cls d oe) (hv : ∃ vs, oe.data = .fields vs) :
    PSs (X.suite a ((a, oe) :: pn)) suite (fun D σ H => ∃ p ∈ cs, cls = .ref p.1 ∧ lS0 X.b X.H_0 (p.2 a d) D σ H) :=
  ⟨fun pins s σ H D I ⟨p, hp, e, h⟩ => ((hsu p hp).2 a oe d pn (by rw [← e]; exact hz) hv).run pins s σ H D I h⟩
theorem qs0_try_as (hs : X.stack = X.env :: X.outer) (hf : X.env.frame = some X.env.locals) (hN : X.N.Nodup) (tk : TakesD X W) (hc : Names X x c) (hno : AllN X c no)
    (hb : ∀ Wd pn xe, TakesD (X.tr pn xe) Wd → PassesOwn (model X.prog X.w) X.A X.env xe → QSs0 (X.tr pn xe) body (tb Wd))
    (hsu : AllS X c (b₀ :: suite) cs)
    (hi : X.N[i]? = some n := by rfl) (hln : X.env.kindOf n = some .local := by rfl) :
    QS0 X (.Try body [.ExceptHandler (some (.Name x np)) (some n) (b₀ :: suite) pos'] [] [] pos) (dTryAs cs no i tb W) := by
  refine imS (ps_try_as hs hf hN hi hln hc tk (body_tr hb) (fun a oe cls d pn hz hv => suite_tr hsu hz hv)) ?_
  intro D σ H ⟨dσ, A, DD, hA, hS, q, k⟩
  refine ⟨_, ?_, dσ, A, DD, hA, hS, q, k⟩
  rintro cls d σ1 H1 g1 ⟨dσ1, A1, fs, w, hA1, hS1, xf⟩
  rcases w with ⟨C, hC, rfl, w⟩ | ⟨C, hC, rfl, w⟩
  · refine ⟨true, (hsu C hC).1, fun _ a ha => ⟨C, hC, rfl, ?_⟩, fun z => by cases z⟩
    obtain ⟨A2, c2, r2⟩ := cgt_rel hA1 xf
    refine ⟨_, A2, _, r2, hS1.set (d := .ref a) rfl, w a d A2 (hA1.free ha) c2, ⟨fun dσ A σ H n h1 h2 h3 => k.nx _ _ _ _ n h1 h2.unset h3, k.rt, fun dσ A σ H n h1 h2 h3 => k.bk _ _ _ _ n h1 h2.unset h3, fun dσ A σ H n h1 h2 h3 => k.ct _ _ _ _ n h1 h2.unset h3⟩⟩
  · exact ⟨false, hno C hC, (fun z => nomatch z), fun _ => ⟨dσ1, A1, fs, w, hA1, hS1, xf⟩⟩
theorem qs0_try_only (hs : X.stack = X.env :: X.outer) (hf : X.env.frame = some X.env.locals) (tk : TakesD X W) (hc : Names X x c) (hno : AllN X c no)
    (hb : ∀ Wd pn xe, TakesD (X.tr pn xe) Wd → PassesOwn (model X.prog X.w) X.A X.env xe → QSs0 (X.tr pn xe) body (tb Wd))
    (hsu : AllS X c (b₀ :: suite) cs) :
    QS0 X (.Try body [.ExceptHandler (some (.Name x np)) none (b₀ :: suite) pos'] [] [] pos) (dTryOnly cs no tb W) := by
  refine imS (ps_try_only hs hf hc tk (body_tr hb) (fun a oe cls d pn hz hv => suite_tr hsu hz hv)) ?_
  intro D σ H ⟨dσ, A, DD, hA, hS, q, k⟩
  refine ⟨_, ?_, dσ, A, DD, hA, hS, q, k⟩
  rintro cls d σ1 H1 g1 ⟨dσ1, A1, fs, w, hA1, hS1, xf⟩
  rcases w with ⟨C, hC, rfl, w⟩ | ⟨C, hC, rfl, w⟩
  · refine ⟨true, (hsu C hC).1, fun _ a ha => ⟨C, hC, rfl, ?_⟩, fun z => by cases z⟩
    obtain ⟨A2, c2, r2⟩ := cgt_rel hA1 xf
    exact ⟨_, A2, _, r2, hS1, w a d A2 (hA1.free ha) c2, k⟩
  · exact ⟨false, hno C hC, (fun z => nomatch z), fun _ => ⟨dσ1, A1, fs, w, hA1, hS1, xf⟩⟩
end
/-- the facts of an own exception class, for what is asked of a caught one -/
structure ExcK (K : PySem.W.Frag) (C : Addr) : Prop where
  ga : PySem.W.findIn K (.ref C) "__getattribute__" = some (some (.builtin "BaseException.__getattribute__"))
  gg : PySem.W.findIn K (.ref C) "__getattr__" = some none
  sub : PySem.W.subIn K (.ref C) (.type "BaseException") = some true
  hd : PySem.W.hasDictIn K C = true
  cls : PySem.W.findIn K (.ref C) "__class__" = some (some (.builtin "object.__class__"))
  get : PySem.W.specialIn K (.builtin "object.__class__") "__get__" = some (some (.builtin "getset_descriptor.__get__"))
  tkc : PySem.W.takesIn K (.builtin "object.__class__") = some true
  ob : PySem.W.mroIn K C (.type "object") = some true
  ty : PySem.W.typeIn K (.ref C) = some (.type "type")
  self : PySem.W.subIn K (.ref C) (.ref C) = some true
theorem ExcK.has {K : PySem.W.Frag} {C : Addr} (E : ExcK K C) : (PySem.W.clsIn K C).isSome = true := by
  obtain ⟨cd, hc, _⟩ := PySem.W.any_some E.hd
  rw [hc]; rfl
theorem kitCls_of {K : PySem.W.Frag} {t : Value} {G : Addr} {b : Bool} (E : ExcK K G) (h : PySem.W.subIn K t (.ref G) = some b) : PySem.W.kitCls K t (.ref G) = some b := by
  unfold PySem.W.kitCls
  dsimp only
  rw [if_pos (by rw [E.has, E.ty]; rfl)]
  exact h
theorem kitOne_of {K : PySem.W.Frag} {C G : Addr} {b : Bool} (E : ExcK K G) (h : PySem.W.subIn K (.ref C) (.ref G) = some b) : PySem.W.kitOne K (.ref C) (.ref G) = some b := by
  unfold PySem.W.kitOne
  by_cases e : C = G
  · subst e
    rw [E.self] at h
    rw [if_pos (by simp)]; exact h
  · rw [if_neg (by simp [e])]
    exact kitCls_of E h
theorem exm_of {K : PySem.W.Frag} {C G : Addr} {b : Bool} (E : ExcK K G) (h : PySem.W.subIn K (.ref C) (.ref G) = some b) : PySem.W.exmOne K (.ref C) (.ref G) = some b := by
  unfold PySem.W.exmOne
  rw [if_pos (by rw [E.sub]; rfl)]
  exact kitCls_of E h
/-- e.f of the caught exception -/
def dXf (a : Addr) (d : Option Addr) (f : String) (te : DTE) : DTE := fun σ A Q => te σ A fun x A1 => x = .ref a ∧ match d with
  | some dd => match A1 dd with
    | some (.xd fs) => match getS f fs with
      | some v => Q v A1
      | none => False
    | _ => False
  | none => False
def dIsE (a : Addr) (d : Option Addr) (b : Bool) (te : DTE) : DTE := fun σ A Q => te σ A fun x A1 => x = .ref a ∧ (d = none ∨ ∃ dd fs, d = some dd ∧ A1 dd = some (.xd fs)) ∧ Q (.bl b) A1
section
variable {X : Cx} {a C : Addr} {oe : Obj} {d : Option Addr} {pn : List (Addr × Obj)} {e : Expr} {te : DTE} {pos p tp : Pos} {x : Str}
theorem qe_xf (f : String) (E : ExcK X.K C) (hno : PySem.W.findIn X.K (.ref C) (PySem.Str.ofString f) = some none) (hz : Zc (.ref C) d oe) (hf : ∃ vs, oe.data = .fields vs) (he : QE (X.suite a ((a, oe) :: pn)) e te)
    (hb : attributeBase e (PySem.Str.ofString f) X.env (eval e X.env) = eval e X.env := by rfl) : QE (X.suite a ((a, oe) :: pn)) (.Attribute e (PySem.Str.ofString f) pos) (dXf a d f te) := by
  refine imE (pe_xf ⟨E.ga, E.gg, E.sub, E.hd⟩ hno hz hf he hb) ?_
  intro σ H Q ⟨dσ, A, R, hA, hS, q, k⟩
  refine ⟨dσ, A, _, hA, hS, q, fun y A1 v H1 q1 hA1 ry g1 => ?_⟩
  obtain ⟨rfl, q1⟩ := q1
  cases ry
  refine ⟨rfl, rfl, ?_⟩
  cases d with
  | none => exact q1.elim
  | some dd =>
    revert q1
    show (match A1 dd with | some (.xd fs) => (match getS f fs with | some v => R v A1 | none => False) | _ => False) → _
    split
    · rename_i fs hq
      obtain ⟨vs, e1, rf⟩ := hA1 _ _ hq
      cases e2 : getS f fs with
      | none => exact fun z => z.elim
      | some w =>
        intro q1
        obtain ⟨v, hv, rv⟩ := rf.get e2
        exact ⟨dd, vs, v, rfl, e1, hv, k w A1 v H1 q1 hA1 rv g1⟩
    · exact fun z => z.elim
/-- isinstance of the caught exception -/
def rIsX (B : Bs) (a : Addr) (d : Option Addr) (c : V) (b : Bool) : List V → Hp → VK → Prop := fun xs H Q => xs = [.ref a, c] ∧ (d = none ∨ ∃ dd vs, d = some dd ∧ H dd = some (.xd vs)) ∧ Q (.bl b) H
theorem call_isX {c : V} {cv : Value} {b : Bool} (E : ExcK X.K C) (hz : Zc (.ref C) d oe) (hf : ∃ vs, oe.data = .fields vs) (hcv : ∀ u, RelV c u → u = cv) (hk : PySem.W.kitOne X.K (.ref C) cv = some b) : CallR (X.suite a ((a, oe) :: pn)) (.builtin "isinstance") (rIsX X.b a d c b) := by
  intro pins s σ H xs us Q I r h
  obtain ⟨rfl, hd, q⟩ := h
  cases r with
  | cons rx rr =>
    cases rr with
    | cons rt rr =>
      cases rr
      cases rx
      have ec := hcv _ rt
      subst ec
      obtain ⟨hget, _⟩ := I.pin (a, oe) (List.mem_append.mpr (.inl List.mem_cons_self))
      obtain ⟨vs, hv⟩ := hf
      obtain ⟨h1, h2⟩ := hz
      have hnc : PySem.W.notCls oe = true := by unfold PySem.W.notCls; rw [hv] <;> rfl
      obtain ⟨od, J⟩ : ∃ od, PySem.W.InstAt s.heap a oe C od := by
        rcases hd with rfl | ⟨dd, ws, rfl, e⟩
        · exact ⟨none, hget, h1, hnc, by rw [h2]; exact trivial⟩
        · have hx : ObjOk X.prog X.w H s.heap dd (.xd ws) := I.hok dd _ e
          obtain ⟨mA, ⟨o, _, _, ho, _⟩, _⟩ := hx
          exact ⟨some o, hget, h1, hnc, by rw [h2]; exact ho⟩
      exact PySem.W.kia_one (PySem.W.kitx_exc E.has E.ga E.gg E.sub E.cls E.get E.tkc E.ob) I.kIn J hk (fun z => nomatch z) fun tk => ⟨.bl b, H, I.kept (t' := tk) fun _ _ z => z, rfl, q⟩
theorem isE_t {c : V} {b : Bool} {tc : TE} (htc : ∀ σ H Q, Q c H → tc σ H Q) : ∀ σ H Q, lE X.b (dIsE a d b te) σ H Q → tCB (rIsX X.b a d c b) (tCons (lE X.b te) (tCons tc tNil)) σ H Q := by
  intro σ H Q ⟨dσ, A, R, hA, hS, q, k⟩
  refine ⟨dσ, A, _, hA, hS, q, fun y A1 v H1 q1 hA1 ry g1 => ?_⟩
  obtain ⟨rfl, hd, q1⟩ := q1
  cases ry
  refine htc σ H1 _ ⟨rfl, hd.imp id fun ⟨dd, fs, e, h⟩ => ?_, k _ _ _ _ q1 hA1 rfl g1⟩
  obtain ⟨vs, e1, _⟩ := hA1 _ _ h
  exact ⟨dd, vs, e, e1⟩
theorem qe_isE {b : Bool} {G : Addr} (E : ExcK X.K C) (hz : Zc (.ref C) d oe) (hf : ∃ vs, oe.data = .fields vs) (he : QE (X.suite a ((a, oe) :: pn)) e te) (hk : PySem.W.kitOne X.K (.ref C) (.ref G) = some b) (hg : Gl X "isinstance") (hm : X.mg "isinstance" = none) (hgx : Gl X x) (hmx : X.mg x = some (.ref G))
    (hdb : (x == ("__debug__" : Str)) = false := by decide)
    (hs : starEach [e, .Name x tp] X.env = (false, eval e X.env) :: starEach [.Name x tp] X.env := by rfl) (hpl : (backTo pos (starEach [.Name x tp] X.env)).any (·.1) = false := by rfl) (hs2 : starEach [.Name x tp] X.env = (false, eval (.Name x tp) X.env) :: starEach [] X.env := by rfl) :
    QE (X.suite a ((a, oe) :: pn)) (.Call (.Name "isinstance" p) [e, .Name x tp] [] pos) (dIsE a d b te) := by
  have pc : PE (X.suite a ((a, oe) :: pn)) (.Name x tp) (tC (.ref G)) := ⟨fun pins s σ H Q I q => ld_glob I hgx hmx ⟨.ref G, H, I, rfl, q⟩ hdb⟩
  exact imE (pe_callB (call_isX E hz hf (c := .ref G) (fun u r => r) hk) hg hm PyProof.Rows.boot_isinstance (pa_cons he (pa_cons pc pa_nil hs2) hs) (by decide) (by decide) hs hpl) (isE_t fun σ H Q q => q)
theorem qe_isEb {b : Bool} {T : String} (E : ExcK X.K C) (hz : Zc (.ref C) d oe) (hf : ∃ vs, oe.data = .fields vs) (he : QE (X.suite a ((a, oe) :: pn)) e te) (hk : PySem.W.kitOne X.K (.ref C) (.type T) = some b) (hg : Gl X "isinstance") (hm : X.mg "isinstance" = none) (hgx : Gl X x) (hmx : X.mg x = none) (hv : bootBuiltins x = some (.type T))
    (hn : x ≠ "__name__" := by decide) (hdb : (x == ("__debug__" : Str)) = false := by decide)
    (hs : starEach [e, .Name x tp] X.env = (false, eval e X.env) :: starEach [.Name x tp] X.env := by rfl) (hpl : (backTo pos (starEach [.Name x tp] X.env)).any (·.1) = false := by rfl) (hs2 : starEach [.Name x tp] X.env = (false, eval (.Name x tp) X.env) :: starEach [] X.env := by rfl) :
    QE (X.suite a ((a, oe) :: pn)) (.Call (.Name "isinstance" p) [e, .Name x tp] [] pos) (dIsE a d b te) :=
  imE (pe_callB (call_isX E hz hf (c := .ty T) (fun u r => r) hk) hg hm PyProof.Rows.boot_isinstance (pa_cons he (pa_cons (pe_bltn (v := .ty T) hgx hmx hv rfl hn hdb) pa_nil hs2) hs) (by decide) (by decide) hs hpl) (isE_t fun σ H Q q => q)
end
end DL
set_option Elab.async false
set_option linter.all false
set_option maxRecDepth 100000
set_option maxHeartbeats 4000000
/-! DX7: defs that raise, by their promises; defs with a try. -/
namespace DL
open PySem PySem.Spec PyProof.Rows L2
def CalX (P : Program) (w : World) (K : PySem.W.Frag) (mg : Str → Option Value) (base : Heap) (x : Str) (k n : Nat) (ps : List Str) (sp : DSp) : Prop :=
  ∃ f fd, FnOk P w K mg base (L2.CX P w) k f fd ps (lSp ⟨P, w, K⟩ n sp) ∧ mg x = some (.ref f) ∧ PySem.W.keepIn K (.ref f) = true ∧ L2.Binds K fd ps []
def MetX (P : Program) (w : World) (K : PySem.W.Frag) (mg : Str → Option Value) (base : Heap) (C : Addr) (m : String) (k n : Nat) (ps : List Str) (sp : DSp) : Prop :=
  ∃ f fd, Cls K C ∧ Meth K C (PySem.Str.ofString m) f ∧ FnOk P w K mg base (L2.CX P w) k f fd ps (lSp ⟨P, w, K⟩ n sp) ∧ L2.Binds K fd ps []
section
variable {X : Cx} {W : DW} {k n : Nat} {C : Addr} {ps : List Str} {sp : DSp} {x : Str} {p pos apos : Pos} {e o : Expr} {es : List Expr} {to : DTE} {t : DTA}
theorem qe_calX (F : CalX X.prog X.w X.K X.mg X.base x k n ps sp) (tk : TakesD X W) (hr : Room k X.A) (ha : QA X (e :: es) t) (hn : (e :: es).length = n := by rfl) (hg : Gl X x := by rfl)
    (hdb : (x == ("__debug__" : Str)) = false := by decide) (he : starEach (e :: es) X.env = (false, eval e X.env) :: starEach es X.env := by rfl) (hpl : (backTo pos (starEach es X.env)).any (·.1) = false := by rfl) : QE X (.Call (.Name x p) (e :: es) [] pos) (dCalX W sp t) := by
  obtain ⟨f, fd, F, hm, hk, hb⟩ := F
  exact qe_callX F tk hr hm hk hb ha hn hg hdb he hpl
theorem qe_metX (m : String) {pl : Sem Bool} (F : MetX X.prog X.w X.K X.mg X.base C m k n ps sp) (tk : TakesD X W) (hr : Room k X.A) (he : QE X o to) (ha : QA X (e :: es) t) (hn : (e :: es).length + 1 = n := by rfl)
    (hst : starEach (e :: es) X.env = (false, eval e X.env) :: starEach es X.env := by rfl) (hpl : (backTo pos (starEach es X.env)).any (·.1) = false := by rfl)
    (ht : eval (.Call (.Attribute o (PySem.Str.ofString m) apos) (e :: es) [] pos) X.env = (do
      let ov ← eval o X.env
      standAt apos.atName
      let (f, first) ← holding [ov] (getMethod ov (PySem.Str.ofString m) pl)
      callWith pos f first (backTo pos (starEach (e :: es) X.env)) (backToKw pos (keywordEach [] X.env))) := by rfl) :
    QE X (.Call (.Attribute o (PySem.Str.ofString m) apos) (e :: es) [] pos) (dMetX W C m sp to t) := by
  obtain ⟨f, fd, c, hm, F, hb⟩ := F
  exact qe_methX m c hm F tk hr hb he ha hn hst hpl ht
theorem qe_metX0 (m : String) {pl : Sem Bool} (F : MetX X.prog X.w X.K X.mg X.base C m k 1 ps sp) (tk : TakesD X W) (hr : Room k X.A) (he : QE X o to)
    (ht : eval (.Call (.Attribute o (PySem.Str.ofString m) apos) [] [] pos) X.env = (do
      let ov ← eval o X.env
      standAt apos.atName
      let (f, first) ← holding [ov] (getMethod ov (PySem.Str.ofString m) pl)
      callWith pos f first (backTo pos (starEach [] X.env)) (backToKw pos (keywordEach [] X.env))) := by rfl) :
    QE X (.Call (.Attribute o (PySem.Str.ofString m) apos) [] [] pos) (dMetX W C m sp to dNil) := by
  obtain ⟨f, fd, c, hm, F, hb⟩ := F
  exact qe_methX0 m c hm F tk hr hb he ht
end
abbrev noW : DW := fun _ _ _ _ => False
theorem takesD0 {X : Cx} : TakesD X noW := takes0.imp fun _ _ _ _ ⟨_, _, _, w, _⟩ => w.elim
theorem start_rel {B : Bs} {H : Hp} {N : List Str} {ds : List D} {vs : List V} (rl : RelL B.K H ds vs) : RelS B.K H (ds.map some ++ List.replicate (N.length - ds.length) none) (L2.start N vs) := by
  have e := rl.length
  refine ⟨by unfold L2.start; simp [e], fun i d hi => ?_⟩
  by_cases c : i < ds.length
  · rw [List.getElem?_append_left (by simpa using c), List.getElem?_map] at hi
    cases e2 : ds[i]? with
    | none => rw [e2] at hi; cases hi
    | some d' =>
      rw [e2] at hi; cases hi
      obtain ⟨v, hv, rv⟩ := rl.get e2
      refine ⟨v, ?_, rv⟩
      unfold L2.start
      rw [List.getElem?_append_left (by simpa [← e] using c), List.getElem?_map, hv]; rfl
  · rw [List.getElem?_append_right (by simpa using c), List.getElem?_replicate] at hi
    split at hi <;> cases hi
/-- THE RULE for a def that raises nothing and has a try -/
theorem fn_ok0 {P : Program} {w : World} {K : PySem.W.Frag} {mg : Str → Option Value} {base : Heap} {x qual : Str} {st : Stmt} {f : Addr} {fd : FuncData} {N ps : List Str} {k : Nat} {sp : DSp} {t : DTS} (F : Fun K x qual st f fd) (S : FnScope N ps (defScope st))
    (d : ∀ (X : Cx), (∃ cdv A outer s H E, X = (cxOf CX0 P w K mg base N qual (defScope st) f cdv A outer s H E).nox) → Room k X.A → QSs0 X (defBody st) t)
    (q : ∀ ds A R E, ds.length = ps.length → sp ds A R E → t { nx := fun _ A' => R .non A', rt := R } (ds.map some ++ List.replicate (N.length - ds.length) none) A) :
    FnOk P w K mg base CX0 (k + 1) f fd ps (lSp ⟨P, w, K⟩ ps.length sp) := by
  refine F.ok S (fun vs H Q E h => ?_) (fun cdv A outer s H vs Q E hr h => ?_)
  · obtain ⟨ds, A, R, RE, hA, rl, hl, _⟩ := h
    rw [← rl.length, hl]
  · obtain ⟨ds, A1, R, RE, hA, rl, hl, hs, k1, _⟩ := h
    exact ⟨_, d _ ⟨cdv, A, outer, s, H, E, rfl⟩ hr, ds.map some ++ List.replicate (N.length - ds.length) none, A1, _, hA, start_rel (B := ⟨P, w, K⟩) rl, q ds A1 R RE hl hs, ⟨fun dσ A' σ H' hn hA' _ g => k1 _ _ _ _ hn hA' rfl g, k1, fun _ _ _ _ z => z.elim, fun _ _ _ _ z => z.elim⟩⟩
/-- .. that may raise, too -/
theorem fn_okX0 {P : Program} {w : World} {K : PySem.W.Frag} {mg : Str → Option Value} {base : Heap} {x qual : Str} {st : Stmt} {f : Addr} {fd : FuncData} {N ps : List Str} {k : Nat} {sp : DSp} {t : DW → DTS} (F : Fun K x qual st f fd) (S : FnScope N ps (defScope st))
    (d : ∀ (X : Cx) (W : DW), (∃ cdv A outer s H E, X = cxOf (L2.CX P w) P w K mg base N qual (defScope st) f cdv A outer s H E) → TakesD X W → PassesOwn (model X.prog X.w) X.A X.env X.xe → Room k X.A → QSs0 X (defBody st) (t W))
    (q : ∀ ds A R E, ds.length = ps.length → sp ds A R E → t (fun cls fs _ A' => E cls fs A') { nx := fun _ A' => R .non A', rt := R } (ds.map some ++ List.replicate (N.length - ds.length) none) A) :
    FnOk P w K mg base (L2.CX P w) (k + 1) f fd ps (lSp ⟨P, w, K⟩ ps.length sp) := by
  refine F.okX S (fun vs H Q E h => ?_) (fun cdv A outer s H vs Q E hr h => ?_)
  · obtain ⟨ds, A, R, RE, hA, rl, hl, _⟩ := h
    rw [← rl.length, hl]
  · obtain ⟨ds, A1, R, RE, hA, rl, hl, hs, k1, k2⟩ := h
    have tk : TakesD (cxOf (L2.CX P w) P w K mg base N qual (defScope st) f cdv A outer s H E) (fun cls fs _ A' => RE cls fs A') := takes_kpx k2 (takes_of rfl rfl rfl rfl)
    exact ⟨_, d _ _ ⟨cdv, A, outer, s, H, E, rfl⟩ tk (passes_of rfl) hr, ds.map some ++ List.replicate (N.length - ds.length) none, A1, _, hA, start_rel (B := ⟨P, w, K⟩) rl, q ds A1 R RE hl hs, ⟨fun dσ A' σ H' hn hA' _ g => k1 _ _ _ _ hn hA' rfl g, k1, fun _ _ _ _ z => z.elim, fun _ _ _ _ z => z.elim⟩⟩
end DL
set_option Elab.async false
set_option linter.all false
set_option maxRecDepth 100000
set_option maxHeartbeats 4000000
/-! DX8: a for over a range, or over a list, whose suite has a try. -/
namespace DL
open PySem PySem.Spec PyProof.Rows L2
/-- what is walked does not hang on the growth of the heap -/
def lI0 (B : Bs) (wi : DI) : TI := fun σ H R => ∃ dσ A P, RelH B A H ∧ RelS B.K H dσ σ ∧ wi dσ A P ∧ ∀ S A' J H', P S A' → RelH B A' H' → Grow H H' → (∀ H0, Wlk B H0 J S) → R J H'
abbrev QI0 (X : Cx) (tg iter : Expr) (wi : DI) : Prop := PI X tg iter (lI0 X.b wi)
/-- a list by its address -/
def diL0 (te : DTE) : DI := fun σ A P => te σ A fun x A1 => match x with
  | .ref a => (∃ xs, A1 a = some (.lst xs)) ∧ P (fun A xs => A a = some (.lst xs)) A1
  | _ => False
section
variable {X : Cx} {tg iter e : Expr} {body : List Stmt} {wi : DI} {g : DTG} {gv : TG} {vs : List Nat} {tb : DTS} {te : DTE} {pos p : Pos}
theorem qs0_for (hp : PassesOwn (model X.prog X.w) X.A X.env X.xe) (hc : X.calm = true) (hi : QI0 X tg iter wi) (hg : QG X tg g vs gv) (hb : QSs0 X body tb)
    (hs : ∀ x, foldedSetIterable iter X.env x = pure x := by intro _; rfl) : QS0 X (.For tg iter body [] pos) (dFor wi g tb) := by
  refine ⟨fun pins s σ H D I ⟨dσ, A, DD, hA, hS, q, k⟩ => (ps_for hp hc hi hg.pg hb hs).run pins s σ H D I ?_⟩
  have g0 : Grow X.H_0 H := inv_grow I
  refine ⟨dσ, A, _, hA, hS, q, fun S A1 J H1 ⟨xs, I, i0, still, turn, fin⟩ hA1 g1 W => ?_⟩
  refine ⟨fun i m σ H2 => ∃ dσ A, RelH X.b A H2 ∧ RelS X.K H2 dσ σ ∧ Grow X.H_0 H2 ∧ I i dσ A ∧ i ≤ xs.length ∧ m = xs.length - i, ⟨xs.length, dσ, A1, hA1, hS.grow g1, g0.trans g1, i0, Nat.zero_le _, rfl⟩, ?_⟩
  rintro i m σ2 H2 ⟨dσ2, A2, hA2, hS2, g2, i2, hi2, rfl⟩
  have st := still i dσ2 A2 hi2 i2
  by_cases hlt : i < xs.length
  · have hx : xs[i]? = some xs[i] := by simp [hlt]
    obtain ⟨go, yl⟩ := (W H2).go A2 H2 i xs _ Grow.refl hA2 st hx
    refine .inr ⟨go, fun σ' H' => ∃ dσ A, RelH X.b A H' ∧ RelS X.K H' dσ σ' ∧ Grow X.H_0 H' ∧ I (i + 1) dσ A, fun σ' H' ⟨d', A', h1, h2, h3, h4⟩ => ⟨xs.length - (i + 1), by omega, d', A', h1, h2, h3, h4, hlt, rfl⟩, fun x H3 y => ?_⟩
    obtain ⟨hA3, g3, rx⟩ := yl x H3 y
    refine hg.im _ x dσ2 A2 σ2 H3 _ _ hA3 (hS2.grow g3) rx (turn i _ dσ2 A2 hx i2) fun dσ4 A4 σ4 H4 q4 hA4 hS4 g4 _ => ?_
    exact ⟨dσ4, A4, _, hA4, hS4, q4, ⟨fun d' A' σ' H' n h1 h2 h3 => ⟨d', A', h1, h2, h3, n⟩, k.rt, fun d' A' σ' H' n h1 h2 h3 => k.nx _ _ _ _ n h1 h2 h3, fun d' A' σ' H' n h1 h2 h3 => ⟨d', A', h1, h2, h3, n⟩⟩⟩
  · have e : i = xs.length := by omega
    subst e
    exact .inl ⟨(W H2).stop A2 H2 _ xs Grow.refl hA2 st (Nat.le_refl _), k.nx _ _ _ _ (fin dσ2 A2 i2) hA2 hS2 g2⟩
theorem qi0_range1 {a : Expr} {ta : DTA} (hm : X.mg "range" = none) (ha : QA X [a] ta) (hg : Gl X "range" := by rfl) (hs : starEach [a] X.env = [(false, eval a X.env)] := by rfl) : QI0 X tg (.Call (.Name "range" p) [a] [] pos) (diR1 ta) := by
  refine piI (pi_range1 hg hm ha hs) ?_
  intro σ H R ⟨dσ, A, P, hA, hS, q, k⟩
  refine ⟨dσ, A, _, hA, hS, q, fun ds A1 vs H1 q1 l1 hA1 rl g1 => ?_⟩
  match ds, q1, rl with
  | [.int j], q1, rl =>
    obtain ⟨v, rfl, rfl⟩ := rel1 rl
    exact ⟨j, rfl, by rw [p62]; exact q1.1.1, by rw [p62]; exact q1.1.2, k _ _ _ _ q1.2 hA1 g1 fun _ => wlk_rng⟩
theorem qi0_list (h : QE X e te) : QI0 X tg e (diL0 te) := by
  refine piI (pi_list h) ?_
  intro σ H R ⟨dσ, A, P, hA, hS, q, k⟩
  refine ⟨dσ, A, _, hA, hS, q, fun x A1 v H1 q1 hA1 rx g1 => ?_⟩
  cases x with
  | ref a =>
    cases rx
    obtain ⟨⟨xs, e1⟩, q1⟩ := q1
    obtain ⟨vs, e2, r⟩ := hA1 _ _ e1
    exact ⟨a, rfl, ⟨vs, .of e2⟩, k _ _ _ _ q1 hA1 g1 fun _ => wlk_list a⟩
  | _ => exact q1.elim
theorem qi0_range2 {a b : Expr} {ta : DTA} (hm : X.mg "range" = none) (ha : QA X [a, b] ta) (hg : Gl X "range" := by rfl) (hs : starEach [a, b] X.env = [(false, eval a X.env), (false, eval b X.env)] := by rfl) (hs2 : starEach [b] X.env = [(false, eval b X.env)] := by rfl) :
    QI0 X tg (.Call (.Name "range" p) [a, b] [] pos) (diR2 ta) := by
  refine piI (pi_range2 hg hm ha hs hs2) ?_
  intro σ H R ⟨dσ, A, P, hA, hS, q, k⟩
  refine ⟨dσ, A, _, hA, hS, q, fun ds A1 vs H1 q1 l1 hA1 rl g1 => ?_⟩
  match ds, q1, rl with
  | [.int i, .int j], q1, rl =>
    obtain ⟨v, u, rfl, rfl, rfl⟩ := rel2 rl
    exact ⟨i, j, rfl, by rw [p62]; exact ⟨q1.1.1, q1.1.2, q1.2.1.1, q1.2.1.2⟩, k _ _ _ _ q1.2.2 hA1 g1 fun _ => wlk_rng⟩
theorem qs0_while {c : Expr} {tc : DTT} (hp : PassesOwn (model X.prog X.w) X.A X.env X.xe) (hc : QT X c tc) (hb : QSs0 X body tb) : QS0 X (.While c body [] pos) (dWhile tc tb) := by
  refine ⟨fun pins s σ H D I ⟨dσ, A, DD, hA, hS, ⟨I0, ⟨m0, i0⟩, turn⟩, k⟩ => (ps_while hp hc hb).run pins s σ H D I ?_⟩
  have g0 : Grow X.H_0 H := inv_grow I
  refine ⟨fun m σ H2 => ∃ dσ A, RelH X.b A H2 ∧ RelS X.K H2 dσ σ ∧ Grow X.H_0 H2 ∧ I0 m dσ A, ⟨m0, dσ, A, hA, hS, g0, i0⟩, ?_⟩
  rintro m σ2 H2 ⟨dσ2, A2, hA2, hS2, g2, i2⟩
  refine ⟨dσ2, A2, _, hA2, hS2, turn m dσ2 A2 i2, fun b A3 H3 q3 hA3 g3 => ?_⟩
  cases b with
  | false => exact iteF (k.nx _ _ _ _ q3 hA3 (hS2.grow g3) (g2.trans g3))
  | true =>
    refine iteT ⟨fun σ' H' => ∃ m', m' < m ∧ ∃ dσ A, RelH X.b A H' ∧ RelS X.K H' dσ σ' ∧ Grow X.H_0 H' ∧ I0 m' dσ A, fun σ' H' h => h, dσ2, A3, _, hA3, hS2.grow g3, q3, ?_⟩
    exact ⟨fun d' A' σ' H' ⟨m', l, n⟩ h1 h2 h3 => ⟨m', l, d', A', h1, h2, h3, n⟩, k.rt, fun d' A' σ' H' n h1 h2 h3 => k.nx _ _ _ _ n h1 h2 h3, fun d' A' σ' H' ⟨m', l, n⟩ h1 h2 h3 => ⟨m', l, d', A', h1, h2, h3, n⟩⟩
end
end DL
set_option Elab.async false
set_option linter.all false
set_option maxRecDepth 100000
set_option maxHeartbeats 4000000
/-! DX30: split, join, int of texts. -/
namespace DL
open PySem PySem.Spec PyProof.Rows L2 TL
def fSplit : D → DRn
  | .str l, [.str t], A, Q => t ≠ [] ∧ (∀ c ∈ t, c < 256) ∧ l.length + 2 ≤ SL ∧ ∀ p, A p = none → Q (.ref p) (up A p (.lst ((spl t 0 [] l).map .str)))
  | _, _, _, _ => False
def fJoin : D → DRn
  | .str l, [.ref a], A, Q => ∃ ys : List (List Nat), A a = some (.lst (ys.map .str)) ∧ (ys.map List.length).sum + ys.length * l.length ≤ 1000000 ∧ Q (.str (joinL l ys)) A
  | _, _, _, _ => False
/-- int(x), texts too -/
def fIntT : DRn
  | [.str l], A, Q => ∃ n, intText? ⟨l.toArray⟩ = some n ∧ l.length ≤ 640 ∧ Q (.int n) A
  | _, _, _ => False
theorem spl_mem {S : List Nat} : ∀ {l : List Nat} {k : Nat} {acc z : List Nat} {c : Nat}, z ∈ spl S k acc l → c ∈ z → c ∈ acc ∨ c ∈ l
  | [], k, acc, z, c, hz, hc => by
    rw [spl_nil] at hz
    rw [List.mem_singleton.mp hz] at hc
    exact .inl hc
  | d :: l, 0, acc, z, c, hz, hc => by
    cases h : pre S (d :: l) with
    | true =>
      rw [spl_hit h] at hz
      rcases List.mem_cons.mp hz with rfl | hz
      · exact .inl hc
      · rcases spl_mem hz hc with m | m
        · cases m
        · exact .inr (List.mem_cons_of_mem _ m)
    | false =>
      rw [spl_miss h] at hz
      rcases spl_mem hz hc with m | m
      · rcases List.mem_append.mp m with m | m
        · exact .inl m
        · rw [List.mem_singleton.mp m]; exact .inr List.mem_cons_self
      · exact .inr (List.mem_cons_of_mem _ m)
  | d :: l, k + 1, acc, z, c, hz, hc => by
    have hz : z ∈ spl S k acc l := hz
    rcases spl_mem hz hc with m | m
    · exact .inl m
    · exact .inr (List.mem_cons_of_mem _ m)
theorem joinL_mem {S : List Nat} : ∀ {ps : List (List Nat)} {c : Nat}, c ∈ joinL S ps → c ∈ S ∨ ∃ p ∈ ps, c ∈ p
  | [], c, h => by cases h
  | [p], c, h => .inr ⟨p, List.mem_cons_self, h⟩
  | p :: q :: r, c, h => by
    have h : c ∈ p ++ (S ++ joinL S (q :: r)) := h
    rcases List.mem_append.mp h with h | h
    · exact .inr ⟨p, List.mem_cons_self, h⟩
    · rcases List.mem_append.mp h with h | h
      · exact .inl h
      · rcases joinL_mem h with m | ⟨z, hz, hc⟩
        · exact .inl m
        · exact .inr ⟨z, List.mem_cons_of_mem _ hz, hc⟩
theorem relL_strs {K : PySem.W.Frag} {H : Hp} : ∀ {ys : List Str} {zs : List (List Nat)}, ys.map tl = zs → (∀ z ∈ zs, ∀ c ∈ z, c < 1114112) → RelL K H (zs.map .str) (ys.map V.str)
  | [], [], _, _ => rfl
  | [], _ :: _, h, _ => by cases h
  | _ :: _, [], h, _ => by cases h
  | y :: ys, z :: zs, h, hc => by
    rw [List.map_cons] at h
    injection h with h1 h2
    exact ⟨_, _, rfl, ⟨by rw [← h1, mk_tl], hc z List.mem_cons_self⟩, relL_strs h2 fun z m => hc z (List.mem_cons_of_mem _ m)⟩
/-- a list of texts, as it lies there -/
theorem strs_of_rel {K : PySem.W.Frag} {H : Hp} : ∀ {zs : List (List Nat)} {vs : List V}, RelL K H (zs.map .str) vs → ∃ ys : List Str, vs = ys.map V.str ∧ ys.map tl = zs ∧ ∀ z ∈ zs, ∀ c ∈ z, c < 1114112
  | [], vs, h => ⟨[], h, rfl, fun _ m => nomatch m⟩
  | z :: zs, vs, h => by
    obtain ⟨v, r, rfl, ⟨rfl, hc⟩, t⟩ := h
    obtain ⟨ys, rfl, e, hc2⟩ := strs_of_rel t
    refine ⟨⟨z.toArray⟩ :: ys, rfl, by rw [List.map_cons, e], fun w m => ?_⟩
    rcases List.mem_cons.mp m with rfl | m
    · exact hc
    · exact hc2 w m
section
variable {X : Cx}
theorem m_split : DMe X "str.split" fSplit := by
  refine ⟨_, mtr_of mt_split, fun o x A R ov v H Q hA ro rx h k => ?_⟩
  unfold fSplit at h
  split at h
  · rename_i l t
    obtain ⟨v1, rfl, r1⟩ := rel1 rx
    obtain ⟨rfl, c1⟩ := ro
    obtain ⟨rfl, c2⟩ := r1
    obtain ⟨tn, tk, hl, h⟩ := h
    have kd : (⟨t.toArray⟩ : Str).cps.all (· < 256) = true := by
      show t.toArray.all (· < 256) = true
      rw [List.all_toArray, List.all_eq_true]
      exact fun c m => decide_eq_true (tk c m)
    have e := split_spl (⟨l.toArray⟩ : Str) (⟨t.toArray⟩ : Str) tn (kind_ok kd)
    refine ⟨_, _, rfl, rfl, ?_, ?_, fun p hp => ?_⟩
    · cases t with
      | nil => exact absurd rfl tn
      | cons c t => rfl
    · rw [SL_eq]
      show l.toArray.size + 2 ≤ SL
      simpa using hl
    · exact k _ _ _ _ (h p (hA.free hp)) (hA.add (u := .lst _) hp ⟨_, upd_same, relL_strs e fun z hz c hc => by
        rcases spl_mem hz hc with m | m
        · cases m
        · exact c1 c m⟩) rfl (Grow.new hp)
  · exact h.elim
theorem sum_len {ys : List Str} {zs : List (List Nat)} (h : ys.map tl = zs) : (ys.map (·.length)).sum = (zs.map List.length).sum := by
  rw [← h, List.map_map]
  congr 1
theorem m_join : DMe X "str.join" fJoin := by
  refine ⟨_, mtr_of mt_join, fun o x A R ov v H Q hA ro rx h k => ?_⟩
  unfold fJoin at h
  split at h
  · rename_i l a
    obtain ⟨v1, rfl, r1⟩ := rel1 rx
    obtain ⟨rfl, c1⟩ := ro
    cases r1
    obtain ⟨zs, ea, hz, h⟩ := h
    obtain ⟨vs, e1, r⟩ := hA _ _ ea
    obtain ⟨ys, rfl, ey, hc⟩ := strs_of_rel r
    have hl : ys.length = zs.length := by rw [← ey, List.length_map]
    refine ⟨_, _, ys, rfl, rfl, .inl (.of e1), ?_, ?_⟩
    · rw [sum_len ey, hl]
      show _ + zs.length * l.toArray.size ≤ _
      rw [List.size_toArray]
      omega
    · refine k.at (d := .str _) h hA ⟨?_, fun c m => ?_⟩
      · rw [join_eq]
        congr 1
        refine ext_tl ?_
        rw [tl_join, ey]
      · rcases joinL_mem m with m | ⟨p, mp, m⟩
        · exact c1 c m
        · exact hc p mp c m
  · exact h.elim
theorem c_intT : DCa X (.type "int") fIntT := by
  refine ⟨_, call_int_str, fun x A R v H Q hA rx h k => ?_⟩
  unfold fIntT at h
  split at h
  · obtain ⟨v, rfl, rfl, hl⟩ := rel1 rx
    obtain ⟨n, e, l640, h⟩ := h
    exact ⟨_, n, rfl, e, by show Array.size _ ≤ _; simpa using l640, k.at (d := .int _) h hA rfl⟩
  · exact h.elim
variable {o e e2 : Expr} {es : List Expr} {to : DTE} {t : DTA} {apos cpos : Pos}
theorem qe_split (ho : QE X o to) (ha : QA X (e :: es) t)
    (hfew : ((backTo cpos (starEach (e :: es) X.env)).all (fun x => !x.1) && (backToKw cpos (keywordEach [] X.env)).all (fun x => x.1.isSome)
      && decide ((e :: es).length + ([] : List Keyword).length + (if ([] : List Keyword).isEmpty then 0 else 1) < 30)) = true := by rfl)
    (hbase : attributeBase o "split" X.env (eval o X.env) = eval o X.env := by rfl) (hline : (apos.endLine == cpos.line) = true := by rfl) (hs : starEach (e :: es) X.env = (false, eval e X.env) :: starEach es X.env := by rfl) (hplain : (backTo cpos (starEach es X.env)).any (·.1) = false := by rfl) :
    QE X (.Call (.Attribute o "split" apos) (e :: es) [] cpos) (dBm isS fSplit to t) :=
  qe_bm tyS PySem.F.plainAttrs_str PySem.F.slot_str_split PySem.F.type_str_split m_split ho ha hbase hfew hline hs hplain
theorem qe_join (ho : QE X o to) (ha : QA X (e :: es) t)
    (hfew : ((backTo cpos (starEach (e :: es) X.env)).all (fun x => !x.1) && (backToKw cpos (keywordEach [] X.env)).all (fun x => x.1.isSome)
      && decide ((e :: es).length + ([] : List Keyword).length + (if ([] : List Keyword).isEmpty then 0 else 1) < 30)) = true := by rfl)
    (hbase : attributeBase o "join" X.env (eval o X.env) = eval o X.env := by rfl) (hline : (apos.endLine == cpos.line) = true := by rfl) (hs : starEach (e :: es) X.env = (false, eval e X.env) :: starEach es X.env := by rfl) (hplain : (backTo cpos (starEach es X.env)).any (·.1) = false := by rfl) :
    QE X (.Call (.Attribute o "join" apos) (e :: es) [] cpos) (dBm isS fJoin to t) :=
  qe_bm tyS PySem.F.plainAttrs_str PySem.F.slot_str_join PySem.F.type_str_join m_join ho ha hbase hfew hline hs hplain
end
end DL
set_option Elab.async false
set_option linter.all false
set_option maxRecDepth 100000
set_option maxHeartbeats 4000000
/-! DX31: for .. in enumerate(xs) whose suite has a try; a law's head with the tables of two defs. -/
namespace DL
open PySem PySem.Spec PyProof.Rows L2
theorem qi0_enum {X : Cx} {e : Expr} {p pos : Pos} {elts : List Expr} {kk : Nat} {tpos : Pos} {ta : DTA} (hm : X.mg "enumerate" = none) (ha : QA X [e] ta) (hg : Gl X "enumerate" := by rfl) (hs : starEach [e] X.env = [(false, eval e X.env)] := by rfl) :
    QI0 X (.Tuple elts kk tpos) (.Call (.Name "enumerate" p) [e] [] pos) (diE ta) := by
  refine piI (pi_enum hg hm ha hs) ?_
  intro σ H R ⟨dσ, A, P, hA, hS, q, k⟩
  refine ⟨dσ, A, _, hA, hS, q, fun ds A1 vs H1 q1 l1 hA1 rl g1 => ?_⟩
  match ds, q1, rl with
  | [.ref a], ⟨⟨xs, e1⟩, q1⟩, rl =>
    obtain ⟨v, rfl, rfl⟩ := rel1 rl
    obtain ⟨us, e2, r⟩ := hA1 _ _ e1
    refine ⟨a, us, rfl, .of e2, k _ _ _ _ q1 hA1 g1 fun _ => ⟨fun A H n xs _ hA ⟨ys, e3, e4⟩ h => ?_, fun A H n xs d _ hA ⟨ys, e3, e4⟩ hx => ?_⟩⟩
    · subst e4
      obtain ⟨us, e2, r⟩ := hA _ _ e3
      refine ⟨us, .of e2, ?_⟩
      rw [enumD_len] at h
      rw [← r.length]; exact h
    · subst e4
      obtain ⟨us, e2, r⟩ := hA _ _ e3
      obtain ⟨y, hy, rfl⟩ := enumD_get hx
      obtain ⟨v, hv, rv⟩ := r.get hy
      refine ⟨⟨us, v, .of e2, hv⟩, fun x H' ⟨T, x', ex, hT, eH, yl⟩ => ?_⟩
      subst ex eH
      have := yl us (.of e2)
      rw [hv] at this; cases this
      refine ⟨hA.new hT, Grow.new hT, ⟨T, _, rfl, .inl upd_same, ?_⟩⟩
      exact RelL.cons (by show V.int _ = V.int _; congr 1; omega) (RelL.cons (rv.grow (Grow.new hT)) RelL.nil)
/-- a law, the tables at P and U -/
def sp_lawT2 (P U : Addr) : DSp := fun ds A R _ => ∃ ns d, ds = [d] ∧ Scr A d ns ∧ ns.length ≤ 63 ∧ A P = some .tbl ∧ A U = some .tbl ∧ ∀ A', R (.bl true) A'
theorem law_spT2 {P : Program} {w : World} {K : PySem.W.Frag} {H : Hp} {a T U : Addr} {ns : List Int} (hl : ns.length ≤ 63) (hT : H T = some (.tbl #[])) (hU : H U = some (.tbl #[])) (hS : SqL K H a (ns.map V.int)) : lSp ⟨P, w, K⟩ 1 (sp_lawT2 T U) [.ref a] H (fun v _ => v = .bl true) fun _ _ _ => False := by
  have tt : ∀ {b : Addr}, (b = T ∨ b = U) → RelO ⟨P, w, K⟩ H b .tbl := fun {b} h => by
    rcases h with rfl | rfl
    · exact ⟨#[], hT, trivial⟩
    · exact ⟨#[], hU, trivial⟩
  have cst : CstAt K H a (ns.map V.int) → lSp ⟨P, w, K⟩ 1 (sp_lawT2 T U) [.ref a] H (fun v _ => v = .bl true) fun _ _ _ => False := fun hc => by
    refine ⟨[.cl (ns.map .int)], fun b => if b = T ∨ b = U then some .tbl else none, fun d _ => d = .bl true, noX, fun b o e => ?_, ⟨_, _, rfl, ⟨a, _, rfl, hc, intsRel ns⟩, rfl⟩, rfl, ⟨ns, _, rfl, .inl rfl, hl, if_pos (.inl rfl), if_pos (.inr rfl), fun _ => rfl⟩, fun d A' v H' h _ rd _ => by subst h; exact rd, fun _ _ _ _ _ z => z.elim⟩
    have e : (if b = T ∨ b = U then some AO.tbl else none) = some o := e
    by_cases c : b = T ∨ b = U
    · rw [if_pos c] at e; cases e; exact tt c
    · rw [if_neg c] at e; cases e
  rcases hS with (h | ⟨o, h⟩) | h
  · have ne : ¬ (a = T ∨ a = U) := fun e => by
      rcases e with e | e
      · rw [e, hT] at h; cases h
      · rw [e, hU] at h; cases h
    refine ⟨[.ref a], fun b => if b = T ∨ b = U then some .tbl else if b = a then some (.lst (ns.map .int)) else none, fun d _ => d = .bl true, noX, fun b o e => ?_, ⟨_, _, rfl, rfl, rfl⟩, rfl, ⟨ns, _, rfl, .inr ⟨a, rfl, by show (if a = T ∨ a = U then some AO.tbl else if a = a then some (AO.lst (ns.map .int)) else none) = _; rw [if_neg ne, if_pos rfl]⟩, hl, if_pos (.inl rfl), if_pos (.inr rfl), fun _ => rfl⟩, fun d A' v H' h _ rd _ => by subst h; exact rd, fun _ _ _ _ _ z => z.elim⟩
    have e : (if b = T ∨ b = U then some AO.tbl else if b = a then some (AO.lst (ns.map .int)) else none) = some o := e
    by_cases c : b = T ∨ b = U
    · rw [if_pos c] at e; cases e; exact tt c
    · rw [if_neg c] at e
      by_cases c2 : b = a
      · rw [if_pos c2] at e; cases e; subst c2; exact ⟨_, h, intsRel ns⟩
      · rw [if_neg c2] at e; cases e
  · exact cst (.inl ⟨o, h⟩)
  · exact cst (.inr h)
/-- the head: the tables of the defs named t and u -/
theorem walkT2 {l : PySem.W.OpenLaw} {q : Program} {loose : List Str} {XP : (Str → Option Value) → Heap → Prop} {YP : World → Heap → Prop} {d : DefRec} {K : Params → PySem.W.Frag} {k : Nat} {x t u : Str} (hn : l.most = some 63) (hdf : d.params.defaults = []) (hr : Room k callerA)
    (hY : ∀ (w : World) (h : Heap), YP w h → (K w.params).In h) (hno : ∀ p : Params, PySem.W.noTabs (K p) = true) (hrec : ((recsOf q).any fun e => e.name == t) = true) (hrec2 : ((recsOf q).any fun e => e.name == u) = true)
    (F : ∀ (w : World) (mg : Str → Option Value) (fa : Addr) (h : Heap), (K w.params).In h → h.Ns mainGlobals mg → mg d.name = some (.ref fa) → ∀ c P c2 U : Addr, (∃ (a : Addr) (o : Obj) (fd : FuncData), mg t = some (.ref a) ∧ h.get? a = some o ∧ o.data = .func fd ∧ fd.code = .ref c) →
      (∃ (a : Addr) (o : Obj) (fd : FuncData), mg u = some (.ref a) ∧ h.get? a = some o ∧ o.data = .func fd ∧ fd.code = .ref c2) →
      ∃ fd : FuncData, (∀ (s : Shared) (u : Value), BindsTo s fd ⟨[u], []⟩ [(x, u)]) ∧ ∀ base : Heap, (K w.params).In base → base.Ns mainGlobals mg → GxR.TabB base mg c P → GxR.TabB base mg c2 U → FnOk l.prog w (K w.params) mg base CX0 k fa fd [x] (lSp ⟨l.prog, w, K w.params⟩ 1 (sp_lawT2 P U))) :
    PySem.W.WalkO q loose XP YP l.row.toRowW d [] (fun f vs => PySem.call f vs) := by
  refine Att.attach_callB hn hdf fun w s₀ s₁ mg mb fa o pm cd doc a vs ns G Y ho hd hcd hmg hobj hints hlen hbits hg => ?_
  have KX := hY w _ Y
  have one : ∀ {t : Str}, ((recsOf q).any fun e => e.name == t) = true → ∃ c P : Addr, (∃ (a : Addr) (o : Obj) (fd : FuncData), mg t = some (.ref a) ∧ s₁.heap.get? a = some o ∧ o.data = .func fd ∧ fd.code = .ref c) ∧ s₁.heap.get? P = some (PySem.W.tabObj #[]) ∧ (K w.params).lookup P = none ∧ PySem.W.CodeHd s₁.heap c P := by
    intro t hrec
    obtain ⟨r, mr, er⟩ := List.any_eq_true.mp hrec
    have er : r.name = t := beq_iff_eq.mp er
    obtain ⟨ta, to, tf, c, P, h1, h2, h3, h4, h5, h6⟩ := G.T.tab r mr
    rw [er] at h1
    have hP : s₁.heap.get? P = some (PySem.W.tabObj #[]) := by
      obtain ⟨_, g5⟩ := id h6
      exact g5
    refine ⟨c, P, ⟨ta, to, tf, h1, h2, h3, h4⟩, hP, ?_, PySem.W.CodeHd.of h5 h6⟩
    cases e : (K w.params).lookup P with
    | none => rfl
    | some u =>
      have z := KX _ _ e
      rw [hP] at z
      cases z
      have := List.all_eq_true.mp (hno w.params) (P, _) (PySem.W.mem_of_lookupK e)
      exact absurd (show false = true from this) Bool.false_ne_true
  obtain ⟨c, P, ht, hP, nP, cP⟩ := one hrec
  obtain ⟨c2, U, hu, hU, nU, cU⟩ := one hrec2
  obtain ⟨fd, hb, hF⟩ := F w mg fa _ KX G.T.g hmg c P c2 U ht hu
  have two : ∀ {p : Addr × Addr} {C : Addr × Addr → Prop}, p ∈ [(c, P), (c2, U)] → C (c, P) → C (c2, U) → C p := fun {p C} m h1 h2 => by
    rcases List.mem_cons.mp m with rfl | m
    · exact h1
    · rw [List.mem_singleton.mp m]; exact h2
  refine LamX.law_callTs (cs := [(c, P), (c2, U)]) KX G.T.g G.T.b G.T.builtins G.T.nolimit hg (fun p m => two (C := fun p => s₁.heap.get? p.2 = some (PySem.W.tabObj #[])) m hP hU) (fun p m => two (C := fun p => (K w.params).lookup p.2 = none) m nP nU) (fun p m => two (C := fun p => PySem.W.CodeHd s₁.heap p.1 p.2) m cP cU) G.T.bmain hobj hints (Nat.le_trans hlen (by decide)) hr (fun base k1 k2 k3 => hF base k1 k2 ?_ ?_) hb (fun H hH hS => law_spT2 hlen (hH (c, P) (by simp)) (hH (c2, U) (by simp)) hS) fun _ _ _ z => z
  · have := k3 (c, P) (by simp)
    exact ⟨this.code, this.bm, this.gP⟩
  · have := k3 (c2, U) (by simp)
    exact ⟨this.code, this.bm, this.gP⟩
end DL
set_option Elab.async false
set_option linter.all false
set_option maxRecDepth 100000
set_option maxHeartbeats 1000000
namespace LawP
open PySem L2 DL
/-! ### what is drawn -/
/-- the box at b: its digits at dg, the place -/
structure Box (A : AH) (b dg : Addr) : Prop where
  ne : b ≠ dg
  bx : ∃ n : Int, A b = some (.lst [.ref dg, .int n]) ∧ 0 ≤ n
  dg : ∃ l : List Int, A dg = some (.lst (l.map .int))
theorem Box.keep {A A' : AH} {b dg : Addr} {W : List Addr} (x : Box A b dg) (s : Sm W A A') (h1 : b ∉ W) (h2 : dg ∉ W) : Box A' b dg :=
  ⟨x.ne, let ⟨n, e, k⟩ := x.bx; ⟨n, s b _ h1 e, k⟩, let ⟨l, e⟩ := x.dg; ⟨l, s dg _ h2 e⟩⟩
theorem Box.b_ne {A : AH} {b dg p : Addr} (x : Box A b dg) (n : A p = none) : b ≠ p := let ⟨_, e, _⟩ := x.bx; ne_nn e n
theorem Box.d_ne {A : AH} {b dg p : Addr} (x : Box A b dg) (n : A p = none) : dg ≠ p := let ⟨_, e⟩ := x.dg; ne_nn e n
theorem Box.new {A : AH} {b dg p : Addr} {o : AO} (x : Box A b dg) (n : A p = none) : Box (up A p o) b dg := x.keep (W := []) (Sm.new n) (by simp) (by simp)
theorem mIx_mem {A : AH} {a : Addr} {xs : List D} {k : Int} {Q : DQ} (h : A a = some (.lst xs)) (h0 : 0 ≤ k) (h1 : k < xs.length) (q : ∀ d ∈ xs, Q d A) : mIx (.ref a) (.int k) A Q := by
  have lt : k.toNat < xs.length := by omega
  exact mIx_lst h (d := xs[k.toNat]) (by rw [atI_nat h0 h1]; exact List.getElem?_eq_getElem lt) (q _ (List.getElem_mem lt))
def sp__law_cell : DSp := fun ds A R _ => ∃ (ns : List Int) (d : D) (k : Int), ds = [d, .int k] ∧ Scr A d ns ∧ 0 ≤ k ∧ ∀ v, R (.int v) A
theorem _root_.DL.Scr.sm {A A' : AH} {d : D} {ns : List Int} (h : Scr A d ns) (s : Sm [] A A') : Scr A' d ns := h.imp id fun ⟨a, e, k⟩ => ⟨a, e, s a _ (by simp) k⟩
def sp__law_digits : DSp := fun ds A R _ => ∃ (ns : List Int) (d : D), ds = [d, .int 0, .int 63] ∧ Scr A d ns ∧ ∀ (p : Addr) (l : List Int) (A' : AH), Sm [] A A' → A p = none → A' p = some (.lst (l.map .int)) → R (.ref p) A'
def sp__law_draw : DSp := fun ds A R _ => ∃ b dg m, ds = [.ref b, .int m] ∧ 0 < m ∧ Box A b dg ∧ ∀ v A', 0 ≤ v → v < m → Sm [b] A A' → Box A' b dg → R (.int v) A'
/-- a name -/
def Nam (d : D) : Prop := ∃ i j : Int, d = .tup [.int i, .int j]
/-- one of the nine names -/
def nineB : D → Bool
  | .tup [.int i, .int j] => decide (0 ≤ i ∧ i < 3 ∧ 0 ≤ j ∧ j < 3)
  | _ => false
def letB (c : Nat) : Bool := decide (97 ≤ c) && decide (c ≤ 122)
def wordB (most : Nat) (l : List Nat) : Bool := decide (l.length ≤ most) && l.all letB
def trgB : D → Bool
  | .tup [_, m] => nineB m
  | .int i => decide (-1000000 ≤ i ∧ i ≤ 1000000)
  | .str l => wordB 20 l
  | _ => true
def fldB : D → Bool
  | .str l => decide (1 ≤ l.length) && wordB 8 l
  | _ => false
def stpB : D → Bool
  | .tup [.int n, .int q] => decide (1 ≤ n ∧ n < 4294967296 ∧ 0 ≤ q ∧ q < 8)
  | _ => false
def chgB : D → Bool
  | .tup [s, n, f, v] => (nineB n && trgB v) && (stpB s && fldB f)
  | _ => false
def sp__law_name : DSp := fun ds A R _ => ∃ b dg, ds = [.ref b] ∧ Box A b dg ∧ ∀ v A', Nam v → nineB v = true → Sm [b] A A' → Box A' b dg → R v A'
def Fld (d : D) : Prop := ∃ l, d = .str l
def sp__law_field : DSp := fun ds A R _ => ∃ b dg, ds = [.ref b] ∧ Box A b dg ∧ ∀ v A', Fld v → fldB v = true → Sm [b] A A' → Box A' b dg → R v A'
def Wor (d : D) : Prop := d = .non ∨ (∃ i, d = .int i) ∨ (∃ l, d = .str l) ∨ ∃ n, Nam n ∧ d = .tup [.str [114, 101, 102], n]
def sp__law_worth : DSp := fun ds A R _ => ∃ b dg, ds = [.ref b] ∧ Box A b dg ∧ ∀ v A', Wor v → trgB v = true → Sm [b] A A' → Box A' b dg → R v A'
/-- _law_cell: 0 _law_script, 1 _law_k -/
def t__law_cell : DTS := dSeq (dIf (dB (dOp (mLt .Lt) (dV 1) (dCall mLen (dCons (dV 0) (dNil))))) (dRet (dOp mIx (dV 0) (dV 1))) (dNext)) (
  dRet (dC (.int 0)))
/-- _law_digits: 0 _law_script, 1 _law_first, 2 _law_last, 3 _law_digits_here, 4 _law_k, 5 _law_cell_here, 6 _law_turn, 7 _law_seed -/
def t__law_digits : DTS := dSeq (dAsg (dLst (dNil)) (dName 3)) (
  dSeq (dFor (diR2 (dCons (dV 1) (dCons (dV 2) (dNil)))) (dName 4) (dSeq (dAsg (dCal sp__law_cell (dCons (dV 0) (dCons (dV 4) (dNil)))) (dName 5)) (
  dSeq (dIf (dB (dOp (mLt .Lt) (dV 5) (dC (.int 0)))) (dAsg (dOp fSub (dC (.int 1)) (dOp fMul (dC (.int 2)) (dV 5))) (dName 5)) (dNext)) (
  dIf (dB (dOp (mLt .GtE) (dV 5) (dOp fPow (dC (.int 10)) (dC (.int 18))))) (dFor (diR1 (dCons (dC (.int 60)) (dNil))) (dName 6) (dIf (dB (dOp (mLt .Gt) (dV 5) (dC (.int 0)))) (dSeq (dDrop (dBm isL fAppend (dV 3) (dCons (dOp fMod (dCall fInt (dCons (dV 5) (dNil))) (dC (.int 1000))) (dNil)))) (
  dAsg (dOp fDiv (dV 5) (dC (.int 1000))) (dName 5))) (dNext))) (dSeq (dAsg (dOp fMod (dCall fInt (dCons (dOp fAdd (dOp fAdd (dOp fMul (dV 5) (dC (.int 48271))) (dOp fMul (dV 4) (dC (.int 69621)))) (dC (.int 11))) (dNil))) (dC (.int 2147483647))) (dName 7)) (
  dFor (diR1 (dCons (dC (.int 12)) (dNil))) (dName 6) (dSeq (dAsg (dOp fMod (dCall fInt (dCons (dOp fAdd (dOp fAdd (dOp fMul (dV 7) (dC (.int 16807))) (dOp fMul (dC (.int 7)) (dV 6))) (dC (.int 1))) (dNil))) (dC (.int 2147483647))) (dName 7)) (
  dDrop (dBm isL fAppend (dV 3) (dCons (dOp fMod (dCall fInt (dCons (dOp fDiv (dV 7) (dC (.int 997))) (dNil))) (dC (.int 1000))) (dNil))))))))))) (
  dRet (dV 3)))
/-- _law_draw: 0 _law_box, 1 _law_many, 2 _law_at -/
def t__law_draw : DTS := dSeq (dAsg (dOp mIx (dV 0) (dC (.int 1))) (dName 2)) (
  dSeq (dAsg (dOp fAdd (dV 2) (dC (.int 1))) (dgSub mSt (dV 0) (dC (.int 1)))) (
  dSeq (dIf (dB (dOp (mLt .Lt) (dV 2) (dCall mLen (dCons (dOp mIx (dV 0) (dC (.int 0))) (dNil))))) (dRet (dOp fMod (dCall fInt (dCons (dOp mIx (dOp mIx (dV 0) (dC (.int 0))) (dV 2)) (dNil))) (dV 1))) (dNext)) (
  dRet (dC (.int 0)))))
/-- _law_name: 0 _law_box -/
def t__law_name : DTS := dRet (dTup (dCons (dCal sp__law_draw (dCons (dV 0) (dCons (dC (.int 3)) (dNil)))) (dCons (dCal sp__law_draw (dCons (dV 0) (dCons (dC (.int 3)) (dNil)))) (dNil))))
/-- _law_field: 0 _law_box -/
def t__law_field : DTS := dRet (dOp mIx (dLst (dCons (dC (.str [97])) (dCons (dC (.str [98])) (dCons (dC (.str [97, 98])) (dCons (dC (.str [110, 101, 120, 116])) (dCons (dC (.str [122, 122, 122, 122, 122, 122, 122, 122])) (dNil))))))) (dCal sp__law_draw (dCons (dV 0) (dCons (dC (.int 5)) (dNil)))))
/-- _law_worth: 0 _law_box, 1 _law_kind -/
def t__law_worth : DTS := dSeq (dAsg (dCal sp__law_draw (dCons (dV 0) (dCons (dC (.int 6)) (dNil)))) (dName 1)) (
  dSeq (dIf (dB (dOp (mEq false) (dV 1) (dC (.int 0)))) (dRet (dC .non)) (dNext)) (
  dSeq (dIf (dB (dOp (mEq false) (dV 1) (dC (.int 1)))) (dRet (dOp mIx (dLst (dCons (dC (.int 0)) (dCons (dUn fNeg (dC (.int 1))) (dCons (dC (.int 7)) (dCons (dC (.int 1000000)) (dCons (dUn fNeg (dC (.int 1000000))) (dCons (dC (.int 255)) (dCons (dC (.int 256)) (dNil))))))))) (dCal sp__law_draw (dCons (dV 0) (dCons (dC (.int 7)) (dNil)))))) (dNext)) (
  dSeq (dIf (dB (dOp (mEq false) (dV 1) (dC (.int 2)))) (dRet (dOp mIx (dLst (dCons (dC (.str [])) (dCons (dC (.str [120])) (dCons (dC (.str [97, 98, 122])) (dCons (dC (.str [97, 98, 99, 100, 101, 102, 103, 104, 105, 106, 107, 108, 109, 110, 111, 112, 113, 114, 115, 116])) (dNil)))))) (dCal sp__law_draw (dCons (dV 0) (dCons (dC (.int 4)) (dNil)))))) (dNext)) (
  dRet (dTup (dCons (dC (.str [114, 101, 102])) (dCons (dCal sp__law_name (dCons (dV 0) (dNil))) (dNil))))))))

theorem q__law_cell : ∀ ds A R E, ds.length = 2 → sp__law_cell ds A R E → t__law_cell { nx := fun _ A' => R .non A', rt := R } (ds.map some ++ List.replicate (2 - ds.length) none) A := by
  rintro ds A R E - ⟨ns, d, k, rfl, sc, h0, hR⟩
  have at1 : ∀ h : k < ((ns.map D.int).length : Int), atI (ns.map D.int) k = some (.int (ns[k.toNat]'(by rw [List.length_map] at h; omega))) := fun h => by
    have lt : k.toNat < ns.length := by rw [List.length_map] at h; omega
    rw [atI_nat h0 h, List.getElem?_map, List.getElem?_eq_getElem lt]; rfl
  rcases sc with rfl | ⟨a, rfl, ha⟩
  · show t__law_cell _ [some (.cl (ns.map .int)), some (.int k)] A
    dsimp only [t__law_cell, dSeq, dIf, dAsg, dName, dRet, dRetN, dDrop, dNext, dB, dTru, dOp, dUn, dCall, dCons, dNil, dC, dV, dTup, dLst, dCal, dMet, dMak, dFld, DL.sFld, dBm, dgSub, dgTup, dgCons, dgNil, dAndT, dOrT, dNotT, dOr, dAnd, dNotE, dIsi, dSl, dNoP, dPart, dDNew, dNever, fInt, fMod, fAdd_int, fSub, fMul, fDiv, fPow, fI2, fI2C, fNeg, mLt, List.getElem?_cons_succ, List.getElem?_cons_zero, List.set_cons_zero, List.set_cons_succ]
    show (if decide (k < ((ns.map D.int).length : Int)) = true then _ else _)
    split
    · rename_i h
      exact fIx_of (x := .cl (ns.map .int)) (xs := ns.map .int) rfl (at1 (of_decide_eq_true h)) (hR _)
    · exact hR 0
  · show t__law_cell _ [some (.ref a), some (.int k)] A
    dsimp only [t__law_cell, dSeq, dIf, dAsg, dName, dRet, dRetN, dDrop, dNext, dB, dTru, dOp, dUn, dCall, dCons, dNil, dC, dV, dTup, dLst, dCal, dMet, dMak, dFld, DL.sFld, dBm, dgSub, dgTup, dgCons, dgNil, dAndT, dOrT, dNotT, dOr, dAnd, dNotE, dIsi, dSl, dNoP, dPart, dDNew, dNever, fInt, fMod, fAdd_int, fSub, fMul, fDiv, fPow, fI2, fI2C, fNeg, mLt, List.getElem?_cons_succ, List.getElem?_cons_zero, List.set_cons_zero, List.set_cons_succ]
    refine len_lst ha ?_
    show (if decide (k < ((ns.map D.int).length : Int)) = true then _ else _)
    split
    · rename_i h
      exact mIx_lst ha (at1 (of_decide_eq_true h)) (hR _)
    · exact hR 0
theorem q__law_draw : ∀ ds A R E, ds.length = 2 → sp__law_draw ds A R E → t__law_draw { nx := fun _ A' => R .non A', rt := R } (ds.map some ++ List.replicate (3 - ds.length) none) A := by
  rintro ds A R E - ⟨b, dg, m, rfl, hm, B, hR⟩
  obtain ⟨ne, ⟨n, hb, hn⟩, ⟨l, hd⟩⟩ := id B
  show t__law_draw _ [some (.ref b), some (.int m), none] A
  dsimp only [t__law_draw, dSeq, dIf, dAsg, dName, dRet, dRetN, dDrop, dNext, dB, dTru, dOp, dUn, dCall, dCons, dNil, dC, dV, dTup, dLst, dCal, dMet, dMak, dFld, DL.sFld, dBm, dgSub, dgTup, dgCons, dgNil, dAndT, dOrT, dNotT, dOr, dAnd, dNotE, dIsi, dSl, dNoP, dPart, dDNew, dNever, fInt, fMod, fAdd_int, fSub, fMul, fDiv, fPow, fI2, fI2C, fNeg, mLt, List.getElem?_cons_succ, List.getElem?_cons_zero, List.set_cons_zero, List.set_cons_succ]
  refine mIx_lst hb (d := .int n) (by rfl) ?_
  refine mSt_lst hb (j := 1) (by rfl) ?_
  have s1 : Sm [b] A (up A b (.lst [.ref dg, .int (n + 1)])) := Sm.put (by simp)
  have hb1 : up A b (.lst [.ref dg, .int (n + 1)]) b = some (.lst [.ref dg, .int (n + 1)]) := up_same
  have hd1 : up A b (.lst [.ref dg, .int (n + 1)]) dg = some (.lst (l.map .int)) := by rw [up_ne ne.symm]; exact hd
  have B1 : Box (up A b (.lst [.ref dg, .int (n + 1)])) b dg := ⟨ne, ⟨n + 1, hb1, by omega⟩, ⟨l, hd1⟩⟩
  show mIx (.ref b) (.int 0) (up A b (.lst [.ref dg, .int (n + 1)])) _
  refine mIx_lst hb1 (d := .ref dg) (by rfl) (len_lst hd1 ?_)
  show (if decide (n < ((l.map D.int).length : Int)) = true then _ else _)
  split
  · rename_i h
    have h := of_decide_eq_true h
    have lt : n.toNat < l.length := by rw [List.length_map] at h; omega
    show mIx (.ref b) (.int 0) _ _
    refine mIx_lst hb1 (d := .ref dg) (by rfl) ?_
    refine mIx_lst hd1 (d := .int l[n.toNat]) ?_ ?_
    · rw [atI_nat hn h, List.getElem?_map, List.getElem?_eq_getElem lt]; rfl
    · exact ⟨hm, hR _ _ (Int.emod_nonneg _ (by omega)) (Int.emod_lt_of_pos _ hm) s1 B1⟩
  · exact hR 0 _ (by omega) hm s1 B1
theorem q__law_name : ∀ ds A R E, ds.length = 1 → sp__law_name ds A R E → t__law_name { nx := fun _ A' => R .non A', rt := R } (ds.map some ++ List.replicate (1 - ds.length) none) A := by
  rintro ds A R E - ⟨b, dg, rfl, B, hR⟩
  show t__law_name _ [some (.ref b)] A
  dsimp only [t__law_name, dSeq, dIf, dAsg, dName, dRet, dRetN, dDrop, dNext, dB, dTru, dOp, dUn, dCall, dCons, dNil, dC, dV, dTup, dLst, dCal, dMet, dMak, dFld, DL.sFld, dBm, dgSub, dgTup, dgCons, dgNil, dAndT, dOrT, dNotT, dOr, dAnd, dNotE, dIsi, dSl, dNoP, dPart, dDNew, dNever, fInt, fMod, fAdd_int, fSub, fMul, fDiv, fPow, fI2, fI2C, fNeg, mLt, List.getElem?_cons_succ, List.getElem?_cons_zero, List.set_cons_zero, List.set_cons_succ]
  exact ⟨b, dg, 3, rfl, by decide, B, fun v A1 h1 h2 s1 B1 => ⟨b, dg, 3, rfl, by decide, B1, fun v' A2 h3 h4 s2 B2 => hR _ _ ⟨v, v', rfl⟩ (decide_eq_true ⟨h1, h2, h3, h4⟩) (s1.trans s2) B2⟩⟩
theorem q__law_field : ∀ ds A R E, ds.length = 1 → sp__law_field ds A R E → t__law_field { nx := fun _ A' => R .non A', rt := R } (ds.map some ++ List.replicate (1 - ds.length) none) A := by
  rintro ds A R E - ⟨b, dg, rfl, B, hR⟩
  show t__law_field _ [some (.ref b)] A
  dsimp only [t__law_field, dSeq, dIf, dAsg, dName, dRet, dRetN, dDrop, dNext, dB, dTru, dOp, dUn, dCall, dCons, dNil, dC, dV, dTup, dLst, dCal, dMet, dMak, dFld, DL.sFld, dBm, dgSub, dgTup, dgCons, dgNil, dAndT, dOrT, dNotT, dOr, dAnd, dNotE, dIsi, dSl, dNoP, dPart, dDNew, dNever, fInt, fMod, fAdd_int, fSub, fMul, fDiv, fPow, fI2, fI2C, fNeg, mLt, List.getElem?_cons_succ, List.getElem?_cons_zero, List.set_cons_zero, List.set_cons_succ]
  intro p hp
  refine ⟨b, dg, 5, rfl, by decide, B.new hp, fun v A1 h0 h1 s1 B1 => ?_⟩
  have e1 := s1 p _ (by simp; exact Ne.symm (B.b_ne hp)) up_same
  refine mIx_mem e1 h0 (by simpa using h1) fun d hd => hR d A1 ?_ ?_ ((Sm.new hp).trans s1) B1
  · simp only [List.mem_cons, List.not_mem_nil, or_false] at hd
    rcases hd with rfl | rfl | rfl | rfl | rfl <;> exact ⟨_, rfl⟩
  · simp only [List.mem_cons, List.not_mem_nil, or_false] at hd
    rcases hd with rfl | rfl | rfl | rfl | rfl <;> decide
theorem wlI : ∀ d ∈ [D.int 0, .int (-1), .int 7, .int 1000000, .int (-1000000), .int 255, .int 256], ∃ i, d = .int i := fun d hd => by
  simp only [List.mem_cons, List.not_mem_nil, or_false] at hd
  rcases hd with rfl | rfl | rfl | rfl | rfl | rfl | rfl <;> exact ⟨_, rfl⟩
theorem wlT : ∀ d ∈ [D.int 0, .int (-1), .int 7, .int 1000000, .int (-1000000), .int 255, .int 256], trgB d = true := by decide
theorem wlS : ∀ d ∈ [D.str [], .str [120], .str [97, 98, 122], .str [97, 98, 99, 100, 101, 102, 103, 104, 105, 106, 107, 108, 109, 110, 111, 112, 113, 114, 115, 116]], ∃ l, d = .str l := fun d hd => by
  simp only [List.mem_cons, List.not_mem_nil, or_false] at hd
  rcases hd with rfl | rfl | rfl | rfl <;> exact ⟨_, rfl⟩
theorem wlU : ∀ d ∈ [D.str [], .str [120], .str [97, 98, 122], .str [97, 98, 99, 100, 101, 102, 103, 104, 105, 106, 107, 108, 109, 110, 111, 112, 113, 114, 115, 116]], trgB d = true := by decide
theorem q__law_worth : ∀ ds A R E, ds.length = 1 → sp__law_worth ds A R E → t__law_worth { nx := fun _ A' => R .non A', rt := R } (ds.map some ++ List.replicate (2 - ds.length) none) A := by
  rintro ds A R E - ⟨b, dg, rfl, B, hR⟩
  show t__law_worth _ [some (.ref b), none] A
  dsimp only [t__law_worth, dSeq, dIf, dAsg, dName, dRet, dRetN, dDrop, dNext, dB, dTru, dOp, dUn, dCall, dCons, dNil, dC, dV, dTup, dLst, dCal, dMet, dMak, dFld, DL.sFld, dBm, dgSub, dgTup, dgCons, dgNil, dAndT, dOrT, dNotT, dOr, dAnd, dNotE, dIsi, dSl, dNoP, dPart, dDNew, dNever, fInt, fMod, fAdd_int, fSub, fMul, fDiv, fPow, fI2, fI2C, fNeg, mLt, List.getElem?_cons_succ, List.getElem?_cons_zero, List.set_cons_zero, List.set_cons_succ]
  refine ⟨b, dg, 6, rfl, by decide, B, fun k A1 _ _ s1 B1 => ?_⟩
  refine mEq_pl rfl rfl ?_
  show (if _ = true then _ else _)
  split
  · exact hR _ _ (.inl rfl) rfl s1 B1
  refine mEq_pl rfl rfl ?_
  show (if _ = true then _ else _)
  split
  · intro p hp
    refine ⟨b, dg, 7, rfl, by decide, B1.new hp, fun v A2 h0 h1 s2 B2 => ?_⟩
    have e1 := s2 p _ (by simp; exact Ne.symm (B1.b_ne hp)) up_same
    exact mIx_mem e1 h0 (by simpa using h1) fun d hd => hR d A2 (.inr (.inl (wlI d hd))) (wlT d hd) (s1.trans ((Sm.new hp).trans s2)) B2
  refine mEq_pl rfl rfl ?_
  show (if _ = true then _ else _)
  split
  · intro p hp
    refine ⟨b, dg, 4, rfl, by decide, B1.new hp, fun v A2 h0 h1 s2 B2 => ?_⟩
    have e1 := s2 p _ (by simp; exact Ne.symm (B1.b_ne hp)) up_same
    exact mIx_mem e1 h0 (by simpa using h1) fun d hd => hR d A2 (.inr (.inr (.inl (wlS d hd)))) (wlU d hd) (s1.trans ((Sm.new hp).trans s2)) B2
  · exact ⟨b, dg, rfl, B1, fun v A2 hv h9 s2 B2 => hR _ _ (.inr (.inr (.inr ⟨v, hv, rfl⟩))) h9 (s1.trans s2) B2⟩
theorem q__law_digits : ∀ ds A R E, ds.length = 3 → sp__law_digits ds A R E → t__law_digits { nx := fun _ A' => R .non A', rt := R } (ds.map some ++ List.replicate (8 - ds.length) none) A := by
  rintro ds A R E - ⟨ns, sc, rfl, hsc, hR⟩
  show t__law_digits _ [some sc, some (.int 0), some (.int 63), none, none, none, none, none] A
  dsimp only [t__law_digits, dSeq, dIf, dAsg, dName, dRet, dRetN, dDrop, dNext, dB, dTru, dOp, dUn, dCall, dCons, dNil, dC, dV, dTup, dLst, dCal, dMet, dMak, dFld, DL.sFld, dBm, dgSub, dgTup, dgCons, dgNil, dAndT, dOrT, dNotT, dOr, dAnd, dNotE, dIsi, dSl, dNoP, dPart, dDNew, dNever, fInt, fMod, fAdd_int, fSub, fMul, fDiv, fPow, fI2, fI2C, fNeg, mLt, List.getElem?_cons_succ, List.getElem?_cons_zero, List.set_cons_zero, List.set_cons_succ]
  intro p hp
  refine for_r2 (by unfold small62; omega) (by unfold small62; omega) (fun i σ A' => ∃ x4 x5 x6 x7 l, σ = [some sc, some (.int 0), some (.int 63), some (.ref p), x4, x5, x6, x7] ∧ Sm [] A A' ∧ A' p = some (.lst (List.map D.int l)) ∧ l.length ≤ 60 * i)
    ⟨none, none, none, none, [], rfl, Sm.new hp, up_same, by simp⟩ ?_ ?_ (fun _ q => q)
  · rintro i σ A1 hi ⟨x4, x5, x6, x7, l, rfl, s1, e1, hl⟩
    have hi : i < 63 := hi
    dsimp only [dSeq, dIf, dAsg, dName, dRet, dRetN, dDrop, dNext, dB, dTru, dOp, dUn, dCall, dCons, dNil, dC, dV, dTup, dLst, dCal, dMet, dMak, dFld, DL.sFld, dBm, dgSub, dgTup, dgCons, dgNil, dAndT, dOrT, dNotT, dOr, dAnd, dNotE, dIsi, dSl, dNoP, dPart, dDNew, dNever, fInt, fMod, fAdd_int, fSub, fMul, fDiv, fPow, fI2, fI2C, fNeg, mLt, List.getElem?_cons_succ, List.getElem?_cons_zero, List.set_cons_zero, List.set_cons_succ]
    refine ⟨ns, sc, 0 + i, rfl, hsc.sm s1, by omega, fun c => ?_⟩
    dsimp only [dSeq, dIf, dAsg, dName, dRet, dRetN, dDrop, dNext, dB, dTru, dOp, dUn, dCall, dCons, dNil, dC, dV, dTup, dLst, dCal, dMet, dMak, dFld, DL.sFld, dBm, dgSub, dgTup, dgCons, dgNil, dAndT, dOrT, dNotT, dOr, dAnd, dNotE, dIsi, dSl, dNoP, dPart, dDNew, dNever, fInt, fMod, fAdd_int, fSub, fMul, fDiv, fPow, fI2, fI2C, fNeg, mLt, List.getElem?_cons_succ, List.getElem?_cons_zero, List.set_cons_zero, List.set_cons_succ]
    split
    · refine ⟨.inl (by unfold smallI; omega), ?_⟩
      generalize 1 - 2 * c = c
      refine ⟨⟨by decide, by decide, by unfold smallI; omega⟩, ?_⟩
      split
      · refine for_r1 (by unfold small62; omega) (fun j σ A' => ∃ x5 x6 l, σ = [some sc, some (.int 0), some (.int 63), some (.ref p), some (.int (0 + i)), some (.int x5), x6, x7] ∧ Sm [] A A' ∧ A' p = some (.lst (List.map D.int l)) ∧ l.length ≤ 60 * i + j)
          ⟨c, x6, l, rfl, s1, e1, by omega⟩ ?_ ?_ (fun _ q => q)
        · rintro j σ A2 hj ⟨x5, y6, l2, rfl, s2, e2, hl2⟩
          have hj : j < 60 := hj
          dsimp only [dSeq, dIf, dAsg, dName, dRet, dRetN, dDrop, dNext, dB, dTru, dOp, dUn, dCall, dCons, dNil, dC, dV, dTup, dLst, dCal, dMet, dMak, dFld, DL.sFld, dBm, dgSub, dgTup, dgCons, dgNil, dAndT, dOrT, dNotT, dOr, dAnd, dNotE, dIsi, dSl, dNoP, dPart, dDNew, dNever, fInt, fMod, fAdd_int, fSub, fMul, fDiv, fPow, fI2, fI2C, fNeg, mLt, List.getElem?_cons_succ, List.getElem?_cons_zero, List.set_cons_zero, List.set_cons_succ]
          split
          · refine ⟨⟨_, e2⟩, by decide, fAppend_lst e2 (by rw [List.length_map]; show _ < 16777216; omega) ⟨by decide, ?_⟩⟩
            exact ⟨_, _, l2 ++ [x5 % 1000], rfl, s2.own hp, by rw [up_same]; simp, by simp; omega⟩
          · exact ⟨x5, _, l2, rfl, s2, e2, by omega⟩
        · rintro σ A2 ⟨x5, y6, l2, rfl, s2, e2, hl2⟩
          have hl2 : l2.length ≤ 60 * i + 60 := hl2
          exact ⟨_, _, _, _, l2, rfl, s2, e2, by omega⟩
      · refine ⟨.inr (by unfold smallI; omega), .inr (by unfold smallI; omega), by decide, for_r1 (by unfold small62; omega) (fun j σ A' => ∃ x6 sd l, σ = [some sc, some (.int 0), some (.int 63), some (.ref p), some (.int (0 + i)), some (.int c), x6, some (.int sd)] ∧ Sm [] A A' ∧ A' p = some (.lst (List.map D.int l)) ∧ l.length ≤ 60 * i + j)
          ⟨x6, _, l, rfl, s1, e1, by omega⟩ ?_ ?_ (fun _ q => q)⟩
        · rintro j σ A2 hj ⟨y6, sd, l2, rfl, s2, e2, hl2⟩
          have hj : j < 12 := hj
          dsimp only [dSeq, dIf, dAsg, dName, dRet, dRetN, dDrop, dNext, dB, dTru, dOp, dUn, dCall, dCons, dNil, dC, dV, dTup, dLst, dCal, dMet, dMak, dFld, DL.sFld, dBm, dgSub, dgTup, dgCons, dgNil, dAndT, dOrT, dNotT, dOr, dAnd, dNotE, dIsi, dSl, dNoP, dPart, dDNew, dNever, fInt, fMod, fAdd_int, fSub, fMul, fDiv, fPow, fI2, fI2C, fNeg, mLt, List.getElem?_cons_succ, List.getElem?_cons_zero, List.set_cons_zero, List.set_cons_succ]
          refine ⟨.inr (by unfold smallI; omega), .inl (by unfold smallI; omega), by decide, ⟨_, e2⟩, by decide, by decide, fAppend_lst e2 (by rw [List.length_map]; show _ < 16777216; omega) ?_⟩
          exact ⟨_, _, l2 ++ [_], rfl, s2.own hp, by rw [up_same, List.map_append]; rfl, by simp; omega⟩
        · rintro σ A2 ⟨y6, sd, l2, rfl, s2, e2, hl2⟩
          have hl2 : l2.length ≤ 60 * i + 12 := hl2
          exact ⟨_, _, _, _, l2, rfl, s2, e2, by omega⟩
    · refine ⟨⟨by decide, by decide, by unfold smallI; omega⟩, ?_⟩
      split
      · refine for_r1 (by unfold small62; omega) (fun j σ A' => ∃ x5 x6 l, σ = [some sc, some (.int 0), some (.int 63), some (.ref p), some (.int (0 + i)), some (.int x5), x6, x7] ∧ Sm [] A A' ∧ A' p = some (.lst (List.map D.int l)) ∧ l.length ≤ 60 * i + j)
          ⟨c, x6, l, rfl, s1, e1, by omega⟩ ?_ ?_ (fun _ q => q)
        · rintro j σ A2 hj ⟨x5, y6, l2, rfl, s2, e2, hl2⟩
          have hj : j < 60 := hj
          dsimp only [dSeq, dIf, dAsg, dName, dRet, dRetN, dDrop, dNext, dB, dTru, dOp, dUn, dCall, dCons, dNil, dC, dV, dTup, dLst, dCal, dMet, dMak, dFld, DL.sFld, dBm, dgSub, dgTup, dgCons, dgNil, dAndT, dOrT, dNotT, dOr, dAnd, dNotE, dIsi, dSl, dNoP, dPart, dDNew, dNever, fInt, fMod, fAdd_int, fSub, fMul, fDiv, fPow, fI2, fI2C, fNeg, mLt, List.getElem?_cons_succ, List.getElem?_cons_zero, List.set_cons_zero, List.set_cons_succ]
          split
          · refine ⟨⟨_, e2⟩, by decide, fAppend_lst e2 (by rw [List.length_map]; show _ < 16777216; omega) ⟨by decide, ?_⟩⟩
            exact ⟨_, _, l2 ++ [x5 % 1000], rfl, s2.own hp, by rw [up_same]; simp, by simp; omega⟩
          · exact ⟨x5, _, l2, rfl, s2, e2, by omega⟩
        · rintro σ A2 ⟨x5, y6, l2, rfl, s2, e2, hl2⟩
          have hl2 : l2.length ≤ 60 * i + 60 := hl2
          exact ⟨_, _, _, _, l2, rfl, s2, e2, by omega⟩
      · refine ⟨.inr (by unfold smallI; omega), .inr (by unfold smallI; omega), by decide, for_r1 (by unfold small62; omega) (fun j σ A' => ∃ x6 sd l, σ = [some sc, some (.int 0), some (.int 63), some (.ref p), some (.int (0 + i)), some (.int c), x6, some (.int sd)] ∧ Sm [] A A' ∧ A' p = some (.lst (List.map D.int l)) ∧ l.length ≤ 60 * i + j)
          ⟨x6, _, l, rfl, s1, e1, by omega⟩ ?_ ?_ (fun _ q => q)⟩
        · rintro j σ A2 hj ⟨y6, sd, l2, rfl, s2, e2, hl2⟩
          have hj : j < 12 := hj
          dsimp only [dSeq, dIf, dAsg, dName, dRet, dRetN, dDrop, dNext, dB, dTru, dOp, dUn, dCall, dCons, dNil, dC, dV, dTup, dLst, dCal, dMet, dMak, dFld, DL.sFld, dBm, dgSub, dgTup, dgCons, dgNil, dAndT, dOrT, dNotT, dOr, dAnd, dNotE, dIsi, dSl, dNoP, dPart, dDNew, dNever, fInt, fMod, fAdd_int, fSub, fMul, fDiv, fPow, fI2, fI2C, fNeg, mLt, List.getElem?_cons_succ, List.getElem?_cons_zero, List.set_cons_zero, List.set_cons_succ]
          refine ⟨.inr (by unfold smallI; omega), .inl (by unfold smallI; omega), by decide, ⟨_, e2⟩, by decide, by decide, fAppend_lst e2 (by rw [List.length_map]; show _ < 16777216; omega) ?_⟩
          exact ⟨_, _, l2 ++ [_], rfl, s2.own hp, by rw [up_same, List.map_append]; rfl, by simp; omega⟩
        · rintro σ A2 ⟨y6, sd, l2, rfl, s2, e2, hl2⟩
          have hl2 : l2.length ≤ 60 * i + 12 := hl2
          exact ⟨_, _, _, _, l2, rfl, s2, e2, by omega⟩
  · rintro σ A1 ⟨x4, x5, x6, x7, l, rfl, s1, e1, hl⟩
    exact hR p l A1 s1 hp e1
/-! ### changes -/
end LawP
set_option Elab.async false
set_option linter.all false
set_option maxRecDepth 100000
set_option maxHeartbeats 1000000
namespace LawP
open PySem L2 DL
/-! ### words in their order: the shorter first, then as lists -/
def wlt (u v : List D) : Bool := decide (u.length < v.length) || (decide (u.length = v.length) && lexW (ltD 3) u v)
theorem wlt_len {u v : List D} (h : u.length < v.length) : wlt u v = true := by unfold wlt; rw [decide_eq_true h]; rfl
theorem wlt_eq {u v : List D} (h : u.length = v.length) : wlt u v = lexW (ltD 3) u v := by
  unfold wlt
  rw [decide_eq_false (show ¬ u.length < v.length by omega), decide_eq_true h]; rfl
theorem wlt_gt {u v : List D} (h : v.length < u.length) : wlt u v = false := by
  unfold wlt
  rw [decide_eq_false (show ¬ u.length < v.length by omega), decide_eq_false (show ¬ u.length = v.length by omega)]; rfl
theorem lex_O : SrtO.Swo (lexW (ltD 3)) := lexW_swo (swo_rk 3)
theorem wlt_asym {u v : List D} (h : wlt u v = true) : wlt v u = false := by
  rcases Nat.lt_trichotomy u.length v.length with z | z | z
  · exact wlt_gt z
  · rw [wlt_eq z] at h
    rw [wlt_eq z.symm]
    exact lex_O.asym _ _ h
  · rw [wlt_gt z] at h; cases h
/-- u no later than v -/
def le (u v : List D) : Prop := wlt v u = false
theorem le_len {u v : List D} (h : le u v) : u.length ≤ v.length := by
  rcases Nat.lt_or_ge v.length u.length with z | z
  · unfold le at h; rw [wlt_len z] at h; cases h
  · exact z
theorem le_of_len {u v : List D} (h : u.length < v.length) : le u v := wlt_gt h
theorem le_refl {u : List D} : le u u := by unfold le; rw [wlt_eq rfl]; exact lex_O.refl u
theorem le_trans {u v w : List D} (h1 : le u v) (h2 : le v w) : le u w := by
  have l1 := le_len h1
  have l2 := le_len h2
  rcases Nat.lt_or_ge u.length w.length with z | z
  · exact le_of_len z
  · have e1 : u.length = v.length := by omega
    have e2 : v.length = w.length := by omega
    unfold le at h1 h2 ⊢
    rw [wlt_eq e1.symm] at h1
    rw [wlt_eq e2.symm] at h2
    rw [wlt_eq (e1.trans e2).symm]
    exact lex_O.tr _ _ _ h1 h2
theorem le_of_wlt {u v : List D} (h : wlt u v = true) : le u v := wlt_asym h
def Strs (w : List D) : Prop := ∀ d ∈ w, isStr d = true
theorem strs_key {w : List D} (h : Strs w) : isKeyN 4 (.tup w) = true := by
  show w.all (isKeyN 3) = true
  rw [List.all_eq_true]
  intro d m
  have := h d m
  cases d <;> first | rfl | cases this
theorem le_anti {u v : List D} (hu : Strs u) (hv : Strs v) (h1 : le u v) (h2 : le v u) : u = v := by
  have l1 := le_len h1
  have l2 := le_len h2
  have e : u.length = v.length := by omega
  unfold le at h1 h2
  rw [wlt_eq e.symm] at h1
  rw [wlt_eq e] at h2
  have := tri 4 (.tup u) (.tup v) (strs_key hu) (strs_key hv) h2 h1
  injection this
theorem lex_snoc {lt : D → D → Bool} (O : SrtO.Swo lt) {f g : D} : ∀ {u v : List D}, u.length = v.length → lexW lt (u ++ [f]) (v ++ [g]) = (lexW lt u v || (!lexW lt v u && lt f g))
  | [], [], _ => by
    show (if lt f g = true then true else if lt g f = true then false else false) = (false || (!false && lt f g))
    cases lt f g <;> simp
  | a :: u, b :: v, h => by
    have ih := lex_snoc O (f := f) (g := g) (u := u) (v := v) (by simpa using h)
    rw [List.cons_append, List.cons_append]
    unfold lexW
    rcases SrtO.bcase (lt a b) with q | q
    · rw [q]; simp
    · rcases SrtO.bcase (lt b a) with q' | q'
      · rw [q, q']; simp
      · rw [q, q', ih]; simp
  | [], _ :: _, h => by simp at h
  | _ :: _, [], h => by simp at h
/-- appending the same letter keeps the order -/
theorem le_snoc {u v : List D} {f : D} (h : le u v) : le (u ++ [f]) (v ++ [f]) := by
  have l := le_len h
  rcases Nat.lt_or_ge u.length v.length with z | z
  · exact le_of_len (by simp; omega)
  · have e : u.length = v.length := by omega
    unfold le at h ⊢
    rw [wlt_eq e.symm] at h
    rw [wlt_eq (by simp; omega), lex_snoc (swo_rk 3) e.symm, h, (swo_rk 3).refl f]
    simp
theorem wlt_snoc {u v : List D} {f g : D} (h : wlt u v = true) : wlt (u ++ [f]) (v ++ [g]) = true := by
  rcases Nat.lt_trichotomy u.length v.length with z | z | z
  · exact wlt_len (by simp; omega)
  · rw [wlt_eq z] at h
    rw [wlt_eq (by simp; omega), lex_snoc (swo_rk 3) z, h]; rfl
  · rw [wlt_gt z] at h; cases h
theorem wlt_last {u : List D} {f g : D} (h : ltD 3 f g = true) : wlt (u ++ [f]) (u ++ [g]) = true := by
  rw [wlt_eq (by simp), lex_snoc (swo_rk 3) rfl, h, lex_O.refl u]; rfl
/-! ### walks -/
inductive Lead (E : Nat → List (D × Nat)) (s : Nat) : List D → Nat → Prop
  | nil : Lead E s [] s
  | snoc {w : List D} {x : Nat} {f : D} {t : Nat} : Lead E s w x → (f, t) ∈ E x → Lead E s (w ++ [f]) t
def IsMin (E : Nat → List (D × Nat)) (s t : Nat) (w : List D) : Prop := Lead E s w t ∧ ∀ v, Lead E s v t → le w v
theorem Lead.exit {E : Nat → List (D × Nat)} {s : Nat} {K : Nat → Prop} (hs : K s) : ∀ {v : List D} {t : Nat}, Lead E s v t → ¬ K t → ∃ u x g y, Lead E s u x ∧ K x ∧ (g, y) ∈ E x ∧ ¬ K y ∧ le (u ++ [g]) v := by
  intro v t h
  induction h with
  | nil => intro n; exact absurd hs n
  | @snoc w x f t l m ih =>
    intro n
    by_cases kx : K x
    · exact ⟨w, x, f, t, l, kx, m, n, le_refl⟩
    · obtain ⟨u, y, g, z, a, b, c, d, e⟩ := ih kx
      refine ⟨u, y, g, z, a, b, c, d, le_trans e (le_of_len ?_)⟩
      simp
/-- the fields of each object in their order, texts -/
structure Edg (E : Nat → List (D × Nat)) (n : Nat) : Prop where
  asc : ∀ k, (E k).Pairwise fun a b => ltD 3 a.1 b.1 = true
  str : ∀ k, ∀ e ∈ E k, isStr e.1 = true
  lt : ∀ k, ∀ e ∈ E k, e.2 < n
theorem Lead.strs {E : Nat → List (D × Nat)} {s n : Nat} (H : Edg E n) {w : List D} {t : Nat} (h : Lead E s w t) : Strs w := by
  induction h with
  | nil => exact fun _ z => nomatch z
  | @snoc w x f t l m ih =>
    intro d md
    rcases List.mem_append.mp md with q | q
    · exact ih d q
    · rw [List.mem_singleton.mp q]; exact H.str x _ m
theorem IsMin.uniq {E : Nat → List (D × Nat)} {s t n : Nat} (H : Edg E n) {w v : List D} (h : IsMin E s t w) (l : Lead E s v t) (k : le v w) : v = w := le_anti (l.strs H) (h.1.strs H) k (h.2 v l)
theorem sub_lenN {α : Type} [DecidableEq α] : ∀ {l m : List α}, l.Nodup → (∀ x ∈ l, x ∈ m) → l.length ≤ m.length := by
  intro l
  induction l with
  | nil => intro m _ _; exact Nat.zero_le _
  | cons a l ih =>
    intro m nd h
    rw [List.nodup_cons] at nd
    have ma := h a List.mem_cons_self
    have := ih (m := m.erase a) nd.2 fun x mx => (List.mem_erase_of_ne (fun e => nd.1 (by rw [← e]; exact mx))).mpr (h x (List.mem_cons_of_mem _ mx))
    rw [List.length_erase_of_mem ma] at this
    have pos : 0 < m.length := List.length_pos_of_mem ma
    rw [List.length_cons]; omega
/-! ### the walk by breadth -/
def keysW (W : List (Nat × List D)) : List Nat := W.map (·.1)
def addW (W : List (Nat × List D)) (w : List D) (e : D × Nat) : List (Nat × List D) := if e.2 ∈ keysW W then W else W ++ [(e.2, w ++ [e.1])]
structure BI (E : Nat → List (D × Nat)) (n s : Nat) (W : List (Nat × List D)) (p : Nat) (done : List (D × Nat)) : Prop where
  nd : (keysW W).Nodup
  lt : ∀ k ∈ keysW W, k < n
  s0 : W[0]? = some (s, [])
  i1 : ∀ e : Nat × List D, e ∈ W → IsMin E s e.1 e.2
  i2 : W.Pairwise fun a b => wlt a.2 b.2 = true
  i3 : ∀ (i : Nat) (e : Nat × List D), W[i]? = some e → i < p → ∀ z : D × Nat, z ∈ E e.1 → z.2 ∈ keysW W
  i4 : ∀ e : Nat × List D, W[p]? = some e → ∀ z : D × Nat, z ∈ done → z.2 ∈ keysW W
  i5 : ∀ e : Nat × List D, e ∈ W → e.2 = [] ∨ ∃ (i : Nat) (a : Nat × List D) (g : D), W[i]? = some a ∧ e.2 = a.2 ++ [g] ∧ (i < p ∨ i = p ∧ ∃ z : D × Nat, z ∈ done ∧ g = z.1)
  i6 : ∀ (i : Nat) (e : Nat × List D), W[i]? = some e → e.2.length ≤ i
theorem BI.init {E : Nat → List (D × Nat)} {n s : Nat} (hs : s < n) : BI E n s [(s, [])] 0 [] where
  nd := by simp [keysW]
  lt := fun k m => by simp [keysW] at m; omega
  s0 := rfl
  i1 := fun e m => by
    rw [List.mem_singleton.mp m]
    refine ⟨.nil, fun v _ => ?_⟩
    cases v with
    | nil => exact le_refl
    | cons a v => exact le_of_len (by simp)
  i2 := List.pairwise_singleton _ _
  i3 := fun _ _ _ h => absurd h (by omega)
  i4 := fun _ _ _ z => nomatch z
  i5 := fun e m => .inl (by rw [List.mem_singleton.mp m])
  i6 := fun i e h => by
    cases i with
    | zero => cases h; exact Nat.zero_le _
    | succ i => simp at h
theorem BI.mem {E : Nat → List (D × Nat)} {n s p : Nat} {W : List (Nat × List D)} {done : List (D × Nat)} (B : BI E n s W p done) {k : Nat} (h : k ∈ keysW W) : ∃ (i : Nat) (e : Nat × List D), W[i]? = some e ∧ e.1 = k := by
  obtain ⟨e, me, ek⟩ := List.mem_map.mp h
  obtain ⟨i, hi, ei⟩ := List.getElem_of_mem me
  exact ⟨i, e, by rw [List.getElem?_eq_getElem hi, ei], ek⟩
theorem BI.len {E : Nat → List (D × Nat)} {n s p : Nat} {W : List (Nat × List D)} {done : List (D × Nat)} (B : BI E n s W p done) : W.length ≤ n := by
  have h : ∀ (l : List Nat), l.Nodup → (∀ k ∈ l, k < n) → l.length ≤ n := fun l nd hl => by
    have := sub_lenN nd (m := List.range n) fun k m => List.mem_range.mpr (hl k m)
    rwa [List.length_range] at this
  have := h _ B.nd B.lt
  unfold keysW at this
  rwa [List.length_map] at this
/-- one edge more of the object at place p -/
theorem BI.edge {E : Nat → List (D × Nat)} {n s p : Nat} (H : Edg E n) {W : List (Nat × List D)} {done rest : List (D × Nat)} {e : D × Nat} {a : Nat × List D} (B : BI E n s W p done) (ha : W[p]? = some a) (he : E a.1 = done ++ e :: rest) : BI E n s (addW W a.2 e) p (done ++ [e]) := by
  have lp := (List.getElem?_eq_some_iff.mp ha).1
  have me : e ∈ E a.1 := by rw [he]; simp
  have asc := H.asc a.1
  rw [he] at asc
  have lo : ∀ z ∈ done, ltD 3 z.1 e.1 = true := fun z m => (List.pairwise_append.mp asc).2.2 z m e (by simp)
  have hi : ∀ z ∈ rest, ltD 3 e.1 z.1 = true := fun z m => (List.pairwise_cons.mp (List.pairwise_append.mp asc).2.1).1 z m
  unfold addW
  by_cases h : e.2 ∈ keysW W
  · rw [if_pos h]
    refine { B with i4 := fun b hb z m => ?_, i5 := fun b mb => ?_ }
    · rcases List.mem_append.mp m with m | m
      · exact B.i4 b hb z m
      · rw [List.mem_singleton.mp m]; exact h
    · rcases B.i5 b mb with q | ⟨i, c, g, q1, q2, q3⟩
      · exact .inl q
      · refine .inr ⟨i, c, g, q1, q2, ?_⟩
        rcases q3 with q | ⟨q, z, mz, q'⟩
        · exact .inl q
        · exact .inr ⟨q, z, List.mem_append_left _ mz, q'⟩
  · rw [if_neg h]
    have ks : keysW (W ++ [(e.2, a.2 ++ [e.1])]) = keysW W ++ [e.2] := by unfold keysW; rw [List.map_append]; rfl
    have old : ∀ {i : Nat} {b : Nat × List D}, (W ++ [(e.2, a.2 ++ [e.1])])[i]? = some b → (i < W.length ∧ W[i]? = some b) ∨ (i = W.length ∧ b = (e.2, a.2 ++ [e.1])) := fun {i b} hb => by
      rcases Nat.lt_or_ge i W.length with z | z
      · rw [List.getElem?_append_left z] at hb; exact .inl ⟨z, hb⟩
      · rw [List.getElem?_append_right z] at hb
        have : i - W.length = 0 := by
          rcases Nat.eq_zero_or_pos (i - W.length) with q | q
          · exact q
          · rw [List.getElem?_eq_none (by simp; omega)] at hb; cases hb
        rw [this] at hb
        cases hb
        exact .inr ⟨by omega, rfl⟩
    have keep : ∀ {i : Nat} {b : Nat × List D}, W[i]? = some b → (W ++ [(e.2, a.2 ++ [e.1])])[i]? = some b := fun {i b} hb => by
      rw [List.getElem?_append_left (List.getElem?_eq_some_iff.mp hb).1]; exact hb
    refine { nd := ?_, lt := ?_, s0 := keep B.s0, i1 := ?_, i2 := ?_, i3 := ?_, i4 := ?_, i5 := ?_, i6 := ?_ }
    · rw [ks, List.nodup_append]
      exact ⟨B.nd, by simp, fun x mx y my => by rw [List.mem_singleton.mp my]; intro z; rw [z] at mx; exact h mx⟩
    · rw [ks]
      intro k m
      rcases List.mem_append.mp m with m | m
      · exact B.lt k m
      · rw [List.mem_singleton.mp m]; exact H.lt _ _ me
    · intro b mb
      rcases List.mem_append.mp mb with mb | mb
      · exact B.i1 b mb
      · rw [List.mem_singleton.mp mb]
        have ma := B.i1 a (List.mem_of_getElem? ha)
        refine ⟨.snoc ma.1 me, fun v lv => ?_⟩
        obtain ⟨u, x, g, y, lu, kx, mg, ky, hle⟩ := lv.exit (K := fun k => k ∈ keysW W) (List.mem_map.mpr ⟨_, List.mem_of_getElem? B.s0, rfl⟩) h
        refine le_trans ?_ hle
        obtain ⟨i, c, hc, ec⟩ := B.mem kx
        subst ec
        have mc := B.i1 c (List.mem_of_getElem? hc)
        refine le_trans ?_ (le_snoc (mc.2 u lu))
        rcases Nat.lt_trichotomy i p with z | z | z
        · exact absurd (B.i3 i c hc z _ mg) ky
        · subst z
          rw [ha] at hc
          cases hc
          rw [he] at mg
          rcases List.mem_append.mp mg with q | q
          · exact absurd (B.i4 a ha _ q) ky
          · rcases List.mem_cons.mp q with q | q
            · rw [← q]; exact le_refl
            · exact le_of_wlt (wlt_last (hi _ q))
        · have := List.pairwise_iff_getElem.mp B.i2 p i lp (List.getElem?_eq_some_iff.mp hc).1 z
          rw [(List.getElem?_eq_some_iff.mp ha).2, (List.getElem?_eq_some_iff.mp hc).2] at this
          exact le_of_wlt (wlt_snoc this)
    · rw [List.pairwise_append]
      refine ⟨B.i2, List.pairwise_singleton _ _, fun b mb c mc => ?_⟩
      rw [List.mem_singleton.mp mc]
      rcases B.i5 b mb with q | ⟨i, d, g, q1, q2, q3⟩
      · rw [q]; exact wlt_len (by simp)
      · rw [q2]
        rcases q3 with q | ⟨q, z, mz, q'⟩
        · have := List.pairwise_iff_getElem.mp B.i2 i p (List.getElem?_eq_some_iff.mp q1).1 lp q
          rw [(List.getElem?_eq_some_iff.mp ha).2, (List.getElem?_eq_some_iff.mp q1).2] at this
          exact wlt_snoc this
        · subst q
          rw [ha] at q1
          cases q1
          rw [q']
          exact wlt_last (lo z mz)
    · intro i b hb hip z mz
      rw [ks]
      rcases old hb with ⟨_, q⟩ | ⟨q, _⟩
      · exact List.mem_append_left _ (B.i3 i b q hip z mz)
      · omega
    · intro b hb z mz
      rw [ks]
      rcases List.mem_append.mp mz with q | q
      · exact List.mem_append_left _ (B.i4 a ha z q)
      · rw [List.mem_singleton.mp q]; simp
    · intro b mb
      rcases List.mem_append.mp mb with mb | mb
      · rcases B.i5 b mb with q | ⟨i, c, g, q1, q2, q3⟩
        · exact .inl q
        · refine .inr ⟨i, c, g, keep q1, q2, ?_⟩
          rcases q3 with q | ⟨q, z, mz, q'⟩
          · exact .inl q
          · exact .inr ⟨q, z, List.mem_append_left _ mz, q'⟩
      · rw [List.mem_singleton.mp mb]
        exact .inr ⟨p, a, e.1, keep ha, rfl, .inr ⟨rfl, e, by simp, rfl⟩⟩
    · intro i b hb
      rcases old hb with ⟨_, q⟩ | ⟨q, q'⟩
      · exact B.i6 i b q
      · rw [q']
        have := B.i6 p a ha
        simp
        omega
/-- all edges of the object at place p are done -/
theorem BI.next {E : Nat → List (D × Nat)} {n s p : Nat} {W : List (Nat × List D)} {a : Nat × List D} (B : BI E n s W p (E a.1)) (ha : W[p]? = some a) : BI E n s W (p + 1) [] := by
  refine { B with i3 := fun i b hb hi z mz => ?_, i4 := fun _ _ _ z => (nomatch z), i5 := fun b mb => ?_ }
  · rcases Nat.lt_or_ge i p with q | q
    · exact B.i3 i b hb q z mz
    · have : i = p := by omega
      subst this
      rw [ha] at hb
      cases hb
      exact B.i4 a ha z mz
  · rcases B.i5 b mb with q | ⟨i, c, g, q1, q2, q3⟩
    · exact .inl q
    · refine .inr ⟨i, c, g, q1, q2, .inl ?_⟩
      rcases q3 with q | ⟨q, _⟩ <;> omega
theorem BI.found {E : Nat → List (D × Nat)} {n s p : Nat} {W : List (Nat × List D)} (B : BI E n s W p []) {i t : Nat} {w : List D} (h : W[i]? = some (t, w)) : IsMin E s t w ∧ w.length ≤ n := by
  refine ⟨B.i1 _ (List.mem_of_getElem? h), ?_⟩
  have h1 := B.i6 i _ h
  have h2 := (List.getElem?_eq_some_iff.mp h).1
  have h3 := B.len
  dsimp only at h1
  omega
theorem BI.lost {E : Nat → List (D × Nat)} {n s p : Nat} {W : List (Nat × List D)} (B : BI E n s W p []) (hp : W.length ≤ p) {t : Nat} (h : t ∉ keysW W) {v : List D} : ¬ Lead E s v t := fun l => by
  obtain ⟨u, x, g, y, _, kx, mg, ky, _⟩ := l.exit (K := fun k => k ∈ keysW W) (List.mem_map.mpr ⟨_, List.mem_of_getElem? B.s0, rfl⟩) h
  obtain ⟨i, c, hc, ec⟩ := B.mem kx
  subst ec
  have := (List.getElem?_eq_some_iff.mp hc).1
  exact ky (B.i3 i c hc (by omega) _ mg)
end LawP
set_option Elab.async false
set_option linter.all false
set_option maxRecDepth 100000
set_option maxHeartbeats 1000000
namespace LawP
open PySem L2 DL
/-! ### the law's own search: making paths better, turn by turn -/
abbrev Bst := List (Option (List D))
def relE (b : Bst) (k : Nat) (e : D × Nat) : Bst := match b[k]? with
  | some (some u) => match b[e.2]? with
    | some (some v) => if wlt (u ++ [e.1]) v = true then b.set e.2 (some (u ++ [e.1])) else b
    | _ => b.set e.2 (some (u ++ [e.1]))
  | _ => b
def relN (E : Nat → List (D × Nat)) (b : Bst) (k : Nat) : Bst := (E k).foldl (fun b e => relE b k e) b
def turn (E : Nat → List (D × Nat)) (n : Nat) (b : Bst) : Bst := (List.range n).foldl (relN E) b
def turns (E : Nat → List (D × Nat)) (n : Nat) (b : Bst) : Nat → Bst
  | 0 => b
  | i + 1 => turn E n (turns E n b i)
def LeB (b b' : Bst) : Prop := b'.length = b.length ∧ ∀ (t : Nat) (w : List D), b[t]? = some (some w) → ∃ w', b'[t]? = some (some w') ∧ le w' w
theorem LeB.refl {b : Bst} : LeB b b := ⟨rfl, fun t w h => ⟨w, h, le_refl⟩⟩
theorem LeB.trans {a b c : Bst} (h : LeB a b) (k : LeB b c) : LeB a c := ⟨k.1.trans h.1, fun t w e => by
  obtain ⟨w1, e1, l1⟩ := h.2 t w e
  obtain ⟨w2, e2, l2⟩ := k.2 t w1 e1
  exact ⟨w2, e2, le_trans l2 l1⟩⟩
def Snd (E : Nat → List (D × Nat)) (s : Nat) (b : Bst) : Prop := ∀ (t : Nat) (w : List D), b[t]? = some (some w) → Lead E s w t
theorem set_at {b : Bst} {t t' : Nat} {x : Option (List D)} {w : List D} (h : (b.set t x)[t']? = some (some w)) : (t' = t ∧ x = some w) ∨ (t' ≠ t ∧ b[t']? = some (some w)) := by
  by_cases e : t = t'
  · subst e
    rw [List.getElem?_set_self'] at h
    cases hb : b[t]? with
    | none => rw [hb] at h; cases h
    | some y => rw [hb] at h; exact .inl ⟨rfl, by simpa using h⟩
  · rw [List.getElem?_set_ne e] at h
    exact .inr ⟨fun z => e z.symm, h⟩
theorem relE_le {b : Bst} {k : Nat} {e : D × Nat} : LeB b (relE b k e) := by
  unfold relE
  split
  · rename_i u hu
    split
    · rename_i v hv
      split
      · rename_i hw
        refine ⟨List.length_set, fun t w ht => ?_⟩
        by_cases c : e.2 = t
        · subst c
          rw [hv] at ht
          cases ht
          exact ⟨_, by rw [List.getElem?_set_self (List.getElem?_eq_some_iff.mp hv).1], le_of_wlt hw⟩
        · exact ⟨w, by rw [List.getElem?_set_ne c]; exact ht, le_refl⟩
      · exact LeB.refl
    · rename_i hn
      refine ⟨List.length_set, fun t w ht => ?_⟩
      by_cases c : e.2 = t
      · subst c
        exact absurd ht (hn w)
      · exact ⟨w, by rw [List.getElem?_set_ne c]; exact ht, le_refl⟩
  · exact LeB.refl
theorem relE_snd {E : Nat → List (D × Nat)} {s : Nat} {b : Bst} {k : Nat} {e : D × Nat} (h : Snd E s b) (me : e ∈ E k) : Snd E s (relE b k e) := by
  unfold relE
  split
  · rename_i u hu
    have l : Lead E s (u ++ [e.1]) e.2 := .snoc (h k u hu) me
    have : Snd E s (b.set e.2 (some (u ++ [e.1]))) := fun t w ht => by
      rcases set_at ht with ⟨rfl, q⟩ | ⟨_, q⟩
      · cases q; exact l
      · exact h t w q
    split
    · split
      · exact this
      · exact h
    · exact this
  · exact h
theorem relE_prog {b : Bst} {k : Nat} {e : D × Nat} {u : List D} (hu : b[k]? = some (some u)) (he : e.2 < b.length) : ∃ w, (relE b k e)[e.2]? = some (some w) ∧ le w (u ++ [e.1]) := by
  unfold relE
  rw [hu]
  dsimp only
  split
  · rename_i v hv
    split
    · exact ⟨_, List.getElem?_set_self he, le_refl⟩
    · rename_i hw
      exact ⟨v, hv, by unfold le; simpa using hw⟩
  · exact ⟨_, List.getElem?_set_self he, le_refl⟩
theorem fold_le {α : Type} {f : Bst → α → Bst} (h : ∀ b x, LeB b (f b x)) : ∀ (l : List α) (b : Bst), LeB b (l.foldl f b)
  | [], b => LeB.refl
  | x :: l, b => (h b x).trans (fold_le h l _)
theorem fold_snd {E : Nat → List (D × Nat)} {s k : Nat} : ∀ {es : List (D × Nat)} {b : Bst}, (∀ e ∈ es, e ∈ E k) → Snd E s b → Snd E s (es.foldl (fun b e => relE b k e) b)
  | [], _, _, h => h
  | e :: es, b, m, h => fold_snd (es := es) (fun x mx => m x (List.mem_cons_of_mem _ mx)) (relE_snd h (m e List.mem_cons_self))
theorem relN_le {E : Nat → List (D × Nat)} (b : Bst) (k : Nat) : LeB b (relN E b k) := fold_le (fun b x => relE_le) _ _
theorem turn_le {E : Nat → List (D × Nat)} {n : Nat} (b : Bst) : LeB b (turn E n b) := fold_le relN_le _ _
theorem turn_snd {E : Nat → List (D × Nat)} {s n : Nat} {b : Bst} (h : Snd E s b) : Snd E s (turn E n b) := by
  have : ∀ (l : List Nat) (b : Bst), Snd E s b → Snd E s (l.foldl (relN E) b) := by
    intro l
    induction l with
    | nil => intro b h; exact h
    | cons k l ih => intro b h; exact ih _ (fold_snd (fun _ m => m) h)
  exact this _ _ h
theorem fold_prog {k : Nat} : ∀ {es : List (D × Nat)} {b : Bst} {u : List D}, b[k]? = some (some u) → (∀ e ∈ es, e.2 < b.length) → ∀ e ∈ es, ∃ w, (es.foldl (fun b e => relE b k e) b)[e.2]? = some (some w) ∧ le w (u ++ [e.1])
  | [], _, _, _, _, _, m => nomatch m
  | x :: es, b, u, hu, hl, e, m => by
    rw [List.foldl_cons]
    rcases List.mem_cons.mp m with rfl | m
    · obtain ⟨w, h1, h2⟩ := relE_prog hu (hl e List.mem_cons_self)
      obtain ⟨w', h3, h4⟩ := (fold_le (f := fun b e => relE b k e) (fun b x => relE_le) es (relE b k e)).2 _ _ h1
      exact ⟨w', h3, le_trans h4 h2⟩
    · obtain ⟨u', h1, h2⟩ := (relE_le (b := b) (k := k) (e := x)).2 _ _ hu
      obtain ⟨w, h3, h4⟩ := fold_prog (es := es) h1 (fun y my => by rw [relE_le.1]; exact hl y (List.mem_cons_of_mem _ my)) e m
      exact ⟨w, h3, le_trans h4 (le_snoc h2)⟩
theorem turn_prog {E : Nat → List (D × Nat)} {n : Nat} (H : Edg E n) {k : Nat} : ∀ {ks : List Nat} {b : Bst} {u : List D}, b.length = n → b[k]? = some (some u) → k ∈ ks → ∀ e ∈ E k, ∃ w, (ks.foldl (relN E) b)[e.2]? = some (some w) ∧ le w (u ++ [e.1])
  | [], _, _, _, _, m, _, _ => nomatch m
  | j :: ks, b, u, hl, hu, m, e, me => by
    rw [List.foldl_cons]
    by_cases c : j = k
    · subst c
      obtain ⟨w, h1, h2⟩ := fold_prog (es := E j) hu (fun e m => by rw [hl]; exact H.lt j e m) e me
      obtain ⟨w', h3, h4⟩ := (fold_le (f := relN E) relN_le ks (relN E b j)).2 _ _ h1
      exact ⟨w', h3, le_trans h4 h2⟩
    · have m : k ∈ ks := by
        rcases List.mem_cons.mp m with z | z
        · exact absurd z.symm c
        · exact z
      obtain ⟨u', h1, h2⟩ := (relN_le (E := E) b j).2 _ _ hu
      obtain ⟨w, h3, h4⟩ := turn_prog H (ks := ks) ((relN_le b j).1.trans hl) h1 m e me
      exact ⟨w, h3, le_trans h4 (le_snoc h2)⟩
theorem Lead.lt {E : Nat → List (D × Nat)} {s n : Nat} (H : Edg E n) (hs : s < n) {w : List D} {t : Nat} (h : Lead E s w t) : t < n := by
  cases h with
  | nil => exact hs
  | snoc l m => exact H.lt _ _ m
def Tin (E : Nat → List (D × Nat)) (s j : Nat) (b : Bst) : Prop := ∀ t v, Lead E s v t → v.length ≤ j → ∃ w, b[t]? = some (some w) ∧ le w v
theorem Tin.step {E : Nat → List (D × Nat)} {s n j : Nat} (H : Edg E n) (hs : s < n) {b : Bst} (hl : b.length = n) (h : Tin E s j b) : Tin E s (j + 1) (turn E n b) := fun t v l hv => by
  cases l with
  | nil =>
    obtain ⟨w, h1, h2⟩ := h s [] .nil (Nat.zero_le _)
    obtain ⟨w', h3, h4⟩ := (turn_le (E := E) (n := n) b).2 _ _ h1
    exact ⟨w', h3, le_trans h4 h2⟩
  | @snoc w x f _ l m =>
    obtain ⟨u, h1, h2⟩ := h x w l (by simp at hv; omega)
    obtain ⟨w', h3, h4⟩ := turn_prog H (ks := List.range n) hl h1 (List.mem_range.mpr (l.lt H hs)) _ m
    exact ⟨w', h3, le_trans h4 (le_snoc h2)⟩
theorem turns_ok {E : Nat → List (D × Nat)} {s n : Nat} (H : Edg E n) (hs : s < n) {b : Bst} (hl : b.length = n) (h0 : b[s]? = some (some [])) (hS : Snd E s b) : ∀ j, (turns E n b j).length = n ∧ Snd E s (turns E n b j) ∧ Tin E s j (turns E n b j)
  | 0 => ⟨hl, hS, fun t v l hv => by
    have : v = [] := List.eq_nil_of_length_eq_zero (by omega)
    subst this
    have : t = s := by
      generalize e : ([] : List D) = v at l
      cases l with
      | nil => rfl
      | snoc l m => simp at e
    subst this
    exact ⟨[], h0, le_refl⟩⟩
  | j + 1 => by
    obtain ⟨h1, h2, h3⟩ := turns_ok H hs hl h0 hS j
    exact ⟨(turn_le _).1.trans h1, turn_snd h2, h3.step H hs h1⟩
/-- what the two searches find is the same -/
theorem best_is {E : Nat → List (D × Nat)} {s n t : Nat} (H : Edg E n) {b : Bst} (hl : b.length = n) (ht : t < n) (hS : Snd E s b) (hT : Tin E s n b) {o : Option (List D)} (ho : (∃ w, o = some w ∧ IsMin E s t w ∧ w.length ≤ n) ∨ (o = none ∧ ∀ v, ¬ Lead E s v t)) : b[t]? = some o := by
  rcases ho with ⟨w, rfl, hm, hw⟩ | ⟨rfl, hn⟩
  · obtain ⟨v, h1, h2⟩ := hT t w hm.1 hw
    rw [h1, hm.uniq H (hS t v h1) h2]
  · have lt : t < b.length := by omega
    cases e : b[t] with
    | none => rw [List.getElem?_eq_getElem lt, e]
    | some v => exact absurd (hS t v (by rw [List.getElem?_eq_getElem lt, e])) (hn v)
end LawP
set_option Elab.async false
set_option linter.all false
set_option maxRecDepth 100000
set_option maxHeartbeats 1000000
namespace LawP
open PySem L2 DL
/-- rows at their addresses, none at t -/
def RowsAt (A : AH) (t : Addr) : List D → List (List D) → Prop
  | [], [] => True
  | d :: ds, r :: rs => (∃ a, d = .ref a ∧ a ≠ t ∧ A a = some (.lst r)) ∧ RowsAt A t ds rs
  | _, _ => False
theorem RowsAt.keep {A A' : AH} {t : Addr} (s : Sm [t] A A') : ∀ {ds : List D} {rs : List (List D)}, RowsAt A t ds rs → RowsAt A' t ds rs
  | [], [], _ => trivial
  | d :: ds, r :: rs, ⟨⟨a, e, n, h⟩, k⟩ => ⟨⟨a, e, n, s a _ (by simpa using n) h⟩, k.keep s⟩
  | [], _ :: _, h => h.elim
  | _ :: _, [], h => h.elim
theorem RowsAt.snoc {A : AH} {t a : Addr} {r : List D} (n : a ≠ t) (h : A a = some (.lst r)) : ∀ {ds : List D} {rs : List (List D)}, RowsAt A t ds rs → RowsAt A t (ds ++ [.ref a]) (rs ++ [r])
  | [], [], _ => ⟨⟨a, rfl, n, h⟩, trivial⟩
  | d :: ds, r' :: rs, ⟨k1, k⟩ => ⟨k1, k.snoc n h⟩
  | [], _ :: _, h => h.elim
  | _ :: _, [], h => h.elim
theorem RowsAt.len {A : AH} {t : Addr} : ∀ {ds : List D} {rs : List (List D)}, RowsAt A t ds rs → ds.length = rs.length
  | [], [], _ => rfl
  | d :: ds, r :: rs, ⟨_, k⟩ => by rw [List.length_cons, List.length_cons, k.len]
  | [], _ :: _, h => h.elim
  | _ :: _, [], h => h.elim
theorem RowsAt.snaps {A : AH} {t : Addr} : ∀ {ds : List D} {rs : List (List D)}, RowsAt A t ds rs → (∀ r ∈ rs, r.all plB = true) → Snaps A ds (rs.map fun r => .lst (plTs r))
  | [], [], _, _ => rfl
  | d :: ds, r :: rs, ⟨⟨a, e, n, h⟩, k⟩, p => ⟨d, ds, rfl, .inl ⟨a, r, e, h, snaps_pl _ (pls_of (p r List.mem_cons_self)).1⟩, k.snaps fun z m => p z (List.mem_cons_of_mem _ m)⟩
  | [], _ :: _, h, _ => h.elim
  | _ :: _, [], h, _ => h.elim
theorem RowsAt.both {A A' : AH} {t b : Addr} : ∀ {ds : List D} {rs : List (List D)}, RowsAt A b ds rs → RowsAt A t ds rs → Sm [b, t] A A' → RowsAt A' t ds rs
  | [], [], _, _, _ => trivial
  | d :: ds, r :: rs, ⟨⟨a, e, n, h⟩, k⟩, ⟨⟨a', e', n', h'⟩, k'⟩, s => ⟨⟨a', e', n', by
      rw [e] at e'
      cases e'
      exact s a _ (by simp [n, n']) h⟩, RowsAt.both k k' s⟩
  | [], _ :: _, h, _, _ => h.elim
  | _ :: _, [], h, _, _ => h.elim
/-! ### graphs as they are drawn -/
def c0 : D → D
  | .tup (a :: _) => a
  | _ => .non

/-- an int or a text, small -/
def PV (v : D) : Prop := (∃ i : Int, v = .int i ∧ -1000000 ≤ i ∧ i ≤ 1000000) ∨ ∃ l, v = .str l ∧ l.length ≤ 3 ∧ ∀ c ∈ l, 97 ≤ c ∧ c ≤ 122
theorem PV.cs {v : D} (h : PV v) : (∃ i, v = .int i ∧ PV v) ∨ ∃ l, v = .str l ∧ PV v :=
  h.elim (fun ⟨i, e, k⟩ => .inl ⟨i, e, .inl ⟨i, e, k⟩⟩) fun ⟨l, e, k⟩ => .inr ⟨l, e, .inr ⟨l, e, k⟩⟩
theorem Fvc {v : D} {P : Prop} (h : PV v ∨ P) : ((∃ i, v = .int i ∧ PV v) ∨ ∃ l, v = .str l ∧ PV v) ∨ P := h.imp PV.cs id
def refD (j : Nat) : D := .tup [.str [114, 101, 102], .int ((j : Nat) : Int)]
def Fv (n : Nat) (x : D) : Prop := ∃ f v, x = .tup [f, v] ∧ isStr f = true ∧ (PV v ∨ ∃ j, j < n ∧ v = refD j)
def fnames : List D := [.str [97], .str [98], .str [110, 101, 120, 116]]
def RowOk (n : Nat) (r : List D) : Prop := (∀ x ∈ r, Fv n x) ∧ (r.map c0).Sublist fnames
theorem fnames_asc : fnames.Pairwise (fun a b => ltD 3 a b = true) := by decide
theorem Fv.pl {n : Nat} {x : D} (h : Fv n x) : plB x = true := by
  obtain ⟨f, v, rfl, hf, hv⟩ := h
  cases f <;> cases hf
  rcases Fvc hv with (⟨i, rfl, _⟩ | ⟨l, rfl, _⟩) | ⟨j, _, rfl⟩ <;> rfl
def sp__law_plain : DSp := fun ds A R _ => ∃ b dg, ds = [.ref b] ∧ Box A b dg ∧ ∀ v A', PV v → Sm [b] A A' → Box A' b dg → R v A'
def sp__law_drawn : DSp := fun ds A R _ => ∃ b dg m q, ds = [.ref b, .int m, .int q] ∧ 0 < m ∧ m ≤ 100 ∧ 0 < q ∧ Box A b dg ∧ ∀ (t : Addr) (ds : List D) (rows : List (List D)) (A' : AH), Sm [b] A A' → Box A' b dg → A t = none → A' t = some (.lst ds) → RowsAt A' b ds rows → 0 < rows.length → rows.length ≤ m.toNat → (∀ r ∈ rows, RowOk rows.length r ∧ r.length ≤ 3) → R (.ref t) A'
/-- _law_plain: 0 _law_box, 1 _law_kind -/
def t__law_plain : DTS := dSeq (dAsg (dCal sp__law_draw (dCons (dV 0) (dCons (dC (.int 3)) (dNil)))) (dName 1)) (
  dSeq (dIf (dB (dOp (mEq false) (dV 1) (dC (.int 0)))) (dRet (dOp mIx (dLst (dCons (dC (.int 0)) (dCons (dUn fNeg (dC (.int 1))) (dCons (dC (.int 7)) (dCons (dC (.int 1000000)) (dCons (dUn fNeg (dC (.int 1000000))) (dNil))))))) (dCal sp__law_draw (dCons (dV 0) (dCons (dC (.int 5)) (dNil)))))) (dNext)) (
  dRet (dOp mIx (dLst (dCons (dC (.str [])) (dCons (dC (.str [120])) (dCons (dC (.str [97, 98, 122])) (dNil))))) (dCal sp__law_draw (dCons (dV 0) (dCons (dC (.int 3)) (dNil)))))))
/-- _law_drawn: 0 _law_box, 1 _law_most, 2 _law_same, 3 _law_many, 4 _law_things, 5 _law_k, 6 _law_fields, 7 _law_field, 8 _law_way -/
def t__law_drawn : DTS := dSeq (dAsg (dOp fAdd (dC (.int 1)) (dCal sp__law_draw (dCons (dV 0) (dCons (dV 1) (dNil))))) (dName 3)) (
  dSeq (dAsg (dLst (dNil)) (dName 4)) (
  dSeq (dFor (diR1 (dCons (dV 3) (dNil))) (dName 5) (dSeq (dAsg (dLst (dNil)) (dName 6)) (
  dSeq (dFor (diL (dLst (dCons (dC (.str [97])) (dCons (dC (.str [98])) (dCons (dC (.str [110, 101, 120, 116])) (dNil)))))) (dName 7) (dSeq (dAsg (dCal sp__law_draw (dCons (dV 0) (dCons (dC (.int 4)) (dNil)))) (dName 8)) (
  dSeq (dIf (dB (dOp (mLt .Lt) (dV 8) (dC (.int 2)))) (dDrop (dBm isL fAppend (dV 6) (dCons (dTup (dCons (dV 7) (dCons (dTup (dCons (dC (.str [114, 101, 102])) (dCons (dCal sp__law_draw (dCons (dV 0) (dCons (dV 3) (dNil)))) (dNil)))) (dNil)))) (dNil)))) (dNext)) (
  dIf (dAndT (dB (dOp (mEq false) (dV 8) (dC (.int 2)))) (dB (dOp (mEq false) (dCal sp__law_draw (dCons (dV 0) (dCons (dV 2) (dNil)))) (dC (.int 0))))) (dDrop (dBm isL fAppend (dV 6) (dCons (dTup (dCons (dV 7) (dCons (dCal sp__law_plain (dCons (dV 0) (dNil))) (dNil)))) (dNil)))) (dNext))))) (
  dDrop (dBm isL fAppend (dV 4) (dCons (dV 6) (dNil))))))) (
  dRet (dV 4))))
theorem q__law_plain : ∀ ds A R E, ds.length = 1 → sp__law_plain ds A R E → t__law_plain { nx := fun _ A' => R .non A', rt := R } (ds.map some ++ List.replicate (2 - ds.length) none) A := by
  rintro ds A R E - ⟨b, dg, rfl, B, hR⟩
  show t__law_plain _ [some (.ref b), none] A
  dsimp only [t__law_plain, dSeq, dIf, dAsg, dName, dRet, dRetN, dDrop, dNext, dB, dTru, dOp, dUn, dCall, dCons, dNil, dC, dV, dTup, dLst, dCal, dMet, dMak, dFld, DL.sFld, dBm, dgSub, dgTup, dgCons, dgNil, dAndT, dOrT, dNotT, dOr, dAnd, dNotE, dIsi, dSl, dNoP, dPart, dDNew, dNever, fInt, fMod, fAdd_int, fSub, fMul, fDiv, fPow, fI2, fI2C, fNeg, mLt, List.getElem?_cons_succ, List.getElem?_cons_zero, List.set_cons_zero, List.set_cons_succ]
  refine ⟨b, dg, 3, rfl, by decide, B, fun k A1 _ _ s1 B1 => ?_⟩
  refine mEq_pl rfl rfl ?_
  show (if _ = true then _ else _)
  split
  · intro p hp
    refine ⟨b, dg, 5, rfl, by decide, B1.new hp, fun v A2 h0 h1 s2 B2 => ?_⟩
    have e1 := s2 p _ (by simp; exact Ne.symm (B1.b_ne hp)) up_same
    refine mIx_mem e1 h0 (by simpa using h1) fun d hd => hR d A2 ?_ (s1.trans ((Sm.new hp).trans s2)) B2
    simp only [List.mem_cons, List.not_mem_nil, or_false] at hd
    rcases hd with rfl | rfl | rfl | rfl | rfl
    all_goals exact .inl ⟨_, rfl, by decide, by decide⟩
  · intro p hp
    refine ⟨b, dg, 3, rfl, by decide, B1.new hp, fun v A2 h0 h1 s2 B2 => ?_⟩
    have e1 := s2 p _ (by simp; exact Ne.symm (B1.b_ne hp)) up_same
    refine mIx_mem e1 h0 (by simpa using h1) fun d hd => hR d A2 ?_ (s1.trans ((Sm.new hp).trans s2)) B2
    simp only [List.mem_cons, List.not_mem_nil, or_false] at hd
    rcases hd with rfl | rfl | rfl
    all_goals exact .inr ⟨_, rfl, by decide, by decide⟩
theorem drawn_one {x1 x4 x5 : Option D} {b dg w : Addr} {q way : Int} {n : Nat} {f : D} {r : List D} {A : AH} {DD : DE} (hn : 0 < n) (B : Box A b dg) (hb : w ≠ b) (hd : w ≠ dg) (e : A w = some (.lst r)) (hl : r.length < SL)
    (skip : ¬ way < 2 → DD.nx [some (.ref b), x1, some (.int q), some (.int ((n : Nat) : Int)), x4, x5, some (.ref w), some f, some (.int way)] A)
    (add : way < 2 → ∀ (k : Nat) A', k < n → Sm [b, w] A A' → Box A' b dg → A' w = some (.lst (r ++ [.tup [f, refD k]])) → DD.nx [some (.ref b), x1, some (.int q), some (.int ((n : Nat) : Int)), x4, x5, some (.ref w), some f, some (.int way)] A') :
    (dIf (dB (dOp (mLt .Lt) (dV 8) (dC (.int 2)))) (dDrop (dBm isL fAppend (dV 6) (dCons (dTup (dCons (dV 7) (dCons (dTup (dCons (dC (.str [114, 101, 102])) (dCons (dCal sp__law_draw (dCons (dV 0) (dCons (dV 3) (dNil)))) (dNil)))) (dNil)))) (dNil)))) (dNext)) DD [some (.ref b), x1, some (.int q), some (.int ((n : Nat) : Int)), x4, x5, some (.ref w), some f, some (.int way)] A := by
  dsimp only [dSeq, dIf, dAsg, dName, dRet, dRetN, dDrop, dNext, dB, dTru, dOp, dUn, dCall, dCons, dNil, dC, dV, dTup, dLst, dCal, dMet, dMak, dFld, DL.sFld, dBm, dgSub, dgTup, dgCons, dgNil, dAndT, dOrT, dNotT, dOr, dAnd, dNotE, dIsi, dSl, dNoP, dPart, dDNew, dNever, fInt, fMod, fAdd_int, fSub, fMul, fDiv, fPow, fI2, fI2C, fNeg, mLt, List.getElem?_cons_succ, List.getElem?_cons_zero, List.set_cons_zero, List.set_cons_succ]
  show (if decide (way < 2) = true then (_ : Prop) else (_ : Prop))
  by_cases h : way < 2
  · rw [if_pos (by simpa using h)]
    refine ⟨⟨_, e⟩, b, dg, ((n : Nat) : Int), rfl, by omega, B, fun v A1 h0 h1 s1 B1 => ?_⟩
    obtain ⟨k, rfl⟩ : ∃ k : Nat, v = ((k : Nat) : Int) := ⟨v.toNat, by omega⟩
    exact fAppend_lst (s1 w _ (by simpa using hb) e) hl (add h k _ (by omega) ((s1.weak (by simp)).trans (Sm.put (by simp))) (B1.keep (W := [w]) (Sm.put (by simp)) (by simpa using hb.symm) (by simpa using hd.symm)) up_same)
  · rw [if_neg (by simpa using h)]
    exact skip h
theorem drawn_two {x1 x3 x4 x5 : Option D} {b dg w : Addr} {q way : Int} {f : D} {r : List D} {A : AH} {DD : DE} (hq : 0 < q) (B : Box A b dg) (hb : w ≠ b) (hd : w ≠ dg) (e : A w = some (.lst r)) (hl : r.length < SL)
    (skip : ∀ A', Sm [b] A A' → Box A' b dg → DD.nx [some (.ref b), x1, some (.int q), x3, x4, x5, some (.ref w), some f, some (.int way)] A')
    (add : way = 2 → ∀ v A', PV v → Sm [b, w] A A' → Box A' b dg → A' w = some (.lst (r ++ [.tup [f, v]])) → DD.nx [some (.ref b), x1, some (.int q), x3, x4, x5, some (.ref w), some f, some (.int way)] A') :
    (dIf (dAndT (dB (dOp (mEq false) (dV 8) (dC (.int 2)))) (dB (dOp (mEq false) (dCal sp__law_draw (dCons (dV 0) (dCons (dV 2) (dNil)))) (dC (.int 0))))) (dDrop (dBm isL fAppend (dV 6) (dCons (dTup (dCons (dV 7) (dCons (dCal sp__law_plain (dCons (dV 0) (dNil))) (dNil)))) (dNil)))) (dNext)) DD [some (.ref b), x1, some (.int q), x3, x4, x5, some (.ref w), some f, some (.int way)] A := by
  dsimp only [dSeq, dIf, dAsg, dName, dRet, dRetN, dDrop, dNext, dB, dTru, dOp, dUn, dCall, dCons, dNil, dC, dV, dTup, dLst, dCal, dMet, dMak, dFld, DL.sFld, dBm, dgSub, dgTup, dgCons, dgNil, dAndT, dOrT, dNotT, dOr, dAnd, dNotE, dIsi, dSl, dNoP, dPart, dDNew, dNever, fInt, fMod, fAdd_int, fSub, fMul, fDiv, fPow, fI2, fI2C, fNeg, mLt, List.getElem?_cons_succ, List.getElem?_cons_zero, List.set_cons_zero, List.set_cons_succ]
  refine mEq_pl rfl rfl ?_
  show (if (false ^^ decide (D.int way = D.int 2)) = true then (_ : Prop) else (_ : Prop))
  by_cases h : way = 2
  · rw [if_pos (by simp [h])]
    refine ⟨b, dg, q, rfl, hq, B, fun v A1 _ _ s1 B1 => ?_⟩
    refine mEq_pl rfl rfl ?_
    show (if _ = true then (_ : Prop) else (_ : Prop))
    split
    · refine ⟨⟨_, s1 w _ (by simpa using hb) e⟩, b, dg, rfl, B1, fun v A2 hv s2 B2 => ?_⟩
      have s12 := s1.trans s2
      exact fAppend_lst (s12 w _ (by simpa using hb) e) hl (add h v _ hv ((s12.weak (by simp)).trans (Sm.put (by simp))) (B2.keep (W := [w]) (Sm.put (by simp)) (by simpa using hb.symm) (by simpa using hd.symm)) up_same)
    · exact skip A1 s1 B1
  · rw [if_neg (by simp [h])]
    exact skip A Sm.refl B
theorem q__law_drawn : ∀ ds A R E, ds.length = 3 → sp__law_drawn ds A R E → t__law_drawn { nx := fun _ A' => R .non A', rt := R } (ds.map some ++ List.replicate (9 - ds.length) none) A := by
  rintro ds A R E - ⟨b, dg, m, q, rfl, h0, h100, hq, B, hR⟩
  show t__law_drawn _ [some (.ref b), some (.int m), some (.int q), none, none, none, none, none, none] A
  dsimp only [t__law_drawn, dSeq, dIf, dAsg, dName, dRet, dRetN, dDrop, dNext, dB, dTru, dOp, dUn, dCall, dCons, dNil, dC, dV, dTup, dLst, dCal, dMet, dMak, dFld, DL.sFld, dBm, dgSub, dgTup, dgCons, dgNil, dAndT, dOrT, dNotT, dOr, dAnd, dNotE, dIsi, dSl, dNoP, dPart, dDNew, dNever, fInt, fMod, fAdd_int, fSub, fMul, fDiv, fPow, fI2, fI2C, fNeg, mLt, List.getElem?_cons_succ, List.getElem?_cons_zero, List.set_cons_zero, List.set_cons_succ]
  refine ⟨b, dg, m, rfl, h0, B, fun mm A1 m0 m1 s1 B1 => ?_⟩
  dsimp only [dSeq, dIf, dAsg, dName, dRet, dRetN, dDrop, dNext, dB, dTru, dOp, dUn, dCall, dCons, dNil, dC, dV, dTup, dLst, dCal, dMet, dMak, dFld, DL.sFld, dBm, dgSub, dgTup, dgCons, dgNil, dAndT, dOrT, dNotT, dOr, dAnd, dNotE, dIsi, dSl, dNoP, dPart, dDNew, dNever, fInt, fMod, fAdd_int, fSub, fMul, fDiv, fPow, fI2, fI2C, fNeg, mLt, List.getElem?_cons_succ, List.getElem?_cons_zero, List.set_cons_zero, List.set_cons_succ]
  intro t ht
  have tb : t ≠ b := (B1.b_ne ht).symm
  have tA : A t = none := s1.noneW (fun c m => by simp at m; subst m; obtain ⟨n, e, _⟩ := B1.bx; exact ⟨_, e⟩) ht
  have B2 := B1.new (o := .lst []) ht
  have t2 : up A1 t (.lst []) t = some (.lst []) := up_same
  have s2 : Sm [b] A (up A1 t (.lst [])) := s1.trans (Sm.new ht)
  generalize up A1 t (.lst []) = A2 at B2 t2 s2 ⊢
  obtain ⟨n, hn⟩ : ∃ n : Nat, 1 + mm = ((n : Nat) : Int) := ⟨(1 + mm).toNat, by omega⟩
  rw [hn]
  have n1 : 0 < n := by omega
  have nm : n ≤ m.toNat := by omega
  refine for_r1 (by unfold small62; omega) (fun i σ A' => ∃ x5 x6 x7 x8 ds rows, σ = [some (.ref b), some (.int m), some (.int q), some (.int ((n : Nat) : Int)), some (.ref t), x5, x6, x7, x8] ∧ Sm [b, t] A2 A' ∧ Box A' b dg ∧ A' t = some (.lst ds) ∧ RowsAt A' b ds rows ∧ RowsAt A' t ds rows ∧ rows.length = i ∧ ∀ r ∈ rows, RowOk n r ∧ r.length ≤ 3)
    ⟨none, none, none, none, [], [], rfl, Sm.refl, B2, t2, trivial, trivial, rfl, fun _ z => nomatch z⟩ ?_ ?_ (fun Q h => h)
  · rintro i σ A3 hi ⟨x5, x6, x7, x8, ds, rows, rfl, s3, B3, t3, ro, ro', rl, rk⟩
    have hi : i < n := by simpa using hi
    dsimp only [dSeq, dIf, dAsg, dName, dRet, dRetN, dDrop, dNext, dB, dTru, dOp, dUn, dCall, dCons, dNil, dC, dV, dTup, dLst, dCal, dMet, dMak, dFld, DL.sFld, dBm, dgSub, dgTup, dgCons, dgNil, dAndT, dOrT, dNotT, dOr, dAnd, dNotE, dIsi, dSl, dNoP, dPart, dDNew, dNever, fInt, fMod, fAdd_int, fSub, fMul, fDiv, fPow, fI2, fI2C, fNeg, mLt, List.getElem?_cons_succ, List.getElem?_cons_zero, List.set_cons_zero, List.set_cons_succ]
    intro w hw
    have wb : w ≠ b := (B3.b_ne hw).symm
    have wt : w ≠ t := (ne_nn t3 hw).symm
    have B4 := B3.new (o := .lst []) hw
    have t4 := up_at (u := .lst []) t3 hw
    have w4 : up A3 w (.lst []) w = some (.lst []) := up_same
    have s4 : Sm [] A3 (up A3 w (.lst [])) := Sm.new hw
    generalize up A3 w (.lst []) = A4 at B4 t4 w4 s4 ⊢
    rw [dFor_diL]
    dsimp only [dSeq, dIf, dAsg, dName, dRet, dRetN, dDrop, dNext, dB, dTru, dOp, dUn, dCall, dCons, dNil, dC, dV, dTup, dLst, dCal, dMet, dMak, dFld, DL.sFld, dBm, dgSub, dgTup, dgCons, dgNil, dAndT, dOrT, dNotT, dOr, dAnd, dNotE, dIsi, dSl, dNoP, dPart, dDNew, dNever, fInt, fMod, fAdd_int, fSub, fMul, fDiv, fPow, fI2, fI2C, fNeg, mLt, List.getElem?_cons_succ, List.getElem?_cons_zero, List.set_cons_zero, List.set_cons_succ]
    intro z hz
    have zb : z ≠ b := (B4.b_ne hz).symm
    have zt : z ≠ t := (ne_nn t4 hz).symm
    have zw : z ≠ w := (ne_nn w4 hz).symm
    have B5 := B4.new (o := .lst fnames) hz
    have t5 := up_at (u := .lst fnames) t4 hz
    have w5 := up_at (u := .lst fnames) w4 hz
    have z5 : up A4 z (.lst fnames) z = some (.lst fnames) := up_same
    have s5 : Sm [] A3 (up A4 z (.lst fnames)) := s4.trans (Sm.new hz)
    show forTail _ _ _ _ (.ref z) (up A4 z (.lst fnames))
    generalize up A4 z (.lst fnames) = A5 at B5 t5 w5 z5 s5 ⊢
    refine for_tail z5 (fun j σ A' => ∃ x7 x8 r, σ = [some (.ref b), some (.int m), some (.int q), some (.int ((n : Nat) : Int)), some (.ref t), some (.int (0 + (i : Int))), some (.ref w), x7, x8] ∧ Sm [b, w] A5 A' ∧ Box A' b dg ∧ A' w = some (.lst r) ∧ (∀ x ∈ r, Fv n x) ∧ (r.map c0).Sublist (fnames.take j))
      ⟨_, _, [], rfl, Sm.refl, B5, w5, (fun _ z => nomatch z), by simp⟩ (fun j σ A' _ ⟨_, _, _, _, h, _⟩ => h z _ (by simp [zb, zw]) z5) ?_ ?_
    · rintro j f σ A6 hx ⟨y7, y8, r, rfl, s6, B6, w6, rx, rsb⟩
      have jl : j < fnames.length := (List.getElem?_eq_some_iff.mp hx).1
      have tk : fnames.take (j + 1) = fnames.take j ++ [f] := by rw [List.take_succ, hx]; rfl
      have hf : isStr f = true := by
        have := List.mem_of_getElem? hx
        simp only [fnames, List.mem_cons, List.not_mem_nil, or_false] at this
        rcases this with rfl | rfl | rfl <;> rfl
      have rl3 : r.length ≤ 3 := by
        have := rsb.length_le
        rw [List.length_map, List.length_take] at this
        have : fnames.length = 3 := rfl
        omega
      have sub1 : (r.map c0).Sublist (fnames.take (j + 1)) := by rw [tk]; exact rsb.trans (List.sublist_append_left _ _)
      have sub2 : ∀ v, ((r ++ [D.tup [f, v]]).map c0).Sublist (fnames.take (j + 1)) := fun v => by
        rw [tk, List.map_append]
        exact rsb.append (List.Sublist.refl _)
      have add : ∀ v, (PV v ∨ ∃ k, k < n ∧ v = refD k) → ∀ x ∈ r ++ [D.tup [f, v]], Fv n x := fun v hv x mx => by
        rcases List.mem_append.mp mx with mx | mx
        · exact rx x mx
        · rw [List.mem_singleton.mp mx]; exact ⟨f, v, rfl, hf, hv⟩
      have wd : w ≠ dg := fun z => by
        subst z
        obtain ⟨l, e⟩ := B3.dg
        rw [hw] at e; cases e
      dsimp only [dName, dSeq, dAsg, dCal, dCons, dNil, dC, dV, List.getElem?_cons_succ, List.getElem?_cons_zero, List.set_cons_zero, List.set_cons_succ]
      refine ⟨b, dg, 4, rfl, by decide, B6, fun way A7 _ _ s7 B7 => ?_⟩
      have w7 := s7 w _ (by simpa using wb) w6
      have s67 : Sm [b, w] A5 A7 := s6.trans (s7.weak (by simp))
      refine drawn_one n1 B7 wb wd w7 (by show _ < 16777216; omega) (fun h => ?_) (fun h k A8 hk s8 B8 w8 => ?_)
      · refine drawn_two hq B7 wb wd w7 (by show _ < 16777216; omega) (fun A8 s8 B8 => ?_) (fun _ v A8 hv s8 B8 w8 => ?_)
        · exact ⟨_, _, r, rfl, s67.trans (s8.weak (by simp)), B8, s8 w _ (by simpa using wb) w7, rx, sub1⟩
        · exact ⟨_, _, _, rfl, s67.trans s8, B8, w8, add v (.inl hv), sub2 v⟩
      · refine drawn_two hq B8 wb wd w8 (by rw [List.length_append]; show _ < 16777216; simp only [List.length_cons, List.length_nil]; omega) (fun A9 s9 B9 => ?_) (fun h2 => absurd h (by omega))
        exact ⟨_, _, _, rfl, (s67.trans s8).trans (s9.weak (by simp)), B9, s9 w _ (by simpa using wb) w8, add _ (.inr ⟨k, hk, rfl⟩), sub2 _⟩
    · rintro σ A6 ⟨y7, y8, r, rfl, s6, B6, w6, rx, rsb⟩
      have t6 := s6 t _ (by simp [tb, wt.symm]) t5
      have s36 : Sm [b] A3 A6 := ((s5.weak (V := [b, w]) (by simp)).trans s6).drop fun a m => by
        simp at m
        rcases m with rfl | rfl
        · exact .inl (by simp)
        · exact .inr hw
      have s36t : Sm [b, t] A3 A6 := s36.weak (by simp)
      rw [List.take_of_length_le (Nat.le_refl _)] at rsb
      have ok : RowOk n r ∧ r.length ≤ 3 := ⟨⟨rx, rsb⟩, by have := rsb.length_le; rw [List.length_map] at this; exact this⟩
      have td : t ≠ dg := fun z => by
        subst z
        obtain ⟨l, e⟩ := B1.dg
        rw [ht] at e; cases e
      have ln := ro.len
      have R6 : RowsAt A6 b ds rows := ro.keep s36
      have R6' : RowsAt A6 t ds rows := RowsAt.both ro ro' (s36.weak (by simp))
      dsimp only [dSeq, dIf, dAsg, dName, dRet, dRetN, dDrop, dNext, dB, dTru, dOp, dUn, dCall, dCons, dNil, dC, dV, dTup, dLst, dCal, dMet, dMak, dFld, DL.sFld, dBm, dgSub, dgTup, dgCons, dgNil, dAndT, dOrT, dNotT, dOr, dAnd, dNotE, dIsi, dSl, dNoP, dPart, dDNew, dNever, fInt, fMod, fAdd_int, fSub, fMul, fDiv, fPow, fI2, fI2C, fNeg, mLt, List.getElem?_cons_succ, List.getElem?_cons_zero, List.set_cons_zero, List.set_cons_succ]
      refine ⟨⟨_, t6⟩, fAppend_lst t6 (by show _ < 16777216; omega) ⟨_, _, _, _, ds ++ [.ref w], rows ++ [r], rfl, (s3.trans s36t).trans (Sm.put (by simp)), B6.keep (W := [t]) (Sm.put (by simp)) (by simpa using tb.symm) (by simpa using td.symm), up_same, ?_, ?_, by rw [List.length_append, rl]; rfl, fun x mx => ?_⟩⟩
      · exact RowsAt.snoc wb (by rw [up_ne wt]; exact w6) (RowsAt.both ro' ro ((s36.weak (V := [t, b]) (by simp)).trans (Sm.put (by simp))))
      · exact RowsAt.snoc wt (by rw [up_ne wt]; exact w6) (R6'.keep (Sm.put (by simp)))
      · rcases List.mem_append.mp mx with mx | mx
        · exact rk x mx
        · rw [List.mem_singleton.mp mx]; exact ok
  · rintro σ A3 ⟨x5, x6, x7, x8, ds, rows, rfl, s3, B3, t3, ro, ro', rl, rk⟩
    have rl : rows.length = n := by simpa using rl
    subst rl
    exact hR t ds rows A3 ((s2.weak (V := [b, t]) (by simp)).trans s3 |>.drop fun a m => by
      simp at m
      rcases m with rfl | rfl
      · exact .inl (by simp)
      · exact .inr tA) B3 tA t3 ro n1 nm rk
end LawP
set_option Elab.async false
set_option linter.all false
set_option maxRecDepth 100000
set_option maxHeartbeats 1000000
namespace LawP
open PySem L2 DL
/-! ### what roots reach in a drawn graph -/
def addJ (L : List D) (n : D) : List D := if n ∈ L then L else L ++ [n]
theorem addJ_new {L : List D} {n : D} (h : n ∉ L) : addJ L n = L ++ [n] := if_neg h
theorem addJ_old {L : List D} {n : D} (h : n ∈ L) : addJ L n = L := if_pos h
theorem mem_addJ {L : List D} {n m : D} : m ∈ addJ L n ↔ m ∈ L ∨ m = n := by
  unfold addJ
  split
  · rename_i h
    exact ⟨.inl, fun z => z.elim id fun e => by rw [e]; exact h⟩
  · rw [List.mem_append, List.mem_singleton]
def tgt : D → Option D
  | .tup [_, .tup [_, j]] => some j
  | _ => none
def rowT (r : List D) : List D := r.filterMap tgt
def nxt (rows : List (List D)) : D → List D
  | .int k => rowT (rows.getD k.toNat [])
  | _ => []
def stepG (rows : List (List D)) (L : List D) (i : Nat) : List D := match L[i]? with
  | none => L
  | some d => (nxt rows d).foldl addJ L
def walkG (rows : List (List D)) (L : List D) : Nat → List D
  | 0 => L
  | i + 1 => stepG rows (walkG rows L i) i
/-- numbers below n, each once -/
structure Nums (n : Nat) (L : List D) : Prop where
  nd : L.Nodup
  al : ∀ d ∈ L, ∃ j : Nat, j < n ∧ d = .int ((j : Nat) : Int)
def Num (n : Nat) (d : D) : Prop := ∃ j : Nat, j < n ∧ d = .int ((j : Nat) : Int)
theorem Nums.add {n : Nat} {L : List D} {d : D} (h : Nums n L) (hd : Num n d) : Nums n (addJ L d) := by
  refine ⟨?_, fun m mm => (mem_addJ.mp mm).elim (h.al m) fun e => by rw [e]; exact hd⟩
  unfold addJ
  split
  · exact h.nd
  · rename_i hm
    refine List.nodup_append.mpr ⟨h.nd, by simp, fun a ma b mb e => hm ?_⟩
    rw [← List.mem_singleton.mp mb, ← e]; exact ma
theorem Nums.len {n : Nat} {L : List D} (h : Nums n L) : L.length ≤ n := by
  have := sub_lenN h.nd (m := (List.range n).map fun j => D.int ((j : Nat) : Int)) fun x m => by
    obtain ⟨j, hj, e⟩ := h.al x m
    exact List.mem_map.mpr ⟨j, List.mem_range.mpr hj, e.symm⟩
  simpa using this
theorem Nums.fold {n : Nat} : ∀ {vs L : List D}, Nums n L → (∀ v ∈ vs, Num n v) → Nums n (vs.foldl addJ L)
  | [], _, h, _ => h
  | v :: vs, _, h, hv => Nums.fold (vs := vs) (h.add (hv v List.mem_cons_self)) fun y m => hv y (List.mem_cons_of_mem _ m)
theorem Nums.nil {n : Nat} : Nums n [] := ⟨List.nodup_nil, fun _ z => nomatch z⟩
def GOk (rows : List (List D)) : Prop := ∀ r ∈ rows, RowOk rows.length r ∧ r.length ≤ 3
theorem rowT_num {n : Nat} {r : List D} (h : ∀ x ∈ r, Fv n x) : ∀ v ∈ rowT r, Num n v := fun v m => by
  obtain ⟨x, mx, e⟩ := List.mem_filterMap.mp m
  obtain ⟨f, w, rfl, _, hw⟩ := h x mx
  rcases Fvc hw with (⟨i, rfl, hp⟩ | ⟨l, rfl, hp⟩) | ⟨j, hj, rfl⟩
  · cases e
  · cases e
  · cases e; exact ⟨j, hj, rfl⟩
theorem nxt_num {rows : List (List D)} (G : GOk rows) (d : D) : ∀ v ∈ nxt rows d, Num rows.length v := fun v m => by
  cases d with
  | int k =>
    have m : v ∈ rowT (rows.getD k.toNat []) := m
    rw [List.getD_eq_getElem?_getD] at m
    cases e : rows[k.toNat]? with
    | none => rw [e] at m; cases m
    | some r =>
      rw [e] at m
      exact rowT_num (G r (List.mem_of_getElem? e)).1.1 v m
  | _ => cases m
theorem Nums.step {rows : List (List D)} (G : GOk rows) {L : List D} {i : Nat} (h : Nums rows.length L) : Nums rows.length (stepG rows L i) := by
  unfold stepG
  split
  · exact h
  · exact h.fold (nxt_num G _)
theorem Nums.walk {rows : List (List D)} (G : GOk rows) {L : List D} (h : Nums rows.length L) : ∀ k, Nums rows.length (walkG rows L k)
  | 0 => h
  | k + 1 => (h.walk G k).step G
theorem walkG_still {rows : List (List D)} {L : List D} {i : Nat} (h : (walkG rows L i).length ≤ i) : ∀ j, walkG rows L (i + j) = walkG rows L i
  | 0 => rfl
  | j + 1 => by
    have := walkG_still h j
    show stepG rows (walkG rows L (i + j)) (i + j) = _
    rw [this]
    unfold stepG
    rw [List.getElem?_eq_none (by omega)]
theorem foldJ_pre {vs : List D} : ∀ {L : List D}, ∃ r, vs.foldl addJ L = L ++ r := by
  induction vs with
  | nil => intro L; exact ⟨[], by simp⟩
  | cons v vs ih =>
    intro L
    obtain ⟨r', e'⟩ := ih (L := addJ L v)
    have : ∃ r, addJ L v = L ++ r := by
      unfold addJ
      split
      · exact ⟨[], by simp⟩
      · exact ⟨_, rfl⟩
    obtain ⟨r, e⟩ := this
    refine ⟨r ++ r', ?_⟩
    rw [List.foldl_cons, e', e, List.append_assoc]
theorem walkG_pre {rows : List (List D)} {L : List D} : ∀ (i j : Nat), ∃ r, walkG rows L (i + j) = walkG rows L i ++ r
  | i, 0 => ⟨[], by simp⟩
  | i, j + 1 => by
    obtain ⟨r, e⟩ := walkG_pre (rows := rows) (L := L) i j
    have : ∃ r, stepG rows (walkG rows L (i + j)) (i + j) = walkG rows L (i + j) ++ r := by
      unfold stepG
      split
      · exact ⟨[], by simp⟩
      · exact foldJ_pre
    obtain ⟨r', e'⟩ := this
    refine ⟨r ++ r', ?_⟩
    show stepG rows (walkG rows L (i + j)) (i + j) = _
    rw [e', e, List.append_assoc]
theorem foldJ_mem {vs : List D} : ∀ {L : List D} {n : D}, n ∈ vs.foldl addJ L ↔ n ∈ L ∨ n ∈ vs := by
  induction vs with
  | nil => intro L n; simp
  | cons v vs ih =>
    intro L n
    rw [List.foldl_cons, ih, mem_addJ, List.mem_cons]
    constructor
    · rintro ((h | h) | h)
      · exact .inl h
      · exact .inr (.inl h)
      · exact .inr (.inr h)
    · rintro (h | h | h)
      · exact .inl (.inl h)
      · exact .inl (.inr h)
      · exact .inr h
theorem walkG_closed {rows : List (List D)} {L : List D} {K : Nat} (h : (walkG rows L K).length ≤ K) {n m : D} (mn : n ∈ walkG rows L K) (mp : m ∈ nxt rows n) : m ∈ walkG rows L K := by
  obtain ⟨i, hi, en⟩ := List.getElem_of_mem mn
  obtain ⟨j, rfl⟩ : ∃ j, K = i + 1 + j := ⟨K - (i + 1), by omega⟩
  obtain ⟨r1, e1⟩ := walkG_pre (rows := rows) (L := L) (i + 1) j
  obtain ⟨r2, e2⟩ := walkG_pre (rows := rows) (L := L) i (1 + j)
  rw [e1, List.mem_append]
  refine .inl ?_
  show m ∈ stepG rows (walkG rows L i) i
  rcases Nat.lt_or_ge i (walkG rows L i).length with lt | le
  · have g : (walkG rows L i)[i]? = some n := by
      have g0 : (walkG rows L (i + 1 + j))[i]? = some n := by rw [List.getElem?_eq_getElem hi, en]
      rw [show i + 1 + j = i + (1 + j) by omega, e2, List.getElem?_append_left lt] at g0
      exact g0
    unfold stepG
    rw [g]
    exact foldJ_mem.mpr (.inr mp)
  · have := walkG_still le (1 + j)
    rw [show i + 1 + j = i + (1 + j) by omega, this] at hi
    omega
/-- a pair with the new number -/
def renP (L : List D) : D → D
  | .tup [f, .tup [_, j]] => .tup [f, .tup [.str [114, 101, 102], .int (L.idxOf j : Nat)]]
  | x => x
theorem renP_ok {n : Nat} {L : List D} {x : D} (h : Fv n x) (hm : ∀ j, tgt x = some j → j ∈ L) : Fv L.length (renP L x) ∧ c0 (renP L x) = c0 x := by
  obtain ⟨f, v, rfl, hf, hv⟩ := h
  rcases Fvc hv with (⟨i, rfl, hp⟩ | ⟨l, rfl, hp⟩) | ⟨j, hj, rfl⟩
  · exact ⟨⟨f, _, rfl, hf, .inl hp⟩, rfl⟩
  · exact ⟨⟨f, _, rfl, hf, .inl hp⟩, rfl⟩
  · exact ⟨⟨f, _, rfl, hf, .inr ⟨L.idxOf (.int ((j : Nat) : Int)), List.idxOf_lt_length_of_mem (hm _ rfl), rfl⟩⟩, rfl⟩
theorem ren_row {n : Nat} {L r : List D} (h : RowOk n r ∧ r.length ≤ 3) (hm : ∀ j ∈ rowT r, j ∈ L) : RowOk L.length (r.map (renP L)) ∧ (r.map (renP L)).length ≤ 3 := by
  have ok : ∀ x ∈ r, Fv L.length (renP L x) ∧ c0 (renP L x) = c0 x := fun x mx => renP_ok (h.1.1 x mx) fun j e => hm j (List.mem_filterMap.mpr ⟨x, mx, e⟩)
  refine ⟨⟨fun y my => ?_, ?_⟩, by rw [List.length_map]; exact h.2⟩
  · obtain ⟨x, mx, rfl⟩ := List.mem_map.mp my
    exact (ok x mx).1
  · rw [List.map_map, show r.map (c0 ∘ renP L) = r.map c0 from List.map_congr_left fun x mx => (ok x mx).2]
    exact h.1.2
def rowAt (rows : List (List D)) : D → List D
  | .int k => rows.getD k.toNat []
  | _ => []
/-- what is found from roots, in order; their rows with the new numbers; the roots' new numbers -/
def fnd (rows : List (List D)) (rs : List D) : List D := walkG rows (rs.foldl addJ []) rows.length
def rch (rows : List (List D)) (rs : List D) : List (List D) := (fnd rows rs).map fun d => (rowAt rows d).map (renP (fnd rows rs))
def rts (rows : List (List D)) (rs : List D) : List D := rs.map fun d => .int ((fnd rows rs).idxOf d : Nat)
def sp__law_reached : DSp := fun ds A R _ => ∃ t ts rows r rs av, ds = [.ref t, .ref r] ∧ A t = some (.lst ts) ∧ RowsAt A av ts rows ∧ GOk rows ∧ rows.length ≤ 100 ∧ A r = some (.lst rs) ∧ rs.length ≤ 100 ∧ (∀ d ∈ rs, Num rows.length d) ∧ ∀ (a c : Addr) (ds : List D) (A' : AH), Sm [] A A' → A' c = some (.lst ds) → A' a = some (.lst (rts rows rs)) → RowsAt A' c ds (rch rows rs) → GOk (rch rows rs) → Nums rows.length (fnd rows rs) → (∀ d ∈ rs, d ∈ fnd rows rs) → R (.tup [.ref a, .ref c]) A'
/-- _law_reached: 0 _law_things, 1 _law_roots, 2 _law_found, 3 _law_root, 4 _law_k, 5 _law_pair, 6 _law_rows, 7 _law_number, 8 _law_row -/
def t__law_reached : DTS := dSeq (dAsg (dLst (dNil)) (dName 2)) (
  dSeq (dFor (diL (dV 1)) (dName 3) (dIf (dB (dOp (mIn true) (dV 3) (dV 2))) (dDrop (dBm isL fAppend (dV 2) (dCons (dV 3) (dNil)))) (dNext))) (
  dSeq (dFor (diR1 (dCons (dCall mLen (dCons (dV 0) (dNil))) (dNil))) (dName 4) (dIf (dB (dOp (mLt .Lt) (dV 4) (dCall mLen (dCons (dV 2) (dNil))))) (dFor (diL (dOp mIx (dV 0) (dOp mIx (dV 2) (dV 4)))) (dName 5) (dIf (dAndT (dTru (dIsi "tuple" (dOp mIx (dV 5) (dC (.int 1))))) (dB (dOp (mIn true) (dOp mIx (dOp mIx (dV 5) (dC (.int 1))) (dC (.int 1))) (dV 2)))) (dDrop (dBm isL fAppend (dV 2) (dCons (dOp mIx (dOp mIx (dV 5) (dC (.int 1))) (dC (.int 1))) (dNil)))) (dNext))) (dNext))) (
  dSeq (dAsg (dLst (dNil)) (dName 6)) (
  dSeq (dFor (diL (dV 2)) (dName 7) (dSeq (dAsg (dLst (dNil)) (dName 8)) (
  dSeq (dFor (diL (dOp mIx (dV 0) (dV 7))) (dName 5) (dIf (dTru (dIsi "tuple" (dOp mIx (dV 5) (dC (.int 1))))) (dDrop (dBm isL fAppend (dV 8) (dCons (dTup (dCons (dOp mIx (dV 5) (dC (.int 0))) (dCons (dTup (dCons (dC (.str [114, 101, 102])) (dCons (dBm isL fIndex (dV 2) (dCons (dOp mIx (dOp mIx (dV 5) (dC (.int 1))) (dC (.int 1))) (dNil))) (dNil)))) (dNil)))) (dNil)))) (dDrop (dBm isL fAppend (dV 8) (dCons (dV 5) (dNil)))))) (
  dDrop (dBm isL fAppend (dV 6) (dCons (dV 8) (dNil))))))) (
  dRet (dTup (dCons (dLc (diL (dV 1)) (dName 3) (dYes) (dBm isL fIndex (dV 2) (dCons (dV 3) (dNil))) [3]) (dCons (dV 6) (dNil)))))))))
theorem Num.pl {n : Nat} {d : D} (h : Num n d) : plB d = true := by obtain ⟨j, _, rfl⟩ := h; rfl
theorem Nums.pl {n : Nat} {L : List D} (h : Nums n L) : L.all plB = true := List.all_eq_true.mpr fun x m => Num.pl (h.al x m)
theorem RowsAt.at {A : AH} {t : Addr} : ∀ {ds : List D} {rs : List (List D)} {i : Nat} {r : List D}, RowsAt A t ds rs → rs[i]? = some r → ∃ a, ds[i]? = some (.ref a) ∧ a ≠ t ∧ A a = some (.lst r)
  | d :: ds, r' :: rs, 0, r, ⟨⟨a, e, n, h⟩, _⟩, e2 => by
    cases e2
    exact ⟨a, by rw [e]; rfl, n, h⟩
  | d :: ds, r' :: rs, i + 1, r, ⟨_, k⟩, e2 => by
    obtain ⟨a, h1, h2⟩ := k.at (i := i) (by simpa using e2)
    exact ⟨a, by simpa using h1, h2⟩
  | [], [], _, _, _, e2 => by simp at e2
  | [], _ :: _, _, _, h, _ => h.elim
  | _ :: _, [], _, _, h, _ => h.elim
theorem RowsAt.sm {A A' : AH} {t : Addr} (s : Sm [] A A') {ds : List D} {rs : List (List D)} (h : RowsAt A t ds rs) : RowsAt A' t ds rs := h.keep s.of0
/-- rows[k], a row at its place -/
theorem mIx_row {A : AH} {t av : Addr} {ts : List D} {rows : List (List D)} {r : List D} {k : Nat} {Q : DQ} (ht : A t = some (.lst ts)) (ro : RowsAt A av ts rows) (hr : rows[k]? = some r) (q : ∀ a, A a = some (.lst r) → a ≠ av → Q (.ref a) A) : mIx (.ref t) (.int ((k : Nat) : Int)) A Q := by
  obtain ⟨a, h1, h2, h3⟩ := ro.at hr
  have lk := (List.getElem?_eq_some_iff.mp h1).1
  exact mIx_lst ht (d := .ref a) (by rw [atI_nat (by omega) (by omega)]; simpa using h1) (q a h3 h2)
end LawP
set_option Elab.async false
set_option linter.all false
set_option maxRecDepth 100000
set_option maxHeartbeats 1000000
namespace LawP
open PySem L2 DL
theorem nxt_row {rows : List (List D)} {d : D} : nxt rows d = rowT (rowAt rows d) := by
  cases d <;> rfl
theorem rowAt_of {rows : List (List D)} {n : Nat} {d : D} (hl : rows.length = n) (h : Num n d) : ∃ k r, d = .int ((k : Nat) : Int) ∧ rows[k]? = some r ∧ rowAt rows d = r := by
  obtain ⟨k, hk, rfl⟩ := h
  have lk : k < rows.length := by omega
  refine ⟨k, rows[k], rfl, List.getElem?_eq_getElem lk, ?_⟩
  show rows.getD (((k : Nat) : Int)).toNat [] = _
  rw [Int.toNat_natCast, List.getD_eq_getElem?_getD, List.getElem?_eq_getElem lk]; rfl
/-- rows[k], the rows as they were at A -/
theorem mIx_row0 {A A' : AH} {t av : Addr} {ts : List D} {rows : List (List D)} {r : List D} {k : Nat} {Q : DQ} (s : Sm [] A A') (ht : A' t = some (.lst ts)) (ro : RowsAt A av ts rows) (hr : rows[k]? = some r) (q : ∀ a, A a = some (.lst r) → A' a = some (.lst r) → Q (.ref a) A') : mIx (.ref t) (.int ((k : Nat) : Int)) A' Q := by
  obtain ⟨a, h1, h2, h3⟩ := ro.at hr
  have lk := (List.getElem?_eq_some_iff.mp h1).1
  exact mIx_lst ht (d := .ref a) (by rw [atI_nat (by omega) (by omega)]; simpa using h1) (q a h3 (s a _ (by simp) h3))
theorem rowT_take {r : List D} {j : Nat} {x : D} (h : r[j]? = some x) : rowT (r.take (j + 1)) = rowT (r.take j) ++ (match tgt x with | some d => [d] | none => []) := by
  unfold rowT
  rw [List.take_succ, h, List.filterMap_append]
  congr 1
  show [x].filterMap tgt = _
  rw [List.filterMap_cons]
  cases tgt x <;> rfl
theorem q__law_reached : ∀ ds A R E, ds.length = 2 → sp__law_reached ds A R E → t__law_reached { nx := fun _ A' => R .non A', rt := R } (ds.map some ++ List.replicate (9 - ds.length) none) A := by
  rintro ds A R E - ⟨t, ts, rows, r, rs, av, rfl, ht, ro, G, hn, hr, hrl, hrs, hR⟩
  show t__law_reached _ [some (.ref t), some (.ref r), none, none, none, none, none, none, none] A
  dsimp only [t__law_reached, dSeq, dIf, dAsg, dName, dRet, dRetN, dDrop, dNext, dB, dTru, dOp, dUn, dCall, dCons, dNil, dC, dV, dTup, dLst, dCal, dMet, dMak, dFld, DL.sFld, dBm, dgSub, dgTup, dgCons, dgNil, dAndT, dOrT, dNotT, dOr, dAnd, dNotE, dIsi, dSl, dNoP, dPart, dDNew, dNever, fInt, fMod, fAdd_int, fSub, fMul, fDiv, fPow, fI2, fI2C, fNeg, mLt, List.getElem?_cons_succ, List.getElem?_cons_zero, List.set_cons_zero, List.set_cons_succ]
  intro fo hfo
  have eF : fnd rows rs = walkG rows (rs.foldl addJ []) ts.length := by unfold fnd; rw [ro.len]
  unfold rts rch at hR
  rw [eF] at hR
  have t1 := up_at (u := .lst []) ht hfo
  have r1 := up_at (u := .lst []) hr hfo
  have f1 : up A fo (.lst []) fo = some (.lst []) := up_same
  have s1 : Sm [] A (up A fo (.lst [])) := Sm.new hfo
  have ft : t ≠ fo := ne_nn ht hfo
  have fr : r ≠ fo := ne_nn hr hfo
  have lift : ∀ {A'}, Sm [fo] (up A fo (.lst [])) A' → Sm [] A A' := fun s => (s1.of0.trans s).drop fun a m => by simp at m; subst m; exact .inr hfo
  generalize up A fo (.lst []) = A1 at t1 r1 f1 s1 lift ⊢
  have N1 : ∀ i, Nums rows.length ((rs.take i).foldl addJ []) := fun i => Nums.nil.fold fun v m => hrs v (List.mem_of_mem_take m)
  refine for_l r1 (fun i σ A' => ∃ x3, σ = [some (.ref t), some (.ref r), some (.ref fo), x3, none, none, none, none, none] ∧ Sm [fo] A1 A' ∧ A' fo = some (.lst ((rs.take i).foldl addJ [])))
    ⟨none, rfl, Sm.refl, f1⟩ (fun i σ A' _ ⟨_, _, h, _⟩ => h r _ (by simpa using fr) r1) ?_ ?_ (fun _ q => q)
  · rintro i x σ A2 hx ⟨x3, rfl, s2, f2⟩
    have hx' := hrs x (List.mem_of_getElem? hx)
    have tk : (rs.take (i + 1)).foldl addJ [] = addJ ((rs.take i).foldl addJ []) x := by rw [List.take_succ, hx, List.foldl_append]; rfl
    have fl := (N1 i).len
    dsimp only [dSeq, dIf, dAsg, dName, dRet, dRetN, dDrop, dNext, dB, dTru, dOp, dUn, dCall, dCons, dNil, dC, dV, dTup, dLst, dCal, dMet, dMak, dFld, DL.sFld, dBm, dgSub, dgTup, dgCons, dgNil, dAndT, dOrT, dNotT, dOr, dAnd, dNotE, dIsi, dSl, dNoP, dPart, dDNew, dNever, fInt, fMod, fAdd_int, fSub, fMul, fDiv, fPow, fI2, fI2C, fNeg, mLt, List.getElem?_cons_succ, List.getElem?_cons_zero, List.set_cons_zero, List.set_cons_succ]
    refine mIn_lst f2 hx'.pl (N1 i).pl ?_
    show (if (true ^^ decide (x ∈ (rs.take i).foldl addJ [])) = true then (_ : Prop) else (_ : Prop))
    by_cases h : x ∈ (rs.take i).foldl addJ []
    · rw [if_neg (by simp [h])]
      exact ⟨_, rfl, s2, by rw [tk, addJ_old h]; exact f2⟩
    · rw [if_pos (by simp [h])]
      exact ⟨⟨_, f2⟩, fAppend_lst f2 (by show _ < 16777216; omega) ⟨_, rfl, s2.trans (Sm.put (by simp)), by rw [up_same, tk, addJ_new h]⟩⟩
  · rintro σ A2 ⟨x3, rfl, s2, f2⟩
    rw [List.take_length] at f2
    have N0 : Nums rows.length (rs.foldl addJ []) := by have := N1 rs.length; rwa [List.take_length] at this
    have L1 : ∀ d ∈ rs, d ∈ rs.foldl addJ [] := fun d m => foldJ_mem.mpr (.inr m)
    generalize rs.foldl addJ [] = L0 at f2 N0 L1 hR
    have NW := fun i => N0.walk G i
    dsimp only [dSeq, dIf, dAsg, dName, dRet, dRetN, dDrop, dNext, dB, dTru, dOp, dUn, dCall, dCons, dNil, dC, dV, dTup, dLst, dCal, dMet, dMak, dFld, DL.sFld, dBm, dgSub, dgTup, dgCons, dgNil, dAndT, dOrT, dNotT, dOr, dAnd, dNotE, dIsi, dSl, dNoP, dPart, dDNew, dNever, fInt, fMod, fAdd_int, fSub, fMul, fDiv, fPow, fI2, fI2C, fNeg, mLt, List.getElem?_cons_succ, List.getElem?_cons_zero, List.set_cons_zero, List.set_cons_succ]
    have t2 := s2 t _ (by simpa using ft) t1
    have tl := ro.len
    refine for_r1 (j := (ts.length : Int)) (by unfold small62; omega) (fun i σ A' => ∃ x3 x4 x5, σ = [some (.ref t), some (.ref r), some (.ref fo), x3, x4, x5, none, none, none] ∧ Sm [fo] A1 A' ∧ A' fo = some (.lst (walkG rows L0 i)))
      ⟨x3, none, none, rfl, s2, f2⟩ ?_ ?_ (fun Q h => by show fLen [.ref t] A2 (fun x A3 => Q [x] A3); exact len_lst t2 h)
    · rintro i σ A3 hi ⟨y3, x4, x5, rfl, s3, f3⟩
      have N := NW i
      have fl := N.len
      have t3 := s3 t _ (by simpa using ft) t1
      dsimp only [dSeq, dIf, dAsg, dName, dRet, dRetN, dDrop, dNext, dB, dTru, dOp, dUn, dCall, dCons, dNil, dC, dV, dTup, dLst, dCal, dMet, dMak, dFld, DL.sFld, dBm, dgSub, dgTup, dgCons, dgNil, dAndT, dOrT, dNotT, dOr, dAnd, dNotE, dIsi, dSl, dNoP, dPart, dDNew, dNever, fInt, fMod, fAdd_int, fSub, fMul, fDiv, fPow, fI2, fI2C, fNeg, mLt, List.getElem?_cons_succ, List.getElem?_cons_zero, List.set_cons_zero, List.set_cons_succ]
      rw [Int.zero_add]
      refine len_lst f3 ?_
      show (if decide ((i : Int) < ((walkG rows L0 i).length : Int)) = true then (_ : Prop) else (_ : Prop))
      by_cases h : i < (walkG rows L0 i).length
      · rw [if_pos (by simpa using h)]
        obtain ⟨d, ed⟩ : ∃ d, (walkG rows L0 i)[i]? = some d := ⟨_, List.getElem?_eq_getElem h⟩
        have st : stepG rows (walkG rows L0 i) i = (rowT (rowAt rows d)).foldl addJ (walkG rows L0 i) := by
          unfold stepG
          rw [ed, ← nxt_row]
        obtain ⟨k, rw_, rfl, ek, er⟩ := rowAt_of rfl (N.al d (List.mem_of_getElem? ed))
        rw [er] at st
        have ok := G rw_ (List.mem_of_getElem? ek)
        rw [dFor_diL]
        dsimp only [dSeq, dIf, dAsg, dName, dRet, dRetN, dDrop, dNext, dB, dTru, dOp, dUn, dCall, dCons, dNil, dC, dV, dTup, dLst, dCal, dMet, dMak, dFld, DL.sFld, dBm, dgSub, dgTup, dgCons, dgNil, dAndT, dOrT, dNotT, dOr, dAnd, dNotE, dIsi, dSl, dNoP, dPart, dDNew, dNever, fInt, fMod, fAdd_int, fSub, fMul, fDiv, fPow, fI2, fI2C, fNeg, mLt, List.getElem?_cons_succ, List.getElem?_cons_zero, List.set_cons_zero, List.set_cons_succ]
        refine mIx_lst f3 (d := .int ((k : Nat) : Int)) (by rw [atI_nat (by omega) (by omega)]; simpa using ed) ?_
        refine mIx_row0 (lift s3) t3 ro ek fun a hA ha => ?_
        have af : a ≠ fo := ne_nn hA hfo
        have NP : ∀ j, Nums rows.length ((rowT (rw_.take j)).foldl addJ (walkG rows L0 i)) := fun j => N.fold fun v m => rowT_num (fun x mx => ok.1.1 x (List.mem_of_mem_take mx)) v m
        refine for_tail ha (fun j σ A' => ∃ x5, σ = [some (.ref t), some (.ref r), some (.ref fo), y3, some (.int (i : Int)), x5, none, none, none] ∧ Sm [fo] A3 A' ∧ A' fo = some (.lst ((rowT (rw_.take j)).foldl addJ (walkG rows L0 i))))
          ⟨_, rfl, Sm.refl, f3⟩ (fun j σ A' _ ⟨_, _, h, _⟩ => h a _ (by simpa using af) ha) ?_ ?_
        · rintro j x σ A4 hx ⟨z5, rfl, s4, f4⟩
          have tk := rowT_take hx
          have N4 := NP j
          have fl4 := N4.len
          obtain ⟨f, v, rfl, hf, hv⟩ := ok.1.1 x (List.mem_of_getElem? hx)
          dsimp only [dSeq, dIf, dAsg, dName, dRet, dRetN, dDrop, dNext, dB, dTru, dOp, dUn, dCall, dCons, dNil, dC, dV, dTup, dLst, dCal, dMet, dMak, dFld, DL.sFld, dBm, dgSub, dgTup, dgCons, dgNil, dAndT, dOrT, dNotT, dOr, dAnd, dNotE, dIsi, dSl, dNoP, dPart, dDNew, dNever, fInt, fMod, fAdd_int, fSub, fMul, fDiv, fPow, fI2, fI2C, fNeg, mLt, List.getElem?_cons_succ, List.getElem?_cons_zero, List.set_cons_zero, List.set_cons_succ]
          refine mIx_tup (d := v) rfl ?_
          rcases Fvc hv with (⟨k', rfl, hp⟩ | ⟨l, rfl, hp⟩) | ⟨k', hk', rfl⟩
          · exact ⟨_, rfl, s4, by rw [tk]; simpa [tgt] using f4⟩
          · exact ⟨_, rfl, s4, by rw [tk]; simpa [tgt] using f4⟩
          · have tk : (rowT (rw_.take (j + 1))).foldl addJ (walkG rows L0 i) = addJ ((rowT (rw_.take j)).foldl addJ (walkG rows L0 i)) (.int ((k' : Nat) : Int)) := by rw [tk, List.foldl_append]; rfl
            show mIx (.tup [f, refD k']) (.int 1) A4 fun y A5 => mIx y (.int 1) A5 fun z A6 => mIn true z (.ref fo) A6 _
            refine mIx_tup (d := refD k') rfl (mIx_tup (d := .int ((k' : Nat) : Int)) rfl (mIn_lst f4 rfl N4.pl ?_))
            show (if (true ^^ decide (D.int ((k' : Nat) : Int) ∈ (rowT (rw_.take j)).foldl addJ (walkG rows L0 i))) = true then (_ : Prop) else (_ : Prop))
            by_cases h : D.int ((k' : Nat) : Int) ∈ (rowT (rw_.take j)).foldl addJ (walkG rows L0 i)
            · rw [if_neg (by simp [h])]
              exact ⟨_, rfl, s4, by rw [tk, addJ_old h]; exact f4⟩
            · rw [if_pos (by simp [h])]
              exact ⟨⟨_, f4⟩, mIx_tup (d := refD k') rfl (mIx_tup (d := .int ((k' : Nat) : Int)) rfl (fAppend_lst f4 (by show _ < 16777216; omega) ⟨_, rfl, s4.trans (Sm.put (by simp)), by rw [up_same, tk, addJ_new h]⟩))⟩
        · rintro σ A4 ⟨z5, rfl, s4, f4⟩
          rw [List.take_length] at f4
          exact ⟨_, _, _, rfl, s3.trans s4, by show _ = some (AO.lst (stepG rows (walkG rows L0 i) i)); rw [st]; exact f4⟩
      · rw [if_neg (by simpa using h)]
        refine ⟨_, _, _, rfl, s3, ?_⟩
        show _ = some (AO.lst (stepG rows (walkG rows L0 i) i))
        unfold stepG
        rw [List.getElem?_eq_none (by omega)]
        exact f3
    · rintro σ A3 ⟨y3, x4, x5, rfl, s3, f3⟩
      have NF := NW ts.length
      have F1 : ∀ d ∈ L0, d ∈ walkG rows L0 ts.length := fun d m => by
        obtain ⟨q, e⟩ := walkG_pre (rows := rows) (L := L0) 0 ts.length
        rw [Nat.zero_add] at e
        rw [e]
        exact List.mem_append_left _ m
      have FC : ∀ d m, d ∈ walkG rows L0 ts.length → m ∈ nxt rows d → m ∈ walkG rows L0 ts.length := fun d m h1 h2 => walkG_closed (by have := NF.len; omega) h1 h2
      have f3 : A3 fo = some (.lst (walkG rows L0 ts.length)) := f3
      generalize walkG rows L0 ts.length = F at f3 NF F1 FC hR
      have FL := NF.len
      have sA3 := lift s3
      have t3 := sA3 t _ (by simp) ht
      have r3 := sA3 r _ (by simp) hr
      dsimp only [dSeq, dIf, dAsg, dName, dRet, dRetN, dDrop, dNext, dB, dTru, dOp, dUn, dCall, dCons, dNil, dC, dV, dTup, dLst, dCal, dMet, dMak, dFld, DL.sFld, dBm, dgSub, dgTup, dgCons, dgNil, dAndT, dOrT, dNotT, dOr, dAnd, dNotE, dIsi, dSl, dNoP, dPart, dDNew, dNever, fInt, fMod, fAdd_int, fSub, fMul, fDiv, fPow, fI2, fI2C, fNeg, mLt, List.getElem?_cons_succ, List.getElem?_cons_zero, List.set_cons_zero, List.set_cons_succ]
      intro th hth
      have thA : A th = none := sA3.none0 hth
      have tht : t ≠ th := ne_nn t3 hth
      have thr : r ≠ th := ne_nn r3 hth
      have thf : fo ≠ th := ne_nn f3 hth
      have t4 := up_at (u := .lst []) t3 hth
      have r4 := up_at (u := .lst []) r3 hth
      have f4 := up_at (u := .lst []) f3 hth
      have h4 : up A3 th (.lst []) th = some (.lst []) := up_same
      have sA4 : Sm [] A (up A3 th (.lst [])) := sA3.trans (Sm.new hth)
      generalize up A3 th (.lst []) = A4 at t4 r4 f4 h4 sA4 ⊢
      have fin : GOk (F.map fun d => (rowAt rows d).map (renP F)) := fun q m => by
        obtain ⟨d, md, rfl⟩ := List.mem_map.mp m
        obtain ⟨k, q, rfl, ek, er⟩ := rowAt_of rfl (NF.al d md)
        rw [er, List.length_map]
        exact ren_row (G q (List.mem_of_getElem? ek)) fun j mj => FC _ j md (by rw [nxt_row, er]; exact mj)
      refine for_l f4 (fun i σ A' => ∃ x5 x7 x8 ds, σ = [some (.ref t), some (.ref r), some (.ref fo), y3, x4, x5, some (.ref th), x7, x8] ∧ Sm [th] A4 A' ∧ A' th = some (.lst ds) ∧ RowsAt A' th ds ((F.map fun d => (rowAt rows d).map (renP F)).take i))
        ⟨_, none, none, [], rfl, Sm.refl, h4, by rw [List.take_zero]; trivial⟩ (fun i σ A' _ ⟨_, _, _, _, _, h, _⟩ => h fo _ (by simpa using thf) f4) ?_ ?_ (fun _ q => q)
      · rintro i d σ A5 hx ⟨z5, z7, z8, ds, rfl, s5, h5, ro5⟩
        have md := List.mem_of_getElem? hx
        have li := (List.getElem?_eq_some_iff.mp hx).1
        have sA5 : Sm [] A A5 := (sA4.of0.trans s5).drop fun a m => by simp at m; subst m; exact .inr thA
        have t5 := sA5 t _ (by simp) ht
        have f5 := s5 fo _ (by simpa using thf) f4
        obtain ⟨k, q, rfl, ek, er⟩ := rowAt_of rfl (NF.al d md)
        have ok := G q (List.mem_of_getElem? ek)
        have clo : ∀ j ∈ rowT q, j ∈ F := fun j mj => FC _ j md (by rw [nxt_row, er]; exact mj)
        dsimp only [dSeq, dIf, dAsg, dName, dRet, dRetN, dDrop, dNext, dB, dTru, dOp, dUn, dCall, dCons, dNil, dC, dV, dTup, dLst, dCal, dMet, dMak, dFld, DL.sFld, dBm, dgSub, dgTup, dgCons, dgNil, dAndT, dOrT, dNotT, dOr, dAnd, dNotE, dIsi, dSl, dNoP, dPart, dDNew, dNever, fInt, fMod, fAdd_int, fSub, fMul, fDiv, fPow, fI2, fI2C, fNeg, mLt, List.getElem?_cons_succ, List.getElem?_cons_zero, List.set_cons_zero, List.set_cons_succ]
        intro w hw
        have wA : A w = none := sA5.none0 hw
        have wt : th ≠ w := ne_nn h5 hw
        have wf : fo ≠ w := ne_nn f5 hw
        have t6 := up_at (u := .lst []) t5 hw
        have f6 := up_at (u := .lst []) f5 hw
        have h6 := up_at (u := .lst []) h5 hw
        have w6 : up A5 w (.lst []) w = some (.lst []) := up_same
        have s6 : Sm [] A5 (up A5 w (.lst [])) := Sm.new hw
        have sA6 := sA5.trans s6
        generalize up A5 w (.lst []) = A6 at t6 f6 h6 w6 s6 sA6 ⊢
        rw [dFor_diL]
        dsimp only [dSeq, dIf, dAsg, dName, dRet, dRetN, dDrop, dNext, dB, dTru, dOp, dUn, dCall, dCons, dNil, dC, dV, dTup, dLst, dCal, dMet, dMak, dFld, DL.sFld, dBm, dgSub, dgTup, dgCons, dgNil, dAndT, dOrT, dNotT, dOr, dAnd, dNotE, dIsi, dSl, dNoP, dPart, dDNew, dNever, fInt, fMod, fAdd_int, fSub, fMul, fDiv, fPow, fI2, fI2C, fNeg, mLt, List.getElem?_cons_succ, List.getElem?_cons_zero, List.set_cons_zero, List.set_cons_succ]
        refine mIx_row0 sA6 t6 ro ek fun a hA ha => ?_
        have aw : a ≠ w := ne_nn hA wA
        refine for_tail ha (fun j σ A' => ∃ x5 : Option D, σ = [some (.ref t), some (.ref r), some (.ref fo), y3, x4, x5, some (.ref th), some (.int ((k : Nat) : Int)), some (.ref w)] ∧ Sm [w] A6 A' ∧ A' w = some (.lst ((q.take j).map (renP F))))
          ⟨_, rfl, Sm.refl, w6⟩ (fun j σ A' _ ⟨_, _, h, _⟩ => h a _ (by simpa using aw) ha) ?_ ?_
        · rintro j x σ A7 hx ⟨v5, rfl, s7, w7⟩
          have f7 := s7 fo _ (by simpa using wf) f6
          have tk : (q.take (j + 1)).map (renP F) = (q.take j).map (renP F) ++ [renP F x] := by rw [List.take_succ, hx, List.map_append]; rfl
          have ll : ((q.take j).map (renP F)).length < SL := by
            rw [List.length_map, List.length_take]
            show _ < 16777216
            have := ok.2
            omega
          have mx := List.mem_of_getElem? hx
          have tm : ∀ j, tgt x = some j → j ∈ F := fun j e => clo j (List.mem_filterMap.mpr ⟨x, mx, e⟩)
          obtain ⟨f, v, rfl, hf, hv⟩ := ok.1.1 x mx
          dsimp only [dSeq, dIf, dAsg, dName, dRet, dRetN, dDrop, dNext, dB, dTru, dOp, dUn, dCall, dCons, dNil, dC, dV, dTup, dLst, dCal, dMet, dMak, dFld, DL.sFld, dBm, dgSub, dgTup, dgCons, dgNil, dAndT, dOrT, dNotT, dOr, dAnd, dNotE, dIsi, dSl, dNoP, dPart, dDNew, dNever, fInt, fMod, fAdd_int, fSub, fMul, fDiv, fPow, fI2, fI2C, fNeg, mLt, List.getElem?_cons_succ, List.getElem?_cons_zero, List.set_cons_zero, List.set_cons_succ]
          refine mIx_tup (d := v) rfl ?_
          rcases Fvc hv with (⟨k', rfl, hp⟩ | ⟨l, rfl, hp⟩) | ⟨k', hk', rfl⟩
          · exact ⟨⟨_, w7⟩, fAppend_lst w7 ll ⟨_, rfl, s7.trans (Sm.put (by simp)), by rw [up_same, tk]; rfl⟩⟩
          · exact ⟨⟨_, w7⟩, fAppend_lst w7 ll ⟨_, rfl, s7.trans (Sm.put (by simp)), by rw [up_same, tk]; rfl⟩⟩
          · show (if (true : Bool) = true then (_ : Prop) else (_ : Prop))
            rw [if_pos rfl]
            refine ⟨⟨_, w7⟩, mIx_tup (d := f) rfl ⟨⟨_, f7⟩, mIx_tup (d := refD k') rfl (mIx_tup (d := .int ((k' : Nat) : Int)) rfl (index_lst f7 rfl NF.pl (tm _ rfl) ?_))⟩⟩
            exact fAppend_lst w7 ll ⟨_, rfl, s7.trans (Sm.put (by simp)), by rw [up_same, tk]; rfl⟩
        · rintro σ A7 ⟨v5, rfl, s7, w7⟩
          rw [List.take_length] at w7
          have s57 : Sm [] A5 A7 := (s6.of0.trans s7).drop fun a m => by simp at m; subst m; exact .inr hw
          have h7 := s57 th _ (by simp) h5
          have ln := ro5.len
          rw [List.length_take] at ln
          have tk : (F.map fun d => (rowAt rows d).map (renP F)).take (i + 1) = (F.map fun d => (rowAt rows d).map (renP F)).take i ++ [q.map (renP F)] := by
            rw [List.take_succ, List.getElem?_map, hx, ← er]; rfl
          dsimp only [dSeq, dIf, dAsg, dName, dRet, dRetN, dDrop, dNext, dB, dTru, dOp, dUn, dCall, dCons, dNil, dC, dV, dTup, dLst, dCal, dMet, dMak, dFld, DL.sFld, dBm, dgSub, dgTup, dgCons, dgNil, dAndT, dOrT, dNotT, dOr, dAnd, dNotE, dIsi, dSl, dNoP, dPart, dDNew, dNever, fInt, fMod, fAdd_int, fSub, fMul, fDiv, fPow, fI2, fI2C, fNeg, mLt, List.getElem?_cons_succ, List.getElem?_cons_zero, List.set_cons_zero, List.set_cons_succ]
          refine ⟨⟨_, h7⟩, fAppend_lst h7 (by show _ < 16777216; omega) ⟨_, _, _, ds ++ [.ref w], rfl, (s5.trans s57.of0).trans (Sm.put (by simp)), up_same, ?_⟩⟩
          rw [tk]
          exact RowsAt.snoc wt.symm (by rw [up_ne wt.symm]; exact w7) ((ro5.keep s57.of0).keep (Sm.put (by simp)))
      · rintro σ A5 ⟨z5, z7, z8, ds, rfl, s5, h5, ro5⟩
        rw [show F.length = (F.map fun d => (rowAt rows d).map (renP F)).length by rw [List.length_map], List.take_length] at ro5
        have sA5 : Sm [] A A5 := (sA4.of0.trans s5).drop fun a m => by simp at m; subst m; exact .inr thA
        have r5 := sA5 r _ (by simp) hr
        have f5 := s5 fo _ (by simpa using thf) f4
        dsimp only [dSeq, dIf, dAsg, dName, dRet, dRetN, dDrop, dNext, dB, dTru, dOp, dUn, dCall, dCons, dNil, dC, dV, dTup, dLst, dCal, dMet, dMak, dFld, DL.sFld, dBm, dgSub, dgTup, dgCons, dgNil, dAndT, dOrT, dNotT, dOr, dAnd, dNotE, dIsi, dSl, dNoP, dPart, dDNew, dNever, fInt, fMod, fAdd_int, fSub, fMul, fDiv, fPow, fI2, fI2C, fNeg, mLt, List.getElem?_cons_succ, List.getElem?_cons_zero, List.set_cons_zero, List.set_cons_succ]
        refine lc_l (fun d => some (.int (F.idxOf d : Nat))) r5 (by show _ ≤ 16777216; omega) (fun d p o md hp K N k1 _ => ?_) (fun p hp => ?_) (fun Q h => h)
        · dsimp only [dSeq, dIf, dAsg, dName, dRet, dRetN, dDrop, dNext, dB, dTru, dOp, dUn, dCall, dCons, dNil, dC, dV, dTup, dLst, dCal, dMet, dMak, dFld, DL.sFld, dBm, dgSub, dgTup, dgCons, dgNil, dAndT, dOrT, dNotT, dOr, dAnd, dNotE, dIsi, dSl, dNoP, dPart, dDNew, dNever, fInt, fMod, fAdd_int, fSub, fMul, fDiv, fPow, fI2, fI2C, fNeg, mLt, List.getElem?_cons_succ, List.getElem?_cons_zero, List.set_cons_zero, List.set_cons_succ]
          exact ⟨⟨_, up_at f5 hp⟩, index_lst (up_at f5 hp) (hrs d md).pl NF.pl (F1 d (L1 d md)) (k1 _ rfl)⟩
        · refine hR p th ds _ (sA5.trans (Sm.new hp)) (up_at h5 hp) ?_ (ro5.sm (Sm.new hp)) fin NF fun d md => F1 d (L1 d md)
          rw [up_same, fm_some]
end LawP
set_option Elab.async false
set_option linter.all false
set_option maxRecDepth 100000
set_option maxHeartbeats 1000000
namespace LawP
open PySem L2 DL
def refE : D → Option (D × Nat)
  | .tup [f, .tup [_, .int j]] => some (f, j.toNat)
  | _ => none
def edg (r : List D) : List (D × Nat) := r.filterMap refE
def edges (rows : List (List D)) (k : Nat) : List (D × Nat) := match rows[k]? with
  | some r => edg r
  | none => []
def eD (e : D × Nat) : D := .tup [e.1, .int ((e.2 : Nat) : Int)]
def goD : D → Option D
  | .tup [f, .tup [_, j]] => some (.tup [f, j])
  | _ => none
theorem goD_eq {n : Nat} {x : D} (h : Fv n x) : goD x = (refE x).map eD := by
  obtain ⟨f, v, rfl, hf, hv⟩ := h
  rcases Fvc hv with (⟨i, rfl, hp⟩ | ⟨l, rfl, hp⟩) | ⟨j, hj, rfl⟩
  · rfl
  · rfl
  · show some (D.tup [f, .int ((j : Nat) : Int)]) = some (D.tup [f, .int ((((j : Nat) : Int).toNat : Nat) : Int)])
    rw [Int.toNat_natCast]
theorem go_row {n : Nat} : ∀ {r : List D}, (∀ x ∈ r, Fv n x) → r.filterMap goD = (edg r).map eD
  | [], _ => rfl
  | x :: r, h => by
    have ih := go_row (r := r) fun y m => h y (List.mem_cons_of_mem _ m)
    have e := goD_eq (h x List.mem_cons_self)
    unfold edg at ih ⊢
    rw [List.filterMap_cons, List.filterMap_cons, e, ih]
    cases refE x <;> rfl
theorem refE_fv {n : Nat} {x : D} {e : D × Nat} (h : Fv n x) (q : refE x = some e) : e.1 = c0 x ∧ isStr e.1 = true ∧ e.2 < n := by
  obtain ⟨f, v, rfl, hf, hv⟩ := h
  rcases Fvc hv with (⟨i, rfl, hp⟩ | ⟨l, rfl, hp⟩) | ⟨j, hj, rfl⟩
  · cases q
  · cases q
  · have q : some (f, (((j : Nat) : Int)).toNat) = some e := q
    cases q
    exact ⟨rfl, hf, by rw [Int.toNat_natCast]; exact hj⟩
theorem edges_ok {rows : List (List D)} (G : GOk rows) : Edg (edges rows) rows.length := by
  have at' : ∀ k, edges rows k = [] ∨ ∃ r ∈ rows, edges rows k = edg r := fun k => by
    unfold edges
    cases e : rows[k]? with
    | none => exact .inl rfl
    | some r => exact .inr ⟨r, List.mem_of_getElem? e, rfl⟩
  refine ⟨fun k => ?_, fun k e m => ?_, fun k e m => ?_⟩
  · rcases at' k with h | ⟨r, mr, h⟩
    · rw [h]; exact List.Pairwise.nil
    · rw [h]
      unfold edg
      rw [List.pairwise_filterMap]
      have := List.pairwise_map.mp (fnames_asc.sublist (G r mr).1.2)
      refine this.imp_of_mem fun {x y} mx my hxy a ha b hb => ?_
      rw [(refE_fv ((G r mr).1.1 x mx) ha).1, (refE_fv ((G r mr).1.1 y my) hb).1]
      exact hxy
  · rcases at' k with h | ⟨r, mr, h⟩
    · rw [h] at m; cases m
    · rw [h] at m
      obtain ⟨x, mx, q⟩ := List.mem_filterMap.mp m
      exact (refE_fv ((G r mr).1.1 x mx) q).2.1
  · rcases at' k with h | ⟨r, mr, h⟩
    · rw [h] at m; cases m
    · rw [h] at m
      obtain ⟨x, mx, q⟩ := List.mem_filterMap.mp m
      exact (refE_fv ((G r mr).1.1 x mx) q).2.2
/-- a graph at its place -/
structure Gat (A : AH) (gc : Addr) (rows : List (List D)) : Prop where
  ex : ∃ gs av, A gc = some (.lst gs) ∧ RowsAt A av gs rows
  ok : GOk rows
  len : rows.length ≤ 100
theorem Gat.sm {A A' : AH} {gc : Addr} {rows : List (List D)} (h : Gat A gc rows) (s : Sm [] A A') : Gat A' gc rows := ⟨let ⟨gs, av, h1, h2⟩ := h.ex; ⟨gs, av, s _ _ (by simp) h1, h2.sm s⟩, h.ok, h.len⟩
/-- graph[1][k] -/
theorem Gat.row {A A' : AH} {ga gc : Addr} {rows : List (List D)} {k : Nat} {r : List D} {Q : DQ} (h : Gat A gc rows) (s : Sm [] A A') (hr : rows[k]? = some r) (q : ∀ a, A a = some (.lst r) → A' a = some (.lst r) → Q (.ref a) A') : mIx (.tup [.ref ga, .ref gc]) (.int 1) A' fun y A2 => mIx y (.int ((k : Nat) : Int)) A2 Q := by
  obtain ⟨gs, av, h1, h2⟩ := h.ex
  refine mIx_tup (d := .ref gc) rfl ?_
  exact mIx_row0 s (s _ _ (by simp) h1) h2 hr q
/-- a drawn graph: its rows, its roots, the box -/
structure AnyG (A : AH) (b dg a c : Addr) (rows : List (List D)) : Prop where
  gat : Gat A c rows
  box : Box A b dg
  pos : 0 < rows.length
  rts : ∃ rl : List Nat, A a = some (.lst (rl.map fun k => .int ((k : Nat) : Int))) ∧ (∀ k ∈ rl, k < rows.length) ∧ 0 < rl.length ∧ rl.length ≤ 3 ∧ ∃ ths rs, rows = rch ths rs ∧ GOk ths ∧ (∀ d ∈ rs, Num ths.length d) ∧ rl = rs.map fun d => (fnd ths rs).idxOf d
def sp__law_any : DSp := fun ds A R _ => ∃ b dg m q, ds = [.ref b, .int m, .int q] ∧ 0 < m ∧ m ≤ 100 ∧ 0 < q ∧ Box A b dg ∧ ∀ (a c : Addr) (rows : List (List D)) (A' : AH), Sm [b] A A' → AnyG A' b dg a c rows → rows.length ≤ m.toNat → R (.tup [.ref a, .ref c]) A'
def sp_target_of : DSp := fun ds A R _ => ∃ v n, ds = [v] ∧ (PV v ∧ R .non A ∨ ∃ j, j < n ∧ v = refD j ∧ R (.int ((j : Nat) : Int)) A)
def sp_is_reference : DSp := fun ds A R _ => ∃ v n, ds = [v] ∧ (PV v ∧ R (.bl false) A ∨ ∃ j, j < n ∧ v = refD j ∧ R (.bl true) A)
/-- _law_any: 0 _law_box, 1 _law_most, 2 _law_same, 3 _law_things, 4 _law_k -/
def t__law_any : DTS := dSeq (dAsg (dCal sp__law_drawn (dCons (dV 0) (dCons (dV 1) (dCons (dV 2) (dNil))))) (dName 3)) (
  dRet (dCal sp__law_reached (dCons (dV 3) (dCons (dLc (diR1 (dCons (dOp fAdd (dC (.int 1)) (dCal sp__law_draw (dCons (dV 0) (dCons (dC (.int 3)) (dNil))))) (dNil))) (dName 4) (dYes) (dCal sp__law_draw (dCons (dV 0) (dCons (dCall mLen (dCons (dV 3) (dNil))) (dNil)))) [4]) (dNil)))))
/-- target_of: 0 value -/
def t_target_of : DTS := dSeq (dIf (dTru (dIsi "tuple" (dV 0))) (dRet (dOp mIx (dV 0) (dC (.int 1)))) (dNext)) (
  dRet (dC .non))
/-- is_reference: 0 value -/
def t_is_reference : DTS := dRet (dOp fNot (dCal sp_target_of (dCons (dV 0) (dNil))) (dC .non))
theorem q_target_of : ∀ ds A R E, ds.length = 1 → sp_target_of ds A R E → t_target_of { nx := fun _ A' => R .non A', rt := R } (ds.map some ++ List.replicate (1 - ds.length) none) A := by
  rintro ds A R E - ⟨v, n, rfl, h⟩
  show t_target_of _ [some v] A
  dsimp only [t_target_of, dSeq, dIf, dAsg, dName, dRet, dRetN, dDrop, dNext, dB, dTru, dOp, dUn, dCall, dCons, dNil, dC, dV, dTup, dLst, dCal, dMet, dMak, dFld, DL.sFld, dBm, dgSub, dgTup, dgCons, dgNil, dAndT, dOrT, dNotT, dOr, dAnd, dNotE, dIsi, dSl, dNoP, dPart, dDNew, dNever, fInt, fMod, fAdd_int, fSub, fMul, fDiv, fPow, fI2, fI2C, fNeg, mLt, List.getElem?_cons_succ, List.getElem?_cons_zero, List.set_cons_zero, List.set_cons_succ]
  rcases h with ⟨hp, hR⟩ | ⟨j, hj, rfl, hR⟩
  · rcases hp.cs with ⟨i, rfl, _⟩ | ⟨l, rfl, _⟩
    · exact hR
    · exact hR
  · show mIx (refD j) (.int 1) A R
    exact mIx_tup (d := .int ((j : Nat) : Int)) rfl hR
theorem q_is_reference : ∀ ds A R E, ds.length = 1 → sp_is_reference ds A R E → t_is_reference { nx := fun _ A' => R .non A', rt := R } (ds.map some ++ List.replicate (1 - ds.length) none) A := by
  rintro ds A R E - ⟨v, n, rfl, h⟩
  show t_is_reference _ [some v] A
  dsimp only [t_is_reference, dSeq, dIf, dAsg, dName, dRet, dRetN, dDrop, dNext, dB, dTru, dOp, dUn, dCall, dCons, dNil, dC, dV, dTup, dLst, dCal, dMet, dMak, dFld, DL.sFld, dBm, dgSub, dgTup, dgCons, dgNil, dAndT, dOrT, dNotT, dOr, dAnd, dNotE, dIsi, dSl, dNoP, dPart, dDNew, dNever, fInt, fMod, fAdd_int, fSub, fMul, fDiv, fPow, fI2, fI2C, fNeg, mLt, List.getElem?_cons_succ, List.getElem?_cons_zero, List.set_cons_zero, List.set_cons_succ]
  rcases h with ⟨h, hR⟩ | ⟨j, hj, rfl, hR⟩
  · exact ⟨v, n, rfl, .inl ⟨h, hR⟩⟩
  · exact ⟨_, n, rfl, .inr ⟨j, hj, rfl, hR⟩⟩
theorem q__law_any : ∀ ds A R E, ds.length = 3 → sp__law_any ds A R E → t__law_any { nx := fun _ A' => R .non A', rt := R } (ds.map some ++ List.replicate (5 - ds.length) none) A := by
  rintro ds A R E - ⟨b, dg, m, q, rfl, h0, h100, hq, B, hR⟩
  show t__law_any _ [some (.ref b), some (.int m), some (.int q), none, none] A
  dsimp only [t__law_any, dSeq, dIf, dAsg, dName, dRet, dRetN, dDrop, dNext, dB, dTru, dOp, dUn, dCall, dCons, dNil, dC, dV, dTup, dLst, dCal, dMet, dMak, dFld, DL.sFld, dBm, dgSub, dgTup, dgCons, dgNil, dAndT, dOrT, dNotT, dOr, dAnd, dNotE, dIsi, dSl, dNoP, dPart, dDNew, dNever, fInt, fMod, fAdd_int, fSub, fMul, fDiv, fPow, fI2, fI2C, fNeg, mLt, List.getElem?_cons_succ, List.getElem?_cons_zero, List.set_cons_zero, List.set_cons_succ]
  refine ⟨b, dg, m, q, rfl, h0, h100, hq, B, fun t ts rows A1 s1 B1 ht0 ht ro rn0 rn G => ?_⟩
  have tb : t ≠ b := (B.b_ne ht0).symm
  have tl := ro.len
  dsimp only [dSeq, dIf, dAsg, dName, dRet, dRetN, dDrop, dNext, dB, dTru, dOp, dUn, dCall, dCons, dNil, dC, dV, dTup, dLst, dCal, dMet, dMak, dFld, DL.sFld, dBm, dgSub, dgTup, dgCons, dgNil, dAndT, dOrT, dNotT, dOr, dAnd, dNotE, dIsi, dSl, dNoP, dPart, dDNew, dNever, fInt, fMod, fAdd_int, fSub, fMul, fDiv, fPow, fI2, fI2C, fNeg, mLt, List.getElem?_cons_succ, List.getElem?_cons_zero, List.set_cons_zero, List.set_cons_succ]
  unfold dLc diR1
  dsimp only [dSeq, dIf, dAsg, dName, dRet, dRetN, dDrop, dNext, dB, dTru, dOp, dUn, dCall, dCons, dNil, dC, dV, dTup, dLst, dCal, dMet, dMak, dFld, DL.sFld, dBm, dgSub, dgTup, dgCons, dgNil, dAndT, dOrT, dNotT, dOr, dAnd, dNotE, dIsi, dSl, dNoP, dPart, dDNew, dNever, fInt, fMod, fAdd_int, fSub, fMul, fDiv, fPow, fI2, fI2C, fNeg, mLt, List.getElem?_cons_succ, List.getElem?_cons_zero, List.set_cons_zero, List.set_cons_succ]
  refine ⟨b, dg, 3, rfl, by decide, B1, fun k A2 k0 k3 s2 B2 => ?_⟩
  dsimp only [dSeq, dIf, dAsg, dName, dRet, dRetN, dDrop, dNext, dB, dTru, dOp, dUn, dCall, dCons, dNil, dC, dV, dTup, dLst, dCal, dMet, dMak, dFld, DL.sFld, dBm, dgSub, dgTup, dgCons, dgNil, dAndT, dOrT, dNotT, dOr, dAnd, dNotE, dIsi, dSl, dNoP, dPart, dDNew, dNever, fInt, fMod, fAdd_int, fSub, fMul, fDiv, fPow, fI2, fI2C, fNeg, mLt, List.getElem?_cons_succ, List.getElem?_cons_zero, List.set_cons_zero, List.set_cons_succ]
  refine ⟨by unfold small62; omega, rangeD 0 (1 + k).toNat, fun p hp => ?_⟩
  have pb := B2.b_ne hp
  have pd := B2.d_ne hp
  have pt : t ≠ p := ne_nn (s2 t _ (by simpa using tb) ht) hp
  have pA : A1 p = none := s2.noneW (fun c m => by simp at m; subst m; obtain ⟨n, e, _⟩ := B2.bx; exact ⟨_, e⟩) hp
  refine ⟨fun i A' => ∃ rs : List D, rs.length = i ∧ (∀ d ∈ rs, Num rows.length d) ∧ Sm [b] A1 A' ∧ Box A' b dg ∧ A' p = some (.lst rs), ⟨[], rfl, (fun _ z => nomatch z), s2.trans (Sm.new hp), B2.new hp, up_same⟩, fun _ _ _ _ => rfl, ?_, ?_⟩
  · rintro i x A3 hx ⟨rs, hl, hn, s3, B3, e3⟩
    have lt := (List.getElem?_eq_some_iff.mp hx).1
    rw [rangeD_len] at lt
    have t3 := s3 t _ (by simpa using tb) ht
    dsimp only [dwipe, dYes, dSeq, dIf, dAsg, dName, dRet, dRetN, dDrop, dNext, dB, dTru, dOp, dUn, dCall, dCons, dNil, dC, dV, dTup, dLst, dCal, dMet, dMak, dFld, DL.sFld, dBm, dgSub, dgTup, dgCons, dgNil, dAndT, dOrT, dNotT, dOr, dAnd, dNotE, dIsi, dSl, dNoP, dPart, dDNew, dNever, fInt, fMod, fAdd_int, fSub, fMul, fDiv, fPow, fI2, fI2C, fNeg, mLt, List.getElem?_cons_succ, List.getElem?_cons_zero, List.set_cons_zero, List.set_cons_succ]
    show (if (true : Bool) = true then (_ : Prop) else (_ : Prop))
    rw [if_pos rfl]
    refine len_lst t3 ?_
    refine ⟨b, dg, (ts.length : Int), rfl, by omega, B3, fun v A4 v0 v1 s4 B4 => ⟨rs, s4 p _ (by simpa using pb.symm) e3, by show _ < 16777216; omega, rs ++ [.int v], by rw [List.length_append, hl]; rfl, fun d md => ?_, ?_, B4.keep (W := [p]) (Sm.put (by simp)) (by simpa using pb) (by simpa using pd), up_same⟩⟩
    · rcases List.mem_append.mp md with md | md
      · exact hn d md
      · rw [List.mem_singleton.mp md]
        exact ⟨v.toNat, by omega, by rw [Int.toNat_of_nonneg v0]⟩
    · exact (((s3.trans s4).weak (V := [b, p]) (by simp)).trans (Sm.put (by simp))).drop fun a m => by
        simp at m
        rcases m with rfl | rfl
        · exact .inl (by simp)
        · exact .inr pA
  · rintro A3 ⟨rs, hl, hn, s3, B3, e3⟩
    rw [rangeD_len] at hl
    have hm : rows.length ≤ 100 := by omega
    refine ⟨t, ts, rows, p, rs, b, rfl, s3 t _ (by simpa using tb) ht, ro.keep s3, G, hm, e3, by omega, hn, fun a c ds A4 s4 hc ha ro' G' NF hf => ?_⟩
    have ln : (rch rows rs).length = (fnd rows rs).length := by unfold rch; rw [List.length_map]
    have FL := NF.len
    refine hR a c _ A4 ((s1.trans s3).trans s4.of0) ⟨⟨⟨ds, c, hc, ro'⟩, G', by omega⟩, B3.keep (W := []) s4 (by simp) (by simp), ?_, rs.map fun d => (fnd rows rs).idxOf d, ?_, fun k mk => ?_, by rw [List.length_map]; omega, by rw [List.length_map]; omega, rows, rs, rfl, fun r mr => G r mr, hn, rfl⟩ (by omega)
    · have ne : 0 < rs.length := by omega
      rw [ln]
      exact List.length_pos_of_mem (hf _ (List.getElem_mem ne))
    · rw [ha, List.map_map]
      rfl
    · obtain ⟨d, md, rfl⟩ := List.mem_map.mp mk
      rw [ln]
      exact List.idxOf_lt_length_of_mem (hf d md)
end LawP
set_option Elab.async false
set_option linter.all false
set_option maxRecDepth 100000
set_option maxHeartbeats 1000000
namespace LawP
open PySem L2 DL TL
/-! ### texts of graphs, in plain Lean -/
theorem intS_nat {n : Nat} : intS ((n : Nat) : Int) = numL n := tl_num n
theorem intS_neg {n : Nat} : intS (-((n + 1 : Nat) : Int)) = 45 :: numL (n + 1) := by
  have e : toString (-((n + 1 : Nat) : Int)) = "-" ++ toString (((n + 1 : Nat) : Int)) := rfl
  show tl (Str.ofString _) = _
  rw [e, tl_ofString, ← tl_num (n + 1), tl_ofString, String.toList_append, List.map_append]
  rfl
theorem numL_dig {n c : Nat} (h : c ∈ numL n) : 48 ≤ c ∧ c ≤ 57 := by
  by_cases k : 48 ≤ c ∧ c ≤ 57
  · exact k
  · exact absurd h (numL_free (by omega))
theorem numL_zero : ∀ {n : Nat}, (numL n).head? = some 48 → n = 0 := by
  intro n
  induction n using Nat.strongRecOn with
  | ind n ih =>
    intro h
    by_cases c : n < 10
    · rw [numL_lt c] at h
      injection h with h
      omega
    · rw [numL_step (by omega)] at h
      have ne := numL_ne (n / 10)
      obtain ⟨a, t, e⟩ := List.exists_cons_of_ne_nil ne
      rw [e] at h
      injection h with h
      have := ih (n / 10) (by omega) (by rw [e, h]; rfl)
      omega
def valT : D → List Nat
  | .tup [_, .int k] => 35 :: numL k.toNat
  | .str l => 34 :: (l ++ [34])
  | .int i => intS i
  | _ => []
def fldT : D → List Nat
  | .tup [.str f, v] => f ++ (61 :: valT v)
  | _ => []
def lineT (k : Nat) (row : List D) : List Nat := joinL [32] ((numL k ++ [58]) :: row.map fldT)
def rootsT (rt : List Nat) : List Nat := joinL [32] ([114, 111, 111, 116, 115] :: rt.map numL)
def linesT : Nat → List (List D) → List (List Nat)
  | _, [] => []
  | k, r :: t => lineT k r :: linesT (k + 1) t
def textT (rt : List Nat) (rows : List (List D)) : List Nat := joinL [10] (rootsT rt :: linesT 0 rows)
theorem joinL_snoc {S q : List Nat} : ∀ {ps : List (List Nat)}, ps ≠ [] → joinL S (ps ++ [q]) = joinL S ps ++ (S ++ q)
  | [], h => absurd rfl h
  | [p], _ => rfl
  | p :: r :: t, _ => by
    show p ++ (S ++ joinL S ((r :: t) ++ [q])) = (p ++ (S ++ joinL S (r :: t))) ++ (S ++ q)
    rw [joinL_snoc (by simp)]
    simp only [List.append_assoc]
theorem joinL_len {S : List Nat} : ∀ {ps : List (List Nat)}, (joinL S ps).length ≤ (ps.map List.length).sum + ps.length * S.length
  | [] => Nat.zero_le _
  | [p] => by
    show p.length ≤ _
    simp
  | p :: q :: r => by
    show (p ++ (S ++ joinL S (q :: r))).length ≤ _
    have := joinL_len (S := S) (ps := q :: r)
    rw [List.length_append, List.length_append, List.map_cons, List.sum_cons, List.length_cons (a := p), Nat.add_mul]
    omega
/-- a value that may be written: a small int, letters, a number of an object -/
def VT (v : D) : Prop := PV v ∨ ∃ j, j ≤ 100 ∧ v = refD j
def FT (x : D) : Prop := ∃ f v, x = .tup [.str f, v] ∧ D.str f ∈ fnames ∧ VT v
theorem fname_ok {f : List Nat} (h : D.str f ∈ fnames) : 1 ≤ f.length ∧ f.length ≤ 8 ∧ ∀ c ∈ f, 97 ≤ c ∧ c ≤ 122 := by
  unfold fnames at h
  simp only [List.mem_cons, List.not_mem_nil, or_false, D.str.injEq] at h
  rcases h with rfl | rfl | rfl <;> exact ⟨by decide, by decide, by decide⟩
theorem numL_le {n : Nat} (h : n ≤ 1000000) : (numL n).length ≤ 7 := numL_len (by decide) (by omega)
theorem int_cs {i : Int} (h1 : -1000000 ≤ i) (h2 : i ≤ 1000000) : (∃ n : Nat, n ≤ 1000000 ∧ i = (n : Int) ∧ intS i = numL n) ∨ ∃ n : Nat, 1 ≤ n ∧ n ≤ 1000000 ∧ i = -(n : Int) ∧ intS i = 45 :: numL n := by
  rcases Int.lt_or_le i 0 with h | h
  · right
    obtain ⟨n, rfl⟩ : ∃ n : Nat, i = -((n + 1 : Nat) : Int) := ⟨(-i).toNat - 1, by omega⟩
    exact ⟨n + 1, by omega, by omega, rfl, intS_neg⟩
  · left
    obtain ⟨n, rfl⟩ : ∃ n : Nat, i = (n : Int) := ⟨i.toNat, by omega⟩
    exact ⟨n, by omega, rfl, intS_nat⟩
/-- the signs of a written value: no blank, no line end, no equal sign -/
theorem valT_ok {v : D} (h : VT v) : (valT v).length ≤ 8 ∧ ∀ c ∈ valT v, c ≠ 32 ∧ c ≠ 10 ∧ c ≠ 61 ∧ c < 256 := by
  rcases h with (⟨i, rfl, h1, h2⟩ | ⟨l, rfl, hl, hc⟩) | ⟨j, hj, rfl⟩
  · show (intS i).length ≤ 8 ∧ ∀ c ∈ intS i, _
    rcases int_cs h1 h2 with ⟨n, hn, _, e⟩ | ⟨n, _, hn, _, e⟩
    · rw [e]
      have := numL_le hn
      exact ⟨by omega, fun c m => by have := numL_dig m; omega⟩
    · rw [e]
      have := numL_le hn
      refine ⟨by rw [List.length_cons]; omega, fun c m => ?_⟩
      rcases List.mem_cons.mp m with rfl | m
      · decide
      · have := numL_dig m; omega
  · show (34 :: (l ++ [34])).length ≤ 8 ∧ ∀ c ∈ 34 :: (l ++ [34]), _
    refine ⟨by rw [List.length_cons, List.length_append, List.length_singleton]; omega, fun c m => ?_⟩
    rcases List.mem_cons.mp m with rfl | m
    · decide
    · rcases List.mem_append.mp m with m | m
      · have := hc c m; omega
      · rw [List.mem_singleton.mp m]; decide
  · show (35 :: numL (((j : Nat) : Int)).toNat).length ≤ 8 ∧ ∀ c ∈ 35 :: numL (((j : Nat) : Int)).toNat, _
    rw [Int.toNat_natCast]
    have := numL_le (n := j) (by omega)
    refine ⟨by rw [List.length_cons]; omega, fun c m => ?_⟩
    rcases List.mem_cons.mp m with rfl | m
    · decide
    · have := numL_dig m; omega
theorem fldT_ok {x : D} (h : FT x) : (fldT x).length ≤ 17 ∧ ∀ c ∈ fldT x, c ≠ 32 ∧ c ≠ 10 ∧ c < 256 := by
  obtain ⟨f, v, rfl, hf, hv⟩ := h
  obtain ⟨_, f8, fc⟩ := fname_ok hf
  obtain ⟨v8, vc⟩ := valT_ok hv
  show (f ++ (61 :: valT v)).length ≤ 17 ∧ ∀ c ∈ f ++ (61 :: valT v), _
  refine ⟨by rw [List.length_append, List.length_cons]; omega, fun c m => ?_⟩
  rcases List.mem_append.mp m with m | m
  · have := fc c m; omega
  · rcases List.mem_cons.mp m with rfl | m
    · decide
    · obtain ⟨a, b, _, d⟩ := vc c m
      exact ⟨a, b, d⟩
theorem words_sum {g : D → List Nat} {b : Nat} : ∀ {l : List D}, (∀ x ∈ l, (g x).length ≤ b) → ((l.map g).map List.length).sum ≤ b * l.length
  | [], _ => Nat.zero_le _
  | x :: l, h => by
    have h1 := h x List.mem_cons_self
    have h2 := words_sum (g := g) (l := l) fun y m => h y (List.mem_cons_of_mem _ m)
    rw [List.map_cons, List.map_cons, List.sum_cons, List.length_cons, Nat.mul_add]
    omega
theorem join32_mem {ps : List (List Nat)} {c : Nat} (h : c ∈ joinL [32] ps) (hp : ∀ p ∈ ps, ∀ c ∈ p, c ≠ 10 ∧ c < 256) : c ≠ 10 ∧ c < 256 := by
  rcases joinL_mem h with m | ⟨p, mp, m⟩
  · rw [List.mem_singleton.mp m]; decide
  · exact hp p mp c m
theorem lineT_ok {k : Nat} {r : List D} (hk : k ≤ 100) (hr : ∀ x ∈ r, FT x) (h3 : r.length ≤ 3) : (lineT k r).length ≤ 100 ∧ ∀ c ∈ lineT k r, c ≠ 10 ∧ c < 256 := by
  have nk := numL_le (n := k) (by omega)
  refine ⟨?_, fun c m => join32_mem m fun p mp c mc => ?_⟩
  · have h1 := joinL_len (S := [32]) (ps := (numL k ++ [58]) :: r.map fldT)
    have h2 := words_sum (g := fldT) (b := 17) (l := r) fun x m => (fldT_ok (hr x m)).1
    rw [List.map_cons, List.sum_cons, List.length_cons, List.length_map, List.length_append, List.length_singleton] at h1
    rw [List.length_singleton] at h1
    unfold lineT
    omega
  · rcases List.mem_cons.mp mp with rfl | mp
    · rcases List.mem_append.mp mc with mc | mc
      · have := numL_dig mc; omega
      · rw [List.mem_singleton.mp mc]; decide
    · obtain ⟨x, mx, rfl⟩ := List.mem_map.mp mp
      obtain ⟨_, b, d⟩ := (fldT_ok (hr x mx)).2 c mc
      exact ⟨b, d⟩
theorem rootsT_ok {rt : List Nat} (h : ∀ k ∈ rt, k ≤ 100) (h3 : rt.length ≤ 3) : (rootsT rt).length ≤ 100 ∧ ∀ c ∈ rootsT rt, c ≠ 10 ∧ c < 256 := by
  refine ⟨?_, fun c m => join32_mem m fun p mp c mc => ?_⟩
  · have h1 := joinL_len (S := [32]) (ps := [114, 111, 111, 116, 115] :: rt.map numL)
    have h2 : ((rt.map numL).map List.length).sum ≤ 7 * rt.length := by
      clear h1 h3
      induction rt with
      | nil => exact Nat.zero_le _
      | cons k rt ih =>
        have := numL_le (n := k) (by have := h k List.mem_cons_self; omega)
        have := ih fun k m => h k (List.mem_cons_of_mem _ m)
        rw [List.map_cons, List.map_cons, List.sum_cons, List.length_cons]
        omega
    rw [List.map_cons, List.sum_cons, List.length_cons (a := [114, 111, 111, 116, 115]), List.length_map] at h1
    have e5 : ([114, 111, 111, 116, 115] : List Nat).length = 5 := rfl
    rw [e5, List.length_singleton] at h1
    unfold rootsT
    omega
  · rcases List.mem_cons.mp mp with rfl | mp
    · have g : ∀ c ∈ ([114, 111, 111, 116, 115] : List Nat), c ≠ 10 ∧ c < 256 := by decide
      exact g c mc
    · obtain ⟨k, mk, rfl⟩ := List.mem_map.mp mp
      have := numL_dig mc
      omega
theorem linesT_len : ∀ {k : Nat} {rows : List (List D)}, (linesT k rows).length = rows.length
  | _, [] => rfl
  | k, r :: t => by show (lineT k r :: linesT (k + 1) t).length = _; rw [List.length_cons, linesT_len, List.length_cons]
theorem linesT_get : ∀ {k i : Nat} {rows : List (List D)} {r : List D}, rows[i]? = some r → (linesT k rows)[i]? = some (lineT (k + i) r)
  | k, 0, r' :: t, r, h => by
    simp at h; subst h; rfl
  | k, i + 1, r' :: t, r, h => by
    have := linesT_get (k := k + 1) (i := i) (rows := t) (r := r) (by simpa using h)
    show (linesT (k + 1) t)[i]? = _
    rw [this, show k + 1 + i = k + (i + 1) by omega]
  | _, _, [], _, h => by simp at h
end LawP
set_option Elab.async false
set_option linter.all false
set_option maxRecDepth 100000
set_option maxHeartbeats 1000000
namespace LawP
open PySem L2 DL TL
/-- a comprehension that may make new objects beside its own list: ys the items -/
theorem lc_e {S : DSrc} {g : DTG} {tt : DTT} {te : DTE} {σ : DS} {A : AH} {Q : DQ} {vs : List Nat} {xs : List D} (ys : List D) (hy : ys.length = xs.length) (hl : xs.length ≤ SL) (still : ∀ A', Sm [] A A' → S A' xs)
    (body : ∀ (i : Nat) x y A', xs[i]? = some x → ys[i]? = some y → Sm [] A A' → ∀ (K : D → AH → Prop) (N : AH → Prop), (∀ A'', Sm [] A' A'' → K y A'') → g x (dwipe σ vs) A' fun σ2 A2 => tt σ2 A2 fun b A3 => if b = true then te σ2 A3 K else N A3)
    (q : ∀ p A', A p = none → Sm [] A A' → A' p = some (.lst ys) → Q (.ref p) A') :
    ∃ xs : List D, ∀ p, A p = none → ∃ I : Nat → AH → Prop, I 0 (up A p (.lst [])) ∧ (∀ i A, i ≤ xs.length → I i A → S A xs) ∧
  (∀ i x A, xs[i]? = some x → I i A → g x (dwipe σ vs) A fun σ2 A2 => tt σ2 A2 fun b A3 => if b = true then te σ2 A3 fun y A4 => ∃ acc, A4 p = some (.lst acc) ∧ acc.length < SL ∧ I (i + 1) (up A4 p (.lst (acc ++ [y]))) else I (i + 1) A3) ∧
  ∀ A, I xs.length A → Q (.ref p) A := by
  refine ⟨xs, fun p hp => ⟨fun i A' => Sm [] A A' ∧ A' p = some (.lst (ys.take i)), ⟨Sm.new hp, by rw [List.take_zero]; exact up_same⟩, fun i A' _ h => still A' h.1, fun i x A' hx h => ?_, fun A' h => ?_⟩⟩
  · have lt := (List.getElem?_eq_some_iff.mp hx).1
    have ly : i < ys.length := by omega
    refine body i x ys[i] A' hx (List.getElem?_eq_getElem ly) h.1 _ _ fun A'' s => ⟨ys.take i, s p _ (by simp) h.2, by rw [List.length_take]; omega, ?_, ?_⟩
    · exact (h.1.trans s).own hp
    · rw [up_same, List.take_succ, List.getElem?_eq_getElem ly]; rfl
  · rw [← hy, List.take_length] at h
    exact q p A' hp h.1 h.2
theorem lce_l {a : Addr} {t : DTE} {g : DTG} {tt : DTT} {te : DTE} {σ : DS} {A : AH} {Q : DQ} {vs : List Nat} {xs : List D} (ys : List D) (h : A a = some (.lst xs)) (hy : ys.length = xs.length) (hl : xs.length ≤ SL)
    (body : ∀ (i : Nat) x y A', xs[i]? = some x → ys[i]? = some y → Sm [] A A' → ∀ (K : D → AH → Prop) (N : AH → Prop), (∀ A'', Sm [] A' A'' → K y A'') → g x (dwipe σ vs) A' fun σ2 A2 => tt σ2 A2 fun b A3 => if b = true then te σ2 A3 K else N A3)
    (q : ∀ p A', A p = none → Sm [] A A' → A' p = some (.lst ys) → Q (.ref p) A') (ht : ∀ Q : D → AH → Prop, Q (.ref a) A → t σ A Q) : dLc (diL t) g tt te vs σ A Q :=
  ht _ ⟨⟨xs, h⟩, lc_e ys hy hl (fun A' s => s a _ (by simp) h) body q⟩
theorem lce_e {a : Addr} {t : DTA} {g : DTG} {tt : DTT} {te : DTE} {σ : DS} {A : AH} {Q : DQ} {vs : List Nat} {xs : List D} (ys : List D) (h : A a = some (.lst xs)) (hy : ys.length = xs.length) (hl : xs.length ≤ SL)
    (body : ∀ (i : Nat) x y A', xs[i]? = some x → ys[i]? = some y → Sm [] A A' → ∀ (K : D → AH → Prop) (N : AH → Prop), (∀ A'', Sm [] A' A'' → K y A'') → g (.tup [.int ((i : Nat) : Int), x]) (dwipe σ vs) A' fun σ2 A2 => tt σ2 A2 fun b A3 => if b = true then te σ2 A3 K else N A3)
    (q : ∀ p A', A p = none → Sm [] A A' → A' p = some (.lst ys) → Q (.ref p) A') (ht : ∀ Q : List D → AH → Prop, Q [.ref a] A → t σ A Q) : dLc (diE t) g tt te vs σ A Q :=
  ht _ ⟨⟨xs, h⟩, lc_e ys (by rw [enumD_len]; exact hy) (by rw [enumD_len]; exact hl) (fun A' s => ⟨xs, s a _ (by simp) h, rfl⟩) (fun i x y A' hx hy' s K N k => by
    obtain ⟨z, hz, rfl⟩ := enumD_get hx
    rw [Nat.zero_add]
    exact body i z y A' hz hy' s K N k) q⟩
/-- for i, x in enumerate(xs) -/
theorem for_e {a : Addr} {xs : List D} {t : DTA} {g : DTG} {tb : DTS} {DD : DE} {σ : DS} {A : AH} (h : A a = some (.lst xs)) (I : Nat → DS → AH → Prop) (h0 : I 0 σ A) (st : ∀ i σ A, i ≤ xs.length → I i σ A → A a = some (.lst xs))
    (step : ∀ (i : Nat) x σ A, xs[i]? = some x → I i σ A → g (.tup [.int ((i : Nat) : Int), x]) σ A fun σ2 A2 => tb { DD with nx := I (i + 1), ct := I (i + 1), bk := DD.nx } σ2 A2) (fin : ∀ σ A, I xs.length σ A → DD.nx σ A) (ht : ∀ Q : List D → AH → Prop, Q [.ref a] A → t σ A Q) :
    dFor (diE t) g tb DD σ A := ht _ ⟨⟨xs, h⟩, enumD 0 xs, I, h0, fun i σ A hi k => ⟨xs, st i σ A (by rwa [enumD_len] at hi) k, rfl⟩, fun i x σ A hx hi => by
    obtain ⟨y, hy, rfl⟩ := enumD_get hx
    rw [Nat.zero_add]
    exact step i y σ A hy hi, by rw [enumD_len]; exact fin⟩

theorem fAdd_str {l m : List Nat} {A : AH} {Q : DQ} (h : l.length + m.length ≤ 1000000) (q : Q (.str (l ++ m)) A) : fAdd (.str l) (.str m) A Q := ⟨by show _ ≤ 16777216; omega, q⟩
theorem str_nat {n : Nat} {A : AH} {Q : DQ} (h : n ≤ 1000000) (q : Q (.str (numL n)) A) : fStr [.int (n : Int)] A Q := by
  refine ⟨by omega, ?_, ?_⟩
  · rw [intS_nat]
    exact fun c m => by have := numL_dig m; omega
  · rw [intS_nat]; exact q
theorem str_int {i : Int} {A : AH} {Q : DQ} (h1 : -1000000 ≤ i) (h2 : i ≤ 1000000) (q : Q (.str (intS i)) A) : fStr [.int i] A Q := by
  refine ⟨by omega, fun c m => ?_, q⟩
  have := (valT_ok (v := .int i) (.inl (.inl ⟨i, rfl, h1, h2⟩))).2 c m
  omega
def natsD (rt : List Nat) : List D := rt.map fun (k : Nat) => .int (k : Int)
structure GF (rt : List Nat) (rows : List (List D)) : Prop where
  rl : rt.length ≤ 3
  rk : ∀ k ∈ rt, k ≤ 100
  wl : rows.length ≤ 100
  wk : ∀ r ∈ rows, r.length ≤ 3 ∧ ∀ x ∈ r, FT x
structure TG (A : AH) (ga gc : Addr) (rt : List Nat) (rows : List (List D)) : Prop where
  ro : A ga = some (.lst (natsD rt))
  ex : ∃ gs av, A gc = some (.lst gs) ∧ RowsAt A av gs rows
theorem TG.sm {A A' : AH} {ga gc : Addr} {rt : List Nat} {rows : List (List D)} (h : TG A ga gc rt rows) (s : Sm [] A A') : TG A' ga gc rt rows := ⟨s _ _ (by simp) h.ro, let ⟨gs, av, h1, h2⟩ := h.ex; ⟨gs, av, s _ _ (by simp) h1, h2.sm s⟩⟩
def strsD (ls : List (List Nat)) : List D := ls.map .str
def sp_format_value : DSp := fun ds A R _ => ∃ v, ds = [v] ∧ VT v ∧ R (.str (valT v)) A
def sp_format_thing : DSp := fun ds A R _ => ∃ k a row, ds = [.int ((k : Nat) : Int), .ref a] ∧ A a = some (.lst row) ∧ k ≤ 100 ∧ row.length ≤ 3 ∧ (∀ x ∈ row, FT x) ∧ ∀ A', Sm [] A A' → R (.str (lineT k row)) A'
def sp_format_graph : DSp := fun ds A R _ => ∃ ga gc rt rows, ds = [.tup [.ref ga, .ref gc]] ∧ TG A ga gc rt rows ∧ GF rt rows ∧ ∀ A', Sm [] A A' → R (.str (textT rt rows)) A'
def sp__law_text : DSp := fun ds A R _ => ∃ ga gc rt rows, ds = [.tup [.ref ga, .ref gc]] ∧ TG A ga gc rt rows ∧ GF rt rows ∧ ∀ p A', Sm [] A A' → A p = none → A' p = some (.lst (strsD (rootsT rt :: linesT 0 rows))) → R (.ref p) A'
/-- format_value: 0 value -/
def t_format_value : DTS := dSeq (dIf (dTru (dCal sp_is_reference (dCons (dV 0) (dNil)))) (dRet (dOp fAdd (dC (.str [35])) (dCall fStr (dCons (dOp mIx (dV 0) (dC (.int 1))) (dNil))))) (dNext)) (
  dSeq (dIf (dTru (dIsi "str" (dV 0))) (dRet (dOp fAdd (dOp fAdd (dC (.str [34])) (dV 0)) (dC (.str [34])))) (dNext)) (
  dRet (dCall fStr (dCons (dV 0) (dNil)))))
/-- format_thing: 0 number, 1 fields, 2 words, 3 field, 4 value -/
def t_format_thing : DTS := dSeq (dAsg (dLc (diL (dV 1)) (dgTup (dgCons (dName 3) (dgCons (dName 4) (dgNil)))) (dYes) (dOp fAdd (dOp fAdd (dV 3) (dC (.str [61]))) (dCal sp_format_value (dCons (dV 4) (dNil)))) [3, 4]) (dName 2)) (
  dRet (dBm isS fJoin (dC (.str [32])) (dCons (dOp fAdd (dLst (dCons (dOp fAdd (dCall fStr (dCons (dV 0) (dNil))) (dC (.str [58]))) (dNil))) (dV 2)) (dNil))))
/-- format_graph: 0 graph, 1 roots, 2 things, 3 lines, 4 number, 5 fields, 6 root -/
def t_format_graph : DTS := dSeq (dAsg (dV 0) (dgTup (dgCons (dName 1) (dgCons (dName 2) (dgNil))))) (
  dSeq (dAsg (dLst (dCons (dBm isS fJoin (dC (.str [32])) (dCons (dOp fAdd (dLst (dCons (dC (.str [114, 111, 111, 116, 115])) (dNil))) (dLc (diL (dV 1)) (dName 6) (dYes) (dCall fStr (dCons (dV 6) (dNil))) [6])) (dNil))) (dNil))) (dName 3)) (
  dRet (dBm isS fJoin (dC (.str [10])) (dCons (dOp fAdd (dV 3) (dLc (diE (dCons (dV 2) (dNil))) (dgTup (dgCons (dName 4) (dgCons (dName 5) (dgNil)))) (dYes) (dCal sp_format_thing (dCons (dV 4) (dCons (dV 5) (dNil)))) [4, 5])) (dNil)))))
/-- _law_text: 0 _law_graph, 1 _law_lines, 2 _law_root, 3 _law_k, 4 _law_line, 5 _law_pair -/
def t__law_text : DTS := dSeq (dAsg (dLst (dCons (dC (.str [114, 111, 111, 116, 115])) (dNil))) (dName 1)) (
  dSeq (dFor (diL (dOp mIx (dV 0) (dC (.int 0)))) (dName 2) (dAsg (dOp fAdd (dOp fAdd (dOp mIx (dV 1) (dC (.int 0))) (dC (.str [32]))) (dCall fStr (dCons (dV 2) (dNil)))) (dgSub mSt (dV 1) (dC (.int 0))))) (
  dSeq (dFor (diR1 (dCons (dCall mLen (dCons (dOp mIx (dV 0) (dC (.int 1))) (dNil))) (dNil))) (dName 3) (dSeq (dAsg (dOp fAdd (dCall fStr (dCons (dV 3) (dNil))) (dC (.str [58]))) (dName 4)) (
  dSeq (dFor (diL (dOp mIx (dOp mIx (dV 0) (dC (.int 1))) (dV 3))) (dName 5) (dSeq (dAsg (dOp fAdd (dOp fAdd (dOp fAdd (dV 4) (dC (.str [32]))) (dOp mIx (dV 5) (dC (.int 0)))) (dC (.str [61]))) (dName 4)) (
  dIf (dTru (dIsi "tuple" (dOp mIx (dV 5) (dC (.int 1))))) (dAsg (dOp fAdd (dOp fAdd (dV 4) (dC (.str [35]))) (dCall fStr (dCons (dOp mIx (dOp mIx (dV 5) (dC (.int 1))) (dC (.int 1))) (dNil)))) (dName 4)) (dIf (dTru (dIsi "str" (dOp mIx (dV 5) (dC (.int 1))))) (dAsg (dOp fAdd (dOp fAdd (dOp fAdd (dV 4) (dC (.str [34]))) (dOp mIx (dV 5) (dC (.int 1)))) (dC (.str [34]))) (dName 4)) (dAsg (dOp fAdd (dV 4) (dCall fStr (dCons (dOp mIx (dV 5) (dC (.int 1))) (dNil)))) (dName 4)))))) (
  dDrop (dBm isL fAppend (dV 1) (dCons (dV 4) (dNil))))))) (
  dRet (dV 1))))
theorem q_format_value : ∀ ds A R E, ds.length = 1 → sp_format_value ds A R E → t_format_value { nx := fun _ A' => R .non A', rt := R } (ds.map some ++ List.replicate (1 - ds.length) none) A := by
  rintro ds A R E - ⟨v, rfl, hv, hR⟩
  show t_format_value _ [some v] A
  dsimp only [t_format_value, dSeq, dIf, dAsg, dName, dRet, dRetN, dDrop, dNext, dB, dTru, dOp, dUn, dCall, dCons, dNil, dC, dV, dTup, dLst, dCal, dMet, dMak, dFld, DL.sFld, dBm, dgSub, dgTup, dgCons, dgNil, dAndT, dOrT, dNotT, dOr, dAnd, dNotE, dIsi, dSl, dNoP, dPart, dDNew, dNever, fInt, fMod, fAdd_int, fSub, fMul, fDiv, fPow, fI2, fI2C, fNeg, mLt, List.getElem?_cons_succ, List.getElem?_cons_zero, List.set_cons_zero, List.set_cons_succ]
  rcases hv with hv | ⟨j, hj, rfl⟩
  · refine ⟨v, 0, rfl, .inl ⟨hv, ?_⟩⟩
    show (if (false : Bool) = true then (_ : Prop) else (_ : Prop))
    rw [if_neg (by decide)]
    rcases hv with ⟨i, rfl, h1, h2⟩ | ⟨l, rfl, hl, hc⟩
    · show (if (false : Bool) = true then (_ : Prop) else (_ : Prop))
      rw [if_neg (by decide)]
      exact str_int h1 h2 hR
    · show (if (true : Bool) = true then (_ : Prop) else (_ : Prop))
      rw [if_pos rfl]
      refine fAdd_str (l := [34]) (by rw [List.length_singleton]; omega) (fAdd_str (l := 34 :: l) (by rw [List.length_singleton, List.length_cons]; omega) ?_)
      exact hR
  · refine ⟨_, j + 1, rfl, .inr ⟨j, by omega, rfl, ?_⟩⟩
    show (if (true : Bool) = true then (_ : Prop) else (_ : Prop))
    rw [if_pos rfl]
    refine mIx_tup (d := .int ((j : Nat) : Int)) rfl (str_nat (by omega) ?_)
    have nl := numL_le (n := j) (by omega)
    refine fAdd_str (l := [35]) (by rw [List.length_singleton]; omega) ?_
    have e : valT (refD j) = 35 :: numL j := by show 35 :: numL (((j : Nat) : Int)).toNat = _; rw [Int.toNat_natCast]
    rw [e] at hR
    exact hR
theorem join_ok {a : Addr} {S : List Nat} {ys : List (List Nat)} {A : AH} {Q : DQ} (h : A a = some (.lst (strsD ys))) (l : (ys.map List.length).sum + ys.length * S.length ≤ 1000000) (q : Q (.str (joinL S ys)) A) : fJoin (.str S) [.ref a] A Q := ⟨ys, h, l, q⟩
theorem fAdd_ls {A : AH} {a b : Addr} {xs ys : List D} {Q : DQ} (h1 : A a = some (.lst xs)) (h2 : A b = some (.lst ys)) (hl : xs.length + ys.length ≤ 1000000) (q : ∀ p, A p = none → Q (.ref p) (up A p (.lst (xs ++ ys)))) : fAdd (.ref a) (.ref b) A Q := fAdd_lst h1 h2 (by show _ ≤ 16777216; omega) q
theorem line_sum {k : Nat} {row : List D} (hk : k ≤ 100) (h3 : row.length ≤ 3) (hr : ∀ x ∈ row, FT x) : ((((numL k ++ [58]) :: row.map fldT)).map List.length).sum + ((numL k ++ [58]) :: row.map fldT).length * 1 ≤ 1000 := by
  have h2 := words_sum (g := fldT) (b := 17) (l := row) fun x m => (fldT_ok (hr x m)).1
  have nk := numL_le (n := k) (by omega)
  rw [List.map_cons, List.sum_cons, List.length_cons, List.length_map, List.length_append, List.length_singleton]
  omega
theorem q_format_thing : ∀ ds A R E, ds.length = 2 → sp_format_thing ds A R E → t_format_thing { nx := fun _ A' => R .non A', rt := R } (ds.map some ++ List.replicate (5 - ds.length) none) A := by
  rintro ds A R E - ⟨k, a, row, rfl, ha, hk, h3, hr, hR⟩
  show t_format_thing _ [some (.int ((k : Nat) : Int)), some (.ref a), none, none, none] A
  dsimp only [t_format_thing, dSeq, dIf, dAsg, dName, dRet, dRetN, dDrop, dNext, dB, dTru, dOp, dUn, dCall, dCons, dNil, dC, dV, dTup, dLst, dCal, dMet, dMak, dFld, DL.sFld, dBm, dgSub, dgTup, dgCons, dgNil, dAndT, dOrT, dNotT, dOr, dAnd, dNotE, dIsi, dSl, dNoP, dPart, dDNew, dNever, fInt, fMod, fAdd_int, fSub, fMul, fDiv, fPow, fI2, fI2C, fNeg, mLt, List.getElem?_cons_succ, List.getElem?_cons_zero, List.set_cons_zero, List.set_cons_succ]
  refine lce_l (strsD (row.map fldT)) ha (by unfold strsD; rw [List.length_map, List.length_map]) (by show _ ≤ 16777216; omega) (fun i x y A' hx hy s K N k => ?_) (fun p A1 hp s1 e1 => ?_) (fun Q q => q)
  · obtain ⟨f, v, rfl, hf, hv⟩ := hr x (List.mem_of_getElem? hx)
    obtain ⟨_, f8, _⟩ := fname_ok hf
    obtain ⟨v8, _⟩ := valT_ok hv
    have ey : y = .str (f ++ (61 :: valT v)) := by
      unfold strsD at hy
      rw [List.getElem?_map, List.getElem?_map, hx] at hy
      cases hy; rfl
    subst ey
    dsimp only [dwipe, dYes, dSeq, dIf, dAsg, dName, dRet, dRetN, dDrop, dNext, dB, dTru, dOp, dUn, dCall, dCons, dNil, dC, dV, dTup, dLst, dCal, dMet, dMak, dFld, DL.sFld, dBm, dgSub, dgTup, dgCons, dgNil, dAndT, dOrT, dNotT, dOr, dAnd, dNotE, dIsi, dSl, dNoP, dPart, dDNew, dNever, fInt, fMod, fAdd_int, fSub, fMul, fDiv, fPow, fI2, fI2C, fNeg, mLt, List.getElem?_cons_succ, List.getElem?_cons_zero, List.set_cons_zero, List.set_cons_succ]
    refine ⟨rfl, ?_⟩
    show (if (true : Bool) = true then (_ : Prop) else (_ : Prop))
    rw [if_pos rfl]
    refine fAdd_str (m := [61]) (by rw [List.length_singleton]; omega) ⟨v, rfl, hv, ?_⟩
    refine fAdd_str (by rw [List.length_append, List.length_singleton]; omega) ?_
    rw [List.append_assoc]
    exact k A' Sm.refl
  · refine ⟨trivial, ?_⟩
    have nk := numL_le (n := k) (by omega)
    refine str_nat (by omega) (fAdd_str (m := [58]) (by rw [List.length_singleton]; omega) ?_)
    intro q hq
    have eq1 : up A1 q (.lst [.str (numL k ++ [58])]) q = some (.lst [.str (numL k ++ [58])]) := up_same
    refine fAdd_ls eq1 (up_at e1 hq) (by unfold strsD; rw [List.length_singleton, List.length_map, List.length_map]; omega) fun u hu => ?_
    refine join_ok (ys := (numL k ++ [58]) :: row.map fldT) up_same (by have := line_sum hk h3 hr; rw [List.length_singleton]; omega) ?_
    exact hR _ ((s1.trans (Sm.new hq)).trans (Sm.new hu))
theorem roots_sum {rt : List Nat} (h : ∀ k ∈ rt, k ≤ 100) (h3 : rt.length ≤ 3) : ((([114, 111, 111, 116, 115] :: rt.map numL)).map List.length).sum + ([114, 111, 111, 116, 115] :: rt.map numL).length * 1 ≤ 1000 := by
  have h2 : ((rt.map numL).map List.length).sum ≤ 7 * rt.length := by
    clear h3
    induction rt with
    | nil => exact Nat.zero_le _
    | cons k rt ih =>
      have := numL_le (n := k) (by have := h k List.mem_cons_self; omega)
      have := ih fun k m => h k (List.mem_cons_of_mem _ m)
      rw [List.map_cons, List.map_cons, List.sum_cons, List.length_cons]
      omega
  rw [List.map_cons, List.sum_cons]
  show 5 + ((rt.map numL).map List.length).sum + ((rt.map numL).length + 1) * 1 ≤ 1000
  rw [List.length_map]
  omega
theorem lines_sum : ∀ {rows : List (List D)} {k : Nat}, k + rows.length ≤ 101 → (∀ r ∈ rows, r.length ≤ 3 ∧ ∀ x ∈ r, FT x) → ((linesT k rows).map List.length).sum ≤ 100 * rows.length
  | [], _, _, _ => Nat.zero_le _
  | r :: t, k, hk, h => by
    rw [List.length_cons] at hk
    obtain ⟨h3, hr⟩ := h r List.mem_cons_self
    have h1 := (lineT_ok (k := k) (r := r) (by omega) hr h3).1
    have h2 := lines_sum (rows := t) (k := k + 1) (by omega) fun r m => h r (List.mem_cons_of_mem _ m)
    show ((lineT k r :: linesT (k + 1) t).map List.length).sum ≤ _
    rw [List.map_cons, List.sum_cons, List.length_cons]
    omega
theorem text_sum {rt : List Nat} {rows : List (List D)} (G : GF rt rows) : ((rootsT rt :: linesT 0 rows).map List.length).sum + (rootsT rt :: linesT 0 rows).length * 1 ≤ 20000 := by
  have h1 := (rootsT_ok G.rk G.rl).1
  have wl := G.wl
  have h2 := lines_sum (rows := rows) (k := 0) (by omega) G.wk
  rw [List.map_cons, List.sum_cons, List.length_cons, linesT_len]
  omega
theorem q_format_graph : ∀ ds A R E, ds.length = 1 → sp_format_graph ds A R E → t_format_graph { nx := fun _ A' => R .non A', rt := R } (ds.map some ++ List.replicate (7 - ds.length) none) A := by
  rintro ds A R E - ⟨ga, gc, rt, rows, rfl, T, G, hR⟩
  show t_format_graph _ [some (.tup [.ref ga, .ref gc]), none, none, none, none, none, none] A
  obtain ⟨gs, av, h1, h2⟩ := T.ex
  have rl := G.rl
  have wl := G.wl
  dsimp only [t_format_graph, dSeq, dIf, dAsg, dName, dRet, dRetN, dDrop, dNext, dB, dTru, dOp, dUn, dCall, dCons, dNil, dC, dV, dTup, dLst, dCal, dMet, dMak, dFld, DL.sFld, dBm, dgSub, dgTup, dgCons, dgNil, dAndT, dOrT, dNotT, dOr, dAnd, dNotE, dIsi, dSl, dNoP, dPart, dDNew, dNever, fInt, fMod, fAdd_int, fSub, fMul, fDiv, fPow, fI2, fI2C, fNeg, mLt, List.getElem?_cons_succ, List.getElem?_cons_zero, List.set_cons_zero, List.set_cons_succ]
  refine ⟨rfl, trivial, fun q hq => ?_⟩
  have T1 := T.sm (Sm.new (o := .lst [.str [114, 111, 111, 116, 115]]) hq)
  refine lce_l (strsD (rt.map numL)) T1.ro (by unfold strsD natsD; rw [List.length_map, List.length_map, List.length_map]) (by unfold natsD; rw [List.length_map]; show _ ≤ 16777216; omega) (fun i x y A' hx hy s K N k => ?_) (fun p A1 hp s1 e1 => ?_) (fun Q q => q)
  · unfold natsD at hx
    unfold strsD at hy
    rw [List.getElem?_map] at hx
    rw [List.getElem?_map, List.getElem?_map] at hy
    cases e : rt[i]? with
    | none => rw [e] at hx; cases hx
    | some n =>
      rw [e] at hx hy
      cases hx
      cases hy
      dsimp only [dwipe, dYes, dSeq, dIf, dAsg, dName, dRet, dRetN, dDrop, dNext, dB, dTru, dOp, dUn, dCall, dCons, dNil, dC, dV, dTup, dLst, dCal, dMet, dMak, dFld, DL.sFld, dBm, dgSub, dgTup, dgCons, dgNil, dAndT, dOrT, dNotT, dOr, dAnd, dNotE, dIsi, dSl, dNoP, dPart, dDNew, dNever, fInt, fMod, fAdd_int, fSub, fMul, fDiv, fPow, fI2, fI2C, fNeg, mLt, List.getElem?_cons_succ, List.getElem?_cons_zero, List.set_cons_zero, List.set_cons_succ]
      show (if (true : Bool) = true then (_ : Prop) else (_ : Prop))
      rw [if_pos rfl]
      exact str_nat (by have := G.rk n (List.mem_of_getElem? e); omega) (k A' Sm.refl)
  · have q1 := s1 q _ (by simp) (up_same : up A q (.lst [.str [114, 111, 111, 116, 115]]) q = _)
    refine fAdd_ls q1 e1 (by unfold strsD; rw [List.length_singleton, List.length_map, List.length_map]; omega) fun u hu => ?_
    have eu : up A1 u (.lst ([.str [114, 111, 111, 116, 115]] ++ strsD (rt.map numL))) u = some (.lst (strsD ([114, 111, 111, 116, 115] :: rt.map numL))) := up_same
    have su : Sm [] A (up A1 u (.lst ([.str [114, 111, 111, 116, 115]] ++ strsD (rt.map numL)))) := ((Sm.new (o := .lst [.str [114, 111, 111, 116, 115]]) hq).trans s1).trans (Sm.new hu)
    generalize up A1 u (.lst ([D.str [114, 111, 111, 116, 115]] ++ strsD (rt.map numL))) = A1' at eu su ⊢
    refine join_ok (ys := [114, 111, 111, 116, 115] :: rt.map numL) eu (by have := roots_sum G.rk G.rl; rw [List.length_singleton]; omega) ?_
    rw [show joinL [32] ([114, 111, 111, 116, 115] :: rt.map numL) = rootsT rt from rfl]
    intro v hv
    have t1 : Sm [] A (up A1' v (.lst [.str (rootsT rt)])) := su.trans (Sm.new hv)
    have ev : up A1' v (.lst [.str (rootsT rt)]) v = some (.lst [.str (rootsT rt)]) := up_same
    generalize up A1' v (.lst [.str (rootsT rt)]) = A2 at t1 ev ⊢
    refine ⟨trivial, ?_⟩
    have gl := h2.len
    refine lce_e (strsD (linesT 0 rows)) (t1 gc _ (by simp) h1) (by unfold strsD; rw [List.length_map, linesT_len, gl]) (by show _ ≤ 16777216; omega) (fun i x y A' hx hy s K N k => ?_) (fun p A3 hp s3 e3 => ?_) (fun Q q => q)
    · obtain ⟨lt, _⟩ := List.getElem?_eq_some_iff.mp hx
      have lr : i < rows.length := by omega
      have er : rows[i]? = some rows[i] := List.getElem?_eq_getElem lr
      obtain ⟨w3, wf⟩ := G.wk _ (List.getElem_mem lr)
      generalize rows[i] = row at er w3 wf
      obtain ⟨aa, e2, _, e4⟩ := h2.at er
      rw [hx] at e2
      cases e2
      unfold strsD at hy
      rw [List.getElem?_map, linesT_get er, Nat.zero_add] at hy
      cases hy
      dsimp only [dwipe, dYes, dSeq, dIf, dAsg, dName, dRet, dRetN, dDrop, dNext, dB, dTru, dOp, dUn, dCall, dCons, dNil, dC, dV, dTup, dLst, dCal, dMet, dMak, dFld, DL.sFld, dBm, dgSub, dgTup, dgCons, dgNil, dAndT, dOrT, dNotT, dOr, dAnd, dNotE, dIsi, dSl, dNoP, dPart, dDNew, dNever, fInt, fMod, fAdd_int, fSub, fMul, fDiv, fPow, fI2, fI2C, fNeg, mLt, List.getElem?_cons_succ, List.getElem?_cons_zero, List.set_cons_zero, List.set_cons_succ]
      refine ⟨rfl, ?_⟩
      show (if (true : Bool) = true then (_ : Prop) else (_ : Prop))
      rw [if_pos rfl]
      exact ⟨i, aa, row, rfl, s aa _ (by simp) (t1 aa _ (by simp) e4), by omega, w3, wf, fun A'' s'' => k A'' s''⟩
    · refine fAdd_ls (s3 v _ (by simp) ev) e3 (by unfold strsD; rw [List.length_singleton, List.length_map, linesT_len]; omega) fun w hw => ?_
      refine join_ok (ys := rootsT rt :: linesT 0 rows) up_same (by have := text_sum G; rw [List.length_singleton]; omega) ?_
      exact hR _ ((t1.trans s3).trans (Sm.new hw))
end LawP
set_option Elab.async false
set_option linter.all false
set_option maxRecDepth 100000
set_option maxHeartbeats 1000000
namespace LawP
open PySem L2 DL TL
/-- line + " " + field + "=" + value -/
def ltPair : DTS := dSeq (dAsg (dOp fAdd (dOp fAdd (dOp fAdd (dV 4) (dC (.str [32]))) (dOp mIx (dV 5) (dC (.int 0)))) (dC (.str [61]))) (dName 4)) (
  dIf (dTru (dIsi "tuple" (dOp mIx (dV 5) (dC (.int 1))))) (dAsg (dOp fAdd (dOp fAdd (dV 4) (dC (.str [35]))) (dCall fStr (dCons (dOp mIx (dOp mIx (dV 5) (dC (.int 1))) (dC (.int 1))) (dNil)))) (dName 4)) (dIf (dTru (dIsi "str" (dOp mIx (dV 5) (dC (.int 1))))) (dAsg (dOp fAdd (dOp fAdd (dOp fAdd (dV 4) (dC (.str [34]))) (dOp mIx (dV 5) (dC (.int 1)))) (dC (.str [34]))) (dName 4)) (dAsg (dOp fAdd (dV 4) (dCall fStr (dCons (dOp mIx (dV 5) (dC (.int 1))) (dNil)))) (dName 4))))
theorem lt_pair {DD : DE} {A : AH} {x0 x1 x2 x3 : Option D} {l : List Nat} {x : D} (hl : l.length ≤ 900) (hx : FT x) (nx : DD.nx [x0, x1, x2, x3, some (.str (l ++ ([32] ++ fldT x))), some x] A) : ltPair DD [x0, x1, x2, x3, some (.str l), some x] A := by
  obtain ⟨f, v, rfl, hf, hv⟩ := hx
  obtain ⟨_, f8, _⟩ := fname_ok hf
  obtain ⟨v8, _⟩ := valT_ok hv
  have nx : DD.nx [x0, x1, x2, x3, some (.str (l ++ ([32] ++ (f ++ (61 :: valT v))))), some (.tup [.str f, v])] A := nx
  unfold ltPair
  dsimp only [dSeq, dIf, dAsg, dName, dRet, dRetN, dDrop, dNext, dB, dTru, dOp, dUn, dCall, dCons, dNil, dC, dV, dTup, dLst, dCal, dMet, dMak, dFld, DL.sFld, dBm, dgSub, dgTup, dgCons, dgNil, dAndT, dOrT, dNotT, dOr, dAnd, dNotE, dIsi, dSl, dNoP, dPart, dDNew, dNever, fInt, fMod, fAdd_int, fSub, fMul, fDiv, fPow, fI2, fI2C, fNeg, mLt, List.getElem?_cons_succ, List.getElem?_cons_zero, List.set_cons_zero, List.set_cons_succ]
  refine fAdd_str (m := [32]) (by rw [List.length_singleton]; omega) (mIx_tup (d := .str f) rfl (fAdd_str (by rw [List.length_append, List.length_singleton]; omega) (fAdd_str (m := [61]) (by simp only [List.length_append, List.length_singleton]; omega) ?_)))
  have el : (l ++ [32] ++ f ++ [61]).length ≤ 920 := by
    simp only [List.length_append, List.length_singleton]; omega
  have e : l ++ ([32] ++ (f ++ (61 :: valT v))) = (l ++ [32] ++ f ++ [61]) ++ valT v := by
    simp only [List.append_assoc, List.cons_append, List.nil_append]
  rw [e] at nx
  generalize l ++ [32] ++ f ++ [61] = m at nx el ⊢
  refine mIx_tup (d := v) rfl ?_
  rcases hv with (⟨i, rfl, h1, h2⟩ | ⟨s, rfl, hs, hc⟩) | ⟨j, hj, rfl⟩
  · show (if (false : Bool) = true then (_ : Prop) else (_ : Prop))
    rw [if_neg (by decide)]
    refine mIx_tup (d := .int i) rfl ?_
    show (if (false : Bool) = true then (_ : Prop) else (_ : Prop))
    rw [if_neg (by decide)]
    refine mIx_tup (d := .int i) rfl (str_int h1 h2 (fAdd_str (by have : (intS i).length ≤ 8 := v8; omega) ?_))
    exact nx
  · show (if (false : Bool) = true then (_ : Prop) else (_ : Prop))
    rw [if_neg (by decide)]
    refine mIx_tup (d := .str s) rfl ?_
    show (if (true : Bool) = true then (_ : Prop) else (_ : Prop))
    rw [if_pos rfl]
    refine fAdd_str (m := [34]) (by rw [List.length_singleton]; omega) (mIx_tup (d := .str s) rfl (fAdd_str (by rw [List.length_append, List.length_singleton]; omega) (fAdd_str (m := [34]) (by simp only [List.length_append, List.length_singleton]; omega) ?_)))
    have e2 : m ++ valT (.str s) = m ++ [34] ++ s ++ [34] := by
      show m ++ (34 :: (s ++ [34])) = _
      simp only [List.append_assoc, List.cons_append, List.nil_append]
    rw [e2] at nx
    exact nx
  · show (if (true : Bool) = true then (_ : Prop) else (_ : Prop))
    rw [if_pos rfl]
    have nl := numL_le (n := j) (by omega)
    refine fAdd_str (m := [35]) (by rw [List.length_singleton]; omega) (mIx_tup (d := refD j) rfl (mIx_tup (d := .int ((j : Nat) : Int)) rfl (str_nat (by omega) (fAdd_str (by rw [List.length_append, List.length_singleton]; omega) ?_))))
    have e2 : m ++ valT (refD j) = m ++ [35] ++ numL j := by
      show m ++ (35 :: numL (((j : Nat) : Int)).toNat) = _
      rw [Int.toNat_natCast]
      simp only [List.append_assoc, List.cons_append, List.nil_append]
    rw [e2] at nx
    exact nx
theorem join_take {α : Type} {g : α → List Nat} {p : List Nat} {l : List α} {i : Nat} {x : α} (h : l[i]? = some x) : joinL [32] (p :: (l.take (i + 1)).map g) = joinL [32] (p :: (l.take i).map g) ++ ([32] ++ g x) := by
  rw [List.take_succ, h, List.map_append, ← List.cons_append]
  exact joinL_snoc (q := g x) (by simp)
theorem strsD_snoc {l : List (List Nat)} {z : List Nat} : strsD (l ++ [z]) = strsD l ++ [.str z] := by unfold strsD; rw [List.map_append]; rfl
theorem linesT_take : ∀ {rows : List (List D)} {k i : Nat} {r : List D}, rows[i]? = some r → linesT k (rows.take (i + 1)) = linesT k (rows.take i) ++ [lineT (k + i) r]
  | r' :: t, k, 0, r, h => by
    simp at h; subst h; rfl
  | r' :: t, k, i + 1, r, h => by
    have := linesT_take (rows := t) (k := k + 1) (i := i) (r := r) (by simpa using h)
    show lineT k r' :: linesT (k + 1) (t.take (i + 1)) = (lineT k r' :: linesT (k + 1) (t.take i)) ++ [lineT (k + (i + 1)) r]
    rw [this, show k + 1 + i = k + (i + 1) by omega]; rfl
  | [], _, _, _, h => by simp at h
theorem q__law_text : ∀ ds A R E, ds.length = 1 → sp__law_text ds A R E → t__law_text { nx := fun _ A' => R .non A', rt := R } (ds.map some ++ List.replicate (6 - ds.length) none) A := by
  rintro ds A R E - ⟨ga, gc, rt, rows, rfl, T, G, hR⟩
  show t__law_text _ [some (.tup [.ref ga, .ref gc]), none, none, none, none, none] A
  obtain ⟨gs, av, h1, h2⟩ := T.ex
  have rl := G.rl
  have wl := G.wl
  dsimp only [t__law_text, dSeq, dIf, dAsg, dName, dRet, dRetN, dDrop, dNext, dB, dTru, dOp, dUn, dCall, dCons, dNil, dC, dV, dTup, dLst, dCal, dMet, dMak, dFld, DL.sFld, dBm, dgSub, dgTup, dgCons, dgNil, dAndT, dOrT, dNotT, dOr, dAnd, dNotE, dIsi, dSl, dNoP, dPart, dDNew, dNever, fInt, fMod, fAdd_int, fSub, fMul, fDiv, fPow, fI2, fI2C, fNeg, mLt, List.getElem?_cons_succ, List.getElem?_cons_zero, List.set_cons_zero, List.set_cons_succ]
  intro u hu
  have hg : ga ≠ u := ne_nn T.ro hu
  refine for_l (up_at T.ro hu) (fun i σ A' => ∃ x2, σ = [some (.tup [.ref ga, .ref gc]), some (.ref u), x2, none, none, none] ∧ Sm [] A A' ∧ A' u = some (.lst [.str (joinL [32] ([114, 111, 111, 116, 115] :: (rt.take i).map numL))]))
    ⟨none, rfl, Sm.new hu, up_same⟩ (fun i σ A' _ ⟨_, _, s, _⟩ => s ga _ (by simp) T.ro) ?_ ?_ (fun Q h => mIx_tup (l := [.ref ga, .ref gc]) (k := 0) (d := .ref ga) rfl h)
  · rintro i x σ A1 hx ⟨x2, rfl, s1, e1⟩
    unfold natsD at hx
    rw [List.getElem?_map] at hx
    cases er : rt[i]? with
    | none => rw [er] at hx; cases hx
    | some n =>
      rw [er] at hx
      cases hx
      have n100 := G.rk n (List.mem_of_getElem? er)
      have nl := numL_le (n := n) (by omega)
      have l1 : (joinL [32] ([114, 111, 111, 116, 115] :: (rt.take i).map numL)).length ≤ 100 := (rootsT_ok (rt := rt.take i) (fun k m => G.rk k (List.mem_of_mem_take m)) (by rw [List.length_take]; omega)).1
      rw [join_take er]
      generalize joinL [32] ([114, 111, 111, 116, 115] :: (rt.take i).map numL) = l at e1 l1 ⊢
      dsimp only [dSeq, dIf, dAsg, dName, dRet, dRetN, dDrop, dNext, dB, dTru, dOp, dUn, dCall, dCons, dNil, dC, dV, dTup, dLst, dCal, dMet, dMak, dFld, DL.sFld, dBm, dgSub, dgTup, dgCons, dgNil, dAndT, dOrT, dNotT, dOr, dAnd, dNotE, dIsi, dSl, dNoP, dPart, dDNew, dNever, fInt, fMod, fAdd_int, fSub, fMul, fDiv, fPow, fI2, fI2C, fNeg, mLt, List.getElem?_cons_succ, List.getElem?_cons_zero, List.set_cons_zero, List.set_cons_succ]
      refine mIx_lst e1 (d := .str l) rfl (fAdd_str (m := [32]) (by rw [List.length_singleton]; omega) (str_nat (by omega) (fAdd_str (by rw [List.length_append, List.length_singleton]; omega) ?_)))
      refine mSt_lst e1 (j := 0) rfl ⟨_, rfl, s1.own hu, ?_⟩
      rw [up_same, List.append_assoc]; rfl
  · rintro σ A1 ⟨x2, rfl, s1, e1⟩
    have nl : (natsD rt).length = rt.length := by unfold natsD; rw [List.length_map]
    rw [nl, List.take_length] at e1
    have e1 : A1 u = some (.lst (strsD (rootsT rt :: linesT 0 (rows.take 0)))) := e1
    have gl := h2.len
    dsimp only [dSeq, dIf, dAsg, dName, dRet, dRetN, dDrop, dNext, dB, dTru, dOp, dUn, dCall, dCons, dNil, dC, dV, dTup, dLst, dCal, dMet, dMak, dFld, DL.sFld, dBm, dgSub, dgTup, dgCons, dgNil, dAndT, dOrT, dNotT, dOr, dAnd, dNotE, dIsi, dSl, dNoP, dPart, dDNew, dNever, fInt, fMod, fAdd_int, fSub, fMul, fDiv, fPow, fI2, fI2C, fNeg, mLt, List.getElem?_cons_succ, List.getElem?_cons_zero, List.set_cons_zero, List.set_cons_succ]
    refine for_r1 (j := ((gs.length : Nat) : Int)) (by unfold small62; omega) (fun i σ A' => ∃ x2 x3 x4 x5, σ = [some (.tup [.ref ga, .ref gc]), some (.ref u), x2, x3, x4, x5] ∧ Sm [] A A' ∧ A' u = some (.lst (strsD (rootsT rt :: linesT 0 (rows.take i)))))
      ⟨_, _, _, _, rfl, s1, e1⟩ ?_ ?_ (fun Q h => by
        dsimp only [dSeq, dIf, dAsg, dName, dRet, dRetN, dDrop, dNext, dB, dTru, dOp, dUn, dCall, dCons, dNil, dC, dV, dTup, dLst, dCal, dMet, dMak, dFld, DL.sFld, dBm, dgSub, dgTup, dgCons, dgNil, dAndT, dOrT, dNotT, dOr, dAnd, dNotE, dIsi, dSl, dNoP, dPart, dDNew, dNever, fInt, fMod, fAdd_int, fSub, fMul, fDiv, fPow, fI2, fI2C, fNeg, mLt, List.getElem?_cons_succ, List.getElem?_cons_zero, List.set_cons_zero, List.set_cons_succ]
        exact mIx_tup (l := [.ref ga, .ref gc]) (k := 1) (d := .ref gc) rfl (len_lst (s1 gc _ (by simp) h1) h))
    · rintro i σ A2 hi ⟨x2, x3, x4, x5, rfl, s2, e2⟩
      have hi : i < rows.length := by omega
      have er : rows[i]? = some rows[i] := List.getElem?_eq_getElem hi
      obtain ⟨w3, wf⟩ := G.wk _ (List.getElem_mem hi)
      generalize rows[i] = row at er w3 wf
      obtain ⟨aa, ea, _, e4⟩ := h2.at er
      have lk := (List.getElem?_eq_some_iff.mp ea).1
      rw [Int.zero_add]
      dsimp only [dSeq, dIf, dAsg, dName, dRet, dRetN, dDrop, dNext, dB, dTru, dOp, dUn, dCall, dCons, dNil, dC, dV, dTup, dLst, dCal, dMet, dMak, dFld, DL.sFld, dBm, dgSub, dgTup, dgCons, dgNil, dAndT, dOrT, dNotT, dOr, dAnd, dNotE, dIsi, dSl, dNoP, dPart, dDNew, dNever, fInt, fMod, fAdd_int, fSub, fMul, fDiv, fPow, fI2, fI2C, fNeg, mLt, List.getElem?_cons_succ, List.getElem?_cons_zero, List.set_cons_zero, List.set_cons_succ]
      have nk := numL_le (n := i) (by omega)
      refine str_nat (by omega) (fAdd_str (m := [58]) (by rw [List.length_singleton]; omega) ?_)
      refine for_l (tb := ltPair) (s2 aa _ (by simp) e4) (fun j σ A' => ∃ x5, σ = [some (.tup [.ref ga, .ref gc]), some (.ref u), x2, some (.int ((i : Nat) : Int)), some (.str (joinL [32] ((numL i ++ [58]) :: (row.take j).map fldT))), x5] ∧ A' = A2)
        ⟨_, rfl, rfl⟩ (fun j σ A' _ ⟨_, _, z⟩ => by rw [z]; exact s2 aa _ (by simp) e4) ?_ ?_ (fun Q h => by
          dsimp only [dSeq, dIf, dAsg, dName, dRet, dRetN, dDrop, dNext, dB, dTru, dOp, dUn, dCall, dCons, dNil, dC, dV, dTup, dLst, dCal, dMet, dMak, dFld, DL.sFld, dBm, dgSub, dgTup, dgCons, dgNil, dAndT, dOrT, dNotT, dOr, dAnd, dNotE, dIsi, dSl, dNoP, dPart, dDNew, dNever, fInt, fMod, fAdd_int, fSub, fMul, fDiv, fPow, fI2, fI2C, fNeg, mLt, List.getElem?_cons_succ, List.getElem?_cons_zero, List.set_cons_zero, List.set_cons_succ]
          exact mIx_tup (l := [.ref ga, .ref gc]) (k := 1) (d := .ref gc) rfl (mIx_lst (k := ((i : Nat) : Int)) (s2 gc _ (by simp) h1) (d := .ref aa) (by rw [atI_nat (by omega) (by omega)]; simpa using ea) h))
      · rintro j x σ A3 hx ⟨x5, rfl, rfl⟩
        have l1 : (joinL [32] ((numL i ++ [58]) :: (row.take j).map fldT)).length ≤ 100 := (lineT_ok (k := i) (r := row.take j) (by omega) (fun x m => wf x (List.mem_of_mem_take m)) (by rw [List.length_take]; omega)).1
        dsimp only [dName, List.set_cons_zero, List.set_cons_succ]
        refine lt_pair (by omega) (wf x (List.mem_of_getElem? hx)) ⟨some x, ?_, rfl⟩
        rw [join_take hx]
      · rintro σ A3 ⟨x5, rfl, rfl⟩
        rw [List.take_length]
        dsimp only [dSeq, dIf, dAsg, dName, dRet, dRetN, dDrop, dNext, dB, dTru, dOp, dUn, dCall, dCons, dNil, dC, dV, dTup, dLst, dCal, dMet, dMak, dFld, DL.sFld, dBm, dgSub, dgTup, dgCons, dgNil, dAndT, dOrT, dNotT, dOr, dAnd, dNotE, dIsi, dSl, dNoP, dPart, dDNew, dNever, fInt, fMod, fAdd_int, fSub, fMul, fDiv, fPow, fI2, fI2C, fNeg, mLt, List.getElem?_cons_succ, List.getElem?_cons_zero, List.set_cons_zero, List.set_cons_succ]
        have ll : (strsD (rootsT rt :: linesT 0 (rows.take i))).length ≤ 200 := by
          unfold strsD
          rw [List.length_map, List.length_cons, linesT_len, List.length_take]; omega
        refine ⟨⟨_, e2⟩, fAppend_lst e2 (by show _ < 16777216; omega) ⟨_, _, _, _, rfl, s2.own hu, ?_⟩⟩
        rw [up_same, linesT_take er, Nat.zero_add, ← List.cons_append, strsD_snoc]
        rfl
    · rintro σ A2 ⟨x2, x3, x4, x5, rfl, s2, e2⟩
      rw [Int.toNat_natCast, gl, List.take_length] at e2
      dsimp only [dSeq, dIf, dAsg, dName, dRet, dRetN, dDrop, dNext, dB, dTru, dOp, dUn, dCall, dCons, dNil, dC, dV, dTup, dLst, dCal, dMet, dMak, dFld, DL.sFld, dBm, dgSub, dgTup, dgCons, dgNil, dAndT, dOrT, dNotT, dOr, dAnd, dNotE, dIsi, dSl, dNoP, dPart, dDNew, dNever, fInt, fMod, fAdd_int, fSub, fMul, fDiv, fPow, fI2, fI2C, fNeg, mLt, List.getElem?_cons_succ, List.getElem?_cons_zero, List.set_cons_zero, List.set_cons_succ]
      exact hR u A2 s2 hu e2
end LawP
set_option Elab.async false
set_option linter.all false
set_option maxRecDepth 100000
set_option maxHeartbeats 1000000
namespace LawP
open PySem L2 DL TL
/-! ### reading texts of graphs: the parts -/
theorem cut_tail {α : Type} {c : α} {l : List α} : cutD (c :: l) (some 1) none = l := by
  unfold cutD
  have e : HT.sIx (c :: l).length 0 (some 1) = 1 := by
    show HT.sIx (c :: l).length 0 (some ((1 : Nat) : Int)) = 1
    rw [HT.sIx_nat, List.length_cons]; omega
  rw [e, HT.sIx_none]
  show List.take (l.length + 1 - 1) l = l
  rw [Nat.add_sub_cancel, List.take_length]
theorem cut_head {α : Type} {c : α} {l : List α} : cutD (c :: l) none (some 1) = [c] := by
  unfold cutD
  have e : HT.sIx (c :: l).length (c :: l).length (some 1) = 1 := by
    show HT.sIx (c :: l).length (c :: l).length (some ((1 : Nat) : Int)) = 1
    rw [HT.sIx_nat, List.length_cons]; omega
  rw [e, HT.sIx_none]
  rfl
theorem cut_mid {α : Type} {c d : α} {l : List α} : cutD (c :: (l ++ [d])) (some 1) (some (-1)) = l := by
  unfold cutD
  have n : (c :: (l ++ [d])).length = l.length + 2 := by rw [List.length_cons, List.length_append, List.length_singleton]
  have e : HT.sIx (c :: (l ++ [d])).length 0 (some 1) = 1 := by
    show HT.sIx _ 0 (some ((1 : Nat) : Int)) = 1
    rw [HT.sIx_nat, n]; omega
  have e2 : HT.sIx (c :: (l ++ [d])).length (c :: (l ++ [d])).length (some (-1)) = l.length + 1 := by
    rw [n]
    unfold HT.sIx
    simp
    omega
  rw [e, e2]
  show List.take (l.length + 1 - 1) (l ++ [d]) = l
  rw [Nat.add_sub_cancel, List.take_left]
theorem spl_line {k : Nat} {row : List D} (h : ∀ x ∈ row, FT x) : spl [32] 0 [] (lineT k row) = (numL k ++ [58]) :: row.map fldT := by
  unfold lineT
  refine spl_join (by simp) fun p mp => ?_
  rcases List.mem_cons.mp mp with rfl | mp
  · intro m
    rcases List.mem_append.mp m with m | m
    · have := numL_dig m; omega
    · have := List.mem_singleton.mp m; omega
  · obtain ⟨x, mx, rfl⟩ := List.mem_map.mp mp
    exact fun m => ((fldT_ok (h x mx)).2 _ m).1 rfl
theorem spl_roots {rt : List Nat} : spl [32] 0 [] (rootsT rt) = [114, 111, 111, 116, 115] :: rt.map numL := by
  unfold rootsT
  refine spl_join (by simp) fun p mp => ?_
  rcases List.mem_cons.mp mp with rfl | mp
  · decide
  · obtain ⟨k, _, rfl⟩ := List.mem_map.mp mp
    exact fun m => by have := numL_dig m; omega
theorem spl_fld {f : List Nat} {v : D} (hf : D.str f ∈ fnames) (hv : VT v) : spl [61] 0 [] (fldT (.tup [.str f, v])) = [f, valT v] := by
  have e : fldT (.tup [.str f, v]) = joinL [61] [f, valT v] := rfl
  rw [e]
  refine spl_join (by simp) fun p mp => ?_
  rcases List.mem_cons.mp mp with rfl | mp
  · exact fun m => by have := (fname_ok hf).2.2 _ m; omega
  · rw [List.mem_singleton.mp mp]
    exact fun m => ((valT_ok hv).2 _ m).2.2.1 rfl
theorem lines_no10 : ∀ {rows : List (List D)} {k : Nat}, k + rows.length ≤ 101 → (∀ r ∈ rows, r.length ≤ 3 ∧ ∀ x ∈ r, FT x) → ∀ p ∈ linesT k rows, 10 ∉ p
  | r :: t, k, hk, h, p, mp => by
    rw [List.length_cons] at hk
    obtain ⟨h3, hr⟩ := h r List.mem_cons_self
    rcases List.mem_cons.mp (show p ∈ lineT k r :: linesT (k + 1) t from mp) with rfl | mp
    · exact fun m => ((lineT_ok (k := k) (by omega) hr h3).2 _ m).1 rfl
    · exact lines_no10 (rows := t) (k := k + 1) (by omega) (fun r m => h r (List.mem_cons_of_mem _ m)) p mp
theorem spl_text {rt : List Nat} {rows : List (List D)} (G : GF rt rows) : spl [10] 0 [] (textT rt rows) = rootsT rt :: linesT 0 rows := by
  unfold textT
  refine spl_join (by simp) fun p mp => ?_
  rcases List.mem_cons.mp mp with rfl | mp
  · exact fun m => ((rootsT_ok G.rk G.rl).2 _ m).1 rfl
  · exact lines_no10 (by have := G.wl; omega) G.wk p mp
theorem split_ok {l t : List Nat} {ps : List (List Nat)} {A : AH} {Q : DQ} (e : spl t 0 [] l = ps) (tn : t ≠ []) (tk : ∀ c ∈ t, c < 256) (hl : l.length ≤ 1000000) (q : ∀ p, A p = none → Q (.ref p) (up A p (.lst (strsD ps)))) : fSplit (.str l) [.str t] A Q :=
  ⟨tn, tk, by show _ ≤ 16777216; omega, fun p hp => by rw [e]; exact q p hp⟩
/-! ### what may be read -/
def knV (kn : Nat) : D → Nat
  | .tup [_, .int k] => max kn (k.toNat + 1)
  | _ => kn
def knR : Nat → List D → Nat
  | kn, [] => kn
  | kn, .tup [_, v] :: t => knR (knV kn v) t
  | kn, _ :: t => knR kn t
def RowK : Nat → List Nat → List D → Prop
  | _, _, [] => True
  | kn, prev, x :: t => ∃ f v, x = .tup [.str f, v] ∧ D.str f ∈ fnames ∧ prev < f ∧ VT v ∧ (∀ j, v = refD j → j ≤ kn) ∧ RowK (knV kn v) f t
def RowsK : Nat → Nat → List (List D) → Prop
  | i, kn, [] => kn = i
  | i, kn, r :: t => i < kn ∧ RowK kn [] r ∧ RowsK (i + 1) (knR kn r) t
def knA : Nat → List Nat → Nat
  | kn, [] => kn
  | kn, k :: t => knA (max kn (k + 1)) t
def RtsK : Nat → List Nat → Prop
  | _, [] => True
  | kn, k :: t => k ≤ kn ∧ k ≤ 100 ∧ RtsK (max kn (k + 1)) t
theorem RowK.ft : ∀ {r : List D} {kn : Nat} {prev : List Nat}, RowK kn prev r → ∀ x ∈ r, FT x
  | x :: t, kn, prev, ⟨f, v, e, hf, _, hv, _, h⟩, y, m => by
    rcases List.mem_cons.mp m with rfl | m
    · exact ⟨f, v, e, hf, hv⟩
    · exact h.ft y m
abbrev lnO (C : Addr) (kn : Nat) : AO := .ins C [("known", .int (kn : Int))]
structure Ln (C T U : Addr) (A : AH) (r : Addr) (kn : Nat) : Prop where
  at_ : A r = some (lnO C kn)
  tT : A T = some .tbl
  tU : A U = some .tbl
theorem Ln.sm {C T U : Addr} {A A' : AH} {r : Addr} {kn : Nat} (h : Ln C T U A r kn) (s : Sm [] A A') : Ln C T U A' r kn := ⟨s _ _ (by simp) h.at_, s _ _ (by simp) h.tT, s _ _ (by simp) h.tU⟩
theorem Ln.to {C T U : Addr} {A A' : AH} {r : Addr} {kn kn' : Nat} (h : Ln C T U A r kn) (s : Sm [r] A A') (e : A' r = some (lnO C kn')) : Ln C T U A' r kn' :=
  ⟨e, s _ _ (by simpa using fun z : T = r => by have := h.tT; rw [z, h.at_] at this; cases this) h.tT, s _ _ (by simpa using fun z : U = r => by have := h.tU; rw [z, h.at_] at this; cases this) h.tU⟩
def sp_natural (T : Addr) : DSp := fun ds A R _ => ∃ n : Nat, ds = [.str (numL n)] ∧ n ≤ 1000000 ∧ A T = some .tbl ∧ R (.int (n : Int)) A
def sp_is_word (U : Addr) : DSp := fun ds A R _ => ∃ (l : List Nat) (m : Nat), ds = [.str l, .int (m : Int)] ∧ A U = some .tbl ∧ (∀ c ∈ l, 97 ≤ c ∧ c ≤ 122) ∧ l.length ≤ m ∧ l.length ≤ 1000 ∧ R (.bl true) A
def sp_is_field (U : Addr) : DSp := fun ds A R _ => ∃ l : List Nat, ds = [.str l] ∧ A U = some .tbl ∧ (∀ c ∈ l, 97 ≤ c ∧ c ≤ 122) ∧ 1 ≤ l.length ∧ l.length ≤ 8 ∧ R (.bl true) A
def sp_Lines___init__ (C : Addr) : DSp := fun ds A R _ => ∃ r, ds = [.ref r] ∧ A r = some (.ins C []) ∧ ∀ A', Sm [r] A A' → A' r = some (lnO C 0) → R .non A'
def sp_Lines_thing (C T : Addr) : DSp := fun ds A R _ => ∃ r kn n, ds = [.ref r, .str (numL n)] ∧ A r = some (lnO C kn) ∧ A T = some .tbl ∧ n ≤ kn ∧ n ≤ 1000000 ∧ ∀ A', Sm [r] A A' → A' r = some (lnO C (max kn (n + 1))) → R (.int (n : Int)) A'
def sp_Lines_value (C T U : Addr) : DSp := fun ds A R _ => ∃ r kn v, ds = [.ref r, .str (valT v)] ∧ Ln C T U A r kn ∧ VT v ∧ (∀ j, v = refD j → j ≤ kn) ∧ ∀ A', Sm [r] A A' → A' r = some (lnO C (knV kn v)) → R v A'
def sp_Lines_fields (C T U : Addr) : DSp := fun ds A R _ => ∃ r w kn row, ds = [.ref r, .ref w] ∧ Ln C T U A r kn ∧ A w = some (.lst (strsD (row.map fldT))) ∧ RowK kn [] row ∧ row.length ≤ 3 ∧ ∀ p A', Sm [r] A A' → A p = none → A' r = some (lnO C (knR kn row)) → A' p = some (.lst row) → R (.ref p) A'
def sp_Lines_line (C T U : Addr) : DSp := fun ds A R _ => ∃ r kn i row, ds = [.ref r, .int ((i : Nat) : Int), .str (lineT i row)] ∧ Ln C T U A r kn ∧ i < kn ∧ i ≤ 100 ∧ RowK kn [] row ∧ row.length ≤ 3 ∧ ∀ p A', Sm [r] A A' → A p = none → A' r = some (lnO C (knR kn row)) → A' p = some (.lst row) → R (.ref p) A'
def sp_Lines_roots (C T : Addr) : DSp := fun ds A R _ => ∃ r kn rt, ds = [.ref r, .str (rootsT rt)] ∧ A r = some (lnO C kn) ∧ A T = some .tbl ∧ RtsK kn rt ∧ rt.length ≤ 3 ∧ ∀ p A', Sm [r] A A' → A p = none → A' r = some (lnO C (knA kn rt)) → A' p = some (.lst (natsD rt)) → R (.ref p) A'
def sp_parse_graph (C T U : Addr) : DSp := fun ds A R _ => ∃ rt rows, ds = [.str (textT rt rows)] ∧ A T = some .tbl ∧ A U = some .tbl ∧ GF rt rows ∧ RtsK 0 rt ∧ RowsK 0 (knA 0 rt) rows ∧ ∀ ga gc A', Sm [] A A' → TG A' ga gc rt rows → R (.tup [.ref ga, .ref gc]) A'
/-- Lines.__init__: 0 self -/
def t_Lines___init__ (C_Lines : Addr) : DTS := sFld C_Lines "known" (dV 0) (dC (.int 0))
/-- natural: 0 word -/
def t_natural (C_T : Addr) : DTS := dSeq (dIf (dOrT (dB (dOp (mEq false) (dV 0) (dC (.str [])))) (dOrT (dB (dOp (mLt .Gt) (dCall mLen (dCons (dV 0) (dNil))) (dC (.int 8)))) (dOrT (dNotT (dTru (dAllS C_T (inB [48, 49, 50, 51, 52, 53, 54, 55, 56, 57]) (dV 0)))) (dAndT (dB (dOp (mEq false) (dOp mIx (dV 0) (dC (.int 0))) (dC (.str [48])))) (dB (dOp (mEq true) (dV 0) (dC (.str [48])))))))) (dNever) (dNext)) (
  dRet (dCall fIntT (dCons (dV 0) (dNil))))
/-- Lines.thing: 0 self, 1 word, 2 number -/
def t_Lines_thing (C_Lines C_T : Addr) : DTS := dSeq (dAsg (dCal (sp_natural C_T) (dCons (dV 1) (dNil))) (dName 2)) (
  dSeq (dIf (dB (dOp (mLt .Gt) (dV 2) (dFld C_Lines "known" (dV 0)))) (dNever) (dNext)) (
  dSeq (sFld C_Lines "known" (dV 0) (dCall fMax (dCons (dFld C_Lines "known" (dV 0)) (dCons (dOp fAdd (dV 2) (dC (.int 1))) (dNil))))) (
  dRet (dV 2))))
/-- Lines.roots: 0 self, 1 line, 2 words, 3 word -/
def t_Lines_roots (C_Lines C_T : Addr) : DTS := dSeq (dAsg (dBm isS fSplit (dV 1) (dCons (dC (.str [32])) (dNil))) (dName 2)) (
  dSeq (dIf (dB (dOp (mEq true) (dOp mIx (dV 2) (dC (.int 0))) (dC (.str [114, 111, 111, 116, 115])))) (dNever) (dNext)) (
  dRet (dLc (diL (dSl (dV 2) (dPart (dC (.int 1))) (dNoP))) (dName 3) (dYes) (dMet C_Lines "thing" (sp_Lines_thing C_Lines C_T) (dV 0) (dCons (dV 3) (dNil))) [3])))
/-- is_word: 0 text, 1 most -/
def t_is_word (C_U : Addr) : DTS := dRet (dAnd (dOp (mLt .LtE) (dCall mLen (dCons (dV 0) (dNil))) (dV 1)) (dAllS C_U (inB [97, 98, 99, 100, 101, 102, 103, 104, 105, 106, 107, 108, 109, 110, 111, 112, 113, 114, 115, 116, 117, 118, 119, 120, 121, 122]) (dV 0)))
/-- is_field: 0 text -/
def t_is_field (C_U : Addr) : DTS := dRet (dAnd (dOp (mLt .Gt) (dCall mLen (dCons (dV 0) (dNil))) (dC (.int 0))) (dCal (sp_is_word C_U) (dCons (dV 0) (dCons (dC (.int 8)) (dNil)))))
/-- Lines.value: 0 self, 1 word, 2 number -/
def t_Lines_value (C_Lines C_T C_U : Addr) : DTS := dSeq (dIf (dB (dOp (mEq false) (dSl (dV 1) (dNoP) (dPart (dC (.int 1)))) (dC (.str [35])))) (dRet (dTup (dCons (dC (.str [114, 101, 102])) (dCons (dMet C_Lines "thing" (sp_Lines_thing C_Lines C_T) (dV 0) (dCons (dSl (dV 1) (dPart (dC (.int 1))) (dNoP)) (dNil))) (dNil))))) (dNext)) (
  dSeq (dIf (dB (dOp (mEq false) (dSl (dV 1) (dNoP) (dPart (dC (.int 1)))) (dC (.str [34])))) (dSeq (dIf (dOrT (dB (dOp (mLt .Lt) (dCall mLen (dCons (dV 1) (dNil))) (dC (.int 2)))) (dOrT (dB (dOp (mEq true) (dOp mIx (dV 1) (dUn fNeg (dC (.int 1)))) (dC (.str [34])))) (dNotT (dTru (dCal (sp_is_word C_U) (dCons (dSl (dV 1) (dPart (dC (.int 1))) (dPart (dUn fNeg (dC (.int 1))))) (dCons (dC (.int 20)) (dNil)))))))) (dNever) (dNext)) (
  dRet (dSl (dV 1) (dPart (dC (.int 1))) (dPart (dUn fNeg (dC (.int 1))))))) (dNext)) (
  dSeq (dIf (dB (dOp (mEq false) (dSl (dV 1) (dNoP) (dPart (dC (.int 1)))) (dC (.str [45])))) (dAsg (dUn fNeg (dCal (sp_natural C_T) (dCons (dSl (dV 1) (dPart (dC (.int 1))) (dNoP)) (dNil)))) (dName 2)) (dAsg (dCal (sp_natural C_T) (dCons (dV 1) (dNil))) (dName 2))) (
  dSeq (dIf (dOrT (dB (dOp (mLt .Gt) (dCall fAbs (dCons (dV 2) (dNil))) (dC (.int 1000000)))) (dB (dOp (mEq false) (dV 1) (dC (.str [45, 48]))))) (dNever) (dNext)) (
  dRet (dV 2)))))
/-- Lines.fields: 0 self, 1 words, 2 found, 3 word, 4 parts -/
def t_Lines_fields (C_Lines C_T C_U : Addr) : DTS := dSeq (dAsg (dLst (dNil)) (dName 2)) (
  dSeq (dFor (diL (dV 1)) (dName 3) (dSeq (dAsg (dBm isS fSplit (dV 3) (dCons (dC (.str [61])) (dNil))) (dName 4)) (
  dSeq (dIf (dOrT (dB (dOp (mEq true) (dCall mLen (dCons (dV 4) (dNil))) (dC (.int 2)))) (dOrT (dNotT (dTru (dCal (sp_is_field C_U) (dCons (dOp mIx (dV 4) (dC (.int 0))) (dNil))))) (dAndT (dTru (dV 2)) (dB (dOp (mLt .LtE) (dOp mIx (dV 4) (dC (.int 0))) (dOp mIx (dOp mIx (dV 2) (dUn fNeg (dC (.int 1)))) (dC (.int 0)))))))) (dNever) (dNext)) (
  dDrop (dBm isL fAppend (dV 2) (dCons (dTup (dCons (dOp mIx (dV 4) (dC (.int 0))) (dCons (dMet C_Lines "value" (sp_Lines_value C_Lines C_T C_U) (dV 0) (dCons (dOp mIx (dV 4) (dC (.int 1))) (dNil))) (dNil)))) (dNil))))))) (
  dRet (dV 2)))
/-- Lines.line: 0 self, 1 number, 2 line, 3 words -/
def t_Lines_line (C_Lines C_T C_U : Addr) : DTS := dSeq (dAsg (dBm isS fSplit (dV 2) (dCons (dC (.str [32])) (dNil))) (dName 3)) (
  dSeq (dIf (dOrT (dB (dOp (mLt .GtE) (dV 1) (dFld C_Lines "known" (dV 0)))) (dB (dOp (mEq true) (dOp mIx (dV 3) (dC (.int 0))) (dOp fAdd (dCall fStr (dCons (dV 1) (dNil))) (dC (.str [58])))))) (dNever) (dNext)) (
  dRet (dMet C_Lines "fields" (sp_Lines_fields C_Lines C_T C_U) (dV 0) (dCons (dSl (dV 3) (dPart (dC (.int 1))) (dNoP)) (dNil)))))
/-- parse_graph: 0 text, 1 reader, 2 roots, 3 things, 4 lines, 5 number, 6 line -/
def t_parse_graph (C_Lines C_T C_U : Addr) : DTS := dSeq (dAsg (dMak C_Lines (sp_Lines___init__ C_Lines) dNil) (dName 1)) (
  dSeq (dAsg (dLst (dNil)) (dName 2)) (
  dSeq (dAsg (dLst (dNil)) (dName 3)) (
  dSeq (dAsg (dBm isS fSplit (dV 0) (dCons (dC (.str [10])) (dNil))) (dName 4)) (
  dSeq (dFor (diE (dCons (dV 4) (dNil))) (dgTup (dgCons (dName 5) (dgCons (dName 6) (dgNil)))) (dTryOnly [] [] (fun W1 => dIf (dB (dOp (mEq false) (dV 5) (dC (.int 0)))) (dAsg (dMet C_Lines "roots" (sp_Lines_roots C_Lines C_T) (dV 1) (dCons (dV 6) (dNil))) (dName 2)) (dDrop (dBm isL fAppend (dV 3) (dCons (dMet C_Lines "line" (sp_Lines_line C_Lines C_T C_U) (dV 1) (dCons (dOp fSub (dV 5) (dC (.int 1))) (dCons (dV 6) (dNil)))) (dNil))))) noW)) (
  dSeq (dIf (dB (dOp (mLt .Lt) (dCall mLen (dCons (dV 3) (dNil))) (dFld C_Lines "known" (dV 1)))) (dNever) (dNext)) (
  dRet (dTup (dCons (dV 2) (dCons (dV 3) (dNil))))))))))
end LawP
set_option Elab.async false
set_option linter.all false
set_option maxRecDepth 100000
set_option maxHeartbeats 1000000
namespace LawP
open PySem L2 DL TL
theorem inB_fig {c : Nat} (h1 : 48 ≤ c) (h2 : c ≤ 57) : inB [48, 49, 50, 51, 52, 53, 54, 55, 56, 57] c = true := by
  have : c = 48 ∨ c = 49 ∨ c = 50 ∨ c = 51 ∨ c = 52 ∨ c = 53 ∨ c = 54 ∨ c = 55 ∨ c = 56 ∨ c = 57 := by omega
  rcases this with rfl | rfl | rfl | rfl | rfl | rfl | rfl | rfl | rfl | rfl <;> decide +kernel
theorem inB_let {c : Nat} (h1 : 97 ≤ c) (h2 : c ≤ 122) : inB [97, 98, 99, 100, 101, 102, 103, 104, 105, 106, 107, 108, 109, 110, 111, 112, 113, 114, 115, 116, 117, 118, 119, 120, 121, 122] c = true := by
  have : c = 97 ∨ c = 98 ∨ c = 99 ∨ c = 100 ∨ c = 101 ∨ c = 102 ∨ c = 103 ∨ c = 104 ∨ c = 105 ∨ c = 106 ∨ c = 107 ∨ c = 108 ∨ c = 109 ∨ c = 110 ∨ c = 111 ∨ c = 112 ∨ c = 113 ∨ c = 114 ∨ c = 115 ∨ c = 116 ∨ c = 117 ∨ c = 118 ∨ c = 119 ∨ c = 120 ∨ c = 121 ∨ c = 122 := by omega
  rcases this with rfl | rfl | rfl | rfl | rfl | rfl | rfl | rfl | rfl | rfl | rfl | rfl | rfl | rfl | rfl | rfl | rfl | rfl | rfl | rfl | rfl | rfl | rfl | rfl | rfl | rfl <;> decide +kernel
theorem str_eq {l m : List Nat} {neg : Bool} {A : AH} {Q : DQ} (q : Q (.bl (neg ^^ decide (l = m))) A) : mEq neg (.str l) (.str m) A Q := by
  refine mEq_pl rfl rfl ?_
  have e : decide (D.str l = .str m) = decide (l = m) := decide_eq_decide.mpr ⟨fun e => by injection e, fun e => by rw [e]⟩
  rw [e]; exact q
theorem str_ne {l m : List Nat} {neg : Bool} {A : AH} {Q : DQ} (h : l ≠ m) (q : Q (.bl (neg ^^ false)) A) : mEq neg (.str l) (.str m) A Q := str_eq (by rw [decide_eq_false h]; exact q)
theorem str_same {l : List Nat} {neg : Bool} {A : AH} {Q : DQ} (q : Q (.bl (neg ^^ true)) A) : mEq neg (.str l) (.str l) A Q := str_eq (by rw [decide_eq_true rfl]; exact q)
theorem mIx_str {A : AH} {l : List Nat} {k : Int} {d : D} {Q : DQ} (hl : l.length ≤ SL) (e : atI (l.map fun c => D.str [c]) k = some d) (q : Q d A) : mIx (.str l) (.int k) A Q := fIx_of (x := .str l) (if_pos hl) e q
theorem q_Lines___init__ {C : Addr} : ∀ ds A R E, ds.length = 1 → sp_Lines___init__ C ds A R E → t_Lines___init__ C { nx := fun _ A' => R .non A', rt := R } (ds.map some ++ List.replicate (1 - ds.length) none) A := by
  rintro ds A R E - ⟨r, rfl, hr, hR⟩
  show t_Lines___init__ C _ [some (.ref r)] A
  dsimp only [t_Lines___init__, DL.sFld, dSeq, dIf, dAsg, dName, dRet, dRetN, dDrop, dNext, dB, dTru, dOp, dUn, dCall, dCons, dNil, dC, dV, dTup, dLst, dCal, dMet, dMak, dFld, DL.sFld, dBm, dgSub, dgTup, dgCons, dgNil, dAndT, dOrT, dNotT, dOr, dAnd, dNotE, dIsi, dSl, dNoP, dPart, dDNew, dNever, fInt, fMod, fAdd_int, fSub, fMul, fDiv, fPow, fI2, fI2C, fNeg, mLt, List.getElem?_cons_succ, List.getElem?_cons_zero, List.set_cons_zero, List.set_cons_succ]
  rw [hr]
  exact ⟨rfl, by show (0 : Nat) < 1000; decide, hR _ (Sm.put (by simp)) up_same⟩
theorem numL_cons {n : Nat} : ∃ c t, numL n = c :: t := List.exists_cons_of_ne_nil (numL_ne n)
theorem int_numL {n : Nat} (h : (numL n).length ≤ 4300) : intText? ⟨(numL n).toArray⟩ = some (n : Int) := by
  have e : (⟨(numL n).toArray⟩ : Str) = Str.ofString (toString ((n : Nat) : Int)) := ext_tl (tl_num n).symm
  rw [e]
  exact int_num h
theorem q_natural {T : Addr} : ∀ ds A R E, ds.length = 1 → sp_natural T ds A R E → t_natural T { nx := fun _ A' => R .non A', rt := R } (ds.map some ++ List.replicate (1 - ds.length) none) A := by
  rintro ds A R E - ⟨n, rfl, hn, hT, hR⟩
  show t_natural T _ [some (.str (numL n))] A
  have nl := numL_le hn
  have fin : fIntT [.str (numL n)] A R := ⟨_, int_numL (by omega), by omega, hR⟩
  have al : (numL n).all (inB [48, 49, 50, 51, 52, 53, 54, 55, 56, 57]) = true := List.all_eq_true.mpr fun c m => inB_fig (numL_dig m).1 (numL_dig m).2
  obtain ⟨c, t, e⟩ := numL_cons (n := n)
  dsimp only [t_natural, dAllS, dSeq, dIf, dAsg, dName, dRet, dRetN, dDrop, dNext, dB, dTru, dOp, dUn, dCall, dCons, dNil, dC, dV, dTup, dLst, dCal, dMet, dMak, dFld, DL.sFld, dBm, dgSub, dgTup, dgCons, dgNil, dAndT, dOrT, dNotT, dOr, dAnd, dNotE, dIsi, dSl, dNoP, dPart, dDNew, dNever, fInt, fMod, fAdd_int, fSub, fMul, fDiv, fPow, fI2, fI2C, fNeg, mLt, List.getElem?_cons_succ, List.getElem?_cons_zero, List.set_cons_zero, List.set_cons_succ, dMetX, dCalX, dRaise, dErr1, dXf, dIsE]
  refine str_ne (numL_ne n) ?_
  show (if (false : Bool) = true then (_ : Prop) else (_ : Prop))
  rw [if_neg (by decide)]
  refine ⟨by show _ ≤ 16777216; omega, ?_⟩
  dsimp only
  rw [decide_eq_false (show ¬ (8 : Int) < ((numL n).length : Int) by omega)]
  show (if (false : Bool) = true then (_ : Prop) else (_ : Prop))
  rw [if_neg (by decide)]
  refine ⟨hT, ?_⟩
  rw [al]
  show (if (false : Bool) = true then (_ : Prop) else (_ : Prop))
  rw [if_neg (by decide)]
  refine mIx_str (d := .str [c]) (by show _ ≤ 16777216; omega) (by rw [e, List.map_cons, atI_nat (by decide) (by rw [List.length_cons]; omega)]; rfl) ?_
  by_cases z : c = 48
  · subst z
    refine str_same ?_
    show (if (true : Bool) = true then (_ : Prop) else (_ : Prop))
    rw [if_pos rfl]
    have n0 : n = 0 := numL_zero (by rw [e]; rfl)
    subst n0
    have e0 : numL 0 = [48] := numL_lt (by decide)
    rw [e0]
    refine str_same ?_
    show (if (false : Bool) = true then (_ : Prop) else (_ : Prop))
    rw [if_neg (by decide)]
    rw [e0] at fin
    exact fin
  · refine str_ne (fun e => z (by injection e)) ?_
    show (if (false : Bool) = true then (_ : Prop) else (_ : Prop))
    rw [if_neg (by decide)]
    show (if (false : Bool) = true then (_ : Prop) else (_ : Prop))
    rw [if_neg (by decide)]
    exact fin
theorem q_is_word {U : Addr} : ∀ ds A R E, ds.length = 2 → sp_is_word U ds A R E → t_is_word U { nx := fun _ A' => R .non A', rt := R } (ds.map some ++ List.replicate (2 - ds.length) none) A := by
  rintro ds A R E - ⟨l, m, rfl, hU, hc, hl, h1, hR⟩
  show t_is_word U _ [some (.str l), some (.int (m : Int))] A
  dsimp only [t_is_word, dAllS, dSeq, dIf, dAsg, dName, dRet, dRetN, dDrop, dNext, dB, dTru, dOp, dUn, dCall, dCons, dNil, dC, dV, dTup, dLst, dCal, dMet, dMak, dFld, DL.sFld, dBm, dgSub, dgTup, dgCons, dgNil, dAndT, dOrT, dNotT, dOr, dAnd, dNotE, dIsi, dSl, dNoP, dPart, dDNew, dNever, fInt, fMod, fAdd_int, fSub, fMul, fDiv, fPow, fI2, fI2C, fNeg, mLt, List.getElem?_cons_succ, List.getElem?_cons_zero, List.set_cons_zero, List.set_cons_succ, dMetX, dCalX, dRaise, dErr1, dXf, dIsE]
  refine ⟨by show _ ≤ 16777216; omega, ?_⟩
  dsimp only
  rw [decide_eq_true (show (l.length : Int) ≤ (m : Int) by omega)]
  show A U = some AO.tbl ∧ R _ A
  refine ⟨hU, ?_⟩
  rw [List.all_eq_true.mpr fun c m => inB_let (hc c m).1 (hc c m).2]
  exact hR
theorem q_is_field {U : Addr} : ∀ ds A R E, ds.length = 1 → sp_is_field U ds A R E → t_is_field U { nx := fun _ A' => R .non A', rt := R } (ds.map some ++ List.replicate (1 - ds.length) none) A := by
  rintro ds A R E - ⟨l, rfl, hU, hc, h1, h8, hR⟩
  show t_is_field U _ [some (.str l)] A
  dsimp only [t_is_field, dSeq, dIf, dAsg, dName, dRet, dRetN, dDrop, dNext, dB, dTru, dOp, dUn, dCall, dCons, dNil, dC, dV, dTup, dLst, dCal, dMet, dMak, dFld, DL.sFld, dBm, dgSub, dgTup, dgCons, dgNil, dAndT, dOrT, dNotT, dOr, dAnd, dNotE, dIsi, dSl, dNoP, dPart, dDNew, dNever, fInt, fMod, fAdd_int, fSub, fMul, fDiv, fPow, fI2, fI2C, fNeg, mLt, List.getElem?_cons_succ, List.getElem?_cons_zero, List.set_cons_zero, List.set_cons_succ, dMetX, dCalX, dRaise, dErr1, dXf, dIsE]
  refine ⟨by show _ ≤ 16777216; omega, ?_⟩
  dsimp only
  rw [decide_eq_true (show (0 : Int) < (l.length : Int) by omega)]
  show sp_is_word U [.str l, .int 8] A R noX
  exact ⟨l, 8, rfl, hU, hc, h8, by omega, hR⟩
theorem gKnown {x : D} : getS "known" [("known", x)] = some x := rfl
theorem q_Lines_thing {C T : Addr} : ∀ ds A R E, ds.length = 2 → sp_Lines_thing C T ds A R E → t_Lines_thing C T { nx := fun _ A' => R .non A', rt := R } (ds.map some ++ List.replicate (3 - ds.length) none) A := by
  rintro ds A R E - ⟨r, kn, n, rfl, hr, hT, nk, hn, hR⟩
  show t_Lines_thing C T _ [some (.ref r), some (.str (numL n)), none] A
  dsimp only [t_Lines_thing, fMax, DL.sFld, dSeq, dIf, dAsg, dName, dRet, dRetN, dDrop, dNext, dB, dTru, dOp, dUn, dCall, dCons, dNil, dC, dV, dTup, dLst, dCal, dMet, dMak, dFld, DL.sFld, dBm, dgSub, dgTup, dgCons, dgNil, dAndT, dOrT, dNotT, dOr, dAnd, dNotE, dIsi, dSl, dNoP, dPart, dDNew, dNever, fInt, fMod, fAdd_int, fSub, fMul, fDiv, fPow, fI2, fI2C, fNeg, mLt, List.getElem?_cons_succ, List.getElem?_cons_zero, List.set_cons_zero, List.set_cons_succ, dMetX, dCalX, dRaise, dErr1, dXf, dIsE]
  refine ⟨n, rfl, hn, hT, ?_⟩
  dsimp only
  rw [hr]
  refine ⟨rfl, ?_⟩
  rw [gKnown]
  dsimp only
  rw [decide_eq_false (show ¬ (kn : Int) < (n : Int) by omega)]
  show (if (false : Bool) = true then (_ : Prop) else (_ : Prop))
  rw [if_neg (by decide)]
  refine ⟨rfl, ?_⟩
  rw [gKnown]
  dsimp only
  rw [fAdd_int]
  dsimp only
  rw [hr]
  refine ⟨rfl, by show (1 : Nat) < 1000; decide, ?_⟩
  have e : putS "known" (D.int (max (kn : Int) ((n : Int) + 1))) [("known", .int (kn : Int))] = [("known", .int ((max kn (n + 1) : Nat) : Int))] := by
    have : ((max kn (n + 1) : Nat) : Int) = max (kn : Int) ((n : Int) + 1) := by omega
    rw [this]; rfl
  rw [e]
  exact hR _ (Sm.put (by simp)) up_same
end LawP
set_option Elab.async false
set_option linter.all false
set_option maxRecDepth 100000
set_option maxHeartbeats 1000000
namespace LawP
open PySem L2 DL TL
theorem met_of {A : AH} {r C : Addr} {fs : List (String × D)} {m : String} {B : List (String × D) → Prop} (h : A r = some (.ins C fs)) (n : getS m fs = none) (b : B fs) : (match A r with
    | some (.ins C' fs) => C' = C ∧ getS m fs = none ∧ B fs
    | _ => False) := by
  rw [h]
  exact ⟨rfl, n, b⟩
theorem int_eq {k m : Int} {neg : Bool} {A : AH} {Q : DQ} (h : k = m) (q : Q (.bl (neg ^^ true)) A) : mEq neg (.int k) (.int m) A Q := by
  subst h
  refine mEq_pl rfl rfl ?_
  rw [decide_eq_true rfl]
  exact q
theorem sl_str {l : List Nat} {lo hi : Option Int} {A : AH} {Q : DQ} (h : l.length ≤ 1000) (q : Q (.str (cutD l lo hi)) A) : fSl (.str l) lo hi A Q := ⟨by show _ ≤ 16777216; omega, q⟩
theorem ifF {p q : Prop} (h : q) : if (false : Bool) = true then p else q := by rw [if_neg (by decide)]; exact h
theorem ifT0 {p q : Prop} (h : p) : if (true : Bool) = true then p else q := by rw [if_pos rfl]; exact h
theorem q_Lines_value {C T U : Addr} : ∀ ds A R E, ds.length = 2 → sp_Lines_value C T U ds A R E → t_Lines_value C T U { nx := fun _ A' => R .non A', rt := R } (ds.map some ++ List.replicate (3 - ds.length) none) A := by
  rintro ds A R E - ⟨r, kn, v, rfl, L, hv, hk, hR⟩
  show t_Lines_value C T U _ [some (.ref r), some (.str (valT v)), none] A
  have vl := (valT_ok hv).1
  have hr := L.at_
  rcases id hv with (⟨i, rfl, h1, h2⟩ | ⟨l, rfl, hl, hc⟩) | ⟨j, hj, rfl⟩
  · -- an int
    have e1 : valT (.int i) = intS i := rfl
    rw [e1] at vl ⊢
    have fin : ∀ w : List Nat, w = intS i → w ≠ [45, 48] → (dSeq (dIf (dOrT (dB (dOp (mLt .Gt) (dCall fAbs (dCons (dV 2) (dNil))) (dC (.int 1000000)))) (dB (dOp (mEq false) (dV 1) (dC (.str [45, 48]))))) (dNever) (dNext)) (dRet (dV 2))) { nx := fun _ A' => R .non A', rt := R } [some (.ref r), some (.str w), some (.int i)] A := by
      intro w _ ne
      dsimp only [fAbs, dSeq, dIf, dAsg, dName, dRet, dRetN, dDrop, dNext, dB, dTru, dOp, dUn, dCall, dCons, dNil, dC, dV, dTup, dLst, dCal, dMet, dMak, dFld, DL.sFld, dBm, dgSub, dgTup, dgCons, dgNil, dAndT, dOrT, dNotT, dOr, dAnd, dNotE, dIsi, dSl, dNoP, dPart, dDNew, dNever, fInt, fMod, fAdd_int, fSub, fMul, fDiv, fPow, fI2, fI2C, fNeg, mLt, List.getElem?_cons_succ, List.getElem?_cons_zero, List.set_cons_zero, List.set_cons_succ, dMetX, dCalX, dRaise, dErr1, dXf, dIsE]
      rw [decide_eq_false (show ¬ (1000000 : Int) < (i.natAbs : Int) by omega)]
      refine ifF (str_ne ne ?_)
      refine ifF ?_
      exact hR A Sm.refl hr
    rcases int_cs h1 h2 with ⟨n, hn, rfl, e⟩ | ⟨n, hn1, hn, rfl, e⟩
    · obtain ⟨c, t, ec⟩ := numL_cons (n := n)
      obtain ⟨c1, c2⟩ := numL_dig (n := n) (c := c) (by rw [ec]; exact List.mem_cons_self)
      have fin := fin (numL n) e.symm (fun z => by
        rw [z] at ec
        injection ec with z1 _
        omega)
      rw [e] at vl ⊢
      unfold t_Lines_value
      dsimp only [dSeq, dIf, dAsg, dName, dRet, dRetN, dDrop, dNext, dB, dTru, dOp, dUn, dCall, dCons, dNil, dC, dV, dTup, dLst, dCal, dMet, dMak, dFld, DL.sFld, dBm, dgSub, dgTup, dgCons, dgNil, dAndT, dOrT, dNotT, dOr, dAnd, dNotE, dIsi, dSl, dNoP, dPart, dDNew, dNever, fInt, fMod, fAdd_int, fSub, fMul, fDiv, fPow, fI2, fI2C, fNeg, mLt, List.getElem?_cons_succ, List.getElem?_cons_zero, List.set_cons_zero, List.set_cons_succ, dMetX, dCalX, dRaise, dErr1, dXf, dIsE]
      refine sl_str (by omega) ?_
      have hd : cutD (numL n) none (some 1) = [c] := by rw [ec]; exact cut_head
      rw [hd]
      refine str_ne (fun z => by injection z with z; omega) (ifF ?_)
      refine sl_str (by omega) ?_
      rw [hd]
      refine str_ne (fun z => by injection z with z; omega) (ifF ?_)
      refine sl_str (by omega) ?_
      rw [hd]
      refine str_ne (fun z => by injection z with z; omega) (ifF ?_)
      exact ⟨n, rfl, hn, L.tT, fin⟩
    · have fin := fin (45 :: numL n) e.symm (fun z => by
        injection z with _ z
        have n0 : n = 0 := numL_zero (by rw [z]; rfl)
        omega)
      rw [e] at vl ⊢
      unfold t_Lines_value
      dsimp only [dSeq, dIf, dAsg, dName, dRet, dRetN, dDrop, dNext, dB, dTru, dOp, dUn, dCall, dCons, dNil, dC, dV, dTup, dLst, dCal, dMet, dMak, dFld, DL.sFld, dBm, dgSub, dgTup, dgCons, dgNil, dAndT, dOrT, dNotT, dOr, dAnd, dNotE, dIsi, dSl, dNoP, dPart, dDNew, dNever, fInt, fMod, fAdd_int, fSub, fMul, fDiv, fPow, fI2, fI2C, fNeg, mLt, List.getElem?_cons_succ, List.getElem?_cons_zero, List.set_cons_zero, List.set_cons_succ, dMetX, dCalX, dRaise, dErr1, dXf, dIsE]
      refine sl_str (by omega) ?_
      rw [cut_head]
      refine str_ne (by decide) (ifF ?_)
      refine sl_str (by omega) ?_
      rw [cut_head]
      refine str_ne (by decide) (ifF ?_)
      refine sl_str (by omega) ?_
      rw [cut_head]
      refine str_same (ifT0 ?_)
      refine sl_str (by omega) ?_
      rw [cut_tail]
      exact ⟨n, rfl, hn, L.tT, fin⟩
  · -- a text
    have e1 : valT (.str l) = 34 :: (l ++ [34]) := rfl
    rw [e1] at vl ⊢
    have ll : l.length + 2 = (34 :: (l ++ [34])).length := by rw [List.length_cons, List.length_append, List.length_singleton]
    unfold t_Lines_value
    dsimp only [dSeq, dIf, dAsg, dName, dRet, dRetN, dDrop, dNext, dB, dTru, dOp, dUn, dCall, dCons, dNil, dC, dV, dTup, dLst, dCal, dMet, dMak, dFld, DL.sFld, dBm, dgSub, dgTup, dgCons, dgNil, dAndT, dOrT, dNotT, dOr, dAnd, dNotE, dIsi, dSl, dNoP, dPart, dDNew, dNever, fInt, fMod, fAdd_int, fSub, fMul, fDiv, fPow, fI2, fI2C, fNeg, mLt, List.getElem?_cons_succ, List.getElem?_cons_zero, List.set_cons_zero, List.set_cons_succ, dMetX, dCalX, dRaise, dErr1, dXf, dIsE]
    refine sl_str (by omega) ?_
    rw [cut_head]
    refine str_ne (by decide) (ifF ?_)
    refine sl_str (by omega) ?_
    rw [cut_head]
    refine str_same (ifT0 ?_)
    refine ⟨by show _ ≤ 16777216; omega, ?_⟩
    dsimp only
    rw [decide_eq_false (show ¬ (((34 :: (l ++ [34])).length : Nat) : Int) < 2 by omega)]
    refine ifF ?_
    refine mIx_str (k := -1) (d := .str [34]) (by show _ ≤ 16777216; omega) ?_ ?_
    · have : (34 :: (l ++ [34])).map (fun c => D.str [c]) = (D.str [34] :: l.map fun c => D.str [c]) ++ [D.str [34]] := by
        rw [List.map_cons, List.map_append]; rfl
      rw [this]
      exact atI_last _ _
    refine str_same (ifF ?_)
    refine sl_str (by omega) ?_
    rw [cut_mid]
    refine ⟨l, 20, rfl, L.tU, hc, by omega, by omega, ?_⟩
    show (if (!true) = true then (_ : Prop) else (_ : Prop))
    rw [if_neg (by decide)]
    refine sl_str (by omega) ?_
    rw [cut_mid]
    exact hR A Sm.refl hr
  · -- a number of an object
    have e1 : valT (refD j) = 35 :: numL j := by show 35 :: numL (((j : Nat) : Int)).toNat = _; rw [Int.toNat_natCast]
    rw [e1] at vl ⊢
    unfold t_Lines_value
    dsimp only [dSeq, dIf, dAsg, dName, dRet, dRetN, dDrop, dNext, dB, dTru, dOp, dUn, dCall, dCons, dNil, dC, dV, dTup, dLst, dCal, dMet, dMak, dFld, DL.sFld, dBm, dgSub, dgTup, dgCons, dgNil, dAndT, dOrT, dNotT, dOr, dAnd, dNotE, dIsi, dSl, dNoP, dPart, dDNew, dNever, fInt, fMod, fAdd_int, fSub, fMul, fDiv, fPow, fI2, fI2C, fNeg, mLt, List.getElem?_cons_succ, List.getElem?_cons_zero, List.set_cons_zero, List.set_cons_succ, dMetX, dCalX, dRaise, dErr1, dXf, dIsE]
    refine sl_str (by omega) ?_
    rw [cut_head]
    refine str_same (ifT0 ?_)
    refine met_of hr rfl ?_
    refine sl_str (by omega) ?_
    rw [cut_tail]
    refine ⟨r, kn, j, rfl, hr, L.tT, hk j rfl, by omega, fun A1 s1 h1 => ?_⟩
    have e2 : knV kn (refD j) = max kn (j + 1) := by show max kn ((((j : Nat) : Int)).toNat + 1) = _; rw [Int.toNat_natCast]
    rw [e2] at hR
    exact hR A1 s1 h1
end LawP
set_option Elab.async false
set_option linter.all false
set_option maxRecDepth 100000
set_option maxHeartbeats 1000000
namespace LawP
open PySem L2 DL TL
theorem lc_effL {a : Addr} {xs : List D} {t : DTE} {g : DTG} {tt : DTT} {te : DTE} {vs : List Nat} {σ : DS} {A : AH} {Q : DQ} (h : A a = some (.lst xs)) (hn : xs.length ≤ 1000000) (ht : ∀ Q : D → AH → Prop, Q (.ref a) A → t σ A Q) (J : Addr → Nat → List D → AH → Prop) (h0 : ∀ p, A p = none → J p 0 [] (up A p (.lst [])))
    (still : ∀ p k ys A', A p = none → J p k ys A' → A' a = some (.lst xs))
    (step : ∀ p k x ys A', A p = none → xs[k]? = some x → J p k ys A' → A' p = some (.lst ys) → ys.length ≤ k → ∀ (K : D → AH → Prop) (N : AH → Prop), (∀ d A'', A'' p = some (.lst ys) → J p (k + 1) (ys ++ [d]) (up A'' p (.lst (ys ++ [d]))) → K d A'') → (∀ A'', A'' p = some (.lst ys) → J p (k + 1) ys A'' → N A'') → g x (dwipe σ vs) A' fun σ2 A2 => tt σ2 A2 fun b A3 => if b = true then te σ2 A3 K else N A3)
    (fin : ∀ p ys A', A p = none → J p xs.length ys A' → A' p = some (.lst ys) → ys.length ≤ xs.length → Q (.ref p) A') : dLc (diL t) g tt te vs σ A Q := by
  refine ht _ ⟨⟨xs, h⟩, xs, fun p hp => ⟨fun k A' => ∃ ys, J p k ys A' ∧ A' p = some (.lst ys) ∧ ys.length ≤ k, ⟨[], h0 p hp, up_same, Nat.le_refl _⟩, fun k A' _ ⟨ys, j, _, _⟩ => still p k ys A' hp j, ?_, ?_⟩⟩
  · rintro k x A' hx ⟨ys, j, e, l⟩
    have lt := (List.getElem?_eq_some_iff.mp hx).1
    refine step p k x ys A' hp hx j e l _ _ (fun d A'' e' j' => ⟨ys, e', by show _ < 16777216; omega, ys ++ [d], j', up_same, by rw [List.length_append, List.length_singleton]; omega⟩) (fun A'' e' j' => ⟨ys, j', e', by omega⟩)
  · rintro A' ⟨ys, j, e, l⟩
    exact fin p ys A' hp j e l
theorem at0 {α : Type} {d : α} {l : List α} : atI (d :: l) 0 = some d := by rw [atI_nat (by decide) (by rw [List.length_cons]; omega)]; rfl
theorem dLc_l {t : DTE} {g : DTG} {tt : DTT} {te : DTE} {vs : List Nat} {σ : DS} {A : AH} {Q : DQ} : dLc (diL t) g tt te vs σ A Q = t σ A fun x A1 => dLc (diL (dC x)) g tt te vs σ A1 Q := rfl
theorem strsD_at {ls : List (List Nat)} {i : Nat} {x : D} (h : (strsD ls)[i]? = some x) : ∃ l, x = .str l ∧ ls[i]? = some l := by
  unfold strsD at h
  rw [List.getElem?_map] at h
  cases e : ls[i]? with
  | none => rw [e] at h; cases h
  | some l => rw [e] at h; cases h; exact ⟨l, rfl, rfl⟩
theorem strsD_len {ls : List (List Nat)} : (strsD ls).length = ls.length := by unfold strsD; rw [List.length_map]
/-- reading the fields: where it stands behind some -/
def Prv (done : List D) (prev : List Nat) : Prop := (done = [] ∧ prev = []) ∨ ∃ d0 v0, done = d0 ++ [.tup [.str prev, v0]]
theorem q_Lines_fields {C T U : Addr} : ∀ ds A R E, ds.length = 2 → sp_Lines_fields C T U ds A R E → t_Lines_fields C T U { nx := fun _ A' => R .non A', rt := R } (ds.map some ++ List.replicate (5 - ds.length) none) A := by
  rintro ds A R E - ⟨r, w, kn, row, rfl, L, hw, ok, l3, hR⟩
  show t_Lines_fields C T U _ [some (.ref r), some (.ref w), none, none, none] A
  dsimp only [t_Lines_fields, dSeq, dIf, dAsg, dName, dRet, dRetN, dDrop, dNext, dB, dTru, dOp, dUn, dCall, dCons, dNil, dC, dV, dTup, dLst, dCal, dMet, dMak, dFld, DL.sFld, dBm, dgSub, dgTup, dgCons, dgNil, dAndT, dOrT, dNotT, dOr, dAnd, dNotE, dIsi, dSl, dNoP, dPart, dDNew, dNever, fInt, fMod, fAdd_int, fSub, fMul, fDiv, fPow, fI2, fI2C, fNeg, mLt, List.getElem?_cons_succ, List.getElem?_cons_zero, List.set_cons_zero, List.set_cons_succ, dMetX, dCalX, dRaise, dErr1, dXf, dIsE]
  intro p hp
  have rp : r ≠ p := ne_nn L.at_ hp
  have wp : w ≠ p := ne_nn hw hp
  have wr : w ≠ r := ne_oo hw L.at_ (fun z => nomatch z)
  have L1 := L.sm (Sm.new (o := .lst []) hp)
  have w1 := up_at (u := .lst []) hw hp
  have p1 : up A p (.lst []) p = some (.lst []) := up_same
  have s1 : Sm [] A (up A p (.lst [])) := Sm.new hp
  generalize up A p (.lst []) = A1 at L1 w1 p1 s1 ⊢
  refine for_l w1 (fun j σ A' => ∃ x3 x4 done rest kn' prev, row = done ++ rest ∧ done.length = j ∧ σ = [some (.ref r), some (.ref w), some (.ref p), x3, x4] ∧ Sm [r, p] A1 A' ∧ Ln C T U A' r kn' ∧ A' p = some (.lst done) ∧ RowK kn' prev rest ∧ knR kn' rest = knR kn row ∧ Prv done prev)
    ⟨none, none, [], row, kn, [], rfl, rfl, rfl, Sm.refl, L1, p1, ok, rfl, .inl ⟨rfl, rfl⟩⟩ (fun j σ A' _ ⟨_, _, _, _, _, _, _, _, _, s, _⟩ => s w _ (by simpa using ⟨wr, wp⟩) w1) ?_ ?_ (fun Q q => q)
  · rintro j x σ A2 hx ⟨x3, x4, done, rest, kn', prev, e, dl, rfl, s2, L2, e2, ok2, ek, pv⟩
    obtain ⟨l, el, hy⟩ := strsD_at hx
    subst el
    rw [List.getElem?_map, e, List.getElem?_append_right (by omega), dl, Nat.sub_self] at hy
    have dl3 : done.length ≤ 3 := by have := congrArg List.length e; rw [List.length_append] at this; omega
    cases rest with
    | nil => simp at hy
    | cons y t =>
      obtain ⟨f, v, rfl, hf, hlt, hv, hk, ok3⟩ := ok2
      have hy : some (fldT (.tup [.str f, v])) = some l := hy
      injection hy with hy
      subst hy
      obtain ⟨f1, f8, fc⟩ := fname_ok hf
      have fl := (fldT_ok ⟨f, v, rfl, hf, hv⟩).1
      dsimp only [dSeq, dIf, dAsg, dName, dRet, dRetN, dDrop, dNext, dB, dTru, dOp, dUn, dCall, dCons, dNil, dC, dV, dTup, dLst, dCal, dMet, dMak, dFld, DL.sFld, dBm, dgSub, dgTup, dgCons, dgNil, dAndT, dOrT, dNotT, dOr, dAnd, dNotE, dIsi, dSl, dNoP, dPart, dDNew, dNever, fInt, fMod, fAdd_int, fSub, fMul, fDiv, fPow, fI2, fI2C, fNeg, mLt, List.getElem?_cons_succ, List.getElem?_cons_zero, List.set_cons_zero, List.set_cons_succ, dMetX, dCalX, dRaise, dErr1, dXf, dIsE]
      refine ⟨trivial, split_ok (spl_fld hf hv) (by decide) (by decide) (by omega) fun q hq => ?_⟩
      have L3 := L2.sm (Sm.new (o := .lst (strsD [f, valT v])) hq)
      have e3 := up_at (u := .lst (strsD [f, valT v])) e2 hq
      have q3 : up A2 q (.lst (strsD [f, valT v])) q = some (.lst [.str f, .str (valT v)]) := up_same
      have s3 : Sm [r, p] A1 (up A2 q (.lst (strsD [f, valT v]))) := s2.trans (Sm.new hq)
      have rq : r ≠ q := ne_nn L2.at_ hq
      have pq : p ≠ q := ne_nn e2 hq
      generalize up A2 q (.lst (strsD [f, valT v])) = A3 at L3 e3 q3 s3 ⊢
      refine len_lst q3 ?_
      refine int_eq rfl ?_
      refine ifF ?_
      refine mIx_lst q3 (d := .str f) rfl ⟨f, rfl, L3.tU, fc, f1, f8, ?_⟩
      show (if (!true) = true then (_ : Prop) else (_ : Prop))
      rw [if_neg (by decide)]
      have fin : dBm isL fAppend (dC (.ref p)) (dCons (dTup (dCons (dOp mIx (dC (.ref q)) (dC (.int 0))) (dCons (dMet C "value" (sp_Lines_value C T U) (dC (.ref r)) (dCons (dOp mIx (dC (.ref q)) (dC (.int 1))) (dNil))) (dNil)))) (dNil)) [] A3 fun _ A' => ∃ x3 x4 done rest kn' prev, row = done ++ rest ∧ done.length = j + 1 ∧ ([some (.ref r), some (.ref w), some (.ref p), some (.str (fldT (.tup [.str f, v]))), some (.ref q)] : DS) = [some (.ref r), some (.ref w), some (.ref p), x3, x4] ∧ Sm [r, p] A1 A' ∧ Ln C T U A' r kn' ∧ A' p = some (.lst done) ∧ RowK kn' prev rest ∧ knR kn' rest = knR kn row ∧ Prv done prev := by
        dsimp only [dSeq, dIf, dAsg, dName, dRet, dRetN, dDrop, dNext, dB, dTru, dOp, dUn, dCall, dCons, dNil, dC, dV, dTup, dLst, dCal, dMet, dMak, dFld, DL.sFld, dBm, dgSub, dgTup, dgCons, dgNil, dAndT, dOrT, dNotT, dOr, dAnd, dNotE, dIsi, dSl, dNoP, dPart, dDNew, dNever, fInt, fMod, fAdd_int, fSub, fMul, fDiv, fPow, fI2, fI2C, fNeg, mLt, List.getElem?_cons_succ, List.getElem?_cons_zero, List.set_cons_zero, List.set_cons_succ, dMetX, dCalX, dRaise, dErr1, dXf, dIsE]
        refine ⟨⟨_, e3⟩, mIx_lst q3 (d := .str f) rfl (met_of L3.at_ rfl (mIx_lst q3 (d := .str (valT v)) rfl ⟨r, kn', v, rfl, L3, hv, hk, fun A4 s4 h4 => ?_⟩))⟩
        have e4 := s4 p _ (by simpa using rp.symm) e3
        refine fAppend_lst e4 (by show _ < 16777216; omega) ?_
        have L5 : Ln C T U (up A4 p (.lst (done ++ [.tup [.str f, v]]))) r (knV kn' v) := by
          have L4 := L3.to s4 h4
          refine ⟨by rw [up_ne rp]; exact L4.at_, ?_, ?_⟩
          · rw [up_ne (ne_oo L4.tT e4 (fun z => nomatch z))]; exact L4.tT
          · rw [up_ne (ne_oo L4.tU e4 (fun z => nomatch z))]; exact L4.tU
        exact ⟨_, _, done ++ [.tup [.str f, v]], t, _, f, by rw [e, List.append_assoc]; rfl, by rw [List.length_append, dl]; rfl, rfl, (s3.trans (s4.weak (by simp))).trans (Sm.put (by simp)), L5, up_same, ok3, ek, .inr ⟨done, v, rfl⟩⟩
      rcases pv with ⟨rfl, rfl⟩ | ⟨d0, v0, rfl⟩
      · have tr : truth A3 (.ref p) = some false := by
          show (match A3 p with | some (.lst xs) => some (!xs.isEmpty) | _ => none) = _
          rw [e3]; rfl
        rw [tr]
        dsimp only
        refine ifF (ifF ?_)
        exact fin
      · have tr : truth A3 (.ref p) = some true := by
          show (match A3 p with | some (.lst xs) => some (!xs.isEmpty) | _ => none) = _
          rw [e3]
          show some (!(d0 ++ [_]).isEmpty) = _
          cases d0 <;> rfl
        rw [tr]
        dsimp only
        refine ifT0 ?_
        refine mIx_lst q3 (d := .str f) rfl (mIx_lst e3 (k := -1) (d := .tup [.str prev, v0]) (atI_last _ _) (mIx_tup (d := .str prev) rfl ⟨rfl, rfl, rfl, ?_⟩))
        have z : opD .LtE 4 (.str f) (.str prev) = !decide (prev < f) := rfl
        rw [z, decide_eq_true hlt]
        refine ifF ?_
        exact fin
  · rintro σ A2 ⟨x3, x4, done, rest, kn', prev, e, dl, rfl, s2, L2, e2, ok2, ek, pv⟩
    have re : rest = [] := by
      have h1 := congrArg List.length e
      rw [List.length_append] at h1
      rw [strsD_len, List.length_map] at dl
      exact List.eq_nil_of_length_eq_zero (by omega)
    subst re
    rw [List.append_nil] at e
    subst e
    have ek : kn' = knR kn row := ek
    dsimp only [dSeq, dIf, dAsg, dName, dRet, dRetN, dDrop, dNext, dB, dTru, dOp, dUn, dCall, dCons, dNil, dC, dV, dTup, dLst, dCal, dMet, dMak, dFld, DL.sFld, dBm, dgSub, dgTup, dgCons, dgNil, dAndT, dOrT, dNotT, dOr, dAnd, dNotE, dIsi, dSl, dNoP, dPart, dDNew, dNever, fInt, fMod, fAdd_int, fSub, fMul, fDiv, fPow, fI2, fI2C, fNeg, mLt, List.getElem?_cons_succ, List.getElem?_cons_zero, List.set_cons_zero, List.set_cons_succ, dMetX, dCalX, dRaise, dErr1, dXf, dIsE]
    refine hR p A2 (((s1.weak (V := [r, p]) (by simp)).trans s2).drop fun x m => ?_) hp (by rw [← ek]; exact L2.at_) e2
    simp at m
    rcases m with rfl | rfl
    · exact .inl (by simp)
    · exact .inr hp
theorem lineT_len {k : Nat} {row : List D} (hk : k ≤ 100) (h : ∀ x ∈ row, FT x) (h3 : row.length ≤ 3) : (lineT k row).length ≤ 100 := (lineT_ok hk h h3).1
theorem q_Lines_line {C T U : Addr} : ∀ ds A R E, ds.length = 3 → sp_Lines_line C T U ds A R E → t_Lines_line C T U { nx := fun _ A' => R .non A', rt := R } (ds.map some ++ List.replicate (4 - ds.length) none) A := by
  rintro ds A R E - ⟨r, kn, i, row, rfl, L, hi, h100, ok, l3, hR⟩
  show t_Lines_line C T U _ [some (.ref r), some (.int ((i : Nat) : Int)), some (.str (lineT i row)), none] A
  have ll := lineT_len h100 ok.ft l3
  have nl := numL_le (n := i) (by omega)
  dsimp only [t_Lines_line, dSeq, dIf, dAsg, dName, dRet, dRetN, dDrop, dNext, dB, dTru, dOp, dUn, dCall, dCons, dNil, dC, dV, dTup, dLst, dCal, dMet, dMak, dFld, DL.sFld, dBm, dgSub, dgTup, dgCons, dgNil, dAndT, dOrT, dNotT, dOr, dAnd, dNotE, dIsi, dSl, dNoP, dPart, dDNew, dNever, fInt, fMod, fAdd_int, fSub, fMul, fDiv, fPow, fI2, fI2C, fNeg, mLt, List.getElem?_cons_succ, List.getElem?_cons_zero, List.set_cons_zero, List.set_cons_succ, dMetX, dCalX, dRaise, dErr1, dXf, dIsE]
  refine ⟨trivial, split_ok (spl_line ok.ft) (by decide) (by decide) (by omega) fun q hq => ?_⟩
  have L1 := L.sm (Sm.new (o := .lst (strsD ((numL i ++ [58]) :: row.map fldT))) hq)
  have q1 : up A q (.lst (strsD ((numL i ++ [58]) :: row.map fldT))) q = some (.lst (.str (numL i ++ [58]) :: strsD (row.map fldT))) := up_same
  have s1 : Sm [] A (up A q (.lst (strsD ((numL i ++ [58]) :: row.map fldT)))) := Sm.new hq
  generalize up A q (.lst (strsD ((numL i ++ [58]) :: row.map fldT))) = A1 at L1 q1 s1 ⊢
  rw [L1.at_]
  refine ⟨rfl, ?_⟩
  rw [gKnown]
  dsimp only
  rw [decide_eq_false (show ¬ (kn : Int) ≤ ((i : Nat) : Int) by omega)]
  refine ifF ?_
  refine mIx_lst q1 (k := 0) (d := .str (numL i ++ [58])) at0 (str_nat (by omega) (fAdd_str (m := [58]) (by rw [List.length_singleton]; omega) (str_same (ifF ?_))))
  refine met_of L1.at_ rfl (fSl_lst q1 fun z hz => ?_)
  rw [cut_tail]
  refine ⟨r, z, kn, row, rfl, L1.sm (Sm.new hz), up_same, ok, l3, fun p A2 s2 hp h2 e2 => ?_⟩
  have t1 : Sm [] A (up A1 z (.lst (strsD (row.map fldT)))) := s1.trans (Sm.new hz)
  exact hR p A2 (t1.of0.trans s2) (t1.none0 hp) h2 e2
theorem q_Lines_roots {C T : Addr} : ∀ ds A R E, ds.length = 2 → sp_Lines_roots C T ds A R E → t_Lines_roots C T { nx := fun _ A' => R .non A', rt := R } (ds.map some ++ List.replicate (4 - ds.length) none) A := by
  rintro ds A R E - ⟨r, kn, rt, rfl, hr, hT, ok, l3, hR⟩
  show t_Lines_roots C T _ [some (.ref r), some (.str (rootsT rt)), none, none] A
  have rk : ∀ {rt : List Nat} {kn : Nat}, RtsK kn rt → ∀ k ∈ rt, k ≤ 100 := by
    intro rt
    induction rt with
    | nil => intro _ _ k m; cases m
    | cons n rt ih =>
      intro kn ok k m
      rcases List.mem_cons.mp m with rfl | m
      · exact ok.2.1
      · exact ih ok.2.2 k m
  have ll := (rootsT_ok (rk ok) l3).1
  dsimp only [t_Lines_roots, dSeq, dIf, dAsg, dName, dRet, dRetN, dDrop, dNext, dB, dTru, dOp, dUn, dCall, dCons, dNil, dC, dV, dTup, dLst, dCal, dMet, dMak, dFld, DL.sFld, dBm, dgSub, dgTup, dgCons, dgNil, dAndT, dOrT, dNotT, dOr, dAnd, dNotE, dIsi, dSl, dNoP, dPart, dDNew, dNever, fInt, fMod, fAdd_int, fSub, fMul, fDiv, fPow, fI2, fI2C, fNeg, mLt, List.getElem?_cons_succ, List.getElem?_cons_zero, List.set_cons_zero, List.set_cons_succ, dMetX, dCalX, dRaise, dErr1, dXf, dIsE]
  refine ⟨trivial, split_ok spl_roots (by decide) (by decide) (by omega) fun q hq => ?_⟩
  have q1 : up A q (.lst (strsD ([114, 111, 111, 116, 115] :: rt.map numL))) q = some (.lst (.str [114, 111, 111, 116, 115] :: strsD (rt.map numL))) := up_same
  have s1 : Sm [] A (up A q (.lst (strsD ([114, 111, 111, 116, 115] :: rt.map numL)))) := Sm.new hq
  generalize up A q (.lst (strsD ([114, 111, 111, 116, 115] :: rt.map numL))) = A1 at q1 s1 ⊢
  refine mIx_lst q1 (k := 0) (d := .str [114, 111, 111, 116, 115]) at0 (str_same (ifF ?_))
  rw [dLc_l]
  dsimp only [dSl, dPart, dNoP, dV, dC, List.getElem?_cons_succ, List.getElem?_cons_zero]
  refine fSl_lst q1 fun z hz => ?_
  rw [cut_tail]
  have z2 : up A1 z (.lst (strsD (rt.map numL))) z = some (.lst (strsD (rt.map numL))) := up_same
  have s2 : Sm [] A (up A1 z (.lst (strsD (rt.map numL)))) := s1.trans (Sm.new hz)
  have r2 := s2 r _ (by simp) hr
  have t2 := s2 T _ (by simp) hT
  generalize up A1 z (.lst (strsD (rt.map numL))) = A2 at z2 s2 r2 t2 ⊢
  have zr : z ≠ r := ne_oo z2 r2 (fun z => nomatch z)
  have tr : T ≠ r := ne_oo t2 r2 (fun z => nomatch z)
  refine lc_effL (a := z) z2 (by rw [strsD_len, List.length_map]; omega) (fun Q q => q) (fun p k ys A' => ∃ done rest kn', rt = done ++ rest ∧ done.length = k ∧ ys = natsD done ∧ Sm [r, p] A2 A' ∧ A' r = some (lnO C kn') ∧ RtsK kn' rest ∧ knA kn' rest = knA kn rt)
    (fun p hp => ⟨[], rt, kn, rfl, rfl, rfl, Sm.new hp, up_at r2 hp, ok, rfl⟩) (fun p k ys A' hp ⟨_, _, _, _, _, _, s, _⟩ => s z _ (by simpa using ⟨zr, ne_nn z2 hp⟩) z2) ?_ ?_
  · rintro p k x ys A3 hp hx ⟨done, rest, kn', e, dl, rfl, s3, r3, ok3, ek⟩ e3 _ K N k1 _
    obtain ⟨l, el, hy⟩ := strsD_at hx
    subst el
    rw [List.getElem?_map, e, List.getElem?_append_right (by omega), dl, Nat.sub_self] at hy
    cases rest with
    | nil => simp at hy
    | cons n rest =>
      have hy : some (numL n) = some l := hy
      injection hy with hy
      subst hy
      obtain ⟨h1, h2, ok4⟩ := ok3
      have tp : T ≠ p := ne_nn t2 hp
      have rp : r ≠ p := ne_nn r2 hp
      dsimp only [dYes, dwipe, dSeq, dIf, dAsg, dName, dRet, dRetN, dDrop, dNext, dB, dTru, dOp, dUn, dCall, dCons, dNil, dC, dV, dTup, dLst, dCal, dMet, dMak, dFld, DL.sFld, dBm, dgSub, dgTup, dgCons, dgNil, dAndT, dOrT, dNotT, dOr, dAnd, dNotE, dIsi, dSl, dNoP, dPart, dDNew, dNever, fInt, fMod, fAdd_int, fSub, fMul, fDiv, fPow, fI2, fI2C, fNeg, mLt, List.getElem?_cons_succ, List.getElem?_cons_zero, List.set_cons_zero, List.set_cons_succ, dMetX, dCalX, dRaise, dErr1, dXf, dIsE]
      refine ifT0 (met_of r3 rfl ⟨r, kn', n, rfl, r3, s3 T _ (by simpa using ⟨tr, tp⟩) t2, h1, by omega, fun A4 s4 r4 => ?_⟩)
      refine k1 _ A4 (s4 p _ (by simpa using rp.symm) e3) ⟨done ++ [n], rest, _, by rw [e, List.append_assoc]; rfl, by rw [List.length_append, dl]; rfl, by unfold natsD; rw [List.map_append]; rfl, (s3.trans (s4.weak (by simp))).trans (Sm.put (by simp)), by rw [up_ne rp]; exact r4, ok4, ek⟩
  · rintro p ys A3 hp ⟨done, rest, kn', e, dl, rfl, s3, r3, ok3, ek⟩ e3 _
    have re : rest = [] := by
      have h1 := congrArg List.length e
      rw [List.length_append] at h1
      rw [strsD_len, List.length_map] at dl
      exact List.eq_nil_of_length_eq_zero (by omega)
    subst re
    rw [List.append_nil] at e
    subst e
    have ek : kn' = knA kn rt := ek
    refine hR p A3 (((s2.weak (V := [r, p]) (by simp)).trans s3).drop fun x m => ?_) (s2.none0 hp) (by rw [← ek]; exact r3) e3
    simp at m
    rcases m with rfl | rfl
    · exact .inl (by simp)
    · exact .inr (s2.none0 hp)
end LawP
set_option Elab.async false
set_option linter.all false
set_option maxRecDepth 100000
set_option maxHeartbeats 1000000
namespace LawP
open PySem L2 DL TL
theorem RowsAt.keepI {A A' : AH} {t r C : Addr} {fs : List (String × D)} (hr : A r = some (.ins C fs)) (s : Sm [r] A A') : ∀ {ds : List D} {rs : List (List D)}, RowsAt A t ds rs → RowsAt A' t ds rs
  | [], [], _ => trivial
  | d :: ds, r' :: rs, ⟨⟨a, e, n, h⟩, k⟩ => ⟨⟨a, e, n, s a _ (by simpa using (ne_oo h hr (by simp))) h⟩, k.keepI hr s⟩
  | [], _ :: _, h => h.elim
  | _ :: _, [], h => h.elim
theorem rows_drop {rows : List (List D)} {i : Nat} {r : List D} (h : rows[i]? = some r) : rows.drop i = r :: rows.drop (i + 1) := by
  obtain ⟨lt, rfl⟩ := List.getElem?_eq_some_iff.mp h
  exact List.drop_eq_getElem_cons lt
theorem RowsK.row : ∀ {rows : List (List D)} {i kn : Nat}, RowsK i kn rows → ∀ r ∈ rows, ∃ kn, RowK kn [] r
  | r :: t, i, kn, ⟨_, h1, h2⟩, y, m => by
    rcases List.mem_cons.mp m with rfl | m
    · exact ⟨_, h1⟩
    · exact h2.row y m
def pgBody (C T U : Addr) : DTS := dTryOnly [] [] (fun W1 => dIf (dB (dOp (mEq false) (dV 5) (dC (.int 0)))) (dAsg (dMet C "roots" (sp_Lines_roots C T) (dV 1) (dCons (dV 6) (dNil))) (dName 2)) (dDrop (dBm isL fAppend (dV 3) (dCons (dMet C "line" (sp_Lines_line C T U) (dV 1) (dCons (dOp fSub (dV 5) (dC (.int 1))) (dCons (dV 6) (dNil)))) (dNil))))) noW
theorem q_parse_graph {C T U : Addr} : ∀ ds A R E, ds.length = 1 → sp_parse_graph C T U ds A R E → t_parse_graph C T U { nx := fun _ A' => R .non A', rt := R } (ds.map some ++ List.replicate (7 - ds.length) none) A := by
  rintro ds A R E - ⟨rt, rows, rfl, hT, hU, G, okr, okw, hR⟩
  show t_parse_graph C T U _ [some (.str (textT rt rows)), none, none, none, none, none, none] A
  have rl := G.rl
  have wl := G.wl
  have tlen : (textT rt rows).length ≤ 20000 := by
    have h1 := joinL_len (S := [10]) (ps := rootsT rt :: linesT 0 rows)
    have h2 := text_sum G
    rw [List.length_singleton] at h1
    unfold textT
    omega
  dsimp only [t_parse_graph, dSeq, dIf, dAsg, dName, dRet, dRetN, dDrop, dNext, dB, dTru, dOp, dUn, dCall, dCons, dNil, dC, dV, dTup, dLst, dCal, dMet, dMak, dFld, DL.sFld, dBm, dgSub, dgTup, dgCons, dgNil, dAndT, dOrT, dNotT, dOr, dAnd, dNotE, dIsi, dSl, dNoP, dPart, dDNew, dNever, fInt, fMod, fAdd_int, fSub, fMul, fDiv, fPow, fI2, fI2C, fNeg, mLt, List.getElem?_cons_succ, List.getElem?_cons_zero, List.set_cons_zero, List.set_cons_succ, dMetX, dCalX, dRaise, dErr1, dXf, dIsE]
  intro r hr
  refine ⟨r, rfl, up_same, fun A1 s1 h1 => ⟨rfl, ?_⟩⟩
  have t1 : Sm [r] A A1 := (Sm.new hr).trans s1
  have T1 : A1 T = some .tbl := t1 T _ (by simpa using ne_nn hT hr) hT
  have U1 : A1 U = some .tbl := t1 U _ (by simpa using ne_nn hU hr) hU
  intro ro hro
  have L2 : Ln C T U (up A1 ro (.lst [])) r 0 := ⟨up_at h1 hro, up_at T1 hro, up_at U1 hro⟩
  have t2 : Sm [r] A (up A1 ro (.lst [])) := t1.trans (Sm.new hro)
  generalize up A1 ro (.lst []) = A2 at L2 t2 ⊢
  intro th hth
  have rth : r ≠ th := ne_nn L2.at_ hth
  have thA : A th = none := t2.noneW (fun c m => by rw [List.mem_singleton.mp m]; exact ⟨_, L2.at_⟩) hth
  have L3 := L2.sm (Sm.new (o := .lst []) hth)
  have th3 : up A2 th (.lst []) th = some (.lst []) := up_same
  have t3 : Sm [r] A (up A2 th (.lst [])) := t2.trans (Sm.new hth)
  generalize up A2 th (.lst []) = A3 at L3 th3 t3 ⊢
  refine ⟨trivial, split_ok (spl_text G) (by decide) (by decide) (by omega) fun ln hln => ?_⟩
  have L4 := L3.sm (Sm.new (o := .lst (strsD (rootsT rt :: linesT 0 rows))) hln)
  have th4 := up_at (u := .lst (strsD (rootsT rt :: linesT 0 rows))) th3 hln
  have ln4 : up A3 ln (.lst (strsD (rootsT rt :: linesT 0 rows))) ln = some (.lst (strsD (rootsT rt :: linesT 0 rows))) := up_same
  have t4 : Sm [r] A (up A3 ln (.lst (strsD (rootsT rt :: linesT 0 rows)))) := t3.trans (Sm.new hln)
  have lth : ln ≠ th := (ne_nn th3 hln).symm
  have lr : ln ≠ r := (ne_nn L3.at_ hln).symm
  generalize up A3 ln (.lst (strsD (rootsT rt :: linesT 0 rows))) = A4 at L4 th4 ln4 t4 ⊢
  have ll : (strsD (rootsT rt :: linesT 0 rows)).length = rows.length + 1 := by rw [strsD_len, List.length_cons, linesT_len]
  refine for_e (tb := pgBody C T U) ln4 (fun i σ A' => ∃ x2 x5 x6 kn' ds, σ = [some (.str (textT rt rows)), some (.ref r), some (.ref x2), some (.ref th), some (.ref ln), x5, x6] ∧ Sm [r, th] A4 A' ∧ Ln C T U A' r kn' ∧ A' th = some (.lst ds) ∧ RowsAt A' th ds (rows.take (i - 1)) ∧ (i = 0 → kn' = 0) ∧ (1 ≤ i → x2 ≠ th ∧ A' x2 = some (.lst (natsD rt)) ∧ RowsK (i - 1) kn' (rows.drop (i - 1))))
    ⟨ro, none, none, 0, [], rfl, Sm.refl, L4, th4, trivial, (fun _ => rfl), fun h => absurd h (by omega)⟩ (fun i σ A' _ ⟨_, _, _, _, _, _, s, _⟩ => s ln _ (by simpa using ⟨lr, lth⟩) ln4) ?_ ?_ (fun Q q => q)
  · rintro i x σ A5 hx ⟨x2, x5, x6, kn', ds, rfl, s5, L5, th5, ro5, k0, k1⟩
    have lt := (List.getElem?_eq_some_iff.mp hx).1
    rw [ll] at lt
    obtain ⟨l, el, hy⟩ := strsD_at hx
    subst el
    unfold pgBody dTryOnly
    dsimp only [dSeq, dIf, dAsg, dName, dRet, dRetN, dDrop, dNext, dB, dTru, dOp, dUn, dCall, dCons, dNil, dC, dV, dTup, dLst, dCal, dMet, dMak, dFld, DL.sFld, dBm, dgSub, dgTup, dgCons, dgNil, dAndT, dOrT, dNotT, dOr, dAnd, dNotE, dIsi, dSl, dNoP, dPart, dDNew, dNever, fInt, fMod, fAdd_int, fSub, fMul, fDiv, fPow, fI2, fI2C, fNeg, mLt, List.getElem?_cons_succ, List.getElem?_cons_zero, List.set_cons_zero, List.set_cons_succ, dMetX, dCalX, dRaise, dErr1, dXf, dIsE]
    refine ⟨rfl, ?_⟩
    have rth5 : r ≠ th := rth
    cases i with
    | zero =>
      refine int_eq (k := ((0 : Nat) : Int)) rfl (ifT0 ?_)
      have hy : some (rootsT rt) = some l := hy
      injection hy with hy
      subst hy
      obtain rfl := k0 rfl
      refine met_of L5.at_ rfl ⟨r, 0, rt, rfl, L5.at_, L5.tT, okr, rl, fun p A6 s6 hp r6 p6 => ?_⟩
      have L6 := L5.to s6 r6
      have pth : p ≠ th := (ne_nn th5 hp).symm
      exact ⟨p, _, _, _, ds, rfl, s5.trans (s6.weak (by simp)), L6, s6 th _ (by simpa using rth.symm) th5, ro5.keepI L5.at_ s6, (fun z => absurd z (by omega)), fun _ => ⟨pth, p6, by rw [List.drop_zero]; exact okw⟩⟩
    | succ i =>
      have hy : (linesT 0 rows)[i]? = some l := hy
      have ir : i < rows.length := by omega
      have er : rows[i]? = some rows[i] := List.getElem?_eq_getElem ir
      obtain ⟨w3, wf⟩ := G.wk _ (List.getElem_mem ir)
      generalize rows[i] = row at er w3 wf
      rw [linesT_get er, Nat.zero_add] at hy
      injection hy with hy
      subst hy
      obtain ⟨xth, hx2, ok⟩ := k1 (by omega)
      rw [Nat.add_sub_cancel] at ok ro5
      rw [rows_drop er] at ok
      obtain ⟨ok1, ok2, ok3⟩ := ok
      have e1 : (((i + 1 : Nat) : Int)) - 1 = ((i : Nat) : Int) := by omega
      refine mEq_pl rfl rfl ?_
      rw [decide_eq_false (fun z => by injection z with z; omega)]
      refine ifF ⟨⟨_, th5⟩, met_of L5.at_ rfl ?_⟩
      rw [e1]
      refine ⟨r, kn', i, row, rfl, L5, ok1, by omega, ok2, w3, fun p A6 s6 hp r6 p6 => ?_⟩
      have L6 := L5.to s6 r6
      have pth : p ≠ th := (ne_nn th5 hp).symm
      have xr : x2 ≠ r := ne_oo hx2 L5.at_ (fun z => nomatch z)
      have th6 := s6 th _ (by simpa using rth.symm) th5
      have dl := ro5.len
      rw [List.length_take] at dl
      refine fAppend_lst th6 (by show _ < 16777216; omega) ?_
      have tk : rows.take (i + 1) = rows.take i ++ [row] := by rw [List.take_succ, er]; rfl
      refine ⟨x2, _, _, _, ds ++ [.ref p], rfl, (s5.trans (s6.weak (by simp))).trans (Sm.put (by simp)), ⟨by rw [up_ne rth]; exact L6.at_, by rw [up_ne (ne_oo L6.tT th6 (fun z => nomatch z))]; exact L6.tT, by rw [up_ne (ne_oo L6.tU th6 (fun z => nomatch z))]; exact L6.tU⟩, up_same, ?_, (fun z => absurd z (by omega)), fun _ => ⟨xth, ?_, ?_⟩⟩
      · rw [Nat.add_sub_cancel, tk]
        exact RowsAt.snoc pth (by rw [up_ne pth]; exact p6) ((ro5.keepI L5.at_ s6).keep (Sm.put (by simp)))
      · rw [up_ne xth]
        exact s6 x2 _ (by simpa using xr) hx2
      · rw [Nat.add_sub_cancel]
        exact ok3
  · rintro σ A5 ⟨x2, x5, x6, kn', ds, rfl, s5, L5, th5, ro5, k0, k1⟩
    rw [ll, Nat.add_sub_cancel, List.take_length] at ro5
    rw [ll, Nat.add_sub_cancel, List.drop_length] at k1
    obtain ⟨_, hx2, ok⟩ := k1 (by omega)
    have ok : kn' = rows.length := ok
    have dl := ro5.len
    dsimp only [dSeq, dIf, dAsg, dName, dRet, dRetN, dDrop, dNext, dB, dTru, dOp, dUn, dCall, dCons, dNil, dC, dV, dTup, dLst, dCal, dMet, dMak, dFld, DL.sFld, dBm, dgSub, dgTup, dgCons, dgNil, dAndT, dOrT, dNotT, dOr, dAnd, dNotE, dIsi, dSl, dNoP, dPart, dDNew, dNever, fInt, fMod, fAdd_int, fSub, fMul, fDiv, fPow, fI2, fI2C, fNeg, mLt, List.getElem?_cons_succ, List.getElem?_cons_zero, List.set_cons_zero, List.set_cons_succ, dMetX, dCalX, dRaise, dErr1, dXf, dIsE]
    refine len_lst th5 ?_
    rw [L5.at_]
    refine ⟨rfl, ?_⟩
    rw [gKnown]
    dsimp only
    rw [decide_eq_false (show ¬ ((ds.length : Nat) : Int) < (kn' : Int) by omega)]
    refine ifF ?_
    refine hR x2 th A5 (((t4.weak (V := [r, th]) (by simp)).trans s5).drop fun x m => ?_) ⟨hx2, ds, th, th5, ro5⟩
    simp at m
    rcases m with rfl | rfl
    · exact .inr hr
    · exact .inr thA
end LawP
set_option Elab.async false
set_option linter.all false
set_option maxRecDepth 100000
set_option maxHeartbeats 1000000
namespace LawP
open PySem L2 DL TL
/-! ### drawn graphs are numbered in the order in which objects are met -/
theorem addJ_pre {L : List D} {n : D} : ∃ r, addJ L n = L ++ r := by
  unfold addJ
  split
  · exact ⟨[], by simp⟩
  · exact ⟨_, rfl⟩
theorem idxJ_pre {cur L : List D} {n : D} (pre : ∃ r, addJ cur n ++ r = L) : L.idxOf n ≤ cur.length ∧ max cur.length (L.idxOf n + 1) = (addJ cur n).length := by
  obtain ⟨r, rfl⟩ := pre
  unfold addJ
  by_cases m : n ∈ cur
  · rw [if_pos m, List.idxOf_append, if_pos m]
    have := List.idxOf_lt_length_of_mem m
    omega
  · rw [if_neg m, List.append_assoc, List.idxOf_append, if_neg m, List.length_append]
    have : (([n] ++ r).idxOf n) = 0 := by simp
    rw [this, List.length_singleton]
    omega
theorem rtsK_ok {L : List D} (l100 : L.length ≤ 100) : ∀ {qs cur : List D}, (∃ r, qs.foldl addJ cur ++ r = L) → RtsK cur.length (qs.map fun n => L.idxOf n) ∧ knA cur.length (qs.map fun n => L.idxOf n) = (qs.foldl addJ cur).length
  | [], cur, _ => ⟨trivial, rfl⟩
  | q :: qs, cur, pre => by
    obtain ⟨r, e⟩ := pre
    obtain ⟨r2, e2⟩ := foldJ_pre (vs := qs) (L := addJ cur q)
    have p1 : ∃ r, addJ cur q ++ r = L := ⟨r2 ++ r, by rw [← e, List.foldl_cons, e2, List.append_assoc]⟩
    obtain ⟨h1, h2⟩ := idxJ_pre p1
    obtain ⟨i1, i2⟩ := rtsK_ok l100 (qs := qs) (cur := addJ cur q) ⟨r, e⟩
    have cl := List.idxOf_le_length (a := q) (l := L)
    rw [← h2] at i1 i2
    exact ⟨⟨h1, by show L.idxOf q ≤ 100; omega, i1⟩, i2⟩
theorem ltD_str {f g : List Nat} (h : ltD 3 (.str f) (.str g) = true) : f < g := of_decide_eq_true h
theorem rowK_ok {n : Nat} {L : List D} (l100 : L.length ≤ 100) : ∀ {F cur : List D} {prev : List Nat}, (∀ x ∈ F, Fv n x ∧ c0 x ∈ fnames) → F.Pairwise (fun x y => ltD 3 (c0 x) (c0 y) = true) → (∀ x ∈ F, ∀ f, c0 x = .str f → prev < f) → (∃ r, (rowT F).foldl addJ cur ++ r = L) →
    RowK cur.length prev (F.map (renP L)) ∧ knR cur.length (F.map (renP L)) = ((rowT F).foldl addJ cur).length
  | [], cur, prev, _, _, _, _ => ⟨trivial, rfl⟩
  | x :: F, cur, prev, hF, asc, hp, pre => by
    obtain ⟨hx, hfn⟩ := hF x List.mem_cons_self
    obtain ⟨a1, a2⟩ := List.pairwise_cons.mp asc
    obtain ⟨f', v, rfl, hs, hv⟩ := hx
    cases f' <;> cases hs
    rename_i f
    have hfn : D.str f ∈ fnames := hfn
    have hpf : prev < f := hp _ List.mem_cons_self f rfl
    have hp2 : ∀ y ∈ F, ∀ g, c0 y = .str g → f < g := fun y m g eg => by
      have := a1 y m
      rw [eg] at this
      exact ltD_str this
    rcases Fvc hv with (⟨i, rfl, hpv⟩ | ⟨l, rfl, hpv⟩) | ⟨j, hj, rfl⟩
    · have eT : rowT (D.tup [.str f, .int i] :: F) = rowT F := rfl
      rw [eT] at pre ⊢
      obtain ⟨i1, i2⟩ := rowK_ok l100 (F := F) (cur := cur) (prev := f) (fun y m => hF y (List.mem_cons_of_mem _ m)) a2 hp2 pre
      exact ⟨⟨f, .int i, rfl, hfn, hpf, .inl hpv, (fun _ z => nomatch z), i1⟩, i2⟩
    · have eT : rowT (D.tup [.str f, .str l] :: F) = rowT F := rfl
      rw [eT] at pre ⊢
      obtain ⟨i1, i2⟩ := rowK_ok l100 (F := F) (cur := cur) (prev := f) (fun y m => hF y (List.mem_cons_of_mem _ m)) a2 hp2 pre
      exact ⟨⟨f, .str l, rfl, hfn, hpf, .inl hpv, (fun _ z => nomatch z), i1⟩, i2⟩
    · have eT : rowT (D.tup [.str f, refD j] :: F) = .int ((j : Nat) : Int) :: rowT F := rfl
      rw [eT, List.foldl_cons] at pre ⊢
      obtain ⟨r, e⟩ := pre
      obtain ⟨r2, e2⟩ := foldJ_pre (vs := rowT F) (L := addJ cur (.int ((j : Nat) : Int)))
      obtain ⟨h1, h2⟩ := idxJ_pre (cur := cur) (L := L) (n := .int ((j : Nat) : Int)) ⟨r2 ++ r, by rw [← e, e2, List.append_assoc]⟩
      obtain ⟨i1, i2⟩ := rowK_ok l100 (F := F) (cur := addJ cur (.int ((j : Nat) : Int))) (prev := f) (fun y m => hF y (List.mem_cons_of_mem _ m)) a2 hp2 ⟨r, e⟩
      have er : renP L (.tup [.str f, refD j]) = .tup [.str f, refD (L.idxOf (.int ((j : Nat) : Int)))] := rfl
      have kv : knV cur.length (refD (L.idxOf (.int ((j : Nat) : Int)))) = (addJ cur (.int ((j : Nat) : Int))).length := by
        show max cur.length ((((L.idxOf (D.int ((j : Nat) : Int)) : Nat) : Int)).toNat + 1) = _
        rw [Int.toNat_natCast]; exact h2
      rw [← kv] at i1 i2
      have cl := List.idxOf_le_length (a := D.int ((j : Nat) : Int)) (l := L)
      rw [List.map_cons, er]
      refine ⟨⟨f, _, rfl, hfn, hpf, .inr ⟨_, by omega, rfl⟩, fun j' z => ?_, i1⟩, i2⟩
      unfold refD at z
      injection z with z
      injection z with _ z
      injection z with z _
      injection z with z
      omega
theorem fnd_at {ths : List (List D)} {rs : List D} {i : Nat} (G : GOk ths) (hn : ∀ d ∈ rs, Num ths.length d) (hi : i < (fnd ths rs).length) : i < (walkG ths (rs.foldl addJ []) i).length ∧ (walkG ths (rs.foldl addJ []) i)[i]? = (fnd ths rs)[i]? := by
  have N : Nums ths.length (rs.foldl addJ []) := Nums.nil.fold hn
  have l := (N.walk G ths.length).len
  have l : (fnd ths rs).length ≤ ths.length := l
  have lt : i < (walkG ths (rs.foldl addJ []) i).length := by
    rcases Nat.lt_or_ge i (walkG ths (rs.foldl addJ []) i).length with h | h
    · exact h
    · have := walkG_still h (ths.length - i)
      rw [show i + (ths.length - i) = ths.length by omega] at this
      have e : (fnd ths rs).length = (walkG ths (rs.foldl addJ []) i).length := congrArg List.length this
      omega
  refine ⟨lt, ?_⟩
  obtain ⟨r, e⟩ := walkG_pre (rows := ths) (L := rs.foldl addJ []) i (ths.length - i)
  rw [show i + (ths.length - i) = ths.length by omega] at e
  unfold fnd
  rw [e, List.getElem?_append_left lt]
theorem fnd_pre {ths : List (List D)} {rs : List D} {i : Nat} (h : i ≤ ths.length) : ∃ r, walkG ths (rs.foldl addJ []) i ++ r = fnd ths rs := by
  obtain ⟨r, e⟩ := walkG_pre (rows := ths) (L := rs.foldl addJ []) i (ths.length - i)
  rw [show i + (ths.length - i) = ths.length by omega] at e
  exact ⟨r, e.symm⟩
theorem fnd_end {ths : List (List D)} {rs : List D} (G : GOk ths) (hn : ∀ d ∈ rs, Num ths.length d) : (walkG ths (rs.foldl addJ []) (fnd ths rs).length).length = (fnd ths rs).length := by
  have N : Nums ths.length (rs.foldl addJ []) := Nums.nil.fold hn
  have l : (fnd ths rs).length ≤ ths.length := (N.walk G ths.length).len
  generalize hL : (fnd ths rs).length = n at l
  obtain ⟨r, e⟩ := fnd_pre (ths := ths) (rs := rs) (i := n) l
  have l1 := congrArg List.length e
  rw [List.length_append, hL] at l1
  have l2 := congrArg List.length (walkG_still (rows := ths) (L := rs.foldl addJ []) (i := n) (by omega) (ths.length - n))
  rw [show n + (ths.length - n) = ths.length by omega] at l2
  have l2 : (fnd ths rs).length = (walkG ths (rs.foldl addJ []) n).length := l2
  omega
theorem rowAt_ok {ths : List (List D)} (G : GOk ths) (d : D) : (∀ x ∈ rowAt ths d, Fv ths.length x ∧ c0 x ∈ fnames) ∧ (rowAt ths d).Pairwise (fun x y => ltD 3 (c0 x) (c0 y) = true) := by
  have of : ∀ r ∈ ths, (∀ x ∈ r, Fv ths.length x ∧ c0 x ∈ fnames) ∧ r.Pairwise (fun x y => ltD 3 (c0 x) (c0 y) = true) := fun r m => by
    obtain ⟨⟨h1, h2⟩, _⟩ := G r m
    exact ⟨fun x mx => ⟨h1 x mx, h2.subset (List.mem_map.mpr ⟨x, mx, rfl⟩)⟩, List.pairwise_map.mp (fnames_asc.sublist h2)⟩
  cases d with
  | int k =>
    show (∀ x ∈ ths.getD k.toNat [], _) ∧ (ths.getD k.toNat []).Pairwise _
    rw [List.getD_eq_getElem?_getD]
    cases e : ths[k.toNat]? with
    | none => exact ⟨(fun _ m => nomatch m), List.Pairwise.nil⟩
    | some r => exact of r (List.mem_of_getElem? e)
  | _ => exact ⟨(fun _ m => nomatch m), List.Pairwise.nil⟩
theorem fname_pos {x : D} {f : List Nat} (h : c0 x ∈ fnames) (e : c0 x = .str f) : ([] : List Nat) < f := by
  rw [e] at h
  have := (fname_ok h).1
  cases f with
  | nil => exact absurd this (by decide)
  | cons c f => exact List.nil_lt_cons _ _
theorem rowsK_ok {ths : List (List D)} {rs : List D} (G : GOk ths) (hn : ∀ d ∈ rs, Num ths.length d) (l100 : (fnd ths rs).length ≤ 100) : ∀ (j i : Nat), i + j = (fnd ths rs).length → RowsK i (walkG ths (rs.foldl addJ []) i).length ((rch ths rs).drop i) := by
  have lt : (fnd ths rs).length ≤ ths.length := ((Nums.nil.fold hn : Nums ths.length (rs.foldl addJ [])).walk G ths.length).len
  intro j
  induction j with
  | zero =>
    intro i h
    have e : (rch ths rs).drop i = [] := List.drop_eq_nil_of_le (by unfold rch; rw [List.length_map]; omega)
    rw [e]
    show (walkG ths (rs.foldl addJ []) i).length = i
    rw [show i = (fnd ths rs).length by omega]
    exact fnd_end G hn
  | succ j ih =>
    intro i h
    have hi : i < (fnd ths rs).length := by omega
    obtain ⟨h1, h2⟩ := fnd_at G hn hi
    obtain ⟨d, ed⟩ : ∃ d, (fnd ths rs)[i]? = some d := ⟨_, List.getElem?_eq_getElem hi⟩
    have er : (rch ths rs)[i]? = some ((rowAt ths d).map (renP (fnd ths rs))) := by unfold rch; rw [List.getElem?_map, ed]; rfl
    rw [rows_drop er]
    have ih := ih (i + 1) (by omega)
    have es : walkG ths (rs.foldl addJ []) (i + 1) = (rowT (rowAt ths d)).foldl addJ (walkG ths (rs.foldl addJ []) i) := by
      show stepG ths (walkG ths (rs.foldl addJ []) i) i = _
      unfold stepG
      rw [h2, ed]
      show (nxt ths d).foldl addJ _ = _
      rw [nxt_row]
    obtain ⟨r, e⟩ := fnd_pre (ths := ths) (rs := rs) (i := i + 1) (by omega)
    rw [es] at e
    obtain ⟨q1, q2⟩ := rowAt_ok G d
    obtain ⟨k1, k2⟩ := rowK_ok (n := ths.length) (L := fnd ths rs) l100 (F := rowAt ths d) (cur := walkG ths (rs.foldl addJ []) i) (prev := []) q1 q2 (fun x mx f ef => fname_pos (q1 x mx).2 ef) ⟨r, e⟩
    refine ⟨h1, k1, ?_⟩
    rw [k2, ← es]
    exact ih
/-- a drawn graph may be written and read -/
theorem any_ok {A : AH} {b dg a c : Addr} {rows : List (List D)} (h : AnyG A b dg a c rows) (l6 : rows.length ≤ 6) : ∃ rt, TG A a c rt rows ∧ GF rt rows ∧ RtsK 0 rt ∧ RowsK 0 (knA 0 rt) rows := by
  obtain ⟨rt, ea, hk, h0, h3, ths, rs, rfl, G, hn, rfl⟩ := h.rts
  have ln : (rch ths rs).length = (fnd ths rs).length := by unfold rch; rw [List.length_map]
  have l100 : (fnd ths rs).length ≤ 100 := by omega
  have hp : ∃ r, rs.foldl addJ [] ++ r = fnd ths rs := fnd_pre (i := 0) (Nat.zero_le _)
  obtain ⟨k1, k2⟩ := rtsK_ok l100 (qs := rs) (cur := []) hp
  have K := rowsK_ok G hn l100 (fnd ths rs).length 0 (by omega)
  have K : RowsK 0 (rs.foldl addJ []).length (rch ths rs) := K
  have k2 : knA 0 (rs.map fun d => (fnd ths rs).idxOf d) = (rs.foldl addJ []).length := k2
  rw [← k2] at K
  exact ⟨_, ⟨ea, h.gat.ex⟩, ⟨h3, fun k m => by have := hk k m; omega, by omega, fun r m => ⟨(h.gat.ok r m).2, let ⟨_, q⟩ := K.row r m; q.ft⟩⟩, k1, K⟩
end LawP
set_option Elab.async false
set_option linter.all false
set_option maxRecDepth 100000
set_option maxHeartbeats 1000000
namespace LawP
open PySem L2 DL TL
theorem dSeq_ap {t u : DTS} {DD : DE} {σ : DS} {A : AH} : dSeq t u DD σ A = t { DD with nx := u DD } σ A := rfl
theorem dAsg_ap {t : DTE} {g : DTG} {DD : DE} {σ : DS} {A : AH} : dAsg t g DD σ A = t σ A fun x A1 => g x σ A1 DD.nx := rfl
def laP7 (C T U : Addr) : DTS := dSeq (dIf (dOrT (dB (dOp (mEq true) (dCal (sp_parse_graph C T U) (dCons (dC (.str [114, 111, 111, 116, 115])) (dNil))) (dTup (dCons (dLst (dNil)) (dCons (dLst (dNil)) (dNil)))))) (dB (dOp (mEq true) (dCal sp_format_graph (dCons (dTup (dCons (dLst (dNil)) (dCons (dLst (dNil)) (dNil)))) (dNil))) (dC (.str [114, 111, 111, 116, 115]))))) (dRet (dC (.bl false))) (dNext)) (
  dRet (dAnd (dOp (mEq false) (dCal sp_format_value (dCons (dTup (dCons (dC (.str [114, 101, 102])) (dCons (dC (.int 7)) (dNil)))) (dNil))) (dC (.str [35, 55]))) (dAnd (dOp (mEq false) (dCal sp_format_value (dCons (dC (.str [97, 98])) (dNil))) (dC (.str [34, 97, 98, 34]))) (dOp (mEq false) (dCal sp_format_value (dCons (dUn fNeg (dC (.int 5))) (dNil))) (dC (.str [45, 53]))))))
def laP6 (C T U : Addr) : DTS := dSeq (dIf (dOrT (dNotT (dTru (dIsi "tuple" (dV 4)))) (dOrT (dB (dOp (mEq true) (dV 4) (dV 2))) (dB (dOp (mEq true) (dCal sp_format_graph (dCons (dV 4) (dNil))) (dV 3))))) (dRet (dC (.bl false))) (dNext)) (
  (laP7 C T U))
def laP5 (C T U : Addr) : DTS := dSeq (dAsg (dCal (sp_parse_graph C T U) (dCons (dV 3) (dNil))) (dName 4)) (
  (laP6 C T U))
def laP4 (C T U : Addr) : DTS := dSeq (dIf (dB (dOp (mEq true) (dCal sp_format_graph (dCons (dV 2) (dNil))) (dV 3))) (dRet (dC (.bl false))) (dNext)) (
  (laP5 C T U))
def laP3 (C T U : Addr) : DTS := dSeq (dAsg (dBm isS fJoin (dC (.str [10])) (dCons (dCal sp__law_text (dCons (dV 2) (dNil))) (dNil))) (dName 3)) (
  (laP4 C T U))
def laP2 (C T U : Addr) : DTS := dSeq (dAsg (dCal sp__law_any (dCons (dV 1) (dCons (dC (.int 6)) (dCons (dC (.int 1)) (dNil))))) (dName 2)) (
  (laP3 C T U))
def laP1 (C T U : Addr) : DTS := dSeq (dAsg (dLst (dCons (dCal sp__law_digits (dCons (dV 0) (dCons (dC (.int 0)) (dCons (dC (.int 63)) (dNil))))) (dCons (dC (.int 0)) (dNil)))) (dName 1)) (
  (laP2 C T U))
def tG (tr : List D) (Tw : List (List D)) : DL.T := .tup [.lst (plTs tr), .lst (Tw.map fun r => .lst (plTs r))]
theorem row_pl {rows : List (List D)} (G : GOk rows) : ∀ r ∈ rows, r.all plB = true := fun r m => List.all_eq_true.mpr fun x mx => ((G r m).1.1 x mx).pl
theorem tG_dep {tr : List D} {Tr : List (List D)} (h1 : tr.all plB = true) (h2 : ∀ r ∈ Tr, r.all plB = true) : (tG tr Tr).dep ≤ 64 := by
  have a := (pls_of h1).2
  have b : T.deps (Tr.map fun r => T.lst (plTs r)) ≤ 61 := by
    induction Tr with
    | nil => exact Nat.zero_le _
    | cons r Tr ih =>
      have := (pls_of (h2 r List.mem_cons_self)).2
      have := ih fun q m => h2 q (List.mem_cons_of_mem _ m)
      rw [List.map_cons]
      simp only [T.deps, T.dep]
      omega
  unfold tG
  simp only [T.dep, T.deps]
  omega
theorem tG_snap {A : AH} {a c av : Addr} {ds tr : List D} {Tw : List (List D)} (ha : A a = some (.lst tr)) (hc : A c = some (.lst ds)) (ro : RowsAt A av ds Tw) (h1 : tr.all plB = true) (h2 : ∀ r ∈ Tw, r.all plB = true) : Snap A (.tup [.ref a, .ref c]) (tG tr Tw) :=
  ⟨_, rfl, _, _, rfl, .inl ⟨a, tr, rfl, ha, snaps_pl _ (pls_of h1).1⟩, _, _, rfl, .inl ⟨c, ds, rfl, hc, ro.snaps h2⟩, rfl⟩

theorem VT.ft_pl {x : D} (h : FT x) : plB x = true := by
  obtain ⟨f, v, rfl, _, hv⟩ := h
  rcases hv with (⟨i, rfl, _⟩ | ⟨l, rfl, _⟩) | ⟨j, _, rfl⟩ <;> rfl
theorem nats_pl {rt : List Nat} : (natsD rt).all plB = true := List.all_eq_true.mpr fun x m => by obtain ⟨k, _, rfl⟩ := List.mem_map.mp m; rfl
theorem GF.pl {rt : List Nat} {rows : List (List D)} (G : GF rt rows) : ∀ r ∈ rows, r.all plB = true := fun r m => List.all_eq_true.mpr fun x mx => VT.ft_pl ((G.wk r m).2 x mx)
theorem mEq_tg {A : AH} {a c a' c' : Addr} {rt : List Nat} {rows : List (List D)} {neg : Bool} {Q : DQ} (G : GF rt rows) (h1 : TG A a c rt rows) (h2 : TG A a' c' rt rows) (q : Q (.bl (neg ^^ true)) A) : mEq neg (.tup [.ref a, .ref c]) (.tup [.ref a', .ref c']) A Q := by
  obtain ⟨gs, av, e1, e2⟩ := h1.ex
  obtain ⟨gs', av', e3, e4⟩ := h2.ex
  exact mEq_snap (by simp [plB, isPl, isPls]) (tG_snap h1.ro e1 e2 nats_pl G.pl) (tG_snap h2.ro e3 e4 nats_pl G.pl) (tG_dep nats_pl G.pl) q
theorem gf0 : GF [] [] := ⟨by decide, (fun _ m => nomatch m), by decide, fun _ m => nomatch m⟩
theorem text0 : textT [] [] = [114, 111, 111, 116, 115] := rfl
/-- law: 0 _law_script, 1 _law_box, 2 _law_graph, 3 _law_text_here, 4 _law_told -/
def t_law (C_Lines C_T C_U : Addr) : DTS := dSeq (dAsg (dLst (dCons (dCal sp__law_digits (dCons (dV 0) (dCons (dC (.int 0)) (dCons (dC (.int 63)) (dNil))))) (dCons (dC (.int 0)) (dNil)))) (dName 1)) (
  dSeq (dAsg (dCal sp__law_any (dCons (dV 1) (dCons (dC (.int 6)) (dCons (dC (.int 1)) (dNil))))) (dName 2)) (
  dSeq (dAsg (dBm isS fJoin (dC (.str [10])) (dCons (dCal sp__law_text (dCons (dV 2) (dNil))) (dNil))) (dName 3)) (
  dSeq (dIf (dB (dOp (mEq true) (dCal sp_format_graph (dCons (dV 2) (dNil))) (dV 3))) (dRet (dC (.bl false))) (dNext)) (
  dSeq (dAsg (dCal (sp_parse_graph C_Lines C_T C_U) (dCons (dV 3) (dNil))) (dName 4)) (
  dSeq (dIf (dOrT (dNotT (dTru (dIsi "tuple" (dV 4)))) (dOrT (dB (dOp (mEq true) (dV 4) (dV 2))) (dB (dOp (mEq true) (dCal sp_format_graph (dCons (dV 4) (dNil))) (dV 3))))) (dRet (dC (.bl false))) (dNext)) (
  dSeq (dIf (dOrT (dB (dOp (mEq true) (dCal (sp_parse_graph C_Lines C_T C_U) (dCons (dC (.str [114, 111, 111, 116, 115])) (dNil))) (dTup (dCons (dLst (dNil)) (dCons (dLst (dNil)) (dNil)))))) (dB (dOp (mEq true) (dCal sp_format_graph (dCons (dTup (dCons (dLst (dNil)) (dCons (dLst (dNil)) (dNil)))) (dNil))) (dC (.str [114, 111, 111, 116, 115]))))) (dRet (dC (.bl false))) (dNext)) (
  dRet (dAnd (dOp (mEq false) (dCal sp_format_value (dCons (dTup (dCons (dC (.str [114, 101, 102])) (dCons (dC (.int 7)) (dNil)))) (dNil))) (dC (.str [35, 55]))) (dAnd (dOp (mEq false) (dCal sp_format_value (dCons (dC (.str [97, 98])) (dNil))) (dC (.str [34, 97, 98, 34]))) (dOp (mEq false) (dCal sp_format_value (dCons (dUn fNeg (dC (.int 5))) (dNil))) (dC (.str [45, 53]))))))))))))
section
variable {C T U : Addr} {A : AH} {DD : DE} {x0 x1 : Option D}
theorem p7 {x2 x3 x4 : Option D} (hT : A T = some .tbl) (hU : A U = some .tbl) (nx : ∀ A', DD.rt (.bl true) A') : laP7 C T U DD [x0, x1, x2, x3, x4] A := by
  unfold laP7
  dsimp only [dSeq, dIf, dAsg, dName, dRet, dRetN, dDrop, dNext, dB, dTru, dOp, dUn, dCall, dCons, dNil, dC, dV, dTup, dLst, dCal, dMet, dMak, dFld, DL.sFld, dBm, dgSub, dgTup, dgCons, dgNil, dAndT, dOrT, dNotT, dOr, dAnd, dNotE, dIsi, dSl, dNoP, dPart, dDNew, dNever, fInt, fMod, fAdd_int, fSub, fMul, fDiv, fPow, fI2, fI2C, fNeg, mLt, List.getElem?_cons_succ, List.getElem?_cons_zero, List.set_cons_zero, List.set_cons_succ, dMetX, dCalX, dRaise, dErr1, dXf, dIsE]
  refine ⟨[], [], rfl, hT, hU, gf0, trivial, rfl, fun ga gc A1 s1 T1 => ?_⟩
  intro p hp
  intro q hq
  have T2 : TG (up (up A1 p (.lst [])) q (.lst [])) ga gc [] [] := (T1.sm (Sm.new hp)).sm (Sm.new hq)
  have T3 : TG (up (up A1 p (.lst [])) q (.lst [])) p q [] [] := ⟨up_at up_same hq, [], p, up_same, trivial⟩
  generalize up (up A1 p (.lst [])) q (.lst []) = A2 at T2 T3 ⊢
  refine mEq_tg gf0 T2 T3 (ifF ?_)
  intro p2 hp2
  intro q2 hq2
  have T4 : TG (up (up A2 p2 (.lst [])) q2 (.lst [])) p2 q2 [] [] := ⟨up_at up_same hq2, [], p2, up_same, trivial⟩
  generalize up (up A2 p2 (.lst [])) q2 (.lst []) = A3 at T4 ⊢
  refine ⟨p2, q2, [], [], rfl, T4, gf0, fun A4 _ => ?_⟩
  rw [text0]
  refine str_same (ifF ?_)
  refine ⟨refD 7, rfl, .inr ⟨7, by decide, rfl⟩, ?_⟩
  have e1 : valT (refD 7) = [35, 55] := by
    show 35 :: numL 7 = _
    rw [numL_lt (by decide)]
  rw [e1]
  refine str_same ?_
  refine ⟨.str [97, 98], rfl, .inl (.inr ⟨_, rfl, by decide, by decide⟩), ?_⟩
  refine str_same (l := [34, 97, 98, 34]) ?_
  refine ⟨.int (-5), rfl, .inl (.inl ⟨_, rfl, by decide, by decide⟩), ?_⟩
  have e2 : valT (.int (-5)) = [45, 53] := by
    show intS (-((4 + 1 : Nat) : Int)) = _
    rw [intS_neg, numL_lt (by decide)]
  rw [e2]
  refine str_same ?_
  exact nx A4
end
theorem q_law {C T U : Addr} : ∀ ds A R E, ds.length = 1 → sp_lawT2 T U ds A R E → t_law C T U { nx := fun _ A' => R .non A', rt := R } (ds.map some ++ List.replicate (5 - ds.length) none) A := by
  rintro ds A R E - ⟨ns, sc, rfl, hsc, hns, hT, hU, hR⟩
  show t_law C T U _ [some sc, none, none, none, none] A
  generalize hDD : ({ nx := fun _ A' => R .non A', rt := R } : DE) = DD
  have hr : DD.rt = R := by rw [← hDD]
  show laP1 C T U DD _ _
  unfold laP1
  rw [dSeq_ap, dAsg_ap]
  dsimp only [dSeq, dIf, dAsg, dName, dRet, dRetN, dDrop, dNext, dB, dTru, dOp, dUn, dCall, dCons, dNil, dC, dV, dTup, dLst, dCal, dMet, dMak, dFld, DL.sFld, dBm, dgSub, dgTup, dgCons, dgNil, dAndT, dOrT, dNotT, dOr, dAnd, dNotE, dIsi, dSl, dNoP, dPart, dDNew, dNever, fInt, fMod, fAdd_int, fSub, fMul, fDiv, fPow, fI2, fI2C, fNeg, mLt, List.getElem?_cons_succ, List.getElem?_cons_zero, List.set_cons_zero, List.set_cons_succ, dMetX, dCalX, dRaise, dErr1, dXf, dIsE]
  refine ⟨ns, sc, rfl, hsc, fun dg l A1 s1 d0 d1 => fun b hb => ?_⟩
  have bd : b ≠ dg := (ne_nn d1 hb).symm
  have B2 : Box (up A1 b (.lst [.ref dg, .int 0])) b dg := ⟨bd, ⟨0, up_same, by decide⟩, ⟨l, by rw [up_ne bd.symm]; exact d1⟩⟩
  have T2 := up_at (u := .lst [.ref dg, .int 0]) (s1 T _ (by simp) hT) hb
  have U2 := up_at (u := .lst [.ref dg, .int 0]) (s1 U _ (by simp) hU) hb
  generalize up A1 b (.lst [.ref dg, .int 0]) = A2 at B2 T2 U2 ⊢
  show laP2 C T U DD [some sc, some (.ref b), none, none, none] A2
  unfold laP2
  rw [dSeq_ap, dAsg_ap]
  dsimp only [dSeq, dIf, dAsg, dName, dRet, dRetN, dDrop, dNext, dB, dTru, dOp, dUn, dCall, dCons, dNil, dC, dV, dTup, dLst, dCal, dMet, dMak, dFld, DL.sFld, dBm, dgSub, dgTup, dgCons, dgNil, dAndT, dOrT, dNotT, dOr, dAnd, dNotE, dIsi, dSl, dNoP, dPart, dDNew, dNever, fInt, fMod, fAdd_int, fSub, fMul, fDiv, fPow, fI2, fI2C, fNeg, mLt, List.getElem?_cons_succ, List.getElem?_cons_zero, List.set_cons_zero, List.set_cons_succ, dMetX, dCalX, dRaise, dErr1, dXf, dIsE]
  refine ⟨b, dg, 6, 1, rfl, by decide, by decide, by decide, B2, fun a c rows A3 s3 G3 l6 => ?_⟩
  have bt : T ≠ b := by
    obtain ⟨n, e, _⟩ := B2.bx
    exact ne_oo T2 e (fun z => nomatch z)
  have bu : U ≠ b := by
    obtain ⟨n, e, _⟩ := B2.bx
    exact ne_oo U2 e (fun z => nomatch z)
  have T3 := s3 T _ (by simpa using bt) T2
  have U3 := s3 U _ (by simpa using bu) U2
  obtain ⟨rt, TG3, G, okr, okw⟩ := any_ok G3 l6
  show laP3 C T U DD [some sc, some (.ref b), some (.tup [.ref a, .ref c]), none, none] A3
  unfold laP3
  rw [dSeq_ap, dAsg_ap]
  dsimp only [dSeq, dIf, dAsg, dName, dRet, dRetN, dDrop, dNext, dB, dTru, dOp, dUn, dCall, dCons, dNil, dC, dV, dTup, dLst, dCal, dMet, dMak, dFld, DL.sFld, dBm, dgSub, dgTup, dgCons, dgNil, dAndT, dOrT, dNotT, dOr, dAnd, dNotE, dIsi, dSl, dNoP, dPart, dDNew, dNever, fInt, fMod, fAdd_int, fSub, fMul, fDiv, fPow, fI2, fI2C, fNeg, mLt, List.getElem?_cons_succ, List.getElem?_cons_zero, List.set_cons_zero, List.set_cons_succ, dMetX, dCalX, dRaise, dErr1, dXf, dIsE]
  refine ⟨trivial, a, c, rt, rows, rfl, TG3, G, fun p A4 s4 _ e4 => ?_⟩
  refine join_ok (ys := rootsT rt :: linesT 0 rows) e4 (by have := text_sum G; rw [List.length_singleton]; omega) ?_
  rw [show joinL [10] (rootsT rt :: linesT 0 rows) = textT rt rows from rfl]
  have TG4 := TG3.sm s4
  have T4 := s4 T _ (by simp) T3
  have U4 := s4 U _ (by simp) U3
  show laP4 C T U DD [some sc, some (.ref b), some (.tup [.ref a, .ref c]), some (.str (textT rt rows)), none] A4
  unfold laP4
  rw [dSeq_ap]
  dsimp only [dSeq, dIf, dAsg, dName, dRet, dRetN, dDrop, dNext, dB, dTru, dOp, dUn, dCall, dCons, dNil, dC, dV, dTup, dLst, dCal, dMet, dMak, dFld, DL.sFld, dBm, dgSub, dgTup, dgCons, dgNil, dAndT, dOrT, dNotT, dOr, dAnd, dNotE, dIsi, dSl, dNoP, dPart, dDNew, dNever, fInt, fMod, fAdd_int, fSub, fMul, fDiv, fPow, fI2, fI2C, fNeg, mLt, List.getElem?_cons_succ, List.getElem?_cons_zero, List.set_cons_zero, List.set_cons_succ, dMetX, dCalX, dRaise, dErr1, dXf, dIsE]
  refine ⟨a, c, rt, rows, rfl, TG4, G, fun A5 s5 => str_same (ifF ?_)⟩
  show laP5 C T U DD [some sc, some (.ref b), some (.tup [.ref a, .ref c]), some (.str (textT rt rows)), none] A5
  have TG5 := TG4.sm s5
  have T5 := s5 T _ (by simp) T4
  have U5 := s5 U _ (by simp) U4
  unfold laP5
  rw [dSeq_ap, dAsg_ap]
  dsimp only [dSeq, dIf, dAsg, dName, dRet, dRetN, dDrop, dNext, dB, dTru, dOp, dUn, dCall, dCons, dNil, dC, dV, dTup, dLst, dCal, dMet, dMak, dFld, DL.sFld, dBm, dgSub, dgTup, dgCons, dgNil, dAndT, dOrT, dNotT, dOr, dAnd, dNotE, dIsi, dSl, dNoP, dPart, dDNew, dNever, fInt, fMod, fAdd_int, fSub, fMul, fDiv, fPow, fI2, fI2C, fNeg, mLt, List.getElem?_cons_succ, List.getElem?_cons_zero, List.set_cons_zero, List.set_cons_succ, dMetX, dCalX, dRaise, dErr1, dXf, dIsE]
  refine ⟨rt, rows, rfl, T5, U5, G, okr, okw, fun ga gc A6 s6 H6 => ?_⟩
  have TG6 := TG5.sm s6
  have T6 := s6 T _ (by simp) T5
  have U6 := s6 U _ (by simp) U5
  show laP6 C T U DD [some sc, some (.ref b), some (.tup [.ref a, .ref c]), some (.str (textT rt rows)), some (.tup [.ref ga, .ref gc])] A6
  unfold laP6
  rw [dSeq_ap]
  dsimp only [dSeq, dIf, dAsg, dName, dRet, dRetN, dDrop, dNext, dB, dTru, dOp, dUn, dCall, dCons, dNil, dC, dV, dTup, dLst, dCal, dMet, dMak, dFld, DL.sFld, dBm, dgSub, dgTup, dgCons, dgNil, dAndT, dOrT, dNotT, dOr, dAnd, dNotE, dIsi, dSl, dNoP, dPart, dDNew, dNever, fInt, fMod, fAdd_int, fSub, fMul, fDiv, fPow, fI2, fI2C, fNeg, mLt, List.getElem?_cons_succ, List.getElem?_cons_zero, List.set_cons_zero, List.set_cons_succ, dMetX, dCalX, dRaise, dErr1, dXf, dIsE]
  show (if (!true) = true then (_ : Prop) else (_ : Prop))
  rw [if_neg (by decide)]
  refine mEq_tg G H6 TG6 (ifF ?_)
  refine ⟨ga, gc, rt, rows, rfl, H6, G, fun A7 s7 => str_same (ifF ?_)⟩
  exact p7 (s7 T _ (by simp) T6) (s7 U _ (by simp) U6) fun A' => by rw [hr]; exact hR A'
end LawP
set_option maxHeartbeats 1000000
namespace LawP
open PySem PySem.Spec PyProof.Rows L2 DL
def top (i : Nat) : Stmt := PySem.Challenge.pw_graphtwins_k12_texts_of_graphs.main.body.getD i (.Pass ⟨0, 0, 0, 0⟩)
abbrev s__law_cell : Stmt := top 27
abbrev s__law_digits : Stmt := top 28
abbrev s__law_draw : Stmt := top 29
abbrev s__law_plain : Stmt := top 30
abbrev s__law_drawn : Stmt := top 31
abbrev s__law_reached : Stmt := top 32
abbrev s__law_any : Stmt := top 33
abbrev s__law_text : Stmt := top 35
abbrev s_target_of : Stmt := top 11
abbrev s_is_reference : Stmt := top 12
abbrev s_format_value : Stmt := top 19
abbrev s_format_thing : Stmt := top 20
abbrev s_format_graph : Stmt := top 21
abbrev s_Lines___init__ : Stmt := inClass (top 24) 0
abbrev s_natural : Stmt := top 23
abbrev s_Lines_thing : Stmt := inClass (top 24) 1
abbrev s_Lines_roots : Stmt := inClass (top 24) 4
abbrev s_is_word : Stmt := top 9
abbrev s_is_field : Stmt := top 10
abbrev s_Lines_value : Stmt := inClass (top 24) 2
abbrev s_Lines_fields : Stmt := inClass (top 24) 3
abbrev s_Lines_line : Stmt := inClass (top 24) 5
abbrev s_parse_graph : Stmt := top 25
abbrev s_law : Stmt := top 36
section
variable {P : Program} {w : World} {K : PySem.W.Frag} {mg : Str → Option Value} {base : Heap}
variable {C_Lines C_T C_U C_WrongLine c_T c_U : Addr}
theorem sc__law_cell : FnScope ["_law_script", "_law_k"] ["_law_script", "_law_k"] (defScope s__law_cell) := ⟨rfl, rfl, rfl, by decide +kernel, rfl, by decide +kernel, by decide +kernel⟩
theorem ok__law_cell {f : Addr} {fd : FuncData} (F : Fun K "_law_cell" "_law_cell" s__law_cell f fd) (b_len : mg "len" = none) : FnOk P w K mg base CX0 1 f fd ["_law_script", "_law_k"] (lSp ⟨P, w, K⟩ 2 sp__law_cell) :=
  fn_ok (t := t__law_cell) F sc__law_cell (fun X hX hr => by
    have hu := hr.units
    have hu2 : X.A.units + 65 < cLine := by have := hr.un; omega
    have nd : (["_law_script", "_law_k"] : List Str).Nodup := sc__law_cell.nd
    obtain ⟨cdv, A, outer, s, H, E, rfl⟩ := hX
    exact (qs_cons (qs_if (qt_cmp (o_lt hu) (qe_var 1) (qe_callB (o_len hu) rfl b_len (by decide +kernel) (qa_cons (qe_var 0) qa_nil))) (qs_one (qs_ret (qe_ix (o_ix hu) (qe_var 0) (qe_var 1)))) qs_nil)
      (qs_one (qs_ret qe_int)))) q__law_cell
theorem sc__law_digits : FnScope ["_law_script", "_law_first", "_law_last", "_law_digits_here", "_law_k", "_law_cell_here", "_law_turn", "_law_seed"] ["_law_script", "_law_first", "_law_last"] (defScope s__law_digits) := ⟨rfl, rfl, rfl, by decide +kernel, rfl, by decide +kernel, by decide +kernel⟩
theorem ok__law_digits {f : Addr} {fd : FuncData} (F : Fun K "_law_digits" "_law_digits" s__law_digits f fd) (k__law_cell : CalF P w K mg base "_law_cell" 1 2 ["_law_script", "_law_k"] sp__law_cell) (b_range : mg "range" = none) (b_int : mg "int" = none) : FnOk P w K mg base CX0 2 f fd ["_law_script", "_law_first", "_law_last"] (lSp ⟨P, w, K⟩ 3 sp__law_digits) :=
  fn_ok (t := t__law_digits) F sc__law_digits (fun X hX hr => by
    have hu := hr.units
    have hu2 : X.A.units + 65 < cLine := by have := hr.un; omega
    have nd : (["_law_script", "_law_first", "_law_last", "_law_digits_here", "_law_k", "_law_cell_here", "_law_turn", "_law_seed"] : List Str).Nodup := sc__law_digits.nd
    obtain ⟨cdv, A, outer, s, H, E, rfl⟩ := hX
    exact (qs_cons (qs_set 3 nd (qe_lst qa_nil))
      (qs_cons (qs_for (vs := [4]) PassesOwn.never rfl (qi_range2 b_range (qa_cons (qe_var 1) (qa_cons (qe_var 2) qa_nil))) (qg_name 4 nd) (qs_cons (qs_set 5 nd (qe_calF k__law_cell (hr.mono (by decide)) (qa_cons (qe_var 0) (qa_cons (qe_var 4) qa_nil))))
      (qs_cons (qs_if (qt_cmp (o_lt hu) (qe_var 5) qe_int) (qs_one (qs_set 5 nd (qe_op d_sub qe_int (qe_op d_mul qe_int (qe_var 5))))) qs_nil)
      (qs_one (qs_if (qt_cmp (o_ge hu) (qe_var 5) (qe_op d_pow qe_int qe_int)) (qs_one (qs_for (vs := [6]) PassesOwn.never rfl (qi_range1 b_range (qa_cons qe_int qa_nil)) (qg_name 6 nd) (qs_one (qs_if (qt_cmp (o_gt hu) (qe_var 5) qe_int) (qs_cons (qs_expr (qe_append (qe_var 3) (qa_cons (qe_op d_mod (qe_callTy c_int rfl b_int (by decide +kernel) (qa_cons (qe_var 5) qa_nil)) qe_int) qa_nil)))
      (qs_one (qs_set 5 nd (qe_op d_div (qe_var 5) qe_int)))) qs_nil)))) (qs_cons (qs_set 7 nd (qe_op d_mod (qe_callTy c_int rfl b_int (by decide +kernel) (qa_cons (qe_op d_add (qe_op d_add (qe_op d_mul (qe_var 5) qe_int) (qe_op d_mul (qe_var 4) qe_int)) qe_int) qa_nil)) qe_int))
      (qs_one (qs_for (vs := [6]) PassesOwn.never rfl (qi_range1 b_range (qa_cons qe_int qa_nil)) (qg_name 6 nd) (qs_cons (qs_set 7 nd (qe_op d_mod (qe_callTy c_int rfl b_int (by decide +kernel) (qa_cons (qe_op d_add (qe_op d_add (qe_op d_mul (qe_var 7) qe_int) (qe_op d_mul qe_int (qe_var 6))) qe_int) qa_nil)) qe_int))
      (qs_one (qs_expr (qe_append (qe_var 3) (qa_cons (qe_op d_mod (qe_callTy c_int rfl b_int (by decide +kernel) (qa_cons (qe_op d_div (qe_var 7) qe_int) qa_nil)) qe_int) qa_nil)))))))))))))
      (qs_one (qs_ret (qe_var 3)))))) q__law_digits
theorem sc__law_draw : FnScope ["_law_box", "_law_many", "_law_at"] ["_law_box", "_law_many"] (defScope s__law_draw) := ⟨rfl, rfl, rfl, by decide +kernel, rfl, by decide +kernel, by decide +kernel⟩
theorem ok__law_draw {f : Addr} {fd : FuncData} (F : Fun K "_law_draw" "_law_draw" s__law_draw f fd) (b_len : mg "len" = none) (b_int : mg "int" = none) : FnOk P w K mg base CX0 1 f fd ["_law_box", "_law_many"] (lSp ⟨P, w, K⟩ 2 sp__law_draw) :=
  fn_ok (t := t__law_draw) F sc__law_draw (fun X hX hr => by
    have hu := hr.units
    have hu2 : X.A.units + 65 < cLine := by have := hr.un; omega
    have nd : (["_law_box", "_law_many", "_law_at"] : List Str).Nodup := sc__law_draw.nd
    obtain ⟨cdv, A, outer, s, H, E, rfl⟩ := hX
    exact (qs_cons (qs_set 2 nd (qe_ix (o_ix hu) (qe_var 0) qe_int))
      (qs_cons (qs_sub (o_st hu) (qe_op d_add (qe_var 2) qe_int) (qe_var 0) qe_int)
      (qs_cons (qs_if (qt_cmp (o_lt hu) (qe_var 2) (qe_callB (o_len hu) rfl b_len (by decide +kernel) (qa_cons (qe_ix (o_ix hu) (qe_var 0) qe_int) qa_nil))) (qs_one (qs_ret (qe_op d_mod (qe_callTy c_int rfl b_int (by decide +kernel) (qa_cons (qe_ix (o_ix hu) (qe_ix (o_ix hu) (qe_var 0) qe_int) (qe_var 2)) qa_nil)) (qe_var 1)))) qs_nil)
      (qs_one (qs_ret qe_int)))))) q__law_draw
theorem sc__law_plain : FnScope ["_law_box", "_law_kind"] ["_law_box"] (defScope s__law_plain) := ⟨rfl, rfl, rfl, by decide +kernel, rfl, by decide +kernel, by decide +kernel⟩
theorem ok__law_plain {f : Addr} {fd : FuncData} (F : Fun K "_law_plain" "_law_plain" s__law_plain f fd) (k__law_draw : CalF P w K mg base "_law_draw" 1 2 ["_law_box", "_law_many"] sp__law_draw) : FnOk P w K mg base CX0 2 f fd ["_law_box"] (lSp ⟨P, w, K⟩ 1 sp__law_plain) :=
  fn_ok (t := t__law_plain) F sc__law_plain (fun X hX hr => by
    have hu := hr.units
    have hu2 : X.A.units + 65 < cLine := by have := hr.un; omega
    have nd : (["_law_box", "_law_kind"] : List Str).Nodup := sc__law_plain.nd
    obtain ⟨cdv, A, outer, s, H, E, rfl⟩ := hX
    exact (qs_cons (qs_set 1 nd (qe_calF k__law_draw (hr.mono (by decide)) (qa_cons (qe_var 0) (qa_cons qe_int qa_nil))))
      (qs_cons (qs_if (qt_cmp (o_eq hu) (qe_var 1) qe_int) (qs_one (qs_ret (qe_ix (o_ix hu) (qe_lst (qa_cons qe_int (qa_cons (qe_un d_neg qe_int) (qa_cons qe_int (qa_cons qe_int (qa_cons (qe_un d_neg qe_int) qa_nil)))))) (qe_calF k__law_draw (hr.mono (by decide)) (qa_cons (qe_var 0) (qa_cons qe_int qa_nil)))))) qs_nil)
      (qs_one (qs_ret (qe_ix (o_ix hu) (qe_lst (qa_cons (qe_str [] rfl rfl) (qa_cons (qe_str [120] rfl rfl) (qa_cons (qe_str [97, 98, 122] rfl rfl) qa_nil)))) (qe_calF k__law_draw (hr.mono (by decide)) (qa_cons (qe_var 0) (qa_cons qe_int qa_nil))))))))) q__law_plain
theorem sc__law_drawn : FnScope ["_law_box", "_law_most", "_law_same", "_law_many", "_law_things", "_law_k", "_law_fields", "_law_field", "_law_way"] ["_law_box", "_law_most", "_law_same"] (defScope s__law_drawn) := ⟨rfl, rfl, rfl, by decide +kernel, rfl, by decide +kernel, by decide +kernel⟩
theorem ok__law_drawn {f : Addr} {fd : FuncData} (F : Fun K "_law_drawn" "_law_drawn" s__law_drawn f fd) (k__law_draw : CalF P w K mg base "_law_draw" 1 2 ["_law_box", "_law_many"] sp__law_draw) (k__law_plain : CalF P w K mg base "_law_plain" 2 1 ["_law_box"] sp__law_plain) (b_range : mg "range" = none) : FnOk P w K mg base CX0 3 f fd ["_law_box", "_law_most", "_law_same"] (lSp ⟨P, w, K⟩ 3 sp__law_drawn) :=
  fn_ok (t := t__law_drawn) F sc__law_drawn (fun X hX hr => by
    have hu := hr.units
    have hu2 : X.A.units + 65 < cLine := by have := hr.un; omega
    have nd : (["_law_box", "_law_most", "_law_same", "_law_many", "_law_things", "_law_k", "_law_fields", "_law_field", "_law_way"] : List Str).Nodup := sc__law_drawn.nd
    obtain ⟨cdv, A, outer, s, H, E, rfl⟩ := hX
    exact (qs_cons (qs_set 3 nd (qe_op d_add qe_int (qe_calF k__law_draw (hr.mono (by decide)) (qa_cons (qe_var 0) (qa_cons (qe_var 1) qa_nil)))))
      (qs_cons (qs_set 4 nd (qe_lst qa_nil))
      (qs_cons (qs_for (vs := [5]) PassesOwn.never rfl (qi_range1 b_range (qa_cons (qe_var 3) qa_nil)) (qg_name 5 nd) (qs_cons (qs_set 6 nd (qe_lst qa_nil))
      (qs_cons (qs_for (vs := [7]) PassesOwn.never rfl (qi_list (qe_lst (qa_cons (qe_str [97] rfl rfl) (qa_cons (qe_str [98] rfl rfl) (qa_cons (qe_str [110, 101, 120, 116] rfl rfl) qa_nil))))) (qg_name 7 nd) (qs_cons (qs_set 8 nd (qe_calF k__law_draw (hr.mono (by decide)) (qa_cons (qe_var 0) (qa_cons qe_int qa_nil))))
      (qs_cons (qs_if (qt_cmp (o_lt hu) (qe_var 8) qe_int) (qs_one (qs_expr (qe_append (qe_var 6) (qa_cons (qe_tup (qa_cons (qe_var 7) (qa_cons (qe_tup (qa_cons (qe_str [114, 101, 102] rfl rfl) (qa_cons (qe_calF k__law_draw (hr.mono (by decide)) (qa_cons (qe_var 0) (qa_cons (qe_var 3) qa_nil))) qa_nil))) qa_nil))) qa_nil)))) qs_nil)
      (qs_one (qs_if (qt_w (qw_and (qt_cmp (o_eq hu) (qe_var 8) qe_int) (qw_and1 (qt_cmp (o_eq hu) (qe_calF k__law_draw (hr.mono (by decide)) (qa_cons (qe_var 0) (qa_cons (qe_var 2) qa_nil))) qe_int)))) (qs_one (qs_expr (qe_append (qe_var 6) (qa_cons (qe_tup (qa_cons (qe_var 7) (qa_cons (qe_calF k__law_plain (hr.mono (by decide)) (qa_cons (qe_var 0) qa_nil)) qa_nil))) qa_nil)))) qs_nil)))))
      (qs_one (qs_expr (qe_append (qe_var 4) (qa_cons (qe_var 6) qa_nil)))))))
      (qs_one (qs_ret (qe_var 4))))))) q__law_drawn
theorem sc__law_reached : FnScope ["_law_things", "_law_roots", "_law_found", "_law_root", "_law_k", "_law_pair", "_law_rows", "_law_number", "_law_row"] ["_law_things", "_law_roots"] (defScope s__law_reached) := ⟨rfl, rfl, rfl, by decide +kernel, rfl, by decide +kernel, by decide +kernel⟩
theorem ok__law_reached {f : Addr} {fd : FuncData} (F : Fun K "_law_reached" "_law_reached" s__law_reached f fd) (b_range : mg "range" = none) (b_len : mg "len" = none) (b_isinstance : mg "isinstance" = none) (b_tuple : mg "tuple" = none) : FnOk P w K mg base CX0 1 f fd ["_law_things", "_law_roots"] (lSp ⟨P, w, K⟩ 2 sp__law_reached) :=
  fn_ok (t := t__law_reached) F sc__law_reached (fun X hX hr => by
    have hu := hr.units
    have hu2 : X.A.units + 65 < cLine := by have := hr.un; omega
    have nd : (["_law_things", "_law_roots", "_law_found", "_law_root", "_law_k", "_law_pair", "_law_rows", "_law_number", "_law_row"] : List Str).Nodup := sc__law_reached.nd
    obtain ⟨cdv, A, outer, s, H, E, rfl⟩ := hX
    exact (qs_cons (qs_set 2 nd (qe_lst qa_nil))
      (qs_cons (qs_for (vs := [3]) PassesOwn.never rfl (qi_list (qe_var 1)) (qg_name 3 nd) (qs_one (qs_if (qt_cmp (o_notin hu2) (qe_var 3) (qe_var 2)) (qs_one (qs_expr (qe_append (qe_var 2) (qa_cons (qe_var 3) qa_nil)))) qs_nil)))
      (qs_cons (qs_for (vs := [4]) PassesOwn.never rfl (qi_range1 b_range (qa_cons (qe_callB (o_len hu) rfl b_len (by decide +kernel) (qa_cons (qe_var 0) qa_nil)) qa_nil)) (qg_name 4 nd) (qs_one (qs_if (qt_cmp (o_lt hu) (qe_var 4) (qe_callB (o_len hu) rfl b_len (by decide +kernel) (qa_cons (qe_var 2) qa_nil))) (qs_one (qs_for (vs := [5]) PassesOwn.never rfl (qi_list (qe_ix (o_ix hu) (qe_var 0) (qe_ix (o_ix hu) (qe_var 2) (qe_var 4)))) (qg_name 5 nd) (qs_one (qs_if (qt_w (qw_and (qt_truth (qe_isi (qe_ix (o_ix hu) (qe_var 5) qe_int) okT_tuple rfl b_isinstance rfl b_tuple (by decide +kernel))) (qw_and1 (qt_cmp (o_notin hu2) (qe_ix (o_ix hu) (qe_ix (o_ix hu) (qe_var 5) qe_int) qe_int) (qe_var 2))))) (qs_one (qs_expr (qe_append (qe_var 2) (qa_cons (qe_ix (o_ix hu) (qe_ix (o_ix hu) (qe_var 5) qe_int) qe_int) qa_nil)))) qs_nil)))) qs_nil)))
      (qs_cons (qs_set 6 nd (qe_lst qa_nil))
      (qs_cons (qs_for (vs := [7]) PassesOwn.never rfl (qi_list (qe_var 2)) (qg_name 7 nd) (qs_cons (qs_set 8 nd (qe_lst qa_nil))
      (qs_cons (qs_for (vs := [5]) PassesOwn.never rfl (qi_list (qe_ix (o_ix hu) (qe_var 0) (qe_var 7))) (qg_name 5 nd) (qs_one (qs_if (qt_truth (qe_isi (qe_ix (o_ix hu) (qe_var 5) qe_int) okT_tuple rfl b_isinstance rfl b_tuple (by decide +kernel))) (qs_one (qs_expr (qe_append (qe_var 8) (qa_cons (qe_tup (qa_cons (qe_ix (o_ix hu) (qe_var 5) qe_int) (qa_cons (qe_tup (qa_cons (qe_str [114, 101, 102] rfl rfl) (qa_cons (qe_index hu2 (qe_var 2) (qa_cons (qe_ix (o_ix hu) (qe_ix (o_ix hu) (qe_var 5) qe_int) qe_int) qa_nil)) qa_nil))) qa_nil))) qa_nil)))) (qs_one (qs_expr (qe_append (qe_var 8) (qa_cons (qe_var 5) qa_nil)))))))
      (qs_one (qs_expr (qe_append (qe_var 6) (qa_cons (qe_var 8) qa_nil)))))))
      (qs_one (qs_ret (qe_tup (qa_cons (qe_lc [("_law_root", 3)] rfl nd (qi_list (qe_var 1)) (blk_of (N := ["_law_things", "_law_roots", "_law_found", "_law_root", "_law_k", "_law_pair", "_law_rows", "_law_number", "_law_row"]) (sc := defScope s__law_reached) (by decide +kernel)) (fun s H C cl fp => (qg_name 3 nd)) (fun s H C cl fp => qts_nil) (fun s H C cl fp => (qe_index hu2 (qe_var 2) (qa_cons (qe_var 3) qa_nil)))) (qa_cons (qe_var 6) qa_nil))))))))))) q__law_reached
theorem sc__law_any : FnScope ["_law_box", "_law_most", "_law_same", "_law_things", "_law_k"] ["_law_box", "_law_most", "_law_same"] (defScope s__law_any) := ⟨rfl, rfl, rfl, by decide +kernel, rfl, by decide +kernel, by decide +kernel⟩
theorem ok__law_any {f : Addr} {fd : FuncData} (F : Fun K "_law_any" "_law_any" s__law_any f fd) (k__law_drawn : CalF P w K mg base "_law_drawn" 3 3 ["_law_box", "_law_most", "_law_same"] sp__law_drawn) (k__law_reached : CalF P w K mg base "_law_reached" 1 2 ["_law_things", "_law_roots"] sp__law_reached) (k__law_draw : CalF P w K mg base "_law_draw" 1 2 ["_law_box", "_law_many"] sp__law_draw) (b_range : mg "range" = none) (b_len : mg "len" = none) : FnOk P w K mg base CX0 4 f fd ["_law_box", "_law_most", "_law_same"] (lSp ⟨P, w, K⟩ 3 sp__law_any) :=
  fn_ok (t := t__law_any) F sc__law_any (fun X hX hr => by
    have hu := hr.units
    have hu2 : X.A.units + 65 < cLine := by have := hr.un; omega
    have nd : (["_law_box", "_law_most", "_law_same", "_law_things", "_law_k"] : List Str).Nodup := sc__law_any.nd
    obtain ⟨cdv, A, outer, s, H, E, rfl⟩ := hX
    exact (qs_cons (qs_set 3 nd (qe_calF k__law_drawn (hr.mono (by decide)) (qa_cons (qe_var 0) (qa_cons (qe_var 1) (qa_cons (qe_var 2) qa_nil)))))
      (qs_one (qs_ret (qe_calF k__law_reached (hr.mono (by decide)) (qa_cons (qe_var 3) (qa_cons (qe_lc [("_law_k", 4)] rfl nd (qi_range1 b_range (qa_cons (qe_op d_add qe_int (qe_calF k__law_draw (hr.mono (by decide)) (qa_cons (qe_var 0) (qa_cons qe_int qa_nil)))) qa_nil)) (blk_of (N := ["_law_box", "_law_most", "_law_same", "_law_things", "_law_k"]) (sc := defScope s__law_any) (by decide +kernel)) (fun s H C cl fp => (qg_name 4 nd)) (fun s H C cl fp => qts_nil) (fun s H C cl fp => (qe_calF k__law_draw (hr.mono (by decide)) (qa_cons (qe_var 0) (qa_cons (qe_callB (o_len hu) rfl b_len (by decide +kernel) (qa_cons (qe_var 3) qa_nil)) qa_nil))))) qa_nil))))))) q__law_any
theorem sc__law_text : FnScope ["_law_graph", "_law_lines", "_law_root", "_law_k", "_law_line", "_law_pair"] ["_law_graph"] (defScope s__law_text) := ⟨rfl, rfl, rfl, by decide +kernel, rfl, by decide +kernel, by decide +kernel⟩
theorem ok__law_text {f : Addr} {fd : FuncData} (F : Fun K "_law_text" "_law_text" s__law_text f fd) (b_str : mg "str" = none) (b_range : mg "range" = none) (b_len : mg "len" = none) (b_isinstance : mg "isinstance" = none) (b_tuple : mg "tuple" = none) : FnOk P w K mg base CX0 1 f fd ["_law_graph"] (lSp ⟨P, w, K⟩ 1 sp__law_text) :=
  fn_ok (t := t__law_text) F sc__law_text (fun X hX hr => by
    have hu := hr.units
    have hu2 : X.A.units + 65 < cLine := by have := hr.un; omega
    have nd : (["_law_graph", "_law_lines", "_law_root", "_law_k", "_law_line", "_law_pair"] : List Str).Nodup := sc__law_text.nd
    obtain ⟨cdv, A, outer, s, H, E, rfl⟩ := hX
    exact (qs_cons (qs_set 1 nd (qe_lst (qa_cons (qe_str [114, 111, 111, 116, 115] rfl rfl) qa_nil)))
      (qs_cons (qs_for (vs := [2]) PassesOwn.never rfl (qi_list (qe_ix (o_ix hu) (qe_var 0) qe_int)) (qg_name 2 nd) (qs_one (qs_sub (o_st hu) (qe_op d_add (qe_op d_add (qe_ix (o_ix hu) (qe_var 1) qe_int) (qe_str [32] rfl rfl)) (qe_callTy c_str rfl b_str (by decide +kernel) (qa_cons (qe_var 2) qa_nil))) (qe_var 1) qe_int)))
      (qs_cons (qs_for (vs := [3]) PassesOwn.never rfl (qi_range1 b_range (qa_cons (qe_callB (o_len hu) rfl b_len (by decide +kernel) (qa_cons (qe_ix (o_ix hu) (qe_var 0) qe_int) qa_nil)) qa_nil)) (qg_name 3 nd) (qs_cons (qs_set 4 nd (qe_op d_add (qe_callTy c_str rfl b_str (by decide +kernel) (qa_cons (qe_var 3) qa_nil)) (qe_str [58] rfl rfl)))
      (qs_cons (qs_for (vs := [5]) PassesOwn.never rfl (qi_list (qe_ix (o_ix hu) (qe_ix (o_ix hu) (qe_var 0) qe_int) (qe_var 3))) (qg_name 5 nd) (qs_cons (qs_set 4 nd (qe_op d_add (qe_op d_add (qe_op d_add (qe_var 4) (qe_str [32] rfl rfl)) (qe_ix (o_ix hu) (qe_var 5) qe_int)) (qe_str [61] rfl rfl)))
      (qs_one (qs_if (qt_truth (qe_isi (qe_ix (o_ix hu) (qe_var 5) qe_int) okT_tuple rfl b_isinstance rfl b_tuple (by decide +kernel))) (qs_one (qs_set 4 nd (qe_op d_add (qe_op d_add (qe_var 4) (qe_str [35] rfl rfl)) (qe_callTy c_str rfl b_str (by decide +kernel) (qa_cons (qe_ix (o_ix hu) (qe_ix (o_ix hu) (qe_var 5) qe_int) qe_int) qa_nil))))) (qs_one (qs_if (qt_truth (qe_isi (qe_ix (o_ix hu) (qe_var 5) qe_int) okT_str rfl b_isinstance rfl b_str (by decide +kernel))) (qs_one (qs_set 4 nd (qe_op d_add (qe_op d_add (qe_op d_add (qe_var 4) (qe_str [34] rfl rfl)) (qe_ix (o_ix hu) (qe_var 5) qe_int)) (qe_str [34] rfl rfl)))) (qs_one (qs_set 4 nd (qe_op d_add (qe_var 4) (qe_callTy c_str rfl b_str (by decide +kernel) (qa_cons (qe_ix (o_ix hu) (qe_var 5) qe_int) qa_nil)))))))))))
      (qs_one (qs_expr (qe_append (qe_var 1) (qa_cons (qe_var 4) qa_nil)))))))
      (qs_one (qs_ret (qe_var 1))))))) q__law_text
theorem sc_target_of : FnScope ["value"] ["value"] (defScope s_target_of) := ⟨rfl, rfl, rfl, by decide +kernel, rfl, by decide +kernel, by decide +kernel⟩
theorem ok_target_of {f : Addr} {fd : FuncData} (F : Fun K "target_of" "target_of" s_target_of f fd) (b_isinstance : mg "isinstance" = none) (b_tuple : mg "tuple" = none) : FnOk P w K mg base CX0 1 f fd ["value"] (lSp ⟨P, w, K⟩ 1 sp_target_of) :=
  fn_ok (t := t_target_of) F sc_target_of (fun X hX hr => by
    have hu := hr.units
    have hu2 : X.A.units + 65 < cLine := by have := hr.un; omega
    have nd : (["value"] : List Str).Nodup := sc_target_of.nd
    obtain ⟨cdv, A, outer, s, H, E, rfl⟩ := hX
    exact (qs_cons (qs_if (qt_truth (qe_isi (qe_var 0) okT_tuple rfl b_isinstance rfl b_tuple (by decide +kernel))) (qs_one (qs_ret (qe_ix (o_ix hu) (qe_var 0) qe_int))) qs_nil)
      (qs_one (qs_ret qe_non)))) q_target_of
theorem sc_is_reference : FnScope ["value"] ["value"] (defScope s_is_reference) := ⟨rfl, rfl, rfl, by decide +kernel, rfl, by decide +kernel, by decide +kernel⟩
theorem ok_is_reference {f : Addr} {fd : FuncData} (F : Fun K "is_reference" "is_reference" s_is_reference f fd) (k_target_of : CalF P w K mg base "target_of" 1 1 ["value"] sp_target_of) : FnOk P w K mg base CX0 2 f fd ["value"] (lSp ⟨P, w, K⟩ 1 sp_is_reference) :=
  fn_ok (t := t_is_reference) F sc_is_reference (fun X hX hr => by
    have hu := hr.units
    have hu2 : X.A.units + 65 < cLine := by have := hr.un; omega
    have nd : (["value"] : List Str).Nodup := sc_is_reference.nd
    obtain ⟨cdv, A, outer, s, H, E, rfl⟩ := hX
    exact (qs_one (qs_ret (qe_cmp d_isnot (qe_calF k_target_of (hr.mono (by decide)) (qa_cons (qe_var 0) qa_nil)) qe_non)))) q_is_reference
theorem sc_format_value : FnScope ["value"] ["value"] (defScope s_format_value) := ⟨rfl, rfl, rfl, by decide +kernel, rfl, by decide +kernel, by decide +kernel⟩
theorem ok_format_value {f : Addr} {fd : FuncData} (F : Fun K "format_value" "format_value" s_format_value f fd) (k_is_reference : CalF P w K mg base "is_reference" 2 1 ["value"] sp_is_reference) (b_str : mg "str" = none) (b_isinstance : mg "isinstance" = none) (g_MARK : GlobD K mg "MARK" (.str [35])) (g_QUOTE : GlobD K mg "QUOTE" (.str [34])) : FnOk P w K mg base CX0 3 f fd ["value"] (lSp ⟨P, w, K⟩ 1 sp_format_value) :=
  fn_ok (t := t_format_value) F sc_format_value (fun X hX hr => by
    have hu := hr.units
    have hu2 : X.A.units + 65 < cLine := by have := hr.un; omega
    have nd : (["value"] : List Str).Nodup := sc_format_value.nd
    obtain ⟨cdv, A, outer, s, H, E, rfl⟩ := hX
    exact (qs_cons (qs_if (qt_truth (qe_calF k_is_reference (hr.mono (by decide)) (qa_cons (qe_var 0) qa_nil))) (qs_one (qs_ret (qe_op d_add (qe_glob g_MARK) (qe_callTy c_str rfl b_str (by decide +kernel) (qa_cons (qe_ix (o_ix hu) (qe_var 0) qe_int) qa_nil))))) qs_nil)
      (qs_cons (qs_if (qt_truth (qe_isi (qe_var 0) okT_str rfl b_isinstance rfl b_str (by decide +kernel))) (qs_one (qs_ret (qe_op d_add (qe_op d_add (qe_glob g_QUOTE) (qe_var 0)) (qe_glob g_QUOTE)))) qs_nil)
      (qs_one (qs_ret (qe_callTy c_str rfl b_str (by decide +kernel) (qa_cons (qe_var 0) qa_nil))))))) q_format_value
theorem sc_format_thing : FnScope ["number", "fields", "words", "field", "value"] ["number", "fields"] (defScope s_format_thing) := ⟨rfl, rfl, rfl, by decide +kernel, rfl, by decide +kernel, by decide +kernel⟩
theorem ok_format_thing {f : Addr} {fd : FuncData} (F : Fun K "format_thing" "format_thing" s_format_thing f fd) (k_format_value : CalF P w K mg base "format_value" 3 1 ["value"] sp_format_value) (b_str : mg "str" = none) : FnOk P w K mg base CX0 4 f fd ["number", "fields"] (lSp ⟨P, w, K⟩ 2 sp_format_thing) :=
  fn_ok (t := t_format_thing) F sc_format_thing (fun X hX hr => by
    have hu := hr.units
    have hu2 : X.A.units + 65 < cLine := by have := hr.un; omega
    have nd : (["number", "fields", "words", "field", "value"] : List Str).Nodup := sc_format_thing.nd
    obtain ⟨cdv, A, outer, s, H, E, rfl⟩ := hX
    exact (qs_cons (by first | exact (qs_set 2 nd (qe_lc [("field", 3), ("value", 4)] rfl nd (qi_list (qe_var 1)) (blk_of (N := ["number", "fields", "words", "field", "value"]) (sc := defScope s_format_thing) (by decide +kernel)) (fun s H C cl fp => (qg_tupB rfl (qgs_cons (qg_name 3 nd) (qgs_cons (qg_name 4 nd) qgs_nil)) (len_name (len_name len_nil)))) (fun s H C cl fp => qts_nil) (fun s H C cl fp => (qe_op d_add (qe_op d_add (qe_var 3) (qe_str [61] rfl rfl)) (qe_calF k_format_value (hr.mono (by decide)) (qa_cons (qe_var 4) qa_nil)))))) | exact (qs_setLc 2 [("field", 3), ("value", 4)] rfl nd (qi_list (qe_var 1)) (blk_of (N := ["number", "fields", "words", "field", "value"]) (sc := defScope s_format_thing) (by decide +kernel)) (fun s H C cl fp => (qg_tupB rfl (qgs_cons (qg_name 3 nd) (qgs_cons (qg_name 4 nd) qgs_nil)) (len_name (len_name len_nil)))) (fun s H C cl fp => qts_nil) (fun s H C cl fp => (qe_op d_add (qe_op d_add (qe_var 3) (qe_str [61] rfl rfl)) (qe_calF k_format_value (hr.mono (by decide)) (qa_cons (qe_var 4) qa_nil)))) rfl))
      (qs_one (qs_ret (qe_join (qe_str [32] rfl rfl) (qa_cons (qe_op d_add (qe_lst (qa_cons (qe_op d_add (qe_callTy c_str rfl b_str (by decide +kernel) (qa_cons (qe_var 0) qa_nil)) (qe_str [58] rfl rfl)) qa_nil)) (qe_var 2)) qa_nil)))))) q_format_thing
theorem sc_format_graph : FnScope ["graph", "roots", "things", "lines", "number", "fields", "root"] ["graph"] (defScope s_format_graph) := ⟨rfl, rfl, rfl, by decide +kernel, rfl, by decide +kernel, by decide +kernel⟩
theorem ok_format_graph {f : Addr} {fd : FuncData} (F : Fun K "format_graph" "format_graph" s_format_graph f fd) (k_format_thing : CalF P w K mg base "format_thing" 4 2 ["number", "fields"] sp_format_thing) (b_str : mg "str" = none) (b_enumerate : mg "enumerate" = none) (g_ROOTS : GlobD K mg "ROOTS" (.str [114, 111, 111, 116, 115])) : FnOk P w K mg base CX0 5 f fd ["graph"] (lSp ⟨P, w, K⟩ 1 sp_format_graph) :=
  fn_ok (t := t_format_graph) F sc_format_graph (fun X hX hr => by
    have hu := hr.units
    have hu2 : X.A.units + 65 < cLine := by have := hr.un; omega
    have nd : (["graph", "roots", "things", "lines", "number", "fields", "root"] : List Str).Nodup := sc_format_graph.nd
    obtain ⟨cdv, A, outer, s, H, E, rfl⟩ := hX
    exact (qs_cons (qs_asg (vs := [1, 2]) (qe_var 0) (qg_tup rfl (qgs_cons (qg_name 1 nd) (qgs_cons (qg_name 2 nd) qgs_nil)) (len_name (len_name len_nil))))
      (qs_cons (qs_set 3 nd (qe_lst (qa_cons (qe_join (qe_str [32] rfl rfl) (qa_cons (qe_op d_add (qe_lst (qa_cons (qe_glob g_ROOTS) qa_nil)) (qe_lc [("root", 6)] rfl nd (qi_list (qe_var 1)) (blk_of (N := ["graph", "roots", "things", "lines", "number", "fields", "root"]) (sc := defScope s_format_graph) (by decide +kernel)) (fun s H C cl fp => (qg_name 6 nd)) (fun s H C cl fp => qts_nil) (fun s H C cl fp => (qe_callTy c_str rfl b_str (by decide +kernel) (qa_cons (qe_var 6) qa_nil))))) qa_nil)) qa_nil)))
      (qs_one (qs_ret (qe_join (qe_str [10] rfl rfl) (qa_cons (qe_op d_add (qe_var 3) (qe_lc [("number", 4), ("fields", 5)] rfl nd (qi_enum b_enumerate (qa_cons (qe_var 2) qa_nil)) (blk_of (N := ["graph", "roots", "things", "lines", "number", "fields", "root"]) (sc := defScope s_format_graph) (by decide +kernel)) (fun s H C cl fp => (qg_tupB rfl (qgs_cons (qg_name 4 nd) (qgs_cons (qg_name 5 nd) qgs_nil)) (len_name (len_name len_nil)))) (fun s H C cl fp => qts_nil) (fun s H C cl fp => (qe_calF k_format_thing (hr.mono (by decide)) (qa_cons (qe_var 4) (qa_cons (qe_var 5) qa_nil)))))) qa_nil))))))) q_format_graph
theorem sc_Lines___init__ : FnScope ["self"] ["self"] (defScope s_Lines___init__) := ⟨rfl, rfl, rfl, by decide +kernel, rfl, by decide +kernel, by decide +kernel⟩
theorem ok_Lines___init__ {f : Addr} {fd : FuncData} (F : Fun K "__init__" "Lines.__init__" s_Lines___init__ f fd) (c_Lines : Cls K C_Lines) (n_Lines_known : NoAttr K C_Lines (PySem.Str.ofString "known")) : FnOk P w K mg base CX0 1 f fd ["self"] (lSp ⟨P, w, K⟩ 1 (sp_Lines___init__ C_Lines)) :=
  fn_ok (t := t_Lines___init__ C_Lines) F sc_Lines___init__ (fun X hX hr => by
    have hu := hr.units
    have hu2 : X.A.units + 65 < cLine := by have := hr.un; omega
    have nd : (["self"] : List Str).Nodup := sc_Lines___init__.nd
    obtain ⟨cdv, A, outer, s, H, E, rfl⟩ := hX
    exact (qs_one (qs_fld "known" c_Lines n_Lines_known (qe_var 0) qe_int))) q_Lines___init__
theorem sc_natural : FnScope ["word"] ["word"] (defScope s_natural) := ⟨rfl, rfl, rfl, by decide +kernel, rfl, by decide +kernel, by decide +kernel⟩
theorem ok_natural {f : Addr} {oc : Value} {od an : Option Addr} {osl : Array (Option Value)} {kV doc pm cdv ct : Value} (lk : K.lookup f = some ⟨oc, od, .func (PySem.W.fnOf "natural" "natural" (defArgs s_natural) (defBody s_natural) (defScope s_natural) .none kV doc pm an cdv ct), osl⟩) (hc : PySem.W.codeIn K cdv "natural" = true) (TB : GxR.TabB base mg c_T C_T) (hcode : cdv = .ref c_T) (b_len : mg "len" = none) (b_all : mg "all" = none) (b_int : mg "int" = none) (g_LONGEST : GlobD K mg "LONGEST" (.int 8)) (g_FIGURES : GlobD K mg "FIGURES" (.str [48, 49, 50, 51, 52, 53, 54, 55, 56, 57])) : FnOk P w K mg base CX0 1 f (PySem.W.fnOf "natural" "natural" (defArgs s_natural) (defBody s_natural) (defScope s_natural) .none kV doc pm an cdv ct) ["word"] (lSp ⟨P, w, K⟩ 1 (sp_natural C_T)) :=
  fn_okC (t := t_natural C_T) lk hc sc_natural (fun X hX hr => by
    have hu := hr.units
    have hu2 : X.A.units + 65 < cLine := by have := hr.un; omega
    have nd : (["word"] : List Str).Nodup := sc_natural.nd
    obtain ⟨A, outer, s, H, E, rfl⟩ := hX
    exact (qs_cons (qs_if (qt_w (qw_or (qt_cmp (o_eq hu) (qe_var 0) (qe_str [] rfl rfl)) (qw_or (qt_cmp (o_gt hu) (qe_callB (o_len hu) rfl b_len (by decide +kernel) (qa_cons (qe_var 0) qa_nil)) (qe_glob g_LONGEST)) (qw_or (qt_not (qt_truth (qe_all hr b_all TB hcode (qe_var 0) (elt_inG g_FIGURES) ⟨rfl, rfl, by decide, rfl, rfl, fun y hy h => absurd h ((by decide : ∀ y ∈ _, y.2 ≠ NameKind.free) y hy)⟩))) (qw_or1 (qt_w (qw_and (qt_cmp (o_eq hu) (qe_ix (o_ix hu) (qe_var 0) qe_int) (qe_str [48] rfl rfl)) (qw_and1 (qt_cmp (o_ne hu) (qe_var 0) (qe_str [48] rfl rfl)))))))))) (qs_one qs_never) qs_nil)
      (qs_one (qs_ret (qe_callTy c_intT rfl b_int (by decide +kernel) (qa_cons (qe_var 0) qa_nil)))))) q_natural
theorem sc_Lines_thing : FnScope ["self", "word", "number"] ["self", "word"] (defScope s_Lines_thing) := ⟨rfl, rfl, rfl, by decide +kernel, rfl, by decide +kernel, by decide +kernel⟩
theorem ok_Lines_thing {f : Addr} {fd : FuncData} (F : Fun K "thing" "Lines.thing" s_Lines_thing f fd) (c_Lines : Cls K C_Lines) (n_Lines_known : NoAttr K C_Lines (PySem.Str.ofString "known")) (k_natural : CalF P w K mg base "natural" 1 1 ["word"] (sp_natural C_T)) (b_max : mg "max" = none) : FnOk P w K mg base CX0 2 f fd ["self", "word"] (lSp ⟨P, w, K⟩ 2 (sp_Lines_thing C_Lines C_T)) :=
  fn_ok (t := t_Lines_thing C_Lines C_T) F sc_Lines_thing (fun X hX hr => by
    have hu := hr.units
    have hu2 : X.A.units + 65 < cLine := by have := hr.un; omega
    have nd : (["self", "word", "number"] : List Str).Nodup := sc_Lines_thing.nd
    obtain ⟨cdv, A, outer, s, H, E, rfl⟩ := hX
    exact (qs_cons (qs_set 2 nd (qe_calF k_natural (hr.mono (by decide)) (qa_cons (qe_var 1) qa_nil)))
      (qs_cons (qs_if (qt_cmp (o_gt hu) (qe_var 2) (qe_fld "known" c_Lines n_Lines_known (qe_var 0))) (qs_one qs_never) qs_nil)
      (qs_cons (qs_fld "known" c_Lines n_Lines_known (qe_var 0) (qe_callB (c_max rfl) rfl b_max (by decide +kernel) (qa_cons (qe_fld "known" c_Lines n_Lines_known (qe_var 0)) (qa_cons (qe_op d_add (qe_var 2) qe_int) qa_nil))))
      (qs_one (qs_ret (qe_var 2))))))) q_Lines_thing
theorem sc_Lines_roots : FnScope ["self", "line", "words", "word"] ["self", "line"] (defScope s_Lines_roots) := ⟨rfl, rfl, rfl, by decide +kernel, rfl, by decide +kernel, by decide +kernel⟩
theorem ok_Lines_roots {f : Addr} {fd : FuncData} (F : Fun K "roots" "Lines.roots" s_Lines_roots f fd) (k_Lines_thing : MetF P w K mg base C_Lines "thing" 2 2 ["self", "word"] (sp_Lines_thing C_Lines C_T)) (g_ROOTS : GlobD K mg "ROOTS" (.str [114, 111, 111, 116, 115])) : FnOk P w K mg base CX0 3 f fd ["self", "line"] (lSp ⟨P, w, K⟩ 2 (sp_Lines_roots C_Lines C_T)) :=
  fn_ok (t := t_Lines_roots C_Lines C_T) F sc_Lines_roots (fun X hX hr => by
    have hu := hr.units
    have hu2 : X.A.units + 65 < cLine := by have := hr.un; omega
    have nd : (["self", "line", "words", "word"] : List Str).Nodup := sc_Lines_roots.nd
    obtain ⟨cdv, A, outer, s, H, E, rfl⟩ := hX
    exact (qs_cons (qs_set 2 nd (qe_split (qe_var 1) (qa_cons (qe_str [32] rfl rfl) qa_nil)))
      (qs_cons (qs_if (qt_cmp (o_ne hu) (qe_ix (o_ix hu) (qe_var 2) qe_int) (qe_glob g_ROOTS)) (qs_one qs_never) qs_nil)
      (qs_one (qs_ret (qe_lc [("word", 3)] rfl nd (qi_list (qe_slice (qe_var 2) (qo_some qe_int) qo_none)) (blk_of (N := ["self", "line", "words", "word"]) (sc := defScope s_Lines_roots) (by decide +kernel)) (fun s H C cl fp => (qg_name 3 nd)) (fun s H C cl fp => qts_nil) (fun s H C cl fp => (qe_metF "thing" k_Lines_thing (hr.mono (by decide)) (qe_var 0) (qa_cons (qe_var 3) qa_nil))))))))) q_Lines_roots
theorem sc_is_word : FnScope ["text", "most"] ["text", "most"] (defScope s_is_word) := ⟨rfl, rfl, rfl, by decide +kernel, rfl, by decide +kernel, by decide +kernel⟩
theorem ok_is_word {f : Addr} {oc : Value} {od an : Option Addr} {osl : Array (Option Value)} {kV doc pm cdv ct : Value} (lk : K.lookup f = some ⟨oc, od, .func (PySem.W.fnOf "is_word" "is_word" (defArgs s_is_word) (defBody s_is_word) (defScope s_is_word) .none kV doc pm an cdv ct), osl⟩) (hc : PySem.W.codeIn K cdv "is_word" = true) (TB : GxR.TabB base mg c_U C_U) (hcode : cdv = .ref c_U) (b_len : mg "len" = none) (b_all : mg "all" = none) (g_LETTERS : GlobD K mg "LETTERS" (.str [97, 98, 99, 100, 101, 102, 103, 104, 105, 106, 107, 108, 109, 110, 111, 112, 113, 114, 115, 116, 117, 118, 119, 120, 121, 122])) : FnOk P w K mg base CX0 1 f (PySem.W.fnOf "is_word" "is_word" (defArgs s_is_word) (defBody s_is_word) (defScope s_is_word) .none kV doc pm an cdv ct) ["text", "most"] (lSp ⟨P, w, K⟩ 2 (sp_is_word C_U)) :=
  fn_okC (t := t_is_word C_U) lk hc sc_is_word (fun X hX hr => by
    have hu := hr.units
    have hu2 : X.A.units + 65 < cLine := by have := hr.un; omega
    have nd : (["text", "most"] : List Str).Nodup := sc_is_word.nd
    obtain ⟨A, outer, s, H, E, rfl⟩ := hX
    exact (qs_one (qs_ret (qe_and (qe_cmp (o_le hu) (qe_callB (o_len hu) rfl b_len (by decide +kernel) (qa_cons (qe_var 0) qa_nil)) (qe_var 1)) (qe_one (qe_all hr b_all TB hcode (qe_var 0) (elt_inG g_LETTERS) ⟨rfl, rfl, by decide, rfl, rfl, fun y hy h => absurd h ((by decide : ∀ y ∈ _, y.2 ≠ NameKind.free) y hy)⟩)))))) q_is_word
theorem sc_is_field : FnScope ["text"] ["text"] (defScope s_is_field) := ⟨rfl, rfl, rfl, by decide +kernel, rfl, by decide +kernel, by decide +kernel⟩
theorem ok_is_field {f : Addr} {fd : FuncData} (F : Fun K "is_field" "is_field" s_is_field f fd) (k_is_word : CalF P w K mg base "is_word" 1 2 ["text", "most"] (sp_is_word C_U)) (b_len : mg "len" = none) (g_FIELD_MOST : GlobD K mg "FIELD_MOST" (.int 8)) : FnOk P w K mg base CX0 2 f fd ["text"] (lSp ⟨P, w, K⟩ 1 (sp_is_field C_U)) :=
  fn_ok (t := t_is_field C_U) F sc_is_field (fun X hX hr => by
    have hu := hr.units
    have hu2 : X.A.units + 65 < cLine := by have := hr.un; omega
    have nd : (["text"] : List Str).Nodup := sc_is_field.nd
    obtain ⟨cdv, A, outer, s, H, E, rfl⟩ := hX
    exact (qs_one (qs_ret (qe_and (qe_cmp (o_gt hu) (qe_callB (o_len hu) rfl b_len (by decide +kernel) (qa_cons (qe_var 0) qa_nil)) qe_int) (qe_one (qe_calF k_is_word (hr.mono (by decide)) (qa_cons (qe_var 0) (qa_cons (qe_glob g_FIELD_MOST) qa_nil)))))))) q_is_field
theorem sc_Lines_value : FnScope ["self", "word", "number"] ["self", "word"] (defScope s_Lines_value) := ⟨rfl, rfl, rfl, by decide +kernel, rfl, by decide +kernel, by decide +kernel⟩
theorem ok_Lines_value {f : Addr} {fd : FuncData} (F : Fun K "value" "Lines.value" s_Lines_value f fd) (k_is_word : CalF P w K mg base "is_word" 1 2 ["text", "most"] (sp_is_word C_U)) (k_natural : CalF P w K mg base "natural" 1 1 ["word"] (sp_natural C_T)) (k_Lines_thing : MetF P w K mg base C_Lines "thing" 2 2 ["self", "word"] (sp_Lines_thing C_Lines C_T)) (b_len : mg "len" = none) (b_abs : mg "abs" = none) (g_MARK : GlobD K mg "MARK" (.str [35])) (g_REF : GlobD K mg "REF" (.str [114, 101, 102])) (g_QUOTE : GlobD K mg "QUOTE" (.str [34])) (g_TEXT_MOST : GlobD K mg "TEXT_MOST" (.int 20)) (g_INTEGER_MOST : GlobD K mg "INTEGER_MOST" (.int 1000000)) : FnOk P w K mg base CX0 3 f fd ["self", "word"] (lSp ⟨P, w, K⟩ 2 (sp_Lines_value C_Lines C_T C_U)) :=
  fn_ok (t := t_Lines_value C_Lines C_T C_U) F sc_Lines_value (fun X hX hr => by
    have hu := hr.units
    have hu2 : X.A.units + 65 < cLine := by have := hr.un; omega
    have nd : (["self", "word", "number"] : List Str).Nodup := sc_Lines_value.nd
    obtain ⟨cdv, A, outer, s, H, E, rfl⟩ := hX
    exact (qs_cons (qs_if (qt_cmp (o_eq hu) (qe_slice (qe_var 1) qo_none (qo_some qe_int)) (qe_glob g_MARK)) (qs_one (qs_ret (qe_tup (qa_cons (qe_glob g_REF) (qa_cons (qe_metF "thing" k_Lines_thing (hr.mono (by decide)) (qe_var 0) (qa_cons (qe_slice (qe_var 1) (qo_some qe_int) qo_none) qa_nil)) qa_nil))))) qs_nil)
      (qs_cons (qs_if (qt_cmp (o_eq hu) (qe_slice (qe_var 1) qo_none (qo_some qe_int)) (qe_glob g_QUOTE)) (qs_cons (qs_if (qt_w (qw_or (qt_cmp (o_lt hu) (qe_callB (o_len hu) rfl b_len (by decide +kernel) (qa_cons (qe_var 1) qa_nil)) qe_int) (qw_or (qt_cmp (o_ne hu) (qe_ix (o_ix hu) (qe_var 1) (qe_un d_neg qe_int)) (qe_glob g_QUOTE)) (qw_or1 (qt_not (qt_truth (qe_calF k_is_word (hr.mono (by decide)) (qa_cons (qe_slice (qe_var 1) (qo_some qe_int) (qo_some (qe_un d_neg qe_int))) (qa_cons (qe_glob g_TEXT_MOST) qa_nil))))))))) (qs_one qs_never) qs_nil)
      (qs_one (qs_ret (qe_slice (qe_var 1) (qo_some qe_int) (qo_some (qe_un d_neg qe_int)))))) qs_nil)
      (qs_cons (qs_if (qt_cmp (o_eq hu) (qe_slice (qe_var 1) qo_none (qo_some qe_int)) (qe_str [45] rfl rfl)) (qs_one (qs_set 2 nd (qe_un d_neg (qe_calF k_natural (hr.mono (by decide)) (qa_cons (qe_slice (qe_var 1) (qo_some qe_int) qo_none) qa_nil))))) (qs_one (qs_set 2 nd (qe_calF k_natural (hr.mono (by decide)) (qa_cons (qe_var 1) qa_nil)))))
      (qs_cons (qs_if (qt_w (qw_or (qt_cmp (o_gt hu) (qe_callB c_abs rfl b_abs (by decide +kernel) (qa_cons (qe_var 2) qa_nil)) (qe_glob g_INTEGER_MOST)) (qw_or1 (qt_cmp (o_eq hu) (qe_var 1) (qe_str [45, 48] rfl rfl))))) (qs_one qs_never) qs_nil)
      (qs_one (qs_ret (qe_var 2)))))))) q_Lines_value
theorem sc_Lines_fields : FnScope ["self", "words", "found", "word", "parts"] ["self", "words"] (defScope s_Lines_fields) := ⟨rfl, rfl, rfl, by decide +kernel, rfl, by decide +kernel, by decide +kernel⟩
theorem ok_Lines_fields {f : Addr} {fd : FuncData} (F : Fun K "fields" "Lines.fields" s_Lines_fields f fd) (k_is_field : CalF P w K mg base "is_field" 2 1 ["text"] (sp_is_field C_U)) (k_Lines_value : MetF P w K mg base C_Lines "value" 3 2 ["self", "word"] (sp_Lines_value C_Lines C_T C_U)) (b_len : mg "len" = none) : FnOk P w K mg base CX0 4 f fd ["self", "words"] (lSp ⟨P, w, K⟩ 2 (sp_Lines_fields C_Lines C_T C_U)) :=
  fn_ok (t := t_Lines_fields C_Lines C_T C_U) F sc_Lines_fields (fun X hX hr => by
    have hu := hr.units
    have hu2 : X.A.units + 65 < cLine := by have := hr.un; omega
    have nd : (["self", "words", "found", "word", "parts"] : List Str).Nodup := sc_Lines_fields.nd
    obtain ⟨cdv, A, outer, s, H, E, rfl⟩ := hX
    exact (qs_cons (qs_set 2 nd (qe_lst qa_nil))
      (qs_cons (qs_for (vs := [3]) PassesOwn.never rfl (qi_list (qe_var 1)) (qg_name 3 nd) (qs_cons (qs_set 4 nd (qe_split (qe_var 3) (qa_cons (qe_str [61] rfl rfl) qa_nil)))
      (qs_cons (qs_if (qt_w (qw_or (qt_cmp (o_ne hu) (qe_callB (o_len hu) rfl b_len (by decide +kernel) (qa_cons (qe_var 4) qa_nil)) qe_int) (qw_or (qt_not (qt_truth (qe_calF k_is_field (hr.mono (by decide)) (qa_cons (qe_ix (o_ix hu) (qe_var 4) qe_int) qa_nil)))) (qw_or1 (qt_w (qw_and (qt_truth (qe_var 2)) (qw_and1 (qt_cmp (o_le hu) (qe_ix (o_ix hu) (qe_var 4) qe_int) (qe_ix (o_ix hu) (qe_ix (o_ix hu) (qe_var 2) (qe_un d_neg qe_int)) qe_int))))))))) (qs_one qs_never) qs_nil)
      (qs_one (qs_expr (qe_append (qe_var 2) (qa_cons (qe_tup (qa_cons (qe_ix (o_ix hu) (qe_var 4) qe_int) (qa_cons (qe_metF "value" k_Lines_value (hr.mono (by decide)) (qe_var 0) (qa_cons (qe_ix (o_ix hu) (qe_var 4) qe_int) qa_nil)) qa_nil))) qa_nil)))))))
      (qs_one (qs_ret (qe_var 2)))))) q_Lines_fields
theorem sc_Lines_line : FnScope ["self", "number", "line", "words"] ["self", "number", "line"] (defScope s_Lines_line) := ⟨rfl, rfl, rfl, by decide +kernel, rfl, by decide +kernel, by decide +kernel⟩
theorem ok_Lines_line {f : Addr} {fd : FuncData} (F : Fun K "line" "Lines.line" s_Lines_line f fd) (c_Lines : Cls K C_Lines) (n_Lines_known : NoAttr K C_Lines (PySem.Str.ofString "known")) (k_Lines_fields : MetF P w K mg base C_Lines "fields" 4 2 ["self", "words"] (sp_Lines_fields C_Lines C_T C_U)) (b_str : mg "str" = none) : FnOk P w K mg base CX0 5 f fd ["self", "number", "line"] (lSp ⟨P, w, K⟩ 3 (sp_Lines_line C_Lines C_T C_U)) :=
  fn_ok (t := t_Lines_line C_Lines C_T C_U) F sc_Lines_line (fun X hX hr => by
    have hu := hr.units
    have hu2 : X.A.units + 65 < cLine := by have := hr.un; omega
    have nd : (["self", "number", "line", "words"] : List Str).Nodup := sc_Lines_line.nd
    obtain ⟨cdv, A, outer, s, H, E, rfl⟩ := hX
    exact (qs_cons (qs_set 3 nd (qe_split (qe_var 2) (qa_cons (qe_str [32] rfl rfl) qa_nil)))
      (qs_cons (qs_if (qt_w (qw_or (qt_cmp (o_ge hu) (qe_var 1) (qe_fld "known" c_Lines n_Lines_known (qe_var 0))) (qw_or1 (qt_cmp (o_ne hu) (qe_ix (o_ix hu) (qe_var 3) qe_int) (qe_op d_add (qe_callTy c_str rfl b_str (by decide +kernel) (qa_cons (qe_var 1) qa_nil)) (qe_str [58] rfl rfl)))))) (qs_one qs_never) qs_nil)
      (qs_one (qs_ret (qe_metF "fields" k_Lines_fields (hr.mono (by decide)) (qe_var 0) (qa_cons (qe_slice (qe_var 3) (qo_some qe_int) qo_none) qa_nil))))))) q_Lines_line
theorem sc_parse_graph : FnScope ["text", "reader", "roots", "things", "lines", "number", "line"] ["text"] (defScope s_parse_graph) := ⟨rfl, rfl, rfl, by decide +kernel, rfl, by decide +kernel, by decide +kernel⟩
theorem ok_parse_graph {f : Addr} {fd : FuncData} (F : Fun K "parse_graph" "parse_graph" s_parse_graph f fd) (c_Lines : Cls K C_Lines) (n_Lines_known : NoAttr K C_Lines (PySem.Str.ofString "known")) (k_Lines___init__ : MakF P w K mg base C_Lines "Lines" 1 1 ["self"] (sp_Lines___init__ C_Lines)) (k_Lines_roots : MetF P w K mg base C_Lines "roots" 3 2 ["self", "line"] (sp_Lines_roots C_Lines C_T)) (k_Lines_line : MetF P w K mg base C_Lines "line" 5 3 ["self", "number", "line"] (sp_Lines_line C_Lines C_T C_U)) (b_enumerate : mg "enumerate" = none) (b_len : mg "len" = none) (e_WrongLine : ExcK K C_WrongLine) (m_WrongLine : mg "WrongLine" = some (.ref C_WrongLine)) : FnOk P w K mg base CX0 6 f fd ["text"] (lSp ⟨P, w, K⟩ 1 (sp_parse_graph C_Lines C_T C_U)) :=
  fn_ok0 (t := t_parse_graph C_Lines C_T C_U) F sc_parse_graph (fun X hX hr => by
    have hu := hr.units
    have hu2 : X.A.units + 65 < cLine := by have := hr.un; omega
    have nd : (["text", "reader", "roots", "things", "lines", "number", "line"] : List Str).Nodup := sc_parse_graph.nd
    obtain ⟨cdv, A, outer, s, H, E, rfl⟩ := hX
    exact (qss0_cons (qs0_of (qs_set 1 nd (qe_makF0 k_Lines___init__ (hr.mono (by decide)))))
      (qss0_cons (qs0_of (qs_set 2 nd (qe_lst qa_nil)))
      (qss0_cons (qs0_of (qs_set 3 nd (qe_lst qa_nil)))
      (qss0_cons (qs0_of (qs_set 4 nd (qe_split (qe_var 0) (qa_cons (qe_str [10] rfl rfl) qa_nil))))
      (qss0_cons (qs0_for (vs := [5, 6]) PassesOwn.never rfl (qi0_enum b_enumerate (qa_cons (qe_var 4) qa_nil)) (qg_tup rfl (qgs_cons (qg_name 5 nd) (qgs_cons (qg_name 6 nd) qgs_nil)) (len_name (len_name len_nil))) (qss0_one (qs0_try_only rfl rfl takesD0 ⟨rfl, by decide, .inl m_WrongLine⟩ allN_nil (fun W1 pn xe tk1 po => (qss0_of (qs_one (qs_if (qt_cmp (o_eq hu) (qe_var 5) qe_int) (qs_one (qs_set 2 nd (qe_metF "roots" k_Lines_roots (hr.mono (by decide)) (qe_var 1) (qa_cons (qe_var 6) qa_nil)))) (qs_one (qs_expr (qe_append (qe_var 3) (qa_cons (qe_metF "line" k_Lines_line (hr.mono (by decide)) (qe_var 1) (qa_cons (qe_op d_sub (qe_var 5) qe_int) (qa_cons (qe_var 6) qa_nil))) qa_nil)))))))) allS_nil)))
      (qss0_cons (qs0_of (qs_if (qt_cmp (o_lt hu) (qe_callB (o_len hu) rfl b_len (by decide +kernel) (qa_cons (qe_var 3) qa_nil)) (qe_fld "known" c_Lines n_Lines_known (qe_var 1))) (qs_one qs_never) qs_nil))
      (qss0_one (qs0_of (qs_ret (qe_tup (qa_cons (qe_var 2) (qa_cons (qe_var 3) qa_nil))))))))))))) q_parse_graph
theorem sc_law : FnScope ["_law_script", "_law_box", "_law_graph", "_law_text_here", "_law_told"] ["_law_script"] (defScope s_law) := ⟨rfl, rfl, rfl, by decide +kernel, rfl, by decide +kernel, by decide +kernel⟩
theorem ok_law {f : Addr} {fd : FuncData} (F : Fun K "law" "law" s_law f fd) (k__law_digits : CalF P w K mg base "_law_digits" 2 3 ["_law_script", "_law_first", "_law_last"] sp__law_digits) (k__law_any : CalF P w K mg base "_law_any" 4 3 ["_law_box", "_law_most", "_law_same"] sp__law_any) (k__law_text : CalF P w K mg base "_law_text" 1 1 ["_law_graph"] sp__law_text) (k_format_graph : CalF P w K mg base "format_graph" 5 1 ["graph"] sp_format_graph) (k_parse_graph : CalF P w K mg base "parse_graph" 6 1 ["text"] (sp_parse_graph C_Lines C_T C_U)) (k_format_value : CalF P w K mg base "format_value" 3 1 ["value"] sp_format_value) (b_isinstance : mg "isinstance" = none) (b_tuple : mg "tuple" = none) : FnOk P w K mg base CX0 7 f fd ["_law_script"] (lSp ⟨P, w, K⟩ 1 (sp_lawT2 C_T C_U)) :=
  fn_ok (t := t_law C_Lines C_T C_U) F sc_law (fun X hX hr => by
    have hu := hr.units
    have hu2 : X.A.units + 65 < cLine := by have := hr.un; omega
    have nd : (["_law_script", "_law_box", "_law_graph", "_law_text_here", "_law_told"] : List Str).Nodup := sc_law.nd
    obtain ⟨cdv, A, outer, s, H, E, rfl⟩ := hX
    exact (qs_cons (qs_set 1 nd (qe_lst (qa_cons (qe_calF k__law_digits (hr.mono (by decide)) (qa_cons (qe_var 0) (qa_cons qe_int (qa_cons qe_int qa_nil)))) (qa_cons qe_int qa_nil))))
      (qs_cons (qs_set 2 nd (qe_calF k__law_any (hr.mono (by decide)) (qa_cons (qe_var 1) (qa_cons qe_int (qa_cons qe_int qa_nil)))))
      (qs_cons (qs_set 3 nd (qe_join (qe_str [10] rfl rfl) (qa_cons (qe_calF k__law_text (hr.mono (by decide)) (qa_cons (qe_var 2) qa_nil)) qa_nil)))
      (qs_cons (qs_if (qt_cmp (o_ne hu) (qe_calF k_format_graph (hr.mono (by decide)) (qa_cons (qe_var 2) qa_nil)) (qe_var 3)) (qs_one (qs_ret qe_bl)) qs_nil)
      (qs_cons (qs_set 4 nd (qe_calF k_parse_graph (hr.mono (by decide)) (qa_cons (qe_var 3) qa_nil)))
      (qs_cons (qs_if (qt_w (qw_or (qt_not (qt_truth (qe_isi (qe_var 4) okT_tuple rfl b_isinstance rfl b_tuple (by decide +kernel)))) (qw_or (qt_cmp (o_ne hu) (qe_var 4) (qe_var 2)) (qw_or1 (qt_cmp (o_ne hu) (qe_calF k_format_graph (hr.mono (by decide)) (qa_cons (qe_var 4) qa_nil)) (qe_var 3)))))) (qs_one (qs_ret qe_bl)) qs_nil)
      (qs_cons (qs_if (qt_w (qw_or (qt_cmp (o_ne hu) (qe_calF k_parse_graph (hr.mono (by decide)) (qa_cons (qe_str [114, 111, 111, 116, 115] rfl rfl) qa_nil)) (qe_tup (qa_cons (qe_lst qa_nil) (qa_cons (qe_lst qa_nil) qa_nil)))) (qw_or1 (qt_cmp (o_ne hu) (qe_calF k_format_graph (hr.mono (by decide)) (qa_cons (qe_tup (qa_cons (qe_lst qa_nil) (qa_cons (qe_lst qa_nil) qa_nil))) qa_nil)) (qe_str [114, 111, 111, 116, 115] rfl rfl))))) (qs_one (qs_ret qe_bl)) qs_nil)
      (qs_one (qs_ret (qe_and (qe_cmp (o_eq hu) (qe_calF k_format_value (hr.mono (by decide)) (qa_cons (qe_tup (qa_cons (qe_str [114, 101, 102] rfl rfl) (qa_cons qe_int qa_nil))) qa_nil)) (qe_str [35, 55] rfl rfl)) (qe_and (qe_cmp (o_eq hu) (qe_calF k_format_value (hr.mono (by decide)) (qa_cons (qe_str [97, 98] rfl rfl) qa_nil)) (qe_str [34, 97, 98, 34] rfl rfl)) (qe_one (qe_cmp (o_eq hu) (qe_calF k_format_value (hr.mono (by decide)) (qa_cons (qe_un d_neg qe_int) qa_nil)) (qe_str [45, 53] rfl rfl))))))))))))))) q_law
end
theorem all_mk {l : PySem.W.OpenLaw} {w : World} {K : PySem.W.Frag} {h : Heap} {mg : Str → Option Value} {fa C_Lines C_T C_U C_WrongLine c_T c_U f__law_cell f__law_digits f__law_draw f__law_plain f__law_drawn f__law_reached f__law_any f__law_text f_target_of f_is_reference f_format_value f_format_thing f_format_graph f_Lines___init__ f_natural f_Lines_thing f_Lines_roots f_is_word f_is_field f_Lines_value f_Lines_fields f_Lines_line f_parse_graph f_law : Addr} (X : K.In h) (G : h.Ns mainGlobals mg) (hfa : mg "law" = some (.ref fa)) (ht_T : ∃ (a : Addr) (o : Obj) (fd : FuncData), mg "natural" = some (.ref a) ∧ h.get? a = some o ∧ o.data = .func fd ∧ fd.code = .ref c_T) (ht_U : ∃ (a : Addr) (o : Obj) (fd : FuncData), mg "is_word" = some (.ref a) ∧ h.get? a = some o ∧ o.data = .func fd ∧ fd.code = .ref c_U)
    {tg_FIELD_MOST tg_FIGURES tg_INTEGER_MOST tg_LETTERS tg_LONGEST tg_MARK tg_QUOTE tg_REF tg_ROOTS tg_TEXT_MOST : _}
    {oc__law_cell kV__law_cell dc__law_cell pm__law_cell cd__law_cell ct__law_cell : Value} {od__law_cell an__law_cell : Option Addr} {sl__law_cell : Array (Option Value)}
    {oc__law_digits kV__law_digits dc__law_digits pm__law_digits cd__law_digits ct__law_digits : Value} {od__law_digits an__law_digits : Option Addr} {sl__law_digits : Array (Option Value)}
    {oc__law_draw kV__law_draw dc__law_draw pm__law_draw cd__law_draw ct__law_draw : Value} {od__law_draw an__law_draw : Option Addr} {sl__law_draw : Array (Option Value)}
    {oc__law_plain kV__law_plain dc__law_plain pm__law_plain cd__law_plain ct__law_plain : Value} {od__law_plain an__law_plain : Option Addr} {sl__law_plain : Array (Option Value)}
    {oc__law_drawn kV__law_drawn dc__law_drawn pm__law_drawn cd__law_drawn ct__law_drawn : Value} {od__law_drawn an__law_drawn : Option Addr} {sl__law_drawn : Array (Option Value)}
    {oc__law_reached kV__law_reached dc__law_reached pm__law_reached cd__law_reached ct__law_reached : Value} {od__law_reached an__law_reached : Option Addr} {sl__law_reached : Array (Option Value)}
    {oc__law_any kV__law_any dc__law_any pm__law_any cd__law_any ct__law_any : Value} {od__law_any an__law_any : Option Addr} {sl__law_any : Array (Option Value)}
    {oc__law_text kV__law_text dc__law_text pm__law_text cd__law_text ct__law_text : Value} {od__law_text an__law_text : Option Addr} {sl__law_text : Array (Option Value)}
    {oc_target_of kV_target_of dc_target_of pm_target_of cd_target_of ct_target_of : Value} {od_target_of an_target_of : Option Addr} {sl_target_of : Array (Option Value)}
    {oc_is_reference kV_is_reference dc_is_reference pm_is_reference cd_is_reference ct_is_reference : Value} {od_is_reference an_is_reference : Option Addr} {sl_is_reference : Array (Option Value)}
    {oc_format_value kV_format_value dc_format_value pm_format_value cd_format_value ct_format_value : Value} {od_format_value an_format_value : Option Addr} {sl_format_value : Array (Option Value)}
    {oc_format_thing kV_format_thing dc_format_thing pm_format_thing cd_format_thing ct_format_thing : Value} {od_format_thing an_format_thing : Option Addr} {sl_format_thing : Array (Option Value)}
    {oc_format_graph kV_format_graph dc_format_graph pm_format_graph cd_format_graph ct_format_graph : Value} {od_format_graph an_format_graph : Option Addr} {sl_format_graph : Array (Option Value)}
    {oc_Lines___init__ kV_Lines___init__ dc_Lines___init__ pm_Lines___init__ cd_Lines___init__ ct_Lines___init__ : Value} {od_Lines___init__ an_Lines___init__ : Option Addr} {sl_Lines___init__ : Array (Option Value)}
    {oc_natural kV_natural dc_natural pm_natural cd_natural ct_natural : Value} {od_natural an_natural : Option Addr} {sl_natural : Array (Option Value)}
    {oc_Lines_thing kV_Lines_thing dc_Lines_thing pm_Lines_thing cd_Lines_thing ct_Lines_thing : Value} {od_Lines_thing an_Lines_thing : Option Addr} {sl_Lines_thing : Array (Option Value)}
    {oc_Lines_roots kV_Lines_roots dc_Lines_roots pm_Lines_roots cd_Lines_roots ct_Lines_roots : Value} {od_Lines_roots an_Lines_roots : Option Addr} {sl_Lines_roots : Array (Option Value)}
    {oc_is_word kV_is_word dc_is_word pm_is_word cd_is_word ct_is_word : Value} {od_is_word an_is_word : Option Addr} {sl_is_word : Array (Option Value)}
    {oc_is_field kV_is_field dc_is_field pm_is_field cd_is_field ct_is_field : Value} {od_is_field an_is_field : Option Addr} {sl_is_field : Array (Option Value)}
    {oc_Lines_value kV_Lines_value dc_Lines_value pm_Lines_value cd_Lines_value ct_Lines_value : Value} {od_Lines_value an_Lines_value : Option Addr} {sl_Lines_value : Array (Option Value)}
    {oc_Lines_fields kV_Lines_fields dc_Lines_fields pm_Lines_fields cd_Lines_fields ct_Lines_fields : Value} {od_Lines_fields an_Lines_fields : Option Addr} {sl_Lines_fields : Array (Option Value)}
    {oc_Lines_line kV_Lines_line dc_Lines_line pm_Lines_line cd_Lines_line ct_Lines_line : Value} {od_Lines_line an_Lines_line : Option Addr} {sl_Lines_line : Array (Option Value)}
    {oc_parse_graph kV_parse_graph dc_parse_graph pm_parse_graph cd_parse_graph ct_parse_graph : Value} {od_parse_graph an_parse_graph : Option Addr} {sl_parse_graph : Array (Option Value)}
    {oc_law kV_law dc_law pm_law cd_law ct_law : Value} {od_law an_law : Option Addr} {sl_law : Array (Option Value)}
    (aC_Lines : PySem.W.nsIn K mainGlobals "Lines" = some (some (.ref C_Lines)))
    (pg_Lines : PySem.W.plainGet K C_Lines Str.empty = true)
    (hd_Lines : PySem.W.hasDictIn K C_Lines = true)
    (po_Lines : PySem.W.plainOver K C_Lines = true)
    (sa_Lines : PySem.W.findIn K (.ref C_Lines) "__setattr__" = some (some (.builtin "object.__setattr__")))
    (mk_Lines : PySem.W.makesIn K C_Lines = true)
    (kc_Lines : PySem.W.keepIn K (.ref C_Lines) = true)
    (n_Lines_known : PySem.W.findIn K (.ref C_Lines) (PySem.Str.ofString "known") = some none)
    (aC_WrongLine : PySem.W.nsIn K mainGlobals "WrongLine" = some (some (.ref C_WrongLine)))
    (ga_WrongLine : PySem.W.findIn K (.ref C_WrongLine) "__getattribute__" = some (some (.builtin "BaseException.__getattribute__")))
    (gg_WrongLine : PySem.W.findIn K (.ref C_WrongLine) "__getattr__" = some none)
    (sb_WrongLine : PySem.W.subIn K (.ref C_WrongLine) (.type "BaseException") = some true)
    (hd_WrongLine : PySem.W.hasDictIn K C_WrongLine = true)
    (cl_WrongLine : PySem.W.findIn K (.ref C_WrongLine) "__class__" = some (some (.builtin "object.__class__")))
    (ob_WrongLine : PySem.W.mroIn K C_WrongLine (.type "object") = some true)
    (ty_WrongLine : PySem.W.typeIn K (.ref C_WrongLine) = some (.type "type"))
    (sf_WrongLine : PySem.W.subIn K (.ref C_WrongLine) (.ref C_WrongLine) = some true)
    (xget : PySem.W.specialIn K (.builtin "object.__class__") "__get__" = some (some (.builtin "getset_descriptor.__get__")))
    (xtk : PySem.W.takesIn K (.builtin "object.__class__") = some true)
    (z_abs : PySem.W.nsIn K mainGlobals "abs" = some none)
    (z_all : PySem.W.nsIn K mainGlobals "all" = some none)
    (z_enumerate : PySem.W.nsIn K mainGlobals "enumerate" = some none)
    (z_int : PySem.W.nsIn K mainGlobals "int" = some none)
    (z_isinstance : PySem.W.nsIn K mainGlobals "isinstance" = some none)
    (z_len : PySem.W.nsIn K mainGlobals "len" = some none)
    (z_max : PySem.W.nsIn K mainGlobals "max" = some none)
    (z_range : PySem.W.nsIn K mainGlobals "range" = some none)
    (z_str : PySem.W.nsIn K mainGlobals "str" = some none)
    (z_tuple : PySem.W.nsIn K mainGlobals "tuple" = some none)
    (w_FIELD_MOST : PySem.W.nsIn K mainGlobals "FIELD_MOST" = some (some (.int 8 tg_FIELD_MOST)))
    (w_FIGURES : PySem.W.nsIn K mainGlobals "FIGURES" = some (some (.str ⟨([48, 49, 50, 51, 52, 53, 54, 55, 56, 57] : List Nat).toArray⟩ tg_FIGURES)))
    (w_INTEGER_MOST : PySem.W.nsIn K mainGlobals "INTEGER_MOST" = some (some (.int 1000000 tg_INTEGER_MOST)))
    (w_LETTERS : PySem.W.nsIn K mainGlobals "LETTERS" = some (some (.str ⟨([97, 98, 99, 100, 101, 102, 103, 104, 105, 106, 107, 108, 109, 110, 111, 112, 113, 114, 115, 116, 117, 118, 119, 120, 121, 122] : List Nat).toArray⟩ tg_LETTERS)))
    (w_LONGEST : PySem.W.nsIn K mainGlobals "LONGEST" = some (some (.int 8 tg_LONGEST)))
    (w_MARK : PySem.W.nsIn K mainGlobals "MARK" = some (some (.str ⟨([35] : List Nat).toArray⟩ tg_MARK)))
    (w_QUOTE : PySem.W.nsIn K mainGlobals "QUOTE" = some (some (.str ⟨([34] : List Nat).toArray⟩ tg_QUOTE)))
    (w_REF : PySem.W.nsIn K mainGlobals "REF" = some (some (.str ⟨([114, 101, 102] : List Nat).toArray⟩ tg_REF)))
    (w_ROOTS : PySem.W.nsIn K mainGlobals "ROOTS" = some (some (.str ⟨([114, 111, 111, 116, 115] : List Nat).toArray⟩ tg_ROOTS)))
    (w_TEXT_MOST : PySem.W.nsIn K mainGlobals "TEXT_MOST" = some (some (.int 20 tg_TEXT_MOST)))
    (a__law_cell : PySem.W.nsIn K mainGlobals "_law_cell" = some (some (.ref f__law_cell)))
    (l__law_cell : K.lookup f__law_cell = some ⟨oc__law_cell, od__law_cell, .func (PySem.W.fnOf "_law_cell" "_law_cell" (defArgs s__law_cell) (defBody s__law_cell) (defScope s__law_cell) .none kV__law_cell dc__law_cell pm__law_cell an__law_cell cd__law_cell ct__law_cell), sl__law_cell⟩)
    (c__law_cell : PySem.W.codeIn K cd__law_cell "_law_cell" = true)
    (k__law_cell : PySem.W.keepIn K (.ref f__law_cell) = true)
    (a__law_digits : PySem.W.nsIn K mainGlobals "_law_digits" = some (some (.ref f__law_digits)))
    (l__law_digits : K.lookup f__law_digits = some ⟨oc__law_digits, od__law_digits, .func (PySem.W.fnOf "_law_digits" "_law_digits" (defArgs s__law_digits) (defBody s__law_digits) (defScope s__law_digits) .none kV__law_digits dc__law_digits pm__law_digits an__law_digits cd__law_digits ct__law_digits), sl__law_digits⟩)
    (c__law_digits : PySem.W.codeIn K cd__law_digits "_law_digits" = true)
    (k__law_digits : PySem.W.keepIn K (.ref f__law_digits) = true)
    (a__law_draw : PySem.W.nsIn K mainGlobals "_law_draw" = some (some (.ref f__law_draw)))
    (l__law_draw : K.lookup f__law_draw = some ⟨oc__law_draw, od__law_draw, .func (PySem.W.fnOf "_law_draw" "_law_draw" (defArgs s__law_draw) (defBody s__law_draw) (defScope s__law_draw) .none kV__law_draw dc__law_draw pm__law_draw an__law_draw cd__law_draw ct__law_draw), sl__law_draw⟩)
    (c__law_draw : PySem.W.codeIn K cd__law_draw "_law_draw" = true)
    (k__law_draw : PySem.W.keepIn K (.ref f__law_draw) = true)
    (a__law_plain : PySem.W.nsIn K mainGlobals "_law_plain" = some (some (.ref f__law_plain)))
    (l__law_plain : K.lookup f__law_plain = some ⟨oc__law_plain, od__law_plain, .func (PySem.W.fnOf "_law_plain" "_law_plain" (defArgs s__law_plain) (defBody s__law_plain) (defScope s__law_plain) .none kV__law_plain dc__law_plain pm__law_plain an__law_plain cd__law_plain ct__law_plain), sl__law_plain⟩)
    (c__law_plain : PySem.W.codeIn K cd__law_plain "_law_plain" = true)
    (k__law_plain : PySem.W.keepIn K (.ref f__law_plain) = true)
    (a__law_drawn : PySem.W.nsIn K mainGlobals "_law_drawn" = some (some (.ref f__law_drawn)))
    (l__law_drawn : K.lookup f__law_drawn = some ⟨oc__law_drawn, od__law_drawn, .func (PySem.W.fnOf "_law_drawn" "_law_drawn" (defArgs s__law_drawn) (defBody s__law_drawn) (defScope s__law_drawn) .none kV__law_drawn dc__law_drawn pm__law_drawn an__law_drawn cd__law_drawn ct__law_drawn), sl__law_drawn⟩)
    (c__law_drawn : PySem.W.codeIn K cd__law_drawn "_law_drawn" = true)
    (k__law_drawn : PySem.W.keepIn K (.ref f__law_drawn) = true)
    (a__law_reached : PySem.W.nsIn K mainGlobals "_law_reached" = some (some (.ref f__law_reached)))
    (l__law_reached : K.lookup f__law_reached = some ⟨oc__law_reached, od__law_reached, .func (PySem.W.fnOf "_law_reached" "_law_reached" (defArgs s__law_reached) (defBody s__law_reached) (defScope s__law_reached) .none kV__law_reached dc__law_reached pm__law_reached an__law_reached cd__law_reached ct__law_reached), sl__law_reached⟩)
    (c__law_reached : PySem.W.codeIn K cd__law_reached "_law_reached" = true)
    (k__law_reached : PySem.W.keepIn K (.ref f__law_reached) = true)
    (a__law_any : PySem.W.nsIn K mainGlobals "_law_any" = some (some (.ref f__law_any)))
    (l__law_any : K.lookup f__law_any = some ⟨oc__law_any, od__law_any, .func (PySem.W.fnOf "_law_any" "_law_any" (defArgs s__law_any) (defBody s__law_any) (defScope s__law_any) .none kV__law_any dc__law_any pm__law_any an__law_any cd__law_any ct__law_any), sl__law_any⟩)
    (c__law_any : PySem.W.codeIn K cd__law_any "_law_any" = true)
    (k__law_any : PySem.W.keepIn K (.ref f__law_any) = true)
    (a__law_text : PySem.W.nsIn K mainGlobals "_law_text" = some (some (.ref f__law_text)))
    (l__law_text : K.lookup f__law_text = some ⟨oc__law_text, od__law_text, .func (PySem.W.fnOf "_law_text" "_law_text" (defArgs s__law_text) (defBody s__law_text) (defScope s__law_text) .none kV__law_text dc__law_text pm__law_text an__law_text cd__law_text ct__law_text), sl__law_text⟩)
    (c__law_text : PySem.W.codeIn K cd__law_text "_law_text" = true)
    (k__law_text : PySem.W.keepIn K (.ref f__law_text) = true)
    (a_target_of : PySem.W.nsIn K mainGlobals "target_of" = some (some (.ref f_target_of)))
    (l_target_of : K.lookup f_target_of = some ⟨oc_target_of, od_target_of, .func (PySem.W.fnOf "target_of" "target_of" (defArgs s_target_of) (defBody s_target_of) (defScope s_target_of) .none kV_target_of dc_target_of pm_target_of an_target_of cd_target_of ct_target_of), sl_target_of⟩)
    (c_target_of : PySem.W.codeIn K cd_target_of "target_of" = true)
    (k_target_of : PySem.W.keepIn K (.ref f_target_of) = true)
    (a_is_reference : PySem.W.nsIn K mainGlobals "is_reference" = some (some (.ref f_is_reference)))
    (l_is_reference : K.lookup f_is_reference = some ⟨oc_is_reference, od_is_reference, .func (PySem.W.fnOf "is_reference" "is_reference" (defArgs s_is_reference) (defBody s_is_reference) (defScope s_is_reference) .none kV_is_reference dc_is_reference pm_is_reference an_is_reference cd_is_reference ct_is_reference), sl_is_reference⟩)
    (c_is_reference : PySem.W.codeIn K cd_is_reference "is_reference" = true)
    (k_is_reference : PySem.W.keepIn K (.ref f_is_reference) = true)
    (a_format_value : PySem.W.nsIn K mainGlobals "format_value" = some (some (.ref f_format_value)))
    (l_format_value : K.lookup f_format_value = some ⟨oc_format_value, od_format_value, .func (PySem.W.fnOf "format_value" "format_value" (defArgs s_format_value) (defBody s_format_value) (defScope s_format_value) .none kV_format_value dc_format_value pm_format_value an_format_value cd_format_value ct_format_value), sl_format_value⟩)
    (c_format_value : PySem.W.codeIn K cd_format_value "format_value" = true)
    (k_format_value : PySem.W.keepIn K (.ref f_format_value) = true)
    (a_format_thing : PySem.W.nsIn K mainGlobals "format_thing" = some (some (.ref f_format_thing)))
    (l_format_thing : K.lookup f_format_thing = some ⟨oc_format_thing, od_format_thing, .func (PySem.W.fnOf "format_thing" "format_thing" (defArgs s_format_thing) (defBody s_format_thing) (defScope s_format_thing) .none kV_format_thing dc_format_thing pm_format_thing an_format_thing cd_format_thing ct_format_thing), sl_format_thing⟩)
    (c_format_thing : PySem.W.codeIn K cd_format_thing "format_thing" = true)
    (k_format_thing : PySem.W.keepIn K (.ref f_format_thing) = true)
    (a_format_graph : PySem.W.nsIn K mainGlobals "format_graph" = some (some (.ref f_format_graph)))
    (l_format_graph : K.lookup f_format_graph = some ⟨oc_format_graph, od_format_graph, .func (PySem.W.fnOf "format_graph" "format_graph" (defArgs s_format_graph) (defBody s_format_graph) (defScope s_format_graph) .none kV_format_graph dc_format_graph pm_format_graph an_format_graph cd_format_graph ct_format_graph), sl_format_graph⟩)
    (c_format_graph : PySem.W.codeIn K cd_format_graph "format_graph" = true)
    (k_format_graph : PySem.W.keepIn K (.ref f_format_graph) = true)
    (a_Lines___init__ : PySem.W.findIn K (.ref C_Lines) "__init__" = some (some (.ref f_Lines___init__)))
    (i_Lines___init__ : PySem.W.isFn K (.ref f_Lines___init__) = true)
    (l_Lines___init__ : K.lookup f_Lines___init__ = some ⟨oc_Lines___init__, od_Lines___init__, .func (PySem.W.fnOf "__init__" "Lines.__init__" (defArgs s_Lines___init__) (defBody s_Lines___init__) (defScope s_Lines___init__) .none kV_Lines___init__ dc_Lines___init__ pm_Lines___init__ an_Lines___init__ cd_Lines___init__ ct_Lines___init__), sl_Lines___init__⟩)
    (c_Lines___init__ : PySem.W.codeIn K cd_Lines___init__ "Lines.__init__" = true)
    (k_Lines___init__ : PySem.W.keepIn K (.ref f_Lines___init__) = true)
    (a_natural : PySem.W.nsIn K mainGlobals "natural" = some (some (.ref f_natural)))
    (l_natural : K.lookup f_natural = some ⟨oc_natural, od_natural, .func (PySem.W.fnOf "natural" "natural" (defArgs s_natural) (defBody s_natural) (defScope s_natural) .none kV_natural dc_natural pm_natural an_natural cd_natural ct_natural), sl_natural⟩)
    (c_natural : PySem.W.codeIn K cd_natural "natural" = true)
    (k_natural : PySem.W.keepIn K (.ref f_natural) = true)
    (a_Lines_thing : PySem.W.findIn K (.ref C_Lines) "thing" = some (some (.ref f_Lines_thing)))
    (i_Lines_thing : PySem.W.isFn K (.ref f_Lines_thing) = true)
    (l_Lines_thing : K.lookup f_Lines_thing = some ⟨oc_Lines_thing, od_Lines_thing, .func (PySem.W.fnOf "thing" "Lines.thing" (defArgs s_Lines_thing) (defBody s_Lines_thing) (defScope s_Lines_thing) .none kV_Lines_thing dc_Lines_thing pm_Lines_thing an_Lines_thing cd_Lines_thing ct_Lines_thing), sl_Lines_thing⟩)
    (c_Lines_thing : PySem.W.codeIn K cd_Lines_thing "Lines.thing" = true)
    (k_Lines_thing : PySem.W.keepIn K (.ref f_Lines_thing) = true)
    (a_Lines_roots : PySem.W.findIn K (.ref C_Lines) "roots" = some (some (.ref f_Lines_roots)))
    (i_Lines_roots : PySem.W.isFn K (.ref f_Lines_roots) = true)
    (l_Lines_roots : K.lookup f_Lines_roots = some ⟨oc_Lines_roots, od_Lines_roots, .func (PySem.W.fnOf "roots" "Lines.roots" (defArgs s_Lines_roots) (defBody s_Lines_roots) (defScope s_Lines_roots) .none kV_Lines_roots dc_Lines_roots pm_Lines_roots an_Lines_roots cd_Lines_roots ct_Lines_roots), sl_Lines_roots⟩)
    (c_Lines_roots : PySem.W.codeIn K cd_Lines_roots "Lines.roots" = true)
    (k_Lines_roots : PySem.W.keepIn K (.ref f_Lines_roots) = true)
    (a_is_word : PySem.W.nsIn K mainGlobals "is_word" = some (some (.ref f_is_word)))
    (l_is_word : K.lookup f_is_word = some ⟨oc_is_word, od_is_word, .func (PySem.W.fnOf "is_word" "is_word" (defArgs s_is_word) (defBody s_is_word) (defScope s_is_word) .none kV_is_word dc_is_word pm_is_word an_is_word cd_is_word ct_is_word), sl_is_word⟩)
    (c_is_word : PySem.W.codeIn K cd_is_word "is_word" = true)
    (k_is_word : PySem.W.keepIn K (.ref f_is_word) = true)
    (a_is_field : PySem.W.nsIn K mainGlobals "is_field" = some (some (.ref f_is_field)))
    (l_is_field : K.lookup f_is_field = some ⟨oc_is_field, od_is_field, .func (PySem.W.fnOf "is_field" "is_field" (defArgs s_is_field) (defBody s_is_field) (defScope s_is_field) .none kV_is_field dc_is_field pm_is_field an_is_field cd_is_field ct_is_field), sl_is_field⟩)
    (c_is_field : PySem.W.codeIn K cd_is_field "is_field" = true)
    (k_is_field : PySem.W.keepIn K (.ref f_is_field) = true)
    (a_Lines_value : PySem.W.findIn K (.ref C_Lines) "value" = some (some (.ref f_Lines_value)))
    (i_Lines_value : PySem.W.isFn K (.ref f_Lines_value) = true)
    (l_Lines_value : K.lookup f_Lines_value = some ⟨oc_Lines_value, od_Lines_value, .func (PySem.W.fnOf "value" "Lines.value" (defArgs s_Lines_value) (defBody s_Lines_value) (defScope s_Lines_value) .none kV_Lines_value dc_Lines_value pm_Lines_value an_Lines_value cd_Lines_value ct_Lines_value), sl_Lines_value⟩)
    (c_Lines_value : PySem.W.codeIn K cd_Lines_value "Lines.value" = true)
    (k_Lines_value : PySem.W.keepIn K (.ref f_Lines_value) = true)
    (a_Lines_fields : PySem.W.findIn K (.ref C_Lines) "fields" = some (some (.ref f_Lines_fields)))
    (i_Lines_fields : PySem.W.isFn K (.ref f_Lines_fields) = true)
    (l_Lines_fields : K.lookup f_Lines_fields = some ⟨oc_Lines_fields, od_Lines_fields, .func (PySem.W.fnOf "fields" "Lines.fields" (defArgs s_Lines_fields) (defBody s_Lines_fields) (defScope s_Lines_fields) .none kV_Lines_fields dc_Lines_fields pm_Lines_fields an_Lines_fields cd_Lines_fields ct_Lines_fields), sl_Lines_fields⟩)
    (c_Lines_fields : PySem.W.codeIn K cd_Lines_fields "Lines.fields" = true)
    (k_Lines_fields : PySem.W.keepIn K (.ref f_Lines_fields) = true)
    (a_Lines_line : PySem.W.findIn K (.ref C_Lines) "line" = some (some (.ref f_Lines_line)))
    (i_Lines_line : PySem.W.isFn K (.ref f_Lines_line) = true)
    (l_Lines_line : K.lookup f_Lines_line = some ⟨oc_Lines_line, od_Lines_line, .func (PySem.W.fnOf "line" "Lines.line" (defArgs s_Lines_line) (defBody s_Lines_line) (defScope s_Lines_line) .none kV_Lines_line dc_Lines_line pm_Lines_line an_Lines_line cd_Lines_line ct_Lines_line), sl_Lines_line⟩)
    (c_Lines_line : PySem.W.codeIn K cd_Lines_line "Lines.line" = true)
    (k_Lines_line : PySem.W.keepIn K (.ref f_Lines_line) = true)
    (a_parse_graph : PySem.W.nsIn K mainGlobals "parse_graph" = some (some (.ref f_parse_graph)))
    (l_parse_graph : K.lookup f_parse_graph = some ⟨oc_parse_graph, od_parse_graph, .func (PySem.W.fnOf "parse_graph" "parse_graph" (defArgs s_parse_graph) (defBody s_parse_graph) (defScope s_parse_graph) .none kV_parse_graph dc_parse_graph pm_parse_graph an_parse_graph cd_parse_graph ct_parse_graph), sl_parse_graph⟩)
    (c_parse_graph : PySem.W.codeIn K cd_parse_graph "parse_graph" = true)
    (k_parse_graph : PySem.W.keepIn K (.ref f_parse_graph) = true)
    (a_law : PySem.W.nsIn K mainGlobals "law" = some (some (.ref f_law)))
    (l_law : K.lookup f_law = some ⟨oc_law, od_law, .func (PySem.W.fnOf "law" "law" (defArgs s_law) (defBody s_law) (defScope s_law) .none kV_law dc_law pm_law an_law cd_law ct_law), sl_law⟩)
    (c_law : PySem.W.codeIn K cd_law "law" = true)
    (k_law : PySem.W.keepIn K (.ref f_law) = true)
    : ∃ fd : FuncData, (∀ (s : Shared) (v : Value), BindsTo s fd ⟨[v], []⟩ [("_law_script", v)]) ∧ ∀ base : Heap, K.In base → base.Ns mainGlobals mg → GxR.TabB base mg c_T C_T → GxR.TabB base mg c_U C_U → FnOk l.prog w K mg base CX0 7 fa fd ["_law_script"] (lSp ⟨l.prog, w, K⟩ 1 (sp_lawT2 C_T C_U)) := by
  have e := hfa.symm.trans (PySem.W.mg_of X G a_law)
  cases e
  have c_Lines : Cls K C_Lines := ⟨pg_Lines, hd_Lines, po_Lines, sa_Lines⟩
  have m_WrongLine : mg "WrongLine" = some (.ref C_WrongLine) := PySem.W.mg_of X G aC_WrongLine
  have e_WrongLine : ExcK K C_WrongLine := ⟨ga_WrongLine, gg_WrongLine, sb_WrongLine, hd_WrongLine, cl_WrongLine, xget, xtk, ob_WrongLine, ty_WrongLine, sf_WrongLine⟩
  have b_abs : mg "abs" = none := PySem.W.mg_none_of X G z_abs
  have b_all : mg "all" = none := PySem.W.mg_none_of X G z_all
  have b_enumerate : mg "enumerate" = none := PySem.W.mg_none_of X G z_enumerate
  have b_int : mg "int" = none := PySem.W.mg_none_of X G z_int
  have b_isinstance : mg "isinstance" = none := PySem.W.mg_none_of X G z_isinstance
  have b_len : mg "len" = none := PySem.W.mg_none_of X G z_len
  have b_max : mg "max" = none := PySem.W.mg_none_of X G z_max
  have b_range : mg "range" = none := PySem.W.mg_none_of X G z_range
  have b_str : mg "str" = none := PySem.W.mg_none_of X G z_str
  have b_tuple : mg "tuple" = none := PySem.W.mg_none_of X G z_tuple
  have g_FIELD_MOST : GlobD K mg "FIELD_MOST" (.int 8) := ⟨_, .int 8, PySem.W.mg_of X G w_FIELD_MOST, ⟨_, rfl⟩, fun H => rfl⟩
  have g_FIGURES : GlobD K mg "FIGURES" (.str [48, 49, 50, 51, 52, 53, 54, 55, 56, 57]) := ⟨_, .str ⟨([48, 49, 50, 51, 52, 53, 54, 55, 56, 57] : List Nat).toArray⟩, PySem.W.mg_of X G w_FIGURES, ⟨_, rfl⟩, fun H => ⟨rfl, by decide⟩⟩
  have g_INTEGER_MOST : GlobD K mg "INTEGER_MOST" (.int 1000000) := ⟨_, .int 1000000, PySem.W.mg_of X G w_INTEGER_MOST, ⟨_, rfl⟩, fun H => rfl⟩
  have g_LETTERS : GlobD K mg "LETTERS" (.str [97, 98, 99, 100, 101, 102, 103, 104, 105, 106, 107, 108, 109, 110, 111, 112, 113, 114, 115, 116, 117, 118, 119, 120, 121, 122]) := ⟨_, .str ⟨([97, 98, 99, 100, 101, 102, 103, 104, 105, 106, 107, 108, 109, 110, 111, 112, 113, 114, 115, 116, 117, 118, 119, 120, 121, 122] : List Nat).toArray⟩, PySem.W.mg_of X G w_LETTERS, ⟨_, rfl⟩, fun H => ⟨rfl, by decide⟩⟩
  have g_LONGEST : GlobD K mg "LONGEST" (.int 8) := ⟨_, .int 8, PySem.W.mg_of X G w_LONGEST, ⟨_, rfl⟩, fun H => rfl⟩
  have g_MARK : GlobD K mg "MARK" (.str [35]) := ⟨_, .str ⟨([35] : List Nat).toArray⟩, PySem.W.mg_of X G w_MARK, ⟨_, rfl⟩, fun H => ⟨rfl, by decide⟩⟩
  have g_QUOTE : GlobD K mg "QUOTE" (.str [34]) := ⟨_, .str ⟨([34] : List Nat).toArray⟩, PySem.W.mg_of X G w_QUOTE, ⟨_, rfl⟩, fun H => ⟨rfl, by decide⟩⟩
  have g_REF : GlobD K mg "REF" (.str [114, 101, 102]) := ⟨_, .str ⟨([114, 101, 102] : List Nat).toArray⟩, PySem.W.mg_of X G w_REF, ⟨_, rfl⟩, fun H => ⟨rfl, by decide⟩⟩
  have g_ROOTS : GlobD K mg "ROOTS" (.str [114, 111, 111, 116, 115]) := ⟨_, .str ⟨([114, 111, 111, 116, 115] : List Nat).toArray⟩, PySem.W.mg_of X G w_ROOTS, ⟨_, rfl⟩, fun H => ⟨rfl, by decide⟩⟩
  have g_TEXT_MOST : GlobD K mg "TEXT_MOST" (.int 20) := ⟨_, .int 20, PySem.W.mg_of X G w_TEXT_MOST, ⟨_, rfl⟩, fun H => rfl⟩
  have F__law_cell := fun_mk (st := s__law_cell) l__law_cell c__law_cell k__law_cell
  have B__law_cell := F__law_cell.binds (ps := ["_law_script", "_law_k"]) fun _ _ _ _ _ _ us hl => match us, hl with | [_, _], _ => rfl
  have F__law_digits := fun_mk (st := s__law_digits) l__law_digits c__law_digits k__law_digits
  have B__law_digits := F__law_digits.binds (ps := ["_law_script", "_law_first", "_law_last"]) fun _ _ _ _ _ _ us hl => match us, hl with | [_, _, _], _ => rfl
  have F__law_draw := fun_mk (st := s__law_draw) l__law_draw c__law_draw k__law_draw
  have B__law_draw := F__law_draw.binds (ps := ["_law_box", "_law_many"]) fun _ _ _ _ _ _ us hl => match us, hl with | [_, _], _ => rfl
  have F__law_plain := fun_mk (st := s__law_plain) l__law_plain c__law_plain k__law_plain
  have B__law_plain := F__law_plain.binds (ps := ["_law_box"]) fun _ _ _ _ _ _ us hl => match us, hl with | [_], _ => rfl
  have F__law_drawn := fun_mk (st := s__law_drawn) l__law_drawn c__law_drawn k__law_drawn
  have B__law_drawn := F__law_drawn.binds (ps := ["_law_box", "_law_most", "_law_same"]) fun _ _ _ _ _ _ us hl => match us, hl with | [_, _, _], _ => rfl
  have F__law_reached := fun_mk (st := s__law_reached) l__law_reached c__law_reached k__law_reached
  have B__law_reached := F__law_reached.binds (ps := ["_law_things", "_law_roots"]) fun _ _ _ _ _ _ us hl => match us, hl with | [_, _], _ => rfl
  have F__law_any := fun_mk (st := s__law_any) l__law_any c__law_any k__law_any
  have B__law_any := F__law_any.binds (ps := ["_law_box", "_law_most", "_law_same"]) fun _ _ _ _ _ _ us hl => match us, hl with | [_, _, _], _ => rfl
  have F__law_text := fun_mk (st := s__law_text) l__law_text c__law_text k__law_text
  have B__law_text := F__law_text.binds (ps := ["_law_graph"]) fun _ _ _ _ _ _ us hl => match us, hl with | [_], _ => rfl
  have F_target_of := fun_mk (st := s_target_of) l_target_of c_target_of k_target_of
  have B_target_of := F_target_of.binds (ps := ["value"]) fun _ _ _ _ _ _ us hl => match us, hl with | [_], _ => rfl
  have F_is_reference := fun_mk (st := s_is_reference) l_is_reference c_is_reference k_is_reference
  have B_is_reference := F_is_reference.binds (ps := ["value"]) fun _ _ _ _ _ _ us hl => match us, hl with | [_], _ => rfl
  have F_format_value := fun_mk (st := s_format_value) l_format_value c_format_value k_format_value
  have B_format_value := F_format_value.binds (ps := ["value"]) fun _ _ _ _ _ _ us hl => match us, hl with | [_], _ => rfl
  have F_format_thing := fun_mk (st := s_format_thing) l_format_thing c_format_thing k_format_thing
  have B_format_thing := F_format_thing.binds (ps := ["number", "fields"]) fun _ _ _ _ _ _ us hl => match us, hl with | [_, _], _ => rfl
  have F_format_graph := fun_mk (st := s_format_graph) l_format_graph c_format_graph k_format_graph
  have B_format_graph := F_format_graph.binds (ps := ["graph"]) fun _ _ _ _ _ _ us hl => match us, hl with | [_], _ => rfl
  have F_Lines___init__ := fun_mk (st := s_Lines___init__) l_Lines___init__ c_Lines___init__ k_Lines___init__
  have B_Lines___init__ := F_Lines___init__.binds (ps := ["self"]) fun _ _ _ _ _ _ us hl => match us, hl with | [_], _ => rfl
  have F_natural := fun_mk (st := s_natural) l_natural c_natural k_natural
  have B_natural := F_natural.binds (ps := ["word"]) fun _ _ _ _ _ _ us hl => match us, hl with | [_], _ => rfl
  have F_Lines_thing := fun_mk (st := s_Lines_thing) l_Lines_thing c_Lines_thing k_Lines_thing
  have B_Lines_thing := F_Lines_thing.binds (ps := ["self", "word"]) fun _ _ _ _ _ _ us hl => match us, hl with | [_, _], _ => rfl
  have F_Lines_roots := fun_mk (st := s_Lines_roots) l_Lines_roots c_Lines_roots k_Lines_roots
  have B_Lines_roots := F_Lines_roots.binds (ps := ["self", "line"]) fun _ _ _ _ _ _ us hl => match us, hl with | [_, _], _ => rfl
  have F_is_word := fun_mk (st := s_is_word) l_is_word c_is_word k_is_word
  have B_is_word := F_is_word.binds (ps := ["text", "most"]) fun _ _ _ _ _ _ us hl => match us, hl with | [_, _], _ => rfl
  have F_is_field := fun_mk (st := s_is_field) l_is_field c_is_field k_is_field
  have B_is_field := F_is_field.binds (ps := ["text"]) fun _ _ _ _ _ _ us hl => match us, hl with | [_], _ => rfl
  have F_Lines_value := fun_mk (st := s_Lines_value) l_Lines_value c_Lines_value k_Lines_value
  have B_Lines_value := F_Lines_value.binds (ps := ["self", "word"]) fun _ _ _ _ _ _ us hl => match us, hl with | [_, _], _ => rfl
  have F_Lines_fields := fun_mk (st := s_Lines_fields) l_Lines_fields c_Lines_fields k_Lines_fields
  have B_Lines_fields := F_Lines_fields.binds (ps := ["self", "words"]) fun _ _ _ _ _ _ us hl => match us, hl with | [_, _], _ => rfl
  have F_Lines_line := fun_mk (st := s_Lines_line) l_Lines_line c_Lines_line k_Lines_line
  have B_Lines_line := F_Lines_line.binds (ps := ["self", "number", "line"]) fun _ _ _ _ _ _ us hl => match us, hl with | [_, _, _], _ => rfl
  have F_parse_graph := fun_mk (st := s_parse_graph) l_parse_graph c_parse_graph k_parse_graph
  have B_parse_graph := F_parse_graph.binds (ps := ["text"]) fun _ _ _ _ _ _ us hl => match us, hl with | [_], _ => rfl
  have F_law := fun_mk (st := s_law) l_law c_law k_law
  have B_law := F_law.binds (ps := ["_law_script"]) fun _ _ _ _ _ _ us hl => match us, hl with | [_], _ => rfl
  have hcode_T : cd_natural = .ref c_T := by
    obtain ⟨a, o, fd, e1, e2, e3, e4⟩ := ht_T
    have e5 := e1.symm.trans (PySem.W.mg_of X G a_natural)
    cases e5
    have e6 := X _ _ l_natural
    rw [e2] at e6
    cases e6
    cases e3
    exact e4
  have hcode_U : cd_is_word = .ref c_U := by
    obtain ⟨a, o, fd, e1, e2, e3, e4⟩ := ht_U
    have e5 := e1.symm.trans (PySem.W.mg_of X G a_is_word)
    cases e5
    have e6 := X _ _ l_is_word
    rw [e2] at e6
    cases e6
    cases e3
    exact e4
  have K__law_cell : ∀ base : Heap, GxR.TabB base mg c_T C_T → GxR.TabB base mg c_U C_U → CalF l.prog w K mg base "_law_cell" 1 2 ["_law_script", "_law_k"] sp__law_cell := fun base TB_T TB_U => ⟨f__law_cell, _, ok__law_cell F__law_cell b_len, PySem.W.mg_of X G a__law_cell, k__law_cell, B__law_cell⟩
  have K__law_digits : ∀ base : Heap, GxR.TabB base mg c_T C_T → GxR.TabB base mg c_U C_U → CalF l.prog w K mg base "_law_digits" 2 3 ["_law_script", "_law_first", "_law_last"] sp__law_digits := fun base TB_T TB_U => ⟨f__law_digits, _, ok__law_digits F__law_digits (K__law_cell base TB_T TB_U) b_range b_int, PySem.W.mg_of X G a__law_digits, k__law_digits, B__law_digits⟩
  have K__law_draw : ∀ base : Heap, GxR.TabB base mg c_T C_T → GxR.TabB base mg c_U C_U → CalF l.prog w K mg base "_law_draw" 1 2 ["_law_box", "_law_many"] sp__law_draw := fun base TB_T TB_U => ⟨f__law_draw, _, ok__law_draw F__law_draw b_len b_int, PySem.W.mg_of X G a__law_draw, k__law_draw, B__law_draw⟩
  have K__law_plain : ∀ base : Heap, GxR.TabB base mg c_T C_T → GxR.TabB base mg c_U C_U → CalF l.prog w K mg base "_law_plain" 2 1 ["_law_box"] sp__law_plain := fun base TB_T TB_U => ⟨f__law_plain, _, ok__law_plain F__law_plain (K__law_draw base TB_T TB_U), PySem.W.mg_of X G a__law_plain, k__law_plain, B__law_plain⟩
  have K__law_drawn : ∀ base : Heap, GxR.TabB base mg c_T C_T → GxR.TabB base mg c_U C_U → CalF l.prog w K mg base "_law_drawn" 3 3 ["_law_box", "_law_most", "_law_same"] sp__law_drawn := fun base TB_T TB_U => ⟨f__law_drawn, _, ok__law_drawn F__law_drawn (K__law_draw base TB_T TB_U) (K__law_plain base TB_T TB_U) b_range, PySem.W.mg_of X G a__law_drawn, k__law_drawn, B__law_drawn⟩
  have K__law_reached : ∀ base : Heap, GxR.TabB base mg c_T C_T → GxR.TabB base mg c_U C_U → CalF l.prog w K mg base "_law_reached" 1 2 ["_law_things", "_law_roots"] sp__law_reached := fun base TB_T TB_U => ⟨f__law_reached, _, ok__law_reached F__law_reached b_range b_len b_isinstance b_tuple, PySem.W.mg_of X G a__law_reached, k__law_reached, B__law_reached⟩
  have K__law_any : ∀ base : Heap, GxR.TabB base mg c_T C_T → GxR.TabB base mg c_U C_U → CalF l.prog w K mg base "_law_any" 4 3 ["_law_box", "_law_most", "_law_same"] sp__law_any := fun base TB_T TB_U => ⟨f__law_any, _, ok__law_any F__law_any (K__law_drawn base TB_T TB_U) (K__law_reached base TB_T TB_U) (K__law_draw base TB_T TB_U) b_range b_len, PySem.W.mg_of X G a__law_any, k__law_any, B__law_any⟩
  have K__law_text : ∀ base : Heap, GxR.TabB base mg c_T C_T → GxR.TabB base mg c_U C_U → CalF l.prog w K mg base "_law_text" 1 1 ["_law_graph"] sp__law_text := fun base TB_T TB_U => ⟨f__law_text, _, ok__law_text F__law_text b_str b_range b_len b_isinstance b_tuple, PySem.W.mg_of X G a__law_text, k__law_text, B__law_text⟩
  have K_target_of : ∀ base : Heap, GxR.TabB base mg c_T C_T → GxR.TabB base mg c_U C_U → CalF l.prog w K mg base "target_of" 1 1 ["value"] sp_target_of := fun base TB_T TB_U => ⟨f_target_of, _, ok_target_of F_target_of b_isinstance b_tuple, PySem.W.mg_of X G a_target_of, k_target_of, B_target_of⟩
  have K_is_reference : ∀ base : Heap, GxR.TabB base mg c_T C_T → GxR.TabB base mg c_U C_U → CalF l.prog w K mg base "is_reference" 2 1 ["value"] sp_is_reference := fun base TB_T TB_U => ⟨f_is_reference, _, ok_is_reference F_is_reference (K_target_of base TB_T TB_U), PySem.W.mg_of X G a_is_reference, k_is_reference, B_is_reference⟩
  have K_format_value : ∀ base : Heap, GxR.TabB base mg c_T C_T → GxR.TabB base mg c_U C_U → CalF l.prog w K mg base "format_value" 3 1 ["value"] sp_format_value := fun base TB_T TB_U => ⟨f_format_value, _, ok_format_value F_format_value (K_is_reference base TB_T TB_U) b_str b_isinstance g_MARK g_QUOTE, PySem.W.mg_of X G a_format_value, k_format_value, B_format_value⟩
  have K_format_thing : ∀ base : Heap, GxR.TabB base mg c_T C_T → GxR.TabB base mg c_U C_U → CalF l.prog w K mg base "format_thing" 4 2 ["number", "fields"] sp_format_thing := fun base TB_T TB_U => ⟨f_format_thing, _, ok_format_thing F_format_thing (K_format_value base TB_T TB_U) b_str, PySem.W.mg_of X G a_format_thing, k_format_thing, B_format_thing⟩
  have K_format_graph : ∀ base : Heap, GxR.TabB base mg c_T C_T → GxR.TabB base mg c_U C_U → CalF l.prog w K mg base "format_graph" 5 1 ["graph"] sp_format_graph := fun base TB_T TB_U => ⟨f_format_graph, _, ok_format_graph F_format_graph (K_format_thing base TB_T TB_U) b_str b_enumerate g_ROOTS, PySem.W.mg_of X G a_format_graph, k_format_graph, B_format_graph⟩
  have M_Lines___init__ : ∀ base : Heap, GxR.TabB base mg c_T C_T → GxR.TabB base mg c_U C_U → MakF l.prog w K mg base C_Lines "Lines" 1 1 ["self"] (sp_Lines___init__ C_Lines) := fun base TB_T TB_U => ⟨f_Lines___init__, _, ⟨mk_Lines, a_Lines___init__, i_Lines___init__, kc_Lines⟩, ok_Lines___init__ F_Lines___init__ c_Lines n_Lines_known, PySem.W.mg_of X G aC_Lines, B_Lines___init__⟩
  have K_natural : ∀ base : Heap, GxR.TabB base mg c_T C_T → GxR.TabB base mg c_U C_U → CalF l.prog w K mg base "natural" 1 1 ["word"] (sp_natural C_T) := fun base TB_T TB_U => ⟨f_natural, _, ok_natural l_natural c_natural TB_T hcode_T b_len b_all b_int g_LONGEST g_FIGURES, PySem.W.mg_of X G a_natural, k_natural, B_natural⟩
  have K_Lines_thing : ∀ base : Heap, GxR.TabB base mg c_T C_T → GxR.TabB base mg c_U C_U → MetF l.prog w K mg base C_Lines "thing" 2 2 ["self", "word"] (sp_Lines_thing C_Lines C_T) := fun base TB_T TB_U => ⟨f_Lines_thing, _, c_Lines, ⟨a_Lines_thing, i_Lines_thing, k_Lines_thing⟩, ok_Lines_thing F_Lines_thing c_Lines n_Lines_known (K_natural base TB_T TB_U) b_max, B_Lines_thing⟩
  have K_Lines_roots : ∀ base : Heap, GxR.TabB base mg c_T C_T → GxR.TabB base mg c_U C_U → MetF l.prog w K mg base C_Lines "roots" 3 2 ["self", "line"] (sp_Lines_roots C_Lines C_T) := fun base TB_T TB_U => ⟨f_Lines_roots, _, c_Lines, ⟨a_Lines_roots, i_Lines_roots, k_Lines_roots⟩, ok_Lines_roots F_Lines_roots (K_Lines_thing base TB_T TB_U) g_ROOTS, B_Lines_roots⟩
  have K_is_word : ∀ base : Heap, GxR.TabB base mg c_T C_T → GxR.TabB base mg c_U C_U → CalF l.prog w K mg base "is_word" 1 2 ["text", "most"] (sp_is_word C_U) := fun base TB_T TB_U => ⟨f_is_word, _, ok_is_word l_is_word c_is_word TB_U hcode_U b_len b_all g_LETTERS, PySem.W.mg_of X G a_is_word, k_is_word, B_is_word⟩
  have K_is_field : ∀ base : Heap, GxR.TabB base mg c_T C_T → GxR.TabB base mg c_U C_U → CalF l.prog w K mg base "is_field" 2 1 ["text"] (sp_is_field C_U) := fun base TB_T TB_U => ⟨f_is_field, _, ok_is_field F_is_field (K_is_word base TB_T TB_U) b_len g_FIELD_MOST, PySem.W.mg_of X G a_is_field, k_is_field, B_is_field⟩
  have K_Lines_value : ∀ base : Heap, GxR.TabB base mg c_T C_T → GxR.TabB base mg c_U C_U → MetF l.prog w K mg base C_Lines "value" 3 2 ["self", "word"] (sp_Lines_value C_Lines C_T C_U) := fun base TB_T TB_U => ⟨f_Lines_value, _, c_Lines, ⟨a_Lines_value, i_Lines_value, k_Lines_value⟩, ok_Lines_value F_Lines_value (K_is_word base TB_T TB_U) (K_natural base TB_T TB_U) (K_Lines_thing base TB_T TB_U) b_len b_abs g_MARK g_REF g_QUOTE g_TEXT_MOST g_INTEGER_MOST, B_Lines_value⟩
  have K_Lines_fields : ∀ base : Heap, GxR.TabB base mg c_T C_T → GxR.TabB base mg c_U C_U → MetF l.prog w K mg base C_Lines "fields" 4 2 ["self", "words"] (sp_Lines_fields C_Lines C_T C_U) := fun base TB_T TB_U => ⟨f_Lines_fields, _, c_Lines, ⟨a_Lines_fields, i_Lines_fields, k_Lines_fields⟩, ok_Lines_fields F_Lines_fields (K_is_field base TB_T TB_U) (K_Lines_value base TB_T TB_U) b_len, B_Lines_fields⟩
  have K_Lines_line : ∀ base : Heap, GxR.TabB base mg c_T C_T → GxR.TabB base mg c_U C_U → MetF l.prog w K mg base C_Lines "line" 5 3 ["self", "number", "line"] (sp_Lines_line C_Lines C_T C_U) := fun base TB_T TB_U => ⟨f_Lines_line, _, c_Lines, ⟨a_Lines_line, i_Lines_line, k_Lines_line⟩, ok_Lines_line F_Lines_line c_Lines n_Lines_known (K_Lines_fields base TB_T TB_U) b_str, B_Lines_line⟩
  have K_parse_graph : ∀ base : Heap, GxR.TabB base mg c_T C_T → GxR.TabB base mg c_U C_U → CalF l.prog w K mg base "parse_graph" 6 1 ["text"] (sp_parse_graph C_Lines C_T C_U) := fun base TB_T TB_U => ⟨f_parse_graph, _, ok_parse_graph F_parse_graph c_Lines n_Lines_known (M_Lines___init__ base TB_T TB_U) (K_Lines_roots base TB_T TB_U) (K_Lines_line base TB_T TB_U) b_enumerate b_len e_WrongLine m_WrongLine, PySem.W.mg_of X G a_parse_graph, k_parse_graph, B_parse_graph⟩
  exact ⟨PySem.W.fnOf "law" "law" (defArgs s_law) (defBody s_law) (defScope s_law) .none kV_law dc_law pm_law an_law cd_law ct_law, fun s v => .of_eq rfl, fun base _ _ TB_T TB_U => ok_law F_law (K__law_digits base TB_T TB_U) (K__law_any base TB_T TB_U) (K__law_text base TB_T TB_U) (K_format_graph base TB_T TB_U) (K_parse_graph base TB_T TB_U) (K_format_value base TB_T TB_U) b_isinstance b_tuple⟩
end LawP
open PySem PySem.W PyProof.Rows
set_option maxRecDepth 100000 in
set_option maxHeartbeats 0 in
theorem PySem.Challenge.cw_graphtwins_k12_texts_of_graphs_holds : PySem.Challenge.rw_graphtwins_k12_texts_of_graphs.Holds := by
  w_on; o_law; k_head; (case hw => w_witness2)
  k_fill
  refine DL.walkT2 (l := PySem.Challenge.rw_graphtwins_k12_texts_of_graphs) (t := "natural") (u := "is_word") (x := "_law_script") (k := 7) rfl rfl ⟨rfl, by decide, by decide⟩ (fun w h Y => PySem.W.kIn_of Y) ?hno ?hrec ?hrec2 ?F
  (case hno => intro p; first | rfl | decide +kernel)
  (case hrec => decide +kernel)
  (case hrec2 => decide +kernel)
  case F =>
    intro w mg fa h KX G hmg c P c2 P2 ht ht2
    refine' LawP.all_mk KX G hmg ht ht2 ?aC_Lines ?pg_Lines ?hd_Lines ?po_Lines ?sa_Lines ?mk_Lines ?kc_Lines ?n_Lines_known ?aC_WrongLine ?ga_WrongLine ?gg_WrongLine ?sb_WrongLine ?hd_WrongLine ?cl_WrongLine ?ob_WrongLine ?ty_WrongLine ?sf_WrongLine ?xget ?xtk ?z_abs ?z_all ?z_enumerate ?z_int ?z_isinstance ?z_len ?z_max ?z_range ?z_str ?z_tuple ?w_FIELD_MOST ?w_FIGURES ?w_INTEGER_MOST ?w_LETTERS ?w_LONGEST ?w_MARK ?w_QUOTE ?w_REF ?w_ROOTS ?w_TEXT_MOST ?a__law_cell ?l__law_cell ?c__law_cell ?k__law_cell ?a__law_digits ?l__law_digits ?c__law_digits ?k__law_digits ?a__law_draw ?l__law_draw ?c__law_draw ?k__law_draw ?a__law_plain ?l__law_plain ?c__law_plain ?k__law_plain ?a__law_drawn ?l__law_drawn ?c__law_drawn ?k__law_drawn ?a__law_reached ?l__law_reached ?c__law_reached ?k__law_reached ?a__law_any ?l__law_any ?c__law_any ?k__law_any ?a__law_text ?l__law_text ?c__law_text ?k__law_text ?a_target_of ?l_target_of ?c_target_of ?k_target_of ?a_is_reference ?l_is_reference ?c_is_reference ?k_is_reference ?a_format_value ?l_format_value ?c_format_value ?k_format_value ?a_format_thing ?l_format_thing ?c_format_thing ?k_format_thing ?a_format_graph ?l_format_graph ?c_format_graph ?k_format_graph ?a_Lines___init__ ?i_Lines___init__ ?l_Lines___init__ ?c_Lines___init__ ?k_Lines___init__ ?a_natural ?l_natural ?c_natural ?k_natural ?a_Lines_thing ?i_Lines_thing ?l_Lines_thing ?c_Lines_thing ?k_Lines_thing ?a_Lines_roots ?i_Lines_roots ?l_Lines_roots ?c_Lines_roots ?k_Lines_roots ?a_is_word ?l_is_word ?c_is_word ?k_is_word ?a_is_field ?l_is_field ?c_is_field ?k_is_field ?a_Lines_value ?i_Lines_value ?l_Lines_value ?c_Lines_value ?k_Lines_value ?a_Lines_fields ?i_Lines_fields ?l_Lines_fields ?c_Lines_fields ?k_Lines_fields ?a_Lines_line ?i_Lines_line ?l_Lines_line ?c_Lines_line ?k_Lines_line ?a_parse_graph ?l_parse_graph ?c_parse_graph ?k_parse_graph ?a_law ?l_law ?c_law ?k_law
    (case aC_Lines => k_is)
    (case pg_Lines => k_is)
    (case hd_Lines => k_is)
    (case po_Lines => k_is)
    (case sa_Lines => k_is)
    (case mk_Lines => k_is)
    (case kc_Lines => k_is)
    (case n_Lines_known => k_is)
    (case aC_WrongLine => k_is)
    (case ga_WrongLine => k_is)
    (case gg_WrongLine => k_is)
    (case sb_WrongLine => k_is)
    (case hd_WrongLine => k_is)
    (case cl_WrongLine => k_is)
    (case ob_WrongLine => k_is)
    (case ty_WrongLine => k_is)
    (case sf_WrongLine => k_is)
    (case xget => k_is)
    (case xtk => k_is)
    (case z_abs => k_is)
    (case z_all => k_is)
    (case z_enumerate => k_is)
    (case z_int => k_is)
    (case z_isinstance => k_is)
    (case z_len => k_is)
    (case z_max => k_is)
    (case z_range => k_is)
    (case z_str => k_is)
    (case z_tuple => k_is)
    (case w_FIELD_MOST => k_is)
    (case w_FIGURES => k_is)
    (case w_INTEGER_MOST => k_is)
    (case w_LETTERS => k_is)
    (case w_LONGEST => k_is)
    (case w_MARK => k_is)
    (case w_QUOTE => k_is)
    (case w_REF => k_is)
    (case w_ROOTS => k_is)
    (case w_TEXT_MOST => k_is)
    (case a__law_cell => k_is)
    (case l__law_cell => k_is)
    (case c__law_cell => k_is)
    (case k__law_cell => k_is)
    (case a__law_digits => k_is)
    (case l__law_digits => k_is)
    (case c__law_digits => k_is)
    (case k__law_digits => k_is)
    (case a__law_draw => k_is)
    (case l__law_draw => k_is)
    (case c__law_draw => k_is)
    (case k__law_draw => k_is)
    (case a__law_plain => k_is)
    (case l__law_plain => k_is)
    (case c__law_plain => k_is)
    (case k__law_plain => k_is)
    (case a__law_drawn => k_is)
    (case l__law_drawn => k_is)
    (case c__law_drawn => k_is)
    (case k__law_drawn => k_is)
    (case a__law_reached => k_is)
    (case l__law_reached => k_is)
    (case c__law_reached => k_is)
    (case k__law_reached => k_is)
    (case a__law_any => k_is)
    (case l__law_any => k_is)
    (case c__law_any => k_is)
    (case k__law_any => k_is)
    (case a__law_text => k_is)
    (case l__law_text => k_is)
    (case c__law_text => k_is)
    (case k__law_text => k_is)
    (case a_target_of => k_is)
    (case l_target_of => k_is)
    (case c_target_of => k_is)
    (case k_target_of => k_is)
    (case a_is_reference => k_is)
    (case l_is_reference => k_is)
    (case c_is_reference => k_is)
    (case k_is_reference => k_is)
    (case a_format_value => k_is)
    (case l_format_value => k_is)
    (case c_format_value => k_is)
    (case k_format_value => k_is)
    (case a_format_thing => k_is)
    (case l_format_thing => k_is)
    (case c_format_thing => k_is)
    (case k_format_thing => k_is)
    (case a_format_graph => k_is)
    (case l_format_graph => k_is)
    (case c_format_graph => k_is)
    (case k_format_graph => k_is)
    (case a_Lines___init__ => k_is)
    (case i_Lines___init__ => k_is)
    (case l_Lines___init__ => k_is)
    (case c_Lines___init__ => k_is)
    (case k_Lines___init__ => k_is)
    (case a_natural => k_is)
    (case l_natural => k_is)
    (case c_natural => k_is)
    (case k_natural => k_is)
    (case a_Lines_thing => k_is)
    (case i_Lines_thing => k_is)
    (case l_Lines_thing => k_is)
    (case c_Lines_thing => k_is)
    (case k_Lines_thing => k_is)
    (case a_Lines_roots => k_is)
    (case i_Lines_roots => k_is)
    (case l_Lines_roots => k_is)
    (case c_Lines_roots => k_is)
    (case k_Lines_roots => k_is)
    (case a_is_word => k_is)
    (case l_is_word => k_is)
    (case c_is_word => k_is)
    (case k_is_word => k_is)
    (case a_is_field => k_is)
    (case l_is_field => k_is)
    (case c_is_field => k_is)
    (case k_is_field => k_is)
    (case a_Lines_value => k_is)
    (case i_Lines_value => k_is)
    (case l_Lines_value => k_is)
    (case c_Lines_value => k_is)
    (case k_Lines_value => k_is)
    (case a_Lines_fields => k_is)
    (case i_Lines_fields => k_is)
    (case l_Lines_fields => k_is)
    (case c_Lines_fields => k_is)
    (case k_Lines_fields => k_is)
    (case a_Lines_line => k_is)
    (case i_Lines_line => k_is)
    (case l_Lines_line => k_is)
    (case c_Lines_line => k_is)
    (case k_Lines_line => k_is)
    (case a_parse_graph => k_is)
    (case l_parse_graph => k_is)
    (case c_parse_graph => k_is)
    (case k_parse_graph => k_is)
    (case a_law => k_is)
    (case l_law => k_is)
    (case c_law => k_is)
    (case k_law => k_is)
