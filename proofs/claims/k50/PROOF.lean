import PyProof.Rows.All
import Wide.All
import OpenK.AllK
import Wide.FinOn
import PyProof.EqAt
import PyProof.EqKinds
import PyProof.TupleCall
import HandS.ForMost
import HandS.Exc
import HandS.WordsExc
import HandS.Style
import HandS.Flow
import HandS.IsInst
import HandS.Deep
import HandS.More
import HandS.Conv
import HandS.TupAny
import HandS.Dict
import HandS.Iter
import HandS.Text
import HandS.SortRule
import HandS.TupLe
import HandS.Words
import HandS.Ends
import HandS.DictComp
import PyProof.DictMoreH
import HandS.SetKeys
import HandS.TupLen
import KE.LtSeq
import HandS.RaiseMore
import PyProof.CallStr
import HandS.Zip
import HandS.Strs
import HandS.Replace
import PyProof.StrOps2
import HandS.AnyAll
import PyProof.StrOps
import HandS.EndTab
import HandS.TryOnly
import HandS.ExcInit
import HandS.ExcField
import HandS.ExcIs
import KE.KExcIs
import KE.RegKSuper
import KE.KExcSuper
import HandS.FStr
import PyProof.ReprText
import PyProof.FitsInt
import PyProof.CallFns
import HandS.FStrTup
import PySem.Challenge.RW_graphtwins_k50_watches
set_option Elab.async false
set_option linter.all false
set_option maxRecDepth 100000
set_option maxHeartbeats 4000000
/-! DL1: plain data D over the layer's values; readings over plain data; names, constants, operators, statements. -/
namespace DL
open PySem PySem.Spec PyProof.Rows L2

/-- plain data: immutable things by their content, lists, dicts and instances by their address; cl: a list that nobody writes -/
inductive D where
  | non | bl (b : Bool) | int (i : Int) | str (l : List Nat) | tup (l : List D) | cl (l : List D) | ref (a : Addr)

/-- what stands at an address; fdic: a dict while it is walked; tbl: a def's table of code objects; xd: an exception's own dict -/
inductive AO where
  | lst (xs : List D) | dic (kvs : List (D × D)) | fdic (od : Obj) (kvs : List (D × D)) | ins (C : Addr) (fs : List (String × D)) | tbl | xd (fs : List (String × D))

abbrev AH := Addr → Option AO
def up (A : AH) (a : Addr) (o : AO) : AH := fun b => if b = a then some o else A b
@[simp] theorem up_same {A : AH} {a : Addr} {o : AO} : up A a o a = some o := if_pos rfl
theorem up_ne {A : AH} {a b : Addr} {o : AO} (h : b ≠ a) : up A a o b = A b := if_neg h

structure Bs where
  P : Program
  w : World
  K : PySem.W.Frag

/-! ### the relation to the layer's values -/
def TupAt (K : PySem.W.Frag) (H : Hp) (a : Addr) (vs : List V) : Prop :=
  H a = some (.tup vs) ∨ ∃ (o : Obj) (its : Array Value) (n : Nat), K.lookup a = some o ∧ o.cls = .type "tuple" ∧ o.data = .seq its n ∧ its.size ≤ sizeLine ∧ Vals vs its.toList
def CstAt (K : PySem.W.Frag) (H : Hp) (a : Addr) (vs : List V) : Prop :=
  (∃ o, H a = some (.frz o (.lst vs))) ∨ ∃ (o : Obj) (its : Array Value) (n : Nat), K.lookup a = some o ∧ o.cls = .type "list" ∧ o.dict = none ∧ o.data = .seq its n ∧ its.size ≤ sizeLine ∧ Vals vs its.toList
mutual
def RelD (K : PySem.W.Frag) (H : Hp) : D → V → Prop
  | .non, v => v = .non
  | .bl b, v => v = .bl b
  | .int i, v => v = .int i
  | .str l, v => v = .str ⟨l.toArray⟩ ∧ ∀ c ∈ l, c < 1114112
  | .tup l, v => ∃ a vs, v = .ref a ∧ TupAt K H a vs ∧ RelL K H l vs
  | .cl l, v => ∃ a vs, v = .ref a ∧ CstAt K H a vs ∧ RelL K H l vs
  | .ref a, v => v = .ref a
def RelL (K : PySem.W.Frag) (H : Hp) : List D → List V → Prop
  | [], vs => vs = []
  | d :: ds, vs => ∃ v r, vs = v :: r ∧ RelD K H d v ∧ RelL K H ds r
end
/-- what data lean on stays -/
def Grow (H H' : Hp) : Prop := (∀ a xs, H a = some (.tup xs) → H' a = some (.tup xs)) ∧ ∀ a o xs, H a = some (.frz o (.lst xs)) → H' a = some (.frz o (.lst xs))
theorem Grow.refl {H : Hp} : Grow H H := ⟨fun _ _ h => h, fun _ _ _ h => h⟩
theorem Grow.trans {H H1 H2 : Hp} (a : Grow H H1) (b : Grow H1 H2) : Grow H H2 := ⟨fun c xs h => b.1 c xs (a.1 c xs h), fun c o xs h => b.2 c o xs (a.2 c o xs h)⟩
theorem Grow.new {H : Hp} {p : Addr} {o : HO} (h : H p = none) : Grow H (upd H p o) :=
  ⟨fun a xs e => by rw [upd_ne (ne_of_none e h)]; exact e, fun a o xs e => by rw [upd_ne (ne_of_none e h)]; exact e⟩
theorem Grow.put {H : Hp} {p : Addr} {o u : HO} (h : H p = some u) (h1 : ∀ xs, u ≠ .tup xs) (h2 : ∀ ob xs, u ≠ .frz ob (.lst xs)) : Grow H (upd H p o) :=
  ⟨fun a xs e => by rw [upd_ne (ne_of e h (Ne.symm (h1 xs)))]; exact e, fun a ob xs e => by rw [upd_ne (ne_of e h (Ne.symm (h2 ob xs)))]; exact e⟩
section
variable {K : PySem.W.Frag} {H H' : Hp}
theorem TupAt.grow {a : Addr} {vs : List V} (h : TupAt K H a vs) (g : Grow H H') : TupAt K H' a vs := h.elim (fun h => .inl (g.1 _ _ h)) .inr
theorem CstAt.grow {a : Addr} {vs : List V} (h : CstAt K H a vs) (g : Grow H H') : CstAt K H' a vs := h.elim (fun ⟨o, h⟩ => .inl ⟨o, g.2 _ _ _ h⟩) .inr
theorem TupAt.seq {a : Addr} {vs : List V} (h : TupAt K H a vs) : SqT K H a vs := h.elim (fun h => .inl (.inl h)) .inr
theorem CstAt.seq {a : Addr} {vs : List V} (h : CstAt K H a vs) : SqL K H a vs := h.elim (fun ⟨o, h⟩ => .inl (.inr ⟨o, h⟩)) .inr
mutual
theorem RelD.grow (g : Grow H H') : ∀ {d : D} {v : V}, RelD K H d v → RelD K H' d v
  | .non, _, h => h
  | .bl _, _, h => h
  | .int _, _, h => h
  | .str _, _, h => h
  | .ref _, _, h => h
  | .tup _, _, ⟨a, vs, e, t, r⟩ => ⟨a, vs, e, t.grow g, RelL.grow g r⟩
  | .cl _, _, ⟨a, vs, e, t, r⟩ => ⟨a, vs, e, t.grow g, RelL.grow g r⟩
theorem RelL.grow (g : Grow H H') : ∀ {ds : List D} {vs : List V}, RelL K H ds vs → RelL K H' ds vs
  | [], _, h => h
  | _ :: _, _, ⟨v, r, e, h1, h2⟩ => ⟨v, r, e, RelD.grow g h1, RelL.grow g h2⟩
end
theorem RelL.length : ∀ {ds : List D} {vs : List V}, RelL K H ds vs → ds.length = vs.length
  | [], _, h => by cases h; rfl
  | _ :: _, _, ⟨_, _, e, _, h⟩ => by cases e; simp [RelL.length h]
theorem RelL.cons {d : D} {ds : List D} {v : V} {vs : List V} (h : RelD K H d v) (t : RelL K H ds vs) : RelL K H (d :: ds) (v :: vs) := ⟨v, vs, rfl, h, t⟩
theorem RelL.nil : RelL K H [] [] := rfl
theorem RelL.get : ∀ {ds : List D} {vs : List V} {i : Nat} {d : D}, RelL K H ds vs → ds[i]? = some d → ∃ v, vs[i]? = some v ∧ RelD K H d v
  | d :: _, _, 0, _, ⟨v, r, e, h, _⟩, q => by
    cases e; cases q
    exact ⟨v, rfl, h⟩
  | _ :: ds, _, i + 1, _, ⟨v, r, e, _, h⟩, q => by
    cases e
    exact RelL.get (i := i) h (by simpa using q)
  | [], _, _, _, _, q => by simp at q
theorem RelL.get' : ∀ {ds : List D} {vs : List V} {i : Nat} {v : V}, RelL K H ds vs → vs[i]? = some v → ∃ d, ds[i]? = some d ∧ RelD K H d v
  | d :: _, _, 0, _, ⟨v, r, e, h, _⟩, q => by
    cases e; cases q
    exact ⟨d, rfl, h⟩
  | _ :: ds, _, i + 1, _, ⟨v, r, e, _, h⟩, q => by
    cases e
    exact RelL.get' (i := i) h (by simpa using q)
  | [], _, _, _, h, q => by cases h; simp at q
theorem RelL.append : ∀ {ds es : List D} {vs us : List V}, RelL K H ds vs → RelL K H es us → RelL K H (ds ++ es) (vs ++ us)
  | [], _, _, _, h, t => by cases h; exact t
  | _ :: _, _, _, _, ⟨v, r, e, h, h2⟩, t => by cases e; exact ⟨v, _, rfl, h, RelL.append h2 t⟩
theorem RelL.take : ∀ {ds : List D} {vs : List V} (n : Nat), RelL K H ds vs → RelL K H (ds.take n) (vs.take n)
  | _, _, 0, _ => by simp [RelL]
  | [], _, n + 1, h => by cases h; simp [RelL]
  | _ :: _, _, n + 1, ⟨v, r, e, h, t⟩ => by cases e; exact ⟨v, _, rfl, h, RelL.take n t⟩
theorem RelL.drop : ∀ {ds : List D} {vs : List V} (n : Nat), RelL K H ds vs → RelL K H (ds.drop n) (vs.drop n)
  | _, _, 0, h => h
  | [], _, n + 1, h => by cases h; simp [RelL]
  | _ :: _, _, n + 1, ⟨v, r, e, h, t⟩ => by cases e; exact RelL.drop n t
theorem RelL.set : ∀ {ds : List D} {vs : List V} {d : D} {v : V} (n : Nat), RelL K H ds vs → RelD K H d v → RelL K H (ds.set n d) (vs.set n v)
  | [], _, _, _, _, h, _ => by cases h; simp [RelL]
  | _ :: _, _, _, _, 0, ⟨_, r, e, h, t⟩, q => by cases e; exact ⟨_, _, rfl, q, t⟩
  | _ :: _, _, _, _, n + 1, ⟨v, r, e, h, t⟩, q => by cases e; exact ⟨_, _, rfl, h, RelL.set n t q⟩
theorem RelL.erase : ∀ {ds : List D} {vs : List V} (n : Nat), RelL K H ds vs → RelL K H (ds.eraseIdx n) (vs.eraseIdx n)
  | [], _, _, h => by cases h; simp [RelL]
  | _ :: _, _, 0, ⟨_, r, e, h, t⟩ => by cases e; exact t
  | _ :: _, _, n + 1, ⟨v, r, e, h, t⟩ => by cases e; exact ⟨_, _, rfl, h, RelL.erase n t⟩
end
/-- a field is put in its place, or behind -/
def putS (f : String) (d : D) : List (String × D) → List (String × D)
  | [] => [(f, d)]
  | (g, x) :: r => if g = f then (g, d) :: r else (g, x) :: putS f d r
def getS (f : String) : List (String × D) → Option D
  | [] => none
  | (g, x) :: r => if g = f then some x else getS f r
def RelF (K : PySem.W.Frag) (H : Hp) : List (String × D) → List (Str × V) → Prop
  | [], vs => vs = []
  | p :: ps, vs => ∃ v r, vs = (PySem.Str.ofString p.1, v) :: r ∧ RelD K H p.2 v ∧ RelF K H ps r
/-- an entry: the key, its value, the value -/
abbrev Ent := D × Value × Value
def ReV (K : PySem.W.Frag) (H : Hp) (d : D) (u : Value) : Prop := ∃ v, RelD K H d v ∧ RelV v u
def EntL (K : PySem.W.Frag) (H : Hp) : List (D × D) → List Ent → Prop
  | [], es => es = []
  | p :: ps, es => ∃ e r, es = e :: r ∧ e.1 = p.1 ∧ ReV K H p.1 e.2.1 ∧ ReV K H p.2 e.2.2 ∧ EntL K H ps r
/-- the hash of a key -/
def hsh (w : World) : D → Int
  | .int i => hashInt i
  | .str l => hashStr w ⟨l.toArray⟩
  | .tup l => reduceHash (Builtin.Tuple.tupleHashOf (hshs w l))
  | _ => 0
where hshs (w : World) : List D → List Int
  | [] => []
  | d :: ds => hsh w d :: hshs w ds
/-- a key is an int or a text (sort false), or a tuple of keys (sort true), n deep -/
def isKeyN : Nat → D → Bool
  | 0, .int _ => true
  | 0, .str _ => true
  | _ + 1, .int _ => true
  | _ + 1, .str _ => true
  | n + 1, .tup l => l.all (isKeyN n)
  | _, _ => false
abbrev isKey (d : D) : Bool := isKeyN 4 d
def isTup : D → Bool
  | .tup _ => true
  | _ => false
/-- the dict at a, entry by entry -/
def DicAt (w : World) (a : Addr) (es : List Ent) (h : Heap) : Prop :=
  ∃ o ep, h.get? a = some o ∧ o.ExactDict ∧ o.data = .dict (es.map fun e => (⟨hsh w e.1, e.2.1, e.2.2⟩ : DictEntry)).toArray ep ∧ (a == sysModules) = false
def GoodD (kvs : List (D × D)) : Prop := (kvs.map (·.1)).Nodup ∧ kvs.length ≤ sizeLine ∧ (∀ p ∈ kvs, isKey p.1 = true) ∧ ∃ b, ∀ p ∈ kvs, isTup p.1 = b
def RelO (B : Bs) (H : Hp) (a : Addr) : AO → Prop
  | .lst ds => ∃ vs, H a = some (.lst vs) ∧ RelL B.K H ds vs
  | .dic kvs => ∃ es, H a = some (.ext (DicAt B.w a es)) ∧ EntL B.K H kvs es ∧ GoodD kvs
  | .fdic o kvs => ∃ es, H a = some (.frz o (.ext (DicAt B.w a es))) ∧ EntL B.K H kvs es ∧ GoodD kvs ∧ ∃ ep, o.data = .dict (es.map fun e => (⟨hsh B.w e.1, e.2.1, e.2.2⟩ : DictEntry)).toArray ep
  | .ins C fs => ∃ dx vs, H a = some (.ins C dx vs) ∧ RelF B.K H fs vs
  | .tbl => ∃ ps : Array Value, H a = some (.tbl ps) ∧ TriplesOk ps.toList
  | .xd fs => ∃ vs, H a = some (.xd vs) ∧ RelF B.K H fs vs
def RelH (B : Bs) (A : AH) (H : Hp) : Prop := ∀ a o, A a = some o → RelO B H a o
section
variable {K : PySem.W.Frag} {B : Bs} {H H' : Hp} {A : AH}
theorem ReV.grow {d : D} {u : Value} (g : Grow H H') (h : ReV K H d u) : ReV K H' d u := let ⟨v, a, b⟩ := h; ⟨v, a.grow g, b⟩
theorem RelF.grow (g : Grow H H') : ∀ {fs : List (String × D)} {vs : List (Str × V)}, RelF K H fs vs → RelF K H' fs vs
  | [], _, h => h
  | _ :: _, _, ⟨v, r, e, h, t⟩ => ⟨v, r, e, h.grow g, RelF.grow g t⟩
theorem EntL.grow (g : Grow H H') : ∀ {kvs : List (D × D)} {es : List Ent}, EntL K H kvs es → EntL K H' kvs es
  | [], _, h => h
  | _ :: _, _, ⟨e, r, q, h1, h2, h3, t⟩ => ⟨e, r, q, h1, h2.grow g, h3.grow g, EntL.grow g t⟩
theorem RelO.grow {a : Addr} {o : AO} (g : Grow H H') (k : H' a = H a) (h : RelO B H a o) : RelO B H' a o := by
  cases o with
  | lst ds => obtain ⟨vs, e, r⟩ := h; exact ⟨vs, k.trans e, r.grow g⟩
  | dic kvs => obtain ⟨es, e, r, q⟩ := h; exact ⟨es, k.trans e, r.grow g, q⟩
  | fdic ob kvs => obtain ⟨es, e, r, q⟩ := h; exact ⟨es, k.trans e, r.grow g, q⟩
  | ins C fs => obtain ⟨dx, vs, e, r⟩ := h; exact ⟨dx, vs, k.trans e, r.grow g⟩
  | tbl => obtain ⟨ps, e, r⟩ := h; exact ⟨ps, k.trans e, r⟩
  | xd fs => obtain ⟨vs, e, r⟩ := h; exact ⟨vs, k.trans e, r.grow g⟩
theorem RelO.there {a : Addr} {o : AO} (h : RelO B H a o) : ∃ u, H a = some u := by
  cases o with
  | lst ds => obtain ⟨vs, e, r⟩ := h; exact ⟨_, e⟩
  | dic kvs => obtain ⟨es, e, r, q⟩ := h; exact ⟨_, e⟩
  | fdic ob kvs => obtain ⟨es, e, r, q⟩ := h; exact ⟨_, e⟩
  | ins C fs => obtain ⟨dx, vs, e, r⟩ := h; exact ⟨_, e⟩
  | tbl => obtain ⟨ps, e, r⟩ := h; exact ⟨_, e⟩
  | xd fs => obtain ⟨vs, e, r⟩ := h; exact ⟨_, e⟩
theorem RelH.free (h : RelH B A H) {p : Addr} (e : H p = none) : A p = none := by
  cases q : A p with
  | none => rfl
  | some o => obtain ⟨u, z⟩ := (h p o q).there; rw [e] at z; cases z
/-- a new tuple or other thing that is not told -/
theorem RelH.new (h : RelH B A H) {p : Addr} {o : HO} (e : H p = none) : RelH B A (upd H p o) := fun a u q => by
  obtain ⟨v, z⟩ := (h a u q).there
  exact (h a u q).grow (Grow.new e) (upd_ne (ne_of_none z e))
/-- a new object -/
theorem RelH.add (h : RelH B A H) {p : Addr} {o : HO} {u : AO} (e : H p = none) (r : RelO B (upd H p o) p u) : RelH B (up A p u) (upd H p o) := fun a x q => by
  by_cases c : a = p
  · subst c; rw [up_same] at q; cases q; exact r
  · rw [up_ne c] at q; exact h.new e a x q
/-- an object written -/
theorem RelH.put (h : RelH B A H) {p : Addr} {o : HO} {u : AO} (g : Grow H (upd H p o)) (r : RelO B (upd H p o) p u) : RelH B (up A p u) (upd H p o) := fun a x q => by
  by_cases c : a = p
  · subst c; rw [up_same] at q; cases q; exact r
  · rw [up_ne c] at q; exact (h a x q).grow g (upd_ne c)
end
theorem str_inj {x y : String} (h : PySem.Str.ofString x = PySem.Str.ofString y) : x = y := by
  rw [PySem.Str.ofString_eq_toList, PySem.Str.ofString_eq_toList] at h
  injection h with h
  have h := congrArg Array.toList h
  simp only [] at h
  have inj : ∀ {l m : List Char}, l.map Char.toNat = m.map Char.toNat → l = m := by
    intro l
    induction l with
    | nil => intro m e; cases m with
      | nil => rfl
      | cons _ _ => simp at e
    | cons a l ih => intro m e; cases m with
      | nil => simp at e
      | cons b m =>
        simp only [List.map_cons, List.cons.injEq] at e
        rw [ih e.2, Char.toNat_inj.mp e.1]
  exact String.toList_inj.mp (inj h)
section
variable {K : PySem.W.Frag} {H : Hp}
theorem RelF.get : ∀ {fs : List (String × D)} {vs : List (Str × V)} {f : String} {d : D}, RelF K H fs vs → getS f fs = some d → ∃ v, vs.lookup (PySem.Str.ofString f) = some v ∧ RelD K H d v
  | (g, x) :: r, _, f, d, ⟨v, t, e, h, q⟩, z => by
    cases e
    unfold getS at z
    by_cases c : g = f
    · rw [if_pos c] at z; cases z; subst c
      exact ⟨v, by simp [List.lookup_cons], h⟩
    · rw [if_neg c] at z
      have n : (PySem.Str.ofString f == PySem.Str.ofString g) = false := beq_eq_false_iff_ne.mpr fun e => c (str_inj e).symm
      obtain ⟨v', h1, h2⟩ := RelF.get q z
      exact ⟨v', by rw [List.lookup_cons, n]; exact h1, h2⟩
  | [], _, _, _, _, z => by cases z
theorem RelF.no : ∀ {fs : List (String × D)} {vs : List (Str × V)} {f : String}, RelF K H fs vs → getS f fs = none → vs.lookup (PySem.Str.ofString f) = none
  | (g, x) :: r, _, f, ⟨v, t, e, h, q⟩, z => by
    cases e
    unfold getS at z
    by_cases c : g = f
    · rw [if_pos c] at z; cases z
    · rw [if_neg c] at z
      have n : (PySem.Str.ofString f == PySem.Str.ofString g) = false := beq_eq_false_iff_ne.mpr fun e => c (str_inj e).symm
      rw [List.lookup_cons, n]; exact RelF.no q z
  | [], _, _, h, _ => by cases h; rfl
theorem RelF.put : ∀ {fs : List (String × D)} {vs : List (Str × V)} {f : String} {d : D} {v : V}, RelF K H fs vs → RelD K H d v → RelF K H (putS f d fs) (putF (PySem.Str.ofString f) v vs)
  | [], _, f, d, v, h, q => by cases h; exact ⟨v, [], rfl, q, rfl⟩
  | (g, x) :: r, _, f, d, v, ⟨v', t, e, h, q⟩, z => by
    cases e
    show RelF K H (if g = f then (g, d) :: r else (g, x) :: putS f d r) (if PySem.Str.ofString g = PySem.Str.ofString f then (PySem.Str.ofString g, v) :: t else (PySem.Str.ofString g, v') :: putF (PySem.Str.ofString f) v t)
    by_cases c : g = f
    · rw [if_pos c, if_pos (by rw [c])]; exact ⟨v, t, rfl, z, q⟩
    · rw [if_neg c, if_neg (fun e => c (str_inj e))]; exact ⟨v', _, rfl, h, RelF.put q z⟩
theorem RelF.length : ∀ {fs : List (String × D)} {vs : List (Str × V)}, RelF K H fs vs → fs.length = vs.length
  | [], _, h => by cases h; rfl
  | _ :: _, _, ⟨_, _, e, _, h⟩ => by cases e; simp [RelF.length h]
end
/-! ### slots -/
abbrev DS := List (Option D)
def RelS (K : PySem.W.Frag) (H : Hp) (dσ : DS) (σ : L2.St) : Prop := dσ.length = σ.length ∧ ∀ (i : Nat) (d : D), dσ[i]? = some (some d) → ∃ v, σ[i]? = some (some v) ∧ RelD K H d v
theorem RelS.grow {K : PySem.W.Frag} {H H' : Hp} {dσ : DS} {σ : L2.St} (g : Grow H H') (h : RelS K H dσ σ) : RelS K H' dσ σ := ⟨h.1, fun i d e => let ⟨v, a, b⟩ := h.2 i d e; ⟨v, a, b.grow g⟩⟩
theorem RelS.set {K : PySem.W.Frag} {H : Hp} {dσ : DS} {σ : L2.St} {i : Nat} {d : D} {v : V} (h : RelS K H dσ σ) (r : RelD K H d v) : RelS K H (dσ.set i (some d)) (σ.set i (some v)) := by
  refine ⟨by simp [h.1], fun j e q => ?_⟩
  by_cases c : i = j
  · subst c
    by_cases l : i < dσ.length
    · rw [List.getElem?_set_self l] at q; cases q
      exact ⟨v, List.getElem?_set_self (by rw [← h.1]; exact l), r⟩
    · rw [List.getElem?_eq_none (by simpa using l)] at q; cases q
  · rw [List.getElem?_set_ne c] at q ⊢
    exact h.2 j e q
theorem RelS.unset {K : PySem.W.Frag} {H : Hp} {dσ : DS} {σ : L2.St} {i : Nat} (h : RelS K H dσ σ) : RelS K H (dσ.set i none) (σ.set i none) := by
  refine ⟨by simp [h.1], fun j e q => ?_⟩
  by_cases c : i = j
  · subst c
    by_cases l : i < dσ.length
    · rw [List.getElem?_set_self l] at q; cases q
    · rw [List.getElem?_eq_none (by simpa using l)] at q; cases q
  · rw [List.getElem?_set_ne c] at q ⊢
    exact h.2 j e q
def dwipe (σ : DS) : List Nat → DS
  | [] => σ
  | v :: vs => (dwipe σ vs).set v none
theorem RelS.wipe {K : PySem.W.Frag} {H : Hp} {dσ : DS} {σ : L2.St} (h : RelS K H dσ σ) : ∀ vs : List Nat, RelS K H (dwipe dσ vs) (wipe σ vs)
  | [] => h
  | _ :: vs => (RelS.wipe h vs).unset

/-! ### readings over plain data, and the layer's reading of one -/
abbrev DQ := D → AH → Prop
abbrev DTE := DS → AH → DQ → Prop
abbrev DTT := DS → AH → (Bool → AH → Prop) → Prop
abbrev DTA := DS → AH → (List D → AH → Prop) → Prop
structure DE where
  nx : DS → AH → Prop
  rt : DQ
  bk : DS → AH → Prop := fun _ _ => False
  ct : DS → AH → Prop := fun _ _ => False
abbrev DTS := DE → DS → AH → Prop
abbrev _root_.L2.Cx.b (X : Cx) : Bs := ⟨X.prog, X.w, X.K⟩

/-- what is wanted of the layer's values follows -/
def Kp (B : Bs) (H : Hp) (R : DQ) (Q : VK) : Prop := ∀ d A' v H', R d A' → RelH B A' H' → RelD B.K H' d v → Grow H H' → Q v H'
theorem Kp.at {B : Bs} {H : Hp} {R : DQ} {Q : VK} {d : D} {A : AH} {v : V} (k : Kp B H R Q) (r : R d A) (h : RelH B A H) (q : RelD B.K H d v) : Q v H := k d A v H r h q Grow.refl
theorem Kp.from {B : Bs} {H H1 : Hp} {R : DQ} {Q : VK} (k : Kp B H R Q) (g : Grow H H1) : Kp B H1 R Q := fun d A v H' r h q g' => k d A v H' r h q (g.trans g')
theorem Kp.id {B : Bs} {H : Hp} {R : DQ} : Kp B H R (fun v H' => ∃ d A', R d A' ∧ RelH B A' H' ∧ RelD B.K H' d v ∧ Grow H H') := fun d A v H' r h q g => ⟨d, A, r, h, q, g⟩
def lE (B : Bs) (t : DTE) : TE := fun σ H Q => ∃ dσ A R, RelH B A H ∧ RelS B.K H dσ σ ∧ t dσ A R ∧ Kp B H R Q
def lT (B : Bs) (t : DTT) : TT := fun σ H Q => ∃ dσ A R, RelH B A H ∧ RelS B.K H dσ σ ∧ t dσ A R ∧ ∀ b A' H', R b A' → RelH B A' H' → Grow H H' → Q b H'
def lA (B : Bs) (n : Nat) (t : DTA) : TA := fun σ H Q => ∃ dσ A R, RelH B A H ∧ RelS B.K H dσ σ ∧ t dσ A R ∧ ∀ ds A' vs H', R ds A' → ds.length = n → RelH B A' H' → RelL B.K H' ds vs → Grow H H' → Q vs H'
structure Kd (B : Bs) (H : Hp) (DD : DE) (D : Ends) : Prop where
  nx : ∀ dσ A σ H', DD.nx dσ A → RelH B A H' → RelS B.K H' dσ σ → Grow H H' → D.nx σ H'
  rt : Kp B H DD.rt D.rt
  bk : ∀ dσ A σ H', DD.bk dσ A → RelH B A H' → RelS B.K H' dσ σ → Grow H H' → D.bk σ H'
  ct : ∀ dσ A σ H', DD.ct dσ A → RelH B A H' → RelS B.K H' dσ σ → Grow H H' → D.ct σ H'
theorem Kd.from {B : Bs} {H H1 : Hp} {DD : DE} {D : Ends} (k : Kd B H DD D) (g : Grow H H1) : Kd B H1 DD D :=
  ⟨fun a b c d e f h i => k.nx a b c d e f h (g.trans i), k.rt.from g, fun a b c d e f h i => k.bk a b c d e f h (g.trans i), fun a b c d e f h i => k.ct a b c d e f h (g.trans i)⟩
def lS (B : Bs) (t : DTS) : TS := fun D σ H => ∃ dσ A DD, RelH B A H ∧ RelS B.K H dσ σ ∧ t DD dσ A ∧ Kd B H DD D

abbrev QE (X : Cx) (e : Expr) (t : DTE) : Prop := PE X e (lE X.b t)
abbrev QT (X : Cx) (e : Expr) (t : DTT) : Prop := PT X e (lT X.b t)
abbrev QA (X : Cx) (es : List Expr) (t : DTA) : Prop := PA X es (lA X.b es.length t)
abbrev QS (X : Cx) (st : Stmt) (t : DTS) : Prop := PS X st (lS X.b t)
abbrev QSs (X : Cx) (st : List Stmt) (t : DTS) : Prop := PSs X st (lS X.b t)
section
variable {X : Cx}
theorem imE {e : Expr} {t t' : TE} (h : PE X e t) (w : ∀ σ H Q, t' σ H Q → t σ H Q) : PE X e t' := ⟨fun p s σ H Q I q => h.run p s σ H Q I (w σ H Q q)⟩
theorem imT {e : Expr} {t t' : TT} (h : PT X e t) (w : ∀ σ H Q, t' σ H Q → t σ H Q) : PT X e t' := ⟨fun p s σ H Q I q => h.run p s σ H Q I (w σ H Q q)⟩
theorem imW {e : Expr} {t t' : TT} (h : PW X e t) (w : ∀ σ H Q, t' σ H Q → t σ H Q) : PW X e t' := ⟨fun wh p s σ H Q I q => h.run wh p s σ H Q I (w σ H Q q)⟩
theorem imA {e : List Expr} {t t' : TA} (h : PA X e t) (w : ∀ σ H Q, t' σ H Q → t σ H Q) : PA X e t' := ⟨fun po p s σ H Q I q => h.run po p s σ H Q I (w σ H Q q)⟩
theorem imS {e : Stmt} {t t' : TS} (h : PS X e t) (w : ∀ D σ H, t' D σ H → t D σ H) : PS X e t' := ⟨fun p s σ H D I q => h.run p s σ H D I (w D σ H q)⟩
theorem imSs {e : List Stmt} {t t' : TS} (h : PSs X e t) (w : ∀ D σ H, t' D σ H → t D σ H) : PSs X e t' := ⟨fun p s σ H D I q => h.run p s σ H D I (w D σ H q)⟩
end

/-! ### names, constants -/
def dC (d : D) : DTE := fun _ A Q => Q d A
def dV (i : Nat) : DTE := fun σ A Q => match σ[i]? with
  | some (some d) => Q d A
  | _ => False
section
variable {X : Cx} {pos : Pos}
theorem qe_cst {e : Expr} {v : V} {d : D} (h : PE X e (tC v)) (r : ∀ H, RelD X.K H d v) : QE X e (dC d) := imE h fun σ H Q ⟨_, A, R, hA, _, t, k⟩ => k.at (show R d A from t) hA (r H)
theorem qe_int {i j} : QE X (.Constant (.int i) j pos) (dC (.int i)) := qe_cst pe_int fun _ => rfl
theorem qe_bl {b j} : QE X (.Constant (.bool b) j pos) (dC (.bl b)) := qe_cst pe_bl fun _ => rfl
theorem qe_non {j} : QE X (.Constant .none j pos) (dC .non) := qe_cst pe_non fun _ => rfl
theorem qe_str {x : Str} {j} (l : List Nat) (h : x = ⟨l.toArray⟩) (hc : (l.all fun c => decide (c < 1114112)) = true) : QE X (.Constant (.str x) j pos) (dC (.str l)) :=
  qe_cst pe_str fun _ => ⟨congrArg V.str h, fun c m => of_decide_eq_true (List.all_eq_true.mp hc c m)⟩
theorem qe_var (i : Nat) {x : Str} (hN : X.N[i]? = some x := by rfl) (hv : Vis X.env.scope x := by first | exact Or.inl rfl | exact Or.inr (Or.inl rfl) | exact Or.inr (Or.inr rfl)) (hd : (x == ("__debug__" : Str)) = false := by decide)
    (hcd : (x == ("__classdict__" : Str)) = false := by decide) : QE X (.Name x pos) (dV i) := imE (pe_var hN hv hd hcd) fun σ H Q ⟨dσ, A, R, hA, hS, t, k⟩ => by
  unfold dV at t
  split at t
  · rename_i d q
    obtain ⟨v, e, r⟩ := hS.2 i d q
    exact ⟨v, e, k.at t hA r⟩
  · exact t.elim
end

/-! ### operators by values -/
abbrev DR2 := D → D → AH → DQ → Prop
abbrev DR1 := D → AH → DQ → Prop
abbrev DRn := List D → AH → DQ → Prop
structure DOp (X : Cx) (g : Value → Value → Sem Value) (f : DR2) : Prop where
  ex : ∃ r : R2, OpR X g r ∧ ∀ x y A R v u H Q, RelH X.b A H → RelD X.K H x v → RelD X.K H y u → f x y A R → Kp X.b H R Q → r v u H Q
structure DUn (X : Cx) (g : Value → Sem Value) (f : DR1) : Prop where
  ex : ∃ r, UnR X g r ∧ ∀ x A R v H Q, RelH X.b A H → RelD X.K H x v → f x A R → Kp X.b H R Q → r v H Q
structure DCa (X : Cx) (g : Value) (f : DRn) : Prop where
  ex : ∃ r, CallR X g r ∧ ∀ x A R v H Q, RelH X.b A H → RelL X.K H x v → f x A R → Kp X.b H R Q → r v H Q
structure DIx (X : Cx) (f : DR2) : Prop where
  ex : ∃ r : R2, IxR X r ∧ ∀ x y A R v u H Q, RelH X.b A H → RelD X.K H x v → RelD X.K H y u → f x y A R → Kp X.b H R Q → r v u H Q
def dOp (f : DR2) (ta tb : DTE) : DTE := fun σ A Q => ta σ A fun x A1 => tb σ A1 fun y A2 => f x y A2 Q
def dUn (f : DR1) (ta : DTE) : DTE := fun σ A Q => ta σ A fun x A1 => f x A1 Q
def dNil : DTA := fun _ A Q => Q [] A
def dCons (ta : DTE) (tr : DTA) : DTA := fun σ A Q => ta σ A fun x A1 => tr σ A1 fun xs A2 => Q (x :: xs) A2
def dCall (f : DRn) (ta : DTA) : DTE := fun σ A Q => ta σ A fun xs A1 => f xs A1 Q
section
variable {X : Cx} {a b : Expr} {ta tb : DTE} {pos : Pos}
/-- two in a row -/
theorem two {B : Bs} {r : R2} {f : DR2} (hr : ∀ x y A R v u H Q, RelH B A H → RelD B.K H x v → RelD B.K H y u → f x y A R → Kp B H R Q → r v u H Q) : ∀ σ H Q, lE B (dOp f ta tb) σ H Q → tOp r (lE B ta) (lE B tb) σ H Q := by
  intro σ H Q ⟨dσ, A, R, hA, hS, t, k⟩
  refine ⟨dσ, A, _, hA, hS, t, fun x A1 v H1 t1 hA1 rx g1 => ?_⟩
  refine ⟨dσ, A1, _, hA1, hS.grow g1, t1, fun y A2 u H2 t2 hA2 ry g2 => ?_⟩
  exact hr x y A2 R v u H2 Q hA2 (rx.grow g2) ry t2 (k.from (g1.trans g2))
theorem qe_op {op : Operator} {f : DR2} (ho : DOp X (binaryOp op) f) (ha : QE X a ta) (hb : QE X b tb) : QE X (.BinOp a op b pos) (dOp f ta tb) := by
  obtain ⟨r, h, hr⟩ := ho.ex
  exact imE (pe_op h ha hb) (two hr)
theorem qe_cmp {op : CmpOp} {f : DR2} (ho : DOp X (compareOp op) f) (ha : QE X a ta) (hb : QE X b tb) (hm : behindInMarks op b = false := by first | exact nomark _ | rfl) : QE X (.Compare a [op] [b] pos) (dOp f ta tb) := by
  obtain ⟨r, h, hr⟩ := ho.ex
  exact imE (pe_cmpR h ha hb hm) (two hr)
theorem qe_un {op : UnaryOp} {f : DR1} (ho : DUn X (unaryOp op) f) (ha : QE X a ta) : QE X (.UnaryOp op a pos) (dUn f ta) := by
  obtain ⟨r, h, hr⟩ := ho.ex
  refine imE (pe_un h ha) ?_
  intro σ H Q ⟨dσ, A, R, hA, hS, t, k⟩
  exact ⟨dσ, A, _, hA, hS, t, fun x A1 v H1 t1 hA1 rx g1 => hr x A1 R v H1 Q hA1 rx t1 (k.from g1)⟩
theorem qe_ix {f : DR2} (ho : DIx X f) (ha : QE X a ta) (hb : QE X b tb) (hs : PlainIx b := by exact fun _ _ => rfl) : QE X (.Subscript a b pos) (dOp f ta tb) := by
  obtain ⟨r, h, hr⟩ := ho.ex
  exact imE (pe_ix h ha hb hs) (two hr)
theorem qa_nil : QA X [] dNil := imA pa_nil fun σ H Q ⟨dσ, A, R, hA, hS, t, k⟩ => k [] A [] H t rfl hA rfl Grow.refl
theorem qa_cons {e : Expr} {es : List Expr} {te : DTE} {t : DTA} (ha : QE X e te) (hr : QA X es t) (hs : starEach (e :: es) X.env = (false, eval e X.env) :: starEach es X.env := by rfl) : QA X (e :: es) (dCons te t) := by
  refine imA (pa_cons ha hr hs) ?_
  intro σ H Q ⟨dσ, A, R, hA, hS, t, k⟩
  refine ⟨dσ, A, _, hA, hS, t, fun x A1 v H1 t1 hA1 rx g1 => ?_⟩
  refine ⟨dσ, A1, _, hA1, hS.grow g1, t1, fun xs A2 vs H2 t2 l2 hA2 rxs g2 => ?_⟩
  exact k (x :: xs) A2 (v :: vs) H2 t2 (by simp [l2]) hA2 (RelL.cons (rx.grow g2) rxs) (g1.trans g2)
theorem alls {B : Bs} {n : Nat} {r : List V → Hp → VK → Prop} {f : DRn} {t : DTA} (hr : ∀ x A R v H Q, RelH B A H → RelL B.K H x v → f x A R → Kp B H R Q → r v H Q) : ∀ σ H Q, lE B (dCall f t) σ H Q → tCB r (lA B n t) σ H Q := by
  intro σ H Q ⟨dσ, A, R, hA, hS, t, k⟩
  exact ⟨dσ, A, _, hA, hS, t, fun xs A1 vs H1 t1 _ hA1 rx g1 => hr xs A1 R vs H1 Q hA1 rx t1 (k.from g1)⟩
theorem qe_callB {x : Str} {id : String} {f : DRn} {e : Expr} {es : List Expr} {t : DTA} {p : Pos} (hc : DCa X (.builtin id) f) (hg : Gl X x) (hm : X.mg x = none) (hv : bootBuiltins x = some (.builtin id)) (ha : QA X (e :: es) t) (hn : x ≠ "__name__" := by decide) (hdb : (x == ("__debug__" : Str)) = false := by decide)
    (hs : starEach (e :: es) X.env = (false, eval e X.env) :: starEach es X.env := by rfl) (hpl : (backTo pos (starEach es X.env)).any (·.1) = false := by rfl) : QE X (.Call (.Name x p) (e :: es) [] pos) (dCall f t) := by
  obtain ⟨r, h, hr⟩ := hc.ex
  exact imE (pe_callB h hg hm hv ha hn hdb hs hpl) (alls hr)
theorem qe_callTy {x : Str} {T : String} {f : DRn} {e : Expr} {es : List Expr} {t : DTA} {p : Pos} (hc : DCa X (.type T) f) (hg : Gl X x) (hm : X.mg x = none) (hv : bootBuiltins x = some (.type T)) (ha : QA X (e :: es) t) (hn : x ≠ "__name__" := by decide) (hdb : (x == ("__debug__" : Str)) = false := by decide)
    (hs : starEach (e :: es) X.env = (false, eval e X.env) :: starEach es X.env := by rfl) (hpl : (backTo pos (starEach es X.env)).any (·.1) = false := by rfl) : QE X (.Call (.Name x p) (e :: es) [] pos) (dCall f t) := by
  obtain ⟨r, h, hr⟩ := hc.ex
  exact imE (pe_callTy h hg hm hv ha hn hdb hs hpl) (alls hr)
end
end DL
set_option Elab.async false
set_option linter.all false
set_option maxRecDepth 100000
set_option maxHeartbeats 4000000
/-! DL2: operators by values. -/
namespace DL
open PySem PySem.Spec PyProof.Rows L2

abbrev SL : Nat := 16777216
theorem SL_eq : sizeLine = SL := sizeLine_eq

/-! ### data told as a tree -/
inductive T where
  | non | bl (b : Bool) | int (i : Int) | str (l : List Nat) | tup (l : List T) | lst (l : List T)
mutual
def T.py : T → PyData
  | .non => .none | .bl b => .bool b | .int i => .int i | .str l => .str ⟨l.toArray⟩ | .tup l => .tuple (T.pys l) | .lst l => .list (T.pys l)
def T.pys : List T → List PyData
  | [] => []
  | t :: ts => T.py t :: T.pys ts
end
mutual
def T.dep : T → Nat
  | .tup l => T.deps l + 1
  | .lst l => T.deps l + 1
  | _ => 0
def T.deps : List T → Nat
  | [] => 0
  | t :: ts => max (T.dep t) (T.deps ts)
end
mutual
/-- == -/
def T.eqv : T → T → Bool
  | .non, .non => true
  | .bl a, .bl b => a == b
  | .bl a, .int j => (if a then 1 else 0) == j
  | .int i, .bl b => i == (if b then 1 else 0)
  | .int i, .int j => i == j
  | .str x, .str y => x == y
  | .lst x, .lst y => T.eqvs x y
  | .tup x, .tup y => T.eqvs x y
  | _, _ => false
def T.eqvs : List T → List T → Bool
  | [], [] => true
  | x :: xs, y :: ys => T.eqv x y && T.eqvs xs ys
  | _, _ => false
end
mutual
theorem eqv_py : ∀ x y : T, PyData.eqv x.py y.py = T.eqv x y
  | .non, y => by cases y <;> rfl
  | .bl a, y => by cases y <;> rfl
  | .int i, y => by cases y <;> rfl
  | .str x, y => by
    cases y <;> try rfl
    rename_i l
    simp only [T.py, PyData.eqv, T.eqv]
    rw [Bool.eq_iff_iff]; simp
  | .tup x, y => by
    cases y <;> try rfl
    simp only [T.py, PyData.eqv, T.eqv]
    exact eqvs_py _ _
  | .lst x, y => by
    cases y <;> try rfl
    simp only [T.py, PyData.eqv, T.eqv]
    exact eqvs_py _ _
theorem eqvs_py : ∀ x y : List T, PyData.eqvAll (T.pys x) (T.pys y) = T.eqvs x y
  | [], [] => rfl
  | [], _ :: _ => rfl
  | _ :: _, [] => rfl
  | x :: xs, y :: ys => by
    simp only [T.pys, PyData.eqvAll, T.eqvs]
    rw [eqv_py, eqvs_py]
end
mutual
theorem T.eqv_refl : ∀ t : T, T.eqv t t = true
  | .non => rfl
  | .bl a => by simp [T.eqv]
  | .int i => by simp [T.eqv]
  | .str x => by simp [T.eqv]
  | .tup x => T.eqvs_refl x
  | .lst x => T.eqvs_refl x
theorem T.eqvs_refl : ∀ t : List T, T.eqvs t t = true
  | [] => rfl
  | t :: ts => by simp [T.eqvs, T.eqv_refl t, T.eqvs_refl ts]
end
mutual
/-- what d is at the heap A -/
def Snap (A : AH) : D → T → Prop
  | d, .non => d = .non
  | d, .bl b => d = .bl b
  | d, .int i => d = .int i
  | d, .str l => d = .str l
  | d, .tup ts => ∃ ds, d = .tup ds ∧ Snaps A ds ts
  | d, .lst ts => (∃ a ds, d = .ref a ∧ A a = some (.lst ds) ∧ Snaps A ds ts) ∨ ∃ ds, d = .cl ds ∧ Snaps A ds ts
def Snaps (A : AH) : List D → List T → Prop
  | ds, [] => ds = []
  | ds, t :: ts => ∃ d r, ds = d :: r ∧ Snap A d t ∧ Snaps A r ts
end
theorem arr_ok {l : List Nat} (h : ∀ c ∈ l, c < 1114112) : PyData.strOk ⟨l.toArray⟩ = true := by
  unfold PyData.strOk
  simp only [List.all_toArray, List.all_eq_true, decide_eq_true_eq]
  exact h
mutual
theorem snap_dp {B : Bs} {A : AH} {H : Hp} (hA : RelH B A H) : ∀ (t : T) (d : D) (v : V), Snap A d t → RelD B.K H d v → Dp B.K H v t.py ∧ t.py.canLay0 = true ∧ t.py.depth = t.dep
  | .non, _, _, h, r => by
    have h : _ = D.non := h
    subst h; have r : _ = V.non := r; subst r; exact ⟨.non, rfl, rfl⟩
  | .bl b, _, _, h, r => by
    have h : _ = D.bl b := h
    subst h; have r : _ = V.bl b := r; subst r; exact ⟨.bl b, rfl, rfl⟩
  | .int i, _, _, h, r => by
    have h : _ = D.int i := h
    subst h; have r : _ = V.int i := r; subst r; exact ⟨.int i, rfl, rfl⟩
  | .str l, _, _, h, r => by
    have h : _ = D.str l := h
    subst h; obtain ⟨r, q⟩ := (show _ = V.str ⟨l.toArray⟩ ∧ _ from r); subst r; exact ⟨.str _, arr_ok q, rfl⟩
  | .tup ts, _, _, h, r => by
    obtain ⟨ds, rfl, hs⟩ := (show ∃ ds, _ = D.tup ds ∧ Snaps A ds ts from h)
    obtain ⟨a, vs, rfl, ta, rl⟩ := (show ∃ a vs, _ = V.ref a ∧ TupAt B.K H a vs ∧ RelL B.K H ds vs from r)
    obtain ⟨h1, h2, h3⟩ := snaps_dp hA ts ds vs hs rl
    exact ⟨.tup ta.seq h1, h2, by simp only [T.py, PyData.depth, T.dep, h3]⟩
  | .lst ts, _, _, h, r => by
    rcases (show (∃ a ds, _ = D.ref a ∧ A a = some (.lst ds) ∧ Snaps A ds ts) ∨ ∃ ds, _ = D.cl ds ∧ Snaps A ds ts from h) with ⟨a, ds, rfl, e, hs⟩ | ⟨ds, rfl, hs⟩
    · have r : _ = V.ref a := r
      subst r
      obtain ⟨vs, e2, rl⟩ := (show ∃ vs, H a = some (.lst vs) ∧ RelL B.K H ds vs from hA a _ e)
      obtain ⟨h1, h2, h3⟩ := snaps_dp hA ts ds vs hs rl
      exact ⟨.lst (.of e2) h1, h2, by simp only [T.py, PyData.depth, T.dep, h3]⟩
    · obtain ⟨a, vs, rfl, ta, rl⟩ := (show ∃ a vs, _ = V.ref a ∧ CstAt B.K H a vs ∧ RelL B.K H ds vs from r)
      obtain ⟨h1, h2, h3⟩ := snaps_dp hA ts ds vs hs rl
      exact ⟨.lst ta.seq h1, h2, by simp only [T.py, PyData.depth, T.dep, h3]⟩
theorem snaps_dp {B : Bs} {A : AH} {H : Hp} (hA : RelH B A H) : ∀ (t : List T) (d : List D) (v : List V), Snaps A d t → RelL B.K H d v → DpAll B.K H v (T.pys t) ∧ PyData.canLayAll0 (T.pys t) = true ∧ PyData.depthAll (T.pys t) = T.deps t
  | [], _, _, h, r => by
    have h : _ = [] := h
    subst h; have r : _ = [] := r; subst r; exact ⟨.nil, rfl, rfl⟩
  | t :: ts, _, _, h, r => by
    obtain ⟨d, ds, rfl, h1, h2⟩ := (show ∃ d r, _ = d :: r ∧ Snap A d t ∧ Snaps A r ts from h)
    obtain ⟨v, vs, rfl, r1, r2⟩ := r
    obtain ⟨a1, a2, a3⟩ := snap_dp hA t d v h1 r1
    obtain ⟨b1, b2, b3⟩ := snaps_dp hA ts ds vs h2 r2
    refine ⟨.cons a1 b1, ?_, ?_⟩
    · simp only [T.pys, PyData.canLayAll0, a2, b2, Bool.and_self]
    · simp only [T.pys, PyData.depthAll, T.deps, a3, b3]
end
theorem snap_shaped {B : Bs} {A : AH} {H : Hp} (hA : RelH B A H) {t : T} {d : D} {v : V} (h : Snap A d t) (r : RelD B.K H d v) (hd : t.dep ≤ 64) : Dp B.K H v t.py ∧ SeqAt.shaped t.py = true := by
  obtain ⟨a, b, c⟩ := snap_dp hA t d v h r
  exact ⟨a, by unfold SeqAt.shaped; rw [b, c]; simpa using hd⟩

/-! ### arithmetic -/
def fAdd : DR2
  | .int i, .int j, A, Q => Q (.int (i + j)) A
  | .str s, .str t, A, Q => s.length + t.length ≤ SL ∧ Q (.str (s ++ t)) A
  | .ref a, .ref b, A, Q => match A a, A b with
    | some (.lst xs), some (.lst ys) => xs.length + ys.length ≤ SL ∧ ∀ p, A p = none → Q (.ref p) (up A p (.lst (xs ++ ys)))
    | _, _ => False
  | _, _, _, _ => False
def fI2 (g : Int → Int → D) : DR2
  | .int i, .int j, A, Q => Q (g i j) A
  | _, _, _, _ => False
def fI2C (C : Int → Int → Prop) (g : Int → Int → D) : DR2
  | .int i, .int j, A, Q => C i j ∧ Q (g i j) A
  | _, _, _, _ => False
/-- a product: one side small -/
def smallI (i : Int) : Prop := -18446744073709551616 < i ∧ i < 18446744073709551616
abbrev fSub : DR2 := fI2 fun i j => .int (i - j)
abbrev fMul : DR2 := fI2C (fun i j => smallI i ∨ smallI j) fun i j => .int (i * j)
abbrev fDiv : DR2 := fI2C (fun _ j => 0 < j ∧ j < 1073741824) fun i j => .int (i / j)
abbrev fMod : DR2 := fI2C (fun _ j => 0 < j) fun i j => .int (i % j)
abbrev fPow : DR2 := fI2C (fun i j => 0 ≤ j ∧ j ≤ 1000000 ∧ smallI i) fun i j => .int (i ^ j.toNat)
theorem toArray_app (s t : List Nat) : (⟨s.toArray⟩ : Str) ++ (⟨t.toArray⟩ : Str) = (⟨(s ++ t).toArray⟩ : Str) := by
  show (⟨s.toArray ++ t.toArray⟩ : Str) = _
  simp
section
variable {X : Cx}
theorem d_add : DOp X (binaryOp .Add) fAdd := by
  refine ⟨_, OpR.or op_add (OpR.or op_add_str op_cat), fun x y A R v u H Q hA rx ry h k => ?_⟩
  unfold fAdd at h
  split at h
  · cases rx; cases ry
    exact .inl ⟨_, _, rfl, rfl, k.at h hA rfl⟩
  · obtain ⟨rfl, cx⟩ := rx
    obtain ⟨rfl, cy⟩ := ry
    refine .inr (.inl ⟨_, _, rfl, rfl, ?_, ?_⟩)
    · rw [SL_eq]; exact h.1
    · rw [toArray_app]
      exact k.at h.2 hA ⟨rfl, fun c m => (List.mem_append.mp m).elim (cx c) (cy c)⟩
  · rename_i a b A Q
    cases rx; cases ry
    split at h
    · rename_i xs ys ea eb
      obtain ⟨vs, e1, r1⟩ := hA _ _ ea
      obtain ⟨us, e2, r2⟩ := hA _ _ eb
      refine .inr (.inr ⟨_, _, vs, us, rfl, rfl, e1, e2, ?_, fun p hp => ?_⟩)
      · rw [SL_eq, ← r1.length, ← r2.length]; exact h.1
      · exact k _ _ _ _ (h.2 p (hA.free hp)) (hA.add hp ⟨_, upd_same, (r1.append r2).grow (Grow.new hp)⟩) rfl (Grow.new hp)
    · exact h.elim
  · exact h.elim
theorem d_i2 {g : Value → Value → Sem Value} {f : Int → Int → Int} (h : OpR X g (rI0 fun i j => .int (f i j))) : DOp X g (fI2 fun i j => .int (f i j)) := by
  refine ⟨_, h, fun x y A R v u H Q hA rx ry h k => ?_⟩
  unfold fI2 at h
  split at h
  · cases rx; cases ry
    exact ⟨_, _, rfl, rfl, k.at h hA rfl⟩
  · exact h.elim
theorem d_i2b {g : Value → Value → Sem Value} {f : Int → Int → Bool} (h : OpR X g (rI0 fun i j => .bl (f i j))) : DOp X g (fI2 fun i j => .bl (f i j)) := by
  refine ⟨_, h, fun x y A R v u H Q hA rx ry h k => ?_⟩
  unfold fI2 at h
  split at h
  · cases rx; cases ry
    exact ⟨_, _, rfl, rfl, k.at h hA rfl⟩
  · exact h.elim
theorem d_i2c {g : Value → Value → Sem Value} {C C' : Int → Int → Prop} {f : Int → Int → Int} (h : OpR X g (rI C' fun i j => .int (f i j))) (hC : ∀ i j, C i j → C' i j) : DOp X g (fI2C C fun i j => .int (f i j)) := by
  refine ⟨_, h, fun x y A R v u H Q hA rx ry h k => ?_⟩
  unfold fI2C at h
  split at h
  · cases rx; cases ry
    exact ⟨_, _, rfl, rfl, hC _ _ h.1, k.at h.2 hA rfl⟩
  · exact h.elim
theorem p64 : (2 : Int) ^ 64 = 18446744073709551616 := by decide
theorem d_sub : DOp X (binaryOp .Sub) fSub := d_i2 op_sub
theorem d_mul : DOp X (binaryOp .Mult) fMul := d_i2c op_mul fun i j h => by unfold CMul; rw [p64]; exact h
theorem d_div : DOp X (binaryOp .FloorDiv) fDiv := d_i2c op_fdiv fun i j h => h
theorem d_mod : DOp X (binaryOp .Mod) fMod := d_i2c op_mod fun i j h => h
theorem d_pow : DOp X (binaryOp .Pow) fPow := d_i2c op_pow fun i j ⟨a, b, c, d⟩ => ⟨a, b, by
  show i.natAbs < 18446744073709551616
  omega⟩
def fNeg : DR1
  | .int i, A, Q => Q (.int (-i)) A
  | _, _, _ => False
theorem d_neg : DUn X (unaryOp .USub) fNeg := by
  refine ⟨_, un_neg, fun x A R v H Q hA rx h k => ?_⟩
  unfold fNeg at h
  split at h
  · cases rx
    exact ⟨_, rfl, k.at h hA rfl⟩
  · exact h.elim

/-! ### comparisons -/
def fEq : DR2 := fun x y A Q => ∃ t u, Snap A x t ∧ Snap A y u ∧ t.dep ≤ 64 ∧ u.dep ≤ 64 ∧ Q (.bl (T.eqv t u)) A
def fNe : DR2 := fun x y A Q => ∃ t u, Snap A x t ∧ Snap A y u ∧ t.dep ≤ 64 ∧ u.dep ≤ 64 ∧ Q (.bl (!T.eqv t u)) A
theorem d_eq (hu : X.A.units + 64 < cLine) : DOp X (compareOp .Eq) fEq := by
  refine ⟨_, op_eqD hu, fun x y A R v u H Q hA rx ry ⟨t, w, h1, h2, h3, h4, q⟩ k => ?_⟩
  obtain ⟨a1, a2⟩ := snap_shaped hA h1 rx h3
  obtain ⟨b1, b2⟩ := snap_shaped hA h2 ry h4
  exact ⟨_, _, a1, b1, a2, b2, by rw [eqv_py]; exact k.at q hA rfl⟩
theorem d_ne (hu : X.A.units + 64 < cLine) : DOp X (compareOp .NotEq) fNe := by
  refine ⟨_, op_neD hu, fun x y A R v u H Q hA rx ry ⟨t, w, h1, h2, h3, h4, q⟩ k => ?_⟩
  obtain ⟨a1, a2⟩ := snap_shaped hA h1 rx h3
  obtain ⟨b1, b2⟩ := snap_shaped hA h2 ry h4
  exact ⟨_, _, a1, b1, a2, b2, by rw [eqv_py]; exact k.at q hA rfl⟩
theorem d_lt : DOp X (compareOp .Lt) (fI2 fun i j => .bl (decide (i < j))) := d_i2b op_lt
theorem d_le : DOp X (compareOp .LtE) (fI2 fun i j => .bl (decide (i ≤ j))) := d_i2b op_le
theorem d_gt : DOp X (compareOp .Gt) (fI2 fun i j => .bl (decide (j < i))) := d_i2b op_gt
theorem d_ge : DOp X (compareOp .GtE) (fI2 fun i j => .bl (decide (j ≤ i))) := d_i2b op_ge
def D.isNon : D → Bool
  | .non => true
  | _ => false
theorem RelD.isNon {K : PySem.W.Frag} {H : Hp} : ∀ {d : D} {v : V}, RelD K H d v → decide (v = .non) = d.isNon
  | .non, _, h => by cases h; rfl
  | .bl _, _, h => by cases h; rfl
  | .int _, _, h => by cases h; rfl
  | .str _, _, h => by cases h.1; rfl
  | .ref _, _, h => by cases h; rfl
  | .tup _, _, ⟨_, _, e, _⟩ => by cases e; rfl
  | .cl _, _, ⟨_, _, e, _⟩ => by cases e; rfl
/-- is None; is of bools -/
def fIs : DR2
  | x, .non, A, Q => Q (.bl x.isNon) A
  | .bl a, .bl b, A, Q => Q (.bl (a == b)) A
  | _, _, _, _ => False
def fNot : DR2
  | x, .non, A, Q => Q (.bl (!x.isNon)) A
  | .bl a, .bl b, A, Q => Q (.bl (!(a == b))) A
  | _, _, _, _ => False
theorem d_is : DOp X (compareOp .Is) fIs := by
  refine ⟨_, OpR.or op_isN op_isBl, fun x y A R v u H Q hA rx ry h k => ?_⟩
  unfold fIs at h
  split at h
  · cases ry
    exact .inl ⟨rfl, by rw [rx.isNon]; exact k.at h hA rfl⟩
  · cases rx; cases ry
    refine .inr ⟨_, _, rfl, rfl, k.at (d := .bl _) ?_ hA rfl⟩
    rw [← Bool.beq_eq_decide_eq]; exact h
  · exact h.elim
theorem d_isnot : DOp X (compareOp .IsNot) fNot := by
  refine ⟨_, OpR.or op_notN op_notBl, fun x y A R v u H Q hA rx ry h k => ?_⟩
  unfold fNot at h
  split at h
  · cases ry
    exact .inl ⟨rfl, by rw [rx.isNon]; exact k.at h hA rfl⟩
  · cases rx; cases ry
    refine .inr ⟨_, _, rfl, rfl, k.at (d := .bl _) ?_ hA rfl⟩
    rw [← Bool.beq_eq_decide_eq]; exact h
  · exact h.elim
end
end DL
set_option Elab.async false
set_option linter.all false
set_option maxRecDepth 100000
set_option maxHeartbeats 4000000
/-! DL3: displays, tests, targets, statements, calls, loops, list comprehensions. -/
namespace DL
open PySem PySem.Spec PyProof.Rows L2

/-! ### displays -/
def dTup (t : DTA) : DTE := fun σ A Q => t σ A fun xs A1 => Q (.tup xs) A1
def dLst (t : DTA) : DTE := fun σ A Q => t σ A fun xs A1 => ∀ p, A1 p = none → Q (.ref p) (up A1 p (.lst xs))
section
variable {X : Cx} {es : List Expr} {t : DTA} {pos : Pos}
theorem le_line {n : Nat} (h : n ≤ 1000) : n ≤ sizeLine := by rw [SL_eq]; show n ≤ 16777216; omega
theorem qe_tup {k} (h : QA X es t) (hl : es.length ≤ 1000 := by simp) : QE X (.Tuple es k pos) (dTup t) := by
  refine imE (pe_tup h) ?_
  intro σ H Q ⟨dσ, A, R, hA, hS, q, k⟩
  refine ⟨dσ, A, _, hA, hS, q, fun ds A1 vs H1 q1 l1 hA1 rl g1 => ⟨?_, fun p hp => ?_⟩⟩
  · rw [← rl.length, l1]; exact le_line hl
  · exact k _ _ _ _ q1 (hA1.new hp) ⟨p, vs, rfl, .inl upd_same, rl.grow (Grow.new hp)⟩ (g1.trans (Grow.new hp))
theorem qe_lst (h : QA X es t) (hl : es.length ≤ 1000 := by simp) : QE X (.List es pos) (dLst t) := by
  refine imE (pe_lst h) ?_
  intro σ H Q ⟨dσ, A, R, hA, hS, q, k⟩
  refine ⟨dσ, A, _, hA, hS, q, fun ds A1 vs H1 q1 l1 hA1 rl g1 => ⟨?_, fun p hp => ?_⟩⟩
  · rw [← rl.length, l1]; exact le_line hl
  · exact k _ _ _ _ (q1 p (hA1.free hp)) (hA1.add hp ⟨vs, upd_same, rl.grow (Grow.new hp)⟩) rfl (g1.trans (Grow.new hp))
end

/-! ### tests -/
def truth (A : AH) : D → Option Bool
  | .non => some false
  | .bl b => some b
  | .int i => some (i != 0)
  | .str l => if l.length ≤ SL then some (!l.isEmpty) else none
  | .tup l => some (!l.isEmpty)
  | .cl l => some (!l.isEmpty)
  | .ref a => match A a with
    | some (.lst xs) => some (!xs.isEmpty)
    | _ => none
theorem RelL.isEmpty {K : PySem.W.Frag} {H : Hp} {ds : List D} {vs : List V} (r : RelL K H ds vs) : (!ds.isEmpty) = !vs.isEmpty := by
  have := r.length
  cases ds <;> cases vs <;> simp_all
theorem truth_tru {B : Bs} {A : AH} {H : Hp} (hA : RelH B A H) : ∀ {d : D} {v : V} {k : Bool}, RelD B.K H d v → truth A d = some k → TruV B.K v H k
  | .non, _, _, r, e => by cases r; cases e; rfl
  | .bl b, _, _, r, e => by cases r; cases e; rfl
  | .int i, _, _, r, e => by cases r; cases e; rfl
  | .str l, _, _, r, e => by
    obtain ⟨rfl, _⟩ := r
    have e : (if l.length ≤ SL then some (!l.isEmpty) else none) = _ := e
    by_cases h : l.length ≤ SL
    · rw [if_pos h] at e
      cases e
      refine ⟨?_, ?_⟩
      · rw [SL_eq]; show l.toArray.size ≤ _; simpa using h
      · show (!l.isEmpty) = (((l.toArray.size : Nat) : Int) != 0)
        cases l with
        | nil => simp
        | cons a l => simp; omega
    · rw [if_neg h] at e; cases e
  | .tup l, _, _, ⟨a, vs, rfl, t, r⟩, e => by cases e; exact .inr (.inl ⟨vs, t.seq, r.isEmpty⟩)
  | .cl l, _, _, ⟨a, vs, rfl, t, r⟩, e => by cases e; exact .inl ⟨vs, t.seq, r.isEmpty⟩
  | .ref a, _, _, r, e => by
    cases r
    have e : (match A a with | some (.lst xs) => some (!xs.isEmpty) | _ => none) = _ := e
    split at e
    · rename_i xs h
      cases e
      obtain ⟨vs, e1, r1⟩ := hA _ _ h
      exact .inl ⟨vs, .of e1, r1.isEmpty⟩
    · cases e
def dB (t : DTE) : DTT := fun σ A Q => t σ A fun x A1 => match x with
  | .bl c => Q c A1
  | _ => False
def dTru (t : DTE) : DTT := fun σ A Q => t σ A fun x A1 => match truth A1 x with
  | some c => Q c A1
  | none => False
def dAndT (t u : DTT) : DTT := fun σ A Q => t σ A fun c A1 => if c = true then u σ A1 Q else Q false A1
def dOrT (t u : DTT) : DTT := fun σ A Q => t σ A fun c A1 => if c = true then Q true A1 else u σ A1 Q
def dNotT (t : DTT) : DTT := fun σ A Q => t σ A fun c A1 => Q (!c) A1
def dChain (f f' : DR2) (ta tb tc : DTE) : DTE := fun σ A Q => ta σ A fun x A1 => tb σ A1 fun y A2 => f x y A2 fun z A3 => match z with
  | .bl true => tc σ A3 fun w A4 => f' y w A4 Q
  | .bl false => Q (.bl false) A3
  | _ => False
def dAnd (ta tb : DTE) : DTE := fun σ A Q => ta σ A fun x A1 => match truth A1 x with
  | some true => tb σ A1 Q
  | some false => Q x A1
  | none => False
def dOr (ta tb : DTE) : DTE := fun σ A Q => ta σ A fun x A1 => match truth A1 x with
  | some true => Q x A1
  | some false => tb σ A1 Q
  | none => False
def dNotE (ta : DTE) : DTE := fun σ A Q => ta σ A fun x A1 => match truth A1 x with
  | some c => Q (.bl (!c)) A1
  | none => False
def dIfE (t : DTT) (ta tb : DTE) : DTE := fun σ A Q => t σ A fun c A1 => if c = true then ta σ A1 Q else tb σ A1 Q
abbrev QW (X : Cx) (e : Expr) (t : DTT) : Prop := PW X e (lT X.b t)
section
variable {X : Cx} {a b c : Expr} {ta tb tc : DTE} {t u : DTT} {rest : List Expr} {pos : Pos}
theorem bl_of {K : PySem.W.Frag} {H : Hp} {d : D} {b : Bool} {v : V} (r : RelD K H d v) (e : d = .bl b) : v = .bl b := by subst e; exact r
theorem dB_t {B : Bs} {ta : DTE} : ∀ σ H Q, lT B (dB ta) σ H Q → tB (lE B ta) σ H Q := by
  intro σ H Q ⟨dσ, A, R, hA, hS, q, k⟩
  refine ⟨dσ, A, _, hA, hS, q, fun x A1 v H1 q1 hA1 rx g1 => ?_⟩
  cases x with
  | bl c => exact ⟨c, rx, k c A1 H1 q1 hA1 g1⟩
  | _ => exact False.elim q1
theorem qt_val (h : QE X a ta) (he : ∀ whole, isTrue a X.env whole = (do let v ← whole; standAt a.pos; holding [v] (truthy v)) := by intro _; rfl) : QT X a (dB ta) := imT (pt_val h he) dB_t
theorem qt_cmp {op : CmpOp} {f : DR2} (ho : DOp X (compareOp op) f) (ha : QE X a ta) (hb : QE X b tb) (hm : behindInMarks op b = false := by first | exact nomark _ | rfl) : QT X (.Compare a [op] [b] pos) (dB (dOp f ta tb)) := by
  obtain ⟨r, h, hr⟩ := ho.ex
  refine imT (pt_cmpR h ha hb hm) ?_
  intro σ H Q hq
  exact two (B := X.b) hr σ H _ (dB_t (B := X.b) (ta := dOp f ta tb) σ H Q hq)
theorem qt_truth (h : QE X a ta) (he : ∀ whole, isTrue a X.env whole = (do let v ← whole; standAt a.pos; holding [v] (truthy v)) := by intro _; rfl) : QT X a (dTru ta) := by
  refine imT (pt_truth h he) ?_
  intro σ H Q ⟨dσ, A, R, hA, hS, q, k⟩
  refine ⟨dσ, A, _, hA, hS, q, fun x A1 v H1 q1 hA1 rx g1 => ?_⟩
  revert q1
  show (match truth A1 x with | some c => R c A1 | none => False) → _
  cases e : truth A1 x with
  | some c => exact fun q1 => ⟨c, truth_tru hA1 rx e, k c A1 H1 q1 hA1 g1⟩
  | none => exact fun q1 => q1.elim
theorem chain_t {B : Bs} {r r' : R2} {f f' : DR2} (hr : ∀ x y A R v u H Q, RelH B A H → RelD B.K H x v → RelD B.K H y u → f x y A R → Kp B H R Q → r v u H Q)
    (hr' : ∀ x y A R v u H Q, RelH B A H → RelD B.K H x v → RelD B.K H y u → f' x y A R → Kp B H R Q → r' v u H Q) : ∀ σ H Q, lE B (dChain f f' ta tb tc) σ H Q → tChain r r' (lE B ta) (lE B tb) (lE B tc) σ H Q := by
  intro σ H Q ⟨dσ, A, R, hA, hS, q, k⟩
  refine ⟨dσ, A, _, hA, hS, q, fun x A1 v H1 q1 hA1 rx g1 => ?_⟩
  refine ⟨dσ, A1, _, hA1, hS.grow g1, q1, fun y A2 u H2 q2 hA2 ry g2 => ?_⟩
  refine hr x y A2 _ v u H2 _ hA2 (rx.grow g2) ry q2 ?_
  intro z A3 zv H3 q3 hA3 rz g3
  cases z with
  | bl c =>
    refine ⟨c, rz, ?_⟩
    cases c with
    | false => exact iteF (k _ _ _ _ q3 hA3 rfl ((g1.trans g2).trans g3))
    | true =>
      refine iteT ⟨dσ, A3, _, hA3, hS.grow ((g1.trans g2).trans g3), q3, fun w A4 wv H4 q4 hA4 rw4 g4 => ?_⟩
      exact hr' y w A4 R u wv H4 Q hA4 ((ry.grow g3).grow g4) rw4 q4 (k.from (((g1.trans g2).trans g3).trans g4))
  | _ => exact False.elim q3
theorem qe_chain {op op' : CmpOp} {f f' : DR2} (ho : DOp X (compareOp op) f) (ho' : DOp X (compareOp op') f') (ha : QE X a ta) (hb : QE X b tb) (hc : QE X c tc)
    (hm : lastMarks [op, op'] [b, c] = false := by with_unfolding_all rfl) : QE X (.Compare a [op, op'] [b, c] pos) (dChain f f' ta tb tc) := by
  obtain ⟨r, h, hr⟩ := ho.ex
  obtain ⟨r', h', hr'⟩ := ho'.ex
  exact imE (pe_chain h h' ha hb hc hm) (chain_t hr hr')
theorem qt_chain {op op' : CmpOp} {f f' : DR2} (ho : DOp X (compareOp op) f) (ho' : DOp X (compareOp op') f') (ha : QE X a ta) (hb : QE X b tb) (hc : QE X c tc)
    (hm : lastMarks [op, op'] [b, c] = false := by with_unfolding_all rfl) : QT X (.Compare a [op, op'] [b, c] pos) (dB (dChain f f' ta tb tc)) := by
  obtain ⟨r, h, hr⟩ := ho.ex
  obtain ⟨r', h', hr'⟩ := ho'.ex
  refine imT (pt_chain h h' ha hb hc hm) ?_
  intro σ H Q hq
  exact chain_t hr hr' σ H _ (dB_t (B := X.b) (ta := dChain f f' ta tb tc) σ H Q hq)
theorem qw_and1 (ha : QT X a t) : QW X (.BoolOp .And [a] pos) t := pw_and1 ha
theorem qw_or1 (ha : QT X a t) : QW X (.BoolOp .Or [a] pos) t := pw_or1 ha
theorem qw_and (ha : QT X a t) (hb : QW X (.BoolOp .And (b :: rest) pos) u) : QW X (.BoolOp .And (a :: b :: rest) pos) (dAndT t u) := by
  refine imW (pw_and ha hb) ?_
  intro σ H Q ⟨dσ, A, R, hA, hS, q, k⟩
  refine ⟨dσ, A, _, hA, hS, q, fun c A1 H1 q1 hA1 g1 => ?_⟩
  cases c with
  | true => exact iteT ⟨dσ, A1, R, hA1, hS.grow g1, q1, fun c A2 H2 q2 hA2 g2 => k c A2 H2 q2 hA2 (g1.trans g2)⟩
  | false => exact iteF (k false A1 H1 q1 hA1 g1)
theorem qw_or (ha : QT X a t) (hb : QW X (.BoolOp .Or (b :: rest) pos) u) : QW X (.BoolOp .Or (a :: b :: rest) pos) (dOrT t u) := by
  refine imW (pw_or ha hb) ?_
  intro σ H Q ⟨dσ, A, R, hA, hS, q, k⟩
  refine ⟨dσ, A, _, hA, hS, q, fun c A1 H1 q1 hA1 g1 => ?_⟩
  cases c with
  | false => exact iteF ⟨dσ, A1, R, hA1, hS.grow g1, q1, fun c A2 H2 q2 hA2 g2 => k c A2 H2 q2 hA2 (g1.trans g2)⟩
  | true => exact iteT (k true A1 H1 q1 hA1 g1)
theorem qt_w (h : QW X a t) : QT X a t := PW.pt h
theorem qt_not (ha : QT X a t) : QT X (.UnaryOp .Not a pos) (dNotT t) := by
  refine imT (pt_not ha) ?_
  intro σ H Q ⟨dσ, A, R, hA, hS, q, k⟩
  exact ⟨dσ, A, _, hA, hS, q, fun c A1 H1 q1 hA1 g1 => k (!c) A1 H1 q1 hA1 g1⟩
theorem qe_one {op} (h : QE X a ta) : QE X (.BoolOp op [a] pos) ta := pe_one h
theorem qe_and (ha : QE X a ta) (hb : QE X (.BoolOp .And (b :: rest) pos) tb) : QE X (.BoolOp .And (a :: b :: rest) pos) (dAnd ta tb) := by
  refine imE (pe_andT ha hb) ?_
  intro σ H Q ⟨dσ, A, R, hA, hS, q, k⟩
  refine ⟨dσ, A, _, hA, hS, q, fun x A1 v H1 q1 hA1 rx g1 => ?_⟩
  revert q1
  show (match truth A1 x with | some true => tb dσ A1 R | some false => R x A1 | none => False) → _
  cases e : truth A1 x with
  | some c =>
    cases c with
    | true => exact fun q1 => ⟨true, truth_tru hA1 rx e, iteT ⟨dσ, A1, R, hA1, hS.grow g1, q1, k.from g1⟩⟩
    | false => exact fun q1 => ⟨false, truth_tru hA1 rx e, iteF (k x A1 v H1 q1 hA1 rx g1)⟩
  | none => exact fun q1 => q1.elim
theorem qe_or (ha : QE X a ta) (hb : QE X (.BoolOp .Or (b :: rest) pos) tb) : QE X (.BoolOp .Or (a :: b :: rest) pos) (dOr ta tb) := by
  refine imE (pe_orT ha hb) ?_
  intro σ H Q ⟨dσ, A, R, hA, hS, q, k⟩
  refine ⟨dσ, A, _, hA, hS, q, fun x A1 v H1 q1 hA1 rx g1 => ?_⟩
  revert q1
  show (match truth A1 x with | some true => R x A1 | some false => tb dσ A1 R | none => False) → _
  cases e : truth A1 x with
  | some c =>
    cases c with
    | false => exact fun q1 => ⟨false, truth_tru hA1 rx e, iteF ⟨dσ, A1, R, hA1, hS.grow g1, q1, k.from g1⟩⟩
    | true => exact fun q1 => ⟨true, truth_tru hA1 rx e, iteT (k x A1 v H1 q1 hA1 rx g1)⟩
  | none => exact fun q1 => q1.elim
theorem qe_not (ha : QE X a ta) : QE X (.UnaryOp .Not a pos) (dNotE ta) := by
  refine imE (pe_notT ha) ?_
  intro σ H Q ⟨dσ, A, R, hA, hS, q, k⟩
  refine ⟨dσ, A, _, hA, hS, q, fun x A1 v H1 q1 hA1 rx g1 => ?_⟩
  revert q1
  show (match truth A1 x with | some c => R (.bl (!c)) A1 | none => False) → _
  cases e : truth A1 x with
  | some c => exact fun q1 => ⟨c, truth_tru hA1 rx e, k _ _ _ _ q1 hA1 rfl g1⟩
  | none => exact fun q1 => q1.elim
theorem qe_if (hc : QT X c t) (ha : QE X a ta) (hb : QE X b tb) : QE X (.IfExp c a b pos) (dIfE t ta tb) := by
  refine imE (pe_ifExp hc ha hb) ?_
  intro σ H Q ⟨dσ, A, R, hA, hS, q, k⟩
  refine ⟨dσ, A, _, hA, hS, q, fun c A1 H1 q1 hA1 g1 => ?_⟩
  cases c with
  | true => exact iteT ⟨dσ, A1, R, hA1, hS.grow g1, q1, k.from g1⟩
  | false => exact iteF ⟨dσ, A1, R, hA1, hS.grow g1, q1, k.from g1⟩
end

/-! ### targets -/
abbrev DTG := D → DS → AH → (DS → AH → Prop) → Prop
abbrev DTGs := List D → DS → AH → (DS → AH → Prop) → Prop
/-- the slots vs alone are changed -/
structure QG (X : Cx) (tg : Expr) (g : DTG) (vs : List Nat) (gv : TG) : Prop where
  pg : PG X tg gv
  im : ∀ d v dσ A σ H R (Q : L2.St → Hp → Prop), RelH X.b A H → RelS X.K H dσ σ → RelD X.K H d v → g d dσ A R →
    (∀ dσ' A' σ' H', R dσ' A' → RelH X.b A' H' → RelS X.K H' dσ' σ' → Grow H H' → wipe σ' vs = wipe σ vs → Q σ' H') → gv v σ H Q
structure QGs (X : Cx) (tgs : List Expr) (g : DTGs) (vs : List Nat) (gv : TGs) : Prop where
  pg : PGs X tgs gv
  im : ∀ ds us dσ A σ H R (Q : L2.St → Hp → Prop), RelH X.b A H → RelS X.K H dσ σ → RelL X.K H ds us → g ds dσ A R →
    (∀ dσ' A' σ' H', R dσ' A' → RelH X.b A' H' → RelS X.K H' dσ' σ' → Grow H H' → wipe σ' vs = wipe σ vs → Q σ' H') → gv us σ H Q
theorem wipe_get {σ : L2.St} : ∀ (vs : List Nat) (j : Nat), (wipe σ vs)[j]? = if j ∈ vs ∧ j < σ.length then some none else σ[j]?
  | [], j => by simp [wipe]
  | v :: vs, j => by
    unfold wipe
    have ih := wipe_get (σ := σ) vs j
    by_cases c : v = j
    · subst c
      by_cases l : v < σ.length
      · rw [List.getElem?_set_self (by rw [wipe_length]; exact l)]; simp [l]
      · rw [List.getElem?_eq_none (by rw [List.length_set, wipe_length]; omega)]
        simp [l]
    · rw [List.getElem?_set_ne c, ih]
      have : (j ∈ v :: vs) = (j ∈ vs) := by simp [Ne.symm c]
      simp only [this]
theorem wipe_set {σ : L2.St} {i : Nat} {x : Option V} {vs : List Nat} (h : i ∈ vs) : wipe (σ.set i x) vs = wipe σ vs := by
  apply List.ext_getElem?
  intro j
  rw [wipe_get, wipe_get, List.length_set]
  by_cases c : j ∈ vs ∧ j < σ.length
  · rw [if_pos c, if_pos c]
  · rw [if_neg c, if_neg c]
    by_cases e : i = j
    · subst e
      have l : ¬ i < σ.length := fun l => c ⟨h, l⟩
      rw [List.getElem?_eq_none (by simpa using l), List.getElem?_eq_none (by simpa using l)]
    · rw [List.getElem?_set_ne e]
def dName (i : Nat) : DTG := fun d σ A Q => Q (σ.set i (some d)) A
def dgNil : DTGs := fun ds σ A Q => ds = [] ∧ Q σ A
def dgCons (g : DTG) (gs : DTGs) : DTGs := fun ds σ A Q => match ds with
  | d :: r => g d σ A fun σ' A' => gs r σ' A' Q
  | [] => False
def dgTup (gs : DTGs) : DTG := fun d σ A Q => match d with
  | .tup l => gs l σ A Q
  | _ => False
section
variable {X : Cx} {pos : Pos} {vs : List Nat}
theorem qg_name (i : Nat) {x : Str} (hN : X.N.Nodup) (hi : X.N[i]? = some x := by rfl) (hx : Loc X.env.scope x := by first | exact Or.inl rfl | exact Or.inr rfl) (hm : i ∈ vs := by simp) (hf : X.fn x = true ∨ X.env.scope.names.lookup x = some .local := by first | exact .inl rfl | exact .inr rfl) : QG X (.Name x pos) (dName i) vs (gName i) where
  pg := pg_name hN hi hx hf
  im := fun d v dσ A σ H R Q hA hS rd q k => k _ _ _ _ q hA (hS.set rd) Grow.refl (wipe_set hm)
theorem qgs_nil : QGs X [] dgNil vs gNil where
  pg := pgs_nil
  im := fun ds us dσ A σ H R Q hA hS rd q k => by
    obtain ⟨rfl, q⟩ := q
    cases rd
    exact ⟨rfl, k _ _ _ _ q hA hS Grow.refl rfl⟩
theorem qgs_cons {e : Expr} {es : List Expr} {g : DTG} {gs : DTGs} {gv : TG} {gvs : TGs} (h1 : QG X e g vs gv) (h2 : QGs X es gs vs gvs)
    (hs : (assignEach (e :: es) X.env).map (·.2) = assign e X.env :: (assignEach es X.env).map (·.2) := by rfl) : QGs X (e :: es) (dgCons g gs) vs (gCons gv gvs) where
  pg := pgs_cons h1.pg h2.pg hs
  im := fun ds us dσ A σ H R Q hA hS rd q k => by
    cases ds with
    | nil => exact q.elim
    | cons d r =>
      obtain ⟨v, us', rfl, rv, rr⟩ := rd
      refine ⟨v, us', rfl, h1.im d v dσ A σ H _ _ hA hS rv q fun dσ' A' σ' H' q' hA' hS' g' w' => ?_⟩
      exact h2.im r us' dσ' A' σ' H' R Q hA' hS' (rr.grow g') q' fun dσ2 A2 σ2 H2 q2 hA2 hS2 g2 w2 => k _ _ _ _ q2 hA2 hS2 (g'.trans g2) (w2.trans w')
theorem qg_tup {es : List Expr} {k : Nat} {gs : DTGs} {gvs : TGs} {n : Nat} (hc : X.calm = true) (h : QGs X es gs vs gvs) (hlen : ∀ l σ A Q, gs l σ A Q → l.length = n)
    (hn : (assignEach es X.env).length = n := by rfl) (hst : (assignEach es X.env).findIdx? (·.1) = none := by rfl) : QG X (.Tuple es k pos) (dgTup gs) vs (gTup X.K n gvs) where
  pg := pg_tup hc h.pg hn hst
  im := fun d v dσ A σ H R Q hA hS rd q k => by
    cases d with
    | tup l =>
      obtain ⟨a, vs', rfl, ta, rl⟩ := rd
      exact ⟨a, vs', rfl, ta.seq, by rw [← rl.length]; exact hlen l _ _ _ q, h.im l vs' dσ A σ H R Q hA hS rl q k⟩
    | _ => exact q.elim
/-- the length of what names take -/
theorem len_nil : ∀ l σ A Q, dgNil l σ A Q → l.length = 0 := fun l σ A Q h => by rw [h.1]; rfl
theorem len_name {i n : Nat} {gs : DTGs} (h : ∀ l σ A Q, gs l σ A Q → l.length = n) : ∀ l σ A Q, dgCons (dName i) gs l σ A Q → l.length = n + 1 := fun l σ A Q q => by
  cases l with
  | nil => exact q.elim
  | cons d r => simp [h r _ _ _ q]
end

/-! ### statements -/
def dNext : DTS := fun DD σ A => DD.nx σ A
def dSeq (t u : DTS) : DTS := fun DD σ A => t { DD with nx := u DD } σ A
def dBreak : DTS := fun DD σ A => DD.bk σ A
def dCont : DTS := fun DD σ A => DD.ct σ A
def dDrop (t : DTE) : DTS := fun DD σ A => t σ A fun _ A1 => DD.nx σ A1
def dRet (t : DTE) : DTS := fun DD σ A => t σ A DD.rt
def dRetN : DTS := fun DD σ A => DD.rt .non A
def dIf (c : DTT) (t u : DTS) : DTS := fun DD σ A => c σ A fun b A1 => if b = true then t DD σ A1 else u DD σ A1
def dAsg (t : DTE) (g : DTG) : DTS := fun DD σ A => t σ A fun x A1 => g x σ A1 DD.nx
def dNever : DTS := fun _ _ _ => False
section
variable {X : Cx} {st : Stmt} {rest : List Stmt} {t u : DTS} {e : Expr} {te : DTE} {pos : Pos}
theorem qs_nil : QSs X [] dNext := imSs pss_nil fun D σ H ⟨dσ, A, DD, hA, hS, q, k⟩ => k.nx _ _ _ _ q hA hS Grow.refl
theorem qs_cons (h1 : QS X st t) (h2 : QSs X rest u) : QSs X (st :: rest) (dSeq t u) := by
  refine imSs (pss_cons h1 h2) ?_
  intro D σ H ⟨dσ, A, DD, hA, hS, q, k⟩
  refine ⟨dσ, A, _, hA, hS, q, ⟨fun dσ' A' σ' H' q' hA' hS' g' => ?_, k.rt, k.bk, k.ct⟩⟩
  exact ⟨dσ', A', DD, hA', hS', q', k.from g'⟩
theorem qs_one (h1 : QS X st t) : QSs X [st] t := pss_one h1
theorem qs_pass : QS X (.Pass pos) dNext := imS ps_pass fun D σ H ⟨dσ, A, DD, hA, hS, q, k⟩ => k.nx _ _ _ _ q hA hS Grow.refl
theorem qs_break : QS X (.Break pos) dBreak := imS ps_break fun D σ H ⟨dσ, A, DD, hA, hS, q, k⟩ => k.bk _ _ _ _ q hA hS Grow.refl
theorem qs_continue : QS X (.Continue pos) dCont := imS ps_continue fun D σ H ⟨dσ, A, DD, hA, hS, q, k⟩ => k.ct _ _ _ _ q hA hS Grow.refl
theorem qs_expr (he : QE X e te) (hs : swapsWith e none pos.line X.env = pure false := by rfl) : QS X (.Expr e pos) (dDrop te) := by
  refine imS (ps_expr he hs) ?_
  intro D σ H ⟨dσ, A, DD, hA, hS, q, k⟩
  exact ⟨dσ, A, _, hA, hS, q, fun x A1 v H1 q1 hA1 rx g1 => k.nx _ _ _ _ q1 hA1 (hS.grow g1) g1⟩
theorem qs_ret (he : QE X e te) : QS X (.Return (some e) pos) (dRet te) := by
  refine imS (ps_ret he) ?_
  intro D σ H ⟨dσ, A, DD, hA, hS, q, k⟩
  exact ⟨dσ, A, _, hA, hS, q, k.rt⟩
theorem qs_retN : QS X (.Return none pos) dRetN := imS ps_retN fun D σ H ⟨dσ, A, DD, hA, hS, q, k⟩ => k.rt.at q hA rfl
theorem qs_if {c : Expr} {a b : List Stmt} {tc : DTT} (hc : QT X c tc) (ha : QSs X a t) (hb : QSs X b u) : QS X (.If c a b pos) (dIf tc t u) := by
  refine imS (ps_if hc ha hb) ?_
  intro D σ H ⟨dσ, A, DD, hA, hS, q, k⟩
  refine ⟨dσ, A, _, hA, hS, q, fun c A1 H1 q1 hA1 g1 => ?_⟩
  cases c with
  | true => exact iteT ⟨dσ, A1, DD, hA1, hS.grow g1, q1, k.from g1⟩
  | false => exact iteF ⟨dσ, A1, DD, hA1, hS.grow g1, q1, k.from g1⟩
theorem asg_t {g : DTG} {gv : TG} {vs : List Nat} {tg : Expr} (hg : QG X tg g vs gv) : ∀ D σ H, lS X.b (dAsg te g) D σ H → tAsg (lE X.b te) gv D σ H := by
  intro D σ H ⟨dσ, A, DD, hA, hS, q, k⟩
  refine ⟨dσ, A, _, hA, hS, q, fun x A1 v H1 q1 hA1 rx g1 => ?_⟩
  exact hg.im x v dσ A1 σ H1 _ _ hA1 (hS.grow g1) rx q1 fun dσ' A' σ' H' q' hA' hS' g' _ => k.nx _ _ _ _ q' hA' hS' (g1.trans g')
theorem qs_asg {tg : Expr} {g : DTG} {gv : TG} {vs : List Nat} (he : QE X e te) (hg : QG X tg g vs gv) (hs : swapsWithSole [tg] e pos.line X.env = pure false := by rfl) (hw : swappedStores [tg] e X.env = pure none := by rfl)
    (h1 : (assignEach [tg] X.env).map (·.2) = [assign tg X.env] := by rfl) : QS X (.Assign [tg] e pos) (dAsg te g) := imS (ps_asg he hg.pg hs hw h1) (asg_t hg)
theorem qs_set (i : Nat) {x : Str} {pos' : Pos} (hN : X.N.Nodup) (he : QE X e te) (hi : X.N[i]? = some x := by rfl) (hx : Loc X.env.scope x := by first | exact Or.inl rfl | exact Or.inr rfl) (hs : swapsWith e (some (.Name x pos')) pos.line X.env = pure false := by rfl) (hf : X.fn x = true ∨ X.env.scope.names.lookup x = some .local := by first | exact .inl rfl | exact .inr rfl) :
    QS X (.Assign [.Name x pos'] e pos) (dAsg te (dName i)) := imS (ps_set hN hi hx he hs hf) (asg_t (tg := .Name x pos') (vs := [i]) (qg_name i hN hi hx (by simp) hf))
theorem qs_never : QS X st dNever := imS (ps_never) fun D σ H ⟨dσ, A, DD, hA, hS, q, k⟩ => q.elim
theorem qss_never {sts : List Stmt} : QSs X sts dNever := imSs (pss_never) fun D σ H ⟨dσ, A, DD, hA, hS, q, k⟩ => q.elim
/-- a, b = x, y -/
def dPar (i j : Nat) (t : DTA) : DTS := fun DD σ A => t σ A fun ds A1 => match ds with
  | [x, y] => DD.nx ((σ.set i (some x)).set j (some y)) A1
  | _ => False
theorem qs_par (i j : Nat) {x y : Str} {a b : Expr} {ta : DTA} {px py pt : Pos} {kt k2 pt2} (hc : X.calm = true) (hN : X.N.Nodup) (ha : QA X [a, b] ta) (hi : X.N[i]? = some x := by rfl) (hj : X.N[j]? = some y := by rfl) (hij : i ≠ j := by decide)
    (hx : X.env.scope.names.lookup x = some .local := by rfl) (hy : X.env.scope.names.lookup y = some .local := by rfl)
    (hw : swappedStores [.Tuple [.Name x px, .Name y py] kt pt] (.Tuple [a, b] k2 pt2) X.env = pure (some [x, y]) := by rfl)
    (hs : swapsWithSole [.Tuple [.Name x px, .Name y py] kt pt] (.Tuple [a, b] k2 pt2) pos.line X.env = pure false := by rfl) :
    QS X (.Assign [.Tuple [.Name x px, .Name y py] kt pt] (.Tuple [a, b] k2 pt2) pos) (dPar i j ta) := by
  refine imS (ps_par hc hN hi hj hij hx hy ha hw hs) ?_
  intro D σ H ⟨dσ, A, DD, hA, hS, q, k⟩
  refine ⟨dσ, A, _, hA, hS, q, fun ds A1 vs H1 q1 l1 hA1 rl g1 => ?_⟩
  match ds, q1, rl with
  | [x, y], q1, rl =>
    obtain ⟨v, r, rfl, rv, w, r2, rfl, rw2, e⟩ := rl
    cases e
    exact ⟨v, w, rfl, k.nx _ _ _ _ q1 hA1 (((hS.grow g1).set rv).set rw2) g1⟩
/-- name op= e -/
def dAug (i : Nat) (te : DTE) (f : DR2) : DTS := fun DD σ A => match σ[i]? with
  | some (some x) => te σ A fun y A1 => f x y A1 fun z A2 => DD.nx (σ.set i (some z)) A2
  | _ => False
theorem qs_aug (i : Nat) {x : Str} {op : Operator} {f : DR2} {pos' : Pos} (hN : X.N.Nodup) (he : QE X e te) (ho : DOp X (inplaceOp op) f) (hi : X.N[i]? = some x := by rfl) (hx : Loc X.env.scope x := by first | exact Or.inl rfl | exact Or.inr rfl) (hf : X.fn x = true ∨ X.env.scope.names.lookup x = some .local := by first | exact .inl rfl | exact .inr rfl) :
    QS X (.AugAssign (.Name x pos') op e pos) (dAug i te f) := by
  obtain ⟨r, h, hr⟩ := ho.ex
  refine imS (ps_aug hN hi hx he h hf) ?_
  intro D σ H ⟨dσ, A, DD, hA, hS, q, k⟩
  unfold dAug at q
  split at q
  · rename_i d hd
    obtain ⟨v, e1, r1⟩ := hS.2 i d hd
    refine ⟨v, e1, dσ, A, _, hA, hS, q, fun y A1 u H1 q1 hA1 ry g1 => ?_⟩
    refine hr d y A1 _ v u H1 _ hA1 (r1.grow g1) ry q1 ?_
    intro z A2 w H2 q2 hA2 rz g2
    exact k.nx _ _ _ _ q2 hA2 ((hS.grow (g1.trans g2)).set rz) (g1.trans g2)
  · exact q.elim
end
end DL
set_option Elab.async false
set_option linter.all false
set_option maxRecDepth 100000
set_option maxHeartbeats 4000000
/-! DL4: fields, calls of defs and methods, makes; for, while; list comprehensions. -/
namespace DL
open PySem PySem.Spec PyProof.Rows L2

/-! ### fields -/
def dFld (C : Addr) (f : String) (to : DTE) : DTE := fun σ A Q => to σ A fun x A1 => match x with
  | .ref a => match A1 a with
    | some (.ins C' fs) => C' = C ∧ match getS f fs with
      | some d => Q d A1
      | none => False
    | _ => False
  | _ => False
def sFld (C : Addr) (f : String) (to tv : DTE) : DTS := fun DD σ A => tv σ A fun y A1 => to σ A1 fun x A2 => match x with
  | .ref a => match A2 a with
    | some (.ins C' fs) => C' = C ∧ fs.length < 1000 ∧ DD.nx σ (up A2 a (.ins C (putS f y fs)))
    | _ => False
  | _ => False
def sFldAug (C : Addr) (f : String) (g : DR2) (to tv : DTE) : DTS := fun DD σ A => to σ A fun x A1 => match x with
  | .ref a => match A1 a with
    | some (.ins C' fs) => C' = C ∧ match getS f fs with
      | some d => tv σ A1 fun y A2 => g d y A2 fun z A3 => match A3 a with
        | some (.ins C2 fs2) => C2 = C ∧ fs2.length < 1000 ∧ DD.nx σ (up A3 a (.ins C (putS f z fs2)))
        | _ => False
      | none => False
    | _ => False
  | _ => False
section
variable {X : Cx} {o e value : Expr} {pos pos' tpos : Pos} {to tv : DTE} {C : Addr}
theorem qe_fld (f : String) (c : Cls X.K C) (n : NoAttr X.K C (PySem.Str.ofString f)) (he : QE X e to) (hb : attributeBase e (PySem.Str.ofString f) X.env (eval e X.env) = eval e X.env := by rfl) : QE X (.Attribute e (PySem.Str.ofString f) pos) (dFld C f to) := by
  refine imE (pe_fld he hb) ?_
  intro σ H Q ⟨dσ, A, R, hA, hS, q, k⟩
  refine ⟨dσ, A, _, hA, hS, q, fun x A1 v H1 q1 hA1 rx g1 => ?_⟩
  cases x with
  | ref a =>
    cases rx
    revert q1
    show (match A1 a with | some (.ins C' fs) => C' = C ∧ (match getS f fs with | some d => R d A1 | none => False) | _ => False) → _
    split
    · rename_i C' fs hq
      rintro ⟨rfl, q1⟩
      obtain ⟨dx, vs, e1, rf⟩ := hA1 _ _ hq
      revert q1
      cases e2 : getS f fs with
      | none => exact fun z => z.elim
      | some d =>
        intro q1
        obtain ⟨v, hv, rv⟩ := rf.get e2
        exact ⟨a, _, dx, vs, v, rfl, e1, c, n, hv, k d A1 v H1 q1 hA1 rv g1⟩
    · exact fun z => z.elim
  | _ => exact q1.elim
theorem grow_ins {H : Hp} {a C dx : Addr} {vs vs' : List (Str × V)} (h : H a = some (.ins C dx vs)) : Grow H (upd H a (.ins C dx vs')) := Grow.put h (fun _ z => nomatch z) (fun _ _ z => nomatch z)
theorem qs_fld (f : String) (c : Cls X.K C) (n : NoAttr X.K C (PySem.Str.ofString f)) (ha : QE X o to) (hv : QE X value tv) (hs : swapsWith value (some (.Attribute o (PySem.Str.ofString f) pos')) pos.line X.env = pure false := by rfl) :
    QS X (.Assign [.Attribute o (PySem.Str.ofString f) pos'] value pos) (sFld C f to tv) := by
  refine imS (ps_fld ha hv hs) ?_
  intro D σ H ⟨dσ, A, DD, hA, hS, q, k⟩
  refine ⟨dσ, A, _, hA, hS, q, fun y A1 v H1 q1 hA1 ry g1 => ?_⟩
  refine ⟨dσ, A1, _, hA1, hS.grow g1, q1, fun x A2 u H2 q2 hA2 rx g2 => ?_⟩
  cases x with
  | ref a =>
    cases rx
    revert q2
    show (match A2 a with | some (.ins C' fs) => C' = C ∧ fs.length < 1000 ∧ DD.nx dσ (up A2 a (.ins C (putS f y fs))) | _ => False) → _
    split
    · rename_i C' fs hq
      rintro ⟨rfl, hl, q2⟩
      obtain ⟨dx, vs, e1, rf⟩ := hA2 _ _ hq
      refine ⟨a, _, dx, vs, rfl, e1, c, n, by rw [← rf.length]; exact hl, ?_⟩
      have g3 := grow_ins (vs' := putF (PySem.Str.ofString f) v vs) e1
      exact k.nx _ _ _ _ q2 (hA2.put g3 ⟨dx, _, upd_same, (rf.grow g3).put ((ry.grow g2).grow g3)⟩) (hS.grow ((g1.trans g2).trans g3)) ((g1.trans g2).trans g3)
    · exact fun z => z.elim
  | _ => exact q2.elim
theorem qs_fldaug (f : String) {op : Operator} {g : DR2} (c : Cls X.K C) (n : NoAttr X.K C (PySem.Str.ofString f)) (ho : DOp X (inplaceOp op) g) (ha : QE X o to) (hv : QE X value tv) :
    QS X (.AugAssign (.Attribute o (PySem.Str.ofString f) tpos) op value pos) (sFldAug C f g to tv) := by
  obtain ⟨r, h, hr⟩ := ho.ex
  refine imS (ps_fldaug (rd := r) ha hv (fun pins s σ H x y u v Q I r1 r2 q => h pins s σ H x y u v Q I r1 r2 q)) ?_
  intro D σ H ⟨dσ, A, DD, hA, hS, q, k⟩
  refine ⟨dσ, A, _, hA, hS, q, fun x A1 v H1 q1 hA1 rx g1 => ?_⟩
  cases x with
  | ref a =>
    cases rx
    revert q1
    show (match A1 a with | some (.ins C' fs) => C' = C ∧ (match getS f fs with | some d => tv dσ A1 fun y A2 => g d y A2 fun z A3 => (match A3 a with | some (.ins C2 fs2) => C2 = C ∧ fs2.length < 1000 ∧ DD.nx dσ (up A3 a (.ins C (putS f z fs2))) | _ => False) | none => False) | _ => False) → _
    split
    · rename_i C' fs hq
      rintro ⟨rfl, q1⟩
      obtain ⟨dx, vs, e1, rf⟩ := hA1 _ _ hq
      revert q1
      cases e2 : getS f fs with
      | none => exact fun z => z.elim
      | some d =>
        intro q1
        obtain ⟨v, hv, rv⟩ := rf.get e2
        refine ⟨a, _, dx, vs, v, rfl, e1, c, n, hv, dσ, A1, _, hA1, hS.grow g1, q1, fun y A2 u H2 q2 hA2 ry g2 => ?_⟩
        refine hr d y A2 _ v u H2 _ hA2 (rv.grow g2) ry q2 ?_
        intro z A3 w H3 q3 hA3 rz g3
        revert q3
        show (match A3 a with | some (.ins C2 fs2) => C2 = C' ∧ fs2.length < 1000 ∧ DD.nx dσ (up A3 a (.ins C' (putS f z fs2))) | _ => False) → _
        split
        · rename_i C2 fs2 hq2
          rintro ⟨rfl, hl, q3⟩
          obtain ⟨dx2, vs2, e3, rf2⟩ := hA3 _ _ hq2
          refine ⟨dx2, vs2, e3, by rw [← rf2.length]; exact hl, ?_⟩
          have g4 := grow_ins (vs' := putF (PySem.Str.ofString f) w vs2) e3
          exact k.nx _ _ _ _ q3 (hA3.put g4 ⟨dx2, _, upd_same, (rf2.grow g4).put (rz.grow g4)⟩) (hS.grow (((g1.trans g2).trans g3).trans g4)) (((g1.trans g2).trans g3).trans g4)
        · exact fun z => z.elim
    · exact fun z => z.elim
  | _ => exact q1.elim
end

/-! ### defs: what one is worth, over plain data. DX: what is wanted of an exception (its class, its fields) -/
abbrev DX := Value → List (String × D) → AH → Prop
abbrev DSp := List D → AH → DQ → DX → Prop
/-- an exception's own dict -/
def XF (K : PySem.W.Frag) (H : Hp) (d : Option Addr) (fs : List (String × D)) : Prop := (d = none ∧ fs = []) ∨ ∃ dd vs, d = some dd ∧ H dd = some (.xd vs) ∧ RelF K H fs vs
def KpX (B : Bs) (H : Hp) (R : DX) (E : XK) : Prop := ∀ cls fs A' d H', R cls fs A' → RelH B A' H' → XF B.K H' d fs → Grow H H' → E cls d H'
def lSp (B : Bs) (n : Nat) (sp : DSp) : Sp := fun vs H Q E => ∃ ds A R RE, RelH B A H ∧ RelL B.K H ds vs ∧ ds.length = n ∧ sp ds A R RE ∧ Kp B H R Q ∧ KpX B H RE E
abbrev noX : DX := fun _ _ _ => False
/-- f(..), nothing is raised -/
def dCal (sp : DSp) (t : DTA) : DTE := fun σ A Q => t σ A fun ds A1 => sp ds A1 Q noX
/-- o.m(..) -/
def dMet (C : Addr) (m : String) (sp : DSp) (to : DTE) (t : DTA) : DTE := fun σ A Q => to σ A fun x A1 => match x with
  | .ref a => match A1 a with
    | some (.ins C' fs) => C' = C ∧ getS m fs = none ∧ t σ A1 fun ds A2 => sp (.ref a :: ds) A2 Q noX
    | _ => False
  | _ => False
/-- C(..) -/
def dMak (C : Addr) (sp : DSp) (t : DTA) : DTE := fun σ A Q => t σ A fun ds A1 => ∀ x, A1 x = none → sp (.ref x :: ds) (up A1 x (.ins C [])) (fun r A2 => r = .non ∧ Q (.ref x) A2) noX
section
variable {X : Cx} {k n : Nat} {f C : Addr} {fd : FuncData} {ps : List Str} {sp : DSp} {x : Str} {p pos apos : Pos} {e o : Expr} {es : List Expr} {to : DTE} {t : DTA}
theorem lsp_at {B : Bs} {H H0 : Hp} {A : AH} {ds : List D} {vs : List V} {R : DQ} {Q : VK} (hA : RelH B A H) (r : RelL B.K H ds vs) (hl : ds.length = n) (q : sp ds A R noX) (k : Kp B H R Q) : lSp B n sp vs H Q E0 :=
  ⟨ds, A, R, noX, hA, r, hl, q, k, fun _ _ _ _ _ z => z.elim⟩
theorem cal_t {B : Bs} {m : Nat} (hn : m = n) : ∀ σ H Q, lE B (dCal sp t) σ H Q → tCall (lSp B n sp) [] E0 (lA B m t) σ H Q := by
  intro σ H Q ⟨dσ, A, R, hA, hS, q, k⟩
  refine ⟨dσ, A, _, hA, hS, q, fun ds A1 vs H1 q1 l1 hA1 rl g1 => ?_⟩
  show lSp B n sp (vs ++ []) H1 Q E0
  rw [List.append_nil]
  exact lsp_at (H0 := H) hA1 rl (l1.trans hn) q1 (k.from g1)
theorem qe_call (F : FnOk X.prog X.w X.K X.mg X.base CX0 k f fd ps (lSp X.b n sp)) (hr : Room k X.A) (hm : X.mg x = some (.ref f)) (hk : PySem.W.keepIn X.K (.ref f) = true) (hb : Binds X.K fd ps []) (ha : QA X (e :: es) t) (hn : (e :: es).length = n := by rfl) (hg : Gl X x := by rfl)
    (hdb : (x == ("__debug__" : Str)) = false := by decide) (he : starEach (e :: es) X.env = (false, eval e X.env) :: starEach es X.env := by rfl) (hpl : (backTo pos (starEach es X.env)).any (·.1) = false := by rfl) : QE X (.Call (.Name x p) (e :: es) [] pos) (dCal sp t) :=
  imE (pe_call F hr hg hm hk hb .nil pass0 ha hdb he hpl) (cal_t hn)
theorem qe_call0 (F : FnOk X.prog X.w X.K X.mg X.base CX0 k f fd ps (lSp X.b 0 sp)) (hr : Room k X.A) (hm : X.mg x = some (.ref f)) (hk : PySem.W.keepIn X.K (.ref f) = true) (hb : Binds X.K fd ps []) (hg : Gl X x := by rfl)
    (hdb : (x == ("__debug__" : Str)) = false := by decide) : QE X (.Call (.Name x p) [] [] pos) (dCal sp dNil) := by
  refine imE (pe_call0 F hr hg hm hk hb .nil pass0 hdb) ?_
  intro σ H Q ⟨dσ, A, R, hA, hS, q, k⟩
  exact lsp_at (H0 := H) (ds := []) hA (show [] = [] from rfl) rfl q k
theorem met_t {B : Bs} {m : Nat} {mn : String} (hn : m + 1 = n) : ∀ σ H Q, lE B (dMet C mn sp to t) σ H Q → tMeth C (PySem.Str.ofString mn) (lSp B n sp) [] E0 (lE B to) (lA B m t) σ H Q := by
  intro σ H Q ⟨dσ, A, R, hA, hS, q, k⟩
  refine ⟨dσ, A, _, hA, hS, q, fun x A1 v H1 q1 hA1 rx g1 => ?_⟩
  cases x with
  | ref a =>
    cases rx
    revert q1
    show (match A1 a with | some (.ins C' fs) => C' = C ∧ getS mn fs = none ∧ t dσ A1 fun ds A2 => sp (.ref a :: ds) A2 R noX | _ => False) → _
    split
    · rename_i C' fs hq
      rintro ⟨rfl, hno, q1⟩
      obtain ⟨dx, vs, e1, rf⟩ := hA1 _ _ hq
      refine ⟨a, dx, vs, rfl, e1, rf.no hno, dσ, A1, _, hA1, hS.grow g1, q1, fun ds A2 us H2 q2 l2 hA2 rl g2 => ?_⟩
      show lSp B n sp (V.ref a :: (us ++ [])) H2 Q E0
      rw [List.append_nil]
      exact lsp_at (H0 := H) (ds := .ref a :: ds) hA2 (RelL.cons rfl rl) (by simp [l2]; exact hn) q2 (k.from (g1.trans g2))
    · exact fun z => z.elim
  | _ => exact q1.elim
theorem qe_meth (m : String) {pl : Sem Bool} (c : Cls X.K C) (hm : Meth X.K C (PySem.Str.ofString m) f) (F : FnOk X.prog X.w X.K X.mg X.base CX0 k f fd ps (lSp X.b n sp)) (hr : Room k X.A) (hb : Binds X.K fd ps []) (he : QE X o to) (ha : QA X (e :: es) t) (hn : (e :: es).length + 1 = n := by rfl)
    (hst : starEach (e :: es) X.env = (false, eval e X.env) :: starEach es X.env := by rfl) (hpl : (backTo pos (starEach es X.env)).any (·.1) = false := by rfl)
    (ht : eval (.Call (.Attribute o (PySem.Str.ofString m) apos) (e :: es) [] pos) X.env = (do
      let ov ← eval o X.env
      standAt apos.atName
      let (f, first) ← holding [ov] (getMethod ov (PySem.Str.ofString m) pl)
      callWith pos f first (backTo pos (starEach (e :: es) X.env)) (backToKw pos (keywordEach [] X.env))) := by rfl) :
    QE X (.Call (.Attribute o (PySem.Str.ofString m) apos) (e :: es) [] pos) (dMet C m sp to t) := imE (pe_meth he c hm F hr hb .nil pass0 ha hst hpl ht) (met_t hn)
theorem qe_meth0 (m : String) {pl : Sem Bool} (c : Cls X.K C) (hm : Meth X.K C (PySem.Str.ofString m) f) (F : FnOk X.prog X.w X.K X.mg X.base CX0 k f fd ps (lSp X.b 1 sp)) (hr : Room k X.A) (hb : Binds X.K fd ps []) (he : QE X o to)
    (ht : eval (.Call (.Attribute o (PySem.Str.ofString m) apos) [] [] pos) X.env = (do
      let ov ← eval o X.env
      standAt apos.atName
      let (f, first) ← holding [ov] (getMethod ov (PySem.Str.ofString m) pl)
      callWith pos f first (backTo pos (starEach [] X.env)) (backToKw pos (keywordEach [] X.env))) := by rfl) :
    QE X (.Call (.Attribute o (PySem.Str.ofString m) apos) [] [] pos) (dMet C m sp to dNil) := by
  refine imE (pe_meth0 he c hm F hr hb .nil pass0 ht) ?_
  intro σ H Q ⟨dσ, A, R, hA, hS, q, k⟩
  refine ⟨dσ, A, _, hA, hS, q, fun x A1 v H1 q1 hA1 rx g1 => ?_⟩
  cases x with
  | ref a =>
    cases rx
    revert q1
    show (match A1 a with | some (.ins C' fs) => C' = C ∧ getS m fs = none ∧ sp [.ref a] A1 R noX | _ => False) → _
    split
    · rename_i C' fs hq
      rintro ⟨rfl, hno, q1⟩
      obtain ⟨dx, vs, e1, rf⟩ := hA1 _ _ hq
      exact ⟨a, dx, vs, rfl, e1, rf.no hno, lsp_at (H0 := H) (ds := [.ref a]) hA1 (RelL.cons rfl rfl) rfl q1 (k.from g1)⟩
    · exact fun z => z.elim
  | _ => exact q1.elim
/-- the new instance at x, its dict at dx -/
theorem made_rel {B : Bs} {A : AH} {H : Hp} {x dx C : Addr} (hA : RelH B A H) (hx : H x = none) (hd : H dx = none) (hne : dx ≠ x) :
    RelH B (up A x (.ins C [])) (upd (upd H dx (.own x)) x (.ins C dx [])) ∧ Grow H (upd (upd H dx (.own x)) x (.ins C dx [])) := by
  have h1 : (upd H dx (.own x)) x = none := by rw [upd_ne (Ne.symm hne)]; exact hx
  exact ⟨(hA.new hd).add h1 ⟨dx, [], upd_same, rfl⟩, (Grow.new hd).trans (Grow.new h1)⟩
theorem mak_sp {B : Bs} {H : Hp} {A : AH} {ds : List D} {vs : List V} {R : DQ} {Q : VK} {m : Nat} (hA : RelH B A H) (rl : RelL B.K H ds vs) (hl : ds.length + 1 = n) (k : Kp B H R Q)
    (q : ∀ x, A x = none → sp (.ref x :: ds) (up A x (.ins C [])) (fun r A2 => r = .non ∧ R (.ref x) A2) noX) :
    ∀ x dx, H x = none → H dx = none → dx ≠ x → lSp B n sp (.ref x :: vs) (upd (upd H dx (.own x)) x (.ins C dx [])) (fun v H2 => v = .non ∧ Q (.ref x) H2) E0 := by
  intro x dx hx hd hne
  obtain ⟨m1, m2⟩ := made_rel (C := C) hA hx hd hne
  refine lsp_at (H0 := H) (ds := .ref x :: ds) m1 (RelL.cons rfl (rl.grow m2)) (by simpa using hl) (q x (hA.free hx)) ?_
  intro d A' v H' hq hA' rd g
  obtain ⟨rfl, hq⟩ := hq
  cases rd
  exact ⟨rfl, k _ _ _ _ hq hA' rfl (m2.trans g)⟩
theorem qe_make (M : Mk X.K C f) (F : FnOk X.prog X.w X.K X.mg X.base CX0 k f fd ps (lSp X.b n sp)) (hr : Room (k + 1) X.A) (hm : X.mg x = some (.ref C)) (hb : Binds X.K fd ps []) (ha : QA X (e :: es) t) (hn : (e :: es).length + 1 = n := by rfl) (hg : Gl X x := by rfl)
    (hdb : (x == ("__debug__" : Str)) = false := by decide) (he : starEach (e :: es) X.env = (false, eval e X.env) :: starEach es X.env := by rfl) (hpl : (backTo pos (starEach es X.env)).any (·.1) = false := by rfl) : QE X (.Call (.Name x p) (e :: es) [] pos) (dMak C sp t) := by
  refine imE (pe_make M F hr hg hm hb .nil pass0 ha hdb he hpl) ?_
  intro σ H Q ⟨dσ, A, R, hA, hS, q, k⟩
  refine ⟨dσ, A, _, hA, hS, q, fun ds A1 vs H1 q1 l1 hA1 rl g1 => ?_⟩
  have z := mak_sp (n := n) (m := 0) hA1 rl ((congrArg (· + 1) l1).trans hn) (k.from g1) q1
  intro x dx hx hd hne
  rw [List.append_nil]
  exact z x dx hx hd hne
theorem qe_make0 (M : Mk X.K C f) (F : FnOk X.prog X.w X.K X.mg X.base CX0 k f fd ps (lSp X.b 1 sp)) (hr : Room (k + 1) X.A) (hm : X.mg x = some (.ref C)) (hb : Binds X.K fd ps []) (hg : Gl X x := by rfl)
    (hdb : (x == ("__debug__" : Str)) = false := by decide) : QE X (.Call (.Name x p) [] [] pos) (dMak C sp dNil) := by
  refine imE (pe_make0 M F hr hg hm hb .nil pass0 hdb) ?_
  intro σ H Q ⟨dσ, A, R, hA, hS, q, k⟩
  exact mak_sp (m := 0) (ds := []) hA rfl rfl k q
end
/-- THE RULE for a def that raises nothing: its reading (d), and that what is told of it makes the reading true (q) -/
theorem fn_ok {P : Program} {w : World} {K : PySem.W.Frag} {mg : Str → Option Value} {base : Heap} {x qual : Str} {st : Stmt} {f : Addr} {fd : FuncData} {N ps : List Str} {k : Nat} {sp : DSp} {t : DTS} (F : Fun K x qual st f fd) (S : FnScope N ps (defScope st))
    (d : ∀ (X : Cx), (∃ cdv A outer s H E, X = (cxOf CX0 P w K mg base N qual (defScope st) f cdv A outer s H E).nox) → Room k X.A → QSs X (defBody st) t)
    (q : ∀ ds A R E, ds.length = ps.length → sp ds A R E → t { nx := fun _ A' => R .non A', rt := R } (ds.map some ++ List.replicate (N.length - ds.length) none) A) :
    FnOk P w K mg base CX0 (k + 1) f fd ps (lSp ⟨P, w, K⟩ ps.length sp) := by
  refine F.ok S (fun vs H Q E h => ?_) (fun cdv A outer s H vs Q E hr h => ?_)
  · obtain ⟨ds, A, R, RE, hA, rl, hl, _⟩ := h
    rw [← rl.length, hl]
  · obtain ⟨ds, A1, R, RE, hA, rl, hl, hs, k1, _⟩ := h
    refine ⟨_, d _ ⟨cdv, A, outer, s, H, E, rfl⟩ hr, ds.map some ++ List.replicate (N.length - ds.length) none, A1, _, hA, ?_, q ds A1 R RE hl hs, ⟨fun dσ A' σ H' hn hA' _ g => k1 _ _ _ _ hn hA' rfl g, k1, fun _ _ _ _ z => z.elim, fun _ _ _ _ z => z.elim⟩⟩
    have e := rl.length
    refine ⟨by unfold L2.start; simp [e], fun i d hi => ?_⟩
    by_cases c : i < ds.length
    · rw [List.getElem?_append_left (by simpa using c), List.getElem?_map] at hi
      cases e2 : ds[i]? with
      | none => rw [e2] at hi; cases hi
      | some d' =>
        rw [e2] at hi; cases hi
        obtain ⟨v, hv, rv⟩ := rl.get e2
        refine ⟨v, ?_, rv⟩
        unfold L2.start
        rw [List.getElem?_append_left (by simpa [← e] using c), List.getElem?_map, hv]; rfl
    · rw [List.getElem?_append_right (by simpa using c)] at hi
      rw [List.getElem?_replicate] at hi
      split at hi <;> cases hi

/-! ### what is walked: the items as they stand at a heap -/
abbrev DSrc := AH → List D → Prop
abbrev DI := DS → AH → (DSrc → AH → Prop) → Prop
structure Wlk (B : Bs) (H0 : Hp) (J : It) (S : DSrc) : Prop where
  stop : ∀ A H i xs, Grow H0 H → RelH B A H → S A xs → xs.length ≤ i → J.stop i H
  go : ∀ A H i xs d, Grow H0 H → RelH B A H → S A xs → xs[i]? = some d → J.go i H ∧ ∀ x H', J.yld i H x H' → RelH B A H' ∧ Grow H H' ∧ RelD B.K H' d x
def lI (B : Bs) (wi : DI) : TI := fun σ H R => ∃ dσ A P, RelH B A H ∧ RelS B.K H dσ σ ∧ wi dσ A P ∧ ∀ S A' J H', P S A' → RelH B A' H' → Grow H H' → Wlk B H' J S → R J H'
abbrev QI (X : Cx) (tg iter : Expr) (wi : DI) : Prop := PI X tg iter (lI X.b wi)
/-- for: an invariant I by the turn -/
def dFor (wi : DI) (g : DTG) (tb : DTS) : DTS := fun DD σ A => wi σ A fun S A1 => ∃ (xs : List D) (I : Nat → DS → AH → Prop), I 0 σ A1 ∧ (∀ i σ A, i ≤ xs.length → I i σ A → S A xs) ∧
  (∀ i x σ A, xs[i]? = some x → I i σ A → g x σ A fun σ2 A2 => tb { DD with nx := I (i + 1), ct := I (i + 1), bk := DD.nx } σ2 A2) ∧ ∀ σ A, I xs.length σ A → DD.nx σ A
/-- while: an invariant by what is left -/
def dWhile (c : DTT) (tb : DTS) : DTS := fun DD σ A => ∃ I : Nat → DS → AH → Prop, (∃ m, I m σ A) ∧ ∀ m σ A, I m σ A →
  c σ A fun b A1 => if b = true then tb { DD with nx := fun σ' A' => ∃ m', m' < m ∧ I m' σ' A', ct := fun σ' A' => ∃ m', m' < m ∧ I m' σ' A', bk := DD.nx } σ A1 else DD.nx σ A1
section
variable {X : Cx} {tg iter c : Expr} {body : List Stmt} {wi : DI} {g : DTG} {gv : TG} {vs : List Nat} {tb : DTS} {tc : DTT} {pos : Pos}
theorem qs_for (hp : PassesOwn (model X.prog X.w) X.A X.env X.xe) (hc : X.calm = true) (hi : QI X tg iter wi) (hg : QG X tg g vs gv) (hb : QSs X body tb)
    (hs : ∀ x, foldedSetIterable iter X.env x = pure x := by intro _; rfl) : QS X (.For tg iter body [] pos) (dFor wi g tb) := by
  refine imS (ps_for hp hc hi hg.pg hb hs) ?_
  intro D σ H ⟨dσ, A, DD, hA, hS, q, k⟩
  refine ⟨dσ, A, _, hA, hS, q, fun S A1 J H1 ⟨xs, I, i0, still, turn, fin⟩ hA1 g1 W => ?_⟩
  refine ⟨fun i m σ H2 => ∃ dσ A, RelH X.b A H2 ∧ RelS X.K H2 dσ σ ∧ Grow H1 H2 ∧ I i dσ A ∧ i ≤ xs.length ∧ m = xs.length - i, ⟨xs.length, dσ, A1, hA1, hS.grow g1, Grow.refl, i0, Nat.zero_le _, rfl⟩, ?_⟩
  rintro i m σ2 H2 ⟨dσ2, A2, hA2, hS2, g2, i2, hi2, rfl⟩
  have st := still i dσ2 A2 hi2 i2
  by_cases hlt : i < xs.length
  · have hx : xs[i]? = some xs[i] := by simp [hlt]
    obtain ⟨go, yl⟩ := W.go A2 H2 i xs _ g2 hA2 st hx
    refine .inr ⟨go, fun σ' H' => ∃ dσ A, RelH X.b A H' ∧ RelS X.K H' dσ σ' ∧ Grow H1 H' ∧ I (i + 1) dσ A, fun σ' H' ⟨d', A', h1, h2, h3, h4⟩ => ⟨xs.length - (i + 1), by omega, d', A', h1, h2, h3, h4, hlt, rfl⟩, fun x H3 y => ?_⟩
    obtain ⟨hA3, g3, rx⟩ := yl x H3 y
    refine hg.im _ x dσ2 A2 σ2 H3 _ _ hA3 (hS2.grow g3) rx (turn i _ dσ2 A2 hx i2) fun dσ4 A4 σ4 H4 q4 hA4 hS4 g4 _ => ?_
    have g14 := (g2.trans g3).trans g4
    exact ⟨dσ4, A4, _, hA4, hS4, q4, ⟨fun d' A' σ' H' n h1 h2 h3 => ⟨d', A', h1, h2, g14.trans h3, n⟩, k.rt.from (g1.trans g14), fun d' A' σ' H' n h1 h2 h3 => k.nx _ _ _ _ n h1 h2 ((g1.trans g14).trans h3), fun d' A' σ' H' n h1 h2 h3 => ⟨d', A', h1, h2, g14.trans h3, n⟩⟩⟩
  · have e : i = xs.length := by omega
    subst e
    exact .inl ⟨W.stop A2 H2 _ xs g2 hA2 st (Nat.le_refl _), k.nx _ _ _ _ (fin dσ2 A2 i2) hA2 hS2 (g1.trans g2)⟩
theorem qs_while (hp : PassesOwn (model X.prog X.w) X.A X.env X.xe) (hc : QT X c tc) (hb : QSs X body tb) : QS X (.While c body [] pos) (dWhile tc tb) := by
  refine imS (ps_while hp hc hb) ?_
  intro D σ H ⟨dσ, A, DD, hA, hS, ⟨I, ⟨m0, i0⟩, turn⟩, k⟩
  refine ⟨fun m σ H2 => ∃ dσ A, RelH X.b A H2 ∧ RelS X.K H2 dσ σ ∧ Grow H H2 ∧ I m dσ A, ⟨m0, dσ, A, hA, hS, Grow.refl, i0⟩, ?_⟩
  rintro m σ2 H2 ⟨dσ2, A2, hA2, hS2, g2, i2⟩
  refine ⟨dσ2, A2, _, hA2, hS2, turn m dσ2 A2 i2, fun b A3 H3 q3 hA3 g3 => ?_⟩
  cases b with
  | false => exact iteF (k.nx _ _ _ _ q3 hA3 (hS2.grow g3) (g2.trans g3))
  | true =>
    refine iteT ⟨fun σ' H' => ∃ m', m' < m ∧ ∃ dσ A, RelH X.b A H' ∧ RelS X.K H' dσ σ' ∧ Grow H H' ∧ I m' dσ A, fun σ' H' h => h, dσ2, A3, _, hA3, hS2.grow g3, q3, ?_⟩
    have g23 := g2.trans g3
    exact ⟨fun d' A' σ' H' ⟨m', hm, n⟩ h1 h2 h3 => ⟨m', hm, d', A', h1, h2, g23.trans h3, n⟩, k.rt.from g23, fun d' A' σ' H' n h1 h2 h3 => k.nx _ _ _ _ n h1 h2 (g23.trans h3), fun d' A' σ' H' ⟨m', hm, n⟩ h1 h2 h3 => ⟨m', hm, d', A', h1, h2, g23.trans h3, n⟩⟩
end

/-! ### list comprehensions -/
def dYes : DTT := fun _ A Q => Q true A
/-- [e for g in wi if tt]: I by the turn, the new list at p -/
def dLc (wi : DI) (g : DTG) (tt : DTT) (te : DTE) (vs : List Nat) : DTE := fun σ A Q => wi σ A fun S A1 => ∃ xs : List D, ∀ p, A1 p = none → ∃ I : Nat → AH → Prop, I 0 (up A1 p (.lst [])) ∧ (∀ i A, i ≤ xs.length → I i A → S A xs) ∧
  (∀ i x A, xs[i]? = some x → I i A → g x (dwipe σ vs) A fun σ2 A2 => tt σ2 A2 fun b A3 => if b = true then te σ2 A3 fun y A4 => ∃ acc, A4 p = some (.lst acc) ∧ acc.length < SL ∧ I (i + 1) (up A4 p (.lst (acc ++ [y]))) else I (i + 1) A3) ∧
  ∀ A, I xs.length A → Q (.ref p) A
abbrev QTs (X : Cx) (ifs : List Expr) (t : DTT) : Prop := PTs X ifs (lT X.b t)
section
variable {X : Cx} {elt tg iter : Expr} {ifs : List Expr} {scope : Scope} {own : List (Str × Nat)} {pos spos : Pos} {wi : DI} {g : DTG} {gv : TG} {tt : DTT} {te : DTE}
theorem qts_nil : QTs X [] dYes := ⟨fun pins s σ H Q I ⟨dσ, A, R, hA, hS, q, k⟩ => pts_nil.run pins s σ H Q I (k true A H q hA Grow.refl)⟩
theorem qts_one {c : Expr} {t : DTT} (h : QT X c t) : QTs X [c] t := pts_one h
theorem lc_t {B : Bs} (him : ∀ d v dσ A σ H R (Q : L2.St → Hp → Prop), RelH B A H → RelS B.K H dσ σ → RelD B.K H d v → g d dσ A R →
    (∀ dσ' A' σ' H', R dσ' A' → RelH B A' H' → RelS B.K H' dσ' σ' → Grow H H' → wipe σ' (own.map (·.2)) = wipe σ (own.map (·.2)) → Q σ' H') → gv v σ H Q) :
    ∀ σ H Q, lE B (dLc wi g tt te (own.map (·.2))) σ H Q → tLc (lI B wi) gv (lT B tt) (lE B te) (own.map (·.2)) σ H Q := by
  intro σ H Q ⟨dσ, A, R, hA, hS, q, k⟩
  refine ⟨dσ, A, _, hA, hS, q, fun S A1 J H1 ⟨xs, hxs⟩ hA1 g1 W p hp => ?_⟩
  obtain ⟨I, i0, still, turn, fin⟩ := hxs p (hA1.free hp)
  refine ⟨fun i m H2 => ∃ A, RelH B A H2 ∧ Grow H1 H2 ∧ I i A ∧ i ≤ xs.length ∧ m = xs.length - i, ⟨xs.length, _, hA1.add (u := .lst []) hp ⟨[], upd_same, rfl⟩, Grow.new hp, i0, Nat.zero_le _, rfl⟩, ?_⟩
  rintro i m H2 ⟨A2, hA2, g2, i2, hi2, rfl⟩
  have st := still i A2 hi2 i2
  by_cases hlt : i < xs.length
  · have hx : xs[i]? = some xs[i] := by simp [hlt]
    obtain ⟨go, yl⟩ := W.go A2 H2 i xs _ g2 hA2 st hx
    refine .inr ⟨go, fun H' => ∃ A, RelH B A H' ∧ Grow H1 H' ∧ I (i + 1) A, fun H' ⟨A', h1, h3, h4⟩ => ⟨xs.length - (i + 1), by omega, A', h1, h3, h4, hlt, rfl⟩, fun x H3 y => ?_⟩
    obtain ⟨hA3, g3, rx⟩ := yl x H3 y
    have hS3 := (hS.grow ((g1.trans g2).trans g3)).wipe (own.map (·.2))
    refine him _ x _ A2 _ H3 _ _ hA3 hS3 rx (turn i _ A2 hx i2) fun dσ4 A4 σ4 H4 q4 hA4 hS4 g4 w4 => ⟨?_, ?_⟩
    · refine w4.trans ?_
      apply List.ext_getElem?
      intro j
      rw [wipe_get, wipe_get, wipe_length]
      by_cases c : j ∈ own.map (·.2) ∧ j < σ.length
      · rw [if_pos c]
        simp [c.1, c.2]
      · rw [if_neg c]
    · refine ⟨dσ4, A4, _, hA4, hS4, q4, fun b A5 H5 q5 hA5 g5 => ?_⟩
      have g15 := ((g2.trans g3).trans g4).trans g5
      cases b with
      | false => exact iteF ⟨A5, hA5, g15, q5⟩
      | true =>
        refine iteT ⟨dσ4, A5, _, hA5, hS4.grow g5, q5, fun z A6 v H6 ⟨acc, e6, l6, i6⟩ hA6 rz g6 => ?_⟩
        obtain ⟨us, e7, r7⟩ := hA6 _ _ e6
        have g7 : Grow H6 (upd H6 p (.lst (us ++ [v]))) := Grow.put e7 (fun _ z => nomatch z) (fun _ _ z => nomatch z)
        refine ⟨us, e7, by rw [SL_eq, ← r7.length]; exact l6, _, hA6.put (u := .lst (acc ++ [z])) g7 ⟨_, upd_same, (r7.append (RelL.cons rz RelL.nil)).grow g7⟩, (g15.trans g6).trans g7, i6⟩
  · have e : i = xs.length := by omega
    subst e
    exact .inl ⟨W.stop A2 H2 _ xs g2 hA2 st (Nat.le_refl _), k _ _ _ _ (fin A2 i2) hA2 rfl (g1.trans g2)⟩
/-- a block's context -/
abbrev Blk (X : Cx) (scope : Scope) (s : Shared) (H : Hp) (C : Addr) (cl : List (Str × Addr)) (fp : List Addr) : Cx := X.blk s H scope (compEnvC scope cl C X.env) fp
theorem qe_lc (own : List (Str × Nat)) (hc : X.calm = true) (hN : X.N.Nodup) (hi : QI X tg iter wi) (ok : blkC X.N X.env.scope scope own = true)
    (hg : ∀ s H C cl fp, QG (Blk X scope s H C cl fp) tg g (own.map (·.2)) gv) (ht : ∀ s H C cl fp, QTs (Blk X scope s H C cl fp) ifs tt) (he : ∀ s H C cl fp, QE (Blk X scope s H C cl fp) elt te)
    (hs : ∀ x, foldedSetIterable iter X.env x = pure x := by intro _; rfl) : QE X (.ListComp elt [⟨tg, iter, ifs, 0⟩] scope pos) (dLc wi g tt te (own.map (·.2))) := by
  refine ⟨fun pins s σ H Q I hq => ?_⟩
  exact (imE (pe_lc (own := own) hc hN hi (blkOk_by ok) (fun s H C cl fp => (hg s H C cl fp).pg) ht he hs) (lc_t (own := own) (hg s H 0 [] []).im)).run pins s σ H Q I hq
theorem qs_setLc (i : Nat) (own : List (Str × Nat)) {y : Str} {py : Pos} (hc : X.calm = true) (hN : X.N.Nodup) (hi : QI X tg iter wi) (ok : blkC X.N X.env.scope scope own = true)
    (hg : ∀ s H C cl fp, QG (Blk X scope s H C cl fp) tg g (own.map (·.2)) gv) (ht : ∀ s H C cl fp, QTs (Blk X scope s H C cl fp) ifs tt) (he : ∀ s H C cl fp, QE (Blk X scope s H C cl fp) elt te)
    (hsw : swapsWith (.ListComp elt [⟨tg, iter, ifs, 0⟩] scope pos) (some (.Name y py)) spos.line X.env = pure true)
    (hy : X.N[i]? = some y := by rfl) (hyl : X.env.scope.names.lookup y = some .local := by rfl) (hs : ∀ x, foldedSetIterable iter X.env x = pure x := by intro _; rfl) :
    QS X (.Assign [.Name y py] (.ListComp elt [⟨tg, iter, ifs, 0⟩] scope pos) spos) (dAsg (dLc wi g tt te (own.map (·.2))) (dName i)) := by
  refine ⟨fun pins s σ H D I hq => ?_⟩
  refine (imS (ps_setLc (tt := lT X.b tt) (te := lE X.b te) (own := own) hc hN hy hyl hsw hi (blkOk_by ok) (fun s H C cl fp => (hg s H C cl fp).pg) ht he hs) ?_).run pins s σ H D I hq
  intro D σ H ⟨dσ, A, DD, hA, hS, q, k⟩
  refine lc_t (B := X.b) (own := own) (hg s H 0 [] []).im σ H _ ⟨dσ, A, _, hA, hS, q, fun d A' v H' q' hA' rd g' => ?_⟩
  exact k.nx _ _ _ _ q' hA' ((hS.grow g').set rd) g'
end
end DL
set_option Elab.async false
set_option linter.all false
set_option maxRecDepth 100000
set_option maxHeartbeats 4000000
/-! DL5: sequences: items, slices, stores, built-ins, methods of lists; what loops walk. -/
namespace DL
open PySem PySem.Spec PyProof.Rows L2

/-! ### lists, tuples, texts -/
def ixS (A : AH) : D → Option (List D)
  | .tup l => some l
  | .cl l => some l
  | .str l => if l.length ≤ SL then some (l.map fun c => .str [c]) else none
  | .ref a => match A a with
    | some (.lst xs) => some xs
    | _ => none
  | _ => none
/-- xs[i] of a list, a tuple, a text -/
def fIx : DR2 := fun x y A Q => match ixS A x, y with
  | some xs, .int i => match atI xs i with
    | some d => Q d A
    | none => False
  | _, _ => False
theorem atI_rel {K : PySem.W.Frag} {H : Hp} {ds : List D} {vs : List V} {i : Int} {d : D} (r : RelL K H ds vs) (h : atI ds i = some d) : ∃ v, atI vs i = some v ∧ RelD K H d v := by
  unfold atI at h ⊢
  rw [← r.length]
  cases e : ixN ds.length i with
  | none => rw [e] at h; cases h
  | some j => rw [e] at h; exact r.get h
theorem atI_map {α β : Type} (f : α → β) (xs : List α) (i : Int) : atI (xs.map f) i = (atI xs i).map f := by
  unfold atI
  rw [List.length_map]
  cases ixN xs.length i with
  | none => rfl
  | some j => simp
section
variable {X : Cx}
theorem d_ix : DIx X fIx := by
  refine ⟨_, ix_seq, fun x y A R v u H Q hA rx ry h k => ?_⟩
  unfold fIx at h
  split at h
  · rename_i xs i hx
    cases ry
    split at h
    · rename_i d hd
      cases x with
      | tup l =>
        cases hx
        obtain ⟨a, vs, rfl, t, r⟩ := rx
        obtain ⟨v, hv, rv⟩ := atI_rel r hd
        exact .inr (.inl ⟨a, vs, i, v, rfl, rfl, t.seq, hv, k.at h hA rv⟩)
      | cl l =>
        cases hx
        obtain ⟨a, vs, rfl, t, r⟩ := rx
        obtain ⟨v, hv, rv⟩ := atI_rel r hd
        exact .inl ⟨a, vs, i, v, rfl, rfl, t.seq, hv, k.at h hA rv⟩
      | str l =>
        obtain ⟨rfl, hl⟩ := rx
        have hx : (if l.length ≤ SL then some (l.map fun c => D.str [c]) else none) = some xs := hx
        split at hx
        · rename_i hlen
          cases hx
          rw [atI_map] at hd
          obtain ⟨c, hc, rfl⟩ := Option.map_eq_some_iff.mp hd
          refine .inr (.inr ⟨_, i, c, rfl, rfl, ?_, by simpa using hc, k.at h hA ⟨rfl, ?_⟩⟩)
          · rw [SL_eq]; show l.toArray.size ≤ _; simpa using hlen
          · obtain ⟨j, _, hj, _⟩ := atI_get hc
            intro c' m
            simp at m; subst m
            exact hl _ (List.mem_of_getElem? hj)
        · cases hx
      | ref a =>
        cases rx
        have hx : (match A a with | some (.lst xs) => some xs | _ => none) = some xs := hx
        split at hx
        · rename_i ys hq
          cases hx
          obtain ⟨vs, e1, r⟩ := hA _ _ hq
          obtain ⟨v, hv, rv⟩ := atI_rel r hd
          exact .inl ⟨a, vs, i, v, rfl, rfl, .of e1, hv, k.at h hA rv⟩
        · cases hx
      | _ => cases hx
    · exact h.elim
  · exact h.elim
end

/-! ### slices -/
abbrev DTO := DS → AH → (Option Int → AH → Prop) → Prop
def lO (B : Bs) (t : DTO) : TO := fun σ H Q => ∃ dσ A R, RelH B A H ∧ RelS B.K H dσ σ ∧ t dσ A R ∧ ∀ o A' H', R o A' → RelH B A' H' → Grow H H' → Q o H'
abbrev QO (X : Cx) (e : Option Expr) (t : DTO) : Prop := PO X e (lO X.b t)
def dNoP : DTO := fun _ A Q => Q none A
def dPart (t : DTE) : DTO := fun σ A Q => t σ A fun x A1 => match x with
  | .int i => Q (some i) A1
  | _ => False
/-- the items of xs[lo:hi] -/
def cutD {α : Type} (xs : List α) (lo hi : Option Int) : List α := (xs.drop (HT.sIx xs.length 0 lo)).take (HT.sIx xs.length xs.length hi - HT.sIx xs.length 0 lo)
def fSl : D → Option Int → Option Int → AH → DQ → Prop
  | .str l, lo, hi, A, Q => l.length ≤ SL ∧ Q (.str (cutD l lo hi)) A
  | .ref a, lo, hi, A, Q => match A a with
    | some (.lst xs) => ∀ p, A p = none → Q (.ref p) (up A p (.lst (cutD xs lo hi)))
    | _ => False
  | .tup l, lo, hi, A, Q => Q (.tup (cutD l lo hi)) A
  | _, _, _, _, _ => False
def dSl (te : DTE) (tl th : DTO) : DTE := fun σ A Q => te σ A fun x A1 => tl σ A1 fun lo A2 => th σ A2 fun hi A3 => fSl x lo hi A3 Q
section
variable {X : Cx} {e : Expr} {lo hi : Option Expr} {te : DTE} {tl th : DTO} {pos p2 : Pos}
theorem qo_none : QO X none dNoP := ⟨fun pins s σ H Q I ⟨dσ, A, R, hA, hS, q, k⟩ => po_none.run pins s σ H Q I (k none A H q hA Grow.refl)⟩
theorem qo_some {e : Expr} (h : QE X e te) : QO X (some e) (dPart te) := ⟨fun pins s σ H Q I ⟨dσ, A, R, hA, hS, q, k⟩ => (po_some h).run pins s σ H Q I ⟨dσ, A, _, hA, hS, q, fun x A1 v H1 q1 hA1 rx g1 => by
  cases x with
  | int i => exact ⟨i, rx, k _ _ _ q1 hA1 g1⟩
  | _ => exact q1.elim⟩⟩
theorem cut_rel {K : PySem.W.Frag} {H : Hp} {ds : List D} {vs : List V} (r : RelL K H ds vs) (lo hi : Option Int) : RelL K H (cutD ds lo hi) (cutV vs lo hi) := by
  unfold cutD cutV
  rw [← r.length]
  exact (r.drop _).take _
theorem qe_slice (he : QE X e te) (hl : QO X lo tl) (hu : QO X hi th) : QE X (.Subscript e (.Slice lo hi none p2) pos) (dSl te tl th) := by
  refine imE (pe_slice (SlR.or sl_list (SlR.or sl_tupA sl_str)) he hl hu) ?_
  intro σ H Q ⟨dσ, A, R, hA, hS, q, k⟩
  refine ⟨dσ, A, _, hA, hS, q, fun x A1 v H1 q1 hA1 rx g1 => ?_⟩
  refine ⟨dσ, A1, _, hA1, hS.grow g1, q1, fun lo A2 H2 q2 hA2 g2 => ?_⟩
  refine ⟨dσ, A2, _, hA2, hS.grow (g1.trans g2), q2, fun hi A3 H3 q3 hA3 g3 => ?_⟩
  have k3 := k.from ((g1.trans g2).trans g3)
  have rx := (rx.grow g2).grow g3
  cases x with
  | str l =>
    obtain ⟨rfl, hl⟩ := rx
    refine .inr (.inr ⟨_, rfl, ?_, ?_⟩)
    · rw [SL_eq]; show l.toArray.size ≤ _; simpa using q3.1
    · have e1 : cutS ⟨l.toArray⟩ lo hi = ⟨(cutD l lo hi).toArray⟩ := by
        unfold cutS cutD
        simp [Str.length]
      rw [e1]
      exact k3.at q3.2 hA3 ⟨rfl, fun c m => hl c (List.mem_of_mem_drop (List.mem_of_mem_take m))⟩
  | ref a =>
    cases rx
    revert q3
    show (match A3 a with | some (.lst xs) => ∀ p, A3 p = none → R (.ref p) (up A3 p (.lst (cutD xs lo hi))) | _ => False) → _
    split
    · rename_i xs hq
      intro q3
      obtain ⟨vs, e1, r⟩ := hA3 _ _ hq
      refine .inl ⟨a, vs, rfl, .of e1, fun p hp => ?_⟩
      exact k3 _ _ _ _ (q3 p (hA3.free hp)) (hA3.add (u := .lst _) hp ⟨_, upd_same, (cut_rel r lo hi).grow (Grow.new hp)⟩) rfl (Grow.new hp)
    · exact fun z => z.elim
  | tup l =>
    obtain ⟨a, vs, rfl, t, r⟩ := rx
    refine .inr (.inl ⟨a, vs, rfl, t.seq, fun hw => ?_, fun hw p hp => ?_⟩)
    · rw [← r.length] at hw
      have e : cutD l lo hi = l := by
        unfold cutD
        rw [hw.1, hw.2, List.drop_zero, Nat.sub_zero, List.take_length]
      have q3 : R (.tup (cutD l lo hi)) A3 := q3
      rw [e] at q3
      exact k3 _ _ _ _ q3 hA3 ⟨a, vs, rfl, t, r⟩ Grow.refl
    exact k3 _ _ _ _ q3 (hA3.new hp) ⟨p, _, rfl, .inl upd_same, (cut_rel r lo hi).grow (Grow.new hp)⟩ (Grow.new hp)
  | _ => exact q3.elim
end

/-! ### stores to items -/
abbrev DSet := D → D → D → AH → (AH → Prop) → Prop
structure DSt (X : Cx) (f : DSet) : Prop where
  ex : ∃ r : TSet, PSet X r ∧ ∀ o i d A (R : AH → Prop) ov iv v H (Q : Hp → Prop), RelH X.b A H → RelD X.K H o ov → RelD X.K H i iv → RelD X.K H d v → f o i d A R → (∀ A' H', R A' → RelH X.b A' H' → Grow H H' → Q H') → r ov iv v H Q
def fSetL : DSet
  | .ref a, .int i, d, A, Q => match A a with
    | some (.lst xs) => match ixN xs.length i with
      | some j => Q (up A a (.lst (xs.set j d)))
      | none => False
    | _ => False
  | _, _, _, _, _ => False
def dgSub (f : DSet) (to ti : DTE) : DTG := fun d σ A Q => to σ A fun o A1 => ti σ A1 fun i A2 => f o i d A2 fun A3 => Q σ A3
theorem grow_lst {H : Hp} {a : Addr} {xs ys : List V} (h : H a = some (.lst xs)) : Grow H (upd H a (.lst ys)) := Grow.put h (fun _ z => nomatch z) (fun _ _ z => nomatch z)
section
variable {X : Cx} {o i : Expr} {to ti : DTE} {pos : Pos} {vs : List Nat}
theorem d_setL : DSt X fSetL := by
  refine ⟨_, set_list, fun o i d A R ov iv v H Q hA ro ri rd h k => ?_⟩
  unfold fSetL at h
  split at h
  · cases ro; cases ri
    split at h
    · rename_i xs hq
      split at h
      · rename_i j hj
        obtain ⟨us, e1, r⟩ := hA _ _ hq
        refine ⟨_, us, _, j, rfl, rfl, e1, by rw [← r.length]; exact hj, ?_⟩
        have g := grow_lst (ys := us.set j v) e1
        exact k _ _ h (hA.put (u := .lst _) g ⟨_, upd_same, (r.set j rd).grow g⟩) g
      · exact h.elim
    · exact h.elim
  · exact h.elim
theorem exSt {f : DSet} (h : DSt X f) : ∃ r : TSet, PSet X r ∧ ∀ o i d A (R : AH → Prop) ov iv v H (Q : Hp → Prop), RelH X.b A H → RelD X.K H o ov → RelD X.K H i iv → RelD X.K H d v → f o i d A R → (∀ A' H', R A' → RelH X.b A' H' → Grow H H' → Q H') → r ov iv v H Q := h.ex
/-- o[i] = e -/
theorem qs_sub {f : DSet} {e : Expr} {te : DTE} {spos : Pos} (hf : DSt X f) (he : QE X e te) (ho : QE X o to) (hi : QE X i ti)
    (hs : swapsWithSole [.Subscript o i pos] e spos.line X.env = pure false := by rfl) (hw : swappedStores [.Subscript o i pos] e X.env = pure none := by rfl)
    (h1 : (assignEach [.Subscript o i pos] X.env).map (·.2) = [assign (.Subscript o i pos) X.env] := by rfl)
    (ha : ∀ v, assign (.Subscript o i pos) X.env v = (do
      let ov ← holding [v] (eval o X.env)
      let iv ← holding [v, ov] (eval i X.env)
      standAt pos
      holding [v, ov, iv] (setItem ov iv v)
      release [v, ov, iv] []) := by intro _; rfl) : QS X (.Assign [.Subscript o i pos] e spos) (dAsg te (dgSub f to ti)) := by
  obtain ⟨r, hr, im⟩ := hf.ex
  have pg : PG X (.Subscript o i pos) (gSub (lE X.b to) (lE X.b ti) r) := pg_sub ho hi hr ha
  refine qs_asg (vs := []) (gv := gSub (lE X.b to) (lE X.b ti) r) he ⟨pg, ?_⟩ hs hw h1
  intro d v dσ A σ H R Q hA hS rd q k
  refine ⟨dσ, A, _, hA, hS, q, fun o A1 ov H1 q1 hA1 ro g1 => ?_⟩
  refine ⟨dσ, A1, _, hA1, hS.grow g1, q1, fun i A2 iv H2 q2 hA2 ri g2 => ?_⟩
  exact im o i d A2 _ ov iv v H2 _ hA2 (ro.grow g2) ri (rd.grow (g1.trans g2)) q2 fun A3 H3 q3 hA3 g3 => k _ _ _ _ q3 hA3 (hS.grow ((g1.trans g2).trans g3)) ((g1.trans g2).trans g3) rfl
end

/-! ### built-ins -/
def fLen : DRn
  | [.str l], A, Q => l.length ≤ SL ∧ Q (.int l.length) A
  | [.tup l], A, Q => Q (.int l.length) A
  | [.cl l], A, Q => Q (.int l.length) A
  | [.ref a], A, Q => match A a with
    | some (.lst xs) => Q (.int xs.length) A
    | _ => False
  | _, _, _ => False
def fInt : DRn
  | [.int i], A, Q => Q (.int i) A
  | [.bl b], A, Q => Q (.int (if b then 1 else 0)) A
  | _, _, _ => False
def fMin : DRn
  | [.int i, .int j], A, Q => Q (.int (min i j)) A
  | _, _, _ => False
def fMax : DRn
  | [.int i, .int j], A, Q => Q (.int (max i j)) A
  | _, _, _ => False
def fAbs : DRn
  | [.int i], A, Q => Q (.int i.natAbs) A
  | _, _, _ => False
/-- list(xs) -/
def fListOf : DRn
  | [.tup l], A, Q => ∀ p, A p = none → Q (.ref p) (up A p (.lst l))
  | [.cl l], A, Q => ∀ p, A p = none → Q (.ref p) (up A p (.lst l))
  | [.ref a], A, Q => match A a with
    | some (.lst xs) => ∀ p, A p = none → Q (.ref p) (up A p (.lst xs))
    | _ => False
  | _, _, _ => False
/-- tuple(xs) of a list -/
def fTupOf : DRn
  | [.ref a], A, Q => match A a with
    | some (.lst xs) => Q (.tup xs) A
    | _ => False
  | _, _, _ => False
theorem rel1 {K : PySem.W.Frag} {H : Hp} {d : D} {vs : List V} (r : RelL K H [d] vs) : ∃ v, vs = [v] ∧ RelD K H d v := by
  obtain ⟨v, r, rfl, h, t⟩ := r
  cases t
  exact ⟨v, rfl, h⟩
theorem rel2 {K : PySem.W.Frag} {H : Hp} {d e : D} {vs : List V} (r : RelL K H [d, e] vs) : ∃ v u, vs = [v, u] ∧ RelD K H d v ∧ RelD K H e u := by
  obtain ⟨v, r, rfl, h, t⟩ := r
  obtain ⟨u, rfl, h2⟩ := rel1 t
  exact ⟨v, u, rfl, h, h2⟩
section
variable {X : Cx}
theorem c_len : DCa X (.builtin "len") fLen := by
  refine ⟨_, CallR.or call_len_seq call_len_str, fun x A R v H Q hA rx h k => ?_⟩
  unfold fLen at h
  split at h
  · obtain ⟨v, rfl, rfl, hl⟩ := rel1 rx
    refine .inr ⟨_, rfl, ?_, ?_⟩
    · rw [SL_eq]; show Array.size _ ≤ _; simpa using h.1
    · refine k.at (d := .int _) h.2 hA ?_
      show V.int _ = V.int _
      simp [Str.length]
  · obtain ⟨v, rfl, a, vs, rfl, t, r⟩ := rel1 rx
    exact .inl ⟨a, vs, rfl, .inr t.seq, by rw [← r.length]; exact k.at h hA rfl⟩
  · obtain ⟨v, rfl, a, vs, rfl, t, r⟩ := rel1 rx
    exact .inl ⟨a, vs, rfl, .inl t.seq, by rw [← r.length]; exact k.at h hA rfl⟩
  · obtain ⟨v, rfl, rfl⟩ := rel1 rx
    split at h
    · rename_i xs hq
      obtain ⟨vs, e1, r⟩ := hA _ _ hq
      exact .inl ⟨_, vs, rfl, .inl (.of e1), by rw [← r.length]; exact k.at h hA rfl⟩
    · exact h.elim
  · exact h.elim
theorem c_int : DCa X (.type "int") fInt := by
  refine ⟨_, call_int1, fun x A R v H Q hA rx h k => ?_⟩
  unfold fInt at h
  split at h
  · obtain ⟨v, rfl, rfl⟩ := rel1 rx
    exact .inl ⟨_, rfl, k.at h hA rfl⟩
  · obtain ⟨v, rfl, rfl⟩ := rel1 rx
    exact .inr ⟨_, rfl, k.at h hA rfl⟩
  · exact h.elim
theorem c_min (hc : X.calm = true) : DCa X (.builtin "min") fMin := by
  refine ⟨_, call_min2 hc, fun x A R v H Q hA rx h k => ?_⟩
  unfold fMin at h
  split at h
  · obtain ⟨v, u, rfl, rfl, rfl⟩ := rel2 rx
    refine ⟨_, _, rfl, k.at (d := .int _) h hA ?_⟩
    show V.int _ = V.int _
    congr 1
    split <;> omega
  · exact h.elim
theorem c_max (hc : X.calm = true) : DCa X (.builtin "max") fMax := by
  refine ⟨_, call_max2 hc, fun x A R v H Q hA rx h k => ?_⟩
  unfold fMax at h
  split at h
  · obtain ⟨v, u, rfl, rfl, rfl⟩ := rel2 rx
    refine ⟨_, _, rfl, k.at (d := .int _) h hA ?_⟩
    show V.int _ = V.int _
    congr 1
    split <;> omega
  · exact h.elim
theorem c_abs : DCa X (.builtin "abs") fAbs := by
  refine ⟨_, call_abs, fun x A R v H Q hA rx h k => ?_⟩
  unfold fAbs at h
  split at h
  · obtain ⟨v, rfl, rfl⟩ := rel1 rx
    refine ⟨_, rfl, k.at (d := .int _) h hA ?_⟩
    show V.int _ = V.int _
    congr 1
    split <;> omega
  · exact h.elim
theorem c_listOf : DCa X (.type "list") fListOf := by
  refine ⟨_, call_list_of, fun x A R v H Q hA rx h k => ?_⟩
  unfold fListOf at h
  split at h
  · obtain ⟨v, rfl, a, vs, rfl, t, r⟩ := rel1 rx
    exact ⟨a, vs, rfl, .inr t.seq, fun p hp => k _ _ _ _ (h p (hA.free hp)) (hA.add (u := .lst _) hp ⟨_, upd_same, r.grow (Grow.new hp)⟩) rfl (Grow.new hp)⟩
  · obtain ⟨v, rfl, a, vs, rfl, t, r⟩ := rel1 rx
    exact ⟨a, vs, rfl, .inl t.seq, fun p hp => k _ _ _ _ (h p (hA.free hp)) (hA.add (u := .lst _) hp ⟨_, upd_same, r.grow (Grow.new hp)⟩) rfl (Grow.new hp)⟩
  · obtain ⟨v, rfl, rfl⟩ := rel1 rx
    split at h
    · rename_i xs hq
      obtain ⟨vs, e1, r⟩ := hA _ _ hq
      exact ⟨_, vs, rfl, .inl (.of e1), fun p hp => k _ _ _ _ (h p (hA.free hp)) (hA.add (u := .lst _) hp ⟨_, upd_same, r.grow (Grow.new hp)⟩) rfl (Grow.new hp)⟩
    · exact h.elim
  · exact h.elim
theorem c_tupOf : DCa X (.type "tuple") fTupOf := by
  refine ⟨_, call_tuple_of, fun x A R v H Q hA rx h k => ?_⟩
  unfold fTupOf at h
  split at h
  · obtain ⟨v, rfl, rfl⟩ := rel1 rx
    split at h
    · rename_i xs hq
      obtain ⟨vs, e1, r⟩ := hA _ _ hq
      exact ⟨_, vs, rfl, .inl ⟨.of e1, fun p hp => k _ _ _ _ h (hA.new hp) ⟨p, _, rfl, .inl upd_same, r.grow (Grow.new hp)⟩ (Grow.new hp)⟩⟩
    · exact h.elim
  · exact h.elim
end

/-! ### isinstance(x, T) -/
def tyN (A : AH) : D → Option String
  | .non => some "NoneType"
  | .bl _ => some "bool"
  | .int _ => some "int"
  | .str _ => some "str"
  | .tup _ => some "tuple"
  | .cl _ => some "list"
  | .ref a => match A a with
    | some (.lst _) => some "list"
    | some (.dic _) => some "dict"
    | some (.fdic _ _) => some "dict"
    | _ => none
def isT (T n : String) : Bool := n == T || (n == "bool" && T == "int")
/-! ### methods of lists -/
structure DMe (X : Cx) (id : String) (f : D → DRn) : Prop where
  ex : ∃ r, MtR X id r ∧ ∀ o x A R ov v H Q, RelH X.b A H → RelD X.K H o ov → RelL X.K H x v → f o x A R → Kp X.b H R Q → r ov v H Q
def dBm (ty : D → AH → Prop) (f : D → DRn) (to : DTE) (t : DTA) : DTE := fun σ A Q => to σ A fun o A1 => ty o A1 ∧ t σ A1 fun xs A2 => f o xs A2 Q
def isL : D → AH → Prop
  | .ref a, A => ∃ xs, A a = some (.lst xs)
  | .cl _, _ => True
  | _, _ => False
def isS : D → AH → Prop
  | .str _, _ => True
  | _, _ => False
def fAppend : D → DRn
  | .ref a, [d], A, Q => match A a with
    | some (.lst xs) => xs.length < SL ∧ Q .non (up A a (.lst (xs ++ [d])))
    | _ => False
  | _, _, _, _ => False
def fPop : D → DRn
  | .ref a, [], A, Q => match A a with
    | some (.lst xs) => match xs[xs.length - 1]? with
      | some d => Q d (up A a (.lst xs.dropLast))
      | none => False
    | _ => False
  | _, _, _, _ => False
/-- xs.pop(i), the place in bounds -/
def fPopAt : D → DRn
  | .ref a, [.int i], A, Q => match A a with
    | some (.lst xs) => match atI xs i, ixN xs.length i with
      | some d, some j => (-9223372036854775808 ≤ i ∧ i < 9223372036854775808) ∧ Q d (up A a (.lst (xs.eraseIdx j)))
      | _, _ => False
    | _ => False
  | _, _, _, _ => False
section
variable {X : Cx}
theorem tyL {B : Bs} {A : AH} {H : Hp} {o : D} {v : V} (hA : RelH B A H) (r : RelD B.K H o v) (h : isL o A) : tyV B.K "list" v H := by
  cases o with
  | ref a =>
    cases r
    obtain ⟨xs, e⟩ := h
    obtain ⟨vs, e1, _⟩ := hA _ _ e
    exact .inl ⟨rfl, vs, .of e1⟩
  | cl l =>
    obtain ⟨a, vs, rfl, t, _⟩ := r
    exact .inl ⟨rfl, vs, t.seq⟩
  | _ => exact h.elim
theorem tyS {B : Bs} {A : AH} {H : Hp} {o : D} {v : V} (hA : RelH B A H) (r : RelD B.K H o v) (h : isS o A) : tyV B.K "str" v H := by
  cases o with
  | str l =>
    obtain ⟨rfl, _⟩ := r
    rfl
  | _ => exact h.elim
theorem bm_t {T : String} {ty : D → AH → Prop} {f : D → DRn} {B : Bs} {m : Nat} {to : DTE} {t : DTA} {r : V → List V → Hp → VK → Prop} (hT : ∀ {A H o v}, RelH B A H → RelD B.K H o v → ty o A → tyV B.K T v H)
    (im : ∀ o x A R ov v H Q, RelH B A H → RelD B.K H o ov → RelL B.K H x v → f o x A R → Kp B H R Q → r ov v H Q) : ∀ σ H Q, lE B (dBm ty f to t) σ H Q → tBM B.K T r (lE B to) (lA B m t) σ H Q := by
  intro σ H Q ⟨dσ, A, R, hA, hS, q, k⟩
  refine ⟨dσ, A, _, hA, hS, q, fun o A1 ov H1 ⟨ty1, q1⟩ hA1 ro g1 => ⟨hT hA1 ro ty1, ?_⟩⟩
  exact ⟨dσ, A1, _, hA1, hS.grow g1, q1, fun xs A2 vs H2 q2 _ hA2 rl g2 => im o xs A2 R ov vs H2 Q hA2 (ro.grow g2) rl q2 (k.from (g1.trans g2))⟩
variable {o e : Expr} {es : List Expr} {to : DTE} {t : DTA} {name : Str} {apos cpos : Pos} {T id : String} {f : D → DRn} {ty : D → AH → Prop}
theorem qe_bm (hT : ∀ {A H o v}, RelH X.b A H → RelD X.K H o v → ty o A → tyV X.K T v H) (pa : PlainAttrs T) (slot : Slot T name id) (hty : typeOf (.builtin id) = pure (.type "method_descriptor")) (hm : DMe X id f) (ho : QE X o to) (ha : QA X (e :: es) t)
    (hbase : attributeBase o name X.env (eval o X.env) = eval o X.env := by rfl)
    (hfew : ((backTo cpos (starEach (e :: es) X.env)).all (fun x => !x.1) && (backToKw cpos (keywordEach [] X.env)).all (fun x => x.1.isSome)
      && decide ((e :: es).length + ([] : List Keyword).length + (if ([] : List Keyword).isEmpty then 0 else 1) < 30)) = true := by rfl)
    (hline : (apos.endLine == cpos.line) = true := by rfl) (hs : starEach (e :: es) X.env = (false, eval e X.env) :: starEach es X.env := by rfl) (hplain : (backTo cpos (starEach es X.env)).any (·.1) = false := by rfl) :
    QE X (.Call (.Attribute o name apos) (e :: es) [] cpos) (dBm ty f to t) := by
  obtain ⟨r, hr, im⟩ := hm.ex
  exact imE (pe_bm pa slot hty hr ho ha hbase hfew hline hs hplain) (bm_t hT im)
theorem qe_bm0 (hT : ∀ {A H o v}, RelH X.b A H → RelD X.K H o v → ty o A → tyV X.K T v H) (pa : PlainAttrs T) (slot : Slot T name id) (hty : typeOf (.builtin id) = pure (.type "method_descriptor")) (hm : DMe X id f) (ho : QE X o to)
    (hbase : attributeBase o name X.env (eval o X.env) = eval o X.env := by rfl) (hline : (apos.endLine == cpos.line) = true := by rfl) : QE X (.Call (.Attribute o name apos) [] [] cpos) (dBm ty f to dNil) := by
  obtain ⟨r, hr, im⟩ := hm.ex
  refine imE (pe_bm0 pa slot hty hr ho hbase hline) ?_
  intro σ H Q ⟨dσ, A, R, hA, hS, q, k⟩
  exact ⟨dσ, A, _, hA, hS, q, fun o A1 ov H1 ⟨ty1, q1⟩ hA1 ro g1 => ⟨hT hA1 ro ty1, im o [] A1 R ov [] H1 Q hA1 ro rfl q1 (k.from g1)⟩⟩
theorem mtr_of {id : String} {r : V → List V → Hp → VK → Prop} (h : MtM X id r) : MtR X id r := h
theorem m_append : DMe X "list.append" fAppend := by
  refine ⟨_, mtr_of mt_append, fun o x A R ov v H Q hA ro rx h k => ?_⟩
  unfold fAppend at h
  split at h
  · obtain ⟨v, rfl, rv⟩ := rel1 rx
    cases ro
    split at h
    · rename_i xs hq
      obtain ⟨vs, e1, r⟩ := hA _ _ hq
      refine ⟨_, vs, v, rfl, rfl, e1, by rw [SL_eq, ← r.length]; exact h.1, ?_⟩
      have g := grow_lst (ys := vs ++ [v]) e1
      exact k _ _ _ _ h.2 (hA.put (u := .lst _) g ⟨_, upd_same, (r.append (RelL.cons rv RelL.nil)).grow g⟩) rfl g
    · exact h.elim
  · exact h.elim
theorem m_pop : DMe X "list.pop" fPop := by
  refine ⟨_, mtr_of mt_pop, fun o x A R ov v H Q hA ro rx h k => ?_⟩
  unfold fPop at h
  split at h
  · cases rx
    cases ro
    split at h
    · rename_i xs hq
      obtain ⟨vs, e1, r⟩ := hA _ _ hq
      split at h
      · rename_i d hd
        obtain ⟨v, hv, rv⟩ := r.get hd
        refine ⟨_, vs, v, rfl, rfl, e1, by rw [← r.length]; exact hv, ?_⟩
        have g := grow_lst (ys := vs.dropLast) e1
        refine k _ _ _ _ h (hA.put (u := .lst _) g ⟨_, upd_same, ?_⟩) (rv.grow g) g
        refine RelL.grow g ?_
        have e2 := r.length
        rw [List.dropLast_eq_take, List.dropLast_eq_take, ← e2]
        exact r.take _
      · exact h.elim
    · exact h.elim
  · exact h.elim
theorem m_popAt : DMe X "list.pop" fPopAt := by
  refine ⟨_, mtr_of mt_popAt, fun o x A R ov v H Q hA ro rx h k => ?_⟩
  unfold fPopAt at h
  split at h
  · obtain ⟨v, rfl, rv⟩ := rel1 rx
    cases rv
    cases ro
    split at h
    · rename_i xs hq
      obtain ⟨vs, e1, r⟩ := hA _ _ hq
      split at h
      · rename_i d j hd hj
        obtain ⟨h1, h2, h3, h4⟩ := ixN_seq hj
        have hd' : xs[j]? = some d := by
          unfold atI at hd; rw [hj] at hd; exact hd
        obtain ⟨v, hv, rv⟩ := r.get hd'
        refine ⟨_, vs, _, j, v, rfl, rfl, e1, by have := h.1.1; omega, by have := h.1.2; omega, by rw [← r.length]; exact h1, hv, ?_⟩
        have g := grow_lst (ys := vs.eraseIdx j) e1
        exact k _ _ _ _ h.2 (hA.put (u := .lst _) g ⟨_, upd_same, (r.erase j).grow g⟩) (rv.grow g) g
      · exact h.elim
    · exact h.elim
  · exact h.elim
end

/-! ### what loops walk -/
def rangeD (lo : Int) (n : Nat) : List D := (List.range n).map fun (i : Nat) => .int (lo + i)
theorem rangeD_len {lo : Int} {n : Nat} : (rangeD lo n).length = n := by unfold rangeD; simp
theorem rangeD_get {lo : Int} {n i : Nat} (h : i < n) : (rangeD lo n)[i]? = some (.int (lo + i)) := by unfold rangeD; simp [h]
def small62 (i : Int) : Prop := -4611686018427387904 ≤ i ∧ i < 4611686018427387904
def diL (t : DTE) : DI := fun σ A P => t σ A fun x A1 => match x with
  | .ref a => (∃ xs, A1 a = some (.lst xs)) ∧ P (fun A xs => A a = some (.lst xs)) A1
  | .cl l => P (fun _ xs => xs = l) A1
  | _ => False
def diT (t : DTE) : DI := fun σ A P => t σ A fun x A1 => match x with
  | .tup l => P (fun _ xs => xs = l) A1
  | _ => False
def diS (t : DTE) : DI := fun σ A P => t σ A fun x A1 => match x with
  | .str l => P (fun _ xs => xs = l.map fun c => .str [c]) A1
  | _ => False
def diR1 (t : DTA) : DI := fun σ A P => t σ A fun ds A1 => match ds with
  | [.int j] => small62 j ∧ P (fun _ xs => xs = rangeD 0 j.toNat) A1
  | _ => False
def diR2 (t : DTA) : DI := fun σ A P => t σ A fun ds A1 => match ds with
  | [.int i, .int j] => small62 i ∧ small62 j ∧ P (fun _ xs => xs = rangeD i (j - i).toNat) A1
  | _ => False
/-- range(i, j, -1) -/
def diRn (t : DTA) : DI := fun σ A P => t σ A fun ds A1 => match ds with
  | [.int i, .int j, .int c] => c = -1 ∧ small62 i ∧ small62 j ∧ P (fun _ xs => xs = (List.range (i - j).toNat).map fun (k : Nat) => .int (i - k)) A1
  | _ => False
def enumD : Nat → List D → List D
  | _, [] => []
  | n, d :: ds => .tup [.int n, d] :: enumD (n + 1) ds
def zipD : List D → List D → List D
  | d :: ds, e :: es => .tup [d, e] :: zipD ds es
  | _, _ => []
def diE (t : DTA) : DI := fun σ A P => t σ A fun ds A1 => match ds with
  | [.ref a] => (∃ xs, A1 a = some (.lst xs)) ∧ P (fun A xs => ∃ ys, A a = some (.lst ys) ∧ xs = enumD 0 ys) A1
  | _ => False
def diZ (t : DTA) : DI := fun σ A P => t σ A fun ds A1 => match ds with
  | [.ref a, .ref b] => (∃ xs, A1 a = some (.lst xs)) ∧ (∃ xs, A1 b = some (.lst xs)) ∧ P (fun A xs => ∃ ys zs, A a = some (.lst ys) ∧ A b = some (.lst zs) ∧ xs = zipD ys zs) A1
  | _ => False
theorem enumD_get : ∀ {ys : List D} {n i : Nat} {d : D}, (enumD n ys)[i]? = some d → ∃ y, ys[i]? = some y ∧ d = .tup [.int ((n + i : Nat) : Int), y]
  | [], _, _, _, h => by simp [enumD] at h
  | y :: ys, n, 0, d, h => by
    simp [enumD] at h
    exact ⟨y, rfl, h.symm⟩
  | y :: ys, n, i + 1, d, h => by
    simp only [enumD, List.getElem?_cons_succ] at h
    obtain ⟨z, h1, h2⟩ := enumD_get h
    exact ⟨z, by simpa using h1, by rw [h2]; congr 4; omega⟩
theorem enumD_len : ∀ {ys : List D} {n : Nat}, (enumD n ys).length = ys.length
  | [], _ => rfl
  | _ :: ys, n => by simp [enumD, enumD_len (ys := ys)]
theorem zipD_get : ∀ {ys zs : List D} {i : Nat} {d : D}, (zipD ys zs)[i]? = some d → ∃ y z, ys[i]? = some y ∧ zs[i]? = some z ∧ d = .tup [y, z]
  | [], _, _, _, h => by simp [zipD] at h
  | _ :: _, [], _, _, h => by simp [zipD] at h
  | y :: ys, z :: zs, 0, d, h => by
    simp [zipD] at h
    exact ⟨y, z, rfl, rfl, h.symm⟩
  | y :: ys, z :: zs, i + 1, d, h => by
    simp only [zipD, List.getElem?_cons_succ] at h
    obtain ⟨a, b, h1, h2, h3⟩ := zipD_get h
    exact ⟨a, b, by simpa using h1, by simpa using h2, h3⟩
theorem zipD_len : ∀ {ys zs : List D}, (zipD ys zs).length = min ys.length zs.length
  | [], _ => by simp [zipD]
  | _ :: _, [] => by simp [zipD]
  | _ :: ys, _ :: zs => by simp [zipD, zipD_len (ys := ys) (zs := zs)]
section
variable {X : Cx} {tg : Expr} {e : Expr} {te : DTE} {p pos : Pos}
theorem piI {tg iter : Expr} {wi wi' : TI} (h : PI X tg iter wi) (w : ∀ σ H R, wi' σ H R → wi σ H R) : PI X tg iter wi' := ⟨fun pins s σ H R I q => h.run pins s σ H R I (w σ H R q)⟩
theorem wlk_list {B : Bs} {H0 : Hp} (a : Addr) : Wlk B H0 (Itl B.K a) (fun A xs => A a = some (.lst xs)) where
  stop := fun A H i xs _ hA e l => by
    obtain ⟨vs, e1, r⟩ := hA _ _ e
    exact ⟨vs, .of e1, by rw [← r.length]; exact l⟩
  go := fun A H i xs d _ hA e hx => by
    obtain ⟨vs, e1, r⟩ := hA _ _ e
    obtain ⟨v, hv, rv⟩ := r.get hx
    refine ⟨⟨vs, v, .of e1, hv⟩, fun x H' ⟨e', y⟩ => ?_⟩
    subst e'
    have := y vs (.of e1)
    rw [hv] at this; cases this
    exact ⟨hA, Grow.refl, rv⟩
theorem wlk_cst {B : Bs} {H0 : Hp} {a : Addr} {l : List D} {vs : List V} (t : CstAt B.K H0 a vs) (r : RelL B.K H0 l vs) : Wlk B H0 (Itl B.K a) (fun _ xs => xs = l) where
  stop := fun A H i xs g hA e hl => by
    subst e
    exact ⟨vs, (t.grow g).seq, by rw [← r.length]; exact hl⟩
  go := fun A H i xs d g hA e hx => by
    subst e
    obtain ⟨v, hv, rv⟩ := r.get hx
    refine ⟨⟨vs, v, (t.grow g).seq, hv⟩, fun x H' ⟨e', y⟩ => ?_⟩
    subst e'
    have := y vs (t.grow g).seq
    rw [hv] at this; cases this
    exact ⟨hA, Grow.refl, rv.grow g⟩
theorem wlk_tup {B : Bs} {H0 : Hp} {a : Addr} {l : List D} {vs : List V} (t : TupAt B.K H0 a vs) (r : RelL B.K H0 l vs) : Wlk B H0 (Itt B.K a) (fun _ xs => xs = l) where
  stop := fun A H i xs g hA e hl => by
    subst e
    exact ⟨vs, (t.grow g).seq, by rw [← r.length]; exact hl⟩
  go := fun A H i xs d g hA e hx => by
    subst e
    obtain ⟨v, hv, rv⟩ := r.get hx
    refine ⟨⟨vs, v, (t.grow g).seq, hv⟩, fun x H' ⟨e', y⟩ => ?_⟩
    subst e'
    have := y vs (t.grow g).seq
    rw [hv] at this; cases this
    exact ⟨hA, Grow.refl, rv.grow g⟩
theorem qi_list (h : QE X e te) : QI X tg e (diL te) := by
  refine piI (pi_list h) ?_
  intro σ H R ⟨dσ, A, P, hA, hS, q, k⟩
  refine ⟨dσ, A, _, hA, hS, q, fun x A1 v H1 q1 hA1 rx g1 => ?_⟩
  cases x with
  | ref a =>
    cases rx
    obtain ⟨⟨xs, e1⟩, q1⟩ := q1
    obtain ⟨vs, e2, r⟩ := hA1 _ _ e1
    exact ⟨a, rfl, ⟨vs, .of e2⟩, k _ _ _ _ q1 hA1 g1 (wlk_list a)⟩
  | cl l =>
    obtain ⟨a, vs, rfl, t, r⟩ := rx
    exact ⟨a, rfl, ⟨vs, t.seq⟩, k _ _ _ _ q1 hA1 g1 (wlk_cst t r)⟩
  | _ => exact q1.elim
theorem qi_tup (h : QE X e te) : QI X tg e (diT te) := by
  refine piI (pi_tup h) ?_
  intro σ H R ⟨dσ, A, P, hA, hS, q, k⟩
  refine ⟨dσ, A, _, hA, hS, q, fun x A1 v H1 q1 hA1 rx g1 => ?_⟩
  cases x with
  | tup l =>
    obtain ⟨a, vs, rfl, t, r⟩ := rx
    exact ⟨a, rfl, ⟨vs, t.seq⟩, k _ _ _ _ q1 hA1 g1 (wlk_tup t r)⟩
  | _ => exact q1.elim
theorem qi_str (h : QE X e te) : QI X tg e (diS te) := by
  refine piI (pi_str h) ?_
  intro σ H R ⟨dσ, A, P, hA, hS, q, k⟩
  refine ⟨dσ, A, _, hA, hS, q, fun x A1 v H1 q1 hA1 rx g1 => ?_⟩
  cases x with
  | str l =>
    obtain ⟨rfl, hl⟩ := rx
    refine ⟨_, rfl, k _ _ _ _ q1 hA1 g1 ⟨fun A H i xs _ hA e h => ?_, fun A H i xs d _ hA e hx => ?_⟩⟩
    · subst e
      show l.toArray.size ≤ i
      simpa using h
    · subst e
      rw [List.getElem?_map] at hx
      obtain ⟨c, hc, rfl⟩ := Option.map_eq_some_iff.mp hx
      refine ⟨?_, fun x H' ⟨e', c', hc', ex⟩ => ?_⟩
      · show i < l.toArray.size
        have := (List.getElem?_eq_some_iff.mp hc).1
        simpa using this
      · subst e'
        have hc' : l.toArray[i]? = some c' := hc'
        rw [List.getElem?_toArray, hc] at hc'
        cases hc'
        refine ⟨hA, Grow.refl, ?_⟩
        rw [ex]
        refine ⟨rfl, fun c' m => ?_⟩
        simp at m; subst m
        exact hl _ (List.mem_of_getElem? hc)
  | _ => exact q1.elim
theorem wlk_rng {B : Bs} {H0 : Hp} {lo : Int} {n : Nat} : Wlk B H0 (Itr lo n) (fun _ xs => xs = rangeD lo n) where
  stop := fun A H i xs _ hA e h => by
    subst e
    rw [rangeD_len] at h
    exact h
  go := fun A H i xs d _ hA e hx => by
    subst e
    have hi : i < n := by
      have := (List.getElem?_eq_some_iff.mp hx).1
      rwa [rangeD_len] at this
    rw [rangeD_get hi] at hx
    cases hx
    refine ⟨hi, fun x H' ⟨e', ex⟩ => ?_⟩
    subst e'
    exact ⟨hA, Grow.refl, ex⟩
theorem p62 : (2 : Int) ^ 62 = 4611686018427387904 := by decide
theorem qi_range1 {a : Expr} {ta : DTA} (hm : X.mg "range" = none) (ha : QA X [a] ta) (hg : Gl X "range" := by rfl) (hs : starEach [a] X.env = [(false, eval a X.env)] := by rfl) : QI X tg (.Call (.Name "range" p) [a] [] pos) (diR1 ta) := by
  refine piI (pi_range1 hg hm ha hs) ?_
  intro σ H R ⟨dσ, A, P, hA, hS, q, k⟩
  refine ⟨dσ, A, _, hA, hS, q, fun ds A1 vs H1 q1 l1 hA1 rl g1 => ?_⟩
  match ds, q1, rl with
  | [.int j], q1, rl =>
    obtain ⟨v, rfl, rfl⟩ := rel1 rl
    exact ⟨j, rfl, by rw [p62]; exact q1.1.1, by rw [p62]; exact q1.1.2, k _ _ _ _ q1.2 hA1 g1 wlk_rng⟩
theorem qi_range2 {a b : Expr} {ta : DTA} (hm : X.mg "range" = none) (ha : QA X [a, b] ta) (hg : Gl X "range" := by rfl) (hs : starEach [a, b] X.env = [(false, eval a X.env), (false, eval b X.env)] := by rfl) (hs2 : starEach [b] X.env = [(false, eval b X.env)] := by rfl) :
    QI X tg (.Call (.Name "range" p) [a, b] [] pos) (diR2 ta) := by
  refine piI (pi_range2 hg hm ha hs hs2) ?_
  intro σ H R ⟨dσ, A, P, hA, hS, q, k⟩
  refine ⟨dσ, A, _, hA, hS, q, fun ds A1 vs H1 q1 l1 hA1 rl g1 => ?_⟩
  match ds, q1, rl with
  | [.int i, .int j], q1, rl =>
    obtain ⟨v, u, rfl, rfl, rfl⟩ := rel2 rl
    exact ⟨i, j, rfl, by rw [p62]; exact ⟨q1.1.1, q1.1.2, q1.2.1.1, q1.2.1.2⟩, k _ _ _ _ q1.2.2 hA1 g1 wlk_rng⟩
theorem qi_rangeN {a b c : Expr} {ta : DTA} (hm : X.mg "range" = none) (ha : QA X [a, b, c] ta) (hg : Gl X "range" := by rfl)
    (hs : starEach [a, b, c] X.env = (false, eval a X.env) :: starEach [b, c] X.env := by rfl) (hpl : (backTo pos (starEach [b, c] X.env)).any (·.1) = false := by rfl) :
    QI X tg (.Call (.Name "range" p) [a, b, c] [] pos) (diRn ta) := by
  refine piI (pi_range3 hg hm ha hs hpl) ?_
  intro σ H R ⟨dσ, A, P, hA, hS, q, k⟩
  refine ⟨dσ, A, _, hA, hS, q, fun ds A1 vs H1 q1 l1 hA1 rl g1 => ?_⟩
  match ds, q1, rl with
  | [.int i, .int j, .int c], ⟨qc, q2, q3, q4⟩, rl =>
    subst qc
    obtain ⟨v, r, rfl, rfl, rl3⟩ := rl
    obtain ⟨u, w, rfl, rfl, rfl⟩ := rel2 rl3
    refine ⟨i, j, -1, _, rfl, RgC.neg (by rw [p62]; exact q2.1) (by rw [p62]; exact q2.2) (by rw [p62]; exact q3.1) (by rw [p62]; exact q3.2), k _ _ _ _ q4 hA1 g1 ⟨fun A H n xs _ hA e h => ?_, fun A H n xs d _ hA e hx => ?_⟩⟩
    · subst e
      rw [List.length_map, List.length_range] at h
      exact h
    · subst e
      have hi : n < (i - j).toNat := by
        have := (List.getElem?_eq_some_iff.mp hx).1
        simpa using this
      rw [List.getElem?_map, List.getElem?_range hi] at hx
      cases hx
      refine ⟨hi, fun x H' ⟨e', ex⟩ => ?_⟩
      subst e'
      refine ⟨hA, Grow.refl, ?_⟩
      rw [ex]
      show V.int _ = V.int _
      congr 1
      omega
theorem qi_enum {elts : List Expr} {kk : Nat} {tpos : Pos} {ta : DTA} (hm : X.mg "enumerate" = none) (ha : QA X [e] ta) (hg : Gl X "enumerate" := by rfl) (hs : starEach [e] X.env = [(false, eval e X.env)] := by rfl) :
    QI X (.Tuple elts kk tpos) (.Call (.Name "enumerate" p) [e] [] pos) (diE ta) := by
  refine piI (pi_enum hg hm ha hs) ?_
  intro σ H R ⟨dσ, A, P, hA, hS, q, k⟩
  refine ⟨dσ, A, _, hA, hS, q, fun ds A1 vs H1 q1 l1 hA1 rl g1 => ?_⟩
  match ds, q1, rl with
  | [.ref a], ⟨⟨xs, e1⟩, q1⟩, rl =>
    obtain ⟨v, rfl, rfl⟩ := rel1 rl
    obtain ⟨us, e2, r⟩ := hA1 _ _ e1
    refine ⟨a, us, rfl, .of e2, k _ _ _ _ q1 hA1 g1 ⟨fun A H n xs _ hA ⟨ys, e3, e4⟩ h => ?_, fun A H n xs d _ hA ⟨ys, e3, e4⟩ hx => ?_⟩⟩
    · subst e4
      obtain ⟨us, e2, r⟩ := hA _ _ e3
      refine ⟨us, .of e2, ?_⟩
      rw [enumD_len] at h
      rw [← r.length]; exact h
    · subst e4
      obtain ⟨us, e2, r⟩ := hA _ _ e3
      obtain ⟨y, hy, rfl⟩ := enumD_get hx
      obtain ⟨v, hv, rv⟩ := r.get hy
      refine ⟨⟨us, v, .of e2, hv⟩, fun x H' ⟨T, x', ex, hT, eH, yl⟩ => ?_⟩
      subst ex eH
      have := yl us (.of e2)
      rw [hv] at this; cases this
      refine ⟨hA.new hT, Grow.new hT, ⟨T, _, rfl, .inl upd_same, ?_⟩⟩
      exact RelL.cons (by show V.int _ = V.int _; congr 1; omega) (RelL.cons (rv.grow (Grow.new hT)) RelL.nil)
theorem qi_zip {e2 : Expr} {elts : List Expr} {kk : Nat} {tpos : Pos} {ta : DTA} (hm : X.mg "zip" = none) (ha : QA X [e, e2] ta) (hg : Gl X "zip" := by rfl) (hs : starEach [e, e2] X.env = (false, eval e X.env) :: starEach [e2] X.env := by rfl) (hs2 : (backTo pos (starEach [e2] X.env)).any (·.1) = false := by rfl) :
    QI X (.Tuple elts kk tpos) (.Call (.Name "zip" p) [e, e2] [] pos) (diZ ta) := by
  refine piI (pi_zip hg hm ha hs hs2) ?_
  intro σ H R ⟨dσ, A, P, hA, hS, q, k⟩
  refine ⟨dσ, A, _, hA, hS, q, fun ds A1 vs H1 q1 l1 hA1 rl g1 => ?_⟩
  match ds, q1, rl with
  | [.ref a, .ref b], ⟨⟨xs, e1⟩, ⟨xs', e1'⟩, q1⟩, rl =>
    obtain ⟨v, u, rfl, rfl, rfl⟩ := rel2 rl
    obtain ⟨us, e2, r⟩ := hA1 _ _ e1
    obtain ⟨us', e2', r'⟩ := hA1 _ _ e1'
    refine ⟨a, b, us, us', rfl, .of e2, .of e2', k _ _ _ _ q1 hA1 g1 ⟨fun A H n xs _ hA ⟨ys, zs, e3, e4, e5⟩ h => ?_, fun A H n xs d _ hA ⟨ys, zs, e3, e4, e5⟩ hx => ?_⟩⟩
    · subst e5
      obtain ⟨us, e2, r⟩ := hA _ _ e3
      obtain ⟨us', e2', r'⟩ := hA _ _ e4
      refine ⟨us, us', .of e2, .of e2', ?_⟩
      rw [zipD_len] at h
      rw [← r.length, ← r'.length]; omega
    · subst e5
      obtain ⟨us, e2, r⟩ := hA _ _ e3
      obtain ⟨us', e2', r'⟩ := hA _ _ e4
      obtain ⟨y, z, hy, hz, rfl⟩ := zipD_get hx
      obtain ⟨v, hv, rv⟩ := r.get hy
      obtain ⟨v', hv', rv'⟩ := r'.get hz
      refine ⟨⟨us, us', v, v', .of e2, .of e2', hv, hv'⟩, fun x H' ⟨T, x', y', ex, hT, eH, yl, yl'⟩ => ?_⟩
      subst ex eH
      have q1 := yl us (.of e2)
      rw [hv] at q1; cases q1
      have q2 := yl' us' (.of e2')
      rw [hv'] at q2; cases q2
      refine ⟨hA.new hT, Grow.new hT, ⟨T, _, rfl, .inl upd_same, ?_⟩⟩
      exact RelL.cons (rv.grow (Grow.new hT)) (RelL.cons (rv'.grow (Grow.new hT)) RelL.nil)
end
end DL
set_option Elab.async false
set_option linter.all false
set_option maxRecDepth 100000
set_option maxHeartbeats 400000
/-! DL6: keys that are ints, texts, or tuples of keys; dicts over these. -/
namespace DL
open PySem PySem.Spec PyProof.Rows L2

mutual
def D.dec : (a b : D) → Decidable (a = b)
  | .non, .non => .isTrue rfl
  | .bl a, .bl b => if h : a = b then .isTrue (by rw [h]) else .isFalse (fun e => h (by injection e))
  | .int a, .int b => if h : a = b then .isTrue (by rw [h]) else .isFalse (fun e => h (by injection e))
  | .str a, .str b => if h : a = b then .isTrue (by rw [h]) else .isFalse (fun e => h (by injection e))
  | .ref a, .ref b => if h : a = b then .isTrue (by rw [h]) else .isFalse (fun e => h (by injection e))
  | .tup a, .tup b => match D.decs a b with
    | .isTrue h => .isTrue (by rw [h])
    | .isFalse h => .isFalse (fun e => h (by injection e))
  | .cl a, .cl b => match D.decs a b with
    | .isTrue h => .isTrue (by rw [h])
    | .isFalse h => .isFalse (fun e => h (by injection e))
  | .non, .bl _ => .isFalse (fun e => nomatch e)
  | .non, .int _ => .isFalse (fun e => nomatch e)
  | .non, .str _ => .isFalse (fun e => nomatch e)
  | .non, .tup _ => .isFalse (fun e => nomatch e)
  | .non, .cl _ => .isFalse (fun e => nomatch e)
  | .non, .ref _ => .isFalse (fun e => nomatch e)
  | .bl _, .non => .isFalse (fun e => nomatch e)
  | .bl _, .int _ => .isFalse (fun e => nomatch e)
  | .bl _, .str _ => .isFalse (fun e => nomatch e)
  | .bl _, .tup _ => .isFalse (fun e => nomatch e)
  | .bl _, .cl _ => .isFalse (fun e => nomatch e)
  | .bl _, .ref _ => .isFalse (fun e => nomatch e)
  | .int _, .non => .isFalse (fun e => nomatch e)
  | .int _, .bl _ => .isFalse (fun e => nomatch e)
  | .int _, .str _ => .isFalse (fun e => nomatch e)
  | .int _, .tup _ => .isFalse (fun e => nomatch e)
  | .int _, .cl _ => .isFalse (fun e => nomatch e)
  | .int _, .ref _ => .isFalse (fun e => nomatch e)
  | .str _, .non => .isFalse (fun e => nomatch e)
  | .str _, .bl _ => .isFalse (fun e => nomatch e)
  | .str _, .int _ => .isFalse (fun e => nomatch e)
  | .str _, .tup _ => .isFalse (fun e => nomatch e)
  | .str _, .cl _ => .isFalse (fun e => nomatch e)
  | .str _, .ref _ => .isFalse (fun e => nomatch e)
  | .tup _, .non => .isFalse (fun e => nomatch e)
  | .tup _, .bl _ => .isFalse (fun e => nomatch e)
  | .tup _, .int _ => .isFalse (fun e => nomatch e)
  | .tup _, .str _ => .isFalse (fun e => nomatch e)
  | .tup _, .cl _ => .isFalse (fun e => nomatch e)
  | .tup _, .ref _ => .isFalse (fun e => nomatch e)
  | .cl _, .non => .isFalse (fun e => nomatch e)
  | .cl _, .bl _ => .isFalse (fun e => nomatch e)
  | .cl _, .int _ => .isFalse (fun e => nomatch e)
  | .cl _, .str _ => .isFalse (fun e => nomatch e)
  | .cl _, .tup _ => .isFalse (fun e => nomatch e)
  | .cl _, .ref _ => .isFalse (fun e => nomatch e)
  | .ref _, .non => .isFalse (fun e => nomatch e)
  | .ref _, .bl _ => .isFalse (fun e => nomatch e)
  | .ref _, .int _ => .isFalse (fun e => nomatch e)
  | .ref _, .str _ => .isFalse (fun e => nomatch e)
  | .ref _, .tup _ => .isFalse (fun e => nomatch e)
  | .ref _, .cl _ => .isFalse (fun e => nomatch e)
def D.decs : (a b : List D) → Decidable (a = b)
  | [], [] => .isTrue rfl
  | [], _ :: _ => .isFalse (fun e => nomatch e)
  | _ :: _, [] => .isFalse (fun e => nomatch e)
  | x :: xs, y :: ys => match D.dec x y, D.decs xs ys with
    | .isTrue h, .isTrue h' => .isTrue (by rw [h, h'])
    | .isFalse h, _ => .isFalse (fun e => h (by injection e))
    | _, .isFalse h => .isFalse (fun e => h (by injection e))
end
instance : DecidableEq D := D.dec

/-! ### keys at a heap -/
/-- the value u is the key d, at most n tuples deep -/
inductive KeyAt (h : Heap) : Nat → D → Value → Prop
  | int {n : Nat} {i : Int} {t : Tok} : KeyAt h n (.int i) (.int i t)
  | str {n : Nat} {l : List Nat} {t : Tok} (c : ∀ c ∈ l, c < 1114112) : KeyAt h n (.str l) (.str ⟨l.toArray⟩ t)
  | tup {n : Nat} {l : List D} {a : Addr} {o : Obj} {its : Array Value} {m : Nat} (e1 : h.get? a = some o) (e2 : o.cls = .type "tuple") (e3 : o.data = .seq its m) (e4 : its.toList.length = l.length)
      (e5 : ∀ (j : Nat) d v, l[j]? = some d → its.toList[j]? = some v → KeyAt h n d v) : KeyAt h (n + 1) (.tup l) (.ref a)
/-- tokens that a hash takes -/
def drw : D → Nat
  | .tup l => drws l + 1
  | _ => 1
where drws : List D → Nat
  | [] => 0
  | d :: ds => drw d + drws ds
theorem KeyAt.keeps {h h' : Heap} {d : Addr} {o : Obj} {es ep} (ho : h.get? d = some o) (hd : o.data = .dict es ep) (hs : Heap.SameBut d h h') {n : Nat} {k : D} {u : Value} (x : KeyAt h n k u) : KeyAt h' n k u := by
  induction x with
  | int => exact .int
  | str c => exact .str c
  | @tup n l a oa its m e1 e2 e3 e4 e5 ih =>
    have hne : a ≠ d := by
      rintro rfl
      rw [ho] at e1; cases e1
      rw [hd] at e3; cases e3
    exact .tup ((hs.2 a hne).trans e1) e2 e3 e4 ih
theorem KeyAt.inj {h : Heap} {n m : Nat} {x y : D} {u : Value} (hx : KeyAt h n x u) (hy : KeyAt h m y u) : x = y := by
  induction hx generalizing m y with
  | int => cases hy; rfl
  | @str n l t c =>
    generalize e : Value.str ⟨l.toArray⟩ t = u at hy
    cases hy with
    | int => cases e
    | @str _ l' t' c' =>
      injection e with e1 _
      injection e1 with e1
      have := congrArg Array.toList e1
      simp at this
      rw [this]
    | tup => cases e
  | @tup n x a o its k e1 e2 e3 e4 e5 ih =>
    generalize e : Value.ref a = u at hy
    cases hy with
    | int => cases e
    | str => cases e
    | @tup _ y a' o' its' k' f1 f2 f3 f4 f5 =>
      cases e
      rw [e1] at f1; cases f1
      rw [e3] at f3; cases f3
      congr 1
      apply List.ext_getElem?
      intro j
      by_cases c : j < x.length
      · have hx : x[j]? = some x[j] := by simp [c]
        have hy : y[j]? = some (y[j]'(by omega)) := by simp [show j < y.length by omega]
        have hi : its.toList[j]? = some (its.toList[j]'(by omega)) := List.getElem?_eq_getElem (by omega)
        rw [hx, hy, ih j _ _ hx hi (f5 j _ _ hy hi)]
      · rw [List.getElem?_eq_none (by omega), List.getElem?_eq_none (by omega)]
/-- the key told as the library tells data -/
def kpy : D → PyData
  | .int i => .int i
  | .str l => .str ⟨l.toArray⟩
  | .tup l => .tuple (kpys l)
  | _ => .none
where kpys : List D → List PyData
  | [] => []
  | d :: ds => kpy d :: kpys ds
def kdep : D → Nat
  | .tup l => kdeps l + 1
  | _ => 0
where kdeps : List D → Nat
  | [] => 0
  | d :: ds => max (kdep d) (kdeps ds)
theorem readsAll_of {h : Heap} {n : Nat} : ∀ (l : List D) (vs : List Value), vs.length = l.length → (∀ (j : Nat) d v, l[j]? = some d → vs[j]? = some v → (∃ as, Reads h v (kpy d) as) ∧ (kpy d).canLay0 = true ∧ (kpy d).depth ≤ n) →
    (∃ as, ReadsAll h vs (kpy.kpys l) as) ∧ PyData.canLayAll0 (kpy.kpys l) = true ∧ PyData.depthAll (kpy.kpys l) ≤ n
  | [], vs, hl, _ => by
    cases vs with
    | nil => exact ⟨⟨_, ReadsAll.nil⟩, rfl, Nat.zero_le _⟩
    | cons _ _ => simp at hl
  | d :: ds, vs, hl, hk => by
    cases vs with
    | nil => simp at hl
    | cons v vs =>
      obtain ⟨⟨as, r⟩, c1, c2⟩ := hk 0 d v rfl rfl
      obtain ⟨⟨bs, s⟩, c3, c4⟩ := readsAll_of ds vs (by simpa using hl) fun j d v q1 q2 => hk (j + 1) d v (by simpa using q1) (by simpa using q2)
      refine ⟨⟨_, ReadsAll.cons r s⟩, ?_, ?_⟩
      · simp only [kpy.kpys, PyData.canLayAll0, c1, c3, Bool.and_self]
      · simp only [kpy.kpys, PyData.depthAll]; omega
theorem KeyAt.reads {h : Heap} {n : Nat} {d : D} {u : Value} (x : KeyAt h n d u) : (∃ as, Reads h u (kpy d) as) ∧ (kpy d).canLay0 = true ∧ (kpy d).depth ≤ n := by
  induction x with
  | int => exact ⟨⟨_, Reads.int _ _⟩, rfl, Nat.zero_le _⟩
  | str c => exact ⟨⟨_, Reads.str _ _⟩, arr_ok c, Nat.zero_le _⟩
  | @tup n l a o its m e1 e2 e3 e4 e5 ih =>
    obtain ⟨⟨as, r⟩, c1, c2⟩ := readsAll_of l its.toList e4 ih
    exact ⟨⟨_, Reads.tuple e1 e2 e3 r⟩, c1, by show PyData.depthAll _ + 1 ≤ _; omega⟩
theorem kpys_eqv_of : ∀ (x y : List D), (∀ (j : Nat) d e, x[j]? = some d → y[j]? = some e → PyData.eqv (kpy d) (kpy e) = decide (d = e)) → PyData.eqvAll (kpy.kpys x) (kpy.kpys y) = decide (x = y)
  | [], [], _ => rfl
  | [], _ :: _, _ => rfl
  | _ :: _, [], _ => rfl
  | x :: xs, y :: ys, h => by
    have e1 := h 0 x y rfl rfl
    have e2 := kpys_eqv_of xs ys fun j d e q1 q2 => h (j + 1) d e (by simpa using q1) (by simpa using q2)
    simp only [kpy.kpys, PyData.eqvAll]
    rw [e1, e2, Bool.eq_iff_iff]; simp
theorem kpy_eqv {h : Heap} {n m : Nat} {x y : D} {u v : Value} (hx : KeyAt h n x u) (hy : KeyAt h m y v) : PyData.eqv (kpy x) (kpy y) = decide (x = y) := by
  induction hx generalizing m y v with
  | int =>
    cases hy with
    | int => simp only [kpy, PyData.eqv]; rw [Bool.eq_iff_iff]; simp
    | str => rfl
    | tup => rfl
  | str c =>
    cases hy with
    | int => rfl
    | str => simp only [kpy, PyData.eqv]; rw [Bool.eq_iff_iff]; simp
    | tup => rfl
  | @tup n x a o its k e1 e2 e3 e4 e5 ih =>
    cases hy with
    | int => rfl
    | str => rfl
    | @tup _ y a' o' its' k' f1 f2 f3 f4 f5 =>
      show PyData.eqvAll (kpy.kpys x) (kpy.kpys y) = _
      rw [kpys_eqv_of x y fun j d e q1 q2 => ?_]
      · rw [Bool.eq_iff_iff]; simp
      · have l1 := (List.getElem?_eq_some_iff.mp q1).1
        have l2 := (List.getElem?_eq_some_iff.mp q2).1
        exact ih j d _ q1 (List.getElem?_eq_getElem (by omega)) (f5 j e _ q2 (List.getElem?_eq_getElem (by omega)))
section
variable {prog : Program} {w : World} {A : Around} {E : Value → Shared → Prop}
theorem hash_key : ∀ (n : Nat) (A : Around) (s : Shared) (d : D) (u : Value) (Q : Int → Shared → Prop), A.units + n < cLine → KeyAt s.heap n d u → Q (hsh w d) { s with toks := s.toks + drw d } → wpAny (model prog w) A (pyHash u) Q E s
  | _, A, s, _, _, Q, _, .int, h => wpAny_pyHash_int h
  | _, A, s, _, _, Q, _, .str _, h => wpAny_pyHash_str h
  | n + 1, A, s, _, _, Q, hu, .tup (l := l) (a := a) (o := o) (its := items) ho hc hd hl hk, h => by
    have hT : s.TypeIs (.ref a) "tuple" := ⟨o, ho, hc⟩
    unfold pyHash
    first | unfold pyHashByItsType | skip
    first | refine wpAny_bind (wpAny_cRoomFor_or (.inr (by omega)) ?_) | skip
    refine wpAny_bind (wpAny_specialOf hT F.slot_tuple_hash.lookup ?_)
    show wpAny _ _ (if (some (Value.builtin "tuple.__hash__") == some Value.none) = true then _ else _) Q E s
    rw [if_neg (by rw [beq_builtin_none]; exact Bool.false_ne_true)]
    refine wpAny_bind (wpAny_specialOf hT F.slot_tuple_hash.lookup ?_)
    show wpAny _ _ (callSpecialIfBoundUnlessNone? (.ref a) "__hash__" _ >>= _) Q E s
    refine wpAny_bind (wpAny_callSpecialIfBoundUnlessNone?_slot hT F.slot_tuple_hash (wpAny_call_entry F.slot_tuple_hash hT F.entry_tuple_hash ?_ (F.args_tuple_hash_1 _)))
    show wpAny _ _ (Builtin.Tuple.tupleItemsOf (.ref a) >>= _) _ _ s
    refine wpAny_bind (wpAny_tupleItemsOf ho hd ?_)
    refine wpAny_bind ?_
    rw [← Array.forIn_toList]
    refine wpAny_forIn_list _
      (fun rest (b : Array Int) s' => ∃ done left, l = done ++ left ∧ rest.length = left.length ∧ (∀ (j : Nat) d v, left[j]? = some d → rest[j]? = some v → KeyAt s.heap n d v) ∧ b.toList = hsh.hshs w done ∧ s' = { s with toks := s.toks + drw.drws done })
      _ ?_ ?_ _ _ ⟨[], l, rfl, hl, hk, rfl, rfl⟩
    · rintro x rest b s' ⟨done, left, rfl, hl', hk', hb, rfl⟩
      cases left with
      | nil => simp at hl'
      | cons k ks =>
        have app : ∀ (a : List D), hsh.hshs w (a ++ [k]) = hsh.hshs w a ++ [hsh w k] := by
          intro a; induction a with
          | nil => rfl
          | cons z a ih => simp only [List.cons_append, hsh.hshs, ih]
        have app2 : ∀ (a : List D), drw.drws (a ++ [k]) = drw.drws a + drw k := by
          intro a; induction a with
          | nil => simp [drw.drws]
          | cons z a ih => simp only [List.cons_append, drw.drws, ih]; omega
        have fin : ∃ done' left, done ++ k :: ks = done' ++ left ∧ rest.length = left.length ∧ (∀ (j : Nat) d v, left[j]? = some d → rest[j]? = some v → KeyAt s.heap n d v) ∧ (b.push (hsh w k)).toList = hsh.hshs w done' ∧ ({ s with toks := s.toks + drw.drws done + drw k } : Shared) = { s with toks := s.toks + drw.drws done' } :=
          ⟨done ++ [k], ks, by simp, by simpa using hl', fun j d v q1 q2 => hk' (j + 1) d v (by simpa using q1) (by simpa using q2), by rw [app]; simp [hb], by rw [app2, Nat.add_assoc]⟩
        refine wpAny_bind (hash_key n _ _ k x _ (by first | omega | (show A.units + 1 + n < cLine; omega)) (hk' 0 k x rfl rfl) ?_)
        first
          | exact wpAny_pure fin
          | exact wpAny_bind (wpAny_pure (wpAny_pure fin))
    · rintro b s' ⟨done, left, rfl, hl', hk', hb, rfl⟩
      cases left with
      | cons _ _ => simp at hl'
      | nil =>
        rw [List.append_nil] at h
        show wpAny _ _ (retInt (Builtin.Tuple.tupleHashOf b.toList)) _ _ _
        rw [hb]
        refine wpAny_ret_mkInt ?_
        show wpAny _ _ (if (decide (-(2 : Int) ^ 63 ≤ Builtin.Tuple.tupleHashOf (hsh.hshs w done)) && decide (Builtin.Tuple.tupleHashOf (hsh.hshs w done) < 2 ^ 63)) = true then _ else _) Q E _
        have h : Q (reduceHash (Builtin.Tuple.tupleHashOf (hsh.hshs w done))) { s with toks := s.toks + (drw.drws done + 1) } := h
        unfold reduceHash at h
        by_cases hr : (decide (-(2 : Int) ^ 63 ≤ Builtin.Tuple.tupleHashOf (hsh.hshs w done)) && decide (Builtin.Tuple.tupleHashOf (hsh.hshs w done) < 2 ^ 63)) = true
        · rw [if_pos hr]
          rw [if_pos hr] at h
          exact wpAny_pure (by simpa [Nat.add_assoc] using h)
        · rw [if_neg hr]
          rw [if_neg hr] at h
          exact wpAny_bind (wpAny_rule (wpAny_pure (by simpa [Nat.add_assoc] using h)))
theorem quiet_key {s : Shared} {n : Nat} {d : D} {u : Value} (hk : KeyAt s.heap n d u) : ∀ (m : Nat) (Q : Bool → Shared → Prop), n ≤ m → Q true s → wpAny (model prog w) A (eqIsQuiet m u) Q E s := by
  induction hk with
  | @int n i t =>
    intro m Q hm h
    rw [eqIsQuiet_byValue m (show carriedByValue (Value.int i t) = true from rfl)]
    exact wpAny_pure h
  | @str n l t c =>
    intro m Q hm h
    rw [eqIsQuiet_byValue m (show carriedByValue (Value.str ⟨l.toArray⟩ t) = true from rfl)]
    exact wpAny_pure h
  | @tup n l a o items mm ho hc hd hl hk ih =>
    intro m Q hm h
    obtain ⟨m, rfl⟩ : ∃ k, m = k + 1 := ⟨m - 1, by omega⟩
    have hT : s.TypeIs (.ref a) "tuple" := ⟨o, ho, hc⟩
    unfold eqIsQuiet
    refine wpAny_bind (wpAny_specialOf hT F.slot_tuple_eq.lookup ?_)
    show wpAny _ _ (isInstance (.ref a) (.type "tuple") >>= _) _ _ s
    refine wpAny_bind (wpAny_isInstance hT isSubtype_tuple_tuple ?_)
    simp only [Bool.not_true, Bool.false_eq_true, if_false]
    refine wpAny_bind (wpAny_seqItems ho hd ?_)
    refine wpAny_bind ?_
    show wpAny _ _ (forIn items _ _) _ _ s
    rw [← Array.forIn_toList]
    refine wpAny_forIn_list _ (fun rest r s' => r.1 = none ∧ s' = s ∧ ∃ left : List D, rest.length = left.length ∧ ∀ (j : Nat) d v, left[j]? = some d → rest[j]? = some v → ∀ (m : Nat) (Q : Bool → Shared → Prop), n ≤ m → Q true s → wpAny (model prog w) A (eqIsQuiet m v) Q E s) _ ?_ ?_ _ _ ⟨rfl, rfl, l, hl, ih⟩
    · rintro v rest r s' ⟨hr, rfl, left, hl', hk'⟩
      cases left with
      | nil => simp at hl'
      | cons k ks =>
        refine wpAny_bind (hk' 0 k v rfl rfl m _ (by omega) ?_)
        simp only [Bool.not_true, Bool.false_eq_true, if_false]
        exact wpAny_pure ⟨rfl, rfl, ks, by simpa using hl', fun j d v q1 q2 => hk' (j + 1) d v (by simpa using q1) (by simpa using q2)⟩
    · rintro ⟨r1, r2⟩ s' ⟨hr, rfl, _⟩
      simp only at hr
      subst hr
      exact wpAny_pure h
theorem eq_key {n m : Nat} {s : Shared} {x y : D} {u v : Value} {Q : Bool → Shared → Prop} (hu : A.units + n < cLine) (hx : KeyAt s.heap n x u) (hy : KeyAt s.heap m y v) (h : Q (decide (x = y)) s) : wpAny (model prog w) A (eqBool u v) Q E s := by
  obtain ⟨⟨as, r1⟩, c1, d1⟩ := hx.reads
  obtain ⟨⟨bs, r2⟩, c2, d2⟩ := hy.reads
  have := SeqAt.eqAt_reads _ _ A s u v as bs r1 r2 c1 c2 (by have : min (kpy x).depth (kpy y).depth ≤ n := Nat.le_trans (Nat.min_le_left _ _) d1; omega)
  rw [kpy_eqv hx hy] at this
  exact this prog w E Q h
end
/-- tuples of keys, at most four deep -/
def nestKind (prog : Program) (w : World) : HeapKind prog w D where
  is := fun h k a => isTup k = true ∧ KeyAt h 4 k (.ref a)
  hash := hsh w
  draws := drw
  room := fun A => A.units + 4 < cLine
  inj := fun hx hy => hx.2.inj hy.2
  keeps := fun x ho hd hs => ⟨x.1, x.2.keeps ho hd hs⟩
  pyHash := fun hu hk h => hash_key 4 _ _ _ _ _ hu hk.2 h
  eqBool := fun hu hx hy h => eq_key hu hx.2 hy.2 h
  quiet := fun hk h => quiet_key hk.2 8 _ (by decide) h
end DL
set_option Elab.async false
set_option linter.all false
set_option maxRecDepth 100000
set_option maxHeartbeats 1000000
/-! DL7: dicts over plain data: get, in, store, methods. -/
namespace DL
open PySem PySem.Spec PyProof.Rows L2

/-! ### tables -/
def dget {α : Type} (kvs : List (D × α)) (k : D) : Option α := (kvs.find? fun p => decide (p.1 = k)).map (·.2)
def dput {α : Type} (kvs : List (D × α)) (k : D) (v : α) : List (D × α) :=
  if (kvs.any fun p => decide (p.1 = k)) = true then kvs.map (fun p => if p.1 = k then (p.1, v) else p) else kvs ++ [(k, v)]
/-- a key that goes with a table -/
def okK {α : Type} (kvs : List (D × α)) (k : D) : Bool := isKey k && kvs.all fun p => isTup p.1 == isTup k
/-- the dict at a -/
def DicOf (A : AH) (a : Addr) (kvs : List (D × D)) : Prop := A a = some (.dic kvs) ∨ ∃ od, A a = some (.fdic od kvs)

/-! ### raw readings: plain data in the place of values -/
def lR2 (B : Bs) (f : DR2) : R2 := fun x y H Q => ∃ dx dy A R, RelH B A H ∧ RelD B.K H dx x ∧ RelD B.K H dy y ∧ f dx dy A R ∧ Kp B H R Q
def lRn (B : Bs) (f : DRn) : List V → Hp → VK → Prop := fun xs H Q => ∃ ds A R, RelH B A H ∧ RelL B.K H ds xs ∧ f ds A R ∧ Kp B H R Q
theorem DOp.raw {X : Cx} {g : Value → Value → Sem Value} {f : DR2} (h : OpR X g (lR2 X.b f)) : DOp X g f := ⟨_, h, fun x y A R v u H Q hA rx ry q k => ⟨x, y, A, R, hA, rx, ry, q, k⟩⟩
theorem DCa.raw {X : Cx} {g : Value} {f : DRn} (h : CallR X g (lRn X.b f)) : DCa X g f := ⟨_, h, fun x A R v H Q hA rx q k => ⟨x, A, R, hA, rx, q, k⟩⟩
theorem DOp.or {X : Cx} {g : Value → Value → Sem Value} {f f1 f2 : DR2} (h1 : DOp X g f1) (h2 : DOp X g f2) (w : ∀ x y A R, f x y A R → f1 x y A R ∨ f2 x y A R) : DOp X g f := by
  obtain ⟨r1, o1, i1⟩ := h1.ex
  obtain ⟨r2, o2, i2⟩ := h2.ex
  refine ⟨_, OpR.or o1 o2, fun x y A R v u H Q hA rx ry q k => ?_⟩
  rcases w x y A R q with q | q
  · exact .inl (i1 x y A R v u H Q hA rx ry q k)
  · exact .inr (i2 x y A R v u H Q hA rx ry q k)
theorem DCa.or {X : Cx} {g : Value} {f f1 f2 : DRn} (h1 : DCa X g f1) (h2 : DCa X g f2) (w : ∀ x A R, f x A R → f1 x A R ∨ f2 x A R) : DCa X g f := by
  obtain ⟨r1, o1, i1⟩ := h1.ex
  obtain ⟨r2, o2, i2⟩ := h2.ex
  refine ⟨_, CallR.or o1 o2, fun x A R v H Q hA rx q k => ?_⟩
  rcases w x A R q with q | q
  · exact .inl (i1 x A R v H Q hA rx q k)
  · exact .inr (i2 x A R v H Q hA rx q k)
theorem DIx.or {X : Cx} {f f1 f2 : DR2} (h1 : DIx X f1) (h2 : DIx X f2) (w : ∀ x y A R, f x y A R → f1 x y A R ∨ f2 x y A R) : DIx X f := by
  obtain ⟨r1, o1, i1⟩ := h1.ex
  obtain ⟨r2, o2, i2⟩ := h2.ex
  refine ⟨_, IxR.or o1 o2, fun x y A R v u H Q hA rx ry q k => ?_⟩
  rcases w x y A R q with q | q
  · exact .inl (i1 x y A R v u H Q hA rx ry q k)
  · exact .inr (i2 x y A R v u H Q hA rx ry q k)

/-! ### keys of the heap -/
section
variable {X : Cx} {pins : List (Addr × Obj)} {σ : L2.St} {H : Hp} {s : Shared}
theorem TupAt.raw (I : L2.Inv X pins σ H s) {a : Addr} {vs : List V} (h : TupAt X.K H a vs) : ∃ o its n, s.heap.get? a = some o ∧ o.cls = .type "tuple" ∧ o.data = .seq its n ∧ Vals vs its.toList := by
  obtain ⟨its, r, ⟨o, e, c, n, d⟩, _⟩ := I.tuple h.seq
  exact ⟨o, its.toArray, n, e, c, d, by simpa using r⟩
theorem key_at (I : L2.Inv X pins σ H s) : ∀ (n : Nat) (d : D) (v : V) (u : Value), isKeyN n d = true → RelD X.K H d v → RelV v u → KeyAt s.heap n d u := by
  intro n
  induction n with
  | zero =>
    intro d v u hk rd ru
    cases d with
    | int i => cases rd; obtain ⟨t, rfl⟩ := ru; exact .int
    | str l => obtain ⟨rfl, c⟩ := rd; obtain ⟨t, rfl⟩ := ru; exact .str c
    | _ => cases hk
  | succ n ih =>
    intro d v u hk rd ru
    cases d with
    | int i => cases rd; obtain ⟨t, rfl⟩ := ru; exact .int
    | str l => obtain ⟨rfl, c⟩ := rd; obtain ⟨t, rfl⟩ := ru; exact .str c
    | tup l =>
      obtain ⟨a, vs, rfl, t, r⟩ := rd
      cases ru
      obtain ⟨o, its, m, e1, e2, e3, rv⟩ := TupAt.raw I t
      have hl := rv.length
      refine .tup e1 e2 e3 (by rw [← hl, r.length]) fun j d v q1 q2 => ?_
      obtain ⟨w, hw, rw'⟩ := r.get q1
      obtain ⟨u', hu', ru'⟩ := rv.get hw
      rw [q2] at hu'; cases hu'
      exact ih d w v (List.all_eq_true.mp hk d (List.mem_of_getElem? q1)) rw' ru'
    | _ => cases hk
theorem isTup_ref {K : PySem.W.Frag} {d : D} {u : Value} (h : ReV K H d u) (t : isTup d = true) : ∃ b, u = .ref b := by
  cases d with
  | tup l =>
    obtain ⟨v, ⟨a, vs, rfl, _⟩, rv⟩ := h
    cases rv
    exact ⟨a, rfl⟩
  | _ => cases t
/-- a flat key as the library has it -/
def kyD : D → Key
  | .int i => .inl i
  | .str l => .inr ⟨l.toArray⟩
  | _ => .inl 0
theorem kyD_rel {K : PySem.W.Frag} {d : D} {v : V} (hk : isKey d = true) (ht : isTup d = false) (r : RelD K H d v) : v = kV (kyD d) := by
  cases d with
  | int i => exact r
  | str l => exact r.1
  | tup l => cases ht
  | _ => cases hk
theorem kyD_inj {d e : D} (h1 : isKey d = true) (h2 : isTup d = false) (h3 : isKey e = true) (h4 : isTup e = false) (h : kyD d = kyD e) : d = e := by
  cases d with
  | int i => cases e with
    | int j => cases h; rfl
    | str l => cases h
    | tup l => cases h4
    | _ => cases h3
  | str l => cases e with
    | int j => cases h
    | str m =>
      have h : (Sum.inr ⟨l.toArray⟩ : Key) = Sum.inr ⟨m.toArray⟩ := h
      injection h with h
      injection h with h
      have := congrArg Array.toList h
      simp at this
      rw [this]
    | tup l => cases h4
    | _ => cases h3
  | tup l => cases h2
  | _ => cases h1
theorem kyD_hash (w : World) {d : D} (h1 : isKey d = true) (h2 : isTup d = false) : hsh w d = keyH w (kyD d) := by
  cases d with
  | int i => rfl
  | str l => rfl
  | tup l => cases h2
  | _ => cases h1
/-- tables side by side -/
def TR (K : PySem.W.Frag) (H : Hp) : List (D × D) → List (D × Addr × Value) → Prop
  | [], xs => xs = []
  | p :: ps, xs => ∃ x r, xs = x :: r ∧ x.1 = p.1 ∧ ReV K H p.1 (.ref x.2.1) ∧ ReV K H p.2 x.2.2 ∧ TR K H ps r
def FR (K : PySem.W.Frag) (H : Hp) : List (D × D) → List (Key × Value) → Prop
  | [], xs => xs = []
  | p :: ps, xs => ∃ x r, xs = x :: r ∧ x.1 = kyD p.1 ∧ ReV K H p.2 x.2 ∧ FR K H ps r
theorem view_at (I : L2.Inv X pins σ H s) {A : AH} (hA : RelH X.b A H) {a : Addr} {kvs : List (D × D)} (e : DicOf A a kvs) : ∃ es, DicAt X.w a es s.heap ∧ EntL X.K H kvs es ∧ GoodD kvs := by
  rcases e with e | e
  · obtain ⟨es, e1, r, g⟩ := hA _ _ e
    exact ⟨es, (I.hok _ _ e1).1, r, g⟩
  · obtain ⟨o, e⟩ := e
    obtain ⟨es, e1, r, g, _⟩ := hA _ _ e
    exact ⟨es, (I.hok _ _ e1).2.1, r, g⟩
theorem TR.keys {K : PySem.W.Frag} : ∀ {kvs : List (D × D)} {xs : List (D × Addr × Value)}, TR K H kvs xs → xs.map (·.1) = kvs.map (·.1)
  | [], _, h => by cases h; rfl
  | _ :: _, _, ⟨x, r, e, h1, _, _, t⟩ => by cases e; simp only [List.map_cons, h1, TR.keys t]
theorem TR.length {K : PySem.W.Frag} {kvs : List (D × D)} {xs : List (D × Addr × Value)} (h : TR K H kvs xs) : xs.length = kvs.length := by
  have := congrArg List.length h.keys
  simpa using this
theorem FR.keys {K : PySem.W.Frag} : ∀ {kvs : List (D × D)} {xs : List (Key × Value)}, FR K H kvs xs → xs.map (·.1) = kvs.map fun p => kyD p.1
  | [], _, h => by cases h; rfl
  | _ :: _, _, ⟨x, r, e, h1, _, t⟩ => by cases e; simp only [List.map_cons, h1, FR.keys t]
theorem FR.length {K : PySem.W.Frag} {kvs : List (D × D)} {xs : List (Key × Value)} (h : FR K H kvs xs) : xs.length = kvs.length := by
  have := congrArg List.length h.keys
  simpa using this
/-- a table of tuple keys -/
theorem view_t (I : L2.Inv X pins σ H s) {A : AH} (hA : RelH X.b A H) {a : Addr} {kvs : List (D × D)} (e : DicOf A a kvs) (ht : ∀ p ∈ kvs, isTup p.1 = true) :
    ∃ xs, s.heap.DictOfH (nestKind X.prog X.w) a xs ∧ TR X.K H kvs xs ∧ (a == sysModules) = false ∧ GoodD kvs := by
  obtain ⟨es, ⟨o, ep, h1, h2, h3, h4⟩, r, g⟩ := view_at I hA e
  have key : ∀ (kvs : List (D × D)) (es : List Ent), EntL X.K H kvs es → (∀ p ∈ kvs, isTup p.1 = true) → (∀ p ∈ kvs, isKey p.1 = true) →
      ∃ xs : List (D × Addr × Value), TR X.K H kvs xs ∧ (es.map fun e => (⟨hsh X.w e.1, e.2.1, e.2.2⟩ : DictEntry)) = xs.map (entryOfKey (nestKind X.prog X.w)) ∧ ∀ x ∈ xs, (nestKind X.prog X.w).is s.heap x.1 x.2.1 := by
    intro kvs
    induction kvs with
    | nil => intro es h _ _; cases h; exact ⟨[], rfl, rfl, fun _ z => nomatch z⟩
    | cons p ps ih =>
      intro es ⟨en, r, e1, e2, e3, e4, e5⟩ ht hk
      subst e1
      obtain ⟨xs, t1, t2, t3⟩ := ih r e5 (fun q m => ht q (List.mem_cons_of_mem _ m)) (fun q m => hk q (List.mem_cons_of_mem _ m))
      obtain ⟨b, hb⟩ := isTup_ref e3 (ht p List.mem_cons_self)
      obtain ⟨v, rd, rv⟩ := id e3
      refine ⟨(p.1, b, en.2.2) :: xs, ⟨_, xs, rfl, rfl, by rw [← hb]; exact e3, e4, t1⟩, ?_, fun x m => ?_⟩
      · rw [List.map_cons, List.map_cons, t2]
        congr 1
        show (⟨hsh X.w en.1, en.2.1, en.2.2⟩ : DictEntry) = ⟨hsh X.w p.1, .ref b, en.2.2⟩
        rw [e2, hb]
      · rcases List.mem_cons.mp m with rfl | m
        · exact ⟨ht p List.mem_cons_self, by rw [← hb]; exact key_at I 4 _ _ _ (hk p List.mem_cons_self) rd rv⟩
        · exact t3 x m
  obtain ⟨xs, t1, t2, t3⟩ := key kvs es r ht g.2.2.1
  exact ⟨xs, ⟨o, _, ep, h1, h2, h3, by simpa using t2, t3, by rw [t1.keys]; exact g.1⟩, t1, h4, g⟩
theorem nodup_ky : ∀ {kvs : List (D × D)}, (∀ p ∈ kvs, isKey p.1 = true) → (∀ p ∈ kvs, isTup p.1 = false) → (kvs.map (·.1)).Nodup → (kvs.map fun p => kyD p.1).Nodup
  | [], _, _, _ => List.nodup_nil
  | p :: ps, hk, ht, hn => by
    rw [List.map_cons, List.nodup_cons] at hn ⊢
    refine ⟨fun m => hn.1 ?_, nodup_ky (fun q m => hk q (List.mem_cons_of_mem _ m)) (fun q m => ht q (List.mem_cons_of_mem _ m)) hn.2⟩
    obtain ⟨q, mq, e⟩ := List.mem_map.mp m
    have := kyD_inj (hk q (List.mem_cons_of_mem _ mq)) (ht q (List.mem_cons_of_mem _ mq)) (hk p List.mem_cons_self) (ht p List.mem_cons_self) e
    exact List.mem_map.mpr ⟨q, mq, this⟩
/-- a table of flat keys -/
theorem view_f (I : L2.Inv X pins σ H s) {A : AH} (hA : RelH X.b A H) {a : Addr} {kvs : List (D × D)} (e : DicOf A a kvs) (ht : ∀ p ∈ kvs, isTup p.1 = false) :
    ∃ xs, s.heap.DictOf (mixKind X.prog X.w) a xs ∧ FR X.K H kvs xs ∧ (a == sysModules) = false ∧ GoodD kvs := by
  obtain ⟨es, ⟨o, ep, h1, h2, h3, h4⟩, r, g⟩ := view_at I hA e
  have key : ∀ (kvs : List (D × D)) (es : List Ent), EntL X.K H kvs es → (∀ p ∈ kvs, isTup p.1 = false) → (∀ p ∈ kvs, isKey p.1 = true) →
      ∃ xs : List (Key × Value), FR X.K H kvs xs ∧ Pairs (mixKind X.prog X.w) (es.map fun e => (⟨hsh X.w e.1, e.2.1, e.2.2⟩ : DictEntry)) xs ∧ ∀ en ∈ (es.map fun e => (⟨hsh X.w e.1, e.2.1, e.2.2⟩ : DictEntry)), ∃ k, (mixKind X.prog X.w).is k en.key = true ∧ en.hash = (mixKind X.prog X.w).hash k := by
    intro kvs
    induction kvs with
    | nil => intro es h _ _; cases h; exact ⟨[], rfl, .nil, fun _ z => nomatch z⟩
    | cons p ps ih =>
      intro es ⟨en, r, e1, e2, e3, e4, e5⟩ ht hk
      subst e1
      obtain ⟨xs, t1, t2, t3⟩ := ih r e5 (fun q m => ht q (List.mem_cons_of_mem _ m)) (fun q m => hk q (List.mem_cons_of_mem _ m))
      obtain ⟨v, rd, rv⟩ := id e3
      have hv := kyD_rel (hk p List.mem_cons_self) (ht p List.mem_cons_self) rd
      subst hv
      have is : (mixKind X.prog X.w).is (kyD p.1) en.2.1 = true := kV_is rv
      refine ⟨(kyD p.1, en.2.2) :: xs, ⟨_, xs, rfl, rfl, e4, t1⟩, .cons is rfl t2, fun x m => ?_⟩
      rw [List.map_cons] at m
      rcases List.mem_cons.mp m with rfl | m
      · refine ⟨kyD p.1, is, ?_⟩
        show hsh X.w en.1 = keyH X.w (kyD p.1)
        rw [e2]; exact kyD_hash X.w (hk p List.mem_cons_self) (ht p List.mem_cons_self)
      · exact t3 x m
  obtain ⟨xs, t1, t2, t3⟩ := key kvs es r ht g.2.2.1
  exact ⟨xs, ⟨o, _, ep, h1, h2, h3, fun en m => t3 en (by simpa using m), by simpa using t2, by rw [t1.keys]; exact nodup_ky g.2.2.1 ht g.1⟩, t1, h4, g⟩
theorem TR.get {K : PySem.W.Frag} {k : D} : ∀ {kvs : List (D × D)} {xs : List (D × Addr × Value)}, TR K H kvs xs → (dget kvs k = none ∧ atKey xs k = none) ∨ ∃ d p, dget kvs k = some d ∧ atKey xs k = some p ∧ ReV K H d p.2
  | [], _, h => by cases h; exact .inl ⟨rfl, rfl⟩
  | q :: ps, _, ⟨x, r, e, h1, h2, h3, t⟩ => by
    cases e
    unfold dget atKey
    by_cases c : q.1 = k
    · refine .inr ⟨q.2, x.2, ?_, ?_, h3⟩
      · simp [List.find?_cons, c]
      · simp [List.find?_cons, h1.trans c]
    · have c' : ¬ x.1 = k := fun z => c (h1.symm.trans z)
      have ih := TR.get (k := k) t
      unfold dget atKey at ih
      simpa only [List.find?_cons, decide_eq_false c, decide_eq_false c'] using ih
theorem FR.get {K : PySem.W.Frag} {k : D} (hk : isKey k = true) (ht : isTup k = false) : ∀ {kvs : List (D × D)} {xs : List (Key × Value)}, (∀ p ∈ kvs, isKey p.1 = true) → (∀ p ∈ kvs, isTup p.1 = false) → FR K H kvs xs →
    (dget kvs k = none ∧ valueAt xs (kyD k) = none) ∨ ∃ d v, dget kvs k = some d ∧ valueAt xs (kyD k) = some v ∧ ReV K H d v
  | [], _, _, _, h => by cases h; exact .inl ⟨rfl, rfl⟩
  | q :: ps, _, g1, g2, ⟨x, r, e, h1, h3, t⟩ => by
    cases e
    unfold dget valueAt
    by_cases c : q.1 = k
    · refine .inr ⟨q.2, x.2, ?_, ?_, h3⟩
      · simp [List.find?_cons, c]
      · simp [List.find?_cons, h1, c]
    · have c' : ¬ x.1 = kyD k := fun z => c (kyD_inj (g1 q List.mem_cons_self) (g2 q List.mem_cons_self) hk ht (h1.symm.trans z))
      have ih := FR.get hk ht (fun p m => g1 p (List.mem_cons_of_mem _ m)) (fun p m => g2 p (List.mem_cons_of_mem _ m)) t
      unfold dget valueAt at ih
      simpa only [List.find?_cons, decide_eq_false c, decide_eq_false c'] using ih
theorem okK_key {kvs : List (D × D)} {k : D} (h : okK kvs k = true) : isKey k = true := (Bool.and_eq_true_iff.mp h).1
theorem okK_all {kvs : List (D × D)} {k : D} (h : okK kvs k = true) : ∀ p ∈ kvs, isTup p.1 = isTup k := fun p m => by
  have := List.all_eq_true.mp (Bool.and_eq_true_iff.mp h).2 p m
  simpa using this
variable {A₀ : Around} {E : Value → Shared → Prop} {A : AH} {a : Addr} {kvs : List (D × D)} {k : D} {y : V} {u : Value}
theorem x_getItem {d : D} {Q : Value → Shared → Prop} (hu : A₀.units + 5 < cLine) (I : L2.Inv X pins σ H s) (hA : RelH X.b A H) (e : DicOf A a kvs) (ok : okK kvs k = true) (rk : RelD X.K H k y) (ry : RelV y u) (hd : dget kvs k = some d)
    (h : ∀ w' s', L2.Inv X pins σ H s' → ReV X.K H d w' → Q w' s') : s.TypeIs (.ref a) "dict" ∧ wpAny (model X.prog X.w) A₀ (getItem (.ref a) u) Q E s := by
  have all := okK_all ok
  cases ht : isTup k with
  | true =>
    rw [ht] at all
    obtain ⟨xs, dd, t, hs, g⟩ := view_t I hA e all
    obtain ⟨b, hb⟩ := isTup_ref ⟨y, rk, ry⟩ ht
    subst hb
    rcases t.get (k := k) with ⟨z, _⟩ | ⟨d', p, h1, h2, h3⟩
    · rw [hd] at z; cases z
    · rw [hd] at h1; cases h1
      exact ⟨dd.typeIs, wpAny_getItem_heap (knd := nestKind X.prog X.w) (by show A₀.units + 1 + 4 < cLine; omega) ⟨ht, key_at I 4 _ _ _ (okK_key ok) rk ry⟩ dd h2 (h _ _ (I.tok _) h3)⟩
  | false =>
    rw [ht] at all
    obtain ⟨xs, dd, t, hs, g⟩ := view_f I hA e all
    have := kyD_rel (okK_key ok) ht rk
    subst this
    rcases t.get (okK_key ok) ht g.2.2.1 all with ⟨z, _⟩ | ⟨d', v, h1, h2, h3⟩
    · rw [hd] at z; cases z
    · rw [hd] at h1; cases h1
      exact ⟨dd.typeIs, wpAny_getItem_of (kV_is ry) dd.mapOf h2 (h _ _ (I.tok _) h3)⟩
theorem x_in {Q : Value → Shared → Prop} (hu : A₀.units + 5 < cLine) (I : L2.Inv X pins σ H s) (hA : RelH X.b A H) (e : DicOf A a kvs) (ok : okK kvs k = true) (rk : RelD X.K H k y) (ry : RelV y u)
    (h : ∀ s', L2.Inv X pins σ H s' → Q (.bool (dget kvs k).isSome) s') : wpAny (model X.prog X.w) A₀ (compareOp .In u (.ref a)) Q E s := by
  have all := okK_all ok
  cases ht : isTup k with
  | true =>
    rw [ht] at all
    obtain ⟨xs, dd, t, hs, g⟩ := view_t I hA e all
    obtain ⟨b, hb⟩ := isTup_ref ⟨y, rk, ry⟩ ht
    subst hb
    refine wpAny_in_heap (knd := nestKind X.prog X.w) (by show A₀.units + 1 + 4 < cLine; omega) ⟨ht, key_at I 4 _ _ _ (okK_key ok) rk ry⟩ hs dd ?_
    have z := h _ (I.tok (s.toks + drw k))
    rcases t.get (k := k) with ⟨h1, h2⟩ | ⟨d', p, h1, h2, h3⟩
    · rw [h1] at z; rw [h2]; exact z
    · rw [h1] at z; rw [h2]; exact z
  | false =>
    rw [ht] at all
    obtain ⟨xs, dd, t, hs, g⟩ := view_f I hA e all
    have := kyD_rel (okK_key ok) ht rk
    subst this
    refine wpAny_in_of (kV_is ry) hs dd.mapOf ?_
    have z := h _ (I.tok (s.toks + 1))
    rcases t.get (okK_key ok) ht g.2.2.1 all with ⟨h1, h2⟩ | ⟨d', v, h1, h2, h3⟩
    · rw [h1] at z; rw [h2]; exact z
    · rw [h1] at z; rw [h2]; exact z
theorem x_notIn {Q : Value → Shared → Prop} (hu : A₀.units + 5 < cLine) (I : L2.Inv X pins σ H s) (hA : RelH X.b A H) (e : DicOf A a kvs) (ok : okK kvs k = true) (rk : RelD X.K H k y) (ry : RelV y u)
    (h : ∀ s', L2.Inv X pins σ H s' → Q (.bool (!(dget kvs k).isSome)) s') : wpAny (model X.prog X.w) A₀ (compareOp .NotIn u (.ref a)) Q E s := by
  have all := okK_all ok
  cases ht : isTup k with
  | true =>
    rw [ht] at all
    obtain ⟨xs, dd, t, hs, g⟩ := view_t I hA e all
    obtain ⟨b, hb⟩ := isTup_ref ⟨y, rk, ry⟩ ht
    subst hb
    refine wpAny_notIn_heap (knd := nestKind X.prog X.w) (by show A₀.units + 1 + 4 < cLine; omega) ⟨ht, key_at I 4 _ _ _ (okK_key ok) rk ry⟩ hs dd ?_
    have z := h _ (I.tok (s.toks + drw k))
    rcases t.get (k := k) with ⟨h1, h2⟩ | ⟨d', p, h1, h2, h3⟩
    · rw [h1] at z; rw [h2]; exact z
    · rw [h1] at z; rw [h2]; exact z
  | false =>
    rw [ht] at all
    obtain ⟨xs, dd, t, hs, g⟩ := view_f I hA e all
    have := kyD_rel (okK_key ok) ht rk
    subst this
    refine wpAny_notIn_of (kV_is ry) hs dd.mapOf ?_
    have z := h _ (I.tok (s.toks + 1))
    rcases t.get (okK_key ok) ht g.2.2.1 all with ⟨h1, h2⟩ | ⟨d', v, h1, h2, h3⟩
    · rw [h1] at z; rw [h2]; exact z
    · rw [h1] at z; rw [h2]; exact z
theorem ReV.getD {K : PySem.W.Frag} {o : Option D} {w : Option Value} {d : D} {v : Value} (h : (o = none ∧ w = none) ∨ ∃ e x, o = some e ∧ w = some x ∧ ReV K H e x) (r : ReV K H d v) : ReV K H (o.getD d) (w.getD v) := by
  rcases h with ⟨rfl, rfl⟩ | ⟨e, x, rfl, rfl, h⟩
  · exact r
  · exact h
theorem x_get {d : D} {r : Value} {more : List Value} {Q : Value → Shared → Prop} (hm : (more = [] ∧ d = .non ∧ r = .none) ∨ more = [r]) (hu : A₀.units + 5 < cLine) (I : L2.Inv X pins σ H s) (hA : RelH X.b A H) (e : DicOf A a kvs) (ok : okK kvs k = true) (rk : RelD X.K H k y) (ry : RelV y u) (rd : ReV X.K H d r)
    (h : ∀ w' s', L2.Inv X pins σ H s' → ReV X.K H ((dget kvs k).getD d) w' → Q w' s') : wpAny (model X.prog X.w) A₀ (call (.builtin "dict.get") (.ref a :: u :: more)) Q E s := by
  have all := okK_all ok
  cases ht : isTup k with
  | true =>
    rw [ht] at all
    obtain ⟨xs, dd, t, hs, g⟩ := view_t I hA e all
    obtain ⟨b, hb⟩ := isTup_ref ⟨y, rk, ry⟩ ht
    subst hb
    have t' : (dget kvs k = none ∧ (atKey xs k).map (·.2) = none) ∨ ∃ e x, dget kvs k = some e ∧ (atKey xs k).map (·.2) = some x ∧ ReV X.K H e x := by
      rcases t.get (k := k) with ⟨h1, h2⟩ | ⟨d', p, h1, h2, h3⟩
      · exact .inl ⟨h1, by rw [h2]; rfl⟩
      · exact .inr ⟨d', p.2, h1, by rw [h2]; rfl, h3⟩
    rcases hm with ⟨rfl, rfl, rfl⟩ | rfl
    · exact call_meetsIn PySem.F.slot_dict_get dd.typeIs PySem.F.entry_dict_get (PySem.F.args_dict_get_2 _ _) (meetsH_dict_get (nestKind X.prog X.w) a b hs) ⟨by show A₀.units + 1 + 4 < cLine; omega, k, xs, ⟨ht, key_at I 4 _ _ _ (okK_key ok) rk ry⟩, dd, h _ _ (I.tok _) (ReV.getD t' rd)⟩
    · exact call_meetsIn PySem.F.slot_dict_get dd.typeIs PySem.F.entry_dict_get (PySem.F.args_dict_get_3 _ _ _) (meetsH_dict_get_default (nestKind X.prog X.w) a b hs r) ⟨by show A₀.units + 1 + 4 < cLine; omega, k, xs, ⟨ht, key_at I 4 _ _ _ (okK_key ok) rk ry⟩, dd, h _ _ (I.tok _) (ReV.getD t' rd)⟩
  | false =>
    rw [ht] at all
    obtain ⟨xs, dd, t, hs, g⟩ := view_f I hA e all
    have := kyD_rel (okK_key ok) ht rk
    subst this
    have t' := t.get (okK_key ok) ht g.2.2.1 all
    rcases hm with ⟨rfl, rfl, rfl⟩ | rfl
    · exact call_meetsIn PySem.F.slot_dict_get dd.typeIs PySem.F.entry_dict_get (PySem.F.args_dict_get_2 _ _) (meets_dict_get (mixKind X.prog X.w) a (kV_is ry) hs) ⟨_, dd.mapOf, h _ _ (I.tok _) (ReV.getD t' rd)⟩
    · exact call_meetsIn PySem.F.slot_dict_get dd.typeIs PySem.F.entry_dict_get (PySem.F.args_dict_get_3 _ _ _) (meets_dict_get_default (mixKind X.prog X.w) a (kV_is ry) hs r) ⟨_, dd.mapOf, h _ _ (I.tok _) (ReV.getD t' rd)⟩
end
end DL
set_option Elab.async false
set_option linter.all false
set_option maxRecDepth 100000
set_option maxHeartbeats 1000000
/-! DL8: dicts over plain data: stores, setdefault; the rules by values; displays. -/
namespace DL
open PySem PySem.Spec PyProof.Rows L2
section
variable {X : Cx} {pins : List (Addr × Obj)} {σ : L2.St} {H : Hp} {s : Shared}
theorem dput_any {α : Type} (kvs : List (D × α)) (k : D) : (kvs.any fun p => decide (p.1 = k)) = (dget kvs k).isSome := by
  induction kvs with
  | nil => rfl
  | cons q ps ih =>
    unfold dget at ih ⊢
    by_cases c : q.1 = k
    · simp [List.find?_cons, c]
    · simp only [List.any_cons, List.find?_cons, decide_eq_false c, Bool.false_or]
      exact ih
theorem keys_dput {α : Type} (kvs : List (D × α)) (k : D) (v : α) : (dput kvs k v).map (·.1) = if (dget kvs k).isSome then kvs.map (·.1) else kvs.map (·.1) ++ [k] := by
  unfold dput
  rw [dput_any]
  split
  · rw [List.map_map]
    apply List.map_congr_left
    intro p _
    show (if p.1 = k then (p.1, v) else p).1 = p.1
    split <;> rfl
  · simp
theorem dget_mem {α : Type} {kvs : List (D × α)} {k : D} : (dget kvs k).isSome = true ↔ k ∈ kvs.map (·.1) := by
  rw [← dput_any, List.any_eq_true, List.mem_map]
  constructor
  · rintro ⟨p, m, e⟩; exact ⟨p, m, of_decide_eq_true e⟩
  · rintro ⟨p, m, e⟩; exact ⟨p, m, decide_eq_true e⟩
theorem GoodD.put {kvs : List (D × D)} {k d : D} (g : GoodD kvs) (ok : okK kvs k = true) (hl : kvs.length < SL) : GoodD (dput kvs k d) := by
  have hk := okK_key ok
  have all := okK_all ok
  have mem : ∀ p ∈ dput kvs k d, p.1 = k ∨ p.1 ∈ kvs.map (·.1) := fun p m => by
    have : p.1 ∈ (dput kvs k d).map (·.1) := List.mem_map.mpr ⟨p, m, rfl⟩
    rw [keys_dput] at this
    split at this
    · exact .inr this
    · rcases List.mem_append.mp this with h | h
      · exact .inr h
      · exact .inl (by simpa using h)
  refine ⟨?_, ?_, fun p m => ?_, isTup k, fun p m => ?_⟩
  · rw [keys_dput]
    split
    · exact g.1
    · rename_i h
      refine List.nodup_append.mpr ⟨g.1, by simp, fun x hx y hy e => ?_⟩
      simp at hy
      subst hy e
      exact h (dget_mem.mpr hx)
  · have h1 := congrArg List.length (keys_dput kvs k d)
    have h2 := g.2.1
    rw [SL_eq] at h2 ⊢
    rw [List.length_map] at h1
    rw [h1]
    split <;> simp <;> omega
  · rcases mem p m with e | e
    · rw [e]; exact hk
    · obtain ⟨q, mq, e⟩ := List.mem_map.mp e
      rw [← e]; exact g.2.2.1 q mq
  · rcases mem p m with e | e
    · rw [e]
    · obtain ⟨q, mq, e⟩ := List.mem_map.mp e
      rw [← e]; exact all q mq
theorem GoodD.nil : GoodD [] := ⟨List.nodup_nil, Nat.zero_le _, (fun _ z => by cases z), false, (fun _ z => by cases z)⟩
theorem TR.any {K : PySem.W.Frag} {kvs : List (D × D)} {xs : List (D × Addr × Value)} (t : TR K H kvs xs) (k : D) : (kvs.any fun p => decide (p.1 = k)) = (atKey xs k).isSome := by
  rw [dput_any]
  rcases t.get (k := k) with ⟨h1, h2⟩ | ⟨d, p, h1, h2, _⟩
  · rw [h1, h2]; rfl
  · rw [h1, h2]; rfl
theorem TR.repl {K : PySem.W.Frag} {k d : D} {v : Value} (rd : ReV K H d v) : ∀ {kvs : List (D × D)} {xs : List (D × Addr × Value)}, TR K H kvs xs → TR K H (kvs.map fun p => if p.1 = k then (p.1, d) else p) (xs.map (putAt k v))
  | [], _, h => by cases h; rfl
  | q :: ps, _, ⟨x, r, e, h1, h2, h3, t⟩ => by
    cases e
    rw [List.map_cons, List.map_cons]
    have ih := TR.repl (k := k) rd t
    unfold putAt
    by_cases c : q.1 = k
    · rw [if_pos c, if_pos (h1.trans c)]
      exact ⟨_, _, rfl, h1, h2, rd, ih⟩
    · rw [if_neg c, if_neg (fun z => c (h1.symm.trans z))]
      exact ⟨_, _, rfl, h1, h2, h3, ih⟩
theorem TR.snoc {K : PySem.W.Frag} {k d : D} {b : Addr} {v : Value} (rk : ReV K H k (.ref b)) (rd : ReV K H d v) : ∀ {kvs : List (D × D)} {xs : List (D × Addr × Value)}, TR K H kvs xs → TR K H (kvs ++ [(k, d)]) (xs ++ [(k, b, v)])
  | [], _, h => by cases h; exact ⟨_, _, rfl, rfl, rk, rd, rfl⟩
  | q :: ps, _, ⟨x, r, e, h1, h2, h3, t⟩ => by
    cases e
    exact ⟨_, _, rfl, h1, h2, h3, TR.snoc rk rd t⟩
theorem TR.put {K : PySem.W.Frag} {k d : D} {b : Addr} {v : Value} (rk : ReV K H k (.ref b)) (rd : ReV K H d v) {kvs : List (D × D)} {xs : List (D × Addr × Value)} (t : TR K H kvs xs) : TR K H (dput kvs k d) (storedH xs k b v) := by
  unfold dput storedH
  rw [t.any k]
  by_cases c : (atKey xs k).isSome = true
  · rw [if_pos c, if_pos c]; exact t.repl rd
  · rw [if_neg c, if_neg c]; exact t.snoc rk rd
theorem TR.ents {K : PySem.W.Frag} {w : World} {P : Program} : ∀ {kvs : List (D × D)} {xs : List (D × Addr × Value)}, TR K H kvs xs → ∃ es : List Ent, EntL K H kvs es ∧ xs.map (entryOfKey (nestKind P w)) = es.map fun e => (⟨hsh w e.1, e.2.1, e.2.2⟩ : DictEntry)
  | [], _, h => by cases h; exact ⟨[], rfl, rfl⟩
  | q :: ps, _, ⟨x, r, e, h1, h2, h3, t⟩ => by
    cases e
    obtain ⟨es, a, b⟩ := TR.ents (w := w) (P := P) t
    refine ⟨(q.1, .ref x.2.1, x.2.2) :: es, ⟨_, _, rfl, rfl, h2, h3, a⟩, ?_⟩
    rw [List.map_cons, List.map_cons, b]
    congr 1
    show (⟨hsh w x.1, .ref x.2.1, x.2.2⟩ : DictEntry) = ⟨hsh w q.1, .ref x.2.1, x.2.2⟩
    rw [h1]
/-- a key's text is a text -/
def chk : D → Prop
  | .str l => ∀ c ∈ l, c < 1114112
  | _ => True
theorem chk_of {K : PySem.W.Frag} {d : D} {v : V} (r : RelD K H d v) : chk d := by
  cases d with
  | str l => exact r.2
  | _ => trivial
theorem FR.any {K : PySem.W.Frag} {kvs : List (D × D)} {xs : List (Key × Value)} {k : D} (hk : isKey k = true) (ht : isTup k = false) (g1 : ∀ p ∈ kvs, isKey p.1 = true) (g2 : ∀ p ∈ kvs, isTup p.1 = false) (t : FR K H kvs xs) :
    (kvs.any fun p => decide (p.1 = k)) = xs.any fun kv => decide (kv.1 = kyD k) := by
  induction kvs generalizing xs with
  | nil => cases t; rfl
  | cons q ps ih =>
    obtain ⟨x, r, e, h1, h3, t⟩ := t
    cases e
    rw [List.any_cons, List.any_cons, ih (fun p m => g1 p (List.mem_cons_of_mem _ m)) (fun p m => g2 p (List.mem_cons_of_mem _ m)) t, h1]
    congr 1
    by_cases c : q.1 = k
    · rw [c]; simp
    · rw [decide_eq_false c, decide_eq_false fun z => c (kyD_inj (g1 q List.mem_cons_self) (g2 q List.mem_cons_self) hk ht z)]
theorem FR.repl {K : PySem.W.Frag} {k d : D} {v : Value} (hk : isKey k = true) (ht : isTup k = false) (rd : ReV K H d v) : ∀ {kvs : List (D × D)} {xs : List (Key × Value)}, (∀ p ∈ kvs, isKey p.1 = true) → (∀ p ∈ kvs, isTup p.1 = false) → FR K H kvs xs →
    FR K H (kvs.map fun p => if p.1 = k then (p.1, d) else p) (xs.map fun kv => if kv.1 = kyD k then (kv.1, v) else kv)
  | [], _, _, _, h => by cases h; rfl
  | q :: ps, _, g1, g2, ⟨x, r, e, h1, h3, t⟩ => by
    cases e
    rw [List.map_cons, List.map_cons]
    have ih := FR.repl (k := k) hk ht rd (fun p m => g1 p (List.mem_cons_of_mem _ m)) (fun p m => g2 p (List.mem_cons_of_mem _ m)) t
    by_cases c : q.1 = k
    · rw [if_pos c, if_pos (by rw [h1, c])]
      exact ⟨_, _, rfl, h1, rd, ih⟩
    · rw [if_neg c, if_neg (fun z => c (kyD_inj (g1 q List.mem_cons_self) (g2 q List.mem_cons_self) hk ht (h1.symm.trans z)))]
      exact ⟨_, _, rfl, h1, h3, ih⟩
theorem FR.snoc {K : PySem.W.Frag} {k d : D} {v : Value} (rd : ReV K H d v) : ∀ {kvs : List (D × D)} {xs : List (Key × Value)}, FR K H kvs xs → FR K H (kvs ++ [(k, d)]) (xs ++ [(kyD k, v)])
  | [], _, h => by cases h; exact ⟨_, _, rfl, rfl, rd, rfl⟩
  | q :: ps, _, ⟨x, r, e, h1, h3, t⟩ => by
    cases e
    exact ⟨_, _, rfl, h1, h3, FR.snoc rd t⟩
theorem FR.put {K : PySem.W.Frag} {k d : D} {v : Value} {kvs : List (D × D)} {xs : List (Key × Value)} (hk : isKey k = true) (ht : isTup k = false) (g1 : ∀ p ∈ kvs, isKey p.1 = true) (g2 : ∀ p ∈ kvs, isTup p.1 = false) (rd : ReV K H d v) (t : FR K H kvs xs) :
    FR K H (dput kvs k d) (stored xs (kyD k) v) := by
  unfold dput stored
  rw [t.any hk ht g1 g2]
  by_cases c : (xs.any fun kv => decide (kv.1 = kyD k)) = true
  · rw [if_pos c, if_pos c]; exact t.repl hk ht rd g1 g2
  · rw [if_neg c, if_neg c]; exact t.snoc rd
theorem key_rel {K : PySem.W.Frag} {d : D} {u : Value} (hk : isKey d = true) (ht : isTup d = false) (hc : chk d) (h : keyIs (kyD d) u = true) : ReV K H d u := by
  cases d with
  | int i => exact ⟨.int i, rfl, relV_key h⟩
  | str l => exact ⟨.str ⟨l.toArray⟩, ⟨rfl, hc⟩, relV_key h⟩
  | tup l => cases ht
  | _ => cases hk
theorem FR.ents {K : PySem.W.Frag} {w : World} {P : Program} : ∀ {kvs : List (D × D)} {xs : List (Key × Value)} {es : List DictEntry}, (∀ p ∈ kvs, isKey p.1 = true) → (∀ p ∈ kvs, isTup p.1 = false) → (∀ p ∈ kvs, chk p.1) → FR K H kvs xs → Pairs (mixKind P w) es xs →
    (∀ e ∈ es, ∃ k, (mixKind P w).is k e.key = true ∧ e.hash = (mixKind P w).hash k) → ∃ es' : List Ent, EntL K H kvs es' ∧ es = es'.map fun e => (⟨hsh w e.1, e.2.1, e.2.2⟩ : DictEntry)
  | [], _, _, _, _, _, h, p, _ => by cases h; cases p; exact ⟨[], rfl, rfl⟩
  | q :: ps, _, _, g1, g2, g3, ⟨x, r, e, h1, h3, t⟩, p, hk => by
    cases e
    cases p with
    | @cons en kv es kvs p1 p2 p3 =>
      obtain ⟨es', a, b⟩ := FR.ents (fun p m => g1 p (List.mem_cons_of_mem _ m)) (fun p m => g2 p (List.mem_cons_of_mem _ m)) (fun p m => g3 p (List.mem_cons_of_mem _ m)) t p3 fun e m => hk e (List.mem_cons_of_mem _ m)
      have p1' : keyIs (kyD q.1) en.key = true := by rw [← h1]; exact p1
      refine ⟨(q.1, en.key, en.val) :: es', ⟨_, _, rfl, rfl, key_rel (g1 q List.mem_cons_self) (g2 q List.mem_cons_self) (g3 q List.mem_cons_self) p1', by show ReV K H q.2 en.val; rw [p2]; exact h3, a⟩, ?_⟩
      rw [List.map_cons, b]
      congr 1
      obtain ⟨k', i1, i2⟩ := hk en List.mem_cons_self
      have e2 : k' = x.1 := (mixKind P w).inj _ _ _ i1 p1
      obtain ⟨eh, ek, ev⟩ := en
      show (⟨eh, ek, ev⟩ : DictEntry) = ⟨hsh w q.1, ek, ev⟩
      rw [kyD_hash w (g1 q List.mem_cons_self) (g2 q List.mem_cons_self), ← h1, ← e2]
      congr 1
theorem dicAt_stay {w : World} {a : Addr} {es : List Ent} (h1 h2 : Heap) (h : DicAt w a es h1) (k : ∀ o, h1.get? a = some o → h2.get? a = some o) : DicAt w a es h2 :=
  let ⟨o, ep, e1, r⟩ := h; ⟨o, ep, k o e1, r⟩
theorem dic_ok {P : Program} {w : World} {H' : Hp} {h : Heap} {a : Addr} {es : List Ent} (x : DicAt w a es h) : ObjOk P w H' h a (.ext (DicAt w a es)) :=
  ⟨x, let ⟨o, _, e, _⟩ := x; ⟨o, e⟩, dicAt_stay⟩
theorem EntL.chk {K : PySem.W.Frag} : ∀ {kvs : List (D × D)} {es : List Ent}, EntL K H kvs es → ∀ p ∈ kvs, chk p.1
  | [], _, _, _, m => nomatch m
  | q :: ps, _, ⟨e, r, e1, e2, ⟨v, rv, _⟩, e4, t⟩, p, m => by
    rcases List.mem_cons.mp m with rfl | m
    · exact chk_of rv
    · exact EntL.chk t p m
variable {A₀ : Around} {E : Value → Shared → Prop} {A : AH} {a : Addr} {kvs : List (D × D)} {k d : D} {y : V} {u r : Value}
theorem grow_ext {o : HO} {φ : Heap → Prop} (h : H a = some (.ext φ)) : Grow H (upd H a o) := Grow.put h (fun _ z => nomatch z) (fun _ _ z => nomatch z)
theorem x_setItem {Q : Unit → Shared → Prop} (hu : A₀.units + 5 < cLine) (I : L2.Inv X pins σ H s) (hA : RelH X.b A H) (e : A a = some (.dic kvs)) (ok : okK kvs k = true) (hl : kvs.length < SL) (rk : RelD X.K H k y) (ry : RelV y u) (rd : ReV X.K H d r)
    (h : ∀ s' H', L2.Inv X pins σ H' s' → RelH X.b (up A a (.dic (dput kvs k d))) H' → Grow H H' → Q () s') : wpAny (model X.prog X.w) A₀ (setItem (.ref a) u r) Q E s := by
  have all := okK_all ok
  obtain ⟨es0, eH, re0, g⟩ := hA _ _ e
  have gp := g.put (d := d) ok hl
  have fin : ∀ {h' : Heap} {t' : Nat} {es : List Ent}, Heap.SameBut a s.heap h' → DicAt X.w a es h' → EntL X.K H (dput kvs k d) es → Q () { s with heap := h', toks := t' } := fun {h' t' es} sb da el => by
    have gr : Grow H (upd H a (.ext (DicAt X.w a es))) := grow_ext eH
    refine h _ (upd H a (.ext (DicAt X.w a es))) (I.write (x := a) (e := a) (t' := t') (by rw [eH]; trivial) (.inl rfl) (fun b q hb z => (sb.2 b hb).trans z) (let ⟨o, _, q, _⟩ := da; ⟨o, q⟩) (dic_ok da)) ?_ gr
    exact hA.put (u := .dic _) gr ⟨es, upd_same, el.grow gr, gp⟩
  cases ht : isTup k with
  | true =>
    rw [ht] at all
    obtain ⟨xs, dd, t, hs, _⟩ := view_t I hA (.inl e) all
    obtain ⟨b, hb⟩ := isTup_ref ⟨y, rk, ry⟩ ht
    subst hb
    refine wpAny_setItem_heap (knd := nestKind X.prog X.w) (hsz := by rw [t.length, SL_eq]; omega) (by show A₀.units + 1 + 4 < cLine; omega) ⟨ht, key_at I 4 _ _ _ (okK_key ok) rk ry⟩ dd fun h' dd' sb => ?_
    obtain ⟨es, el, ee⟩ := (t.put (k := k) (d := d) ⟨y, rk, ry⟩ rd).ents (w := X.w) (P := X.prog)
    obtain ⟨o, es2, ep, q1, q2, q3, q4, _⟩ := dd'
    exact fin sb ⟨o, ep, q1, q2, by rw [q3, ← ee, ← q4], hs⟩ el
  | false =>
    rw [ht] at all
    obtain ⟨xs, dd, t, hs, _⟩ := view_f I hA (.inl e) all
    have := kyD_rel (okK_key ok) ht rk
    subst this
    refine wpAny_setItem_pairs (hsz := by rw [t.length, SL_eq]; omega) (kV_is ry) dd fun h' dd' sb => ?_
    have t' := t.put (okK_key ok) ht g.2.2.1 all rd
    obtain ⟨o, es2, ep, q1, q2, q3, q4, q5, _⟩ := dd'
    have memk : ∀ p ∈ dput kvs k d, p.1 = k ∨ ∃ q ∈ kvs, q.1 = p.1 := fun p m => by
      have z : p.1 ∈ (dput kvs k d).map (·.1) := List.mem_map.mpr ⟨p, m, rfl⟩
      rw [keys_dput] at z
      split at z
      · exact .inr (by obtain ⟨q, mq, e⟩ := List.mem_map.mp z; exact ⟨q, mq, e⟩)
      · rcases List.mem_append.mp z with z | z
        · exact .inr (by obtain ⟨q, mq, e⟩ := List.mem_map.mp z; exact ⟨q, mq, e⟩)
        · exact .inl (by simpa using z)
    obtain ⟨es, el, ee⟩ := FR.ents (w := X.w) (P := X.prog) gp.2.2.1 (fun p m => by
        rcases memk p m with e | ⟨q, mq, e⟩
        · rw [e]; exact ht
        · rw [← e]; exact all q mq) (fun p m => by
        rcases memk p m with e | ⟨q, mq, e⟩
        · rw [e]; exact chk_of rk
        · rw [← e]; exact re0.chk q mq) t' q5 (fun en m => q4 en (by simpa using m))
    refine fin sb ⟨o, ep, q1, q2, ?_, hs⟩ el
    rw [q3, ← ee]
/-- a new dict -/
theorem x_new {es : List Ent} {h' : Heap} {t' : Nat} (I : L2.Inv X pins σ H s) (hA : RelH X.b A H) (hp : s.heap.objs.size ≤ a) (k : ∀ b o, s.heap.get? b = some o → h'.get? b = some o) (da : DicAt X.w a es h') (el : EntL X.K H kvs es) (g : GoodD kvs) :
    L2.Inv X pins σ (upd H a (.ext (DicAt X.w a es))) { s with heap := h', toks := t' } ∧ RelH X.b (up A a (.dic kvs)) (upd H a (.ext (DicAt X.w a es))) ∧ H a = none := by
  have hn := I.hok.fresh hp
  exact ⟨I.laid k hp (dic_ok da), hA.add (u := .dic _) hn ⟨es, upd_same, el.grow (Grow.new hn), g⟩, hn⟩
theorem dicAt_empty (I : L2.Inv X pins σ H s) : DicAt X.w s.heap.objs.size [] (s.heap.push { cls := .type "dict", data := .dict #[] }) :=
  ⟨_, 0, Heap.get?_push_size _ rfl, ⟨rfl, rfl, rfl⟩, rfl, beq_eq_false_iff_ne.mpr (Ne.symm (Nat.ne_of_lt I.big))⟩
end

/-! ### the rules by values -/
def dicGetD (A : AH) (a : Addr) : Option (List (D × D)) := match A a with
  | some (.dic kvs) => some kvs
  | some (.fdic _ kvs) => some kvs
  | _ => none
theorem dicGetD_of {A : AH} {a : Addr} {kvs : List (D × D)} (h : dicGetD A a = some kvs) : DicOf A a kvs := by
  unfold dicGetD at h
  split at h
  · rename_i q; cases h; exact .inl q
  · rename_i q; cases h; exact .inr ⟨_, q⟩
  · cases h
/-- d[k], there -/
def fDGet : DR2
  | .ref a, k, A, Q => match dicGetD A a with
    | some kvs => okK kvs k = true ∧ match dget kvs k with
      | some d => Q d A
      | none => False
    | none => False
  | _, _, _, _ => False
/-- k in d -/
def fDIn : DR2
  | k, .ref a, A, Q => match dicGetD A a with
    | some kvs => okK kvs k = true ∧ Q (.bl (dget kvs k).isSome) A
    | none => False
  | _, _, _, _ => False
def fDNotIn : DR2
  | k, .ref a, A, Q => match dicGetD A a with
    | some kvs => okK kvs k = true ∧ Q (.bl (!(dget kvs k).isSome)) A
    | none => False
  | _, _, _, _ => False
/-- d[k] = v -/
def fDSet : DSet
  | .ref a, k, d, A, Q => match A a with
    | some (.dic kvs) => okK kvs k = true ∧ kvs.length < SL ∧ Q (up A a (.dic (dput kvs k d)))
    | _ => False
  | _, _, _, _, _ => False
def isDc : D → AH → Prop
  | .ref a, A => ∃ kvs, dicGetD A a = some kvs
  | _, _ => False
def fDGetM : D → DRn
  | .ref a, [k], A, Q => match dicGetD A a with
    | some kvs => okK kvs k = true ∧ Q ((dget kvs k).getD .non) A
    | none => False
  | .ref a, [k, d], A, Q => match dicGetD A a with
    | some kvs => okK kvs k = true ∧ Q ((dget kvs k).getD d) A
    | none => False
  | _, _, _, _ => False
section
variable {X : Cx}
theorem dict_ty {pins : List (Addr × Obj)} {σ : L2.St} {H : Hp} {s : Shared} {A : AH} {a : Addr} {kvs : List (D × D)} (I : L2.Inv X pins σ H s) (hA : RelH X.b A H) (h : dicGetD A a = some kvs) :
    s.TypeIs (.ref a) "dict" ∧ (∀ b, Value.ref a = .ref b → ∃ ob, s.heap.get? b = some ob ∧ ob.dict = none) := by
  obtain ⟨es, ⟨o, ep, h1, h2, _⟩, _⟩ := view_at I hA (dicGetD_of h)
  refine ⟨⟨o, h1, h2.1⟩, fun b e => ?_⟩
  cases e
  exact ⟨o, h1, h2.2.1⟩
theorem d_dget (hu : X.A.units + 64 < cLine) : DIx X fDGet := by
  refine ⟨fun x y H Q => lR2 X.b fDGet x y H Q, ?_, fun x y A R v u H Q hA rx ry q k => ⟨x, y, A, R, hA, rx, ry, q, k⟩⟩
  intro value slice pins s σ H x y v u Q I rx ry ⟨dx, dy, A, R, hA, r1, r2, q, k⟩ hs
  unfold fDGet at q
  split at q
  · cases r1; cases rx
    split at q
    · rename_i kvs hq
      obtain ⟨ok, q⟩ := q
      split at q
      · rename_i d hd
        have z := x_getItem (A₀ := X.A) (E := X.xe) (Q := EP X pins σ Q) (by omega) I hA (dicGetD_of hq) ok r2 ry hd fun w' s' I' ⟨v, rv, rw'⟩ => ⟨v, H, I', rw', k.at q hA rv⟩
        exact tail_any z.1 PySem.F.slot_dict_getitem.lookup z.2 hs
      · exact q.elim
    · exact q.elim
  · exact q.elim
theorem d_din (hu : X.A.units + 64 < cLine) : DOp X (compareOp .In) fDIn := DOp.raw fun pins s σ H x y v u Q I rx ry ⟨dx, dy, A, R, hA, r1, r2, q, k⟩ => by
  unfold fDIn at q
  split at q
  · cases r2; cases ry
    split at q
    · rename_i kvs hq
      exact x_in (by omega) I hA (dicGetD_of hq) q.1 r1 rx fun s' I' => ⟨.bl _, H, I', rfl, k.at q.2 hA rfl⟩
    · exact q.elim
  · exact q.elim
theorem d_dnotin (hu : X.A.units + 64 < cLine) : DOp X (compareOp .NotIn) fDNotIn := DOp.raw fun pins s σ H x y v u Q I rx ry ⟨dx, dy, A, R, hA, r1, r2, q, k⟩ => by
  unfold fDNotIn at q
  split at q
  · cases r2; cases ry
    split at q
    · rename_i kvs hq
      exact x_notIn (by omega) I hA (dicGetD_of hq) q.1 r1 rx fun s' I' => ⟨.bl _, H, I', rfl, k.at q.2 hA rfl⟩
    · exact q.elim
  · exact q.elim
theorem d_dset (hu : X.A.units + 64 < cLine) : DSt X fDSet := by
  refine ⟨fun o i v H Q => ∃ dO di dv A R, RelH X.b A H ∧ RelD X.K H dO o ∧ RelD X.K H di i ∧ RelD X.K H dv v ∧ fDSet dO di dv A R ∧ ∀ A' H', R A' → RelH X.b A' H' → Grow H H' → Q H', ?_, fun o i d A R ov iv v H Q hA ro ri rd q k => ⟨o, i, d, A, R, hA, ro, ri, rd, q, k⟩⟩
  intro pins s σ H o i v ov iv u Q I ro ri rv ⟨dO, di, dv, A, R, hA, r1, r2, r3, q, k⟩
  unfold fDSet at q
  split at q
  · cases r1; cases ro
    split at q
    · rename_i kvs hq
      exact x_setItem (by omega) I hA hq q.1 q.2.1 r2 ri ⟨v, r3, rv⟩ fun s' H' I' hA' g => ⟨H', I', k _ _ q.2.2 hA' g⟩
    · exact q.elim
  · exact q.elim
theorem DSt.or {f f1 f2 : DSet} (h1 : DSt X f1) (h2 : DSt X f2) (w : ∀ o i d A R, f o i d A R → f1 o i d A R ∨ f2 o i d A R) : DSt X f := by
  obtain ⟨r1, o1, i1⟩ := h1.ex
  obtain ⟨r2, o2, i2⟩ := h2.ex
  refine ⟨fun o i v H Q => r1 o i v H Q ∨ r2 o i v H Q, fun pins s σ H o i v ov iv u Q I ro ri rv q => ?_, fun o i d A R ov iv v H Q hA ro ri rd q k => ?_⟩
  · rcases q with q | q
    · exact o1 pins s σ H o i v ov iv u Q I ro ri rv q
    · exact o2 pins s σ H o i v ov iv u Q I ro ri rv q
  · rcases w o i d A R q with q | q
    · exact .inl (i1 o i d A R ov iv v H Q hA ro ri rd q k)
    · exact .inr (i2 o i d A R ov iv v H Q hA ro ri rd q k)
/-- a method of a dict by its rule -/
def MtD (X : Cx) (id : String) (f : D → DRn) : Prop :=
  ∀ (pins : List (Addr × Obj)) (s : Shared) (σ : L2.St) (H : Hp) (a : Addr) (ds : List D) (xs : List V) (us : List Value) (A : AH) (R : DQ), L2.Inv X pins σ H s → RelH X.b A H → RelL X.K H ds xs → Vals xs us → f (.ref a) ds A R →
    wpAny (model X.prog X.w) X.A (call (.builtin id) (.ref a :: us)) (fun u s' => ∃ v H' d A', L2.Inv X pins σ H' s' ∧ RelV v u ∧ R d A' ∧ RelH X.b A' H' ∧ RelD X.K H' d v ∧ Grow H H') X.xe s
theorem m_dget (hu : X.A.units + 64 < cLine) : MtD X "dict.get" fDGetM := by
  intro pins s σ H a ds xs us A R I hA rl rv q
  unfold fDGetM at q
  split at q
  · rename_i k e2
    cases e2
    obtain ⟨y, rfl, ry⟩ := rel1 rl
    obtain ⟨u, rfl, ru⟩ := rv.one
    split at q
    · rename_i kvs hq
      exact x_get (more := []) (d := .non) (.inl ⟨rfl, rfl, rfl⟩) (by omega) I hA (dicGetD_of hq) q.1 ry ru ⟨.non, rfl, rfl⟩ fun w' s' I' ⟨v, r1, r2⟩ => ⟨v, H, _, _, I', r2, q.2, hA, r1, Grow.refl⟩
    · exact q.elim
  · rename_i k d e2
    cases e2
    obtain ⟨y, z, rfl, ry, rz⟩ := rel2 rl
    obtain ⟨u, w, rfl, ru, rw'⟩ := rv.two
    split at q
    · rename_i kvs hq
      exact x_get (more := [w]) (d := d) (.inr rfl) (by omega) I hA (dicGetD_of hq) q.1 ry ru ⟨z, rz, rw'⟩ fun w' s' I' ⟨v, r1, r2⟩ => ⟨v, H, _, _, I', r2, q.2, hA, r1, Grow.refl⟩
    · exact q.elim
  · exact q.elim
variable {o e : Expr} {es : List Expr} {to : DTE} {t : DTA} {name : Str} {apos cpos : Pos} {id : String} {f : D → DRn}
theorem qe_dm (slot : Slot "dict" name id) (hty : typeOf (.builtin id) = pure (.type "method_descriptor")) (hm : MtD X id f) (ho : QE X o to) (ha : QA X (e :: es) t)
    (hbase : attributeBase o name X.env (eval o X.env) = eval o X.env := by rfl)
    (hfew : ((backTo cpos (starEach (e :: es) X.env)).all (fun x => !x.1) && (backToKw cpos (keywordEach [] X.env)).all (fun x => x.1.isSome)
      && decide ((e :: es).length + ([] : List Keyword).length + (if ([] : List Keyword).isEmpty then 0 else 1) < 30)) = true := by rfl)
    (hline : (apos.endLine == cpos.line) = true := by rfl) (hs : starEach (e :: es) X.env = (false, eval e X.env) :: starEach es X.env := by rfl) (hplain : (backTo cpos (starEach es X.env)).any (·.1) = false := by rfl) :
    QE X (.Call (.Attribute o name apos) (e :: es) [] cpos) (dBm isDc f to t) := by
  refine ⟨fun pins s σ H Q I ⟨dσ, A, R, hA, hS, q, k⟩ => ?_⟩
  refine wpAny_Call_method_late hbase hfew hline rfl (thn (ho.run pins s σ H _ I ⟨dσ, A, _, hA, hS, q, Kp.id⟩) fun v s1 ⟨x, H1, I1, r1, d1, A1, ⟨ty, q1⟩, hA1, rd1, g1⟩ => ?_)
  cases d1 with
  | ref a =>
    cases rd1; cases r1
    obtain ⟨kvs, hk⟩ := ty
    obtain ⟨h1, h2⟩ := dict_ty I1 hA1 hk
    refine ⟨"dict", id, PySem.F.plainAttrs_dict, slot, hty, h1, h2, ?_⟩
    have hq := ha.run cpos pins s1 σ H1 (fun vs H2 => ∃ ds A2, f (.ref a) ds A2 R ∧ RelH X.b A2 H2 ∧ RelL X.K H2 ds vs ∧ Grow H1 H2) I1 ⟨dσ, A1, _, hA1, hS.grow g1, q1, fun ds A2 vs H2 z _ hA2 rl g2 => ⟨ds, A2, z, hA2, rl, g2⟩⟩
    rw [hs] at hq ⊢
    refine Calls.callWith_builtin (by show (false || (backTo cpos (starEach es X.env)).any (·.1)) = false; rw [hplain] <;> rfl) (Calls.evalArgs_plain ?_)
    refine thn hq fun us s2 ⟨vs, H2, I2, r2, ds, A2, z, hA2, rl, g2⟩ => ?_
    refine thn (hm pins s2 σ H2 a ds vs us A2 R I2 hA2 rl r2 z) fun u s3 ⟨v, H3, d, A3, I3, r3, z3, hA3, rd3, g3⟩ => ?_
    exact ⟨v, H3, I3, r3, k _ _ _ _ z3 hA3 rd3 ((g1.trans g2).trans g3)⟩
  | _ => exact ty.elim
/-- {} -/
def dDNew : DTE := fun _ A Q => ∀ p, A p = none → Q (.ref p) (up A p (.dic []))
theorem qe_dnew {pos : Pos} : QE X (.Dict [] [] pos) dDNew := by
  refine ⟨fun pins s σ H Q I ⟨dσ, A, R, hA, hS, q, k⟩ => wpAny_Dict_empty ?_⟩
  obtain ⟨I', hA', hn⟩ := x_new (a := s.heap.objs.size) (t' := s.toks) (kvs := []) I hA (Nat.le_refl _) (fun _ _ q => Heap.get?_push_of_some _ q) (dicAt_empty I) rfl GoodD.nil
  exact ⟨.ref s.heap.objs.size, _, I', rfl, k _ _ _ _ (q _ (hA.free hn)) hA' rfl (Grow.new hn)⟩
end
end DL
set_option Elab.async false
set_option linter.all false
set_option maxRecDepth 100000
set_option maxHeartbeats 1000000
/-! DL9: order of keys (ints, texts, tuples of them), sorted. -/
namespace DL
open PySem PySem.Spec PyProof.Rows L2
/-! ### the order, in plain Lean -/
def rkD : D → Nat
  | .int _ => 1
  | .str _ => 2
  | .tup _ => 3
  | _ => 0
def lexW (lt : D → D → Bool) : List D → List D → Bool
  | [], [] => false
  | [], _ :: _ => true
  | _ :: _, [] => false
  | a :: l, b :: m => if lt a b = true then true else if lt b a = true then false else lexW lt l m
def ltD : Nat → D → D → Bool
  | _, .int i, .int j => decide (i < j)
  | _, .str l, .str m => decide (l < m)
  | n + 1, .tup l, .tup m => lexW (ltD n) l m
  | _, x, y => decide (rkD x < rkD y)
theorem lexW_swo {lt : D → D → Bool} (O : SrtO.Swo lt) : SrtO.Swo (lexW lt) := by
  have asym : ∀ x y, lexW lt x y = true → lexW lt y x = false := by
    intro x
    induction x with
    | nil => intro y; cases y <;> simp [lexW]
    | cons a l ih =>
      intro y
      cases y with
      | nil => simp [lexW]
      | cons b m =>
        unfold lexW
        rcases SrtO.bcase (lt a b) with h | h
        · rw [h, O.asym _ _ h]; simp
        · rcases SrtO.bcase (lt b a) with h' | h'
          · rw [h, h']; simp
          · rw [h, h']; simpa using ih m
  refine ⟨asym, ?_⟩
  intro x
  induction x with
  | nil => intro y z; cases z <;> cases y <;> simp [lexW]
  | cons a l ih =>
    intro y z
    cases y with
    | nil => simp [lexW]
    | cons b m =>
      cases z with
      | nil => simp [lexW]
      | cons c k =>
        unfold lexW
        intro h1 h2
        have n1 : lt b a = false := by
          rcases SrtO.bcase (lt b a) with q | q
          · rw [if_pos q] at h1; cases h1
          · exact q
        have n2 : lt c b = false := by
          rcases SrtO.bcase (lt c b) with q | q
          · rw [if_pos q] at h2; cases h2
          · exact q
        have n3 := O.tr _ _ _ n1 n2
        rw [n1] at h1
        rw [n2] at h2
        rw [n3]
        simp only [Bool.false_eq_true, if_false] at h1 h2 ⊢
        rcases SrtO.bcase (lt a c) with q | q
        · rw [q]; rfl
        · rw [q]
          simp only [Bool.false_eq_true, if_false]
          have q1 : lt a b = false := by
            rcases SrtO.bcase (lt a b) with p | p
            · have := O.ltle p n2
              rw [q] at this; cases this
            · exact p
          have q2 : lt b c = false := by
            rcases SrtO.bcase (lt b c) with p | p
            · have := O.lelt n1 p
              rw [q] at this; cases this
            · exact p
          rw [q1] at h1
          rw [q2] at h2
          exact ih m k (by simpa using h1) (by simpa using h2)
theorem natl_asym {l m : List Nat} (h : l < m) : ¬ m < l := List.lt_asymm h
theorem ltD_ne {n : Nat} {x y : D} (h : rkD x ≠ rkD y) : ltD n x y = decide (rkD x < rkD y) := by
  cases x <;> cases y <;> first | (exact absurd rfl h) | (cases n <;> rfl)
theorem swo_rk : ∀ n, SrtO.Swo (ltD n) := by
  intro n
  have gen : ∀ n, (∀ l m, ltD n (.tup l) (.tup m) = true → ltD n (.tup m) (.tup l) = false) → (∀ l m k, ltD n (.tup m) (.tup l) = false → ltD n (.tup k) (.tup m) = false → ltD n (.tup k) (.tup l) = false) → SrtO.Swo (ltD n) := by
    intro n t1 t2
    refine ⟨fun x y h => ?_, fun x y z h1 h2 => ?_⟩
    · by_cases e : rkD x = rkD y
      · cases x <;> cases y <;> first | (simp [rkD] at e; done) | skip
        case int.int i j => cases n <;> (simp only [ltD, decide_eq_true_eq, decide_eq_false_iff_not] at h ⊢; omega)
        case str.str l m => cases n <;> (simp only [ltD, decide_eq_true_eq, decide_eq_false_iff_not] at h ⊢; exact natl_asym h)
        case tup.tup l m => exact t1 l m h
        all_goals (cases n <;> simp [ltD, rkD] at h)
      · rw [ltD_ne e] at h
        rw [ltD_ne (Ne.symm e)]
        simp only [decide_eq_true_eq, decide_eq_false_iff_not] at h ⊢
        omega
    · by_cases e1 : rkD x = rkD y
      · by_cases e2 : rkD y = rkD z
        · cases x <;> cases y <;> first | (simp [rkD] at e1; done) | skip
          case int.int i j => cases z <;> first | (simp [rkD] at e2; done) | (cases n <;> (simp only [ltD, decide_eq_true_eq, decide_eq_false_iff_not] at h1 h2 ⊢; omega))
          case str.str l m => cases z <;> first | (simp [rkD] at e2; done) | (cases n <;> (simp only [ltD, decide_eq_true_eq, decide_eq_false_iff_not] at h1 h2 ⊢; exact List.not_lt.mpr (List.le_trans (List.not_lt.mp h1) (List.not_lt.mp h2))))
          case tup.tup l m => cases z <;> first | (simp [rkD] at e2; done) | (exact t2 _ _ _ h1 h2)
          all_goals (cases z <;> first | (simp [rkD] at e2; done) | (cases n <;> rfl))
        · rw [ltD_ne (Ne.symm e2)] at h2
          rw [ltD_ne (by omega)]
          simp only [decide_eq_false_iff_not] at h2 ⊢
          omega
      · rw [ltD_ne (Ne.symm e1)] at h1
        simp only [decide_eq_false_iff_not] at h1
        by_cases e2 : rkD y = rkD z
        · rw [ltD_ne (by omega)]
          simp only [decide_eq_false_iff_not]
          omega
        · rw [ltD_ne (Ne.symm e2)] at h2
          simp only [decide_eq_false_iff_not] at h2
          rw [ltD_ne (by omega)]
          simp only [decide_eq_false_iff_not]
          omega
  induction n with
  | zero => exact gen 0 (fun _ _ h => by cases h) fun _ _ _ _ _ => rfl
  | succ n ih => exact gen (n + 1) (fun l m h => (lexW_swo ih).asym l m h) fun l m k h1 h2 => (lexW_swo ih).tr l m k h1 h2
/-- keys that neither way differ are one -/
theorem tri_l {n : Nat} (ih : ∀ x y, isKeyN n x = true → isKeyN n y = true → ltD n x y = false → ltD n y x = false → x = y) : ∀ (l m : List D), l.all (isKeyN n) = true → m.all (isKeyN n) = true → lexW (ltD n) l m = false → lexW (ltD n) m l = false → l = m
  | [], [], _, _, _, _ => rfl
  | [], _ :: _, _, _, h, _ => by cases h
  | _ :: _, [], _, _, _, h => by cases h
  | a :: l, b :: m, k1, k2, h1, h2 => by
    simp only [List.all_cons, Bool.and_eq_true] at k1 k2
    unfold lexW at h1 h2
    have q1 : ltD n a b = false := by
      rcases SrtO.bcase (ltD n a b) with q | q
      · rw [if_pos q] at h1; cases h1
      · exact q
    have q2 : ltD n b a = false := by
      rcases SrtO.bcase (ltD n b a) with q | q
      · rw [if_pos q] at h2; cases h2
      · exact q
    rw [q1, q2] at h1 h2
    simp only [Bool.false_eq_true, if_false] at h1 h2
    rw [ih a b k1.1 k2.1 q1 q2, tri_l ih l m k1.2 k2.2 h1 h2]
theorem tri : ∀ (n : Nat) (x y : D), isKeyN n x = true → isKeyN n y = true → ltD n x y = false → ltD n y x = false → x = y := by
  have base : ∀ n, (∀ l m, isKeyN n (.tup l) = true → isKeyN n (.tup m) = true → ltD n (.tup l) (.tup m) = false → ltD n (.tup m) (.tup l) = false → D.tup l = .tup m) → ∀ x y, isKeyN n x = true → isKeyN n y = true → ltD n x y = false → ltD n y x = false → x = y := by
    intro n ht x y k1 k2 h1 h2
    by_cases e : rkD x = rkD y
    · cases x <;> cases y <;> first | (simp [rkD] at e; done) | skip
      case int.int i j =>
        have : ¬ i < j ∧ ¬ j < i := by cases n <;> (simp only [ltD, decide_eq_false_iff_not] at h1 h2; exact ⟨h1, h2⟩)
        rw [show i = j by omega]
      case str.str l m =>
        have : ¬ l < m ∧ ¬ m < l := by cases n <;> (simp only [ltD, decide_eq_false_iff_not] at h1 h2; exact ⟨h1, h2⟩)
        rw [List.le_antisymm (List.not_lt.mp this.2) (List.not_lt.mp this.1)]
      case tup.tup l m => exact ht l m k1 k2 h1 h2
      all_goals (cases n <;> cases k1)
    · rw [ltD_ne e] at h1
      rw [ltD_ne (Ne.symm e)] at h2
      simp only [decide_eq_false_iff_not] at h1 h2
      omega
  intro n
  induction n with
  | zero => exact base 0 fun _ _ k1 _ _ _ => by cases k1
  | succ n ih => exact base (n + 1) fun l m k1 k2 h1 h2 => congrArg D.tup (tri_l ih l m k1 k2 h1 h2)
/-- the two may be compared -/
def okLx (ok : D → D → Bool) : List D → List D → Bool
  | a :: l, b :: m => (decide (a = b) || ok a b) && okLx ok l m
  | _, _ => true
def okD : Nat → D → D → Bool
  | _, .int _, .int _ => true
  | _, .str _, .str _ => true
  | n + 1, .tup l, .tup m => okLx (okD n) l m
  | _, _, _ => false
def opD (op : CmpOp) (n : Nat) (x y : D) : Bool := match op with
  | .Lt => ltD n x y
  | .Gt => ltD n y x
  | .LtE => !ltD n y x
  | _ => !ltD n x y
def opZ (op : CmpOp) (n m : Nat) : Bool := match op with
  | .Lt => decide (n < m)
  | .Gt => decide (n > m)
  | .LtE => decide (n ≤ m)
  | _ => decide (n ≥ m)
def Ord4 (op : CmpOp) : Prop := op = .Lt ∨ op = .Gt ∨ op = .LtE ∨ op = .GtE
def lexO (op : CmpOp) (n : Nat) : List D → List D → Bool
  | a :: l, b :: m => if a = b then lexO op n l m else opD op n a b
  | l, m => opZ op l.length m.length
theorem lexO_eq {op : CmpOp} (ho : Ord4 op) {n : Nat} : ∀ {l m : List D}, l.all (isKeyN n) = true → m.all (isKeyN n) = true → lexO op n l m = opD op (n + 1) (.tup l) (.tup m)
  | [], [], _, _ => by rcases ho with h | h | h | h <;> subst h <;> rfl
  | [], b :: m, _, _ => by rcases ho with h | h | h | h <;> subst h <;> simp [lexO, opD, opZ, ltD, lexW]
  | a :: l, [], _, _ => by rcases ho with h | h | h | h <;> subst h <;> simp [lexO, opD, opZ, ltD, lexW]
  | a :: l, b :: m, k1, k2 => by
    simp only [List.all_cons, Bool.and_eq_true] at k1 k2
    have ih := lexO_eq ho k1.2 k2.2
    unfold lexO
    by_cases e : a = b
    · subst e
      rw [if_pos rfl, ih]
      have r := (swo_rk n).refl a
      rcases ho with h | h | h | h <;> subst h <;> simp [opD, ltD, lexW, r]
    · rw [if_neg e]
      have asy := (swo_rk n).asym a b
      have asy' := (swo_rk n).asym b a
      have tr := tri n a b k1.1 k2.1
      rcases SrtO.bcase (ltD n a b) with q | q
      · have q' := asy q
        rcases ho with h | h | h | h <;> subst h <;> simp [opD, ltD, lexW, q, q']
      · rcases SrtO.bcase (ltD n b a) with q' | q'
        · rcases ho with h | h | h | h <;> subst h <;> simp [opD, ltD, lexW, q, q']
        · exact absurd (tr q q') e
/-- the kit's walk over the places -/
theorem lexAt_lexO {op : CmpOp} {n : Nat} {e r : Nat → Bool} {z : Bool} : ∀ (l m : List D) (i : Nat), z = opZ op l.length m.length → (∀ j a b, l[j]? = some a → m[j]? = some b → e (i + j) = decide (a = b) ∧ r (i + j) = opD op n a b) →
    Ob.lexAt e r z i (min l.length m.length) = lexO op n l m
  | [], [], i, hz, _ => by rw [hz]; rfl
  | [], b :: m, i, hz, _ => by rw [hz, List.length_nil, Nat.zero_min]; rfl
  | a :: l, [], i, hz, _ => by rw [hz, List.length_nil, Nat.min_zero]; rfl
  | a :: l, b :: m, i, hz, h => by
    rw [List.length_cons, List.length_cons, Nat.succ_min_succ, Ob.lexAt_succ]
    obtain ⟨h1, h2⟩ := h 0 a b rfl rfl
    rw [Nat.add_zero] at h1 h2
    unfold lexO
    by_cases c : a = b
    · rw [h1, if_pos (decide_eq_true c), if_pos c]
      refine lexAt_lexO l m (i + 1) ?_ fun j a' b' q1 q2 => ?_
      · rw [hz, List.length_cons, List.length_cons]
        unfold opZ
        split <;> simp
      · rw [show i + 1 + j = i + (j + 1) by omega]
        exact h (j + 1) a' b' (by simpa using q1) (by simpa using q2)
    · rw [h1, if_neg (by rw [decide_eq_false c]; simp), if_neg c, h2]
/-! ### at a heap -/
theorem okLx_at {ok : D → D → Bool} : ∀ {l m : List D}, okLx ok l m = true → ∀ (j : Nat) a b, l[j]? = some a → m[j]? = some b → a ≠ b → ok a b = true
  | [], _, _, j, a, b, h, _, _ => by simp at h
  | _ :: _, [], _, j, a, b, _, h, _ => by simp at h
  | x :: l, y :: m, h, 0, a, b, h1, h2, hn => by
    simp at h1 h2
    subst h1 h2
    unfold okLx at h
    simpa [hn] using (Bool.and_eq_true_iff.mp h).1
  | x :: l, y :: m, h, j + 1, a, b, h1, h2, hn => by
    unfold okLx at h
    exact okLx_at (Bool.and_eq_true_iff.mp h).2 j a b (by simpa using h1) (by simpa using h2) hn
theorem KeyAt.key {h : Heap} {n : Nat} {d : D} {u : Value} (x : KeyAt h n d u) : isKeyN n d = true := by
  induction x with
  | @int n _ _ => cases n <;> rfl
  | @str n _ _ _ => cases n <;> rfl
  | @tup n l a o its m e1 e2 e3 e4 e5 ih =>
    show l.all (isKeyN n) = true
    rw [List.all_eq_true]
    intro d hd
    obtain ⟨j, hj, e⟩ := List.getElem_of_mem hd
    have h2 : j < its.toList.length := by rw [e4]; exact hj
    exact ih j d its.toList[j] (by rw [← e]; exact List.getElem?_eq_getElem hj) (List.getElem?_eq_getElem h2)
theorem rc_int {op : CmpOp} (ho : Ord4 op) {n : Nat} {A : Around} {s : Shared} (i j : Int) (t u : Tok) : Ob.RcOp op A s (.int i t) (.int j u) (opD op n (.int i) (.int j)) := by
  rcases ho with h | h | h | h <;> subst h
  · have e : opD .Lt n (.int i) (.int j) = decide (i < j) := by cases n <;> rfl
    rw [e]; exact Ob.RcOp.lt_int _ _ _ _
  · have e : opD .Gt n (.int i) (.int j) = decide (j < i) := by cases n <;> rfl
    rw [e]; exact Ob.RcOp.gt_int _ _ _ _
  · have e : opD .LtE n (.int i) (.int j) = decide (i ≤ j) := by
      have z : decide (i ≤ j) = !decide (j < i) := by rw [← decide_not]; exact decide_eq_decide.mpr Int.not_lt.symm
      rw [z]; cases n <;> rfl
    rw [e]; exact Ob.RcOp.le_int _ _ _ _
  · have e : opD .GtE n (.int i) (.int j) = decide (j ≤ i) := by
      have z : decide (j ≤ i) = !decide (i < j) := by rw [← decide_not]; exact decide_eq_decide.mpr Int.not_lt.symm
      rw [z]; cases n <;> rfl
    rw [e]; exact Ob.RcOp.ge_int _ _ _ _
theorem rc_str {op : CmpOp} (ho : Ord4 op) {n : Nat} {A : Around} {s : Shared} (l m : List Nat) (t u : Tok) : Ob.RcOp op A s (.str ⟨l.toArray⟩ t) (.str ⟨m.toArray⟩ u) (opD op n (.str l) (.str m)) := by
  intro prog w E Q h
  rcases ho with q | q | q | q <;> subst q
  · have e : opD .Lt n (.str l) (.str m) = decide (l < m) := by cases n <;> rfl
    rw [e] at h
    exact PyProof.Rows.lt_str h
  · have e : opD .Gt n (.str l) (.str m) = decide (m < l) := by cases n <;> rfl
    rw [e] at h
    exact PySem.P.gt_str h
  · have e : opD .LtE n (.str l) (.str m) = !decide (m < l) := by cases n <;> rfl
    rw [e] at h
    exact PySem.P.le_str h
  · have e : opD .GtE n (.str l) (.str m) = !decide (l < m) := by cases n <;> rfl
    rw [e] at h
    exact PySem.P.ge_str h
theorem rc_at {op : CmpOp} (ho : Ord4 op) : ∀ (n : Nat) (A : Around) (s : Shared) (x y : D) (u v : Value), A.units + n < cLine → KeyAt s.heap n x u → KeyAt s.heap n y v → okD n x y = true → Ob.RcOp op A s u v (opD op n x y) := by
  intro n
  induction n with
  | zero =>
    intro A s x y u v hu hx hy ok
    cases hx <;> cases hy <;> first | (cases ok; done) | skip
    · exact rc_int ho _ _ _ _
    · exact rc_str ho _ _ _ _
  | succ n ih =>
    intro A s x y u v hu hx hy ok
    cases hx <;> cases hy <;> first | (cases ok; done) | skip
    · exact rc_int ho _ _ _ _
    · exact rc_str ho _ _ _ _
    · rename_i l a o its m e1 e2 e3 e4 e5 l' a' o' its' m' e1' e2' e3' e4' e5'
      have k1 : l.all (isKeyN n) = true := (KeyAt.tup (n := n) e1 e2 e3 e4 e5).key
      have k2 : l'.all (isKeyN n) = true := (KeyAt.tup (n := n) e1' e2' e3' e4' e5').key
      rw [← lexO_eq ho k1 k2]
      have len : its.size = l.length := by rw [← e4, Array.length_toList]
      have len' : its'.size = l'.length := by rw [← e4', Array.length_toList]
      have at1 : ∀ j (h1 : j < its.size) (h2 : j < its'.size), ∃ p q, l[j]? = some p ∧ l'[j]? = some q ∧ KeyAt s.heap n p its[j] ∧ KeyAt s.heap n q its'[j] := fun j h1 h2 => by
        have g1 : j < l.length := by omega
        have g2 : j < l'.length := by omega
        exact ⟨_, _, List.getElem?_eq_getElem g1, List.getElem?_eq_getElem g2, e5 j _ _ (List.getElem?_eq_getElem g1) (by simp [h1]), e5' j _ _ (List.getElem?_eq_getElem g2) (by simp [h2])⟩
      have hE : ∀ j (h1 : j < its.size) (h2 : j < its'.size), SeqAt.EqAt A.in1 s its[j] its'[j] (decide (l.getD j .non = l'.getD j .non)) := fun j h1 h2 prog w E Q h => by
        obtain ⟨p, q, q1, q2, q3, q4⟩ := at1 j h1 h2
        refine eq_key (n := n) (m := n) (by show A.units + 1 + n < cLine; omega) q3 q4 ?_
        simpa [List.getD, q1, q2] using h
      have hR : ∀ j (h1 : j < its.size) (h2 : j < its'.size), (decide (l.getD j .non = l'.getD j .non)) = false → Ob.RcOp op A.in1 s its[j] its'[j] (opD op n (l.getD j .non) (l'.getD j .non)) := fun j h1 h2 hf => by
        obtain ⟨p, q, q1, q2, q3, q4⟩ := at1 j h1 h2
        have f1 : l.getD j .non = p := by simp [List.getD, q1]
        have f2 : l'.getD j .non = q := by simp [List.getD, q2]
        rw [f1, f2] at hf ⊢
        exact ih A.in1 s p q _ _ (by show A.units + 1 + n < cLine; omega) q3 q4 (okLx_at ok j p q q1 q2 (of_decide_eq_false hf))
      have hz : ∀ z, z = opZ op l.length l'.length → Ob.lexAt (fun j => decide (l.getD j .non = l'.getD j .non)) (fun j => opD op n (l.getD j .non) (l'.getD j .non)) z 0 (min its.size its'.size) = lexO op n l l' := fun z hz => by
        rw [len, len']
        refine lexAt_lexO l l' 0 hz fun j a b q1 q2 => ?_
        rw [Nat.zero_add]
        simp [List.getD, q1, q2]
      have t1 : s.heap.IsTuple a its := ⟨o, e1, e2, m, e3⟩
      have t2 : s.heap.IsTuple a' its' := ⟨o', e1', e2', m', e3'⟩
      rcases ho with h | h | h | h <;> subst h
      · rw [← hz _ (by rw [← len, ← len'])]
        exact Ob.RcOp.tuples_lt t1 t2 (by omega) hE hR
      · rw [← hz _ (by rw [← len, ← len'])]
        exact Ob.RcOp.tuples_gt t1 t2 (by omega) hE hR
      · rw [← hz _ (by rw [← len, ← len'])]
        exact Ob.RcOp.tuples_le t1 t2 (by omega) hE hR
      · rw [← hz _ (by rw [← len, ← len'])]
        exact Ob.RcOp.tuples_ge t1 t2 (by omega) hE hR
/-! ### the rules by values -/
def fOrd (op : CmpOp) : DR2 := fun x y A Q => isKey x = true ∧ isKey y = true ∧ okD 4 x y = true ∧ Q (.bl (opD op 4 x y)) A
section
variable {X : Cx}
theorem d_ord {op : CmpOp} (ho : Ord4 op) (hu : X.A.units + 64 < cLine) : DOp X (compareOp op) (fOrd op) := DOp.raw fun pins s σ H x y v u Q I rx ry ⟨dx, dy, A, R, hA, r1, r2, q, k⟩ => by
  obtain ⟨k1, k2, ok, q⟩ := q
  have z := rc_at ho 4 X.A s dx dy v u (by omega) (key_at I 4 _ _ _ k1 r1 rx) (key_at I 4 _ _ _ k2 r2 ry) ok X.prog X.w X.xe (EP X pins σ Q) ⟨.bl _, H, I, rfl, k.at q hA rfl⟩
  rcases ho with h | h | h | h <;> subst h <;> exact z
end
/-! ### sorted -/
/-- which D stands at a value, of those given -/
noncomputable def dAt (h : Heap) (u : Value) : D := open Classical in if q : ∃ d, KeyAt h 4 d u then q.choose else .non
theorem dAt_of {h : Heap} {d : D} {u : Value} (x : KeyAt h 4 d u) : dAt h u = d := by
  unfold dAt
  rw [dif_pos ⟨d, x⟩]
  exact (Exists.choose_spec (⟨d, x⟩ : ∃ d, KeyAt h 4 d u)).inj x
theorem KeyAt.grows {h h' : Heap} (k : ∀ b o, h.get? b = some o → o.cls = .type "tuple" → h'.get? b = some o) {n : Nat} {d : D} {u : Value} (x : KeyAt h n d u) : KeyAt h' n d u := by
  induction x with
  | int => exact .int
  | str c => exact .str c
  | tup e1 e2 e3 e4 e5 ih => exact .tup (k _ _ e1 e2) e2 e3 e4 ih
/-- all of one type, tuples with firsts of one type -/
def tyK : D → Nat
  | .int _ => 1
  | .str _ => 2
  | .tup (.int _ :: _) => 3
  | .tup (.str _ :: _) => 4
  | .tup (.tup _ :: _) => 5
  | _ => 0
def okS : List D → Bool
  | [] => true
  | d :: ds => tyK d != 0 && ds.all fun e => tyK e == tyK d
theorem okS_at {l : List D} (h : okS l = true) : ∃ t, ∀ d ∈ l, tyK d = t := by
  cases l with
  | nil => exact ⟨0, fun _ m => by cases m⟩
  | cons d ds =>
    unfold okS at h
    simp only [Bool.and_eq_true, List.all_eq_true, beq_iff_eq] at h
    exact ⟨tyK d, fun e m => by
      rcases List.mem_cons.mp m with q | q
      · rw [q]
      · exact h.2 e q⟩
section
variable {prog : Program} {w : World} {A : Around} {E : Value → Shared → Prop} {s : Shared}
theorem oneLt_key {f : Bool} {n : Nat} {x y : D} {u v : Value} {Q : Bool → Shared → Prop} (hu : A.units + n < cLine) (hx : KeyAt s.heap n x u) (hy : KeyAt s.heap n y v) (ok : okD n x y = true) (hf : f = true → isTup x = false) (h : Q (ltD n x y) s) :
    wpAny (model prog w) A (oneLt' f u v) Q E s := by
  cases f with
  | false => exact PySem.W.kat_one _ _ (rc_at (op := .Lt) (.inl rfl) n A s _ _ _ _ hu hx hy ok prog w _ _ h)
  | true =>
    cases hx with
    | @tup n l a o its m e1 e2 e3 e4 e5 => exact nomatch hf rfl
    | @int _ i t => cases hy with
      | @int _ j t' => exact PyProof.Rows.oneLt_int (by cases n <;> exact h)
      | str c => cases n <;> cases ok
      | tup e1 e2 e3 e4 e5 => cases ok
    | @str _ l t c => cases hy with
      | int => cases n <;> cases ok
      | @str _ m t' c' => exact PyProof.Rows.oneLt_str (by cases n <;> exact h)
      | tup e1 e2 e3 e4 e5 => cases ok
theorem lex_key {b : Bool} {n : Nat} {Q : Bool → Shared → Prop} (hu : A.units + n < cLine) : ∀ (l m : List D) (ps qs : List Value) (i : Nat) (fin : Bool), ps.length = l.length → qs.length = m.length →
    (∀ (j : Nat) d v, l[j]? = some d → ps[j]? = some v → KeyAt s.heap n d v) → (∀ (j : Nat) d v, m[j]? = some d → qs[j]? = some v → KeyAt s.heap n d v) → okLx (okD n) l m = true → (b = true → i = 0 → ∀ d, l[0]? = some d → isTup d = false) →
    fin = opZ .Lt l.length m.length → Q (lexO .Lt n l m) s → PySem.W.KatLex prog w A b fin Q (ps.zip qs) i s
  | [], m, ps, qs, i, fin, h1, h2, h3, h4, ok, hb, hz, h => by
    have : ps = [] := List.eq_nil_of_length_eq_zero h1
    subst this
    have e : lexO .Lt n [] m = fin := by rw [hz]; cases m <;> rfl
    rw [e] at h
    exact PySem.W.kat_nil h
  | a :: l, [], ps, qs, i, fin, h1, h2, h3, h4, ok, hb, hz, h => by
    have : qs = [] := List.eq_nil_of_length_eq_zero h2
    subst this
    have e : lexO .Lt n (a :: l) [] = fin := by rw [hz]; rfl
    rw [e] at h
    rw [List.zip_nil_right]
    exact PySem.W.kat_nil h
  | a :: l, c :: m, p :: ps, q :: qs, i, fin, h1, h2, h3, h4, ok, hb, hz, h => by
    have kp := h3 0 a p rfl rfl
    have kq := h4 0 c q rfl rfl
    unfold okLx at ok
    have ok2 := Bool.and_eq_true_iff.mp ok
    unfold lexO at h
    rw [List.zip_cons_cons]
    refine PySem.W.kat_cons (eq_key hu kp kq (PySem.W.kat_go (fun e => ?_) fun e => ?_))
    · rw [if_pos (of_decide_eq_true e)] at h
      refine PySem.W.kat_yes (lex_key hu l m ps qs (i + 1) fin (by simpa using h1) (by simpa using h2) (fun j d v g1 g2 => h3 (j + 1) d v (by simpa using g1) (by simpa using g2)) (fun j d v g1 g2 => h4 (j + 1) d v (by simpa using g1) (by simpa using g2)) ok2.2 (fun _ z => by omega) ?_ h)
      rw [hz]
      simp [opZ]
    · have ne := of_decide_eq_false e
      rw [if_neg ne] at h
      refine PySem.W.kat_no (oneLt_key hu kp kq (by simpa [ne] using ok2.1) (fun hf => ?_) h)
      simp only [Bool.and_eq_true, beq_iff_eq] at hf
      exact hb hf.1 hf.2 a rfl
  | a :: l, c :: m, [], qs, i, fin, h1, h2, h3, h4, ok, hb, hz, h => by cases h1
  | a :: l, c :: m, p :: ps, [], i, fin, h1, h2, h3, h4, ok, hb, hz, h => by cases h2
def KeysAt (h : Heap) (ds : List D) (vs : List Value) : Prop := vs.length = ds.length ∧ ∀ (j : Nat) d v, ds[j]? = some d → vs[j]? = some v → KeyAt h 4 d v
theorem KeysAt.mem {h : Heap} {ds : List D} {vs : List Value} (x : KeysAt h ds vs) {v : Value} (m : v ∈ vs) : ∃ d ∈ ds, KeyAt h 4 d v := by
  obtain ⟨j, hj, e⟩ := List.getElem_of_mem m
  have h2 : j < ds.length := by rw [← x.1]; exact hj
  exact ⟨ds[j], List.getElem_mem h2, x.2 j _ _ (List.getElem?_eq_getElem h2) (by rw [← e]; exact List.getElem?_eq_getElem hj)⟩
theorem KeysAt.map {h : Heap} {ds : List D} {vs : List Value} (x : KeysAt h ds vs) : ds = vs.map (dAt h) := by
  refine List.ext_getElem (by rw [List.length_map, x.1]) fun j h1 h2 => ?_
  rw [List.getElem_map]
  rw [List.length_map] at h2
  exact (dAt_of (x.2 j _ _ (List.getElem?_eq_getElem h1) (List.getElem?_eq_getElem h2))).symm
noncomputable abbrev ltAt (h : Heap) : Value → Value → Bool := fun v u => ltD 4 (dAt h v) (dAt h u)
theorem swo_at (h : Heap) : SrtO.Swo (ltAt h) := ⟨fun x y q => (swo_rk 4).asym _ _ q, fun x y z p q => (swo_rk 4).tr _ _ _ p q⟩
theorem ints_of {h : Heap} : ∀ {vs : List Value}, (∀ v ∈ vs, ∃ d, KeyAt h 4 d v ∧ tyK d = 1) → ∃ ns, IntsAre vs ns
  | [], _ => ⟨[], .nil⟩
  | v :: vs, x => by
    obtain ⟨ns, r⟩ := ints_of fun u m => x u (List.mem_cons_of_mem _ m)
    obtain ⟨d, k, e⟩ := x v List.mem_cons_self
    cases k with
    | @int _ i t => exact ⟨i :: ns, .cons i t r⟩
    | str c => cases e
    | @tup n l => match l, e with
      | [], e => cases e
      | .int _ :: _, e => cases e
      | .str _ :: _, e => cases e
      | .tup _ :: _, e => cases e
      | .non :: _, e => cases e
      | .bl _ :: _, e => cases e
      | .cl _ :: _, e => cases e
      | .ref _ :: _, e => cases e
theorem strs_of {h : Heap} : ∀ {vs : List Value}, (∀ v ∈ vs, ∃ d, KeyAt h 4 d v ∧ tyK d = 2) → ∃ ns, StrsAre vs ns
  | [], _ => ⟨[], .nil⟩
  | v :: vs, x => by
    obtain ⟨ns, r⟩ := strs_of fun u m => x u (List.mem_cons_of_mem _ m)
    obtain ⟨d, k, e⟩ := x v List.mem_cons_self
    cases k with
    | int => cases e
    | @str _ l t c => exact ⟨⟨l.toArray⟩ :: ns, .cons _ t r⟩
    | @tup n l => match l, e with
      | [], e => cases e
      | .int _ :: _, e => cases e
      | .str _ :: _, e => cases e
      | .tup _ :: _, e => cases e
      | .non :: _, e => cases e
      | .bl _ :: _, e => cases e
      | .cl _ :: _, e => cases e
      | .ref _ :: _, e => cases e
theorem first_of {h : Heap} {d : D} {v : Value} {t : Nat} (ht : 3 ≤ t) (x : KeyAt h 4 d v) (e : tyK d = t) : ∃ a o its m f l d0, v = .ref a ∧ h.get? a = some o ∧ o.cls = .type "tuple" ∧ o.data = .seq its m ∧ its[0]? = some f ∧ d = .tup (d0 :: l) ∧ KeyAt h 3 d0 f := by
  cases x with
  | int => simp [tyK] at e; omega
  | str => simp [tyK] at e; omega
  | @tup _ l a o its m e1 e2 e3 e4 e5 =>
    cases l with
    | nil => simp [tyK] at e; omega
    | cons d0 l =>
      have : 0 < its.toList.length := by rw [e4]; exact Nat.succ_pos _
      exact ⟨a, o, its, m, _, l, d0, rfl, e1, e2, e3, by rw [← Array.getElem?_toList]; exact List.getElem?_eq_getElem this, rfl, e5 0 _ _ rfl (List.getElem?_eq_getElem this)⟩
/-- the type of what a first is -/
def tyF (t : Nat) : Value := if t = 3 then .type "int" else if t = 4 then .type "str" else .type "tuple"
theorem tup_firsts {h : Heap} {t : Nat} (ht : 3 ≤ t) : ∀ {vs : List Value}, (∀ v ∈ vs, ∃ d, KeyAt h 4 d v ∧ tyK d = t) → ∃ fs, PySem.W.KatTups h vs fs ∧ fs.length = vs.length ∧ ∀ f ∈ fs, PySem.W.Looks (model prog w) h (typeOf f) (tyF t)
  | [], _ => ⟨[], .nil, rfl, fun _ m => by cases m⟩
  | v :: vs, x => by
    obtain ⟨fs, r, hl, q⟩ := tup_firsts ht fun u m => x u (List.mem_cons_of_mem _ m)
    obtain ⟨d, k, e⟩ := x v List.mem_cons_self
    obtain ⟨a, o, its, m, f, l, d0, rfl, g1, g2, g3, g4, g5, g6⟩ := first_of ht k e
    refine ⟨f :: fs, .cons g1 g2 g3 g4 r, by rw [List.length_cons, List.length_cons, hl], fun u m => ?_⟩
    rcases List.mem_cons.mp m with z | m
    · subst z
      subst g5
      cases g6 with
      | int => have : t = 3 := e.symm
               subst this; exact PySem.W.Looks.now
      | str => have : t = 4 := e.symm
               subst this; exact PySem.W.Looks.now
      | tup e1 e2 e3 e4 e5 =>
        have : t = 5 := e.symm
        subst this
        rename_i a2 o2 its2 m2
        have z : PySem.W.Looks (model prog w) h (typeOf (.ref a2)) o2.cls := (PySem.W.Looks.ld e1).andThen .now
        rw [e2] at z
        exact z
    · exact q u m
theorem keys_sortable {a : Addr} {ds : List D} {vs : List Value} (hu : A.units + 8 < cLine) (h2 : 2 ≤ vs.length) (x : KeysAt s.heap ds vs) (ok : okS ds = true) (hc : ∀ d ∈ ds, ∀ e ∈ ds, okD 4 d e = true) (ha : ∀ o, s.heap.get? a = some o → o.cls ≠ .type "tuple") :
    SrtO.SortableO prog w A s a vs (ltAt s.heap) := by
  intro h' keep
  have kp : ∀ {d u}, KeyAt s.heap 4 d u → KeyAt h' 4 d u := fun x => x.grows fun b o e c => keep b o (fun z => by subst z; exact ha o e c) e
  obtain ⟨t, ht⟩ := okS_at ok
  have all : ∀ v ∈ vs, ∃ d ∈ ds, KeyAt s.heap 4 d v ∧ KeyAt h' 4 d v ∧ tyK d = t := fun v m => by
    obtain ⟨d, hd, k⟩ := x.mem m
    exact ⟨d, hd, k, kp k, ht d hd⟩
  have t0 : t ≠ 0 := by
    match vs, h2, x with
    | v :: _, _, x =>
      obtain ⟨d, hd, k⟩ := x.mem (List.mem_cons_self (a := v))
      cases ds with
      | nil => cases hd
      | cons e es =>
        have := ht e List.mem_cons_self
        unfold okS at ok
        simp only [Bool.and_eq_true, bne_iff_ne] at ok
        rw [← this]; exact ok.1
  have cmp1 : t < 3 → SrtO.Cmp prog w A { s with heap := h' } oneType' (fun p => p.1 ∈ vs) (SrtO.lt2 (ltAt s.heap)) := fun hlt p q mp mq => by
    obtain ⟨d, hd, k, k', e⟩ := all _ mp
    obtain ⟨d', hd', k2, k2', e'⟩ := all _ mq
    show wpAny (model prog w) A (keyLt' oneType' p.1 q.1) (fun r s' => s' = { s with heap := h' } ∧ r = ltD 4 (dAt s.heap p.1) (dAt s.heap q.1)) (fun _ _ => False) _
    rw [keyLt'_oneType, dAt_of k, dAt_of k2]
    refine oneLt_key (s := { s with heap := h' }) (n := 4) (by omega) k' k2' (hc d hd d' hd') (fun _ => ?_) ⟨rfl, rfl⟩
    match d, e with
    | .int _, _ => rfl
    | .str _, _ => rfl
    | .tup [], e => exact absurd e.symm t0
    | .tup (.int _ :: _), e => simp [tyK] at e; omega
    | .tup (.str _ :: _), e => simp [tyK] at e; omega
    | .tup (.tup _ :: _), e => simp [tyK] at e; omega
    | .tup (.non :: _), e => exact absurd e.symm t0
    | .tup (.bl _ :: _), e => exact absurd e.symm t0
    | .tup (.cl _ :: _), e => exact absurd e.symm t0
    | .tup (.ref _ :: _), e => exact absurd e.symm t0
    | .non, e => rfl
    | .bl _, e => rfl
    | .cl _, e => rfl
    | .ref _, e => rfl
  by_cases c3 : 3 ≤ t
  · obtain ⟨fs, r, hl, q⟩ := tup_firsts (prog := prog) (w := w) c3 (vs := vs) (h := h') fun v m => by
      obtain ⟨d, _, _, k, e⟩ := all v m
      exact ⟨d, k, e⟩
    refine ⟨tuples' (tyF t != Value.type "tuple"), fun Q E hq => PySem.W.kat_kind (s := { s with heap := h' }) (T := tyF t) r (by omega) q ?_ hq, fun p q mp mq => ?_⟩
    · unfold tyF
      split
      · rfl
      · split <;> rfl
    · obtain ⟨d, hd, k, k', e⟩ := all _ mp
      obtain ⟨d', hd', k2, k2', e'⟩ := all _ mq
      show wpAny (model prog w) A (keyLt' (tuples' (tyF t != Value.type "tuple")) p.1 q.1) (fun r s' => s' = { s with heap := h' } ∧ r = ltD 4 (dAt s.heap p.1) (dAt s.heap q.1)) (fun _ _ => False) _
      rw [dAt_of k, dAt_of k2]
      have hcc := hc d hd d' hd'
      generalize p.1 = pv at k k'
      generalize q.1 = qv at k2 k2'
      cases k' with
      | int => simp [tyK] at e; omega
      | str => simp [tyK] at e; omega
      | @tup _ l a1 o1 its1 m1 e1 e2 e3 e4 e5 => cases k2' with
        | int => cases hcc
        | str => cases hcc
        | @tup _ l' a1' o1' its1' m1' e1' e2' e3' e4' e5' =>
          have y1 := (KeyAt.tup (n := 3) e1 e2 e3 e4 e5).key
          have y2 := (KeyAt.tup (n := 3) e1' e2' e3' e4' e5').key
          refine PySem.W.kat_lt (s := { s with heap := h' }) e1 e3 e1' e3' ?_
          refine lex_key (s := { s with heap := h' }) (n := 3) (by omega) l l' _ _ 0 _ e4 e4' e5 e5' hcc (fun hb _ d0 hd0 => ?_) ?_ ⟨rfl, (lexO_eq (.inl rfl) y1 y2)⟩
          · cases l with
            | nil => cases hd0
            | cons x0 l0 =>
              simp at hd0
              subst hd0
              cases x0 with
              | tup z =>
                have : t = 5 := e.symm
                subst this
                simp [tyF] at hb
              | _ => rfl
          · show decide (its1.size < its1'.size) = decide (l.length < l'.length)
            rw [← e4, ← e4', Array.length_toList, Array.length_toList]
  · have hlt : t < 3 := by omega
    match vs, h2, all, x with
    | v1 :: v2 :: rest, _, all, _ =>
      refine ⟨oneType', fun Q E hq => ?_, cmp1 hlt⟩
      by_cases c1 : t = 1
      · obtain ⟨ns, hI⟩ := ints_of (h := h') (vs := v1 :: v2 :: rest) fun v m => by
          obtain ⟨d, _, _, k, e⟩ := all v m
          exact ⟨d, k, by rw [e, c1]⟩
        rw [keyKind_ints hI]
        exact wpAny_pure hq
      · obtain ⟨ns, hI⟩ := strs_of (h := h') (vs := v1 :: v2 :: rest) fun v m => by
          obtain ⟨d, _, _, k, e⟩ := all v m
          exact ⟨d, k, by rw [e]; omega⟩
        rw [keyKind_strs hI]
        exact wpAny_pure hq
end
end DL
set_option Elab.async false
set_option linter.all false
set_option maxRecDepth 100000
set_option maxHeartbeats 1000000
/-! DL10: dicts walked (locked), sorted, list(d). -/
namespace DL
open PySem PySem.Spec PyProof.Rows L2
/-! ### the lock -/
/-- the statement runs while the dict at a is locked -/
def dLock (t : DTS) : DTS := fun DD σ A => t DD σ A ∨ ∃ a kvs, A a = some (.dic kvs) ∧ ∀ od,
  t { nx := fun σ' A' => A' a = some (.fdic od kvs) ∧ DD.nx σ' (up A' a (.dic kvs)), rt := fun d A' => A' a = some (.fdic od kvs) ∧ DD.rt d (up A' a (.dic kvs)),
      bk := fun σ' A' => A' a = some (.fdic od kvs) ∧ DD.bk σ' (up A' a (.dic kvs)), ct := fun σ' A' => A' a = some (.fdic od kvs) ∧ DD.ct σ' (up A' a (.dic kvs)) } σ (up A a (.fdic od kvs))
def dLockE (t : DTE) : DTE := fun σ A Q => t σ A Q ∨ ∃ a kvs, A a = some (.dic kvs) ∧ ∀ od, t σ (up A a (.fdic od kvs)) fun d A' => A' a = some (.fdic od kvs) ∧ Q d (up A' a (.dic kvs))
section
variable {X : Cx} {B : Bs} {A : AH} {H : Hp} {a : Addr} {kvs : List (D × D)}
theorem lock_in {X : Cx} {pins : List (Addr × Obj)} {σ : L2.St} {s : Shared} (I : L2.Inv X pins σ H s) (hA : RelH X.b A H) (e : A a = some (.dic kvs)) :
    ∃ es od, H a = some (.ext (DicAt X.w a es)) ∧ L2.Inv X pins σ (upd H a (.frz od (.ext (DicAt X.w a es)))) s ∧ RelH X.b (up A a (.fdic od kvs)) (upd H a (.frz od (.ext (DicAt X.w a es)))) ∧ Grow H (upd H a (.frz od (.ext (DicAt X.w a es)))) := by
  obtain ⟨es, e1, r, g⟩ := hA _ _ e
  obtain ⟨od, I1⟩ := I.lock e1 trivial
  have gr : Grow H (upd H a (.frz od (.ext (DicAt X.w a es)))) := grow_ext e1
  refine ⟨es, od, e1, I1, hA.put (u := .fdic od kvs) gr ⟨es, upd_same, r.grow gr, g, ?_⟩, gr⟩
  obtain ⟨h1, ⟨o, ep, h2, h3, h4, h5⟩, _⟩ := I1.hok a _ upd_same
  rw [h1] at h2
  cases h2
  exact ⟨ep, h4⟩
theorem lock_out {od : Obj} (hA : RelH B A H) (e : A a = some (.fdic od kvs)) : ∃ es, H a = some (.frz od (.ext (DicAt B.w a es))) ∧ RelH B (up A a (.dic kvs)) (upd H a (.ext (DicAt B.w a es))) ∧ Grow H (upd H a (.ext (DicAt B.w a es))) := by
  obtain ⟨es, e1, r, g, _⟩ := hA _ _ e
  have gr : Grow H (upd H a (.ext (DicAt B.w a es))) := Grow.put e1 (fun _ z => nomatch z) (fun _ _ z => nomatch z)
  exact ⟨es, e1, hA.put (u := .dic kvs) gr ⟨es, upd_same, r.grow gr, g⟩, gr⟩
end
section
variable {X : Cx}
theorem qs_lock {st : Stmt} {t : DTS} (h : QS X st t) : QS X st (dLock t) := by
  refine ⟨fun pins s σ H D I ⟨dσ, A, DD, hA, hS, q, k⟩ => ?_⟩
  rcases q with q | ⟨a, kvs, e, q⟩
  · exact h.run pins s σ H D I ⟨dσ, A, DD, hA, hS, q, k⟩
  obtain ⟨es, od, e1, I1, hA1, g1⟩ := lock_in I hA e
  have nf := I.nofrz e1 trivial
  refine thn (h.run pins s σ _ ⟨fun σ' H' => ∃ es, H' a = some (.frz od (.ext (DicAt X.b.w a es))) ∧ D.nx σ' (upd H' a (.ext (DicAt X.b.w a es))), fun v H' => ∃ es, H' a = some (.frz od (.ext (DicAt X.b.w a es))) ∧ D.rt v (upd H' a (.ext (DicAt X.b.w a es))),
    fun σ' H' => ∃ es, H' a = some (.frz od (.ext (DicAt X.b.w a es))) ∧ D.bk σ' (upd H' a (.ext (DicAt X.b.w a es))), fun σ' H' => ∃ es, H' a = some (.frz od (.ext (DicAt X.b.w a es))) ∧ D.ct σ' (upd H' a (.ext (DicAt X.b.w a es)))⟩ I1
    ⟨dσ, _, _, hA1, hS.grow g1, q od, ⟨fun dσ A' σ H' ⟨z1, z2⟩ hA' hS' g => ?_, fun d A' v H' ⟨z1, z2⟩ hA' rd g => ?_, fun dσ A' σ H' ⟨z1, z2⟩ hA' hS' g => ?_, fun dσ A' σ H' ⟨z1, z2⟩ hA' hS' g => ?_⟩⟩) fun f s1 q => ?_
  · obtain ⟨es, y1, y2, y3⟩ := lock_out hA' z1
    exact ⟨es, y1, k.nx _ _ _ _ z2 y2 (hS'.grow y3) ((g1.trans g).trans y3)⟩
  · obtain ⟨es, y1, y2, y3⟩ := lock_out hA' z1
    exact ⟨es, y1, k.rt _ _ _ _ z2 y2 (rd.grow y3) ((g1.trans g).trans y3)⟩
  · obtain ⟨es, y1, y2, y3⟩ := lock_out hA' z1
    exact ⟨es, y1, k.bk _ _ _ _ z2 y2 (hS'.grow y3) ((g1.trans g).trans y3)⟩
  · obtain ⟨es, y1, y2, y3⟩ := lock_out hA' z1
    exact ⟨es, y1, k.ct _ _ _ _ z2 y2 (hS'.grow y3) ((g1.trans g).trans y3)⟩
  · cases f with
    | next => obtain ⟨σ', H', I2, es, e, q⟩ := q; exact ⟨σ', _, I2.unlock e nf, q⟩
    | brk => obtain ⟨σ', H', I2, es, e, q⟩ := q; exact ⟨σ', _, I2.unlock e nf, q⟩
    | cont => obtain ⟨σ', H', I2, es, e, q⟩ := q; exact ⟨σ', _, I2.unlock e nf, q⟩
    | ret v => obtain ⟨x, σ', H', I2, r, es, e, q⟩ := q; exact ⟨x, σ', _, I2.unlock e nf, r, q⟩
theorem qe_lock {e : Expr} {t : DTE} (h : QE X e t) : QE X e (dLockE t) := by
  refine ⟨fun pins s σ H Q I ⟨dσ, A, R, hA, hS, q, k⟩ => ?_⟩
  rcases q with q | ⟨a, kvs, e, q⟩
  · exact h.run pins s σ H Q I ⟨dσ, A, R, hA, hS, q, k⟩
  obtain ⟨es, od, e1, I1, hA1, g1⟩ := lock_in I hA e
  have nf := I.nofrz e1 trivial
  refine thn (h.run pins s σ _ (fun v H' => ∃ es, H' a = some (.frz od (.ext (DicAt X.b.w a es))) ∧ Q v (upd H' a (.ext (DicAt X.b.w a es)))) I1
    ⟨dσ, _, _, hA1, hS.grow g1, q od, fun d A' v H' ⟨z1, z2⟩ hA' rd g => ?_⟩) fun v s1 ⟨x, H1, I2, r, es, e2, q⟩ => ⟨x, _, I2.unlock e2 nf, r, q⟩
  obtain ⟨es, y1, y2, y3⟩ := lock_out hA' z1
  exact ⟨es, y1, k _ _ _ _ z2 y2 (rd.grow y3) ((g1.trans g).trans y3)⟩
end
/-! ### for k in d (locked) -/
def ItD (d : Addr) (od : Obj) (eA : Array DictEntry) : It :=
  ⟨fun i H => (∃ u, H d = some (.frz od u)) ∧ ∃ en z, eA[i]? = some en ∧ RelV z en.key,
   fun i H x H' => H' = H ∧ ∃ en, eA[i]? = some en ∧ RelV x en.key,
   fun i H => (∃ u, H d = some (.frz od u)) ∧ eA.size ≤ i⟩
theorem turn_D {P : Program} {w : World} {K : PySem.W.Frag} {tg : Expr} {d : Addr} {o : Obj} {eA : Array DictEntry} {ep : Nat} (it : Addr) (hod : o.data = .dict eA ep) : Turn P w K tg (ItD d o eA) [it] it (fun i h => h.IsKeyIter it d i eA.size ep) where
  mem := by simp
  obj := fun i h st b hb => by
    have e : b = it := by simpa using hb
    subst e
    obtain ⟨oi, e, c, dd⟩ := st
    exact ⟨oi, e, fun v z => by rw [dd] at z; cases z⟩
  keep := fun i h h' st k => st.at fun oi e => k it (by simp) oi e
  item := by
    intro X hP hw hK hc i pins s σ H E I hf st hg
    subst hP hw hK
    obtain ⟨⟨u, hd⟩, en, z, he, hz⟩ := hg
    obtain ⟨f0, f1, f2, f3, f4, f5⟩ := hf it (by simp)
    have hgd : s.heap.get? d = some o := (I.hok d _ hd).1
    refine next_key_item st hgd hod rfl he fun h' st' sb => ?_
    have I1 : L2.Inv X pins σ H { s with heap := h' } := I.turned (t' := s.toks) (fun b ob hb e => (sb.2 b hb).trans e) f0 f1 f3 f4 f5
    obtain ⟨oi, e, c, dd⟩ := id st'
    exact ⟨_, rfl, go_of (s := { s with heap := h' }) e c dd (by decide) ⟨z, H, I1, hz, ⟨rfl, en, he, hz⟩, st', fun b hb => (hf b hb).1⟩⟩
  done := by
    intro X hP hw hK hc i pins s σ H E I hf st hg
    subst hP hw hK
    obtain ⟨⟨u, hd⟩, hi⟩ := hg
    obtain ⟨f0, f1, f2, f3, f4, f5⟩ := hf it (by simp)
    have hgd : s.heap.get? d = some o := (I.hok d _ hd).1
    exact next_key_end (I.ok.hd hc) st hgd hod rfl hi fun h' eb => ⟨rfl, I.turned (t' := s.toks) (fun b ob hb e => eb b ob hb e) f0 f1 f3 f4 f5⟩
  self := fun A i s Q E st h => wpAny_pyIter_keyiter st h
theorem EntL.get {K : PySem.W.Frag} {H : Hp} : ∀ {kvs : List (D × D)} {es : List Ent} {i : Nat} {p : D × D}, EntL K H kvs es → kvs[i]? = some p → ∃ e, es[i]? = some e ∧ ReV K H p.1 e.2.1 ∧ ReV K H p.2 e.2.2
  | [], _, i, p, _, h => by simp at h
  | q :: ps, _, 0, p, ⟨e, r, h1, h2, h3, h4, t⟩, h => by
    subst h1
    simp at h
    subst h
    exact ⟨e, rfl, h3, h4⟩
  | q :: ps, _, i + 1, p, ⟨e, r, h1, h2, h3, h4, t⟩, h => by
    subst h1
    obtain ⟨e', a, b⟩ := EntL.get t (i := i) (by simpa using h)
    exact ⟨e', by simpa using a, b⟩
theorem EntL.length {K : PySem.W.Frag} {H : Hp} : ∀ {kvs : List (D × D)} {es : List Ent}, EntL K H kvs es → es.length = kvs.length
  | [], _, h => by cases h; rfl
  | q :: ps, _, ⟨e, r, h1, h2, h3, h4, t⟩ => by subst h1; rw [List.length_cons, List.length_cons, EntL.length t]
theorem wlk_dict {B : Bs} {H0 : Hp} {a : Addr} {od : Obj} {eA : Array DictEntry} {ep : Nat} (hd : od.data = .dict eA ep) : Wlk B H0 (ItD a od eA) (fun A xs => ∃ kvs, A a = some (.fdic od kvs) ∧ xs = kvs.map (·.1)) where
  stop := fun A H i xs g hA ⟨kvs, e, ex⟩ hl => by
    subst ex
    obtain ⟨es, e1, r, _, ep', h2⟩ := hA _ _ e
    obtain ⟨h3, _⟩ := dict_ep hd h2
    refine ⟨⟨_, e1⟩, ?_⟩
    rw [← h3]
    simpa [r.length] using hl
  go := fun A H i xs d g hA ⟨kvs, e, ex⟩ hx => by
    subst ex
    obtain ⟨es, e1, r, _, ep', h2⟩ := hA _ _ e
    obtain ⟨h3, _⟩ := dict_ep hd h2
    subst h3
    rw [List.getElem?_map] at hx
    cases hp : kvs[i]? with
    | none => rw [hp] at hx; cases hx
    | some p =>
      rw [hp] at hx
      simp at hx
      subst hx
      obtain ⟨en, e3, ⟨v, rv, ru⟩, _⟩ := r.get hp
      have e4 : (es.map fun e => (⟨hsh B.w e.1, e.2.1, e.2.2⟩ : DictEntry)).toArray[i]? = some ⟨hsh B.w en.1, en.2.1, en.2.2⟩ := by simp [e3]
      refine ⟨⟨⟨_, e1⟩, _, v, e4, ru⟩, fun x H' ⟨q1, en', q2, q3⟩ => ?_⟩
      subst q1
      rw [e4] at q2
      cases q2
      have := q3.inj ru
      subst this
      exact ⟨hA, Grow.refl, rv⟩
def diD (t : DTE) : DI := fun σ A P => t σ A fun x A1 => match x with
  | .ref a => ∃ od kvs, A1 a = some (.fdic od kvs) ∧ P (fun A xs => ∃ kvs, A a = some (.fdic od kvs) ∧ xs = kvs.map (·.1)) A1
  | _ => False
section
variable {X : Cx} {tg e : Expr} {te : DTE}
theorem qi_dict (h : QE X e te) : QI X tg e (diD te) := by
  refine ⟨fun pins s σ H R I ⟨dσ, A, P, hA, hS, q, k⟩ => ?_⟩
  refine thn (h.run pins s σ H _ I ⟨dσ, A, _, hA, hS, q, Kp.id⟩) fun u s1 ⟨x, H1, I1, rx, d, A1, q1, hA1, rd, g1⟩ => ?_
  cases d with
  | ref a =>
    cases rd; cases rx
    obtain ⟨od, kvs, e1, q1⟩ := q1
    obtain ⟨es, e2, r, _, ep, hd⟩ := hA1 _ _ e1
    obtain ⟨h1, ⟨o, ep', h2, h3, h4, h5⟩, _⟩ := I1.hok a _ e2
    rw [h1] at h2
    cases h2
    refine iter_keys h5 h1 h3 hd (pi_one (tk := s1.toks) I1 _ (turn_D _ hd) ⟨_, Heap.get?_push_size _ rfl, rfl, ?_⟩ (k _ _ _ _ q1 hA1 g1 (wlk_dict hd)))
    rfl
  | _ => exact q1.elim
end
/-! ### a dict collected -/
section
variable {prog : Program} {w : World} {d : Addr} {o : Obj} {es : Array DictEntry} {ep : Nat}
theorem kdl_obj (lo : (d == sysModules) = false) (hx : o.ExactDict) (hd : o.data = .dict es ep) : PySem.W.KdlSrc prog w "dict" d d es.size (fun i v => ∃ en, es[i]? = some en ∧ v = en.key) (fun h => h.get? d = some o) where
  type := fun _ hm => ⟨o, hm, hx.1⟩
  there := fun _ hm => ⟨Heap.lt_size hm, Heap.lt_size hm⟩
  keep := fun _ _ hm hk => hk d (.inl rfl) _ hm
  notList := by decide
  notTuple := by decide
  hint := fun _ _ _ _ hm hq => PySem.W.kdl_hint_dict ⟨o, hm, hx.1⟩ hq
  iter := fun A s hh hm => ⟨_, fun i h => h.IsKeyIter s.heap.objs.size d i es.size ep ∧ h.get? d = some o, (fun _ _ hq => iter_keys lo hm hx hd hq), {
    sub := fun b hb => by simp at hb; simp [hb]
    frame := fun _ _ _ st hk => ⟨st.1.at fun o e => hk _ (by simp) o e, hk d (by simp) _ st.2⟩
    item := fun i s1 Q E hi st hQ => by
      have he : es[i]? = some es[i] := by simp [hi]
      refine next_key_item st.1 st.2 hd rfl he fun h' st' sb => ?_
      exact hQ _ h' s1.toks ⟨_, he, rfl⟩ ⟨st', (sb.2 d (Nat.ne_of_lt (Heap.lt_size hm))).trans st.2⟩ fun b o hb e => (sb.2 b (fun h => hb (by simp [h]))).trans e
    done := fun s1 Q E st hQ => next_key_end hh st.1 st.2 hd rfl (Nat.le_refl _) fun h' eb => hQ h' s1.toks fun b o hb e => eb b o (fun h => hb (by simp [h])) e
    self := fun _ _ _ _ st hQ => wpAny_pyIter_keyiter st.1 hQ }, ⟨⟨_, Heap.get?_push_size _ rfl, rfl, rfl⟩, Heap.get?_push_of_some _ hm⟩⟩
end
/-! ### sorted -/
def sortD (ds : List D) : List D := ds.mergeSort fun x y => !ltD 4 y x
def sortOk (ds : List D) : Bool := okS ds && ds.all fun d => isKey d && ds.all fun e => okD 4 d e
theorem sortD_perm (ds : List D) : (sortD ds).Perm ds := List.mergeSort_perm _ _
theorem sortD_srtd (ds : List D) : SrtO.Srtd (ltD 4) (sortD ds) := by
  have O := swo_rk 4
  refine (List.pairwise_mergeSort (le := fun x y => !ltD 4 y x) (fun a b c h1 h2 => ?_) (fun a b => ?_) ds).imp fun h => by simpa using h
  · simp only [Bool.not_eq_true'] at h1 h2 ⊢
    exact O.tr _ _ _ h1 h2
  · rcases SrtO.bcase (ltD 4 b a) with h | h
    · rw [h, O.asym _ _ h]; rfl
    · rw [h]; rfl
theorem sortD_uniq {ds ys : List D} (hk : ∀ d ∈ ds, isKey d = true) (hs : SrtO.Srtd (ltD 4) ys) (hp : ys.Perm ds) : ys = sortD ds := by
  refine List.Perm.eq_of_pairwise (le := fun x y => ltD 4 y x = false) (fun a b ha hb h1 h2 => ?_) hs (sortD_srtd ds) (hp.trans (sortD_perm ds).symm)
  exact tri 4 a b (hk a (hp.mem_iff.mp ha)) (hk b ((sortD_perm ds).mem_iff.mp hb)) h2 h1
theorem sortOk_at {ds : List D} (h : sortOk ds = true) : okS ds = true ∧ (∀ d ∈ ds, isKey d = true) ∧ ∀ d ∈ ds, ∀ e ∈ ds, okD 4 d e = true := by
  unfold sortOk at h
  simp only [Bool.and_eq_true, List.all_eq_true] at h
  exact ⟨h.1, fun d m => (h.2 d m).1, fun d m => (h.2 d m).2⟩
/-- r gives, collected, values with the property P -/
def SrcOf (X : Cx) (A : Around) (s : Shared) (r : Addr) (P : List Value → Prop) : Prop :=
  ∀ (E : Value → Shared → Prop) (R : List Value → Shared → Prop), (∀ h' tk acc, (∀ b o, s.heap.get? b = some o → h'.get? b = some o) → P acc → R acc { s with heap := h', toks := tk }) → wpAny (model X.prog X.w) A (collect (.ref r)) R E s
theorem RelL.at {K : PySem.W.Frag} {H : Hp} : ∀ {ds : List D} {vs : List V} {us : List Value}, RelL K H ds vs → Vals vs us → us.length = ds.length ∧ ∀ (j : Nat) d u, ds[j]? = some d → us[j]? = some u → ∃ x, RelD K H d x ∧ RelV x u
  | [], _, us, h, r => by cases h; cases r; exact ⟨rfl, fun j d u e => by simp at e⟩
  | d :: ds, _, us, ⟨v, vs, e, h1, h2⟩, r => by
    subst e
    cases r with
    | cons r t =>
      obtain ⟨a, b⟩ := RelL.at h2 t
      refine ⟨by simp [a], fun j d' u' e1 e2 => ?_⟩
      cases j with
      | zero => simp at e1 e2; subst e1 e2; exact ⟨v, h1, r⟩
      | succ j => exact b j d' u' (by simpa using e1) (by simpa using e2)
theorem rel_out {K : PySem.W.Frag} {H : Hp} {f : Value → D} : ∀ {out : List Value}, (∀ v ∈ out, ∃ x, RelD K H (f v) x ∧ RelV x v) → ∃ xs, RelL K H (out.map f) xs ∧ Vals xs out
  | [], _ => ⟨[], rfl, .nil⟩
  | v :: out, h => by
    obtain ⟨xs, a, b⟩ := rel_out (out := out) fun u m => h u (List.mem_cons_of_mem _ m)
    obtain ⟨x, r1, r2⟩ := h v List.mem_cons_self
    exact ⟨x :: xs, ⟨x, xs, rfl, r1, a⟩, .cons r2 b⟩
section
variable {X : Cx} {pins : List (Addr × Obj)} {σ : L2.St} {H : Hp} {s : Shared}
theorem x_sorted {A : AH} {r : Addr} {ds : List D} {R : DQ} {Q : VK} (hu : X.A.units + 64 < cLine) (I : L2.Inv X pins σ H s) (hA : RelH X.b A H) (hz : ds.length ≤ SL) (ok : sortOk ds = true)
    (hsrc : SrcOf X X.A.in1 s r fun acc => ∃ vs, RelL X.K H ds vs ∧ Vals vs acc) (hR : ∀ p, A p = none → R (.ref p) (up A p (.lst (sortD ds)))) (k : Kp X.b H R Q) :
    wpAny (model X.prog X.w) X.A (call (.builtin "sorted") [.ref r]) (EP X pins σ Q) X.xe s := by
  obtain ⟨o1, o2, o3⟩ := sortOk_at ok
  refine Calls.call_function_entry PyProof.Rows.kind_sorted PyProof.Rows.plain_sorted PyProof.Rows.entry_sorted (PyProof.Rows.args_sorted1 _) ?_
  unfold Builtin.«sorted»
  refine wpAny_bind (m := checkCount "sorted" 1 1 _) (wpAny_pure ?_)
  refine wpAny_bind (hsrc _ _ fun h' tk acc hk ⟨vs, rl, rv⟩ => ?_)
  obtain ⟨hl, hat⟩ := rl.at rv
  have hacc : acc.length ≤ sizeLine := by rw [hl, SL_eq]; exact hz
  refine wpAny_bind (wpAny_newList ?_ hacc)
  have hoL : (h'.push (seqObj "list" acc.toArray 0)).get? h'.objs.size = some (seqObj "list" acc.toArray 0) := Heap.get?_push_size _ rfl
  show wpAny _ _ _ _ _ { s with heap := h'.push (seqObj "list" acc.toArray 0), toks := tk }
  have hk1 : ∀ b o, s.heap.get? b = some o → (h'.push (seqObj "list" acc.toArray 0)).get? b = some o := fun b o q => Heap.get?_push_of_some _ (hk b o q)
  have ks : KeysAt (h'.push (seqObj "list" acc.toArray 0)) ds acc := ⟨hl, fun j d v e1 e2 => by
    obtain ⟨x, r1, r2⟩ := hat j d v e1 e2
    exact (key_at I 4 d x v (o2 d (List.mem_of_getElem? e1)) r1 r2).grows fun b o q _ => hk1 b o q⟩
  have I1 : L2.Inv X pins σ H { s with heap := h', toks := tk } := I.kept hk
  refine wpAny_bind (wpAny_holding (wpAny_call_entry PyProof.Rows.slot_list_sort ⟨_, hoL, rfl⟩ PyProof.Rows.entry_list_sort
    (SrtO.list_sort_ord (s := { s with heap := h'.push (seqObj "list" acc.toArray 0), toks := tk }) (swo_at (h'.push (seqObj "list" acc.toArray 0))) hoL hacc (fun h2 => keys_sortable (s := { s with heap := h'.push (seqObj "list" acc.toArray 0), toks := tk }) (by show X.A.units + 1 + 1 + 8 < cLine; omega) h2 ks o1 o3 fun o e => by rw [hoL] at e; cases e; show Value.type "list" ≠ Value.type "tuple"; decide) fun out hs hb => ⟨_, rfl, ?_⟩)
    (PyProof.Rows.args_list_sort _)))
  obtain ⟨e', he'⟩ := PyProof.Rows.sortedHeap_at (vs := acc) (out := out.toArray) hoL
  have hm := ks.map
  have e3 : out.map (dAt (h'.push (seqObj "list" acc.toArray 0))) = sortD ds := by
    refine sortD_uniq o2 (SrtO.srtd_map (f := dAt _) hs) ?_
    rw [hm]
    exact hb.perm.map _
  obtain ⟨xs, q1, q2⟩ := rel_out (K := X.K) (H := H) (f := dAt (h'.push (seqObj "list" acc.toArray 0))) (out := out) fun v m => by
    obtain ⟨j, hj, e⟩ := List.getElem_of_mem (hb.perm.mem_iff.mp m)
    have h2 : j < ds.length := by rw [← hl]; exact hj
    obtain ⟨x, r1, r2⟩ := hat j ds[j] v (List.getElem?_eq_getElem h2) (by rw [← e]; exact List.getElem?_eq_getElem hj)
    rw [dAt_of (ks.2 j ds[j] v (List.getElem?_eq_getElem h2) (by rw [← e]; exact List.getElem?_eq_getElem hj))]
    exact ⟨x, r1, r2⟩
  rw [e3] at q1
  have hlen : xs.length ≤ sizeLine := by rw [q2.length, hb.perm.length_eq]; exact hacc
  have hn := I1.hok.fresh (Nat.le_refl h'.objs.size)
  refine wpAny_pure ⟨_, rfl, .ref h'.objs.size, upd H h'.objs.size (.lst xs), I1.laid (t' := tk) (fun b u e => ?_) (Nat.le_refl _)
    (show ObjOk X.prog X.w _ _ _ (.lst xs) from ⟨hlen, out, e', q2, he'⟩), rfl, k _ _ _ _ (hR _ (hA.free hn)) (hA.add (u := .lst _) hn ⟨_, upd_same, q1.grow (Grow.new hn)⟩) rfl (Grow.new hn)⟩
  have hb' : b < h'.objs.size := Heap.lt_size e
  rw [PyProof.Rows.sortedHeap_old (Nat.ne_of_lt hb') (by rw [size_push']; exact Nat.lt_succ_of_lt hb')]
  exact Heap.get?_push_of_some _ e
end
end DL
set_option Elab.async false
set_option linter.all false
set_option maxRecDepth 100000
set_option maxHeartbeats 1000000
/-! DL11: == of dicts, isinstance, sorted by its sources. -/
namespace DL
open PySem PySem.Spec PyProof.Rows L2
theorem dget_at {α : Type} : ∀ {kvs : List (D × α)} {j : Nat} {k : D} {d : α}, (kvs.map (·.1)).Nodup → kvs[j]? = some (k, d) → dget kvs k = some d
  | [], j, k, d, _, h => by simp at h
  | q :: ps, 0, k, d, _, h => by
    simp at h
    subst h
    simp [dget]
  | q :: ps, j + 1, k, d, nd, h => by
    rw [List.map_cons, List.nodup_cons] at nd
    have h : ps[j]? = some (k, d) := by simpa using h
    have ih := dget_at nd.2 h
    have ne : q.1 ≠ k := fun e => nd.1 (by rw [e]; exact List.mem_map.mpr ⟨(k, d), List.mem_of_getElem? h, rfl⟩)
    unfold dget at ih ⊢
    rw [List.find?_cons_of_neg (by simpa using ne)]
    exact ih
theorem dget_none {α : Type} {kvs : List (D × α)} {k : D} (h : k ∉ kvs.map (·.1)) : dget kvs k = none := by
  cases e : dget kvs k with
  | none => rfl
  | some d => exact absurd (dget_mem.mp (by rw [e]; rfl)) h
section
variable {X : Cx} {pins : List (Addr × Obj)} {σ : L2.St} {H : Hp} {s : Shared} {A₀ : Around} {E : Value → Shared → Prop} {A : AH} {a b : Addr} {kvs kb : List (D × D)} {k : D} {y : V} {u : Value}
/-- where the key k stands -/
theorem x_find {Q : Option Nat → Shared → Prop} (hu : A₀.units + 5 < cLine) (I : L2.Inv X pins σ H s) (hA : RelH X.b A H) (e : DicOf A a kvs) (ok : okK kvs k = true) (rk : RelD X.K H k y) (ry : RelV y u)
    (hn : dget kvs k = none → Q none s) (hs : ∀ j d, kvs[j]? = some (k, d) → dget kvs k = some d → Q (some j) s) : wpAny (model X.prog X.w) A₀ (dictFind a u (hsh X.w k)) Q E s := by
  have all := okK_all ok
  have kk := okK_key ok
  obtain ⟨_, _, _, gd⟩ := view_at I hA e
  have found : ∀ j : Nat, (kvs.map (·.1))[j]? = some k → Q (some j) s := fun j h => by
    rw [List.getElem?_map] at h
    cases hp : kvs[j]? with
    | none => rw [hp] at h; cases h
    | some p =>
      rw [hp] at h
      obtain ⟨p1, p2⟩ := p
      have : p1 = k := by simpa using h
      subst this
      exact hs j p2 hp (dget_at gd.1 hp)
  cases ht : isTup k with
  | true =>
    rw [ht] at all
    obtain ⟨xs, ⟨o, es, ep, g1, g2, g3, g4, g5, g6⟩, t, _, _⟩ := view_t I hA e all
    obtain ⟨p, hp⟩ := isTup_ref ⟨y, rk, ry⟩ ht
    subst hp
    have tk := t.keys
    refine wpAny_dictFind_heap (knd := nestKind X.prog X.w) (by show A₀.units + 4 < cLine; omega) ⟨ht, key_at I 4 _ _ _ kk rk ry⟩ g1 g3 g4 g5 g6 (fun h => hn (dget_none fun m => ?_)) fun j p h => found j ?_
    · rw [← tk] at m
      obtain ⟨z, mz, ez⟩ := List.mem_map.mp m
      obtain ⟨j, hj, ej⟩ := List.getElem_of_mem mz
      obtain ⟨z1, z2⟩ := z
      have : z1 = k := ez
      subst this
      exact h j z2 (by rw [← ej]; exact List.getElem?_eq_getElem hj)
    · rw [← tk, List.getElem?_map, h] <;> rfl
  | false =>
    rw [ht] at all
    obtain ⟨xs, ⟨o, es, ep, g1, g2, g3, g4, g5, g6⟩, t, _, _⟩ := view_f I hA e all
    have hy := kyD_rel kk ht rk
    subst hy
    have hidx := g5.findIdx (kyD k)
    rw [kyD_hash X.w kk ht]
    refine wpAny_dictFind_of (knd := mixKind X.prog X.w) (k := kyD k) (kV_is ry) g1 g3 g4 ?_
    have e3 : (es.findIdx? fun e => (mixKind X.prog X.w).is (kyD k) e.key) = xs.findIdx? fun kv => decide (kv.1 = kyD k) := by
      rw [← hidx]
      obtain ⟨l⟩ := es
      simp
    rw [e3]
    have fk := t.keys
    cases h : xs.findIdx? fun kv => decide (kv.1 = kyD k) with
    | none =>
      refine hn (dget_none fun m => ?_)
      obtain ⟨p, mp, ep⟩ := List.mem_map.mp m
      have : kyD k ∈ xs.map (·.1) := by rw [fk]; exact List.mem_map.mpr ⟨p, mp, by rw [ep]⟩
      obtain ⟨z, mz, ez⟩ := List.mem_map.mp this
      have := List.findIdx?_eq_none_iff.mp h z mz
      simp [ez] at this
    | some j =>
      refine found j ?_
      obtain ⟨hj, hp, _⟩ := List.findIdx?_eq_some_iff_getElem.mp h
      have e4 : xs[j].1 = kyD k := of_decide_eq_true hp
      have e5 : (xs.map (·.1))[j]? = some (kyD k) := by rw [List.getElem?_map, List.getElem?_eq_getElem hj, ← e4] <;> rfl
      rw [fk, List.getElem?_map] at e5
      rw [List.getElem?_map]
      cases hp : kvs[j]? with
      | none => rw [hp] at e5; cases e5
      | some p =>
        rw [hp] at e5
        have e6 : kyD p.1 = kyD k := by simpa using e5
        have mp := List.mem_of_getElem? hp
        rw [← kyD_inj (gd.2.2.1 p mp) (all p mp) kk ht e6] <;> rfl
/-! ### == of dicts -/
/-- the pairs of ka, looked up in kb, compare as f says -/
def pairsB (f : D → D → Bool) (kb : List (D × D)) (ka : List (D × D)) : Bool := ka.all fun p => match dget kb p.1 with
  | some d => f p.2 d
  | none => false
theorem x_same {nm : String} {f : D → D → Bool} {Q : Bool → Shared → Prop} (hu : A₀.units + 5 < cLine) (I : L2.Inv X pins σ H s) (hA : RelH X.b A H) (ea : DicOf A a kvs) (eb : DicOf A b kb) (ok : ∀ p ∈ kvs, okK kb p.1 = true)
    (hv : ∀ p ∈ kvs, ∀ d, dget kb p.1 = some d → ∀ v u, ReV X.K H p.2 v → ReV X.K H d u → SeqAt.EqAt A₀ s v u (f p.2 d)) (h : Q (decide (kvs.length = kb.length) && pairsB f kb kvs) s) :
    wpAny (model X.prog X.w) A₀ (Builtin.Dict.samePairs nm a b) Q E s := by
  obtain ⟨la, ⟨oa, na, a1, a2, a3, a4⟩, ra, ga⟩ := view_at I hA ea
  obtain ⟨lb, ⟨ob, nb, b1, b2, b3, b4⟩, rb, gb⟩ := view_at I hA eb
  have sa : (la.map fun e => (⟨hsh X.w e.1, e.2.1, e.2.2⟩ : DictEntry)).toArray.size = kvs.length := by simp [ra.length]
  have sb : (lb.map fun e => (⟨hsh X.w e.1, e.2.1, e.2.2⟩ : DictEntry)).toArray.size = kb.length := by simp [rb.length]
  have keyOf : ∀ {ks : List (D × D)} {ls : List Ent} (r : EntL X.K H ks ls) (j : Nat) (p : D × D), ks[j]? = some p → ∃ e, ls[j]? = some e ∧ e.1 = p.1 ∧ ReV X.K H p.1 e.2.1 ∧ ReV X.K H p.2 e.2.2 := by
    intro ks
    induction ks with
    | nil => intro ls r j p h; simp at h
    | cons q qs ih =>
      intro ls r j p h
      obtain ⟨e, r', x1, x2, x3, x4, x5⟩ := r
      subst x1
      cases j with
      | zero => simp at h; subst h; exact ⟨e, rfl, x2, x3, x4⟩
      | succ j =>
        obtain ⟨e', y1, y2⟩ := ih x5 j p (by simpa using h)
        exact ⟨e', by simpa using y1, y2⟩
  generalize hga : (la.map fun e => (⟨hsh X.w e.1, e.2.1, e.2.2⟩ : DictEntry)).toArray = ga' at a3 sa
  generalize hgb : (lb.map fun e => (⟨hsh X.w e.1, e.2.1, e.2.2⟩ : DictEntry)).toArray = gb' at b3 sb
  unfold Builtin.Dict.samePairs Builtin.Dict.showsAll
  rw [a4, b4]
  simp only [Bool.false_eq_true, if_false]
  refine wpAny_bind (wpAny_pure (wpAny_bind (wpAny_pure (wpAny_bind (wpAny_dictEntries a1 a3 ?_)))))
  refine wpAny_bind (wpAny_dictEntries b1 b3 ?_)
  by_cases hl : kvs.length = kb.length
  · have h : Q (pairsB f kb kvs) s := by simpa [hl] using h
    rw [if_neg (by rw [sa, sb, hl]; simp)]
    refine wpAny_bind (wpAny_dictEpoch a1 a3 (wpAny_bind ?_))
    rw [Std.Legacy.Range.forIn_eq_forIn_range']
    simp only [Std.Legacy.Range.size, Nat.sub_zero, Nat.add_sub_cancel, Nat.div_one, sa]
    refine wpAny_forIn_list _ (fun left q st => st = s ∧ q = (none, ()) ∧ ∃ i, i ≤ kvs.length ∧ left = List.range' i (kvs.length - i) ∧ Q (pairsB f kb (kvs.drop i)) s) _ ?_ ?_ _ _ ⟨rfl, rfl, 0, Nat.zero_le _, by simp, by simpa using h⟩
    · intro x left q st ⟨e1, e2, i, hi, e3, hq⟩
      subst e1 e2
      have lt : i < kvs.length := by
        rcases Nat.lt_or_ge i kvs.length with z | z
        · exact z
        · rw [Nat.sub_eq_zero_of_le z] at e3; cases e3
      rw [show kvs.length - i = (kvs.length - (i + 1)) + 1 by omega, List.range'_succ] at e3
      obtain ⟨rfl, e3⟩ := List.cons.inj e3
      have kx : kvs[x]? = some kvs[x] := List.getElem?_eq_getElem lt
      obtain ⟨en, l1, l2, l3, l4⟩ := keyOf ra x _ kx
      have hx : ga'[x]? = some ⟨hsh X.w en.1, en.2.1, en.2.2⟩ := by rw [← hga]; simp [l1]
      have mx : kvs[x] ∈ kvs := List.getElem_mem lt
      rw [List.drop_eq_getElem_cons lt] at hq
      refine wpAny_bind (wpAny_dictEntries a1 a3 ?_)
      rw [hx]
      show wpAny _ _ (holding [en.2.1, en.2.2] _ >>= _) _ _ _
      obtain ⟨kv, r1, r2⟩ := l3
      rw [l2]
      refine wpAny_bind (wpAny_holding (wpAny_bind (x_find hu I hA eb (ok _ mx) r1 r2 (fun hn => ?_) fun j d hj hd => ?_)))
      · have z : pairsB f kb (kvs[x] :: kvs.drop (x + 1)) = false := by
          unfold pairsB
          rw [List.all_cons, hn, Bool.false_and]
        rw [z] at hq
        exact wpAny_pure (wpAny_pure (wpAny_pure hq))
      · obtain ⟨eo, m1, m2, m3, m4⟩ := keyOf rb j _ hj
        have hy : gb'[j]? = some ⟨hsh X.w eo.1, eo.2.1, eo.2.2⟩ := by rw [← hgb]; simp [m1]
        refine wpAny_bind (wpAny_dictEntries b1 b3 ?_)
        rw [hy]
        have eqa := hv _ mx d hd _ _ l4 m4
        have z : pairsB f kb (kvs[x] :: kvs.drop (x + 1)) = (f kvs[x].2 d && pairsB f kb (kvs.drop (x + 1))) := by
          unfold pairsB
          rw [List.all_cons, hd]
        rw [z] at hq
        refine wpAny_holding (eqa _ _ _ _ ?_)
        cases hf : f kvs[x].2 d with
        | false =>
          rw [hf, Bool.false_and] at hq
          exact wpAny_pure (wpAny_pure hq)
        | true =>
          rw [hf, Bool.true_and] at hq
          refine wpAny_bind (wpAny_dictEpoch a1 a3 ?_)
          rw [if_neg (by simp)]
          exact wpAny_pure ⟨rfl, rfl, x + 1, lt, e3, hq⟩
    · intro q st ⟨e1, e2, i, hi, e3, hq⟩
      subst e1 e2
      have : i = kvs.length := by
        rcases Nat.lt_or_ge i kvs.length with z | z
        · rw [show kvs.length - i = (kvs.length - (i + 1)) + 1 by omega, List.range'_succ] at e3; cases e3
        · omega
      subst this
      rw [List.drop_length] at hq
      exact wpAny_pure hq
  · rw [if_pos (by rw [sa, sb]; simpa using hl)]
    have h : Q false s := by simpa [hl] using h
    exact wpAny_bind (wpAny_rule (wpAny_pure h))
end
/-! ### plain data -/
mutual
def isPl : D → Bool
  | .non => true
  | .int _ => true
  | .str _ => true
  | .tup l => isPls l
  | _ => false
def isPls : List D → Bool
  | [] => true
  | d :: ds => isPl d && isPls ds
end
mutual
def plT : D → T
  | .int i => .int i
  | .str l => .str l
  | .tup l => .tup (plTs l)
  | _ => .non
def plTs : List D → List T
  | [] => []
  | d :: ds => plT d :: plTs ds
end
mutual
theorem snap_pl {A : AH} : ∀ (d : D), isPl d = true → Snap A d (plT d)
  | .non, _ => rfl
  | .int i, _ => rfl
  | .str l, _ => rfl
  | .tup l, h => ⟨l, rfl, snaps_pl l h⟩
  | .bl _, h => nomatch h
  | .cl _, h => nomatch h
  | .ref _, h => nomatch h
theorem snaps_pl {A : AH} : ∀ (d : List D), isPls d = true → Snaps A d (plTs d)
  | [], _ => rfl
  | d :: ds, h => ⟨d, ds, rfl, snap_pl d (Bool.and_eq_true_iff.mp h).1, snaps_pl ds (Bool.and_eq_true_iff.mp h).2⟩
end
mutual
theorem eqv_pl : ∀ (d e : D), isPl d = true → isPl e = true → T.eqv (plT d) (plT e) = decide (d = e)
  | .non, e, _, h => by cases e <;> first | (cases h; done) | simp [plT, T.eqv]
  | .int i, e, _, h => by cases e <;> first | (cases h; done) | (simp [plT, T.eqv]; done) | (simp only [plT, T.eqv]; rw [Bool.eq_iff_iff]; simp)
  | .str l, e, _, h => by cases e <;> first | (cases h; done) | (simp [plT, T.eqv]; done) | (simp only [plT, T.eqv]; rw [Bool.eq_iff_iff]; simp)
  | .tup l, .tup m, h, h' => by
    have := eqvs_pl l m h h'
    simp only [plT, T.eqv, this, D.tup.injEq]
  | .tup l, .non, h, h' => by simp [plT, T.eqv]
  | .tup l, .int _, h, h' => by simp [plT, T.eqv]
  | .tup l, .str _, h, h' => by simp [plT, T.eqv]
  | .tup _, .bl _, _, h => nomatch h
  | .tup _, .cl _, _, h => nomatch h
  | .tup _, .ref _, _, h => nomatch h
  | .bl _, _, h, _ => nomatch h
  | .cl _, _, h, _ => nomatch h
  | .ref _, _, h, _ => nomatch h
theorem eqvs_pl : ∀ (d e : List D), isPls d = true → isPls e = true → T.eqvs (plTs d) (plTs e) = decide (d = e)
  | [], [], _, _ => rfl
  | [], _ :: _, _, _ => rfl
  | _ :: _, [], _, _ => rfl
  | d :: ds, e :: es, h, h' => by
    have h1 := Bool.and_eq_true_iff.mp h
    have h2 := Bool.and_eq_true_iff.mp h'
    simp only [plTs, T.eqvs, eqv_pl d e h1.1 h2.1, eqvs_pl ds es h1.2 h2.2, List.cons.injEq]
    simp
end
def plV (d : D) : Prop := isPl d = true ∧ (plT d).dep ≤ 60
def dEqB (ka kb : List (D × D)) : Bool := decide (ka.length = kb.length) && pairsB (fun x y => decide (x = y)) kb ka
def fDEqB (neg : Bool) : DR2
  | .ref a, .ref b, A, Q => match dicGetD A a, dicGetD A b with
    | some ka, some kb => (∀ p ∈ ka, okK kb p.1 = true ∧ plV p.2) ∧ (∀ p ∈ kb, plV p.2) ∧ Q (.bl (neg ^^ dEqB ka kb)) A
    | _, _ => False
  | _, _, _, _ => False
section
variable {X : Cx}
theorem eqAt_pl {pins : List (Addr × Obj)} {σ : L2.St} {H : Hp} {s : Shared} {A₀ : Around} {A : AH} {d e : D} {v u : Value} (hu : A₀.units + 60 < cLine) (I : L2.Inv X pins σ H s) (hA : RelH X.b A H) (h1 : plV d) (h2 : plV e) (r1 : ReV X.K H d v) (r2 : ReV X.K H e u) : SeqAt.EqAt A₀ s v u (decide (d = e)) := by
  obtain ⟨x, r1, q1⟩ := r1
  obtain ⟨y, r2, q2⟩ := r2
  obtain ⟨a1, a2, a3⟩ := snap_dp hA _ _ _ (snap_pl d h1.1) r1
  obtain ⟨b1, b2, b3⟩ := snap_dp hA _ _ _ (snap_pl e h2.1) r2
  obtain ⟨as, z1⟩ := Dp.reads I _ _ _ a1 q1
  obtain ⟨bs, z2⟩ := Dp.reads I _ _ _ b1 q2
  have := SeqAt.eqAt_reads _ _ A₀ s v u as bs z1 z2 a2 b2 (by have := h1.2; rw [← a3] at this; have : min (plT d).py.depth (plT e).py.depth ≤ 60 := Nat.le_trans (Nat.min_le_left _ _) this; omega)
  rw [eqv_py, eqv_pl d e h1.1 h2.1] at this
  exact this
theorem d_deq (hu : X.A.units + 64 < cLine) : DOp X (compareOp .Eq) (fDEqB false) := DOp.raw fun pins s σ H x y v u Q I rx ry ⟨dx, dy, A, R, hA, r1, r2, q, k⟩ => by
  unfold fDEqB at q
  split at q
  · rename_i a b
    cases r1; cases rx; cases r2; cases ry
    split at q
    · rename_i ka kb ha hb
      obtain ⟨q1, q2, q3⟩ := q
      have t1 := (dict_ty I hA ha).1
      have t2 := (dict_ty I hA hb).1
      refine wpAny_richCompare_same_room (op := .Eq) t1 t2 PySem.F.slot_dict_eq (wpAny_call_entry PySem.F.slot_dict_eq t1 PySem.F.entry_dict_eq ?_ (PySem.F.args_dict_eq_2 _ _)) (by omega)
      show wpAny _ _ (Builtin.Dict.dictSlotArgs "__eq__" _ >>= _) _ _ s
      refine wpAny_bind (wpAny_bind (wpAny_notOrdered_dict t1 (wpAny_pure (wpAny_bind (wpAny_isInstance (T := "dict") t2 PySem.F.sub_dict_dict ?_)))))
      simp only [Bool.not_true, Bool.false_eq_true, if_false]
      refine wpAny_bind (wpAny_pure (wpAny_bind (wpAny_pure (wpAny_bind (x_same (f := fun x y => decide (x = y)) (by show X.A.units + 1 + 5 < cLine; omega) I hA (dicGetD_of ha) (dicGetD_of hb) (fun p m => (q1 p m).1) (fun p m d hd v u e1 e2 => ?_) ?_)))))
      · have md : ∃ p' ∈ kb, p'.2 = d := by
          unfold dget at hd
          cases hf : kb.find? fun z => decide (z.1 = p.1) with
          | none => rw [hf] at hd; cases hd
          | some z => rw [hf] at hd; exact ⟨z, List.mem_of_find?_eq_some hf, by simpa using hd⟩
        obtain ⟨p', mp', ep'⟩ := md
        exact eqAt_pl (by show X.A.units + 1 + 60 < cLine; omega) I hA (q1 p m).2 (by rw [← ep']; exact q2 p' mp') e1 e2
      · refine wpAny_pure ⟨_, rfl, fun z => (nomatch z), ⟨.bl (dEqB ka kb), H, I, ?_, k.at (d := .bl (dEqB ka kb)) (by simpa using q3) hA rfl⟩⟩
        show Value.bool _ = Value.bool _
        congr 1
        unfold dEqB
        simp
    · exact q.elim
  · exact q.elim
theorem d_dne (hu : X.A.units + 64 < cLine) : DOp X (compareOp .NotEq) (fDEqB true) := DOp.raw fun pins s σ H x y v u Q I rx ry ⟨dx, dy, A, R, hA, r1, r2, q, k⟩ => by
  unfold fDEqB at q
  split at q
  · rename_i a b
    cases r1; cases rx; cases r2; cases ry
    split at q
    · rename_i ka kb ha hb
      obtain ⟨q1, q2, q3⟩ := q
      have t1 := (dict_ty I hA ha).1
      have t2 := (dict_ty I hA hb).1
      refine wpAny_richCompare_same_room (op := .NotEq) t1 t2 PySem.F.slot_dict_ne (wpAny_call_entry PySem.F.slot_dict_ne t1 PySem.F.entry_dict_ne ?_ (PySem.F.args_dict_ne_2 _ _)) (by omega)
      show wpAny _ _ (Builtin.Dict.dictSlotArgs "__ne__" _ >>= _) _ _ s
      refine wpAny_bind (wpAny_bind (wpAny_notOrdered_dict t1 (wpAny_pure (wpAny_bind (wpAny_isInstance (T := "dict") t2 PySem.F.sub_dict_dict ?_)))))
      simp only [Bool.not_true, Bool.false_eq_true, if_false]
      refine wpAny_bind (wpAny_pure (wpAny_bind (wpAny_pure (wpAny_bind (x_same (f := fun x y => decide (x = y)) (by show X.A.units + 1 + 5 < cLine; omega) I hA (dicGetD_of ha) (dicGetD_of hb) (fun p m => (q1 p m).1) (fun p m d hd v u e1 e2 => ?_) ?_)))))
      · have md : ∃ p' ∈ kb, p'.2 = d := by
          unfold dget at hd
          cases hf : kb.find? fun z => decide (z.1 = p.1) with
          | none => rw [hf] at hd; cases hd
          | some z => rw [hf] at hd; exact ⟨z, List.mem_of_find?_eq_some hf, by simpa using hd⟩
        obtain ⟨p', mp', ep'⟩ := md
        exact eqAt_pl (by show X.A.units + 1 + 60 < cLine; omega) I hA (q1 p m).2 (by rw [← ep']; exact q2 p' mp') e1 e2
      · refine wpAny_pure ⟨_, rfl, fun z => (nomatch z), ⟨.bl (!dEqB ka kb), H, I, ?_, k.at (d := .bl (!dEqB ka kb)) (by simpa using q3) hA rfl⟩⟩
        show Value.bool _ = Value.bool _
        congr 1
        unfold dEqB
        simp
    · exact q.elim
  · exact q.elim
end
/-! ### isinstance(x, T), T a built-in type -/
def dIsi (T : String) (t : DTE) : DTE := fun σ A Q => t σ A fun d A1 => match tyN A1 d with
  | some n => Q (.bl (isT T n)) A1
  | none => False
def rIsD (B : Bs) (T : String) : List V → Hp → VK → Prop := fun xs H Q => ∃ x A d n, xs = [x, .ty T] ∧ RelH B A H ∧ RelD B.K H d x ∧ tyN A d = some n ∧ Q (.bl (isT T n)) H
/-- the types that the program asks for -/
def okT (T : String) : Prop := ∀ n ∈ ["NoneType", "bool", "int", "str", "tuple", "list", "dict"], kitB n T = some (isT T n)
section
variable {X : Cx}
theorem kit_D {pins : List (Addr × Obj)} {σ : L2.St} {H : Hp} {s : Shared} {A : AH} {d : D} {x : V} {u : Value} {n : String} (I : L2.Inv X pins σ H s) (hA : RelH X.b A H) (rd : RelD X.K H d x) (rx : RelV x u) (hn : tyN A d = some n) :
    (∃ P : Heap → Prop, PySem.W.KitX X.K u (.type n) P ∧ P s.heap ∧ u ≠ .builtin "__main__.__loader__#opaque") ∧ n ∈ ["NoneType", "bool", "int", "str", "tuple", "list", "dict"] := by
  cases d with
  | non => cases hn; cases rd; exact ⟨kit_of I rx (.base .non), by simp⟩
  | bl b => cases hn; cases rd; exact ⟨kit_of I rx (.base (.bl b)), by simp⟩
  | int i => cases hn; cases rd; exact ⟨kit_of I rx (.base (.int i)), by simp⟩
  | str l => cases hn; obtain ⟨rfl, _⟩ := rd; exact ⟨kit_of I rx (.base (.str _)), by simp⟩
  | tup l =>
    cases hn
    obtain ⟨a, vs, rfl, t, r⟩ := rd
    rcases t with t | t
    · exact ⟨kit_of I rx (.base (.tup t)), by simp⟩
    · exact ⟨by obtain ⟨o, _, _, e, c, _⟩ := t; exact kit_of I rx (.kTuple e c), by simp⟩
  | cl l =>
    cases hn
    obtain ⟨a, vs, rfl, t, r⟩ := rd
    rcases t with ⟨o, t⟩ | t
    · exact ⟨kit_of I rx (.base (.frz t)), by simp⟩
    · exact ⟨by obtain ⟨o, _, _, e, c, _⟩ := t; exact kit_of I rx (.kList e c), by simp⟩
  | ref a =>
    cases rd
    have dic : ∀ kvs, DicOf A a kvs → ∃ P : Heap → Prop, PySem.W.KitX X.K u (.type "dict") P ∧ P s.heap ∧ u ≠ .builtin "__main__.__loader__#opaque" := fun kvs h => by
      cases (show u = Value.ref a from rx)
      obtain ⟨es, ⟨o, ep, h1, h2, _⟩, _⟩ := view_at I hA h
      exact ⟨_, PySem.W.kitx_dict, ⟨o, h1, h2.1⟩, fun z => nomatch z⟩
    unfold tyN at hn
    cases e : A a with
    | none => simp [e] at hn
    | some o =>
      simp only [e] at hn
      cases o with
      | lst xs =>
        cases hn
        obtain ⟨vs, e1, r⟩ := hA _ _ e
        exact ⟨kit_of I rx (.base (.lst e1)), by simp⟩
      | dic kvs => cases hn; exact ⟨dic kvs (.inl e), by simp⟩
      | fdic od kvs => cases hn; exact ⟨dic kvs (.inr ⟨od, e⟩), by simp⟩
      | ins C fs => cases hn
      | tbl => cases hn
      | xd fs => cases hn
theorem call_isD {T : String} (ok : okT T) : CallR X (.builtin "isinstance") (rIsD X.b T) := by
  intro pins s σ H xs us Q I r ⟨x, A, d, n, ex, hA, rd, hn, q⟩
  subst ex
  obtain ⟨u1, u2, rfl, r1, r2⟩ := vals2 r
  cases (show u2 = Value.type T from r2)
  obtain ⟨⟨P, Z, p, hx⟩, mn⟩ := kit_D I hA rd r1 hn
  exact PySem.W.kia_one Z I.kIn p (kit_ty (ok n mn)) hx fun tk => ⟨.bl _, H, I.tok tk, rfl, q⟩
theorem qe_isi {e : Expr} {te : DTE} {T : String} {x : Str} {p tp pos : Pos} (he : QE X e te) (ok : okT T) (hg : Gl X "isinstance") (hm : X.mg "isinstance" = none) (hgT : Gl X x) (hmT : X.mg x = none) (hv : bootBuiltins x = some (.type T))
    (hn : x ≠ "__name__" := by decide) (hdb : (x == ("__debug__" : Str)) = false := by decide)
    (hs : starEach [e, .Name x tp] X.env = (false, eval e X.env) :: starEach [.Name x tp] X.env := by rfl) (hpl : (backTo pos (starEach [.Name x tp] X.env)).any (·.1) = false := by rfl) (hs2 : starEach [.Name x tp] X.env = (false, eval (.Name x tp) X.env) :: starEach [] X.env := by rfl) :
    QE X (.Call (.Name "isinstance" p) [e, .Name x tp] [] pos) (dIsi T te) := by
  refine imE (pe_callB (call_isD ok) hg hm PyProof.Rows.boot_isinstance (pa_cons he (pa_cons (pe_bltn (v := .ty T) hgT hmT hv rfl hn hdb) pa_nil hs2) hs) (by decide) (by decide) hs hpl) ?_
  intro σ H Q ⟨dσ, A, R, hA, hS, q, k⟩
  refine ⟨dσ, A, _, hA, hS, q, fun d A' v H' q' hA' rd g => ?_⟩
  cases hn : tyN A' d with
  | none => rw [hn] at q'; exact q'.elim
  | some n =>
    rw [hn] at q'
    exact ⟨v, A', d, n, rfl, hA', rd, hn, k _ _ _ _ q' hA' rfl g⟩
theorem okT_tuple : okT "tuple" := by unfold okT; decide +kernel
theorem okT_str : okT "str" := by unfold okT; decide +kernel
theorem okT_list : okT "list" := by unfold okT; decide +kernel
theorem okT_bool : okT "bool" := by unfold okT; decide +kernel
theorem okT_int : okT "int" := by unfold okT; decide +kernel
theorem okT_dict : okT "dict" := by unfold okT; decide +kernel
end
/-! ### sorted(xs), sorted(d) -/
def fSorted : DRn
  | [.ref a], A, Q => match A a with
    | some (.lst xs) => xs.length ≤ SL ∧ sortOk xs = true ∧ ∀ p, A p = none → Q (.ref p) (up A p (.lst (sortD xs)))
    | some (.dic kvs) => sortOk (kvs.map (·.1)) = true ∧ ∀ p, A p = none → Q (.ref p) (up A p (.lst (sortD (kvs.map (·.1)))))
    | some (.fdic _ kvs) => sortOk (kvs.map (·.1)) = true ∧ ∀ p, A p = none → Q (.ref p) (up A p (.lst (sortD (kvs.map (·.1)))))
    | _ => False
  | _, _, _ => False
theorem ents_rel {K : PySem.W.Frag} {H : Hp} : ∀ {kvs : List (D × D)} {es : List Ent}, EntL K H kvs es → ∃ vs, RelL K H (kvs.map (·.1)) vs ∧ Vals vs (es.map fun e => e.2.1)
  | [], _, h => by cases h; exact ⟨[], rfl, .nil⟩
  | q :: ps, _, ⟨e, r, h1, h2, ⟨v, rv, ru⟩, h4, t⟩ => by
    subst h1
    obtain ⟨vs, a, b⟩ := ents_rel t
    exact ⟨v :: vs, ⟨v, vs, rfl, rv, a⟩, .cons ru b⟩
section
variable {X : Cx}
theorem src_dict {pins : List (Addr × Obj)} {σ : L2.St} {H : Hp} {s : Shared} {A : AH} {a : Addr} {kvs : List (D × D)} (hc : X.calm = true) (I : L2.Inv X pins σ H s) (hA : RelH X.b A H) (e : DicOf A a kvs) :
    SrcOf X X.A.in1 s a fun acc => ∃ vs, RelL X.K H (kvs.map (·.1)) vs ∧ Vals vs acc := by
  intro E R h
  obtain ⟨es, ⟨o, ep, h1, h2, h3, h4⟩, r, g⟩ := view_at I hA e
  obtain ⟨vs, v1, v2⟩ := ents_rel r
  refine PySem.W.kdu_collect (kdl_obj h4 h2 h3) (show X.A.in1.handled = none from I.ok.hd hc) h1 (by have := g.2.1; simp [r.length]; exact this) fun h' tk acc hk hi => h h' tk acc.toList hk ⟨vs, v1, ?_⟩
  have : acc.toList = es.map fun e => e.2.1 := by
    have l1 : acc.size = es.length := by rw [hi.1]; simp
    refine List.ext_getElem (by simp [l1]) fun j j1 j2 => ?_
    have l2 : j < acc.size := by simpa using j1
    obtain ⟨en, e1, e2⟩ := hi.2 j acc[j] (by simp [l2])
    have l3 : j < es.length := by simpa using j2
    have : en = ⟨hsh X.w es[j].1, es[j].2.1, es[j].2.2⟩ := by
      have z : (es.map fun e => (⟨hsh X.w e.1, e.2.1, e.2.2⟩ : DictEntry)).toArray[j]? = some ⟨hsh X.w es[j].1, es[j].2.1, es[j].2.2⟩ := by simp [l3]
      rw [z] at e1
      exact (Option.some.inj e1).symm
    rw [Array.getElem_toList, e2, this, List.getElem_map]
  rw [this]
  exact v2
theorem src_list {pins : List (Addr × Obj)} {σ : L2.St} {H : Hp} {s : Shared} {A : AH} {a : Addr} {xs : List D} (I : L2.Inv X pins σ H s) (hA : RelH X.b A H) (e : A a = some (.lst xs)) :
    SrcOf X X.A.in1 s a fun acc => ∃ vs, RelL X.K H xs vs ∧ Vals vs acc := by
  intro E R h
  obtain ⟨vs, e1, r⟩ := hA _ _ e
  obtain ⟨its, rv, hl, hz⟩ := I.list (.of e1)
  refine PyProof.Rows.collect_list hl.isList (h _ s.toks its (fun b o q => ?_) ⟨vs, r, rv⟩) (by rw [← rv.length]; exact hz)
  rw [Heap.get?_update_ne _ _ _ _ (Nat.ne_of_lt (Heap.lt_size q))]
  exact Heap.get?_push_of_some _ q
theorem c_sorted (hc : X.calm = true) (hu : X.A.units + 64 < cLine) : DCa X (.builtin "sorted") fSorted := DCa.raw fun pins s σ H xs us Q I rv ⟨ds, A, R, hA, rl, q, k⟩ => by
  unfold fSorted at q
  split at q
  · rename_i a
    obtain ⟨v, rfl, rfl⟩ := rel1 rl
    obtain ⟨u, rfl, ru⟩ := vals1 rv
    cases ru
    have dic : ∀ kvs, DicOf A a kvs → sortOk (kvs.map (·.1)) = true → (∀ p, A p = none → R (.ref p) (up A p (.lst (sortD (kvs.map (·.1)))))) → wpAny (model X.prog X.w) X.A (call (.builtin "sorted") [.ref a]) (EP X pins σ _) X.xe s := fun kvs e ok q =>
      x_sorted hu I hA (by obtain ⟨_, _, _, g⟩ := view_at I hA e; rw [List.length_map, ← SL_eq]; exact g.2.1) ok (src_dict hc I hA e) q k
    split at q
    · rename_i ys e
      exact x_sorted hu I hA q.1 q.2.1 (src_list I hA e) q.2.2 k
    · rename_i kvs e
      exact dic kvs (.inl e) q.1 q.2
    · rename_i od kvs e
      exact dic kvs (.inr ⟨od, e⟩) q.1 q.2
    · exact q.elim
  · exact q.elim
end
end DL
set_option Elab.async false
set_option linter.all false
set_option maxRecDepth 100000
set_option maxHeartbeats 1000000
/-! DL12: operators over all kinds of data, by cases. -/
namespace DL
open PySem PySem.Spec PyProof.Rows L2
def plB (d : D) : Bool := isPl d && decide ((plT d).dep ≤ 60)
theorem plB_V {d : D} (h : plB d = true) : plV d := by
  unfold plB at h
  simpa [plV] using h
def isDcB (A : AH) (a : Addr) : Bool := (dicGetD A a).isSome
def fEqn (neg : Bool) : DR2 := fun x y A Q => ∃ t u, Snap A x t ∧ Snap A y u ∧ t.dep ≤ 64 ∧ u.dep ≤ 64 ∧ Q (.bl (neg ^^ T.eqv t u)) A
/-- == (neg: !=) -/
def mEq (neg : Bool) : DR2 := fun x y A Q => if plB x && plB y then Q (.bl (neg ^^ decide (x = y))) A else match x, y with
  | .bl a, .bl b => Q (.bl (neg ^^ (a == b))) A
  | .ref a, .ref b => if isDcB A a then fDEqB neg (.ref a) (.ref b) A Q else fEqn neg (.ref a) (.ref b) A Q
  | x, y => fEqn neg x y A Q
theorem mEq_or {neg : Bool} (x y : D) (A : AH) (R : DQ) (h : mEq neg x y A R) : fEqn neg x y A R ∨ fDEqB neg x y A R := by
  unfold mEq at h
  split at h
  · rename_i hp
    obtain ⟨h1, h2⟩ := Bool.and_eq_true_iff.mp hp
    have v1 := plB_V h1
    have v2 := plB_V h2
    exact .inl ⟨_, _, snap_pl x v1.1, snap_pl y v2.1, by have := v1.2; omega, by have := v2.2; omega, by rw [eqv_pl x y v1.1 v2.1]; exact h⟩
  · split at h
    · exact .inl ⟨.bl _, .bl _, rfl, rfl, Nat.zero_le _, Nat.zero_le _, h⟩
    · split at h
      · exact .inr h
      · exact .inl h
    · exact .inl h
/-- < of keys; ints at once -/
def mLt (op : CmpOp) : DR2 := fun x y A Q => match x, y with
  | .int i, .int j => Q (.bl (match op with | .Lt => decide (i < j) | .Gt => decide (j < i) | .LtE => decide (i ≤ j) | _ => decide (j ≤ i))) A
  | x, y => fOrd op x y A Q
theorem mLt_ord {op : CmpOp} (ho : Ord4 op) (x y : D) (A : AH) (R : DQ) (h : mLt op x y A R) : fOrd op x y A R := by
  unfold mLt at h
  split at h
  · rename_i i j
    refine ⟨rfl, rfl, rfl, ?_⟩
    rcases ho with e | e | e | e <;> subst e
    · exact h
    · exact h
    · have z : opD .LtE 4 (.int i) (.int j) = decide (i ≤ j) := by
        show (!decide (j < i)) = _
        rw [← decide_not]; exact decide_eq_decide.mpr Int.not_lt
      rw [z]; exact h
    · have z : opD .GtE 4 (.int i) (.int j) = decide (j ≤ i) := by
        show (!decide (i < j)) = _
        rw [← decide_not]; exact decide_eq_decide.mpr Int.not_lt
      rw [z]; exact h
  · exact h
/-- x[i] -/
def mIx : DR2 := fun x y A Q => match x with
  | .ref a => if isDcB A a then fDGet (.ref a) y A Q else fIx (.ref a) y A Q
  | x => fIx x y A Q
/-- x[i] = v -/
def mSt : DSet := fun o i d A Q => match o with
  | .ref a => if isDcB A a then fDSet (.ref a) i d A Q else fSetL (.ref a) i d A Q
  | _ => False
section
variable {X : Cx}
theorem DOp.im {g : Value → Value → Sem Value} {f f' : DR2} (h : DOp X g f) (w : ∀ x y A R, f' x y A R → f x y A R) : DOp X g f' := h.or h fun x y A R q => .inl (w x y A R q)
theorem o_eq (hu : X.A.units + 64 < cLine) : DOp X (compareOp .Eq) (mEq false) := (d_eq hu).or (d_deq hu) fun x y A R q => by
  rcases mEq_or x y A R q with ⟨t, u, a, b, c, d, q⟩ | q
  · exact .inl ⟨t, u, a, b, c, d, by simpa using q⟩
  · exact .inr q
theorem o_ne (hu : X.A.units + 64 < cLine) : DOp X (compareOp .NotEq) (mEq true) := (d_ne hu).or (d_dne hu) fun x y A R q => by
  rcases mEq_or x y A R q with ⟨t, u, a, b, c, d, q⟩ | q
  · exact .inl ⟨t, u, a, b, c, d, by simpa using q⟩
  · exact .inr q
theorem o_lt (hu : X.A.units + 64 < cLine) : DOp X (compareOp .Lt) (mLt .Lt) := (d_ord (.inl rfl) hu).im (mLt_ord (.inl rfl))
theorem o_gt (hu : X.A.units + 64 < cLine) : DOp X (compareOp .Gt) (mLt .Gt) := (d_ord (.inr (.inl rfl)) hu).im (mLt_ord (.inr (.inl rfl)))
theorem o_le (hu : X.A.units + 64 < cLine) : DOp X (compareOp .LtE) (mLt .LtE) := (d_ord (.inr (.inr (.inl rfl))) hu).im (mLt_ord (.inr (.inr (.inl rfl))))
theorem o_ge (hu : X.A.units + 64 < cLine) : DOp X (compareOp .GtE) (mLt .GtE) := (d_ord (.inr (.inr (.inr rfl))) hu).im (mLt_ord (.inr (.inr (.inr rfl))))
theorem o_ix (hu : X.A.units + 64 < cLine) : DIx X mIx := d_ix.or (d_dget hu) fun x y A R q => by
  unfold mIx at q
  split at q
  · split at q
    · exact .inr q
    · exact .inl q
  · exact .inl q
theorem o_st (hu : X.A.units + 64 < cLine) : DSt X mSt := d_setL.or (d_dset hu) fun o i d A R q => by
  unfold mSt at q
  split at q
  · split at q
    · exact .inr q
    · exact .inl q
  · exact q.elim
end
end DL
set_option Elab.async false
set_option linter.all false
set_option maxRecDepth 100000
set_option maxHeartbeats 1000000
/-! DL13: defs, methods, classes by their promises alone; short names of rules; the law's own head. -/
namespace DL
open PySem PySem.Spec PyProof.Rows L2
/-- a def of the module -/
def CalF (P : Program) (w : World) (K : PySem.W.Frag) (mg : Str → Option Value) (base : Heap) (x : Str) (k n : Nat) (ps : List Str) (sp : DSp) : Prop :=
  ∃ f fd, FnOk P w K mg base CX0 k f fd ps (lSp ⟨P, w, K⟩ n sp) ∧ mg x = some (.ref f) ∧ PySem.W.keepIn K (.ref f) = true ∧ Binds K fd ps []
/-- a method of the class at C -/
def MetF (P : Program) (w : World) (K : PySem.W.Frag) (mg : Str → Option Value) (base : Heap) (C : Addr) (m : String) (k n : Nat) (ps : List Str) (sp : DSp) : Prop :=
  ∃ f fd, Cls K C ∧ Meth K C (PySem.Str.ofString m) f ∧ FnOk P w K mg base CX0 k f fd ps (lSp ⟨P, w, K⟩ n sp) ∧ Binds K fd ps []
/-- a class that is made -/
def MakF (P : Program) (w : World) (K : PySem.W.Frag) (mg : Str → Option Value) (base : Heap) (C : Addr) (x : Str) (k n : Nat) (ps : List Str) (sp : DSp) : Prop :=
  ∃ f fd, Mk K C f ∧ FnOk P w K mg base CX0 k f fd ps (lSp ⟨P, w, K⟩ n sp) ∧ mg x = some (.ref C) ∧ Binds K fd ps []
section
variable {X : Cx} {k n : Nat} {C : Addr} {ps : List Str} {sp : DSp} {x : Str} {p pos apos : Pos} {e o : Expr} {es : List Expr} {to : DTE} {t : DTA}
theorem qe_calF (F : CalF X.prog X.w X.K X.mg X.base x k n ps sp) (hr : Room k X.A) (ha : QA X (e :: es) t) (hn : (e :: es).length = n := by rfl) (hg : Gl X x := by rfl)
    (hdb : (x == ("__debug__" : Str)) = false := by decide) (he : starEach (e :: es) X.env = (false, eval e X.env) :: starEach es X.env := by rfl) (hpl : (backTo pos (starEach es X.env)).any (·.1) = false := by rfl) : QE X (.Call (.Name x p) (e :: es) [] pos) (dCal sp t) := by
  obtain ⟨f, fd, F, hm, hk, hb⟩ := F
  exact qe_call F hr hm hk hb ha hn hg hdb he hpl
theorem qe_metF (m : String) {pl : Sem Bool} (F : MetF X.prog X.w X.K X.mg X.base C m k n ps sp) (hr : Room k X.A) (he : QE X o to) (ha : QA X (e :: es) t) (hn : (e :: es).length + 1 = n := by rfl)
    (hst : starEach (e :: es) X.env = (false, eval e X.env) :: starEach es X.env := by rfl) (hpl : (backTo pos (starEach es X.env)).any (·.1) = false := by rfl)
    (ht : eval (.Call (.Attribute o (PySem.Str.ofString m) apos) (e :: es) [] pos) X.env = (do
      let ov ← eval o X.env
      standAt apos.atName
      let (f, first) ← holding [ov] (getMethod ov (PySem.Str.ofString m) pl)
      callWith pos f first (backTo pos (starEach (e :: es) X.env)) (backToKw pos (keywordEach [] X.env))) := by rfl) :
    QE X (.Call (.Attribute o (PySem.Str.ofString m) apos) (e :: es) [] pos) (dMet C m sp to t) := by
  obtain ⟨f, fd, c, hm, F, hb⟩ := F
  exact qe_meth m c hm F hr hb he ha hn hst hpl ht
theorem qe_metF0 (m : String) {pl : Sem Bool} (F : MetF X.prog X.w X.K X.mg X.base C m k 1 ps sp) (hr : Room k X.A) (he : QE X o to)
    (ht : eval (.Call (.Attribute o (PySem.Str.ofString m) apos) [] [] pos) X.env = (do
      let ov ← eval o X.env
      standAt apos.atName
      let (f, first) ← holding [ov] (getMethod ov (PySem.Str.ofString m) pl)
      callWith pos f first (backTo pos (starEach [] X.env)) (backToKw pos (keywordEach [] X.env))) := by rfl) :
    QE X (.Call (.Attribute o (PySem.Str.ofString m) apos) [] [] pos) (dMet C m sp to dNil) := by
  obtain ⟨f, fd, c, hm, F, hb⟩ := F
  exact qe_meth0 m c hm F hr hb he ht
theorem qe_makF (F : MakF X.prog X.w X.K X.mg X.base C x k n ps sp) (hr : Room (k + 1) X.A) (ha : QA X (e :: es) t) (hn : (e :: es).length + 1 = n := by rfl) (hg : Gl X x := by rfl)
    (hdb : (x == ("__debug__" : Str)) = false := by decide) (he : starEach (e :: es) X.env = (false, eval e X.env) :: starEach es X.env := by rfl) (hpl : (backTo pos (starEach es X.env)).any (·.1) = false := by rfl) : QE X (.Call (.Name x p) (e :: es) [] pos) (dMak C sp t) := by
  obtain ⟨f, fd, M, F, hm, hb⟩ := F
  exact qe_make M F hr hm hb ha hn hg hdb he hpl
theorem qe_makF0 (F : MakF X.prog X.w X.K X.mg X.base C x k 1 ps sp) (hr : Room (k + 1) X.A) (hg : Gl X x := by rfl)
    (hdb : (x == ("__debug__" : Str)) = false := by decide) : QE X (.Call (.Name x p) [] [] pos) (dMak C sp dNil) := by
  obtain ⟨f, fd, M, F, hm, hb⟩ := F
  exact qe_make0 M F hr hm hb hg hdb
theorem blk_of {N : List Str} {sc scope : Scope} {own : List (Str × Nat)} (h : blkC N sc scope own = true) : blkC N sc scope own = true := h
end
section
variable {X : Cx} {o e : Expr} {es : List Expr} {to : DTE} {t : DTA} {apos cpos : Pos}
theorem qe_append (ho : QE X o to) (ha : QA X [e] t)
    (hfew : ((backTo cpos (starEach [e] X.env)).all (fun x => !x.1) && (backToKw cpos (keywordEach [] X.env)).all (fun x => x.1.isSome)
      && decide (([e] : List Expr).length + ([] : List Keyword).length + (if ([] : List Keyword).isEmpty then 0 else 1) < 30)) = true := by rfl)
    (hbase : attributeBase o "append" X.env (eval o X.env) = eval o X.env := by rfl) (hline : (apos.endLine == cpos.line) = true := by rfl) (hs : starEach [e] X.env = (false, eval e X.env) :: starEach [] X.env := by rfl) :
    QE X (.Call (.Attribute o "append" apos) [e] [] cpos) (dBm isL fAppend to t) := qe_bm tyL PySem.F.plainAttrs_list PySem.F.slot_list_append PySem.F.type_list_append m_append ho ha hbase hfew hline hs (by rfl)
theorem qe_popAt (ho : QE X o to) (ha : QA X [e] t)
    (hfew : ((backTo cpos (starEach [e] X.env)).all (fun x => !x.1) && (backToKw cpos (keywordEach [] X.env)).all (fun x => x.1.isSome)
      && decide (([e] : List Expr).length + ([] : List Keyword).length + (if ([] : List Keyword).isEmpty then 0 else 1) < 30)) = true := by rfl)
    (hbase : attributeBase o "pop" X.env (eval o X.env) = eval o X.env := by rfl) (hline : (apos.endLine == cpos.line) = true := by rfl) (hs : starEach [e] X.env = (false, eval e X.env) :: starEach [] X.env := by rfl) :
    QE X (.Call (.Attribute o "pop" apos) [e] [] cpos) (dBm isL fPopAt to t) := qe_bm tyL PySem.F.plainAttrs_list PySem.F.slot_list_pop PySem.F.type_list_pop m_popAt ho ha hbase hfew hline hs (by rfl)
theorem qe_pop (ho : QE X o to)
    (hbase : attributeBase o "pop" X.env (eval o X.env) = eval o X.env := by rfl) (hline : (apos.endLine == cpos.line) = true := by rfl) :
    QE X (.Call (.Attribute o "pop" apos) [] [] cpos) (dBm isL fPop to dNil) := qe_bm0 tyL PySem.F.plainAttrs_list PySem.F.slot_list_pop PySem.F.type_list_pop m_pop ho hbase hline
theorem qe_dget (hu : X.A.units + 64 < cLine) (ho : QE X o to) (ha : QA X (e :: es) t)
    (hbase : attributeBase o "get" X.env (eval o X.env) = eval o X.env := by rfl)
    (hfew : ((backTo cpos (starEach (e :: es) X.env)).all (fun x => !x.1) && (backToKw cpos (keywordEach [] X.env)).all (fun x => x.1.isSome)
      && decide ((e :: es).length + ([] : List Keyword).length + (if ([] : List Keyword).isEmpty then 0 else 1) < 30)) = true := by rfl)
    (hline : (apos.endLine == cpos.line) = true := by rfl) (hs : starEach (e :: es) X.env = (false, eval e X.env) :: starEach es X.env := by rfl) (hplain : (backTo cpos (starEach es X.env)).any (·.1) = false := by rfl) :
    QE X (.Call (.Attribute o "get" apos) (e :: es) [] cpos) (dBm isDc fDGetM to t) := qe_dm PySem.F.slot_dict_get PySem.F.type_dict_get (m_dget hu) ho ha hbase hfew hline hs hplain
end
/-- len -/
abbrev mLen : DRn := fLen
theorem o_len {X : Cx} (hu : X.A.units + 64 < cLine) : DCa X (.builtin "len") mLen := c_len
/-- a law: a list of at most 63 ints, True comes out -/
def sp_law : DSp := fun ds _ R _ => ∃ ns : List Int, ds = [.cl (ns.map .int)] ∧ ns.length ≤ 63 ∧ ∀ A, R (.bl true) A
theorem law_sp {P : Program} {w : World} {K : PySem.W.Frag} {H : Hp} {a : Addr} {ns : List Int} (hl : ns.length ≤ 63) (hO : Only H) (hS : SqL K H a (ns.map V.int)) : lSp ⟨P, w, K⟩ 1 sp_law [.ref a] H (fun v _ => v = .bl true) fun _ _ _ => False := by
  have hc : CstAt K H a (ns.map V.int) := by
    rcases hS with h | h
    · rcases h with h | ⟨o, h⟩
      · rcases hO a with z | ⟨o, xs, z⟩
        · rw [h] at z; cases z
        · rw [h] at z; cases z
      · exact .inl ⟨o, h⟩
    · exact .inr h
  have hr : ∀ l : List Int, RelL K H (l.map D.int) (l.map V.int) := by
    intro l
    induction l with
    | nil => rfl
    | cons i l ih => exact ⟨_, _, rfl, rfl, ih⟩
  exact ⟨[.cl (ns.map .int)], fun _ => none, fun d _ => d = .bl true, noX, (fun _ _ z => nomatch z), ⟨_, _, rfl, ⟨a, _, rfl, hc, hr ns⟩, rfl⟩, rfl, ⟨ns, rfl, hl, fun _ => rfl⟩, fun d A' v H' h _ rd _ => by subst h; exact rd, fun _ _ _ _ _ z => z.elim⟩
end DL
set_option Elab.async false
set_option linter.all false
set_option maxRecDepth 100000
set_option maxHeartbeats 1000000
/-! DL14: in, not in. -/
namespace DL
open PySem PySem.Spec PyProof.Rows L2
theorem pl_any {x : D} (hx : isPl x = true) : ∀ {xs : List D}, xs.all plB = true → ((T.pys (plTs xs)).any fun z => PyData.eqv z (plT x).py) = decide (x ∈ xs)
  | [], _ => by simp [plTs, T.pys]
  | y :: ys, h => by
    rw [List.all_cons, Bool.and_eq_true] at h
    simp only [plTs, T.pys, List.any_cons, pl_any hx h.2, eqv_py, eqv_pl y x (plB_V h.1).1 hx]
    by_cases c : y = x
    · subst c; simp
    · have c' : ¬ x = y := fun e => c e.symm
      simp [c, c', List.mem_cons]
theorem pls_of : ∀ {xs : List D}, xs.all plB = true → isPls xs = true ∧ T.deps (plTs xs) ≤ 60
  | [], _ => ⟨rfl, Nat.zero_le _⟩
  | y :: ys, h => by
    rw [List.all_cons, Bool.and_eq_true] at h
    obtain ⟨a, b⟩ := pls_of h.2
    have v := plB_V h.1
    refine ⟨by simp [isPls, v.1, a], ?_⟩
    simp only [plTs, T.deps]
    exact Nat.max_le.mpr ⟨v.2, b⟩
def listOf (A : AH) : D → Option (List D)
  | .ref a => match A a with
    | some (.lst xs) => some xs
    | _ => none
  | .cl xs => some xs
  | _ => none
def fInL (neg : Bool) : DR2 := fun x y A Q => match listOf A y with
  | some xs => plB x = true ∧ xs.all plB = true ∧ Q (.bl (neg ^^ decide (x ∈ xs))) A
  | none => False
theorem snap_listOf {A : AH} {y : D} {xs : List D} (h : listOf A y = some xs) (hp : isPls xs = true) : Snap A y (.lst (plTs xs)) := by
  cases y with
  | ref a =>
    have h : (match A a with | some (.lst xs) => some xs | _ => none) = some xs := h
    split at h
    · rename_i ys e; cases h; exact .inl ⟨a, _, rfl, e, snaps_pl _ hp⟩
    · cases h
  | cl ys => cases h; exact .inr ⟨_, rfl, snaps_pl _ hp⟩
  | _ => cases h
/-- x in y -/
def mIn (neg : Bool) : DR2 := fun x y A Q => match y with
  | .ref a => if isDcB A a then (if neg then fDNotIn x (.ref a) A Q else fDIn x (.ref a) A Q) else fInL neg x (.ref a) A Q
  | y => fInL neg x y A Q
section
variable {X : Cx}
theorem d_inL (hu : X.A.units + 65 < cLine) : DOp X (compareOp .In) (fInL false) := by
  refine ⟨_, op_inD hu, fun x y A R v u H Q hA rx ry h k => ?_⟩
  unfold fInL at h
  split at h
  · rename_i xs hl
    obtain ⟨h1, h2, q⟩ := h
    have v1 := plB_V h1
    obtain ⟨p1, p2⟩ := pls_of h2
    obtain ⟨a1, a2⟩ := snap_shaped hA (snap_pl x v1.1) rx (by have := v1.2; omega)
    obtain ⟨b1, b2⟩ := snap_shaped hA (snap_listOf hl p1) ry (by simp only [T.dep]; omega)
    exact ⟨_, T.pys (plTs xs), a1, b1, a2, b2, by rw [pl_any v1.1 h2]; exact k.at (d := .bl _) (by simpa using q) hA rfl⟩
  · exact h.elim
theorem d_notInL (hu : X.A.units + 65 < cLine) : DOp X (compareOp .NotIn) (fInL true) := by
  refine ⟨_, op_notInD hu, fun x y A R v u H Q hA rx ry h k => ?_⟩
  unfold fInL at h
  split at h
  · rename_i xs hl
    obtain ⟨h1, h2, q⟩ := h
    have v1 := plB_V h1
    obtain ⟨p1, p2⟩ := pls_of h2
    obtain ⟨a1, a2⟩ := snap_shaped hA (snap_pl x v1.1) rx (by have := v1.2; omega)
    obtain ⟨b1, b2⟩ := snap_shaped hA (snap_listOf hl p1) ry (by simp only [T.dep]; omega)
    exact ⟨_, T.pys (plTs xs), a1, b1, a2, b2, by rw [pl_any v1.1 h2]; exact k.at (d := .bl _) (by simpa using q) hA rfl⟩
  · exact h.elim
theorem o_in (hu : X.A.units + 65 < cLine) : DOp X (compareOp .In) (mIn false) := (d_inL hu).or (d_din (by omega)) fun x y A R q => by
  unfold mIn at q
  split at q
  · split at q
    · exact .inr q
    · exact .inl q
  · exact .inl q
theorem o_notin (hu : X.A.units + 65 < cLine) : DOp X (compareOp .NotIn) (mIn true) := (d_notInL hu).or (d_dnotin (by omega)) fun x y A R q => by
  unfold mIn at q
  split at q
  · split at q
    · exact .inr q
    · exact .inl q
  · exact .inl q
end
end DL
set_option Elab.async false
set_option linter.all false
set_option maxRecDepth 100000
set_option maxHeartbeats 1000000
/-! DL15: dict comprehensions. -/
namespace DL
open PySem PySem.Spec PyProof.Rows L2
section
variable {X : Cx} {pins : List (Addr × Obj)} {σ : L2.St} {H : Hp} {s : Shared} {A₀ : Around} {E : Value → Shared → Prop} {A : AH} {a : Addr} {kvs : List (D × D)} {k d : D} {y : V} {u r : Value}
/-- a comprehension's store -/
theorem x_dictSet {Q : Unit → Shared → Prop} (hu : A₀.units + 5 < cLine) (I : L2.Inv X pins σ H s) (hA : RelH X.b A H) (e : A a = some (.dic kvs)) (ok : okK kvs k = true) (hl : kvs.length < SL) (rk : RelD X.K H k y) (ry : RelV y u) (rd : ReV X.K H d r)
    (h : ∀ s' H', L2.Inv X pins σ H' s' → RelH X.b (up A a (.dic (dput kvs k d))) H' → Grow H H' → Q () s') : wpAny (model X.prog X.w) A₀ (dictSet a u r) Q E s := by
  have all := okK_all ok
  obtain ⟨es0, eH, re0, g⟩ := hA _ _ e
  have gp := g.put (d := d) ok hl
  have fin : ∀ {h' : Heap} {t' : Nat} {es : List Ent}, Heap.SameBut a s.heap h' → DicAt X.w a es h' → EntL X.K H (dput kvs k d) es → Q () { s with heap := h', toks := t' } := fun {h' t' es} sb da el => by
    have gr : Grow H (upd H a (.ext (DicAt X.w a es))) := grow_ext eH
    refine h _ (upd H a (.ext (DicAt X.w a es))) (I.write (x := a) (e := a) (t' := t') (by rw [eH]; trivial) (.inl rfl) (fun b q hb z => (sb.2 b hb).trans z) (let ⟨o, _, q, _⟩ := da; ⟨o, q⟩) (dic_ok da)) ?_ gr
    exact hA.put (u := .dic _) gr ⟨es, upd_same, el.grow gr, gp⟩
  cases ht : isTup k with
  | true =>
    rw [ht] at all
    obtain ⟨xs, dd, t, hs, _⟩ := view_t I hA (.inl e) all
    obtain ⟨b, hb⟩ := isTup_ref ⟨y, rk, ry⟩ ht
    subst hb
    refine wpAny_dictSet_heap (knd := nestKind X.prog X.w) (hsz := by rw [t.length, SL_eq]; omega) (by show A₀.units + 4 < cLine; omega) ⟨ht, key_at I 4 _ _ _ (okK_key ok) rk ry⟩ dd fun h' dd' sb => ?_
    obtain ⟨es, el, ee⟩ := (t.put (k := k) (d := d) ⟨y, rk, ry⟩ rd).ents (w := X.w) (P := X.prog)
    obtain ⟨o, es2, ep, q1, q2, q3, q4, _⟩ := dd'
    exact fin sb ⟨o, ep, q1, q2, by rw [q3, ← ee, ← q4], hs⟩ el
  | false =>
    rw [ht] at all
    obtain ⟨xs, dd, t, hs, _⟩ := view_f I hA (.inl e) all
    have := kyD_rel (okK_key ok) ht rk
    subst this
    refine wpAny_dictSet_pairs (hsz := by rw [t.length, SL_eq]; omega) (kV_is ry) dd fun h' dd' sb => ?_
    have t' := t.put (okK_key ok) ht g.2.2.1 all rd
    obtain ⟨o, es2, ep, q1, q2, q3, q4, q5, _⟩ := dd'
    have memk : ∀ p ∈ dput kvs k d, p.1 = k ∨ ∃ q ∈ kvs, q.1 = p.1 := fun p m => by
      have z : p.1 ∈ (dput kvs k d).map (·.1) := List.mem_map.mpr ⟨p, m, rfl⟩
      rw [keys_dput] at z
      split at z
      · exact .inr (by obtain ⟨q, mq, e⟩ := List.mem_map.mp z; exact ⟨q, mq, e⟩)
      · rcases List.mem_append.mp z with z | z
        · exact .inr (by obtain ⟨q, mq, e⟩ := List.mem_map.mp z; exact ⟨q, mq, e⟩)
        · exact .inl (by simpa using z)
    obtain ⟨es, el, ee⟩ := FR.ents (w := X.w) (P := X.prog) gp.2.2.1 (fun p m => by
        rcases memk p m with e | ⟨q, mq, e⟩
        · rw [e]; exact ht
        · rw [← e]; exact all q mq) (fun p m => by
        rcases memk p m with e | ⟨q, mq, e⟩
        · rw [e]; exact chk_of rk
        · rw [← e]; exact re0.chk q mq) t' q5 (fun en m => q4 en (by simpa using m))
    refine fin sb ⟨o, ep, q1, q2, ?_, hs⟩ el
    rw [q3, ← ee]
end
/-- a store into the dict at D, and what is wanted of the heap behind -/
def rSto (B : Bs) (D : Addr) (y z : V) (H : Hp) (Nx : Hp → Prop) : Prop := ∃ A kvs k d, RelH B A H ∧ A D = some (.dic kvs) ∧ okK kvs k = true ∧ kvs.length < SL ∧ RelD B.K H k y ∧ RelD B.K H d z ∧ ∀ H', RelH B (up A D (.dic (dput kvs k d))) H' → Grow H H' → Nx H'
/-- raw: {k: v for .. in .. if ..} -/
def rDc (B : Bs) (wi : TI) (g : TG) (tt : TT) (tk tv : TE) (vs : List Nat) : TE := fun σ H Q => wi σ H fun J H1 => ∀ D, H1 D = none → ∃ W : Nat → Nat → Hp → Prop, (∃ m, W 0 m (upd H1 D (.ext (DicAt B.w D [])))) ∧ ∀ i m H, W i m H →
  (J.stop i H ∧ Q (.ref D) H) ∨ (J.go i H ∧ ∃ Nx : Hp → Prop, (∀ H', Nx H' → ∃ m', m' < m ∧ W (i + 1) m' H') ∧ ∀ x H', J.yld i H x H' → g x (wipe σ vs) H' fun σ2 H2 => wipe σ2 vs = wipe σ vs ∧ tt σ2 H2 fun b H3 =>
    if b = true then tk σ2 H3 fun y H4 => tv σ2 H4 fun z H5 => rSto B D y z H5 Nx else Nx H3)
section
variable {X : Cx} {kx vx tg iter : Expr} {ifs : List Expr} {scope : Scope} {own : List (Str × Nat)} {pos : Pos} {wi : TI} {g : TG} {tt : TT} {tk tv : TE}
theorem rdc_core {pins : List (Addr × Obj)} {s : Shared} {σ : L2.St} {H : Hp} {Q : VK} {pos' : Pos} {use : Option (Value → Sem Unit)} {Qf : Value → Shared → Prop} (hu : X.A.units + 64 < cLine) (hc : X.calm = true) (hN : X.N.Nodup) (I : L2.Inv X pins σ H s) (hi : PI X tg iter wi) (ok : BlkOk X.N X.env.scope scope own)
    (hg : ∀ s H C cl fp, PG (Blk X scope s H C cl fp) tg g) (ht : ∀ s H C cl fp, PTs (Blk X scope s H C cl fp) ifs tt) (hk : ∀ s H C cl fp, PE (Blk X scope s H C cl fp) kx tk) (hv : ∀ s H C cl fp, PE (Blk X scope s H C cl fp) vx tv)
    (hs : ∀ x, foldedSetIterable iter X.env x = pure x) (h : rDc X.b wi g tt tk tv (own.map (·.2)) σ H Q)
    (hRR : ∀ D C s' m H', L2.Inv X pins σ H' s' → Q (.ref D) H' → s'.heap.Ns C m → FpOk X pins H' C → compPost (model X.prog X.w) X.A X.xe use Qf (.ref D) C (.ok .next) s') :
    wpAny (model X.prog X.w) X.A (comprehension (.DictComp kx vx [⟨tg, iter, ifs, 0⟩] scope pos) scope X.env pos' (newObj (.type "dict") (.dict #[])) false (eval iter X.env) use) Qf X.xe s := by
  have clos : ∀ z ∈ scope.names, z.2 = .free → ∃ c, X.env.cells.lookup z.1 = some c := fun z mz e =>
    (ok.free z mz e).elim (fun t => I.ok.has _ (.inl t)) fun t => I.ok.has _ (.inr t)
  refine wpAny_comprehension_free (use := use) rfl hs (closure_ok clos) ok.kind (fun z mz e => (ok.uniq z mz).trans (by rw [e])) (thn (hi.run pins s σ H _ I h) fun seq sa ha => thn ha fun itv sb hb => ?_)
  obtain ⟨it, fp, tn, J, Hb, rfl, Ib, T, tb, fb, q⟩ := hb
  refine wpAny_newObj_type (newEnv_comp ?_)
  have nD : Hb sb.heap.objs.size = none := Ib.hok.fresh (Nat.le_refl _)
  obtain ⟨W, ⟨m0, w0⟩, turn⟩ := q _ nD
  -- the dict is laid
  have da : DicAt X.w sb.heap.objs.size [] (sb.heap.push { cls := .type "dict", data := .dict #[] }) := dicAt_empty Ib
  have Ic : L2.Inv X pins σ (upd Hb sb.heap.objs.size (.ext (DicAt X.w sb.heap.objs.size []))) { sb with heap := sb.heap.push { cls := .type "dict", data := .dict #[] } } :=
    Ib.laid (t' := sb.toks) (fun _ _ z => Heap.get?_push_of_some _ z) (Nat.le_refl _) (dic_ok da)
  have low : ∀ b ∈ fp, b < sb.heap.objs.size := fun b mb => let ⟨_, z, _⟩ := T.obj _ _ tb b mb; Heap.lt_size z
  have fc : ∀ b ∈ fp, FpOk X pins (upd Hb sb.heap.objs.size (.ext (DicAt X.w sb.heap.objs.size []))) b ∧ b < (sb.heap.push { cls := .type "dict", data := .dict #[] }).objs.size := fun b mb =>
    ⟨⟨by rw [upd_ne (Nat.ne_of_lt (low b mb))]; exact (fb b mb).1, (fb b mb).2⟩, by rw [Heap.size_push]; exact Nat.lt_succ_of_lt (low b mb)⟩
  have tc : tn 0 (sb.heap.push { cls := .type "dict", data := .dict #[] }) := T.keep _ _ _ tb fun b _ o z => Heap.get?_push_of_some _ z
  generalize hsc : ({ sb with heap := sb.heap.push { cls := .type "dict", data := .dict #[] } } : Shared) = sc at Ic ⊢
  have hc1 : sb.heap.push { cls := .type "dict", data := .dict #[] } = sc.heap := by rw [← hsc]
  rw [hc1] at fc tc
  generalize hHc : upd Hb sb.heap.objs.size (.ext (DicAt X.w sb.heap.objs.size [])) = Hc at Ic fc
  have w0 : W 0 m0 Hc := by rw [← hHc]; exact w0
  have Id := block_start Ic ok hN fc
  have pg : PG (X.blk sc Hc scope (compEnvC scope (cellsFrom (sc.heap.objs.size + 1) scope.names (cloFrom X.env.cells scope.names [])) sc.heap.objs.size X.env) fp) tg g := hg sc Hc sc.heap.objs.size (cellsFrom (sc.heap.objs.size + 1) scope.names (cloFrom X.env.cells scope.names [])) fp
  have pt : PTs (X.blk sc Hc scope (compEnvC scope (cellsFrom (sc.heap.objs.size + 1) scope.names (cloFrom X.env.cells scope.names [])) sc.heap.objs.size X.env) fp) ifs tt := ht sc Hc sc.heap.objs.size (cellsFrom (sc.heap.objs.size + 1) scope.names (cloFrom X.env.cells scope.names [])) fp
  have pk : PE (X.blk sc Hc scope (compEnvC scope (cellsFrom (sc.heap.objs.size + 1) scope.names (cloFrom X.env.cells scope.names [])) sc.heap.objs.size X.env) fp) kx tk := hk sc Hc sc.heap.objs.size (cellsFrom (sc.heap.objs.size + 1) scope.names (cloFrom X.env.cells scope.names [])) fp
  have pv : PE (X.blk sc Hc scope (compEnvC scope (cellsFrom (sc.heap.objs.size + 1) scope.names (cloFrom X.env.cells scope.names [])) sc.heap.objs.size X.env) fp) vx tv := hv sc Hc sc.heap.objs.size (cellsFrom (sc.heap.objs.size + 1) scope.names (cloFrom X.env.cells scope.names [])) fp
  show codeAny (model X.prog X.w) X.A (.compStart (.DictComp kx vx [⟨tg, iter, ifs, 0⟩] scope pos) 0 (.ref it) (.ref sb.heap.objs.size)
    (compEnvC scope (cellsFrom (sc.heap.objs.size + 1) scope.names (cloFrom X.env.cells scope.names [])) sc.heap.objs.size X.env)) _ _
  have fcn : ∀ b ∈ fp, Hc b = none := fun b mb => (fc b mb).1.1
  generalize hce : compEnvC scope (cellsFrom (sc.heap.objs.size + 1) scope.names (cloFrom X.env.cells scope.names [])) sc.heap.objs.size X.env = ce at Id pg pt pk pv ⊢
  have eL : ce.locals = sc.heap.objs.size := by rw [← hce] <;> rfl
  generalize hsd : ({ sc with heap := pushCells (sc.heap.push { cls := .type "dict", data := .dict #[] }) scope.names } : Shared) = sd at Id ⊢
  have td : tn 0 sd.heap := T.keep _ _ _ tc fun b _ o z => by rw [← hsd]; exact pushCells_keeps _ _ _ _ (Heap.get?_push_of_some _ z)
  have live : ∀ {σ' : L2.St} {H' : Hp} {s' : Shared}, L2.Inv (X.blk sc Hc scope ce fp) [] σ' H' s' → (∀ b ∈ fp, H' b = none) → ∀ b ∈ fp, FpOk (X.blk sc Hc scope ce fp) [] H' b := fun {σ' H' s'} Iq nq b mb =>
    ⟨nq b mb, (Iq.ok.exf b mb).1, Iq.ok.exfs b mb, .inl mb, fun x c z => (Iq.ok.exf b mb).2 x c z, fun p mp => absurd (show p ∈ ([] : List (Addr × Obj)) ++ [] from mp) (by simp)⟩
  have loop : codeAny (model X.prog X.w) X.A (.compLoop (.DictComp kx vx [⟨tg, iter, ifs, 0⟩] scope pos) 0 (.ref it) (.ref sb.heap.objs.size) ce) (compPost (model X.prog X.w) X.A X.xe use Qf (.ref sb.heap.objs.size) sc.heap.objs.size) sd := by
    refine compLoop_anyD (fun n s' => ∃ i H', L2.Inv (X.blk sc Hc scope ce fp) [] (wipe σ (own.map (·.2))) H' s' ∧ tn i s'.heap ∧ (∀ b ∈ fp, H' b = none) ∧ W i n H') ?_ m0 ⟨0, Hc, Id, td, fcn, w0⟩
    rintro n s1 ⟨i, H1, I1, t1, n1, w1⟩
    rcases turn i n H1 w1 with ⟨stop, fin⟩ | ⟨go, Nx, hNx, step⟩
    · refine thnF (T.done (X.blk sc Hc scope ce fp) rfl rfl rfl hc i [] s1 _ H1 (fun _ _ => False) I1 (live I1 n1) t1 stop) fun r s2 ⟨er, I2⟩ => ?_
      subst er
      have back : L2.Inv X pins σ H1 s2 := Ic.call' (ch := fp) I2.os I2.base I2.hok I2.bare fun b mb => let z := (fc b mb).1.2; ⟨z.2.2.1, z.1, z.2.2.2.1, z.2.2.2.2⟩
      have nC : H1 sc.heap.objs.size = none := by rw [← eL]; exact I2.free
      obtain ⟨m, hm, _⟩ := I2.loc
      have hm : s2.heap.Ns ce.locals m := hm
      rw [eL] at hm
      exact hRR _ _ _ m _ back fin hm (Ic.fpOk (Nat.le_refl _) nC)
    · refine thnF (T.item (X.blk sc Hc scope ce fp) rfl rfl rfl hc i [] s1 _ H1 (fun _ _ => False) I1 (live I1 n1) t1 go) fun r s2 ⟨u, er, h2⟩ => ?_
      subst er
      refine thnF h2 fun _ s3 ⟨x, H3, I3, r3, y3, t3, n3⟩ => ?_
      refine thnF (pg.run _ s3 _ H3 x u _ (I3.pinned (live I3 n3) (T.obj _ _ t3)) r3 (step x H3 y3)) fun _ s4 ⟨σ4, H4, I4, hw4, q4⟩ => ?_
      refine thnF (pt.run _ s4 σ4 H4 _ I4 q4) fun b s5 ⟨H5, I5, q5⟩ => ?_
      -- behind a turn
      have more : ∀ {s' : Shared} {H' : Hp}, L2.Inv (X.blk sc Hc scope ce fp) ([] ++ pinsAt fp s3.heap) σ4 H' s' → Nx H' → ∃ m, m < n ∧ ∃ i H', L2.Inv (X.blk sc Hc scope ce fp) [] (wipe σ (own.map (·.2))) H' s' ∧ tn i s'.heap ∧ (∀ b ∈ fp, H' b = none) ∧ W i m H' := fun {s' H'} Iq nx => by
        obtain ⟨m', lt, w'⟩ := hNx H' nx
        have held : ∀ b ∈ fp, ∀ o, s3.heap.get? b = some o → s'.heap.get? b = some o ∧ H' b = none := fun b mb o z => by
          have := Iq.pin (b, o) (List.mem_append_right _ (List.mem_append_right _ (mem_pinsAt mb z)))
          exact ⟨this.1, this.2.1⟩
        refine ⟨m', lt, i + 1, H', (Iq.unpinned (pins := [])).weak (by rw [← hw4, wipe_length]) (fun j v z => ?_), T.keep _ _ _ t3 fun b mb o z => (held b mb o z).1, fun b mb => ?_, w'⟩
        · rw [← hw4] at z
          exact (wipe_some z).1
        · obtain ⟨o, z, _⟩ := T.obj _ _ t3 b mb
          exact (held b mb o z).2
      cases b with
      | false =>
        have q5 : Nx H5 := by simpa using q5
        simp only [Bool.false_eq_true, if_false]
        exact more I5 q5
      | true =>
        simp only [if_true] at q5 ⊢
        refine thnF (pk.run _ s5 σ4 H5 _ I5 q5) fun ku s6 ⟨yk, H6, I6, r6, q6⟩ => ?_
        refine thnF (pv.run _ s6 σ4 H6 _ I6 q6) fun vu s7 ⟨yv, H7, I7, r7, A, kvs, k, d, hA, eD, okk, hl, rk, rd, fin⟩ => ?_
        exact x_dictSet (X := X.blk sc Hc scope ce fp) (by show X.A.units + 5 < cLine; omega) I7 hA eD okk hl rk r6 ⟨yv, rd, r7⟩ fun s8 H8 I8 hA8 g8 => more I8 (fin H8 hA8 g8)
  exact codeAny_compStart_dict loop (T.self X.A 0 _ _ _ td loop)
theorem pe_rdc (hu : X.A.units + 64 < cLine) (hc : X.calm = true) (hN : X.N.Nodup) (hi : PI X tg iter wi) (ok : BlkOk X.N X.env.scope scope own)
    (hg : ∀ s H C cl fp, PG (Blk X scope s H C cl fp) tg g) (ht : ∀ s H C cl fp, PTs (Blk X scope s H C cl fp) ifs tt) (hk : ∀ s H C cl fp, PE (Blk X scope s H C cl fp) kx tk) (hv : ∀ s H C cl fp, PE (Blk X scope s H C cl fp) vx tv)
    (hs : ∀ x, foldedSetIterable iter X.env x = pure x) : PE X (.DictComp kx vx [⟨tg, iter, ifs, 0⟩] scope pos) (rDc X.b wi g tt tk tv (own.map (·.2))) := by
  refine ⟨fun pins s σ H Q I h => ?_⟩
  rw [arm_eval_DictComp]
  refine rdc_core hu hc hN I hi ok hg ht hk hv hs h fun D C s' m H' I' q hn f => ⟨m, hn, fun h2 k2 => ?_⟩
  obtain ⟨f0, f1, f2, f3, f4, f5⟩ := f
  exact ⟨.ref D, H', I'.turned (t' := s'.toks) (fun b o nb z => (k2.2 b nb).trans z) f0 f1 f3 f4 f5, rfl, q⟩
/-- name = {..} on one line, the name a local -/
theorem ps_setRdc {i : Nat} {y : Str} {py spos : Pos} (hu : X.A.units + 64 < cLine) (hc : X.calm = true) (hN : X.N.Nodup) (hy : X.N[i]? = some y) (hyl : X.env.scope.names.lookup y = some .local)
    (hsw : swapsWith (.DictComp kx vx [⟨tg, iter, ifs, 0⟩] scope pos) (some (.Name y py)) spos.line X.env = pure true) (hi : PI X tg iter wi) (ok : BlkOk X.N X.env.scope scope own)
    (hg : ∀ s H C cl fp, PG (Blk X scope s H C cl fp) tg g) (ht : ∀ s H C cl fp, PTs (Blk X scope s H C cl fp) ifs tt) (hk : ∀ s H C cl fp, PE (Blk X scope s H C cl fp) kx tk) (hv : ∀ s H C cl fp, PE (Blk X scope s H C cl fp) vx tv)
    (hs : ∀ x, foldedSetIterable iter X.env x = pure x) : PS X (.Assign [.Name y py] (.DictComp kx vx [⟨tg, iter, ifs, 0⟩] scope pos) spos) (tAsg (rDc X.b wi g tt tk tv (own.map (·.2))) (gName i)) := by
  refine ⟨fun pins s σ H D I h => ?_⟩
  rw [exec_Assign_Name_used _ _ _ _ hsw]
  refine wpAny_bind (wpAny_standAt (wpAny_bind ?_))
  show wpAny _ X.A (do let _ ← comprehension (.DictComp kx vx [⟨tg, iter, ifs, 0⟩] scope pos) scope X.env (firstIterPos [⟨tg, iter, ifs, 0⟩] pos) (newObj (.type "dict") (.dict #[])) false (eval iter X.env) (some (assign (.Name y py) X.env))) _ _ s
  have h : rDc X.b wi g tt tk tv (own.map (·.2)) σ H (fun x H1 => gName i x σ H1 D.nx) := h
  refine wpAny_bind (thn (rdc_core (use := some (assign (.Name y py) X.env)) (Qf := fun _ s' => SP X pins D .next s') hu hc hN I hi ok hg ht hk hv hs h fun L C s' m H' I' q hn f => ?_) fun _ s' hq => wpAny_pure (wpAny_pure hq))
  show wpAny _ _ (assign (.Name y py) X.env (.ref L)) _ _ _
  refine wpAny_assign_Name (store_ok2 (v := V.ref L) I' hN hy (.inl hyl) rfl (fun s2 I2 ⟨a, sb, ha⟩ => ?_) (.inr hyl))
  obtain ⟨f0, f1, f2, f3, f4, f5⟩ := f
  have far : C ≠ a := ha.elim (fun z => by rw [z]; exact f1) fun z e => f4 y a z e.symm
  exact ⟨m, hn.sameBut sb far, fun h3 k3 => ⟨_, H', I2.turned (t' := s2.toks) (fun b o nb z => (k3.2 b nb).trans z) f0 f1 f3 f4 f5, q⟩⟩
end
/-- {k: v for g in wi if tt}: I by the turn, the new dict at p -/
def dDc (wi : DI) (g : DTG) (tt : DTT) (tk tv : DTE) (vs : List Nat) : DTE := fun σ A Q => wi σ A fun S A1 => ∃ xs : List D, ∀ p, A1 p = none → ∃ I : Nat → AH → Prop, I 0 (up A1 p (.dic [])) ∧ (∀ i A, i ≤ xs.length → I i A → S A xs) ∧
  (∀ i x A, xs[i]? = some x → I i A → g x (dwipe σ vs) A fun σ2 A2 => tt σ2 A2 fun b A3 => if b = true then tk σ2 A3 fun y A4 => tv σ2 A4 fun z A5 => ∃ kvs, A5 p = some (.dic kvs) ∧ okK kvs y = true ∧ kvs.length < SL ∧ I (i + 1) (up A5 p (.dic (dput kvs y z))) else I (i + 1) A3) ∧
  ∀ A, I xs.length A → Q (.ref p) A
section
variable {X : Cx} {kx vx tg iter : Expr} {ifs : List Expr} {scope : Scope} {own : List (Str × Nat)} {pos spos : Pos} {wi : DI} {g : DTG} {gv : TG} {tt : DTT} {tk tv : DTE}
theorem dc_t {B : Bs} (him : ∀ d v dσ A σ H R (Q : L2.St → Hp → Prop), RelH B A H → RelS B.K H dσ σ → RelD B.K H d v → g d dσ A R →
    (∀ dσ' A' σ' H', R dσ' A' → RelH B A' H' → RelS B.K H' dσ' σ' → Grow H H' → wipe σ' (own.map (·.2)) = wipe σ (own.map (·.2)) → Q σ' H') → gv v σ H Q) :
    ∀ σ H Q, lE B (dDc wi g tt tk tv (own.map (·.2))) σ H Q → rDc B (lI B wi) gv (lT B tt) (lE B tk) (lE B tv) (own.map (·.2)) σ H Q := by
  intro σ H Q ⟨dσ, A, R, hA, hS, q, k⟩
  refine ⟨dσ, A, _, hA, hS, q, fun S A1 J H1 ⟨xs, hxs⟩ hA1 g1 W p hp => ?_⟩
  obtain ⟨I, i0, still, turn, fin⟩ := hxs p (hA1.free hp)
  refine ⟨fun i m H2 => ∃ A, RelH B A H2 ∧ Grow H1 H2 ∧ I i A ∧ i ≤ xs.length ∧ m = xs.length - i, ⟨xs.length, _, hA1.add (u := .dic []) hp ⟨[], upd_same, rfl, GoodD.nil⟩, Grow.new hp, i0, Nat.zero_le _, rfl⟩, ?_⟩
  rintro i m H2 ⟨A2, hA2, g2, i2, hi2, rfl⟩
  have st := still i A2 hi2 i2
  by_cases hlt : i < xs.length
  · have hx : xs[i]? = some xs[i] := by simp [hlt]
    obtain ⟨go, yl⟩ := W.go A2 H2 i xs _ g2 hA2 st hx
    refine .inr ⟨go, fun H' => ∃ A, RelH B A H' ∧ Grow H1 H' ∧ I (i + 1) A, fun H' ⟨A', h1, h3, h4⟩ => ⟨xs.length - (i + 1), by omega, A', h1, h3, h4, hlt, rfl⟩, fun x H3 y => ?_⟩
    obtain ⟨hA3, g3, rx⟩ := yl x H3 y
    have hS3 := (hS.grow ((g1.trans g2).trans g3)).wipe (own.map (·.2))
    refine him _ x _ A2 _ H3 _ _ hA3 hS3 rx (turn i _ A2 hx i2) fun dσ4 A4 σ4 H4 q4 hA4 hS4 g4 w4 => ⟨?_, ?_⟩
    · refine w4.trans ?_
      apply List.ext_getElem?
      intro j
      rw [wipe_get, wipe_get, wipe_length]
      by_cases c : j ∈ own.map (·.2) ∧ j < σ.length
      · rw [if_pos c]
        simp [c.1, c.2]
      · rw [if_neg c]
    · refine ⟨dσ4, A4, _, hA4, hS4, q4, fun b A5 H5 q5 hA5 g5 => ?_⟩
      have g15 := ((g2.trans g3).trans g4).trans g5
      cases b with
      | false => exact iteF ⟨A5, hA5, g15, q5⟩
      | true =>
        refine iteT ⟨dσ4, A5, _, hA5, hS4.grow g5, q5, fun y A6 v H6 q6 hA6 ry g6 => ?_⟩
        refine ⟨dσ4, A6, _, hA6, (hS4.grow g5).grow g6, q6, fun z A7 u H7 ⟨kvs, e7, ok, hl, i7⟩ hA7 rz g7 => ?_⟩
        exact ⟨A7, kvs, y, z, hA7, e7, ok, hl, ry.grow g7, rz, fun H8 hA8 g8 => ⟨_, hA8, ((g15.trans g6).trans g7).trans g8, i7⟩⟩
  · have e : i = xs.length := by omega
    subst e
    exact .inl ⟨W.stop A2 H2 _ xs g2 hA2 st (Nat.le_refl _), k _ _ _ _ (fin A2 i2) hA2 rfl (g1.trans g2)⟩
theorem qe_dc (hu : X.A.units + 64 < cLine) (own : List (Str × Nat)) (hc : X.calm = true) (hN : X.N.Nodup) (hi : QI X tg iter wi) (ok : blkC X.N X.env.scope scope own = true)
    (hg : ∀ s H C cl fp, QG (Blk X scope s H C cl fp) tg g (own.map (·.2)) gv) (ht : ∀ s H C cl fp, QTs (Blk X scope s H C cl fp) ifs tt) (hk : ∀ s H C cl fp, QE (Blk X scope s H C cl fp) kx tk) (hv : ∀ s H C cl fp, QE (Blk X scope s H C cl fp) vx tv)
    (hs : ∀ x, foldedSetIterable iter X.env x = pure x := by intro _; rfl) : QE X (.DictComp kx vx [⟨tg, iter, ifs, 0⟩] scope pos) (dDc wi g tt tk tv (own.map (·.2))) := by
  refine ⟨fun pins s σ H Q I hq => ?_⟩
  exact (imE (pe_rdc (own := own) hu hc hN hi (blkOk_by ok) (fun s H C cl fp => (hg s H C cl fp).pg) ht hk hv hs) (dc_t (own := own) (hg s H 0 [] []).im)).run pins s σ H Q I hq
theorem qs_setDc (hu : X.A.units + 64 < cLine) (i : Nat) (own : List (Str × Nat)) {y : Str} {py : Pos} (hc : X.calm = true) (hN : X.N.Nodup) (hi : QI X tg iter wi) (ok : blkC X.N X.env.scope scope own = true)
    (hg : ∀ s H C cl fp, QG (Blk X scope s H C cl fp) tg g (own.map (·.2)) gv) (ht : ∀ s H C cl fp, QTs (Blk X scope s H C cl fp) ifs tt) (hk : ∀ s H C cl fp, QE (Blk X scope s H C cl fp) kx tk) (hv : ∀ s H C cl fp, QE (Blk X scope s H C cl fp) vx tv)
    (hsw : swapsWith (.DictComp kx vx [⟨tg, iter, ifs, 0⟩] scope pos) (some (.Name y py)) spos.line X.env = pure true)
    (hy : X.N[i]? = some y := by rfl) (hyl : X.env.scope.names.lookup y = some .local := by rfl) (hs : ∀ x, foldedSetIterable iter X.env x = pure x := by intro _; rfl) :
    QS X (.Assign [.Name y py] (.DictComp kx vx [⟨tg, iter, ifs, 0⟩] scope pos) spos) (dAsg (dDc wi g tt tk tv (own.map (·.2))) (dName i)) := by
  refine ⟨fun pins s σ H D I hq => ?_⟩
  refine (imS (ps_setRdc (tt := lT X.b tt) (tk := lE X.b tk) (tv := lE X.b tv) (own := own) hu hc hN hy hyl hsw hi (blkOk_by ok) (fun s H C cl fp => (hg s H C cl fp).pg) ht hk hv hs) ?_).run pins s σ H D I hq
  intro D σ H ⟨dσ, A, DD, hA, hS, q, k⟩
  refine dc_t (B := X.b) (own := own) (hg s H 0 [] []).im σ H _ ⟨dσ, A, _, hA, hS, q, fun d A' v H' q' hA' rd g' => ?_⟩
  exact k.nx _ _ _ _ q' hA' ((hS.grow g').set rd) g'
end
end DL
set_option Elab.async false
set_option linter.all false
set_option maxRecDepth 100000
set_option maxHeartbeats 1000000
/-! DL16: setdefault, list.index, names of the module, dict displays. -/
namespace DL
open PySem PySem.Spec PyProof.Rows L2
section
variable {X : Cx} {pins : List (Addr × Obj)} {σ : L2.St} {H : Hp} {s : Shared} {A₀ : Around} {E : Value → Shared → Prop} {A : AH} {a : Addr} {kvs : List (D × D)} {k d : D} {y : V} {u r : Value}
theorem x_setd {Q : Value → Shared → Prop} (hu : A₀.units + 6 < cLine) (I : L2.Inv X pins σ H s) (hA : RelH X.b A H) (e : A a = some (.dic kvs)) (ok : okK kvs k = true) (hl : kvs.length < SL) (rk : RelD X.K H k y) (ry : RelV y u) (rd : ReV X.K H d r)
    (h1 : ∀ d', dget kvs k = some d' → ∀ w' s', L2.Inv X pins σ H s' → ReV X.K H d' w' → Q w' s')
    (h2 : dget kvs k = none → ∀ s' H', L2.Inv X pins σ H' s' → RelH X.b (up A a (.dic (dput kvs k d))) H' → Grow H H' → Q r s') : wpAny (model X.prog X.w) A₀ (call (.builtin "dict.setdefault") [.ref a, u, r]) Q E s := by
  have all := okK_all ok
  obtain ⟨es0, eH, re0, g⟩ := hA _ _ e
  have gp := g.put (d := d) ok hl
  have fin : dget kvs k = none → ∀ {h' : Heap} {t' : Nat} {es : List Ent}, Heap.SameBut a s.heap h' → DicAt X.w a es h' → EntL X.K H (dput kvs k d) es → Q r { s with heap := h', toks := t' } := fun hn {h' t' es} sb da el => by
    have gr : Grow H (upd H a (.ext (DicAt X.w a es))) := grow_ext eH
    refine h2 hn _ (upd H a (.ext (DicAt X.w a es))) (I.write (x := a) (e := a) (t' := t') (by rw [eH]; trivial) (.inl rfl) (fun b q hb z => (sb.2 b hb).trans z) (let ⟨o, _, q, _⟩ := da; ⟨o, q⟩) (dic_ok da)) ?_ gr
    exact hA.put (u := .dic _) gr ⟨es, upd_same, el.grow gr, gp⟩
  cases ht : isTup k with
  | true =>
    rw [ht] at all
    obtain ⟨xs, dd, t, hs, _⟩ := view_t I hA (.inl e) all
    obtain ⟨b, hb⟩ := isTup_ref ⟨y, rk, ry⟩ ht
    subst hb
    refine call_setdefault_heap (knd := nestKind X.prog X.w) (hsz := by rw [t.length, SL_eq]; omega) (by show A₀.units + 1 + 4 < cLine; omega) ⟨ht, key_at I 4 _ _ _ (okK_key ok) rk ry⟩ hs dd (fun p hp => ?_) fun hn h' dd' sb => ?_
    · rcases t.get (k := k) with ⟨_, z⟩ | ⟨d', p', z1, z2, z3⟩
      · rw [hp] at z; cases z
      · rw [hp] at z2; cases z2
        exact h1 d' z1 _ _ (I.tok _) z3
    · have hn' : dget kvs k = none := by
        rcases t.get (k := k) with ⟨z, _⟩ | ⟨d', p', _, z2, _⟩
        · exact z
        · rw [hn] at z2; cases z2
      obtain ⟨es, el, ee⟩ := (t.put (k := k) (d := d) ⟨y, rk, ry⟩ rd).ents (w := X.w) (P := X.prog)
      obtain ⟨o, es2, ep, q1, q2, q3, q4, _⟩ := dd'
      exact fin hn' sb ⟨o, ep, q1, q2, by rw [q3, ← ee, ← q4], hs⟩ el
  | false =>
    rw [ht] at all
    obtain ⟨xs, dd, t, hs, _⟩ := view_f I hA (.inl e) all
    have := kyD_rel (okK_key ok) ht rk
    subst this
    refine call_meetsIn PySem.F.slot_dict_setdefault dd.typeIs PySem.F.entry_dict_setdefault (PySem.F.args_dict_setdefault_3 _ _ _) (kt_meets_setdefault (mixKind X.prog X.w) a (kV_is ry) hs r) ⟨xs, dd, by rw [t.length, SL_eq]; omega, fun v hv => ?_, fun hn h' dd' sb => ?_⟩
    · rcases t.get (okK_key ok) ht g.2.2.1 all with ⟨_, z⟩ | ⟨d', v', z1, z2, z3⟩
      · rw [hv] at z; cases z
      · rw [hv] at z2; cases z2
        exact h1 d' z1 _ _ (I.tok _) z3
    · have hn' : dget kvs k = none := by
        rcases t.get (okK_key ok) ht g.2.2.1 all with ⟨z, _⟩ | ⟨d', v', _, z2, _⟩
        · exact z
        · rw [hn] at z2; cases z2
      have t' := t.put (okK_key ok) ht g.2.2.1 all rd
      obtain ⟨o, es2, ep, q1, q2, q3, q4, q5, _⟩ := dd'
      have memk : ∀ p ∈ dput kvs k d, p.1 = k ∨ ∃ q ∈ kvs, q.1 = p.1 := fun p m => by
        have z : p.1 ∈ (dput kvs k d).map (·.1) := List.mem_map.mpr ⟨p, m, rfl⟩
        rw [keys_dput] at z
        split at z
        · exact .inr (by obtain ⟨q, mq, e⟩ := List.mem_map.mp z; exact ⟨q, mq, e⟩)
        · rcases List.mem_append.mp z with z | z
          · exact .inr (by obtain ⟨q, mq, e⟩ := List.mem_map.mp z; exact ⟨q, mq, e⟩)
          · exact .inl (by simpa using z)
      obtain ⟨es, el, ee⟩ := FR.ents (w := X.w) (P := X.prog) gp.2.2.1 (fun p m => by
          rcases memk p m with e | ⟨q, mq, e⟩
          · rw [e]; exact ht
          · rw [← e]; exact all q mq) (fun p m => by
          rcases memk p m with e | ⟨q, mq, e⟩
          · rw [e]; exact chk_of rk
          · rw [← e]; exact re0.chk q mq) t' q5 (fun en m => q4 en (by simpa using m))
      refine fin hn' sb ⟨o, ep, q1, q2, ?_, hs⟩ el
      rw [q3, ← ee]
end
def fSetd : D → DRn
  | .ref a, [k, d], A, Q => match A a with
    | some (.dic kvs) => okK kvs k = true ∧ kvs.length < SL ∧ match dget kvs k with
      | some d' => Q d' A
      | none => Q d (up A a (.dic (dput kvs k d)))
    | _ => False
  | _, _, _, _ => False
def fIndex : D → DRn := fun o xs A Q => match o, xs with
  | .ref a, [d] => match A a with
    | some (.lst ds) => plB d = true ∧ ds.all plB = true ∧ d ∈ ds ∧ Q (.int (ds.idxOf d : Nat)) A
    | _ => False
  | _, _ => False
theorem pl_get : ∀ {ds : List D} {j : Nat} {d : D}, ds[j]? = some d → (T.pys (plTs ds))[j]? = some (plT d).py
  | [], j, d, h => by simp at h
  | e :: ds, 0, d, h => by simp at h; subst h; rfl
  | e :: ds, j + 1, d, h => by
    simp only [plTs, T.pys, List.getElem?_cons_succ]
    exact pl_get (by simpa using h)
theorem pl_len : ∀ {ds : List D}, (T.pys (plTs ds)).length = ds.length
  | [] => rfl
  | e :: ds => by simp [plTs, T.pys, pl_len (ds := ds)]
theorem before_idx : ∀ {ds : List D} {d e : D} {m : Nat}, m < ds.idxOf d → ds[m]? = some e → e ≠ d
  | [], d, e, m, _, h => by simp at h
  | x :: ds, d, e, m, hm, h => by
    rw [List.idxOf_cons] at hm
    by_cases c : x = d
    · subst c
      simp at hm
    · have : (x == d) = false := by simpa using c
      rw [this] at hm
      cases m with
      | zero => simp at h; subst h; exact c
      | succ m => exact before_idx (by simpa using hm) (by simpa using h)
/-- a name of the module: its value -/
def GlobD (K : PySem.W.Frag) (mg : Str → Option Value) (x : Str) (d : D) : Prop := ∃ u v, mg x = some u ∧ RelV v u ∧ ∀ H, RelD K H d v
section
variable {X : Cx}
theorem m_setd (hu : X.A.units + 64 < cLine) : MtD X "dict.setdefault" fSetd := by
  intro pins s σ H a ds xs us A R I hA rl rv q
  unfold fSetd at q
  split at q
  · rename_i k d e2
    cases e2
    obtain ⟨y, z, rfl, ry, rz⟩ := rel2 rl
    obtain ⟨u, w, rfl, ru, rw'⟩ := rv.two
    split at q
    · rename_i kvs hq
      obtain ⟨ok, hl, q⟩ := q
      refine x_setd (by omega) I hA hq ok hl ry ru ⟨z, rz, rw'⟩ (fun d' hd w' s' I' ⟨v, r1, r2⟩ => ?_) fun hn s' H' I' hA' g => ?_
      · rw [hd] at q
        exact ⟨v, H, d', _, I', r2, q, hA, r1, Grow.refl⟩
      · rw [hn] at q
        exact ⟨z, H', d, _, I', rw', q, hA', rz.grow g, g⟩
    · exact q.elim
  · exact q.elim
theorem m_index (hu : X.A.units + 65 < cLine) : DMe X "list.index" fIndex := by
  refine ⟨_, mt_indexD hu, fun o x A R ov v H Q hA ro rx h k => ?_⟩
  unfold fIndex at h
  split at h
  · rename_i a d
    obtain ⟨v, rfl, rv⟩ := rel1 rx
    cases ro
    split at h
    · rename_i ds hq
      obtain ⟨h1, h2, h3, q⟩ := h
      have v1 := plB_V h1
      obtain ⟨p1, p2⟩ := pls_of h2
      obtain ⟨a1, a2⟩ := snap_shaped hA (snap_pl d v1.1) rv (by have := v1.2; omega)
      obtain ⟨b1, b2⟩ := snap_shaped hA (t := .lst (plTs ds)) (d := .ref a) (v := .ref a) (.inl ⟨a, ds, rfl, hq, snaps_pl _ p1⟩) rfl (by simp only [T.dep]; omega)
      have hlt := List.idxOf_lt_length_of_mem h3
      have hg : ds[ds.idxOf d]? = some d := by rw [List.getElem?_eq_getElem hlt, List.getElem_idxOf hlt]
      refine ⟨a, v, _, T.pys (plTs ds), ds.idxOf d, _, rfl, rfl, b1, a1, b2, a2, pl_get hg, ?_, fun m z' hm hz => ?_, k.at (d := .int _) q hA rfl⟩
      · rw [eqv_py, T.eqv_refl]
      · have ml : m < ds.length := Nat.lt_trans hm hlt
        have := pl_get (List.getElem?_eq_getElem ml)
        rw [this] at hz
        cases hz
        have pe : plB ds[m] = true := List.all_eq_true.mp h2 _ (List.getElem_mem ml)
        rw [eqv_py, eqv_pl _ _ (plB_V pe).1 v1.1]
        exact decide_eq_false (before_idx hm (List.getElem?_eq_getElem ml))
    · exact h.elim
  · exact h.elim
theorem qe_glob {x : Str} {d : D} {pos : Pos} (G : GlobD X.K X.mg x d) (hg : Gl X x := by rfl) (hdb : (x == ("__debug__" : Str)) = false := by decide) : QE X (.Name x pos) (dC d) := by
  obtain ⟨u, v, hm, rv, rd⟩ := G
  refine ⟨fun pins s σ H Q I ⟨dσ, A, R, hA, hS, q, k⟩ => ld_glob I hg hm ⟨v, H, I, rv, k.at (show R d A from q) hA (rd H)⟩ hdb⟩
end
end DL
namespace DL
open PySem PySem.Spec PyProof.Rows L2
/-- {k: v} -/
def dD1 (tk tv : DTE) : DTE := fun σ A Q => ∀ p, A p = none → tk σ (up A p (.dic [])) fun y A1 => tv σ A1 fun z A2 => A2 p = some (.dic []) ∧ isKey y = true ∧ Q (.ref p) (up A2 p (.dic [(y, z)]))
theorem qe_d1 {X : Cx} {ke ve : Expr} {pos : Pos} {tk tv : DTE} (hu : X.A.units + 64 < cLine) (hk : QE X ke tk) (hv : QE X ve tv) : QE X (.Dict [some ke] [ve] pos) (dD1 tk tv) := by
  refine ⟨fun pins s σ H Q I ⟨dσ, A, R, hA, hS, q, k⟩ => ?_⟩
  refine wpAny_Dict_any rfl rfl (by simp) (by show 1 ≤ 15; omega) ?_
  obtain ⟨I', hA', hn⟩ := x_new (a := s.heap.objs.size) (t' := s.toks) (kvs := []) I hA (Nat.le_refl _) (fun _ _ q => Heap.get?_push_of_some _ q) (dicAt_empty I) rfl GoodD.nil
  have q' := q _ (hA.free hn)
  have g0 : Grow H (upd H s.heap.objs.size (.ext (DicAt X.w s.heap.objs.size []))) := Grow.new hn
  refine evalPairs_cons (thn (hk.run pins _ σ _ _ I' ⟨dσ, _, _, hA', hS.grow g0, q', Kp.id⟩) fun ku s1 ⟨y, H1, I1, ry, dy, A1, q1, hA1, rdy, g1⟩ => ?_)
  refine wpAny_bind (thn (hv.run pins s1 σ H1 _ I1 ⟨dσ, A1, _, hA1, hS.grow (g0.trans g1), q1, Kp.id⟩) fun vu s2 ⟨z, H2, I2, rz, dz, A2, ⟨e2, kk, q2⟩, hA2, rdz, g2⟩ => ?_)
  refine wpAny_bind (wpAny_standAt (wpAny_pure ?_))
  refine evalPairs_nil ?_
  unfold storeAll
  rw [List.forIn_cons]
  refine wpAny_bind (wpAny_bind (x_dictSet (by omega) I2 hA2 e2 (k := dy) (d := dz) (by unfold okK; rw [kk]; rfl) (by decide) (rdy.grow g2) ry ⟨z, rdz, rz⟩ fun s3 H3 I3 hA3 g3 => wpAny_pure ?_))
  dsimp only
  rw [List.forIn_nil]
  refine wpAny_pure ⟨.ref s.heap.objs.size, H3, I3, rfl, ?_⟩
  exact k _ _ _ _ q2 hA3 rfl (((g0.trans g1).trans g2).trans g3)
end DL
namespace DL
open PySem PySem.Spec PyProof.Rows L2
section
variable {X : Cx} {o e : Expr} {es : List Expr} {to : DTE} {t : DTA} {apos cpos : Pos}
theorem qe_setd (hu : X.A.units + 64 < cLine) (ho : QE X o to) (ha : QA X (e :: es) t)
    (hbase : attributeBase o "setdefault" X.env (eval o X.env) = eval o X.env := by rfl)
    (hfew : ((backTo cpos (starEach (e :: es) X.env)).all (fun x => !x.1) && (backToKw cpos (keywordEach [] X.env)).all (fun x => x.1.isSome)
      && decide ((e :: es).length + ([] : List Keyword).length + (if ([] : List Keyword).isEmpty then 0 else 1) < 30)) = true := by rfl)
    (hline : (apos.endLine == cpos.line) = true := by rfl) (hs : starEach (e :: es) X.env = (false, eval e X.env) :: starEach es X.env := by rfl) (hplain : (backTo cpos (starEach es X.env)).any (·.1) = false := by rfl) :
    QE X (.Call (.Attribute o "setdefault" apos) (e :: es) [] cpos) (dBm isDc fSetd to t) := qe_dm PySem.F.slot_dict_setdefault PySem.F.type_dict_setdefault (m_setd hu) ho ha hbase hfew hline hs hplain
theorem qe_index (hu : X.A.units + 65 < cLine) (ho : QE X o to) (ha : QA X [e] t)
    (hfew : ((backTo cpos (starEach [e] X.env)).all (fun x => !x.1) && (backToKw cpos (keywordEach [] X.env)).all (fun x => x.1.isSome)
      && decide (([e] : List Expr).length + ([] : List Keyword).length + (if ([] : List Keyword).isEmpty then 0 else 1) < 30)) = true := by rfl)
    (hbase : attributeBase o "index" X.env (eval o X.env) = eval o X.env := by rfl) (hline : (apos.endLine == cpos.line) = true := by rfl) (hs : starEach [e] X.env = (false, eval e X.env) :: starEach [] X.env := by rfl) :
    QE X (.Call (.Attribute o "index" apos) [e] [] cpos) (dBm isL fIndex to t) := qe_bm tyL PySem.F.plainAttrs_list PySem.F.slot_list_index PySem.F.type_list_index (m_index hu) ho ha hbase hfew hline hs (by rfl)
end
end DL
set_option Elab.async false
set_option linter.all false
set_option maxRecDepth 100000
set_option maxHeartbeats 1000000
/-! DL17: the values of a dict that is then left alone; list(d), len(d). -/
namespace DL
open PySem PySem.Spec PyProof.Rows L2
def ItVl (d : Addr) (od : Obj) (eA : Array DictEntry) : It :=
  ⟨fun i H => (∃ u, H d = some (.frz od u)) ∧ ∃ en z, eA[i]? = some en ∧ RelV z en.val,
   fun i H x H' => H' = H ∧ ∃ en, eA[i]? = some en ∧ RelV x en.val,
   fun i H => (∃ u, H d = some (.frz od u)) ∧ eA.size ≤ i⟩
theorem turn_Vl {P : Program} {w : World} {K : PySem.W.Frag} {tg : Expr} {d : Addr} {o : Obj} {eA : Array DictEntry} {ep : Nat} {vs : List (Key × Value)} (it : Addr) (hx : o.ExactDict) (hod : o.data = .dict eA ep)
    (hk : KeysOf (mixKind P w) eA) (hp : Pairs (mixKind P w) eA.toList vs) (hn : (vs.map (·.1)).Nodup) : Turn P w K tg (ItVl d o eA) [it] it (fun i h => h.IsValIter it d i eA.size ep) where
  mem := by simp
  obj := fun i h st b hb => by
    have e : b = it := by simpa using hb
    subst e
    obtain ⟨oi, e, c, dd⟩ := st
    exact ⟨oi, e, fun v z => by rw [dd] at z; cases z⟩
  keep := fun i h h' st k => st.at fun oi e => k it (by simp) oi e
  item := by
    intro X hP hw hK hc i pins s σ H E I hf st hg
    subst hP hw hK
    obtain ⟨⟨u, hd⟩, en, z, he, hz⟩ := hg
    obtain ⟨f0, f1, f2, f3, f4, f5⟩ := hf it (by simp)
    have hgd : s.heap.get? d = some o := (I.hok d _ hd).1
    have hl : eA.size = vs.length := by rw [← hp.length, Array.length_toList]
    have lt : i < vs.length := by rw [← hl]; exact (Array.getElem?_eq_some_iff.mp he).1
    obtain ⟨⟨k, v⟩, hv⟩ : ∃ p, vs[i]? = some p := ⟨vs[i], List.getElem?_eq_getElem lt⟩
    obtain ⟨_, ev⟩ := hp.get? (by rw [Array.getElem?_toList]; exact he) hv
    have hm : s.heap.DictAt (mixKind X.prog X.w) d vs ep := ⟨o, eA, hgd, hx, hod, hk, hp, hn⟩
    rw [hl] at st
    refine wpAny_pyNext_values_item st hm hv fun h' st' sb => ?_
    have I1 : L2.Inv X pins σ H { s with heap := h' } := I.turned (t' := s.toks) (fun b ob hb e => (sb.2 b hb).trans e) f0 f1 f3 f4 f5
    obtain ⟨oi, e, c, dd⟩ := id st'
    rw [← ev]
    exact ⟨_, rfl, go_of (s := { s with heap := h' }) e c dd (by decide) ⟨z, H, I1, hz, ⟨rfl, en, he, hz⟩, by rw [hl]; exact st', fun b hb => (hf b hb).1⟩⟩
  done := by
    intro X hP hw hK hc i pins s σ H E I hf st hg
    subst hP hw hK
    obtain ⟨⟨u, hd⟩, hi⟩ := hg
    obtain ⟨f0, f1, f2, f3, f4, f5⟩ := hf it (by simp)
    have hgd : s.heap.get? d = some o := (I.hok d _ hd).1
    have hl : eA.size = vs.length := by rw [← hp.length, Array.length_toList]
    have hm : s.heap.DictAt (mixKind X.prog X.w) d vs ep := ⟨o, eA, hgd, hx, hod, hk, hp, hn⟩
    rw [hl] at st
    exact wpAny_pyNext_values_end (I.ok.hd hc) st hm (List.getElem?_eq_none (by omega)) fun h' eb => ⟨rfl, I.turned (t' := s.toks) (fun b ob hb e => eb b ob hb e) f0 f1 f3 f4 f5⟩
  self := fun A i s Q E st h => wpAny_pyIter_valiter st h
theorem wlk_vals {B : Bs} {H0 : Hp} {a : Addr} {od : Obj} {eA : Array DictEntry} {ep : Nat} (hd : od.data = .dict eA ep) : Wlk B H0 (ItVl a od eA) (fun A xs => ∃ kvs, A a = some (.fdic od kvs) ∧ xs = kvs.map (·.2)) where
  stop := fun A H i xs g hA ⟨kvs, e, ex⟩ hl => by
    subst ex
    obtain ⟨es, e1, r, _, ep', h2⟩ := hA _ _ e
    obtain ⟨h3, _⟩ := dict_ep hd h2
    refine ⟨⟨_, e1⟩, ?_⟩
    rw [← h3]
    simpa [r.length] using hl
  go := fun A H i xs d g hA ⟨kvs, e, ex⟩ hx => by
    subst ex
    obtain ⟨es, e1, r, _, ep', h2⟩ := hA _ _ e
    obtain ⟨h3, _⟩ := dict_ep hd h2
    subst h3
    rw [List.getElem?_map] at hx
    cases hp : kvs[i]? with
    | none => rw [hp] at hx; cases hx
    | some p =>
      rw [hp] at hx
      simp at hx
      subst hx
      obtain ⟨en, e3, _, ⟨v, rv, ru⟩⟩ := r.get hp
      have e4 : (es.map fun e => (⟨hsh B.w e.1, e.2.1, e.2.2⟩ : DictEntry)).toArray[i]? = some ⟨hsh B.w en.1, en.2.1, en.2.2⟩ := by simp [e3]
      refine ⟨⟨⟨_, e1⟩, _, v, e4, ru⟩, fun x H' ⟨q1, en', q2, q3⟩ => ?_⟩
      subst q1
      rw [e4] at q2
      cases q2
      have := q3.inj ru
      subst this
      exact ⟨hA, Grow.refl, rv⟩
/-- d.values(), the dict (flat keys) not written any more -/
def diV (t : DTE) : DI := fun σ A P => t σ A fun x A1 => match x with
  | .ref a => ∃ kvs, A1 a = some (.dic kvs) ∧ (∀ p ∈ kvs, isTup p.1 = false) ∧ ∀ od, P (fun A xs => ∃ kvs, A a = some (.fdic od kvs) ∧ xs = kvs.map (·.2)) (up A1 a (.fdic od kvs))
  | _ => False
section
variable {X : Cx} {tg e : Expr} {te : DTE} {apos cpos : Pos}
theorem qi_vals (h : QE X e te) (hbase : attributeBase e "values" X.env (eval e X.env) = eval e X.env := by rfl) (hline : (apos.endLine == cpos.line) = true := by rfl) : QI X tg (.Call (.Attribute e "values" apos) [] [] cpos) (diV te) := by
  refine ⟨fun pins s σ H R I ⟨dσ, A, P, hA, hS, q, k⟩ => ?_⟩
  refine wpAny_Call_method (T := "dict") (id := "dict.values") hbase rfl hline PySem.F.plainAttrs_dict PySem.F.slot_dict_values PySem.F.type_dict_values (thn (h.run pins s σ H _ I ⟨dσ, A, _, hA, hS, q, Kp.id⟩) fun u s1 ⟨x, H1, I1, rx, d, A1, q1, hA1, rd, g1⟩ => ?_)
  cases d with
  | ref a =>
    cases rd; cases rx
    obtain ⟨kvs, e1, ht, q1⟩ := q1
    obtain ⟨es, od, eH, I2, hA2, g2⟩ := lock_in I1 hA1 e1
    obtain ⟨xs, ⟨o, eA, ep, d1, d2, d3, d4, d5, d6⟩, t, lo, gd⟩ := view_f I1 hA1 (.inl e1) ht
    have hgd : s1.heap.get? a = some od := (I2.hok a _ upd_same).1
    rw [hgd] at d1
    cases d1
    have dd : s1.heap.DictOf (mixKind X.prog X.w) a xs := ⟨od, eA, ep, hgd, d2, d3, d4, d5, d6⟩
    refine ⟨dd.typeIs, dd.mapOf.noDict, ?_⟩
    have I3 : L2.Inv X pins σ (upd H1 a (.frz od (.ext (DicAt X.w a es)))) { s1 with heap := s1.heap.push { cls := .type "dict_values", data := .fields #[.ref a] } } := I2.kept (t' := s1.toks) fun b ob q => Heap.get?_push_of_some _ q
    have da : s1.heap.DictAt (mixKind X.prog X.w) a xs ep := ⟨od, eA, hgd, d2, d3, d4, d5, d6⟩
    have hl : eA.size = xs.length := by rw [← d5.length, Array.length_toList]
    have fin : wpAny (model X.prog X.w) X.A (pyIter (.ref s1.heap.objs.size)) (PIE X pins σ tg R) X.xe { s1 with heap := s1.heap.push { cls := .type "dict_values", data := .fields #[.ref a] } } := by
      refine wpAny_pyIter_values (d := a) (knd := mixKind X.prog X.w) ⟨_, Heap.get?_push_size _ rfl, rfl, rfl⟩ (da.push _) (pi_one (tk := s1.toks) I3 _ (turn_Vl _ d2 d3 d4 d5 d6) ⟨_, Heap.get?_push_size _ rfl, rfl, ?_⟩ (k _ _ _ _ (q1 od) hA2 (g1.trans g2) (wlk_vals d3)))
      rw [hl] <;> rfl
    show wpAny _ _ (callWith cpos (.builtin "dict.values") [.ref a] [] []) _ X.xe s1
    exact method_meetsIn PySem.F.slot_dict_values PySem.F.entry_dict_values rfl (PySem.evalArgs_none ⟨rfl, dd.typeIs, PySem.F.args_dict_values_1 _, _, meets_dict_values (mixKind X.prog X.w) a lo, ⟨xs, dd⟩, fin⟩)
  | _ => exact q1.elim
end
end DL

namespace DL
open PySem PySem.Spec PyProof.Rows L2
/-- len(d), all keys of one kind -/
def nLen : DRn
  | [.ref a], A, Q => match dicGetD A a with
    | some kvs => (∃ b, ∀ p ∈ kvs, isTup p.1 = b) ∧ Q (.int kvs.length) A
    | none => False
  | _, _, _ => False
/-- list(d) -/
def nList : DRn
  | [.ref a], A, Q => match dicGetD A a with
    | some kvs => ∀ p, A p = none → Q (.ref p) (up A p (.lst (kvs.map (·.1))))
    | none => False
  | _, _, _ => False
section
variable {X : Cx}
theorem c_nlen : DCa X (.builtin "len") nLen := DCa.raw fun pins s σ H xs us Q I rv ⟨ds, A, R, hA, rl, q, k⟩ => by
  unfold nLen at q
  split at q
  · rename_i a
    obtain ⟨v, rfl, rfl⟩ := rel1 rl
    obtain ⟨u, rfl, ru⟩ := vals1 rv
    cases ru
    split at q
    · rename_i kvs hq
      obtain ⟨⟨b, hb⟩, q⟩ := q
      have fin : ∀ (t : Nat) (tk : Nat), EP X pins σ Q (.int (kvs.length : Int) t) { s with toks := tk } := fun t tk => ⟨.int _, H, I.tok _, ⟨t, rfl⟩, k.at (d := .int _) q hA rfl⟩
      have big : ∀ n : Nat, n ≤ sizeLine → (n : Int) < 2 ^ 63 := fun n h => by rw [SL_eq] at h; have : n ≤ 16777216 := h; omega
      cases b with
      | true =>
        obtain ⟨xs, dd, t, hs, g⟩ := view_t I hA (dicGetD_of hq) hb
        exact call_len_dictH hs dd (by rw [t.length]; exact big _ g.2.1) (by rw [t.length]; exact fin _ _)
      | false =>
        obtain ⟨xs, dd, t, hs, g⟩ := view_f I hA (dicGetD_of hq) hb
        exact call_len_dict hs dd (by rw [t.length]; exact big _ g.2.1) (by rw [t.length]; exact fin _ _)
    · exact q.elim
  · exact q.elim
theorem c_nlist (hc : X.calm = true) : DCa X (.type "list") nList := DCa.raw fun pins s σ H xs us Q I rv ⟨ds, A, R, hA, rl, q, k⟩ => by
  unfold nList at q
  split at q
  · rename_i a
    obtain ⟨v, rfl, rfl⟩ := rel1 rl
    obtain ⟨u, rfl, ru⟩ := vals1 rv
    cases ru
    split at q
    · rename_i kvs hq
      obtain ⟨es, ⟨o, ep, h1, h2, h3, h4⟩, r, g⟩ := view_at I hA (dicGetD_of hq)
      obtain ⟨vs, v1, v2⟩ := ents_rel r
      refine PySem.W.kdl_call (kdl_obj h4 h2 h3) (I.ok.hd hc) h1 (by have := g.2.1; simp [r.length]; exact this) fun h' tk acc c' hk hD hi => ?_
      have ea : acc.toList = es.map fun e => e.2.1 := by
        have l1 : acc.size = es.length := by rw [hi.1]; simp
        refine List.ext_getElem (by simp [l1]) fun j j1 j2 => ?_
        have l2 : j < acc.size := by simpa using j1
        obtain ⟨en, e1, e2⟩ := hi.2 j acc[j] (by simp [l2])
        have l3 : j < es.length := by simpa using j2
        have : en = ⟨hsh X.w es[j].1, es[j].2.1, es[j].2.2⟩ := by
          have z : (es.map fun e => (⟨hsh X.w e.1, e.2.1, e.2.2⟩ : DictEntry)).toArray[j]? = some ⟨hsh X.w es[j].1, es[j].2.1, es[j].2.2⟩ := by simp [l3]
          rw [z] at e1
          exact (Option.some.inj e1).symm
        rw [Array.getElem_toList, e2, this, List.getElem_map]
      have hn := I.hok.fresh (Nat.le_refl s.heap.objs.size)
      have hz : vs.length ≤ sizeLine := by rw [← v1.length, List.length_map]; exact g.2.1
      exact ⟨.ref s.heap.objs.size, upd H s.heap.objs.size (.lst vs), I.laid (t' := tk) hk (Nat.le_refl _)
        (show ObjOk X.prog X.w _ _ _ (.lst vs) from ⟨hz, acc.toList, c', by rw [ea]; exact v2, by rw [Array.toArray_toList]; exact hD⟩), rfl,
        k _ _ _ _ (q _ (hA.free hn)) (hA.add (u := .lst _) hn ⟨_, upd_same, v1.grow (Grow.new hn)⟩) rfl (Grow.new hn)⟩
    · exact q.elim
  · exact q.elim
end
end DL
set_option Elab.async false
set_option linter.all false
set_option maxRecDepth 100000
set_option maxHeartbeats 1000000
/-! DL18: operators in place; a tuple of names in a comprehension. -/
namespace DL
open PySem PySem.Spec PyProof.Rows L2
def fIad : DR2
  | .int i, .int j, A, Q => Q (.int (i + j)) A
  | .str s, .str t, A, Q => s.length + t.length ≤ SL ∧ Q (.str (s ++ t)) A
  | _, _, _, _ => False
section
variable {X : Cx} {pos : Pos} {vs : List Nat}
theorem i_add : DOp X (inplaceOp .Add) fIad := by
  refine ⟨_, OpR.or iop_add iop_add_str, fun x y A R v u H Q hA rx ry h k => ?_⟩
  unfold fIad at h
  split at h
  · cases rx; cases ry
    exact .inl ⟨_, _, rfl, rfl, k.at h hA rfl⟩
  · obtain ⟨rfl, cx⟩ := rx
    obtain ⟨rfl, cy⟩ := ry
    refine .inr ⟨_, _, rfl, rfl, ?_, ?_⟩
    · rw [SL_eq]; exact h.1
    · rw [toArray_app]
      exact k.at h.2 hA ⟨rfl, fun c m => (List.mem_append.mp m).elim (cx c) (cy c)⟩
  · exact h.elim
theorem i_sub : DOp X (inplaceOp .Sub) fSub := d_i2 iop_sub
theorem qg_tupB {scope : Scope} {s : Shared} {H : Hp} {C : Addr} {cl : List (Str × Addr)} {fp : List Addr} {es : List Expr} {k : Nat} {gs : DTGs} {gvs : TGs} {n : Nat} (hc : X.calm = true) (h : QGs (Blk X scope s H C cl fp) es gs vs gvs) (hlen : ∀ l σ A Q, gs l σ A Q → l.length = n)
    (hn : (assignEach es (Blk X scope s H C cl fp).env).length = n := by rfl) (hst : (assignEach es (Blk X scope s H C cl fp).env).findIdx? (·.1) = none := by rfl) : QG (Blk X scope s H C cl fp) (.Tuple es k pos) (dgTup gs) vs (gTup X.K n gvs) :=
  qg_tup (X := Blk X scope s H C cl fp) hc h hlen hn hst
end
end DL
set_option Elab.async false
set_option linter.all false
set_option maxRecDepth 100000
set_option maxHeartbeats 1000000
/-! DL19: the order of lists of texts. -/
namespace DL
open PySem PySem.Spec PyProof.Rows L2
def isStr : D → Bool
  | .str _ => true
  | _ => false
theorem firstLt_lexO {n : Nat} {e r : Nat → Bool} {z : Bool} : ∀ (l m : List D) (i : Nat), z = decide (l.length < m.length) → (∀ j a b, l[j]? = some a → m[j]? = some b → e (i + j) = decide (a = b) ∧ r (i + j) = opD .Lt n a b) →
    SeqAt.firstLt e r z (List.range' i (min l.length m.length)) = lexO .Lt n l m
  | [], [], i, hz, _ => by rw [hz]; rfl
  | [], b :: m, i, hz, _ => by rw [hz, List.length_nil, Nat.zero_min]; rfl
  | a :: l, [], i, hz, _ => by rw [hz, List.length_nil, Nat.min_zero]; rfl
  | a :: l, b :: m, i, hz, h => by
    rw [List.length_cons, List.length_cons, Nat.succ_min_succ, List.range'_succ]
    obtain ⟨h1, h2⟩ := h 0 a b rfl rfl
    rw [Nat.add_zero] at h1 h2
    unfold lexO SeqAt.firstLt
    by_cases c : a = b
    · rw [h1, decide_eq_true c, if_pos c]
      have := firstLt_lexO (z := z) (e := e) (r := r) l m (i + 1) (by rw [hz, List.length_cons, List.length_cons]; simp) fun j a' b' q1 q2 => by
        rw [show i + 1 + j = i + (j + 1) by omega]
        exact h (j + 1) a' b' (by simpa using q1) (by simpa using q2)
      simpa using this
    · rw [h1, decide_eq_false c, if_neg c, h2]
      simp
def fLtL : DR2
  | .ref a, .ref b, A, Q => match A a, A b with
    | some (.lst xs), some (.lst ys) => xs.all isStr = true ∧ ys.all isStr = true ∧ Q (.bl (ltD 4 (.tup xs) (.tup ys))) A
    | _, _ => False
  | _, _, _, _ => False
/-- <, of lists of texts too -/
def mLtR : DR2 := fun x y A Q => match x, y with
  | .ref a, .ref b => fLtL (.ref a) (.ref b) A Q
  | x, y => mLt .Lt x y A Q
section
variable {X : Cx}
theorem d_ltL (hu : X.A.units + 64 < cLine) : DOp X (compareOp .Lt) fLtL := DOp.raw fun pins s σ H x y v u Q I rx ry ⟨dx, dy, A, R, hA, r1, r2, q, k⟩ => by
  unfold fLtL at q
  split at q
  · rename_i a b
    split at q
    · rename_i xs ys ha hb
      obtain ⟨k1, k2, q⟩ := q
      cases r1; cases r2; cases rx; cases ry
      obtain ⟨vs, e1, l1⟩ := hA _ _ ha
      obtain ⟨ws, e2, l2⟩ := hA _ _ hb
      obtain ⟨_, us, c1, v1, o1⟩ := I.hok a _ e1
      obtain ⟨_, ts, c2, v2, o2⟩ := I.hok b _ e2
      obtain ⟨n1, g1⟩ := l1.at v1
      obtain ⟨n2, g2⟩ := l2.at v2
      have kx : ∀ d ∈ xs, isKeyN 3 d = true := fun d m => by
        have := List.all_eq_true.mp k1 d m
        cases d <;> first | rfl | cases this
      have ky : ∀ d ∈ ys, isKeyN 3 d = true := fun d m => by
        have := List.all_eq_true.mp k2 d m
        cases d <;> first | rfl | cases this
      have at1 : ∀ j (h1 : j < us.toArray.size) (h2 : j < ts.toArray.size), ∃ p q, xs[j]? = some p ∧ ys[j]? = some q ∧ isStr p = true ∧ isStr q = true ∧ KeyAt s.heap 3 p us.toArray[j] ∧ KeyAt s.heap 3 q ts.toArray[j] := fun j h1 h2 => by
        have h1' : j < us.length := by simpa using h1
        have h2' : j < ts.length := by simpa using h2
        have i1 : j < xs.length := by omega
        have i2 : j < ys.length := by omega
        obtain ⟨x, r1, r2⟩ := g1 j xs[j] us[j] (List.getElem?_eq_getElem i1) (List.getElem?_eq_getElem h1')
        obtain ⟨y, r3, r4⟩ := g2 j ys[j] ts[j] (List.getElem?_eq_getElem i2) (List.getElem?_eq_getElem h2')
        refine ⟨xs[j], ys[j], List.getElem?_eq_getElem i1, List.getElem?_eq_getElem i2, List.all_eq_true.mp k1 _ (List.getElem_mem i1), List.all_eq_true.mp k2 _ (List.getElem_mem i2), ?_, ?_⟩
        · simpa using key_at I 3 _ _ _ (kx _ (List.getElem_mem i1)) r1 r2
        · simpa using key_at I 3 _ _ _ (ky _ (List.getElem_mem i2)) r3 r4
      have hE : ∀ j (h1 : j < us.toArray.size) (h2 : j < ts.toArray.size), SeqAt.EqAt X.A.in1 s us.toArray[j] ts.toArray[j] (decide (xs.getD j .non = ys.getD j .non)) := fun j h1 h2 prog w E Q h => by
        obtain ⟨p, q, q1, q2, _, _, q3, q4⟩ := at1 j h1 h2
        refine eq_key (n := 3) (m := 3) (by show X.A.units + 1 + 3 < cLine; omega) q3 q4 ?_
        simpa [List.getD, q1, q2] using h
      have hR : ∀ j (h1 : j < us.toArray.size) (h2 : j < ts.toArray.size), (decide (xs.getD j .non = ys.getD j .non)) = false → SeqAt.RcLt X.A.in1 s us.toArray[j] ts.toArray[j] (opD .Lt 3 (xs.getD j .non) (ys.getD j .non)) := fun j h1 h2 hf => by
        obtain ⟨p, q, q1, q2, s1, s2, q3, q4⟩ := at1 j h1 h2
        have f1 : xs.getD j .non = p := by simp [List.getD, q1]
        have f2 : ys.getD j .non = q := by simp [List.getD, q2]
        rw [f1, f2]
        have := rc_at (op := .Lt) (.inl rfl) 3 X.A.in1 s p q _ _ (by show X.A.units + 1 + 3 < cLine; omega) q3 q4 (by
          cases p <;> cases s1
          cases q <;> cases s2
          rfl)
        exact this
      have z := SeqAt.RcLt.lists (A := X.A) (s := s) ⟨_, o1, rfl, c1, rfl⟩ ⟨_, o2, rfl, c2, rfl⟩ (by omega) hE hR
      have e : SeqAt.firstLt (fun j => decide (xs.getD j .non = ys.getD j .non)) (fun j => opD .Lt 3 (xs.getD j .non) (ys.getD j .non)) (decide (us.toArray.size < ts.toArray.size)) (List.range (min us.toArray.size ts.toArray.size)) = ltD 4 (.tup xs) (.tup ys) := by
        have s1 : us.toArray.size = xs.length := by simpa using n1
        have s2 : ts.toArray.size = ys.length := by simpa using n2
        rw [s1, s2, List.range_eq_range', firstLt_lexO (n := 3) xs ys 0 rfl fun j a b q1 q2 => by
          rw [Nat.zero_add]
          simp [List.getD, q1, q2]]
        exact lexO_eq (.inl rfl) (List.all_eq_true.mpr kx) (List.all_eq_true.mpr ky)
      rw [e] at z
      exact z X.prog X.w X.xe (EP X pins σ Q) ⟨.bl _, H, I, rfl, k.at q hA rfl⟩
    · exact q.elim
  · exact q.elim
theorem o_ltR (hu : X.A.units + 64 < cLine) : DOp X (compareOp .Lt) mLtR := (d_ltL hu).or (o_lt hu) fun x y A R q => by
  unfold mLtR at q
  split at q
  · exact .inl q
  · exact .inr q
end
end DL
set_option Elab.async false
set_option linter.all false
set_option maxRecDepth 100000
set_option maxHeartbeats 1000000
/-! DL20: str of an int, a truth value, a text; targets within targets. -/
namespace DL
open PySem PySem.Spec PyProof.Rows L2
def intS (i : Int) : List Nat := (Str.ofString (toString i)).cps.toList
def boolS (b : Bool) : List Nat := if b then [84, 114, 117, 101] else [70, 97, 108, 115, 101]
def fStr : DRn
  | [.int i], A, Q => i.natAbs < 1073741824 ∧ (∀ c ∈ intS i, c < 1114112) ∧ Q (.str (intS i)) A
  | [.bl b], A, Q => Q (.str (boolS b)) A
  | [.str l], A, Q => Q (.str l) A
  | _, _, _ => False
section
variable {X : Cx}
theorem c_str : DCa X (.type "str") fStr := DCa.raw fun pins s σ H xs us Q I rv ⟨ds, A, R, hA, rl, q, k⟩ => by
  unfold fStr at q
  split at q
  · rename_i i
    obtain ⟨v, rfl, rfl⟩ := rel1 rl
    obtain ⟨h1, h2, q⟩ := q
    exact call_str_int pins s σ H _ us Q I rv ⟨i, rfl, by
      rcases Nat.eq_zero_or_pos i.natAbs with z | z
      · rw [z]; decide
      · have := (Nat.log2_lt (Nat.pos_iff_ne_zero.mp z)).mpr (show i.natAbs < 2 ^ 30 from h1)
        omega, k.at (d := .str _) q hA ⟨by show V.str _ = V.str _; unfold intS; rw [Array.toArray_toList], h2⟩⟩
  · rename_i b
    obtain ⟨v, rfl, rfl⟩ := rel1 rl
    obtain ⟨u, rfl, r1⟩ := vals1 rv
    cases r1
    refine PySem.P.str_of_bool ⟨.str _, H, I.tok _, ⟨_, rfl⟩, k.at (d := .str _) q hA ⟨?_, ?_⟩⟩
    · cases b <;> rfl
    · cases b <;> decide
  · rename_i l
    obtain ⟨v, rfl, r1⟩ := rel1 rl
    obtain ⟨rfl, cx⟩ := r1
    exact SkE.call_str_str pins s σ H _ us Q I rv ⟨_, rfl, k.at (d := .str _) q hA ⟨rfl, cx⟩⟩
  · exact q.elim
/-! ### targets within targets -/
def TgOk (g : DTG) : Prop := ∀ d σ A Q, g d σ A Q → ∃ σ2 A2, Q σ2 A2
def TgsOk (n : Nat) (gs : DTGs) : Prop := ∀ l σ A Q, gs l σ A Q → l.length = n ∧ ∃ σ2 A2, Q σ2 A2
theorem tk_name {i : Nat} : TgOk (dName i) := fun d σ A Q h => ⟨_, _, h⟩
theorem tk_nil : TgsOk 0 dgNil := fun l σ A Q h => by
  obtain ⟨rfl, q⟩ := h
  exact ⟨rfl, _, _, q⟩
theorem tk_cons {n : Nat} {g : DTG} {gs : DTGs} (h1 : TgOk g) (h2 : TgsOk n gs) : TgsOk (n + 1) (dgCons g gs) := fun l σ A Q h => by
  cases l with
  | nil => exact h.elim
  | cons d r =>
    obtain ⟨σ2, A2, q⟩ := h1 d σ A _ h
    obtain ⟨e, q⟩ := h2 r σ2 A2 Q q
    exact ⟨by rw [List.length_cons, e], q⟩
theorem tk_tup {n : Nat} {gs : DTGs} (h : TgsOk n gs) : TgOk (dgTup gs) := fun d σ A Q q => by
  cases d with
  | tup l => exact (h l σ A Q q).2
  | _ => exact q.elim
theorem tk_len {n : Nat} {gs : DTGs} (h : TgsOk n gs) : ∀ l σ A Q, gs l σ A Q → l.length = n := fun l σ A Q q => (h l σ A Q q).1
end
end DL
set_option Elab.async false
set_option linter.all false
set_option maxRecDepth 100000
set_option maxHeartbeats 4000000
/-! DL21: sorted(set(xs)), len(set(xs)) of a list of whole numbers. -/
namespace DL
open PySem PySem.Spec PyProof.Rows L2
abbrev metB (val : Nat → Int) (i : Nat) : Int → Bool := fun j => (firstMet val i).any (· == j)
theorem SetR.turned {w : World} {h : Heap} {a : Addr} {f g : Int → Bool} {n m : Nat} (r : SetR w h a f n) (e : ∀ k, f k = g k) (q : n = m) : SetR w h a g m := by
  have z : f = g := funext e
  subst z q
  exact r
section
variable {prog : Program} {w : World} {A : Around}
theorem upd_loopR {R : Result → Shared → Prop} {I : Addr} {fp wr : List Addr} {G : Array GenState → Array GenState → Prop} {n : Nat} {Pv : Nat → Value → Prop} {St : Nat → Shared → Prop} (W : WalksS prog w A.in1 I fp wr G n Pv St) (z : Addr) (far : z ∉ fp)
    (val : Nat → Int) (hval : ∀ i v, Pv i v → ∃ t, v = .int (val i) t) (hb : n + 1 < scanBound) :
    ∀ (k i : Nat) (s : Shared), n - i = k → i ≤ n → St i s → SetR w s.heap z (metB val i) (firstMet val i).length →
      (∀ s', Moved (z :: wr) G s s' → SetR w s'.heap z (metB val n) (firstMet val n).length → R (.ok (.ret .none)) s') →
      codeAny (model prog w) A (.builtin "set.update.loop" ⟨[.ref z, .ref I], []⟩) R s := by
  have zw : z ∉ wr := fun h => far (W.sub _ h)
  have up : ∀ b ∈ wr, b ∈ z :: wr := fun b hb => List.mem_cons_of_mem _ hb
  intro k
  induction k with
  | zero =>
    intro i s hk hi at_ rs hR
    have : i = n := by omega
    subst this
    refine codeAny_builtin PyProof.Rows.F.entry_set_update_loop ?_; rw [Around.under_plainId PyProof.Rows.F.plain_set_update_loop _]
    show wpAny _ A.in1 (pyNext (.ref I) >>= _) _ _ s
    exact wpAny_bind (W.done s _ _ at_ fun s' hm => by
      show wpAny _ A.in1 (ret Value.none) _ _ s'
      exact wpAny_pure (hR s' (hm.mono up) (rs.at fun o e => hm.heap z _ zw e)))
  | succ k ih =>
    intro i s hk hi at_ rs hR
    have lt : i < n := by omega
    refine codeAny_builtin PyProof.Rows.F.entry_set_update_loop ?_; rw [Around.under_plainId PyProof.Rows.F.plain_set_update_loop _]
    show wpAny _ A.in1 (pyNext (.ref I) >>= _) _ _ s
    refine wpAny_bind (W.item i s _ _ lt at_ fun v s' hP at' hm => ?_)
    obtain ⟨t, rfl⟩ := hval i v hP
    have rs' : SetR w s'.heap z (metB val i) (firstMet val i).length := rs.at fun o e => hm.heap z _ zw e
    show wpAny _ A.in1 (holding [Value.int (val i) t] (setAdd z (.int (val i) t)) >>= _) _ _ s'
    refine wpAny_bind (wpAny_holding ?_); unfold setAdd
    refine wpAny_holding (wpAny_bind ((intKind prog w).pyHash (k := val i) (intKind_is _ _ _ _) ?_))
    have room : (firstMet val i).length + 1 < scanBound := by have := firstMet_length_le val i; omega
    refine setR_add_hashed (s := { s' with toks := s'.toks + 1 }) rs' room fun h' sb r2 => ?_
    have r3 : SetR w h' z (metB val (i + 1)) (firstMet val (i + 1)).length := SetR.turned r2 (fun j => by show _ = (firstMet val (i + 1)).any _; rw [firstMet_succ, step_any]) (by rw [firstMet_succ, step_length])
    refine wpAny_pure ⟨plainId_quiet PyProof.Rows.F.plain_set_update_loop _, ih (i + 1) _ (by omega) lt (W.frame _ s' _ _ at' (Nat.le_succ _) fun b hb o e => ?_) r3 fun s2 m2 r4 => ?_⟩
    · rw [sb.2 b fun e2 : b = z => far (e2 ▸ hb)]; exact e
    · refine hR s2 (Moved.trans W.gtrans ((hm.mono up).then_heap (Nat.le_succ _) fun b o hb e => ?_) m2) r4
      rw [sb.2 b fun e2 : b = z => hb (e2 ▸ List.mem_cons_self)]; exact e
variable {E : Value → Shared → Prop} {s : Shared}
abbrev set0 (w : World) : Obj := { cls := .type "set", dict := none, data := .set #[] 0 (.fresh 0 0 (!w.params.followText "set-order")) }
theorem new_led (a : Value) {Q1 : Value → Shared → Prop} (h : Q1 (.ref s.heap.objs.size) { s with heap := s.heap.push (set0 w) }) :
    codeAny (model prog w) A (.call (.builtin "set.__new__") ⟨[.type "set", a], []⟩) (wants Q1 E) s := by
  refine codeAny_of_tree ?_
  show wpAny _ A.in1 (do checkBuiltinCall "set.__new__" ⟨[.type "set", a], []⟩; again (.builtin "set.__new__" ⟨[.type "set", a], []⟩)) _ _ s
  refine wpAny_bind (wpAny_of_eq (PySem.F.newCall_set_1 a) (wpAny_pure ⟨plainId_quiet PySem.F.plain_set_new _, codeAny_builtin PySem.F.entry_set_new ?_⟩))
  rw [Around.under_plainId PySem.F.plain_set_new _]; unfold Builtin.«set.__new__» Builtin.Frozenset.newClass
  have hsub := sub_set_self
  obtain ⟨hp, g, d, tk, os⟩ := s
  dsimp only
  wp_walk
  refine wpAny_askSetting (wpAny_pure ?_)
  dsimp only
  simp only [newObj]
  exact wpAny_bind (wpAny_alloc (wpAny_pure (wpAny_pure h)))
set_option maxHeartbeats 6400000 in
theorem set_of_list {l : Addr} {items : Array Value} {ns : List Int} {Q : Value → Shared → Prop}
    (hh : A.handled = none) (hl : s.heap.IsList l items) (hi : IntsAre items.toList ns) (hb : items.size + 1 < scanBound)
    (h : ∀ (h' : Heap) (tk : Nat), SetR w h' s.heap.objs.size (metB (fun i => ns.getD i 0) items.size) (firstMet (fun i => ns.getD i 0) items.size).length →
      (∀ b o, b < s.heap.objs.size → s.heap.get? b = some o → h'.get? b = some o) → Q (.ref s.heap.objs.size) { s with heap := h', toks := tk }) :
    wpAny (model prog w) A (call (.type "set") [.ref l]) Q E s := by
  obtain ⟨c, tl, hmro⟩ := PySem.F.called_set.mro
  have hmade := PySem.F.called_set.made
  have hsub := PySem.F.called_set.sub
  refine wpAny_call (codeAny_of_tree ?_); show wpAny _ _ (callAny (.type "set") _) _ _ _
  refine wpAny_pure ⟨Code.quiet_builtin _ (by decide +kernel), codeAny_builtin PySem.F.entry_type_call ?_⟩
  rw [Around.under_plain (weight_type_call_type "set" [.ref l] []) rfl]
  have h1 := PySem.F.called_set.notType
  have h2 := PySem.F.called_set.canCreate
  have hct := PySem.F.typeCall_set_1 (.ref l)
  repeat (any_goals (first | assumption | wp_step))
  refine codeAny_mono (new_led (.ref l) (E := E) (Q1 := fun obj s1 => obj = .ref s.heap.objs.size ∧ s1 = { s with heap := s.heap.push (set0 w) }) ⟨rfl, rfl⟩) fun r s1 hr => ?_
  cases r with
  | error e => exact hr
  | ok fl =>
    cases fl with
    | ret obj =>
      obtain ⟨rfl, rfl⟩ := hr
      have hS : (s.heap.push (set0 w)).get? s.heap.objs.size = some (set0 w) := Heap.get?_push_size _ rfl
      have hT : Shared.TypeIs { s with heap := s.heap.push (set0 w) } (.ref s.heap.objs.size) "set" := ⟨_, hS, rfl⟩
      have hli := PySem.F.called_set.init.lookup
      have hbi := PySem.F.called_set.init.bind (.ref s.heap.objs.size)
      repeat (any_goals (first | assumption | wp_step))
      refine codeAny_mono (codeAny_call_builtin (R := wants (fun r s2 => r = .none ∧ ∃ h' tk, s2 = { s with heap := h', toks := tk } ∧
          SetR w h' s.heap.objs.size (metB (fun i => ns.getD i 0) items.size) (firstMet (fun i => ns.getD i 0) items.size).length ∧
          (∀ b o, b < s.heap.objs.size → s.heap.get? b = some o → h'.get? b = some o)) E) PySem.F.called_set.init.plain PySem.F.entry_set_init (check_set_init_1 hT ?_)) fun r2 s2 hr2 => ?_
      · obtain ⟨⟨ocls, odict, odata, oslots⟩, hol, hcl, nl, hdl⟩ := hl
        simp only at hcl hdl
        subst hcl hdl
        have hol2 : (s.heap.push (set0 w)).get? l = some { cls := .type "list", dict := odict, data := .seq items nl, slots := oslots } := Heap.get?_push_of_some _ hol
        have hsls := PySem.F.sub_list_set
        have hslf := PySem.F.sub_list_frozenset
        have hne : (Value.type "list" == Value.type "dict") = false := by decide
        have hl1 : (s.heap.push (set0 w)).IsList l items := ⟨_, hol2, rfl, nl, rfl⟩
        unfold Builtin.«set.__init__» noKeywords Builtin.Frozenset.updateFrom
        generalize hPI : pyIter = PI
        wp_walk
        subst hPI
        refine wpAny_pyIter_list hl1 (wpAny_bind (wpAny_runValue ?_))
        have hlS : l < s.heap.objs.size := Heap.lt_size hol
        have hh3 : A.in1.in1.in1.handled = none := by simp [hh]
        have szp : (s.heap.push (set0 w)).objs.size = s.heap.objs.size + 1 := Heap.size_push _ _
        have neI : l ≠ (s.heap.push (set0 w)).objs.size := by rw [szp]; exact Nat.ne_of_lt (Nat.lt_succ_of_lt hlS)
        have far : s.heap.objs.size ∉ [(s.heap.push (set0 w)).objs.size, l] := by
          rw [szp]; exact fun z => (List.mem_cons.mp z).elim (Nat.ne_of_lt (Nat.lt_succ_self _)) fun z => Nat.ne_of_gt hlS (List.mem_singleton.mp z)
        have hval : ∀ (i : Nat) (v : Value), items[i]? = some v → ∃ t, v = .int ((fun i => ns.getD i 0) i) t := fun i v hv => IntsAre.int_at hi i v (by rw [Array.getElem?_toList]; exact hv)
        refine upd_loopR ((Walks.list hh3 _ l neI items).toS) s.heap.objs.size far (fun i => ns.getD i 0) hval hb (items.size - 0) 0 _ (by omega) (Nat.zero_le _)
          ⟨⟨_, Heap.get?_push_size _ rfl, rfl, rfl⟩, (hl1.push _)⟩ ?hS0 ?hR
        case hS0 =>
          exact (setR_fresh (h := s.heap) w).at fun o e => Heap.get?_push_of_some _ e
        case hR =>
          intro s' hm hS'
          obtain ⟨h', g', d', tk', os'⟩ := s'
          have eg : g' = s.gens := hm.gens
          have ed : d' = s.drawn := hm.drawn
          have eo : os' = s.os := hm.os
          subst eg ed eo
          show wpAny _ _ _ _ _ _
          refine wpAny_pure ?_
          show wpAny _ _ (ret Value.none) _ _ _
          refine wpAny_pure ⟨rfl, h', tk', rfl, hS', fun b o hb e => ?_⟩
          exact hm.heap b o (by rw [szp]; exact fun z => (List.mem_cons.mp z).elim (Nat.ne_of_lt hb) fun z => Nat.ne_of_lt (Nat.lt_succ_of_lt hb) (List.mem_singleton.mp z)) (Heap.get?_push_of_some _ (Heap.get?_push_of_some _ e))
      · cases r2 with
        | error e => exact hr2
        | ok fl2 =>
          cases fl2 with
          | ret r =>
            obtain ⟨rfl, h', tk, rfl, hS', hk'⟩ := hr2
            repeat (any_goals (first | assumption | wp_step))
            exact h _ _ hS' hk'
          | _ => exact hr2.elim
    | _ => exact hr.elim
end
section
variable {X : Cx}
theorem fm_mem (ns : List Int) (k : Int) : metB (fun i => ns.getD i 0) ns.length k = true ↔ k ∈ ns := by
  show (firstMet _ _).any _ = true ↔ _
  rw [firstMet_any]
  have : (List.range ns.length).map (fun i => ns.getD i 0) = ns := by
    refine List.ext_getElem (by simp) fun i h1 h2 => ?_
    simp [h2]
  rw [this, List.any_eq_true]
  exact ⟨fun ⟨x, h, e⟩ => (eq_of_beq e) ▸ h, fun h => ⟨k, h, by simp⟩⟩
theorem ints_rel {K : PySem.W.Frag} {H : Hp} : ∀ {ns : List Int} {vs : List V}, RelL K H (ns.map D.int) vs → vs = ns.map V.int
  | [], _, h => h
  | n :: ns, _, ⟨v, r, e, h1, t⟩ => by
    have h1 : v = V.int n := h1
    subst e h1
    rw [ints_rel t]; rfl
theorem vals_int : ∀ {ns : List Int} {us : List Value}, Vals (ns.map V.int) us → IntsAre us ns
  | [], _, .nil => .nil
  | n :: ns, _, .cons r t => by
    obtain ⟨k, rfl⟩ := r
    exact .cons n k (vals_int t)
/-- set(xs) of a list of whole numbers: what stands behind it -/
theorem setO_of {pins : List (Addr × Obj)} {σ : L2.St} {H : Hp} {s : Shared} {A : AH} {a : Addr} {ns : List Int} {Q : Value → Shared → Prop} {A0 : Around} {E : Value → Shared → Prop} (hd : A0.handled = none) (I : L2.Inv X pins σ H s) (hA : RelH X.b A H) (e : A a = some (.lst (ns.map D.int))) (hn : ns.length < 64)
    (h : ∀ (p : Addr) (f : Int → Bool) (n : Nat) (s' : Shared), (∀ k, f k = true ↔ k ∈ ns) → n ≤ ns.length → H p = none → L2.Inv X pins σ (upd H p (SetO X.w p f n)) s' → Q (.ref p) s') :
    wpAny (model X.prog X.w) A0 (call (.type "set") [.ref a]) Q E s := by
  obtain ⟨vs, e1, r⟩ := hA _ _ e
  obtain ⟨its, rv, hl, hz⟩ := I.list (.of e1)
  have ev := ints_rel r
  subst ev
  have hlen : its.toArray.size = ns.length := by rw [List.size_toArray, ← rv.length, List.length_map]
  refine set_of_list hd hl.isList (by simpa using vals_int rv) (by rw [hlen]; unfold scanBound; omega) fun h' tk R hk => ?_
  rw [hlen] at R
  exact h _ _ _ _ (fm_mem ns) (firstMet_length_le _ _) (I.hok.fresh (Nat.le_refl _)) (I.laid (o := SetO X.w s.heap.objs.size (metB (fun i => ns.getD i 0) ns.length) (firstMet (fun i => ns.getD i 0) ns.length).length) (t' := tk) (fun b o e => hk b o (Heap.lt_size e) e) (Nat.le_refl _) (setO_new R))
/-- sorted(set(xs)) -/
def dSrtSet (t : DTE) : DTE := fun σ A Q => t σ A fun d A1 => ∃ (a : Addr) (ns : List Int), d = .ref a ∧ A1 a = some (.lst (ns.map D.int)) ∧ ns.length < 64 ∧
  ∀ ms : List Int, ms.Pairwise (· < ·) → (∀ k, k ∈ ms ↔ k ∈ ns) → ∀ p, A1 p = none → Q (.ref p) (up A1 p (.lst (ms.map D.int)))
theorem rel_ints {K : PySem.W.Frag} {H : Hp} : ∀ ns : List Int, RelL K H (ns.map D.int) (ns.map V.int)
  | [] => rfl
  | n :: ns => ⟨_, _, rfl, rfl, rel_ints ns⟩
theorem qe_srtSet {e : Expr} {t : DTE} {p p2 q pos : Pos} (hc : X.calm = true) (hg : Gl X "sorted") (hm : X.mg "sorted" = none) (hg2 : Gl X "set") (hm2 : X.mg "set" = none) (he : QE X e t)
    (na : starEach [e] X.env = (false, eval e X.env) :: starEach [] X.env := by rfl) : QE X (.Call (.Name "sorted" p) [.Call (.Name "set" p2) [e] [] q] [] pos) (dSrtSet t) := by
  refine ⟨fun pins s σ H Q I h => ?_⟩
  obtain ⟨dσ, A, R, hA, hS, h, k⟩ := h
  refine Call_ (ld_blt I hg hm boot_sorted ?_)
  refine PyProof.Rows.callWith_builtin1 (PyProof.Rows.args_cons ?_ rfl) rfl rfl
  refine Call_ (ld_blt I hg2 hm2 boot_set ?_)
  refine PyProof.Rows.callWith_type1 (PyProof.Rows.args_cons (thn (he.run pins s σ H _ I ⟨dσ, A, _, hA, hS, h, Kp.id⟩) fun v s1 ⟨x, H1, I1, r1, d, A1, q1, hA1, rd, g1⟩ => PyProof.Rows.args_nil ?_) na) na rfl
  obtain ⟨a, ns, rfl, ea, hn, q1⟩ := q1
  cases rd
  cases r1
  refine setO_of (I1.ok.hd hc) I1 hA1 ea hn fun p f n s2 hf hl hp I2 => PyProof.Rows.args_nil ?_
  have g2 : Grow H1 (upd H1 p (SetO X.w p f n)) := Grow.new hp
  refine cr_sortedSet hc pins s2 σ _ [.ref p] [.ref p] Q I2 (.cons rfl .nil) ⟨p, f, n, rfl, by simp [upd], by omega, fun ms p2 hs hm2 hl2 hp2 => ?_⟩
  have hA2 : RelH X.b A1 (upd H1 p (SetO X.w p f n)) := hA1.new hp
  refine k.from (g1.trans (g2.trans (Grow.new hp2))) _ _ _ _ (q1 ms hs (fun j => (hm2 j).trans (hf j)) p2 (hA2.free hp2)) (hA2.add hp2 ⟨_, by simp [upd], rel_ints ms⟩) rfl Grow.refl
/-- len(set(xs)) -/
def dLenSet (t : DTE) : DTE := fun σ A Q => t σ A fun d A1 => ∃ (a : Addr) (ns : List Int), d = .ref a ∧ A1 a = some (.lst (ns.map D.int)) ∧ ns.length < 64 ∧
  ∀ ms : List Int, ms.Nodup → (∀ k, k ∈ ms ↔ k ∈ ns) → Q (.int (ms.length : Nat)) A1
theorem qe_lenSet {e : Expr} {t : DTE} {p p2 q pos : Pos} (hc : X.calm = true) (hg : Gl X "len") (hm : X.mg "len" = none) (hg2 : Gl X "set") (hm2 : X.mg "set" = none) (he : QE X e t)
    (na : starEach [e] X.env = (false, eval e X.env) :: starEach [] X.env := by rfl) : QE X (.Call (.Name "len" p) [.Call (.Name "set" p2) [e] [] q] [] pos) (dLenSet t) := by
  refine ⟨fun pins s σ H Q I h => ?_⟩
  obtain ⟨dσ, A, R, hA, hS, h, k⟩ := h
  refine Call_ (ld_blt I hg hm boot_len ?_)
  refine PyProof.Rows.callWith_builtin1 (PyProof.Rows.args_cons ?_ rfl) rfl rfl
  refine Call_ (ld_blt I hg2 hm2 boot_set ?_)
  refine PyProof.Rows.callWith_type1 (PyProof.Rows.args_cons (thn (he.run pins s σ H _ I ⟨dσ, A, _, hA, hS, h, Kp.id⟩) fun v s1 ⟨x, H1, I1, r1, d, A1, q1, hA1, rd, g1⟩ => PyProof.Rows.args_nil ?_) na) na rfl
  obtain ⟨a, ns, rfl, ea, hn, q1⟩ := q1
  cases rd
  cases r1
  refine setO_of (I1.ok.hd hc) I1 hA1 ea hn fun p f n s2 hf hl hp I2 => PyProof.Rows.args_nil ?_
  obtain ⟨o, es, ep, tb, ho, hex, hd, _, nd, hm3, _, hf3, hn3, _⟩ := setO_get (S := f) (n := n) I2 (a := p) (by simp [upd])
  have hA2 : RelH X.b A1 (upd H1 p (SetO X.w p f n)) := hA1.new hp
  have e3 : (es.toList.map keyOf).length = n := by rw [List.length_map, Array.length_toList, hn3]
  refine call_len_set ho hex hd hf3 (by omega) ⟨.int n, _, I2.tok _, ⟨_, by rw [hn3]⟩, ?_⟩
  have q2 := q1 (es.toList.map keyOf) nd fun j => (hm3 j).symm.trans (hf j)
  rw [e3] at q2
  exact k.from (g1.trans (Grow.new hp)) _ _ _ _ q2 hA2 rfl Grow.refl
end
end DL
set_option Elab.async false
set_option linter.all false
set_option maxRecDepth 100000
set_option maxHeartbeats 4000000
/-! DL22: insert at the beginning, index in the alphabet, a letter some times, tuples among the globals. -/
namespace DL
open PySem PySem.Spec PyProof.Rows L2
def fInsert : D → DRn
  | .ref a, [.int i, d], A, Q => match A a with
    | some (.lst xs) => i = 0 ∧ xs.length < SL ∧ Q .non (up A a (.lst (d :: xs)))
    | _ => False
  | _, _, _, _ => False
def alphL : List Nat := [97, 98, 99, 100, 101, 102, 103, 104, 105, 106, 107, 108, 109, 110, 111, 112, 113, 114, 115, 116, 117, 118, 119, 120, 121, 122]
def fSIndex : D → DRn
  | .str l, [.str t], A, Q => l = alphL ∧ ∃ c : Nat, t = [c] ∧ 97 ≤ c ∧ c ≤ 122 ∧ Q (.int ((c - 97 : Nat) : Int)) A
  | _, _, _, _ => False
def fMulS : DR2
  | .str l, .int i, A, Q => ∃ c : Nat, l = [c] ∧ 0 ≤ i ∧ i ≤ 1000 ∧ Q (.str (List.replicate i.toNat c)) A
  | _, _, _, _ => False
theorem occ_alph (c : Nat) (h1 : 97 ≤ c) (h2 : c ≤ 122) : ∃ rest, Builtin.Str.occurrences ⟨alphL.toArray⟩ ⟨[c].toArray⟩ 0 (⟨alphL.toArray⟩ : Str).length 1 = (c - 97) :: rest := by
  have : c = 97 ∨ c = 98 ∨ c = 99 ∨ c = 100 ∨ c = 101 ∨ c = 102 ∨ c = 103 ∨ c = 104 ∨ c = 105 ∨ c = 106 ∨ c = 107 ∨ c = 108 ∨ c = 109 ∨ c = 110 ∨ c = 111 ∨ c = 112 ∨ c = 113 ∨ c = 114 ∨ c = 115 ∨ c = 116 ∨ c = 117 ∨ c = 118 ∨ c = 119 ∨ c = 120 ∨ c = 121 ∨ c = 122 := by omega
  rcases this with rfl | rfl | rfl | rfl | rfl | rfl | rfl | rfl | rfl | rfl | rfl | rfl | rfl | rfl | rfl | rfl | rfl | rfl | rfl | rfl | rfl | rfl | rfl | rfl | rfl | rfl <;> exact ⟨[], by decide +kernel⟩
section
variable {X : Cx}
theorem m_insert : DMe X "list.insert" fInsert := by
  refine ⟨_, mtr_of mt_insert, fun o x A R ov v H Q hA ro rx h k => ?_⟩
  unfold fInsert at h
  split at h
  · obtain ⟨v1, v2, rfl, r1, r2⟩ := rel2 rx
    cases r1
    cases ro
    split at h
    · rename_i xs hq
      obtain ⟨vs, e1, r⟩ := hA _ _ hq
      obtain ⟨rfl, hl, h⟩ := h
      refine ⟨_, vs, 0, v2, rfl, rfl, e1, by rw [SL_eq, ← r.length]; exact hl, by omega, by decide, ?_⟩
      have g := grow_lst (ys := vs.take (0 : Int).toNat ++ [v2] ++ vs.drop (0 : Int).toNat) e1
      exact k _ _ _ _ h (hA.put (u := .lst _) g ⟨_, upd_same, (RelL.cons r2 r).grow g⟩) rfl g
    · exact h.elim
  · exact h.elim
theorem m_sindex : DMe X "str.index" fSIndex := by
  refine ⟨_, mtr_of mt_sindex, fun o x A R ov v H Q hA ro rx h k => ?_⟩
  unfold fSIndex at h
  split at h
  · obtain ⟨v1, rfl, r1⟩ := rel1 rx
    obtain ⟨rfl, c, rfl, h1, h2, h⟩ := h
    obtain ⟨rfl, _⟩ := ro
    obtain ⟨rfl, _⟩ := r1
    obtain ⟨rest, e⟩ := occ_alph c h1 h2
    exact ⟨_, _, _, rest, rfl, rfl, e, k.at (d := .int _) h hA rfl⟩
  · exact h.elim
theorem op_smul : OpR X (binaryOp .Mult) (fun x y H Q => ∃ (c : Nat) (i : Int), x = .str ⟨[c].toArray⟩ ∧ y = .int i ∧ 0 ≤ i ∧ i ≤ 1000 ∧ Q (.str ⟨(List.replicate i.toNat c).toArray⟩) H) := by
  intro pins s σ H x y v u Q I rx ry h
  obtain ⟨c, i, rfl, rfl, h0, h1, q⟩ := h
  obtain ⟨t, rfl⟩ := rx
  obtain ⟨t2, rfl⟩ := ry
  have cap : ∀ n : Int, 0 < n → n ≤ 1000 → (1 : Int) ≤ (2 ^ 63 - 1) / n := fun n z z2 => (Int.le_ediv_iff_mul_le z).mpr (by omega)
  have lo : (decide (i < -(2 ^ 63 : Int)) || decide (i ≥ 2 ^ 63)) = false := by
    rw [decide_eq_false (show ¬ i < -(2 ^ 63 : Int) by omega), decide_eq_false (show ¬ i ≥ (2 ^ 63 : Int) by omega)]; rfl
  have fold : ∀ (n : Nat) (acc : Array Nat), (List.replicate n (#[c] : Array Nat)).foldl (· ++ ·) acc = acc ++ (List.replicate n c).toArray := by
    intro n
    induction n with
    | zero => intro acc; simp
    | succ n ih => intro acc; rw [List.replicate_succ, List.foldl_cons, ih]; apply Array.ext'; simp [List.replicate_succ]
  refine PySem.P.mul_str lo (fun z _ => ?_) (fun z _ => ?_) ?_
  · have := cap i (by omega) h1
    show ¬ ((1 : Int) > _)
    omega
  · show Builtin.Str.tooLong (1 * i.toNat) = false
    unfold Builtin.Str.tooLong
    exact decide_eq_false (by rw [sizeLine_eq]; omega)
  · by_cases z : i < 1
    · rw [if_pos z]
      have e : i = 0 := by omega
      subst e
      exact ⟨by decide, .str _, H, I.tok _, ⟨_, rfl⟩, q⟩
    · rw [if_neg z]
      by_cases z1 : i = 1
      · subst z1
        rw [if_pos (by rfl)]
        exact ⟨.str _, H, I, ⟨_, rfl⟩, q⟩
      · have nb : ((i == 1) || (([c].length : Nat) == 0)) = false := by
          rw [beq_eq_false_iff_ne.mpr z1]; rfl
        have e : (⟨(List.replicate i.toNat (#[c] : Array Nat)).foldl (· ++ ·) #[]⟩ : Str) = ⟨(List.replicate i.toNat c).toArray⟩ := by rw [fold]; simp
        rw [if_neg (by intro z3; exact absurd (z3.symm.trans nb) (by decide))]
        show (Made.str (⟨(List.replicate i.toNat (#[c] : Array Nat)).foldl (· ++ ·) #[]⟩ : Str)).post _ s
        rw [e]
        refine ⟨?_, .str _, H, I.tok _, ⟨_, rfl⟩, q⟩
        show (List.replicate i.toNat c).toArray.size ≤ sizeLine
        rw [sizeLine_eq, List.size_toArray, List.length_replicate]
        omega
theorem d_mulS : DOp X (binaryOp .Mult) fMulS := by
  refine ⟨_, op_smul, fun x y A R v u H Q hA rx ry h k => ?_⟩
  unfold fMulS at h
  split at h
  · obtain ⟨c, rfl, h0, h1, q⟩ := h
    obtain ⟨rfl, hc⟩ := rx
    cases ry
    exact ⟨c, _, rfl, rfl, h0, h1, k.at (d := .str _) q hA ⟨rfl, fun d m => by rw [List.eq_of_mem_replicate m]; exact hc c (by simp)⟩⟩
  · exact h.elim
variable {o e e2 : Expr} {es : List Expr} {to : DTE} {t : DTA} {apos cpos : Pos}
theorem qe_insert (ho : QE X o to) (ha : QA X (e :: es) t)
    (hfew : ((backTo cpos (starEach (e :: es) X.env)).all (fun x => !x.1) && (backToKw cpos (keywordEach [] X.env)).all (fun x => x.1.isSome)
      && decide ((e :: es).length + ([] : List Keyword).length + (if ([] : List Keyword).isEmpty then 0 else 1) < 30)) = true := by rfl)
    (hbase : attributeBase o "insert" X.env (eval o X.env) = eval o X.env := by rfl) (hline : (apos.endLine == cpos.line) = true := by rfl) (hs : starEach (e :: es) X.env = (false, eval e X.env) :: starEach es X.env := by rfl) (hplain : (backTo cpos (starEach es X.env)).any (·.1) = false := by rfl) :
    QE X (.Call (.Attribute o "insert" apos) (e :: es) [] cpos) (dBm isL fInsert to t) :=
  qe_bm tyL PySem.F.plainAttrs_list PySem.F.slot_list_insert PySem.F.type_list_insert m_insert ho ha hbase hfew hline hs hplain
theorem qe_sindex (ho : QE X o to) (ha : QA X (e :: es) t)
    (hfew : ((backTo cpos (starEach (e :: es) X.env)).all (fun x => !x.1) && (backToKw cpos (keywordEach [] X.env)).all (fun x => x.1.isSome)
      && decide ((e :: es).length + ([] : List Keyword).length + (if ([] : List Keyword).isEmpty then 0 else 1) < 30)) = true := by rfl)
    (hbase : attributeBase o "index" X.env (eval o X.env) = eval o X.env := by rfl) (hline : (apos.endLine == cpos.line) = true := by rfl) (hs : starEach (e :: es) X.env = (false, eval e X.env) :: starEach es X.env := by rfl) (hplain : (backTo cpos (starEach es X.env)).any (·.1) = false := by rfl) :
    QE X (.Call (.Attribute o "index" apos) (e :: es) [] cpos) (dBm isS fSIndex to t) :=
  qe_bm tyS PySem.F.plainAttrs_str PySem.F.slot_str_index PySem.F.type_str_index m_sindex ho ha hbase hfew hline hs hplain
theorem globT {K : PySem.W.Frag} {mg : Str → Option Value} {x : Str} {a : Addr} {od : Option Addr} {its : Array Value} {n : Nat} {sl : Array (Option Value)} {ds : List D} {vs : List V} (h : mg x = some (.ref a)) (l : K.lookup a = some ⟨.type "tuple", od, .seq its n, sl⟩) (hs : its.size ≤ sizeLine) (rv : Vals vs its.toList) (rd : ∀ H, RelL K H ds vs) : GlobD K mg x (.tup ds) :=
  ⟨_, .ref a, h, rfl, fun H => ⟨a, vs, rfl, .inr ⟨_, its, n, l, rfl, rfl, hs, rv⟩, rd H⟩⟩
end
end DL
set_option Elab.async false
set_option linter.all false
set_option maxRecDepth 100000
set_option maxHeartbeats 1000000
/-! PL1: plain rules for reading the readings: what stays, items, loops, comprehensions. -/
namespace DL
open PySem L2
/-! ### what stays: all but W -/
def Sm (W : List Addr) (A A' : AH) : Prop := ∀ a o, a ∉ W → A a = some o → A' a = some o
theorem Sm.refl {W : List Addr} {A : AH} : Sm W A A := fun _ _ _ h => h
theorem Sm.trans {W : List Addr} {A B C : AH} (h1 : Sm W A B) (h2 : Sm W B C) : Sm W A C := fun a o n h => h2 a o n (h1 a o n h)
theorem Sm.weak {W V : List Addr} {A B : AH} (h : Sm W A B) (s : ∀ a ∈ W, a ∈ V) : Sm V A B := fun a o n q => h a o (fun m => n (s a m)) q
theorem Sm.new {W : List Addr} {A : AH} {p : Addr} {o : AO} (h : A p = none) : Sm W A (up A p o) := fun a u _ q => by
  rw [up_ne (fun e => by rw [e, h] at q; cases q)]; exact q
theorem Sm.put {W : List Addr} {A : AH} {p : Addr} {o : AO} (h : p ∈ W) : Sm W A (up A p o) := fun a u n q => by
  rw [up_ne (fun e => n (by rw [e]; exact h))]; exact q
theorem Sm.of0 {W : List Addr} {A B : AH} (h : Sm [] A B) : Sm W A B := h.weak fun _ m => nomatch m
/-- what is fresh is fresh before -/
theorem Sm.none0 {A B : AH} {a : Addr} (h : Sm [] A B) (n : B a = none) : A a = none := by
  cases e : A a with
  | none => rfl
  | some o => rw [h a o (by simp) e] at n; cases n
theorem Sm.noneW {W : List Addr} {A B : AH} {a : Addr} (h : Sm W A B) (w : ∀ c ∈ W, ∃ o, B c = some o) (n : B a = none) : A a = none := by
  cases e : A a with
  | none => rfl
  | some o =>
    by_cases m : a ∈ W
    · obtain ⟨o', e'⟩ := w a m
      rw [n] at e'; cases e'
    · rw [h a o m e] at n; cases n
/-- W's own addresses that were not there before need not be named -/
theorem Sm.drop {W V : List Addr} {A B : AH} (h : Sm W A B) (s : ∀ a ∈ W, a ∈ V ∨ A a = none) : Sm V A B := fun a o n q => by
  refine h a o (fun m => ?_) q
  rcases s a m with z | z
  · exact n z
  · rw [z] at q; cases q
theorem ne_nn {A : AH} {a p : Addr} {o : AO} (h : A a = some o) (n : A p = none) : a ≠ p := fun e => by rw [e, n] at h; cases h
theorem ne_oo {A : AH} {a b : Addr} {o u : AO} (h : A a = some o) (k : A b = some u) (n : o ≠ u) : a ≠ b := fun e => by rw [e, k] at h; cases h; exact n rfl
theorem up_at {A : AH} {a p : Addr} {o u : AO} (h : A a = some o) (n : A p = none) : up A p u a = some o := by rw [up_ne (ne_nn h n)]; exact h
theorem up_up {A : AH} {a : Addr} {o u : AO} : up (up A a o) a u = up A a u := by
  funext b
  unfold up
  split <;> rfl
theorem Sm.own {A B : AH} {p : Addr} {o : AO} (s : Sm [] A B) (h : A p = none) : Sm [] A (up B p o) := ((s.of0 (W := [p])).trans (Sm.put (by simp))).drop fun a m => .inr (by simp at m; rw [m]; exact h)
/-! ### items -/
theorem fAdd_int {i j : Int} {A : AH} {Q : DQ} : fAdd (.int i) (.int j) A Q = Q (.int (i + j)) A := rfl
theorem atI_nat {α : Type} {xs : List α} {k : Int} (h0 : 0 ≤ k) (h1 : k < xs.length) : atI xs k = xs[k.toNat]? := by
  unfold atI ixN
  rw [if_pos h0, if_pos h1]
  rfl
theorem fIx_of {A : AH} {x d : D} {xs : List D} {k : Int} {Q : DQ} (h : ixS A x = some xs) (e : atI xs k = some d) (q : Q d A) : fIx x (.int k) A Q := by
  unfold fIx
  rw [h]
  simp only [e]
  exact q
theorem lst_nd {A : AH} {a : Addr} {xs : List D} (h : A a = some (.lst xs)) : isDcB A a = false := by
  unfold isDcB dicGetD
  rw [h]; rfl
theorem dic_d {A : AH} {a : Addr} {kvs : List (D × D)} (h : A a = some (.dic kvs)) : dicGetD A a = some kvs := by
  unfold dicGetD
  rw [h]
theorem fdic_d {A : AH} {a : Addr} {od : Obj} {kvs : List (D × D)} (h : A a = some (.fdic od kvs)) : dicGetD A a = some kvs := by
  unfold dicGetD
  rw [h]
theorem mIx_tup {A : AH} {l : List D} {k : Int} {d : D} {Q : DQ} (e : atI l k = some d) (q : Q d A) : mIx (.tup l) (.int k) A Q := fIx_of (x := .tup l) (xs := l) rfl e q
theorem mIx_lst {A : AH} {a : Addr} {xs : List D} {k : Int} {d : D} {Q : DQ} (h : A a = some (.lst xs)) (e : atI xs k = some d) (q : Q d A) : mIx (.ref a) (.int k) A Q := by
  show (if isDcB A a then _ else _)
  rw [lst_nd h]
  exact fIx_of (by show (match A a with | some (.lst xs) => some xs | _ => none) = _; rw [h]) e q
theorem mIx_dic {A : AH} {a : Addr} {kvs : List (D × D)} {k d : D} {Q : DQ} (h : dicGetD A a = some kvs) (ok : okK kvs k = true) (e : dget kvs k = some d) (q : Q d A) : mIx (.ref a) k A Q := by
  show (if isDcB A a then _ else _)
  rw [show isDcB A a = true by unfold isDcB; rw [h]; rfl]
  show (match dicGetD A a with | some kvs => okK kvs k = true ∧ (match dget kvs k with | some d => Q d A | none => False) | none => False)
  rw [h]
  refine ⟨ok, ?_⟩
  rw [e]
  exact q
theorem mSt_lst {A : AH} {a : Addr} {xs : List D} {k : Int} {d : D} {j : Nat} {Q : AH → Prop} (h : A a = some (.lst xs)) (e : ixN xs.length k = some j) (q : Q (up A a (.lst (xs.set j d)))) : mSt (.ref a) (.int k) d A Q := by
  show (if isDcB A a then _ else _)
  rw [lst_nd h]
  show (match A a with | some (.lst xs) => (match ixN xs.length k with | some j => Q (up A a (.lst (xs.set j d))) | none => False) | _ => False)
  rw [h]
  simp only [e]
  exact q
theorem mSt_dic {A : AH} {a : Addr} {kvs : List (D × D)} {k d : D} {Q : AH → Prop} (h : A a = some (.dic kvs)) (ok : okK kvs k = true) (hl : kvs.length < SL) (q : Q (up A a (.dic (dput kvs k d)))) : mSt (.ref a) k d A Q := by
  show (if isDcB A a then _ else _)
  rw [show isDcB A a = true by unfold isDcB; rw [dic_d h]; rfl]
  show (match A a with | some (.dic kvs) => okK kvs k = true ∧ kvs.length < SL ∧ Q (up A a (.dic (dput kvs k d))) | _ => False)
  rw [h]
  exact ⟨ok, hl, q⟩
theorem len_lst {A : AH} {a : Addr} {xs : List D} {Q : DQ} (h : A a = some (.lst xs)) (q : Q (.int xs.length) A) : fLen [.ref a] A Q := by
  show (match A a with | some (.lst xs) => Q (.int xs.length) A | _ => False)
  rw [h]
  exact q
theorem app_lst {A : AH} {a : Addr} {xs : List D} {d : D} {Q : DQ} (h : A a = some (.lst xs)) (hl : xs.length < SL) (q : Q .non (up A a (.lst (xs ++ [d])))) : isL (.ref a) A ∧ fAppend (.ref a) [d] A Q := by
  refine ⟨⟨xs, h⟩, ?_⟩
  show (match A a with | some (.lst xs) => xs.length < SL ∧ Q .non (up A a (.lst (xs ++ [d]))) | _ => False)
  rw [h]
  exact ⟨hl, q⟩
theorem fAppend_lst {A : AH} {a : Addr} {xs : List D} {d : D} {Q : DQ} (h : A a = some (.lst xs)) (hl : xs.length < SL) (q : Q .non (up A a (.lst (xs ++ [d])))) : fAppend (.ref a) [d] A Q := (app_lst h hl q).2
theorem fPopAt_lst {A : AH} {a : Addr} {xs : List D} {k : Int} {d : D} {Q : DQ} (h : A a = some (.lst xs)) (h0 : 0 ≤ k) (h1 : k < xs.length) (hs : xs.length ≤ SL) (hd : xs[k.toNat]? = some d) (q : Q d (up A a (.lst (xs.eraseIdx k.toNat)))) : fPopAt (.ref a) [.int k] A Q := by
  show (match A a with | some (.lst xs) => (match atI xs k, ixN xs.length k with | some d, some j => (-9223372036854775808 ≤ k ∧ k < 9223372036854775808) ∧ Q d (up A a (.lst (xs.eraseIdx j))) | _, _ => False) | _ => False)
  rw [h]
  have e : ixN xs.length k = some k.toNat := by unfold ixN; rw [if_pos h0, if_pos h1]
  simp only [atI_nat h0 h1, hd, e]
  have : SL = 16777216 := rfl
  exact ⟨⟨by omega, by omega⟩, q⟩
theorem fDGetM_dic {A : AH} {a : Addr} {kvs : List (D × D)} {k : D} {Q : DQ} (h : dicGetD A a = some kvs) (ok : okK kvs k = true) (q : Q ((dget kvs k).getD .non) A) : fDGetM (.ref a) [k] A Q := by
  show (match dicGetD A a with | some kvs => okK kvs k = true ∧ Q ((dget kvs k).getD .non) A | none => False)
  rw [h]
  exact ⟨ok, q⟩
theorem mIn_dic {A : AH} {a : Addr} {kvs : List (D × D)} {k : D} {neg : Bool} {Q : DQ} (h : dicGetD A a = some kvs) (ok : okK kvs k = true) (q : Q (.bl (neg ^^ (dget kvs k).isSome)) A) : mIn neg k (.ref a) A Q := by
  show (if isDcB A a then _ else _)
  rw [show isDcB A a = true by unfold isDcB; rw [h]; rfl]
  simp only [if_true]
  cases neg with
  | true =>
    show (match dicGetD A a with | some kvs => okK kvs k = true ∧ Q (.bl (!(dget kvs k).isSome)) A | none => False)
    rw [h]
    exact ⟨ok, by simpa using q⟩
  | false =>
    show (match dicGetD A a with | some kvs => okK kvs k = true ∧ Q (.bl (dget kvs k).isSome) A | none => False)
    rw [h]
    exact ⟨ok, by simpa using q⟩
theorem mEq_pl {x y : D} {neg : Bool} {A : AH} {Q : DQ} (hx : plB x = true) (hy : plB y = true) (q : Q (.bl (neg ^^ decide (x = y))) A) : mEq neg x y A Q := by
  unfold mEq
  rw [hx, hy]
  exact q
theorem mEq_dic {A : AH} {a b : Addr} {ka kb : List (D × D)} {neg : Bool} {Q : DQ} (ha : dicGetD A a = some ka) (hb : dicGetD A b = some kb) (ok : ∀ p ∈ ka, okK kb p.1 = true) (pa : ∀ p ∈ ka, plB p.2 = true) (pb : ∀ p ∈ kb, plB p.2 = true) (q : Q (.bl (neg ^^ dEqB ka kb)) A) : mEq neg (.ref a) (.ref b) A Q := by
  unfold mEq
  rw [if_neg (by simp [plB, isPl])]
  show (if isDcB A a then fDEqB neg (.ref a) (.ref b) A Q else _)
  rw [show isDcB A a = true by unfold isDcB; rw [ha]; rfl]
  show (match dicGetD A a, dicGetD A b with | some ka, some kb => (∀ p ∈ ka, okK kb p.1 = true ∧ plV p.2) ∧ (∀ p ∈ kb, plV p.2) ∧ Q (.bl (neg ^^ dEqB ka kb)) A | _, _ => False)
  rw [ha, hb]
  exact ⟨fun p m => ⟨ok p m, plB_V (pa p m)⟩, fun p m => plB_V (pb p m), q⟩
theorem fld_of {A : AH} {a C : Addr} {f : String} {fs : List (String × D)} {d : D} {Q : DQ} (h : A a = some (.ins C fs)) (e : getS f fs = some d) (q : Q d A) : (match A a with
    | some (.ins C' fs) => C' = C ∧ match getS f fs with
      | some d => Q d A
      | none => False
    | _ => False) := by
  rw [h]
  refine ⟨rfl, ?_⟩
  rw [e]
  exact q
theorem fNot_non {x : D} {A : AH} {Q : DQ} : fNot x .non A Q = Q (.bl (!x.isNon)) A := by cases x <;> rfl
theorem fIs_non {x : D} {A : AH} {Q : DQ} : fIs x .non A Q = Q (.bl x.isNon) A := by cases x <;> rfl
/-! ### loops -/
theorem forR {lo : Int} {n : Nat} {g : DTG} {tb : DTS} {DD : DE} {σ : DS} {A : AH} (I : Nat → DS → AH → Prop) (h0 : I 0 σ A)
    (step : ∀ i σ A, i < n → I i σ A → g (.int (lo + i)) σ A fun σ2 A2 => tb { DD with nx := I (i + 1), ct := I (i + 1), bk := DD.nx } σ2 A2) (fin : ∀ σ A, I n σ A → DD.nx σ A) :
    ∃ (xs : List D) (I : Nat → DS → AH → Prop), I 0 σ A ∧ (∀ i σ A, i ≤ xs.length → I i σ A → (fun (_ : AH) xs => xs = rangeD lo n) A xs) ∧ (∀ i x σ A, xs[i]? = some x → I i σ A → g x σ A fun σ2 A2 => tb { DD with nx := I (i + 1), ct := I (i + 1), bk := DD.nx } σ2 A2) ∧ ∀ σ A, I xs.length σ A → DD.nx σ A := by
  refine ⟨rangeD lo n, I, h0, fun _ _ _ _ _ => rfl, fun i x σ A hx hi => ?_, ?_⟩
  · have lt : i < n := by
      have := (List.getElem?_eq_some_iff.mp hx).1
      rwa [rangeD_len] at this
    rw [rangeD_get lt] at hx
    cases hx
    exact step i σ A lt hi
  · rw [rangeD_len]; exact fin
theorem forL {a : Addr} {xs : List D} {g : DTG} {tb : DTS} {DD : DE} {σ : DS} {A : AH} (I : Nat → DS → AH → Prop) (h0 : I 0 σ A) (st : ∀ i σ A, i ≤ xs.length → I i σ A → A a = some (.lst xs))
    (step : ∀ i x σ A, xs[i]? = some x → I i σ A → g x σ A fun σ2 A2 => tb { DD with nx := I (i + 1), ct := I (i + 1), bk := DD.nx } σ2 A2) (fin : ∀ σ A, I xs.length σ A → DD.nx σ A) :
    ∃ (xs : List D) (I : Nat → DS → AH → Prop), I 0 σ A ∧ (∀ i σ A, i ≤ xs.length → I i σ A → (fun A xs => A a = some (.lst xs)) A xs) ∧ (∀ i x σ A, xs[i]? = some x → I i σ A → g x σ A fun σ2 A2 => tb { DD with nx := I (i + 1), ct := I (i + 1), bk := DD.nx } σ2 A2) ∧ ∀ σ A, I xs.length σ A → DD.nx σ A :=
  ⟨xs, I, h0, st, step, fin⟩
/-- a comprehension that changes nothing but its own list: f x the item, or none -/
theorem lc_of {S : DSrc} {g : DTG} {tt : DTT} {te : DTE} {σ : DS} {A : AH} {Q : DQ} {vs : List Nat} {xs : List D} (f : D → Option D) (hl : xs.length ≤ SL) (still : ∀ p o, A p = none → S (up A p o) xs)
    (body : ∀ x p o, x ∈ xs → A p = none → ∀ (K : D → AH → Prop) (N : AH → Prop), (∀ y, f x = some y → K y (up A p o)) → (f x = none → N (up A p o)) → g x (dwipe σ vs) (up A p o) fun σ2 A2 => tt σ2 A2 fun b A3 => if b = true then te σ2 A3 K else N A3)
    (q : ∀ p, A p = none → Q (.ref p) (up A p (.lst (xs.filterMap f)))) :
    ∃ xs : List D, ∀ p, A p = none → ∃ I : Nat → AH → Prop, I 0 (up A p (.lst [])) ∧ (∀ i A, i ≤ xs.length → I i A → S A xs) ∧
  (∀ i x A, xs[i]? = some x → I i A → g x (dwipe σ vs) A fun σ2 A2 => tt σ2 A2 fun b A3 => if b = true then te σ2 A3 fun y A4 => ∃ acc, A4 p = some (.lst acc) ∧ acc.length < SL ∧ I (i + 1) (up A4 p (.lst (acc ++ [y]))) else I (i + 1) A3) ∧
  ∀ A, I xs.length A → Q (.ref p) A := by
  refine ⟨xs, fun p hp => ⟨fun i A' => A' = up A p (.lst ((xs.take i).filterMap f)), rfl, fun i A' _ e => by rw [e]; exact still p _ hp, fun i x A' hx e => ?_, fun A' e => ?_⟩⟩
  · subst e
    have lt := (List.getElem?_eq_some_iff.mp hx).1
    have tk : xs.take (i + 1) = xs.take i ++ [x] := by rw [List.take_succ, hx]; rfl
    refine body x p _ (List.mem_of_getElem? hx) hp _ _ (fun y hy => ⟨(xs.take i).filterMap f, up_same, ?_, ?_⟩) fun hn => ?_
    · have := List.length_filterMap_le f (xs.take i)
      rw [List.length_take] at this
      omega
    · show _ = up A p (.lst ((xs.take (i + 1)).filterMap f))
      rw [up_up, tk, List.filterMap_append]
      simp [hy]
    · show _ = up A p (.lst ((xs.take (i + 1)).filterMap f))
      rw [tk, List.filterMap_append]
      simp [hn]
  · subst e
    rw [List.take_length]
    exact q p hp
/-- for .. in range(i, j) -/
theorem for_r2 {i j : Int} {t : DTA} {g : DTG} {tb : DTS} {DD : DE} {σ : DS} {A : AH} (s1 : small62 i) (s2 : small62 j) (I : Nat → DS → AH → Prop) (h0 : I 0 σ A)
    (step : ∀ k σ A, k < (j - i).toNat → I k σ A → g (.int (i + k)) σ A fun σ2 A2 => tb { DD with nx := I (k + 1), ct := I (k + 1), bk := DD.nx } σ2 A2) (fin : ∀ σ A, I (j - i).toNat σ A → DD.nx σ A) (ht : ∀ Q : List D → AH → Prop, Q [.int i, .int j] A → t σ A Q) :
    dFor (diR2 t) g tb DD σ A := ht _ ⟨s1, s2, forR I h0 step fin⟩
/-- for .. in range(j) -/
theorem for_r1 {j : Int} {t : DTA} {g : DTG} {tb : DTS} {DD : DE} {σ : DS} {A : AH} (s2 : small62 j) (I : Nat → DS → AH → Prop) (h0 : I 0 σ A)
    (step : ∀ k σ A, k < j.toNat → I k σ A → g (.int (0 + k)) σ A fun σ2 A2 => tb { DD with nx := I (k + 1), ct := I (k + 1), bk := DD.nx } σ2 A2) (fin : ∀ σ A, I j.toNat σ A → DD.nx σ A) (ht : ∀ Q : List D → AH → Prop, Q [.int j] A → t σ A Q) :
    dFor (diR1 t) g tb DD σ A := ht _ ⟨s2, forR I h0 step fin⟩
/-- the same, behind the call that gives the bound -/
theorem for_r1' {j : Int} {g : DTG} {tb : DTS} {DD : DE} {σ : DS} {A : AH} (s2 : small62 j) (I : Nat → DS → AH → Prop) (h0 : I 0 σ A)
    (step : ∀ k σ A, k < j.toNat → I k σ A → g (.int (0 + k)) σ A fun σ2 A2 => tb { DD with nx := I (k + 1), ct := I (k + 1), bk := DD.nx } σ2 A2) (fin : ∀ σ A, I j.toNat σ A → DD.nx σ A) :
    small62 j ∧ ∃ (xs : List D) (I : Nat → DS → AH → Prop), I 0 σ A ∧ (∀ i σ A, i ≤ xs.length → I i σ A → (fun (_ : AH) xs => xs = rangeD 0 j.toNat) A xs) ∧ (∀ i x σ A, xs[i]? = some x → I i σ A → g x σ A fun σ2 A2 => tb { DD with nx := I (i + 1), ct := I (i + 1), bk := DD.nx } σ2 A2) ∧ ∀ σ A, I xs.length σ A → DD.nx σ A := ⟨s2, forR I h0 step fin⟩
/-- for .. in xs -/
theorem for_l {a : Addr} {xs : List D} {t : DTE} {g : DTG} {tb : DTS} {DD : DE} {σ : DS} {A : AH} (h : A a = some (.lst xs)) (I : Nat → DS → AH → Prop) (h0 : I 0 σ A) (st : ∀ i σ A, i ≤ xs.length → I i σ A → A a = some (.lst xs))
    (step : ∀ i x σ A, xs[i]? = some x → I i σ A → g x σ A fun σ2 A2 => tb { DD with nx := I (i + 1), ct := I (i + 1), bk := DD.nx } σ2 A2) (fin : ∀ σ A, I xs.length σ A → DD.nx σ A) (ht : ∀ Q : D → AH → Prop, Q (.ref a) A → t σ A Q) :
    dFor (diL t) g tb DD σ A := ht _ ⟨⟨xs, h⟩, forL I h0 st step fin⟩
/-- [.. for .. in xs] -/
theorem lc_l {a : Addr} {xs : List D} {t : DTE} {g : DTG} {tt : DTT} {te : DTE} {σ : DS} {A : AH} {Q : DQ} {vs : List Nat} (f : D → Option D) (h : A a = some (.lst xs)) (hl : xs.length ≤ SL)
    (body : ∀ x p o, x ∈ xs → A p = none → ∀ (K : D → AH → Prop) (N : AH → Prop), (∀ y, f x = some y → K y (up A p o)) → (f x = none → N (up A p o)) → g x (dwipe σ vs) (up A p o) fun σ2 A2 => tt σ2 A2 fun b A3 => if b = true then te σ2 A3 K else N A3)
    (q : ∀ p, A p = none → Q (.ref p) (up A p (.lst (xs.filterMap f)))) (ht : ∀ Q : D → AH → Prop, Q (.ref a) A → t σ A Q) : dLc (diL t) g tt te vs σ A Q :=
  ht _ ⟨⟨xs, h⟩, lc_of f hl (fun p o hp => up_at h hp) body q⟩
theorem fm_some {f : D → D} {xs : List D} : xs.filterMap (fun x => some (f x)) = xs.map f := by
  induction xs with
  | nil => rfl
  | cons x xs ih => simp [List.filterMap_cons, ih]
theorem erase_perm {α : Type} : ∀ {l : List α} {i : Nat} (h : i < l.length), (l[i] :: l.eraseIdx i).Perm l
  | a :: l, 0, _ => List.Perm.refl _
  | a :: l, i + 1, h => by
    have h' : i < l.length := by simpa using h
    exact (List.Perm.swap a l[i] (l.eraseIdx i)).trans (List.Perm.cons a (erase_perm h'))
/-- for .. in e, e a call -/
def forTail (g : DTG) (tb : DTS) (DD : DE) (σ : DS) (x : D) (A : AH) : Prop := match x with
  | .ref a => (∃ xs, A a = some (.lst xs)) ∧ ∃ (xs : List D) (I : Nat → DS → AH → Prop), I 0 σ A ∧ (∀ i σ A, i ≤ xs.length → I i σ A → A a = some (.lst xs)) ∧
      (∀ i x σ A, xs[i]? = some x → I i σ A → g x σ A fun σ2 A2 => tb { DD with nx := I (i + 1), ct := I (i + 1), bk := DD.nx } σ2 A2) ∧ ∀ σ A, I xs.length σ A → DD.nx σ A
  | .cl l => ∃ (xs : List D) (I : Nat → DS → AH → Prop), I 0 σ A ∧ (∀ i σ A, i ≤ xs.length → I i σ A → xs = l) ∧
      (∀ i x σ A, xs[i]? = some x → I i σ A → g x σ A fun σ2 A2 => tb { DD with nx := I (i + 1), ct := I (i + 1), bk := DD.nx } σ2 A2) ∧ ∀ σ A, I xs.length σ A → DD.nx σ A
  | _ => False
theorem dFor_diL {t : DTE} {g : DTG} {tb : DTS} {DD : DE} {σ : DS} {A : AH} : dFor (diL t) g tb DD σ A = t σ A (forTail g tb DD σ) := rfl
theorem for_tail {a : Addr} {xs : List D} {g : DTG} {tb : DTS} {DD : DE} {σ : DS} {A : AH} (h : A a = some (.lst xs)) (I : Nat → DS → AH → Prop) (h0 : I 0 σ A) (st : ∀ i σ A, i ≤ xs.length → I i σ A → A a = some (.lst xs))
    (step : ∀ i x σ A, xs[i]? = some x → I i σ A → g x σ A fun σ2 A2 => tb { DD with nx := I (i + 1), ct := I (i + 1), bk := DD.nx } σ2 A2) (fin : ∀ σ A, I xs.length σ A → DD.nx σ A) :
    forTail g tb DD σ (.ref a) A := ⟨⟨xs, h⟩, forL I h0 st step fin⟩
theorem fAdd_lst {A : AH} {a b : Addr} {xs ys : List D} {Q : DQ} (h1 : A a = some (.lst xs)) (h2 : A b = some (.lst ys)) (hl : xs.length + ys.length ≤ SL) (q : ∀ p, A p = none → Q (.ref p) (up A p (.lst (xs ++ ys)))) : fAdd (.ref a) (.ref b) A Q := by
  show (match A a, A b with | some (.lst xs), some (.lst ys) => xs.length + ys.length ≤ SL ∧ ∀ p, A p = none → Q (.ref p) (up A p (.lst (xs ++ ys))) | _, _ => False)
  rw [h1, h2]
  exact ⟨hl, q⟩
theorem fSl_lst {A : AH} {a : Addr} {xs : List D} {lo hi : Option Int} {Q : DQ} (h : A a = some (.lst xs)) (q : ∀ p, A p = none → Q (.ref p) (up A p (.lst (cutD xs lo hi)))) : fSl (.ref a) lo hi A Q := by
  show (match A a with | some (.lst xs) => ∀ p, A p = none → Q (.ref p) (up A p (.lst (cutD xs lo hi))) | _ => False)
  rw [h]
  exact q
theorem mem_cutD {α : Type} {xs : List α} {lo hi : Option Int} {x : α} (h : x ∈ cutD xs lo hi) : x ∈ xs := List.mem_of_mem_drop (List.mem_of_mem_take h)
theorem len_cutD {α : Type} {xs : List α} {lo hi : Option Int} : (cutD xs lo hi).length ≤ xs.length := by
  unfold cutD
  rw [List.length_take, List.length_drop]
  omega
/-! ### dicts -/
theorem mem_dput {α : Type} {kvs : List (D × α)} {k : D} {v : α} {p : D × α} (h : p ∈ dput kvs k v) : p = (k, v) ∨ (p ∈ kvs ∧ p.1 ≠ k) := by
  unfold dput at h
  split at h
  · obtain ⟨q, mq, e⟩ := List.mem_map.mp h
    split at e
    · rename_i hk
      left; rw [← e, hk]
    · rename_i hk
      right; subst e; exact ⟨mq, hk⟩
  · rename_i hn
    rcases List.mem_append.mp h with m | m
    · right
      refine ⟨m, fun e => hn ?_⟩
      exact List.any_eq_true.mpr ⟨p, m, decide_eq_true e⟩
    · left; simpa using m
theorem nodup_dput {α : Type} {kvs : List (D × α)} {k : D} {v : α} (h : (kvs.map (·.1)).Nodup) : ((dput kvs k v).map (·.1)).Nodup := by
  rw [keys_dput]
  split
  · exact h
  · rename_i hn
    refine List.nodup_append.mpr ⟨h, by simp, fun x hx y hy e => ?_⟩
    simp at hy
    subst hy e
    exact hn (dget_mem.mpr hx)
theorem len_dput {α : Type} {kvs : List (D × α)} {k : D} {v : α} : (dput kvs k v).length ≤ kvs.length + 1 := by
  have := congrArg List.length (keys_dput kvs k v)
  rw [List.length_map] at this
  rw [this]
  split <;> simp
theorem dget_cons {α : Type} {q : D × α} {ps : List (D × α)} {k : D} : dget (q :: ps) k = if q.1 = k then some q.2 else dget ps k := by
  unfold dget
  by_cases c : q.1 = k
  · simp [c]
  · simp [c]
theorem dget_repl {α : Type} {k k' : D} {v : α} : ∀ {kvs : List (D × α)}, dget (kvs.map fun p => if p.1 = k then (p.1, v) else p) k' = if k' = k then (if (dget kvs k).isSome then some v else none) else dget kvs k'
  | [] => by simp [dget]
  | q :: ps => by
    rw [List.map_cons, dget_cons, dget_repl (kvs := ps), dget_cons, dget_cons]
    by_cases c : q.1 = k
    · rw [if_pos c, if_pos c]
      by_cases e : k' = k
      · subst e
        simp [c]
      · have ne : ¬ q.1 = k' := fun z => e (z.symm.trans c)
        simp [e, ne]
    · rw [if_neg c, if_neg c]
      by_cases e : k' = k
      · subst e
        simp [c]
      · simp [e]
theorem dget_dput {α : Type} {kvs : List (D × α)} {k k' : D} {v : α} : dget (dput kvs k v) k' = if k' = k then some v else dget kvs k' := by
  unfold dput
  rw [dput_any]
  split
  · rename_i h
    rw [dget_repl, h]
    rfl
  · rename_i h
    have hn : dget kvs k = none := by
      cases z : dget kvs k with
      | none => rfl
      | some d => rw [z] at h; exact absurd rfl h
    have app : ∀ ps : List (D × α), dget (ps ++ [(k, v)]) k' = match dget ps k' with | some d => some d | none => if k = k' then some v else none := by
      intro ps
      induction ps with
      | nil =>
        rw [List.nil_append, dget_cons]
        rfl
      | cons q ps ih =>
        rw [List.cons_append, dget_cons, ih, dget_cons]
        by_cases c : q.1 = k' <;> simp [c]
    rw [app]
    by_cases e : k' = k
    · subst e; rw [hn]
    · have ne : ¬ k = k' := fun z => e z.symm
      rw [if_neg e]
      cases dget kvs k' <;> simp [ne]
theorem pairsB_refl {kvs : List (D × D)} (nd : (kvs.map (·.1)).Nodup) : pairsB (fun x y => decide (x = y)) kvs kvs = true := by
  unfold pairsB
  rw [List.all_eq_true]
  intro p m
  obtain ⟨j, hj, e⟩ := List.getElem_of_mem m
  have : dget kvs p.1 = some p.2 := dget_at (j := j) nd (by rw [List.getElem?_eq_getElem hj, e])
  rw [this]
  simp
theorem dEqB_refl {kvs : List (D × D)} (nd : (kvs.map (·.1)).Nodup) : dEqB kvs kvs = true := by
  unfold dEqB
  rw [pairsB_refl nd]
  simp
theorem dget_in {kvs : List (D × D)} (nd : (kvs.map (·.1)).Nodup) {p : D × D} (m : p ∈ kvs) : dget kvs p.1 = some p.2 := by
  obtain ⟨j, hj, e⟩ := List.getElem_of_mem m
  exact dget_at (j := j) nd (by rw [List.getElem?_eq_getElem hj, e])
theorem dget_mem2 {kvs : List (D × D)} {k d : D} (h : dget kvs k = some d) : (k, d) ∈ kvs := by
  unfold dget at h
  cases f : kvs.find? fun p => decide (p.1 = k) with
  | none => rw [f] at h; cases h
  | some p =>
    rw [f] at h
    have e1 := List.find?_some f
    have e2 : p.1 = k := of_decide_eq_true e1
    have e3 : p.2 = d := by simpa using h
    have := List.mem_of_find?_eq_some f
    obtain ⟨a, b⟩ := p
    cases e2; cases e3
    exact this
theorem nd_len : ∀ (l m : List D), l.Nodup → (∀ x ∈ l, x ∈ m) → l.length ≤ m.length
  | [], _, _, _ => Nat.zero_le _
  | x :: l, m, nd, h => by
    rw [List.nodup_cons] at nd
    have hx := h x List.mem_cons_self
    have ih := nd_len l (m.erase x) nd.2 fun y my => (List.mem_erase_of_ne (fun e => nd.1 (by rw [← e]; exact my))).mpr (h y (List.mem_cons_of_mem _ my))
    rw [List.length_erase_of_mem hx] at ih
    have := List.length_pos_of_mem hx
    rw [List.length_cons]
    omega
theorem dEqB_of {ka kb : List (D × D)} (na : (ka.map (·.1)).Nodup) (nb : (kb.map (·.1)).Nodup) (h : ∀ k, dget ka k = dget kb k) : dEqB ka kb = true := by
  have l1 : (ka.map (·.1)).length ≤ (kb.map (·.1)).length := nd_len _ _ na fun x m => dget_mem.mp (by rw [← h]; exact dget_mem.mpr m)
  have l2 : (kb.map (·.1)).length ≤ (ka.map (·.1)).length := nd_len _ _ nb fun x m => dget_mem.mp (by rw [h]; exact dget_mem.mpr m)
  rw [List.length_map, List.length_map] at l1 l2
  unfold dEqB
  rw [decide_eq_true (show ka.length = kb.length by omega), Bool.true_and]
  unfold pairsB
  rw [List.all_eq_true]
  intro p m
  rw [← h, dget_in na m]
  simp
theorem dEqB_put {kvs : List (D × D)} {k v : D} (hv : dget kvs k ≠ some v) : dEqB (dput kvs k v) kvs = false := by
  unfold dEqB
  cases hg : dget kvs k with
  | none =>
    have : (dput kvs k v).length = kvs.length + 1 := by
      have := congrArg List.length (keys_dput kvs k v)
      rw [hg] at this
      simpa using this
    rw [this]
    simp
  | some o =>
    have m : (k, v) ∈ dput kvs k v := dget_mem2 (by rw [dget_dput, if_pos rfl])
    have : pairsB (fun x y => decide (x = y)) kvs (dput kvs k v) = false := by
      unfold pairsB
      rw [Bool.eq_false_iff]
      intro h
      have := List.all_eq_true.mp h _ m
      rw [hg] at this
      have e : v = o := of_decide_eq_true this
      exact hv (by rw [hg, e])
    rw [this, Bool.and_false]
/-- [.. for .. in d], f k the item -/
theorem lc_d {a : Addr} {kvs : List (D × D)} {t : DTE} {g : DTG} {tt : DTT} {te : DTE} {σ : DS} {A : AH} {Q : DQ} {vs : List Nat} (f : D → Option D) (h : A a = some (.dic kvs)) (hl : kvs.length ≤ SL)
    (body : ∀ k p o od, k ∈ kvs.map (·.1) → A p = none → ∀ (K : D → AH → Prop) (N : AH → Prop), (∀ y, f k = some y → K y (up (up A a (.fdic od kvs)) p o)) → (f k = none → N (up (up A a (.fdic od kvs)) p o)) →
      g k (dwipe σ vs) (up (up A a (.fdic od kvs)) p o) fun σ2 A2 => tt σ2 A2 fun b A3 => if b = true then te σ2 A3 K else N A3)
    (q : ∀ p, A p = none → Q (.ref p) (up A p (.lst ((kvs.map (·.1)).filterMap f)))) (ht : ∀ (A' : AH) (Q : D → AH → Prop), Q (.ref a) A' → t σ A' Q) : dLockE (dLc (diD t) g tt te vs) σ A Q := by
  refine .inr ⟨a, kvs, h, fun od => ht _ _ ?_⟩
  refine ⟨od, kvs, up_same, ?_⟩
  have fr : ∀ p, up A a (.fdic od kvs) p = none → A p = none := fun p hp => by
    by_cases e : p = a
    · subst e; rw [up_same] at hp; cases hp
    · rw [up_ne e] at hp; exact hp
  refine lc_of (S := fun A xs => ∃ kvs, A a = some (.fdic od kvs) ∧ xs = kvs.map (·.1)) (Q := fun d A' => A' a = some (.fdic od kvs) ∧ Q d (up A' a (.dic kvs))) (xs := kvs.map (·.1)) f (by rw [List.length_map]; exact hl) (fun p o hp => ⟨kvs, up_at up_same hp, rfl⟩) (fun k p o mk hp K N h1 h2 => body k p o od mk (fr p hp) K N h1 h2) fun p hp => ?_
  have hp' := fr p hp
  have ne : a ≠ p := ne_nn h hp'
  refine ⟨by rw [up_ne ne, up_same], ?_⟩
  have e : up (up (up A a (.fdic od kvs)) p (.lst ((kvs.map (·.1)).filterMap f))) a (.dic kvs) = up A p (.lst ((kvs.map (·.1)).filterMap f)) := by
    funext b
    unfold up
    by_cases c : b = a
    · subst c; rw [if_pos rfl, if_neg ne, h]
    · rw [if_neg c]
      by_cases c2 : b = p
      · rw [if_pos c2, if_pos c2]
      · rw [if_neg c2, if_neg c2, if_neg c]
  rw [e]
  exact q p hp'
end DL
set_option Elab.async false
set_option linter.all false
set_option maxRecDepth 100000
set_option maxHeartbeats 1000000
/-! PL2: more plain rules: dict comprehensions, equality and membership of lists, sorted. -/
namespace DL
open PySem L2
/-- {k: v for .. in xs} -/
theorem dc_l {a : Addr} {xs : List D} {t : DTE} {g : DTG} {tt : DTT} {tk tv : DTE} {σ : DS} {A : AH} {Q : DQ} {vs : List Nat} (kf vf : D → D) (b : Bool) (h : A a = some (.lst xs)) (hl : xs.length < SL) (hk : ∀ x ∈ xs, isKey (kf x) = true ∧ isTup (kf x) = b)
    (body : ∀ x p o, x ∈ xs → A p = none → ∀ (K : D → D → AH → Prop) (N : AH → Prop), K (kf x) (vf x) (up A p o) → g x (dwipe σ vs) (up A p o) fun σ2 A2 => tt σ2 A2 fun b A3 => if b = true then tk σ2 A3 fun y A4 => tv σ2 A4 fun z A5 => K y z A5 else N A3)
    (q : ∀ p, A p = none → Q (.ref p) (up A p (.dic (xs.foldl (fun kvs x => dput kvs (kf x) (vf x)) [])))) (ht : ∀ Q : D → AH → Prop, Q (.ref a) A → t σ A Q) : dDc (diL t) g tt tk tv vs σ A Q := by
  refine ht _ ⟨⟨xs, h⟩, xs, fun p hp => ⟨fun i A' => A' = up A p (.dic ((xs.take i).foldl (fun kvs x => dput kvs (kf x) (vf x)) [])), rfl, fun i A' _ e => by rw [e]; exact up_at h hp, fun i x A' hx e => ?_, fun A' e => ?_⟩⟩
  · subst e
    have lt := (List.getElem?_eq_some_iff.mp hx).1
    have tk' : xs.take (i + 1) = xs.take i ++ [x] := by rw [List.take_succ, hx]; rfl
    have all : ∀ (l : List D), (∀ x ∈ l, x ∈ xs) → ∀ kvs : List (D × D), (∀ p ∈ kvs, isTup p.1 = b) → (∀ p ∈ l.foldl (fun kvs x => dput kvs (kf x) (vf x)) kvs, isTup p.1 = b) ∧ (l.foldl (fun kvs x => dput kvs (kf x) (vf x)) kvs).length ≤ kvs.length + l.length := by
      intro l
      induction l with
      | nil => intro _ kvs hh; exact ⟨hh, Nat.le_refl _⟩
      | cons y l ih =>
        intro hm kvs hh
        obtain ⟨a1, a2⟩ := ih (fun z m => hm z (List.mem_cons_of_mem _ m)) (dput kvs (kf y) (vf y)) (fun p m => by
          rcases mem_dput m with rfl | ⟨m, _⟩
          · exact (hk y (hm y List.mem_cons_self)).2
          · exact hh p m)
        refine ⟨a1, Nat.le_trans a2 ?_⟩
        have := len_dput (kvs := kvs) (k := kf y) (v := vf y)
        rw [List.length_cons]
        omega
    obtain ⟨a1, a2⟩ := all (xs.take i) (fun z m => List.mem_of_mem_take m) [] (fun _ z => nomatch z)
    obtain ⟨k1, k2⟩ := hk x (List.mem_of_getElem? hx)
    refine body x p _ (List.mem_of_getElem? hx) hp _ _ ⟨_, up_same, ?_, ?_, ?_⟩
    · unfold okK
      rw [k1, Bool.true_and, List.all_eq_true]
      intro z mz
      rw [a1 z mz, k2]
      simp
    · rw [List.length_take] at a2
      simp at a2
      omega
    · show _ = up A p (.dic ((xs.take (i + 1)).foldl (fun kvs x => dput kvs (kf x) (vf x)) []))
      rw [up_up, tk', List.foldl_append]
      rfl
  · subst e
    rw [List.take_length]
    exact q p hp
theorem eqvs_all {xs ys : List D} (hx : xs.all plB = true) (hy : ys.all plB = true) : T.eqvs (plTs xs) (plTs ys) = decide (xs = ys) := eqvs_pl xs ys (pls_of hx).1 (pls_of hy).1
theorem mEq_lst {A : AH} {a b : Addr} {xs ys : List D} {neg : Bool} {Q : DQ} (ha : A a = some (.lst xs)) (hb : A b = some (.lst ys)) (hx : xs.all plB = true) (hy : ys.all plB = true) (q : Q (.bl (neg ^^ decide (xs = ys))) A) : mEq neg (.ref a) (.ref b) A Q := by
  unfold mEq
  rw [if_neg (by simp [plB, isPl])]
  show (if isDcB A a then _ else fEqn neg (.ref a) (.ref b) A Q)
  rw [lst_nd ha, if_neg (by simp)]
  obtain ⟨p1, p2⟩ := pls_of hx
  obtain ⟨p3, p4⟩ := pls_of hy
  refine ⟨.lst (plTs xs), .lst (plTs ys), .inl ⟨a, xs, rfl, ha, snaps_pl _ p1⟩, .inl ⟨b, ys, rfl, hb, snaps_pl _ p3⟩, by simp only [T.dep]; omega, by simp only [T.dep]; omega, ?_⟩
  have : T.eqv (.lst (plTs xs)) (.lst (plTs ys)) = decide (xs = ys) := eqvs_all hx hy
  rw [this]
  exact q
theorem mIn_lst {A : AH} {a : Addr} {xs : List D} {x : D} {neg : Bool} {Q : DQ} (ha : A a = some (.lst xs)) (hx : plB x = true) (hy : xs.all plB = true) (q : Q (.bl (neg ^^ decide (x ∈ xs))) A) : mIn neg x (.ref a) A Q := by
  show (if isDcB A a then _ else fInL neg x (.ref a) A Q)
  rw [lst_nd ha, if_neg (by simp)]
  show (match listOf A (.ref a) with | some xs => plB x = true ∧ xs.all plB = true ∧ Q (.bl (neg ^^ decide (x ∈ xs))) A | none => False)
  have : listOf A (.ref a) = some xs := by
    show (match A a with | some (.lst xs) => some xs | _ => none) = some xs
    rw [ha]
  rw [this]
  exact ⟨hx, hy, q⟩
theorem sorted_lst {A : AH} {a : Addr} {xs : List D} {Q : DQ} (ha : A a = some (.lst xs)) (hl : xs.length ≤ SL) (ok : sortOk xs = true) (q : ∀ p, A p = none → Q (.ref p) (up A p (.lst (sortD xs)))) : fSorted [.ref a] A Q := by
  show (match A a with | some (.lst xs) => _ | some (.dic kvs) => _ | some (.fdic _ kvs) => _ | _ => _)
  rw [ha]
  exact ⟨hl, ok, q⟩
theorem sorted_dic {A : AH} {a : Addr} {kvs : List (D × D)} {Q : DQ} (ha : A a = some (.dic kvs)) (ok : sortOk (kvs.map (·.1)) = true) (q : ∀ p, A p = none → Q (.ref p) (up A p (.lst (sortD (kvs.map (·.1)))))) : fSorted [.ref a] A Q := by
  show (match A a with | some (.lst xs) => _ | some (.dic kvs) => _ | some (.fdic _ kvs) => _ | _ => _)
  rw [ha]
  exact ⟨ok, q⟩
theorem mem_sortD {xs : List D} {x : D} : x ∈ sortD xs ↔ x ∈ xs := (sortD_perm xs).mem_iff
/-- two rows of keys with the same keys, each once, are sorted alike -/
theorem sortD_same {xs ys : List D} (hk : ∀ d ∈ xs, isKey d = true) (p : ys.Perm xs) : sortD ys = sortD xs :=
  sortD_uniq hk (sortD_srtd ys) ((sortD_perm ys).trans p)
theorem perm_nodup : ∀ {l m : List D}, l.Nodup → m.Nodup → (∀ x, x ∈ l ↔ x ∈ m) → l.Perm m
  | [], m, _, _, h => by
    cases m with
    | nil => exact List.Perm.refl _
    | cons y m => exact absurd ((h y).mpr List.mem_cons_self) (by simp)
  | x :: l, m, nd, nm, h => by
    rw [List.nodup_cons] at nd
    have hx := (h x).mp List.mem_cons_self
    have ih := perm_nodup nd.2 (nm.erase x) fun y => by
      rw [List.Nodup.mem_erase_iff nm, ← h y]
      constructor
      · intro my
        exact ⟨fun e => nd.1 (by rw [← e]; exact my), List.mem_cons_of_mem _ my⟩
      · rintro ⟨ne, my⟩
        rcases List.mem_cons.mp my with e | my
        · exact absurd e ne
        · exact my
    exact (ih.cons x).trans (List.perm_cons_erase hx).symm
theorem dLc_call {t : DTE} {g : DTG} {tt : DTT} {te : DTE} {vs : List Nat} {σ : DS} {A : AH} {Q : DQ} : dLc (diL t) g tt te vs σ A Q = t σ A fun x A1 => dLc (diL (dC x)) g tt te vs σ A1 Q := rfl
theorem dFor_call {t : DTE} {g : DTG} {tb : DTS} {DD : DE} {σ : DS} {A : AH} : dFor (diL t) g tb DD σ A = t σ A fun x A1 => dFor (diL (dC x)) g tb DD σ A1 := rfl
end DL
set_option Elab.async false
set_option linter.all false
set_option maxRecDepth 100000
set_option maxHeartbeats 1000000
/-! PL3: plain rules: while, dict's setdefault, keys, values, index; same data are equal. -/
namespace DL
open PySem L2
theorem while_of {c : DTT} {tb : DTS} {DD : DE} {σ : DS} {A : AH} (I : Nat → DS → AH → Prop) (m : Nat) (h0 : I m σ A)
    (step : ∀ m σ A, I m σ A → c σ A fun b A1 => if b = true then tb { DD with nx := fun σ' A' => ∃ m', m' < m ∧ I m' σ' A', ct := fun σ' A' => ∃ m', m' < m ∧ I m' σ' A', bk := DD.nx } σ A1 else DD.nx σ A1) : dWhile c tb DD σ A :=
  ⟨I, ⟨m, h0⟩, step⟩
theorem setd_old {A : AH} {a : Addr} {kvs : List (D × D)} {k d d' : D} {Q : DQ} (h : A a = some (.dic kvs)) (ok : okK kvs k = true) (hl : kvs.length < SL) (e : dget kvs k = some d') (q : Q d' A) : fSetd (.ref a) [k, d] A Q := by
  show (match A a with | some (.dic kvs) => okK kvs k = true ∧ kvs.length < SL ∧ (match dget kvs k with | some d' => Q d' A | none => Q d (up A a (.dic (dput kvs k d)))) | _ => False)
  rw [h]
  refine ⟨ok, hl, ?_⟩
  rw [e]
  exact q
theorem setd_new {A : AH} {a : Addr} {kvs : List (D × D)} {k d : D} {Q : DQ} (h : A a = some (.dic kvs)) (ok : okK kvs k = true) (hl : kvs.length < SL) (e : dget kvs k = none) (q : Q d (up A a (.dic (dput kvs k d)))) : fSetd (.ref a) [k, d] A Q := by
  show (match A a with | some (.dic kvs) => okK kvs k = true ∧ kvs.length < SL ∧ (match dget kvs k with | some d' => Q d' A | none => Q d (up A a (.dic (dput kvs k d)))) | _ => False)
  rw [h]
  refine ⟨ok, hl, ?_⟩
  rw [e]
  exact q
theorem index_lst {A : AH} {a : Addr} {xs : List D} {d : D} {Q : DQ} (h : A a = some (.lst xs)) (hd : plB d = true) (hx : xs.all plB = true) (m : d ∈ xs) (q : Q (.int (xs.idxOf d : Nat)) A) : fIndex (.ref a) [d] A Q := by
  show (match A a with | some (.lst ds) => plB d = true ∧ ds.all plB = true ∧ d ∈ ds ∧ Q (.int (ds.idxOf d : Nat)) A | _ => False)
  rw [h]
  exact ⟨hd, hx, m, q⟩
theorem nlen_dic {A : AH} {a : Addr} {kvs : List (D × D)} {Q : DQ} {b : Bool} (h : dicGetD A a = some kvs) (hb : ∀ p ∈ kvs, isTup p.1 = b) (q : Q (.int kvs.length) A) : nLen [.ref a] A Q := by
  show (match dicGetD A a with | some kvs => (∃ b, ∀ p ∈ kvs, isTup p.1 = b) ∧ Q (.int kvs.length) A | none => False)
  rw [h]
  exact ⟨⟨b, hb⟩, q⟩
theorem nlist_dic {A : AH} {a : Addr} {kvs : List (D × D)} {Q : DQ} (h : dicGetD A a = some kvs) (q : ∀ p, A p = none → Q (.ref p) (up A p (.lst (kvs.map (·.1))))) : nList [.ref a] A Q := by
  show (match dicGetD A a with | some kvs => ∀ p, A p = none → Q (.ref p) (up A p (.lst (kvs.map (·.1)))) | none => False)
  rw [h]
  exact q
/-- != and == of two tuples of the same contents, with lists in them -/
theorem mEq_snap {A : AH} {l m : List D} {t : T} {neg : Bool} {Q : DQ} (np : plB (.tup l) = false) (h1 : Snap A (.tup l) t) (h2 : Snap A (.tup m) t) (hd : t.dep ≤ 64) (q : Q (.bl (neg ^^ true)) A) : mEq neg (.tup l) (.tup m) A Q := by
  unfold mEq
  rw [np, Bool.false_and, if_neg (by simp)]
  show fEqn neg (.tup l) (.tup m) A Q
  refine ⟨t, t, h1, h2, hd, hd, ?_⟩
  rw [T.eqv_refl]
  exact q
end DL
set_option Elab.async false
set_option linter.all false
set_option maxRecDepth 100000
set_option maxHeartbeats 4000000
/-! DL23: all(test for x in text) where the test may read the module's globals; the def's table of code objects. -/
namespace DL
open PySem PySem.Spec PyProof.Rows L2 GxR
/-- the element, read over the module's globals: a test of the sign c -/
def EltG (X : Cx) (scope : Scope) (x : Str) (elt : Expr) (pb : Nat → Bool) : Prop :=
  ∀ (cenv : Env) (A' : Around) (E' : Value → Shared → Prop) (c : Nat) (t : Tok) (s₂ : Shared) (m₂ : Str → Option Value), cenv.scope = scope → cenv.globals = mainGlobals → s₂.heap.Ns mainGlobals X.mg → s₂.heap.Ns cenv.locals m₂ → m₂ x = some (.str ⟨#[c]⟩ t) →
    wpAny (model X.prog X.w) A' (eval elt cenv) (fun y s₃ => y = .bool (pb c) ∧ Keeps s₂ s₃) E' s₂
section
variable {X : Cx} {pins : List (Addr × Obj)} {σ : L2.St} {H : Hp} {s : Shared}
/-- x in G, G a text among the globals -/
def inB (g : List Nat) (c : Nat) : Bool := !(Builtin.Str.occurrences ⟨g.toArray⟩ ⟨#[c]⟩ 0 (⟨g.toArray⟩ : Str).length 1).isEmpty
theorem elt_in {scope : Scope} {x y : Str} {g : List Nat} {u : Tok} {p1 p2 p3 : Pos} (hm : X.mg y = some (.str ⟨g.toArray⟩ u)) (hk : scope.kind = .function) (hl : scope.names.lookup x = some .local) (hy : ∀ cenv : Env, cenv.scope = scope → cenv.kindOf y = some .globalImplicit)
    (hd : (x == ("__debug__" : Str)) = false := by decide) (hd2 : (y == ("__debug__" : Str)) = false := by decide) : EltG X scope x (.Compare (.Name x p1) [.In] [.Name y p2] p3) (inB g) := by
  intro cenv A' E' c t s₂ m₂ hs hg hn hl2 hx
  refine wpAny_Compare1 (wpAny_Name (wpAny_loadName_local (by rw [hs]; exact hk) (show cenv.scope.names.lookup x = some .local by rw [hs]; exact hl) hl2 hx ?_) hd)
  refine Calls.Name_function_global (by rw [hs]; exact hk) (hy cenv hs) (Calls.loadGlobal_global (by rw [hg]; exact hn) hm ?_) hd2
  exact PySem.P.in_str ⟨rfl, keeps_refl _⟩
/-- the generator over the signs of a text is made: it stands Ready -/
theorem gen_G {c P : Addr} {elt iter : Expr} {x : Str} {px gpos : Pos} {scope : Scope} {pb : Nat → Bool} {te : TE} {k : Nat} {Q' : Value → Shared → Prop} {R : Str → Hp → Prop}
    (hr : Room k X.A) (TB : TabB X.base X.mg c P) (hcode : X.env.code = .ref c) (S : GenS X.env scope x) (hi : PE X iter te) (hel : EltG X scope x elt pb) (hs : ∀ v, genFold iter X.env v = pure v) (I : Inv X pins σ H s)
    (h : te σ H fun v H1 => ∃ a : Str, v = .str a ∧ TabG H1 P ∧ R a H1) (hQ : ∀ a H1 g s5, R a H1 → Ready X pins σ H1 P a pb g s5 → Q' (.ref g) s5) :
    wpAny (model X.prog X.w) X.A (eval (.GeneratorExp elt [⟨.Name x px, iter, [], 0⟩] scope gpos) X.env) Q' X.xe s := by
  refine wpAny_GeneratorExp_walksQ hr.hd S.co (closure_ok S.free) S.cell S.dot S.loc S.kind (by have := hr.dp; omega) (thn (hi.run pins s σ H _ I h) fun xv s1 ⟨v, H1, I1, r1, q1⟩ => ?_) hs
  obtain ⟨a, rfl, ⟨ps, hP, ht⟩, hR⟩ := q1
  obtain ⟨t, rfl⟩ := _root_.id r1
  refine wpAny_pyIter_str fun o St W hst => ?_
  have hPs : s1.heap.get? P = some { cls := .none, data := .fields ps } := I1.hok P _ hP
  have hP2 : (s1.heap.push o).get? P = some { cls := .none, data := .fields ps } := Heap.get?_push_of_some _ hPs
  have cd : PySem.W.CodeHd (s1.heap.push o) c P := TB.code.keeps fun b u e => Heap.get?_push_of_some _ (I1.bk b u e)
  have lim2 : (s1.heap.push o).NoLimit := I1.nolimit.push o
  have sz2 : (s1.heap.push o).objs.size = s1.heap.objs.size + 1 := Heap.size_push ..
  have ltP : P < s1.heap.objs.size := Heap.lt_size hPs
  have notP : ∀ b u, X.base.get? b = some u → b ≠ P := fun b u e z => by
    have := (I1.bs b u e).2
    rw [z, hP] at this; cases this
  have stP : cStatics ≠ P := fun e => by
    obtain ⟨_, ⟨o', es, ep, ho, hd, _⟩, _⟩ := I1.nolimit
    rw [e, hPs] at ho
    cases ho
    cases hd
  have stL : cStatics < s1.heap.objs.size := let ⟨_, hns, _⟩ := I1.nolimit; hns.lt
  -- what follows the code object, found in the table or made anew
  have next : ∀ (code : Value) (h3 : Heap) (tk : Nat) (ps' : Array Value), Heap.ExtBut P (s1.heap.push o) h3 → s1.heap.objs.size < h3.objs.size → h3.get? P = some { cls := .none, data := .fields ps' } → (∃ more, ps' = ps ++ more) → TriplesOk ps'.toList →
      wpAny (model X.prog X.w) X.A (builtinsFor X.env.globals X.env.builtins) (fun bi s₄ =>
        ∃ Ia fp wr n₀ Pf St₀ pz F, Value.ref s1.heap.objs.size = .ref Ia ∧ (∀ A' : Around, A'.handled = none → Walks X.prog X.w A' Ia fp wr n₀ Pf St₀) ∧ St₀ 0 s₄.heap ∧ (∀ b ∈ fp, b < s₄.heap.objs.size) ∧ s₄.heap.NoLimit ∧ cStatics ∉ wr ∧
          (∀ href : Heap, (∀ b o, s₄.heap.get? b = some o → href.get? b = some o) →
            QuietGen X.prog X.w (genEnv scope (cloFrom X.env.cells scope.names []) s₄.heap.objs.size code bi X.env) x [] elt (List.range s₄.heap.objs.size) wr Pf pz F href) ∧
          (∀ g h₅ tk gs, gs.bare = true → s₄.heap.objs.size < g → h₅.objs.size = g + 1 → (∀ b o, s₄.heap.get? b = some o → h₅.get? b = some o) →
            WalksS X.prog X.w X.A.in4 g (g :: s₄.heap.objs.size :: List.range s₄.heap.objs.size) (s₄.heap.objs.size :: wr) (GenOnlyQ s₄.gens.size) (passing pz n₀ 0).length
              (fun j y => ∃ i, (passing pz n₀ 0)[j]? = some i ∧ F i y) (GenAt X.prog X.w X.A.in4 g s₄.gens.size s₄.heap.objs.size (List.range s₄.heap.objs.size) wr pz n₀ F) →
            GenAt X.prog X.w X.A.in4 g s₄.gens.size s₄.heap.objs.size (List.range s₄.heap.objs.size) wr pz n₀ F 0 { s₄ with gens := s₄.gens.push gs, toks := tk, heap := h₅ } →
            Q' (.ref g) { s₄ with gens := s₄.gens.push gs, toks := tk, heap := h₅ })) X.xe { s1 with heap := h3, toks := tk } := by
    rintro code h3 tk _ hx hlt hP3 ⟨more, rfl⟩ ht3
    obtain ⟨bm, ob, e1, e2, e3, e4, e5, e6, e7, e8⟩ := TB.bm
    have old : ∀ b u, b ≠ P → s1.heap.get? b = some u → h3.get? b = some u := fun b u hb e => hx b u hb (Heap.get?_push_of_some _ e)
    have glob3 : h3.Ns mainGlobals X.mg := ((I1.mod.glob.keeps I1.bk).push o).extBut hx TB.gP
    refine wpAny_builtinsFor (m := X.mg) (by rw [I1.ok.glob]; exact glob3) e1 e2 (old _ _ e4 (I1.bk _ _ e5)) e6 e7 e8 ?_
    refine ⟨s1.heap.objs.size, [s1.heap.objs.size], [s1.heap.objs.size], a.cps.size, SignAt a, St, (fun _ => true), (fun i y => ∃ cc, a.cps[i]? = some cc ∧ y = .bool (pb cc)), rfl, W, ?_, ?_, lim2.extBut hx stP, ?_, fun href hhref => ⟨?_, ?_⟩, ?_⟩
    · refine (W X.A hr.hd).frame _ _ _ hst fun b hb u e => hx b u (fun z => ?_) e
      have z2 : b = s1.heap.objs.size := by simpa using hb
      rw [← z, z2] at ltP
      exact Nat.lt_irrefl _ ltP
    · intro b hb
      have z2 : b = s1.heap.objs.size := by simpa using hb
      rw [z2]; exact hlt
    · intro z
      have z2 : cStatics = s1.heap.objs.size := by simpa using z
      rw [z2] at stL
      exact Nat.lt_irrefl _ stL
    · intro A' E' i v s₂ m₂ hA hPv hn hm hk
      simp only [List.forIn_nil]
      exact wpAny_pure ⟨rfl, keeps_refl _⟩
    · intro A' E' i v s₂ m₂ hA hPv hp hn hm hk
      obtain ⟨cc, u, hcc, rfl⟩ := hPv
      have base2 : ∀ b ob, X.base.get? b = some ob → s₂.heap.get? b = some ob := fun b ob e => by
        have b1 := I1.bk b ob e
        have l1 := Heap.lt_size b1
        have z1 : (b : Nat) < s1.heap.objs.size := l1
        refine hk b (List.mem_range.mpr (Nat.lt_trans l1 hlt)) (fun z => ?_) ob (hhref _ _ (old b ob (notP b ob e) b1))
        have z2 : b = s1.heap.objs.size := by simpa using z
        rw [z2] at l1
        exact Nat.lt_irrefl _ l1
      exact wpAny_mono (hel _ A' E' cc u s₂ m₂ rfl I1.ok.glob (I1.mod.glob.keeps base2) hn hm) (fun y s3 r => ⟨⟨cc, hcc, r.1⟩, r.2⟩) fun _ _ e => e
    · intro g h5 tk5 gs hgb hag hsz5 hk5 W5 hat
      simp only [GxR.passing_true, List.length_range] at W5
      refine hQ a H1 g _ hR ⟨_, _, _, _, _, W5.in4_1, hat, fun j y sj Qj Ej hy hQj => ?_, fun s' hm => ?_⟩
      · obtain ⟨i, hij, cc, hcc, rfl⟩ := hy
        obtain ⟨hj, ej⟩ := List.getElem?_eq_some_iff.mp hij
        rw [List.getElem_range] at ej
        subst ej
        have e9 : a.cps.toList[j]? = some cc := by rw [Array.getElem?_toList]; exact hcc
        have hQ2 : Qj (trF pb a.cps.toList j) sj := hQj
        rw [trF_some e9] at hQ2
        exact wpAny_truthy_bool hQ2
      · have notW : ∀ b u, s1.heap.get? b = some u → b ∉ h3.objs.size :: [s1.heap.objs.size] := fun b u e hb => by
          have l1 := Heap.lt_size e
          have z1 : (b : Nat) < s1.heap.objs.size := l1
          simp only [List.mem_cons, List.not_mem_nil, or_false] at hb
          rcases hb with z | z
          · rw [z] at z1; exact Nat.lt_irrefl _ (Nat.lt_trans z1 hlt)
          · rw [z] at z1; exact Nat.lt_irrefl _ z1
        have J := inv_tab (more := more) (h' := s'.heap) (g' := s'.gens) (d' := s'.drawn) (t' := s'.toks) I1 hP (fun b u hb e => hm.heap b u (notW b u e) (hk5 b u (old b u hb e))) (hm.heap P _ (notW P _ hPs) (hk5 P _ hP3)) (AllBare.movedS (I1.bare.push hgb) hm)
        rw [sh_eta s1 s' hm.os] at J
        exact ⟨upd H1 P (.tbl (ps ++ more)), ⟨⟨ps ++ more, upd_same, ht3⟩, fun b hb => upd_ne hb⟩, J⟩
  refine ⟨lim2, ?_⟩
  cases hf : codeAmong gpos ps.toList with
  | some cv =>
    refine wpAny_genexprCode_hit hcode (cd.code hP2 ht) hf ?_
    exact next cv (s1.heap.push o) s1.toks ps (Heap.ExtBut.refl _ _) (by rw [sz2]; exact Nat.lt_succ_self _) hP2 ⟨#[], by simp⟩ ht
  | none =>
    refine wpAny_genexprCodeX hcode (cd.code hP2 ht) (cd.tab hP2) hf fun c' h' tk hx hge hlt hco' _ htab' _ => ?_
    obtain ⟨o1, vs, f1, tf, fl, tg, inF, tx, tt, op, _, _, _, _, _, _, _, _, _, htr, _⟩ := hco'
    exact next _ h' tk _ hx (Nat.lt_of_lt_of_le (by rw [sz2]; exact Nat.lt_succ_self _) (Nat.le_trans hge (Nat.le_of_lt hlt))) htab'.2 ⟨_, rfl⟩ htr
theorem pe_allG {c P : Addr} {elt iter : Expr} {x : Str} {px p pos gpos : Pos} {scope : Scope} {pb : Nat → Bool} {te : TE} {k : Nat}
    (hr : Room k X.A) (hg : Gl X "all") (hm : X.mg "all" = none) (hb : bootBuiltins "all" = some (.builtin "all")) (TB : TabB X.base X.mg c P) (hcode : X.env.code = .ref c) (S : GenS X.env scope x) (hi : PE X iter te) (hel : EltG X scope x elt pb)
    (hs : ∀ v, genFold iter X.env v = pure v)
    (he : starEach [.GeneratorExp elt [⟨.Name x px, iter, [], 0⟩] scope gpos] X.env = (false, eval (.GeneratorExp elt [⟨.Name x px, iter, [], 0⟩] scope gpos) X.env) :: starEach [] X.env := by rfl) :
    PE X (.Call (.Name "all" p) [.GeneratorExp elt [⟨.Name x px, iter, [], 0⟩] scope gpos] [] pos) (tAllS P pb te) := by
  refine ⟨fun pins s σ H Q I h => wpAny_Call_Name_kw (ld_blt I hg hm hb (PyProof.Rows.callWith_builtin1 ?_ he (by rfl)))⟩
  rw [he]
  show wpAny _ _ (spliced ((false, eval (.GeneratorExp elt [⟨.Name x px, iter, [], 0⟩] scope gpos) X.env) :: backTo pos (starEach [] X.env))) _ _ s
  refine Calls.spliced_cons (gen_G (R := fun a H1 => ∀ H2, Tabbed P H1 H2 → Q (.bl (a.cps.toList.all pb)) H2) hr TB hcode S hi hel hs I h fun a H1 g s5 hR hG => Calls.spliced_nil ?_)
  obtain ⟨fp, wr, G, F, St, W, hst, htr, hI⟩ := hG
  refine call_all_walkS (W.self 0 _ _ _ hst ⟨g, fp, wr, G, _, F, St, _, rfl, W, hst, htr, fun s' hmv => ?_⟩)
  obtain ⟨H2, hT, J⟩ := hI s' hmv
  exact ⟨.bl _, H2, J, rfl, by rw [all_signs a pb]; exact hR H2 hT⟩
end
/-- all(test for x in text): P, the def's table -/
def dAllS (P : Addr) (pb : Nat → Bool) (te : DTE) : DTE := fun σ A Q => te σ A fun x A1 => match x with
  | .str l => A1 P = some .tbl ∧ Q (.bl (l.all pb)) A1
  | _ => False
theorem RelH.tabbed {B : Bs} {A : AH} {H H' : Hp} {P : Addr} (h : RelH B A H) (hp : A P = some .tbl) (t : Tabbed P H H') : RelH B A H' ∧ Grow H H' := by
  obtain ⟨t1, t2⟩ := t
  obtain ⟨ps, e, _⟩ := h P _ hp
  have g : Grow H H' := ⟨fun a xs q => by rw [t2 a (fun z => by rw [z, e] at q; cases q)]; exact q, fun a o xs q => by rw [t2 a (fun z => by rw [z, e] at q; cases q)]; exact q⟩
  refine ⟨fun a o q => ?_, g⟩
  by_cases c : a = P
  · subst c
    rw [hp] at q; cases q
    exact t1
  · exact (h a o q).grow g (t2 a c)
theorem qe_all {X : Cx} {c P : Addr} {elt iter : Expr} {x : Str} {px p pos gpos : Pos} {scope : Scope} {pb : Nat → Bool} {te : DTE} {k : Nat}
    (hr : Room k X.A) (hm : X.mg "all" = none) (TB : TabB X.base X.mg c P) (hcode : X.env.code = .ref c) (hi : QE X iter te) (hel : EltG X scope x elt pb) (S : GenS X.env scope x) (hb : bootBuiltins "all" = some (.builtin "all") := by decide +kernel) (hg : Gl X "all" := by rfl)
    (hs : ∀ v, genFold iter X.env v = pure v := by intro _; rfl)
    (he : starEach [.GeneratorExp elt [⟨.Name x px, iter, [], 0⟩] scope gpos] X.env = (false, eval (.GeneratorExp elt [⟨.Name x px, iter, [], 0⟩] scope gpos) X.env) :: starEach [] X.env := by rfl) :
    QE X (.Call (.Name "all" p) [.GeneratorExp elt [⟨.Name x px, iter, [], 0⟩] scope gpos] [] pos) (dAllS P pb te) := by
  refine imE (pe_allG hr hg hm hb TB hcode S hi hel hs he) ?_
  intro σ H Q ⟨dσ, A, R, hA, hS, q, kp⟩
  refine ⟨dσ, A, _, hA, hS, q, fun d A1 v H1 q1 hA1 rd g1 => ?_⟩
  cases d with
  | str l =>
    obtain ⟨rfl, cx⟩ := rd
    obtain ⟨hp, q1⟩ := q1
    refine ⟨_, rfl, hA1 P _ hp, fun H2 ht => ?_⟩
    obtain ⟨hA2, g2⟩ := hA1.tabbed hp ht
    have e : (⟨l.toArray⟩ : Str).cps.toList = l := by simp
    rw [e]
    exact kp _ _ _ _ q1 hA2 rfl (g1.trans g2)
  | _ => exact q1.elim
end DL
set_option Elab.async false
set_option linter.all false
set_option maxRecDepth 100000
set_option maxHeartbeats 4000000
/-! DL24: a def whose code object is known; a law's head with such a def's table. -/
namespace DL
open PySem PySem.Spec PyProof.Rows L2
/-- a text among the globals -/
theorem elt_inG {X : Cx} {scope : Scope} {x y : Str} {g : List Nat} {p1 p2 p3 : Pos} (hm : GlobD X.K X.mg y (.str g)) (hk : scope.kind = .function := by rfl) (hl : scope.names.lookup x = some .local := by rfl) (hy : ∀ cenv : Env, cenv.scope = scope → cenv.kindOf y = some .globalImplicit := by intro cenv h; unfold Env.kindOf; rw [h]; rfl)
    (hd : (x == ("__debug__" : Str)) = false := by decide) (hd2 : (y == ("__debug__" : Str)) = false := by decide) : EltG X scope x (.Compare (.Name x p1) [.In] [.Name y p2] p3) (inB g) := by
  obtain ⟨u, v, e, r, rd⟩ := hm
  obtain ⟨rfl, _⟩ := rd fun _ => none
  obtain ⟨t, rfl⟩ := r
  exact elt_in e hk hl hy hd hd2
/-- THE RULE for a def that raises nothing, its code object at c -/
theorem fn_okC {P : Program} {w : World} {K : PySem.W.Frag} {mg : Str → Option Value} {base : Heap} {x qual : Str} {st : Stmt} {f : Addr} {oc : Value} {od an : Option Addr} {osl : Array (Option Value)} {kV doc pm cdv ct : Value} {N ps : List Str} {k : Nat} {sp : DSp} {t : DTS}
    (lk : K.lookup f = some ⟨oc, od, .func (PySem.W.fnOf x qual (defArgs st) (defBody st) (defScope st) .none kV doc pm an cdv ct), osl⟩) (hcd : PySem.W.codeIn K cdv qual = true) (S : FnScope N ps (defScope st))
    (d : ∀ (X : Cx), (∃ A outer s H E, X = (cxOf CX0 P w K mg base N qual (defScope st) f cdv A outer s H E).nox) → Room k X.A → QSs X (defBody st) t)
    (q : ∀ ds A R E, ds.length = ps.length → sp ds A R E → t { nx := fun _ A' => R .non A', rt := R } (ds.map some ++ List.replicate (N.length - ds.length) none) A) :
    FnOk P w K mg base CX0 (k + 1) f (PySem.W.fnOf x qual (defArgs st) (defBody st) (defScope st) .none kV doc pm an cdv ct) ps (lSp ⟨P, w, K⟩ ps.length sp) := by
  refine fn_of lk hcd S (fun vs H Q E h => ?_) fun A outer s H vs Q E hr h => ?_
  · obtain ⟨ds, A, R, RE, hA, rl, hl, _⟩ := h
    rw [← rl.length, hl]
  · obtain ⟨ds, A1, R, RE, hA, rl, hl, hs, k1, _⟩ := h
    refine ⟨_, (d _ ⟨A, outer, s, H, E, rfl⟩ hr).nox, ds.map some ++ List.replicate (N.length - ds.length) none, A1, _, hA, ?_, q ds A1 R RE hl hs, ⟨fun dσ A' σ H' hn hA' _ g => k1 _ _ _ _ hn hA' rfl g, k1, fun _ _ _ _ z => z.elim, fun _ _ _ _ z => z.elim⟩⟩
    have e := rl.length
    refine ⟨by unfold L2.start; simp [e], fun i d hi => ?_⟩
    by_cases c : i < ds.length
    · rw [List.getElem?_append_left (by simpa using c), List.getElem?_map] at hi
      cases e2 : ds[i]? with
      | none => rw [e2] at hi; cases hi
      | some d' =>
        rw [e2] at hi; cases hi
        obtain ⟨v, hv, rv⟩ := rl.get e2
        refine ⟨v, ?_, rv⟩
        unfold L2.start
        rw [List.getElem?_append_left (by simpa [← e] using c), List.getElem?_map, hv]; rfl
    · rw [List.getElem?_append_right (by simpa using c), List.getElem?_replicate] at hi
      split at hi <;> cases hi
/-- the script: a list that nobody writes, or a list -/
def Scr (A : AH) (d : D) (ns : List Int) : Prop := d = .cl (ns.map .int) ∨ ∃ a, d = .ref a ∧ A a = some (.lst (ns.map .int))
/-- a law, the table at P -/
def sp_lawT (P : Addr) : DSp := fun ds A R _ => ∃ ns d, ds = [d] ∧ Scr A d ns ∧ ns.length ≤ 63 ∧ A P = some .tbl ∧ ∀ A', R (.bl true) A'
theorem intsRel {K : PySem.W.Frag} {H : Hp} : ∀ l : List Int, RelL K H (l.map D.int) (l.map V.int)
  | [] => rfl
  | i :: l => ⟨_, _, rfl, rfl, intsRel l⟩
theorem law_spT {P : Program} {w : World} {K : PySem.W.Frag} {H : Hp} {a T : Addr} {ns : List Int} (hl : ns.length ≤ 63) (hT : H T = some (.tbl #[])) (hS : SqL K H a (ns.map V.int)) : lSp ⟨P, w, K⟩ 1 (sp_lawT T) [.ref a] H (fun v _ => v = .bl true) fun _ _ _ => False := by
  have tt : RelO ⟨P, w, K⟩ H T .tbl := ⟨#[], hT, trivial⟩
  have cst : CstAt K H a (ns.map V.int) → lSp ⟨P, w, K⟩ 1 (sp_lawT T) [.ref a] H (fun v _ => v = .bl true) fun _ _ _ => False := fun hc => by
    refine ⟨[.cl (ns.map .int)], fun b => if b = T then some .tbl else none, fun d _ => d = .bl true, noX, fun b o e => ?_, ⟨_, _, rfl, ⟨a, _, rfl, hc, intsRel ns⟩, rfl⟩, rfl, ⟨ns, _, rfl, .inl rfl, hl, if_pos rfl, fun _ => rfl⟩, fun d A' v H' h _ rd _ => by subst h; exact rd, fun _ _ _ _ _ z => z.elim⟩
    have e : (if b = T then some AO.tbl else none) = some o := e
    by_cases c : b = T
    · rw [if_pos c] at e; cases e; subst c; exact tt
    · rw [if_neg c] at e; cases e
  rcases hS with (h | ⟨o, h⟩) | h
  · have ne : a ≠ T := fun e => by rw [e, hT] at h; cases h
    refine ⟨[.ref a], fun b => if b = T then some .tbl else if b = a then some (.lst (ns.map .int)) else none, fun d _ => d = .bl true, noX, fun b o e => ?_, ⟨_, _, rfl, rfl, rfl⟩, rfl, ⟨ns, _, rfl, .inr ⟨a, rfl, by show (if a = T then some AO.tbl else if a = a then some (AO.lst (ns.map .int)) else none) = _; rw [if_neg ne, if_pos rfl]⟩, hl, if_pos rfl, fun _ => rfl⟩, fun d A' v H' h _ rd _ => by subst h; exact rd, fun _ _ _ _ _ z => z.elim⟩
    have e : (if b = T then some AO.tbl else if b = a then some (AO.lst (ns.map .int)) else none) = some o := e
    by_cases c : b = T
    · rw [if_pos c] at e; cases e; subst c; exact tt
    · rw [if_neg c] at e
      by_cases c2 : b = a
      · rw [if_pos c2] at e; cases e; subst c2; exact ⟨_, h, intsRel ns⟩
      · rw [if_neg c2] at e; cases e
  · exact cst (.inl ⟨o, h⟩)
  · exact cst (.inr h)
/-- the head: the table of the def named t -/
theorem walkT {l : PySem.W.OpenLaw} {q : Program} {loose : List Str} {XP : (Str → Option Value) → Heap → Prop} {YP : World → Heap → Prop} {d : DefRec} {K : Params → PySem.W.Frag} {k : Nat} {x t : Str} (hn : l.most = some 63) (hdf : d.params.defaults = []) (hr : Room k callerA)
    (hY : ∀ (w : World) (h : Heap), YP w h → (K w.params).In h) (hno : ∀ p : Params, PySem.W.noTabs (K p) = true) (hrec : ((recsOf q).any fun e => e.name == t) = true)
    (F : ∀ (w : World) (mg : Str → Option Value) (fa : Addr) (h : Heap), (K w.params).In h → h.Ns mainGlobals mg → mg d.name = some (.ref fa) → ∀ c P : Addr, (∃ (a : Addr) (o : Obj) (fd : FuncData), mg t = some (.ref a) ∧ h.get? a = some o ∧ o.data = .func fd ∧ fd.code = .ref c) →
      ∃ fd : FuncData, (∀ (s : Shared) (u : Value), BindsTo s fd ⟨[u], []⟩ [(x, u)]) ∧ ∀ base : Heap, (K w.params).In base → base.Ns mainGlobals mg → GxR.TabB base mg c P → FnOk l.prog w (K w.params) mg base CX0 k fa fd [x] (lSp ⟨l.prog, w, K w.params⟩ 1 (sp_lawT P))) :
    PySem.W.WalkO q loose XP YP l.row.toRowW d [] (fun f vs => PySem.call f vs) := by
  refine Att.attach_callB hn hdf fun w s₀ s₁ mg mb fa o pm cd doc a vs ns G Y ho hd hcd hmg hobj hints hlen hbits hg => ?_
  have KX := hY w _ Y
  obtain ⟨r, mr, er⟩ := List.any_eq_true.mp hrec
  have er : r.name = t := beq_iff_eq.mp er
  obtain ⟨ta, to, tf, c, P, h1, h2, h3, h4, h5, h6⟩ := G.T.tab r mr
  rw [er] at h1
  have hP : s₁.heap.get? P = some (PySem.W.tabObj #[]) := by
    obtain ⟨_, g5⟩ := id h6
    exact g5
  have nP : (K w.params).lookup P = none := by
    cases e : (K w.params).lookup P with
    | none => rfl
    | some u =>
      have z := KX _ _ e
      rw [hP] at z
      cases z
      have := List.all_eq_true.mp (hno w.params) (P, _) (PySem.W.mem_of_lookupK e)
      exact absurd (show false = true from this) Bool.false_ne_true
  obtain ⟨fd, hb, hF⟩ := F w mg fa _ KX G.T.g hmg c P ⟨ta, to, tf, h1, h2, h3, h4⟩
  refine LamX.law_callTs (cs := [(c, P)]) KX G.T.g G.T.b G.T.builtins G.T.nolimit hg (fun p m => ?_) (fun p m => ?_) (fun p m => ?_) G.T.bmain hobj hints (Nat.le_trans hlen (by decide)) hr (fun base k1 k2 k3 => hF base k1 k2 ?_) hb (fun H hH hS => law_spT hlen (hH (c, P) (by simp)) hS) fun _ _ _ z => z
  · rw [List.mem_singleton.mp m]; exact hP
  · rw [List.mem_singleton.mp m]; exact nP
  · rw [List.mem_singleton.mp m]; exact PySem.W.CodeHd.of h5 h6
  · have := k3 (c, P) (by simp)
    exact ⟨this.code, this.bm, this.gP⟩
end DL
set_option Elab.async false
set_option linter.all false
set_option maxRecDepth 100000
set_option maxHeartbeats 4000000
/-! DX1: what leaves a def as an exception: calls, methods, raise, defs that raise. -/
namespace DL
open PySem PySem.Spec PyProof.Rows L2
/-- what is wanted of an exception: its class, its fields, the slots, the heap -/
abbrev DW := Value → List (String × D) → DS → AH → Prop
def lW (B : Bs) (W : DW) : WX := fun cls d σ H => ∃ dσ A fs, W cls fs dσ A ∧ RelH B A H ∧ RelS B.K H dσ σ ∧ XF B.K H d fs
abbrev TakesD (X : Cx) (W : DW) : Prop := Takes X (lW X.b W)
theorem inv_grow {X : Cx} {pins : List (Addr × Obj)} {σ : L2.St} {H : Hp} {s : Shared} (I : Inv X pins σ H s) : Grow X.H_0 H := ⟨I.base.tups, fun a o xs h => I.base.frzs a o _ h⟩
/-- from what a def wants of exceptions to what its body's readings tell -/
theorem takes_kpx {X : Cx} {RE : DX} {E : XK} (k : KpX X.b X.H_0 RE E) (t : Takes X (fun cls d _ H => E cls d H)) : TakesD X (fun cls fs _ A => RE cls fs A) := by
  rintro u s' ⟨a, B, sI, pins, σ, H, cls, d, e, I, nb, up, sky, na, os, ag, dσ, A, fs, w, hA, hS, xf⟩
  exact t u s' ⟨a, B, sI, pins, σ, H, cls, d, e, I, nb, up, sky, na, os, ag, k cls fs A d H w hA xf (inv_grow I)⟩
/-- f(..), which may raise -/
def dCalX (W : DW) (sp : DSp) (t : DTA) : DTE := fun σ A Q => t σ A fun ds A1 => sp ds A1 Q fun cls fs A' => W cls fs σ A'
/-- o.m(..), which may raise -/
def dMetX (W : DW) (C : Addr) (m : String) (sp : DSp) (to : DTE) (t : DTA) : DTE := fun σ A Q => to σ A fun x A1 => match x with
  | .ref a => match A1 a with
    | some (.ins C' fs) => C' = C ∧ getS m fs = none ∧ t σ A1 fun ds A2 => sp (.ref a :: ds) A2 Q fun cls fs A' => W cls fs σ A'
    | _ => False
  | _ => False
/-- an expression that makes an exception -/
abbrev DTM := DS → AH → (Value → List (String × D) → AH → Prop) → Prop
def lM (B : Bs) (t : DTM) : L2.St → Hp → XK → Prop := fun σ H Q => ∃ dσ A R, RelH B A H ∧ RelS B.K H dσ σ ∧ t dσ A R ∧ KpX B H R Q
abbrev QM (X : Cx) (e : Expr) (t : DTM) : Prop := PMk X e (lM X.b t)
def dRaise (W : DW) (t : DTM) : DTS := fun _ σ A => t σ A fun cls fs A' => W cls fs σ A'
section
variable {X : Cx} {W : DW} {k n : Nat} {f C : Addr} {fd : FuncData} {ps : List Str} {sp : DSp} {x : Str} {p pos apos : Pos} {e o : Expr} {es : List Expr} {to : DTE} {t : DTA}
theorem lsp_x {B : Bs} {H : Hp} {A : AH} {dσ : DS} {σ : L2.St} {ds : List D} {vs : List V} {R : DQ} {Q : VK} (hA : RelH B A H) (hS : RelS B.K H dσ σ) (r : RelL B.K H ds vs) (hl : ds.length = n) (q : sp ds A R fun cls fs A' => W cls fs dσ A') (k : Kp B H R Q) :
    lSp B n sp vs H Q (WE (lW B W) σ) := ⟨ds, A, R, _, hA, r, hl, q, k, fun cls fs A' d H' w hA' xf g => ⟨dσ, A', fs, w, hA', hS.grow g, xf⟩⟩
theorem calX_t {B : Bs} {m : Nat} (hn : m = n) : ∀ σ H Q, lE B (dCalX W sp t) σ H Q → tCallS (lSp B n sp) (WE (lW B W)) (lA B m t) σ H Q := by
  intro σ H Q ⟨dσ, A, R, hA, hS, q, k⟩
  exact ⟨dσ, A, _, hA, hS, q, fun ds A1 vs H1 q1 l1 hA1 rl g1 => lsp_x hA1 (hS.grow g1) rl (l1.trans hn) q1 (k.from g1)⟩
theorem qe_callX (F : FnOk X.prog X.w X.K X.mg X.base (L2.CX X.prog X.w) k f fd ps (lSp X.b n sp)) (tk : TakesD X W) (hr : Room k X.A) (hm : X.mg x = some (.ref f)) (hk : PySem.W.keepIn X.K (.ref f) = true) (hb : Binds X.K fd ps []) (ha : QA X (e :: es) t) (hn : (e :: es).length = n := by rfl) (hg : Gl X x := by rfl)
    (hdb : (x == ("__debug__" : Str)) = false := by decide) (he : starEach (e :: es) X.env = (false, eval e X.env) :: starEach es X.env := by rfl) (hpl : (backTo pos (starEach es X.env)).any (·.1) = false := by rfl) : QE X (.Call (.Name x p) (e :: es) [] pos) (dCalX W sp t) :=
  imE (pe_callS (E := WE (lW X.b W)) F hr hg hm hk hb (passAt tk) ha hdb he hpl) (calX_t hn)
/-- o.m(e, ..), the wish by the slots -/
theorem qe_methX (m : String) {pl : Sem Bool} (c : Cls X.K C) (hm : Meth X.K C (PySem.Str.ofString m) f) (F : FnOk X.prog X.w X.K X.mg X.base (L2.CX X.prog X.w) k f fd ps (lSp X.b n sp)) (tk : TakesD X W) (hr : Room k X.A) (hb : Binds X.K fd ps []) (he : QE X o to) (ha : QA X (e :: es) t) (hn : (e :: es).length + 1 = n := by rfl)
    (hst : starEach (e :: es) X.env = (false, eval e X.env) :: starEach es X.env := by rfl) (hpl : (backTo pos (starEach es X.env)).any (·.1) = false := by rfl)
    (ht : eval (.Call (.Attribute o (PySem.Str.ofString m) apos) (e :: es) [] pos) X.env = (do
      let ov ← eval o X.env
      standAt apos.atName
      let (f, first) ← holding [ov] (getMethod ov (PySem.Str.ofString m) pl)
      callWith pos f first (backTo pos (starEach (e :: es) X.env)) (backToKw pos (keywordEach [] X.env))) := by rfl) :
    QE X (.Call (.Attribute o (PySem.Str.ofString m) apos) (e :: es) [] pos) (dMetX W C m sp to t) := by
  refine ⟨fun pins s σ H Q I h => ?_⟩
  obtain ⟨dσ, A, R, hA, hS, q, kk⟩ := h
  refine PySem.W.methodCall_KW (pl := pl) (thn (he.run pins s σ H _ I ⟨dσ, A, _, hA, hS, q, Kp.id⟩) fun u s1 hx => ?_) ht
  obtain ⟨v, H1, I1, rv, d, A1, q1, hA1, rd, g1⟩ := hx
  cases d with
  | ref a =>
    cases rd
    obtain rfl : u = Value.ref a := rv
    revert q1
    show (match A1 a with | some (.ins C' fs) => C' = C ∧ getS m fs = none ∧ t dσ A1 (fun ds A2 => sp (.ref a :: ds) A2 R fun cls fs A' => W cls fs dσ A') | _ => False) → _
    split
    · rename_i C' fs hq
      rintro ⟨rfl, hno, q1⟩
      obtain ⟨dx, vs, e1, rf⟩ := hA1 _ _ hq
      refine getmeth_ok I1 e1 c hm (rf.no hno) ?_
      refine PySem.W.callWith_K (first := [.ref a]) (h₀ := X.base) I.ok.mod.kin hm.kp (thn (ha.run pos pins s1 σ H1 (fun vs H2 => lSp X.b n sp (V.ref a :: vs) H2 Q (WE (lW X.b W) σ)) I1 ⟨dσ, A1, _, hA1, hS.grow g1, q1, fun ds A2 us H2 q2 l2 hA2 rl g2 => ?_⟩) fun us s2 hv => ?_) hst hpl
      · exact lsp_x hA2 (hS.grow (g1.trans g2)) (RelL.cons (d := .ref a) rfl rl) (by simp only [List.length_cons, l2]; exact hn) q2 (kk.from (g1.trans g2))
      · obtain ⟨vs2, H2, I2, r2, q3⟩ := hv
        exact ⟨I2.kIn, run_fnS (us := .ref a :: us) (vs := .ref a :: vs2) (E := WE (lW X.b W)) F hr hb (passAt tk σ) I2 (.cons rfl r2) q3⟩
    · exact fun z => z.elim
  | _ => exact q1.elim
theorem qe_methX0 (m : String) {pl : Sem Bool} (c : Cls X.K C) (hm : Meth X.K C (PySem.Str.ofString m) f) (F : FnOk X.prog X.w X.K X.mg X.base (L2.CX X.prog X.w) k f fd ps (lSp X.b 1 sp)) (tk : TakesD X W) (hr : Room k X.A) (hb : Binds X.K fd ps []) (he : QE X o to)
    (ht : eval (.Call (.Attribute o (PySem.Str.ofString m) apos) [] [] pos) X.env = (do
      let ov ← eval o X.env
      standAt apos.atName
      let (f, first) ← holding [ov] (getMethod ov (PySem.Str.ofString m) pl)
      callWith pos f first (backTo pos (starEach [] X.env)) (backToKw pos (keywordEach [] X.env))) := by rfl) :
    QE X (.Call (.Attribute o (PySem.Str.ofString m) apos) [] [] pos) (dMetX W C m sp to dNil) := by
  refine ⟨fun pins s σ H Q I h => ?_⟩
  obtain ⟨dσ, A, R, hA, hS, q, kk⟩ := h
  refine PySem.W.methodCall_KW (pl := pl) (thn (he.run pins s σ H _ I ⟨dσ, A, _, hA, hS, q, Kp.id⟩) fun u s1 hx => ?_) ht
  obtain ⟨v, H1, I1, rv, d, A1, q1, hA1, rd, g1⟩ := hx
  cases d with
  | ref a =>
    cases rd
    obtain rfl : u = Value.ref a := rv
    revert q1
    show (match A1 a with | some (.ins C' fs) => C' = C ∧ getS m fs = none ∧ sp [.ref a] A1 R (fun cls fs A' => W cls fs dσ A') | _ => False) → _
    split
    · rename_i C' fs hq
      rintro ⟨rfl, hno, q1⟩
      obtain ⟨dx, vs, e1, rf⟩ := hA1 _ _ hq
      refine getmeth_ok I1 e1 c hm (rf.no hno) ?_
      exact PySem.W.callWith_K0 (first := [.ref a]) I1.kIn hm.kp (run_fnS (us := [.ref a]) (vs := [.ref a]) (E := WE (lW X.b W)) F hr hb (passAt tk σ) I1 (.cons rfl .nil) (lsp_x hA1 (hS.grow g1) (RelL.cons (d := .ref a) rfl RelL.nil) rfl q1 (kk.from g1)))
    · exact fun z => z.elim
  | _ => exact q1.elim
theorem qs_raise {tm : DTM} (hc : X.calm = true) (tk : TakesD X W) (he : QM X e tm) : QS X (.Raise (some e) none pos) (dRaise W tm) := by
  refine imS (ps_raise hc tk he) ?_
  intro D σ H ⟨dσ, A, DD, hA, hS, q, k⟩
  exact ⟨dσ, A, _, hA, hS, q, fun cls fs A' d H' w hA' xf g => ⟨dσ, A', fs, w, hA', hS.grow g, xf⟩⟩
end
/-- THE RULE for a def that may raise -/
theorem fn_okX {P : Program} {w : World} {K : PySem.W.Frag} {mg : Str → Option Value} {base : Heap} {x qual : Str} {st : Stmt} {f : Addr} {fd : FuncData} {N ps : List Str} {k : Nat} {sp : DSp} {t : DW → DTS} (F : Fun K x qual st f fd) (S : FnScope N ps (defScope st))
    (d : ∀ (X : Cx) (W : DW), (∃ cdv A outer s H E, X = cxOf (L2.CX P w) P w K mg base N qual (defScope st) f cdv A outer s H E) → TakesD X W → PassesOwn (model X.prog X.w) X.A X.env X.xe → Room k X.A → QSs X (defBody st) (t W))
    (q : ∀ ds A R E, ds.length = ps.length → sp ds A R E → t (fun cls fs _ A' => E cls fs A') { nx := fun _ A' => R .non A', rt := R } (ds.map some ++ List.replicate (N.length - ds.length) none) A) :
    FnOk P w K mg base (L2.CX P w) (k + 1) f fd ps (lSp ⟨P, w, K⟩ ps.length sp) := by
  refine F.okX S (fun vs H Q E h => ?_) (fun cdv A outer s H vs Q E hr h => ?_)
  · obtain ⟨ds, A, R, RE, hA, rl, hl, _⟩ := h
    rw [← rl.length, hl]
  · obtain ⟨ds, A1, R, RE, hA, rl, hl, hs, k1, k2⟩ := h
    have tk : TakesD (cxOf (L2.CX P w) P w K mg base N qual (defScope st) f cdv A outer s H E) (fun cls fs _ A' => RE cls fs A') := takes_kpx k2 (takes_of rfl rfl rfl rfl)
    refine ⟨_, d _ _ ⟨cdv, A, outer, s, H, E, rfl⟩ tk (passes_of rfl) hr, ds.map some ++ List.replicate (N.length - ds.length) none, A1, _, hA, ?_, q ds A1 R RE hl hs, ⟨fun dσ A' σ H' hn hA' _ g => k1 _ _ _ _ hn hA' rfl g, k1, fun _ _ _ _ z => z.elim, fun _ _ _ _ z => z.elim⟩⟩
    have e := rl.length
    refine ⟨by unfold L2.start; simp [e], fun i d hi => ?_⟩
    by_cases c : i < ds.length
    · rw [List.getElem?_append_left (by simpa using c), List.getElem?_map] at hi
      cases e2 : ds[i]? with
      | none => rw [e2] at hi; cases hi
      | some d' =>
        rw [e2] at hi; cases hi
        obtain ⟨v, hv, rv⟩ := rl.get e2
        refine ⟨v, ?_, rv⟩
        unfold L2.start
        rw [List.getElem?_append_left (by simpa [← e] using c), List.getElem?_map, hv]; rfl
    · rw [List.getElem?_append_right (by simpa using c), List.getElem?_replicate] at hi
      split at hi <;> cases hi
end DL
set_option Elab.async false
set_option linter.all false
set_option maxRecDepth 100000
set_option maxHeartbeats 4000000
/-! DX2: an own exception class whose __init__ begins with super().__init__(text). -/
namespace DL
open PySem PySem.Spec PyProof.Rows L2
/-- the context of such an __init__ -/
def cxErr (P : Program) (w : World) (K : PySem.W.Frag) (mg : Str → Option Value) (base : Heap) (N : List Str) (qual : Str) (scope : Scope) (f cda cc : Addr) (A : Around) (outer : List Env) (s : Shared) (H : Hp) : Cx where
  prog := P
  w := w
  K := K
  mg := mg
  base := base
  A := A.deeper (PySem.W.ksEnv qual scope s.heap.objs.size f (.ref cda) cc)
  N := N
  s_0 := s
  H_0 := H
  env := PySem.W.ksEnv qual scope s.heap.objs.size f (.ref cda) cc
  outer := outer
  stack := PySem.W.ksEnv qual scope s.heap.objs.size f (.ref cda) cc :: outer
  ex := []
  calm := true
  fn := fun _ => false
  pn := []
  xe := fun _ _ => False
/-- its scope -/
structure ErrScope (ps : List Str) (sc : Scope) : Prop where
  kind : sc.kind = .function
  co : sc.isCoroutine = false
  gen : sc.isGenerator = false
  nd : ps.Nodup
  par : ∀ x ∈ ps, sc.names.lookup x = some .local
  nocell : ∀ y ∈ sc.names, y.2 ≠ .cell
  free : ∀ y ∈ sc.names, y.2 = .free → y.1 = "__class__"
  sup : sc.names.lookup ("super" : Str) = some .globalImplicit
  cl : sc.names.lookup ("__class__" : Str) = some .free
theorem lookup_nd : ∀ {l : List (Str × Value)} {x : Str} {u : Value}, (l.map (·.1)).Nodup → (x, u) ∈ l → l.lookup x = some u
  | [], _, _, _, h => by cases h
  | (y, v) :: l, x, u, hn, h => by
    rw [List.map_cons, List.nodup_cons] at hn
    rcases List.mem_cons.mp h with e | h
    · cases e; simp [List.lookup]
    · have ne : x ≠ y := fun e => hn.1 (by rw [← e]; exact List.mem_map.mpr ⟨_, h, rfl⟩)
      rw [List.lookup_cons, beq_eq_false_iff_ne.mpr ne]
      exact lookup_nd hn.2 h
theorem zip_keys : ∀ {ps : List Str} {us : List Value}, us.length = ps.length → (ps.zip us).map (·.1) = ps
  | [], [], _ => rfl
  | [], _ :: _, h => by simp at h
  | _ :: _, [], h => by simp at h
  | p :: ps, u :: us, h => by rw [List.zip_cons_cons, List.map_cons, zip_keys (by simpa using h)]
theorem zip_mem : ∀ {ps : List Str} {us : List Value} {i : Nat} {x : Str} {u : Value}, ps[i]? = some x → us[i]? = some u → (x, u) ∈ ps.zip us
  | [], _, i, _, _, h, _ => by simp at h
  | _ :: _, [], i, _, _, _, h => by simp at h
  | p :: ps, v :: us, 0, x, u, h1, h2 => by
    simp at h1 h2; subst h1; subst h2; exact List.mem_cons_self
  | p :: ps, v :: us, i + 1, x, u, h1, h2 => List.mem_cons_of_mem _ (zip_mem (i := i) (by simpa using h1) (by simpa using h2))
theorem inv_err {P : Program} {w : World} {K : PySem.W.Frag} {mg : Str → Option Value} {base : Heap} {ps : List Str} {qual : Str} {scope : Scope} {f cda cc : Addr} {A : Around} {outer : List Env} {s : Shared} {H : Hp} {us : List Value} {vs : List V} {h1 : Heap} {tk : Nat} {v : Option Value}
    (S : ErrScope ps scope) (hd : A.handled = none) (e0 : Env0 P w K mg base A outer s H) (hl : vs.length = ps.length) (r : Vals vs us) (hc : base.IsCell cc v)
    (hns : h1.Ns s.heap.objs.size (fun x => (ps.zip us).reverse.lookup x)) (hk : ∀ b o, s.heap.get? b = some o → h1.get? b = some o) :
    Inv (cxErr P w K mg base ps qual scope f cda cc A outer s H) [] (vs.map some) H { s with heap := h1, toks := tk } := by
  have noA : ∀ b : Addr, b ∉ (cxErr P w K mg base ps qual scope f cda cc A outer s H).ex := fun b z => absurd (show b ∈ ([] : List Addr) from z) (by simp)
  have cl1 : ∀ {x : Str} {c : Addr}, (cxErr P w K mg base ps qual scope f cda cc A outer s H).env.cells.lookup x = some c → x = "__class__" ∧ c = cc := fun {x c} e => by
    have e : List.lookup x [(("__class__" : Str), cc)] = some c := e
    rw [List.lookup_cons] at e
    split at e
    · rename_i q
      cases e
      exact ⟨by simpa using q, rfl⟩
    · cases e
  obtain ⟨oc, hoc, hod⟩ := hc
  have cN : H cc = none := (e0.bs cc oc hoc).2
  have cS : s.heap.get? cc = some oc := (e0.bs cc oc hoc).1
  refine ⟨⟨e0.mod, S.kind, rfl, rfl, Nat.le_refl _, fun y z c e1 e2 => ?_, fun y hy => ?_, fun y c z _ => ?_, fun _ => hd, Around.frames_deeper e0.frames, .inr ⟨rfl, rfl⟩, fun b z => absurd z (noA b), e0.bs, e0.bsz, fun b _ _ => noA b, fun b z => absurd z (noA b), e0.funs, e0.frf⟩,
    rfl, e0.bare, Un.kept hk, ⟨_, hns, fun i y v e1 e2 e3 => ?_⟩, fun y c e => ?_, e0.hok.fresh (Nat.le_refl _), fun y c e => ?_, fun p hp => absurd (show p ∈ ([] : List (Addr × Obj)) from hp) (by simp), e0.hok.kept hk, ?_⟩
  · rw [(cl1 e1).1, (cl1 e2).1]
  · have hy : scope.names.lookup y = some .cell ∨ scope.names.lookup y = some .free := hy
    rcases hy with hy | hy
    · exact absurd rfl (S.nocell _ (PySem.mem_of_lookup hy))
    · have e := S.free _ (PySem.mem_of_lookup hy) rfl
      have e : y = "__class__" := e
      subst e
      exact ⟨cc, rfl⟩
  · exact absurd (show false = true from z) Bool.false_ne_true
  · rw [List.getElem?_map] at e2
    cases q : vs[i]? with
    | none => rw [q] at e2; cases e2
    | some v' =>
      rw [q] at e2; cases e2
      obtain ⟨u, hu, rv⟩ := r.get q
      refine ⟨u, rv, .inl ⟨S.par y (List.mem_of_getElem? e1), ?_⟩⟩
      have hul : us.length = ps.length := r.length.symm.trans hl
      refine lookup_nd ?_ (List.mem_reverse.mpr (zip_mem e1 hu))
      rw [List.map_reverse, zip_keys hul]
      exact List.pairwise_reverse.mpr (S.nd.imp fun h e => h e.symm)
  · rw [(cl1 e).2]; exact ⟨_, oc, hk _ _ cS, hod⟩
  · rw [(cl1 e).2]; exact cN
  · rw [List.length_map]; exact hl
/-- the call of super().__init__ as it was bound -/
theorem mw_call {X : Cx} {pins : List (Addr × Obj)} {σ : L2.St} {H : Hp} {s : Shared} {a C u : Addr} {us : List Value} {Q : Value → Shared → Prop} {A : Around} {E : Value → Shared → Prop} (T : OexC X.K C) (I : Inv X pins σ H s) (e : H a = some (exo a C none)) (hu : s.heap.get? u = some (PySem.W.kxs_mw "ValueError.__init__" a)) (hl : us.length ≤ sizeLine)
    (h : ∀ s', Inv X pins σ H s' → Q .none s') : wpAny (model X.prog X.w) A (call (.ref u) us) Q E s := by
  obtain ⟨nm, q, N, bs, bm, sn, sub, ab, col, dd, k0, k1, k2, k3, k5, hC, hbm⟩ := T.cls
  have hCs := I.kIn _ _ hC
  obtain ⟨t1, ho⟩ := exo_at I.hok e
  have fin : ∀ h' t2, (∀ b o, b ≠ a → s.heap.get? b = some o → h'.get? b = some o) → h'.get? a = some (PySem.W.excRec (.ref C) t2 none .none .none (.bool false)) → Q .none { s with heap := h' } := fun h' t2 k hx => by
    have J := I.write (t' := s.toks) (x := a) (e := a) (o := exo a C none) (by rw [e]; exact True.intro) (.inl rfl) k ⟨_, hx⟩ (exo_ok hx)
    have eu : upd H a (exo a C none) = H := by
      funext b
      by_cases hb : b = a
      · rw [hb, upd_same, e]
      · rw [upd_ne hb]
    rw [eu] at J
    exact h _ J
  obtain ⟨hp, g, d, t, os⟩ := s
  have FB := F.excBase_ValueError
  refine wpAny_call (codeAny_of_tree ?_)
  show wpAny _ A.in1 (callAny (.ref u) ⟨us, []⟩) _ _ _
  simp only [callAny]
  refine wpAny_bind (wpAny_load hu ?_)
  simp only [PySem.W.kxs_mw, show (Value.type "method-wrapper" == Value.type "method" || Value.type "method-wrapper" == Value.type "builtin_function_or_method" || Value.type "method-wrapper" == Value.type "method-wrapper") = true by decide, if_true]
  refine PySem.W.KFB.if_so (by decide) ?_
  refine wpAny_bind (PySem.W.check_bound_init FB.toExcCallFacts hCs ho rfl ?_)
  refine wpAny_bind (wpAny_pure (wpAny_pure ?_))
  refine ⟨plainId_quiet FB.init.plain _, codeAny_builtin FB.initEntry ?_⟩
  exact PySem.W.exc_init_tree (cls := .ref C) (t0 := t1) (dv := none) (c2 := .none) (c3 := .none) (b4 := .bool false) ho hl fun h' k hx _ => fin h' _ k hx
/-- the facts of such a class and its __init__ -/
structure ErrC (P : Program) (K : PySem.W.Frag) (C : Addr) (f cda cc : Addr) (fd : FuncData) (qual : Str) : Prop where
  oex : OexC K C
  lk : ∃ oc od osl, K.lookup f = some ⟨oc, od, .func fd, osl⟩
  code : PySem.W.codeIn K (.ref cda) qual = true
  file : ∃ ccl cdd vs ccs file tf, K.lookup cda = some ⟨ccl, cdd, .fields vs, ccs⟩ ∧ vs[2]? = some (.str file tf) ∧ ((P.main.file : Str) == file) = true
  cell : ∃ cl cld csl, K.lookup cc = some ⟨cl, cld, .cell (some (.ref C)), csl⟩
  sup : PySem.W.ks_superIn K C C "__init__" = some (some (.builtin "ValueError.__init__"))
  ve : PySem.W.subIn K (.ref C) (.type "ValueError") = some true
  mro : PySem.W.mroIn K C (.ref C) = some true
  nosup : PySem.W.nsIn K mainGlobals "super" = some none
  opq : PySem.W.nsIn K cStatics "thirdparty.any" = some none
  top : (P.main.scope.names.lookup ("super" : Str)).isSome = false
/-- what such an __init__ is worth -/
def spErr (C : Addr) (n : Nat) (te : TE) (t : TS) : Sp := fun vs H Q _ => vs.length = n ∧ ∃ a r, vs = .ref a :: r ∧ H a = some (exo a C none) ∧
  te (vs.map some) H fun x H1 => [x].length ≤ 1 ∧ H1 a = some (exo a C none) ∧ t { nx := fun _ H' => Q .non H', rt := Q } (vs.map some) H1
theorem boot_super : bootBuiltins "super" = some (.type "super") := by first | boot_by_name | rfl | kernel_rfl
theorem err_fn {P : Program} {w : World} {K : PySem.W.Frag} {mg : Str → Option Value} {base : Heap} {CX : CXT} {k : Nat} {C f cda cc : Addr} {name qual : Str} {params : Arguments} {scope : Scope} {dV kV doc pm ct : Value} {an : Option Addr} {ps : List Str} {p0 p1 p2 p3 p4 : Pos} {ae : Expr} {rest : List Stmt} {ar : Arg} {tl : List Str} {te : TE} {t : TS}
    (F : ErrC P K C f cda cc (PySem.W.ksFn name qual params (.Expr (.Call (.Attribute (.Call (.Name "super" p0) [] [] p1) "__init__" p2) [ae] [] p3) p4 :: rest) scope dV kV doc pm an (.ref cda) ct cc) qual) (S : ErrScope ps scope) (hp : (params.posonlyargs ++ params.args).head? = some ar) (hps : ps = ar.arg :: tl)
    (ha : ∀ A outer s H, PE (cxErr P w K mg base ps qual scope f cda cc A outer s H) ae te) (hr0 : ∀ A outer s H, PSs (cxErr P w K mg base ps qual scope f cda cc A outer s H) rest t)
    (hm : ∀ L, ∃ pl : Sem Bool, eval (.Call (.Attribute (.Call (.Name "super" p0) [] [] p1) "__init__" p2) [ae] [] p3) (PySem.W.ksEnv qual scope L f (.ref cda) cc) = (do
      let ov ← attributeBase (.Call (.Name "super" p0) [] [] p1) "__init__" (PySem.W.ksEnv qual scope L f (.ref cda) cc) (eval (.Call (.Name "super" p0) [] [] p1) (PySem.W.ksEnv qual scope L f (.ref cda) cc))
      standAt p2.atName
      let (g, first) ← holding [ov] (getMethod ov "__init__" pl)
      callWith p3 g first (backTo p3 (starEach [ae] (PySem.W.ksEnv qual scope L f (.ref cda) cc))) []))
    (hi : ∀ L, interactive (PySem.W.ksEnv qual scope L f (.ref cda) cc) = false) (hsw : ∀ L, swapsWith (.Call (.Attribute (.Call (.Name "super" p0) [] [] p1) "__init__" p2) [ae] [] p3) none p4.line (PySem.W.ksEnv qual scope L f (.ref cda) cc) = pure false)
    (he : ∀ L, starEach [ae] (PySem.W.ksEnv qual scope L f (.ref cda) cc) = (false, eval ae (PySem.W.ksEnv qual scope L f (.ref cda) cc)) :: starEach [] (PySem.W.ksEnv qual scope L f (.ref cda) cc)) :
    FnOk P w K mg base CX (k + 1) f (PySem.W.ksFn name qual params (.Expr (.Call (.Attribute (.Call (.Name "super" p0) [] [] p1) "__init__" p2) [ae] [] p3) p4 :: rest) scope dV kV doc pm an (.ref cda) ct cc) ps (spErr C ps.length te t) := by
  refine ⟨fun vs H Q E h => h.1, fun A outer s H args us vs Q E hr e0 hb r hsp => ?_⟩
  obtain ⟨hl, a, vr, rfl, hea, hte⟩ := hsp
  have KB : K.In base := e0.mod.kin
  have KX : K.In s.heap := KB.keeps fun b o e => (e0.bs b o e).1
  have lim : s.heap.NoLimit := e0.mod.nolimit.keeps fun b o e => (e0.bs b o e).1
  obtain ⟨oc, od, osl, lk⟩ := F.lk
  obtain ⟨ccl, cdd, cvs, ccs, file, tf, hcode, hvs, hfile⟩ := F.file
  obtain ⟨cl, cld, csl, hcell⟩ := F.cell
  obtain ⟨nm, qq, NN, bs, bm, sn, sub, ab, col, dd, k0, k1, k2, k3, k5, hC, hbm⟩ := F.oex.cls
  have hcl : PySem.W.clsIn K C = some { name := nm, bases := bs, mro := .ref C :: bm, ns := NN, qualname := qq, hasDict := true, slotNames := sn, subclasses := sub, abstract := ab, collection := col, hasDel := false } := by unfold PySem.W.clsIn; rw [hC] <;> rfl
  have hul : us.length = ps.length := r.length.symm.trans hl
  refine ks_codeAny_call_defAt (fd := PySem.W.ksFn name qual params (.Expr (.Call (.Attribute (.Call (.Name "super" p0) [] [] p1) "__init__" p2) [ae] [] p3) p4 :: rest) scope dV kV doc pm an (.ref cda) ct cc) (body := .Expr (.Call (.Attribute (.Call (.Name "super" p0) [] [] p1) "__init__" p2) [ae] [] p3) p4 :: rest) (binds := ps.zip us)
    hr.depth (KX _ _ lk) rfl lim (PySem.W.codeRec_of KX F.code) rfl hb S.nocell (fun y hy => S.par y.1 (List.of_mem_zip hy).1) (fun h1 hns hk1 => ?_) S.co S.gen S.kind
  have I := inv_err (qual := qual) (f := f) (cda := cda) (tk := s.toks + (ps.zip us).length) S hr.hd e0 hl r ⟨_, KB _ _ hcell, rfl⟩ hns hk1
  have kb : ∀ b o, base.get? b = some o → h1.get? b = some o := fun b o e => hk1 b o (e0.bs b o e).1
  have K1 : K.In h1 := KB.keeps kb
  obtain ⟨mb, hmb, hbt⟩ := e0.mod.blt
  have hka : scope.names.lookup ar.arg = some .local := S.par _ (by rw [hps]; exact List.mem_cons_self)
  cases r with
  | @cons _ u0 _ ur ra rr =>
  obtain rfl : u0 = Value.ref a := ra
  have hself : (ps.zip (Value.ref a :: ur)).reverse.lookup ar.arg = some (.ref a) := by
    refine lookup_nd ?_ (List.mem_reverse.mpr (zip_mem (i := 0) (by rw [hps]; rfl) rfl))
    rw [List.map_reverse, zip_keys hul]
    exact List.pairwise_reverse.mpr (S.nd.imp fun h e => h e.symm)
  obtain ⟨pl, hm⟩ := hm s.heap.objs.size
  refine ks_wpAt_execs_cons (ks_wpAt_Expr_any (ks_wpAt_MethodCall (pl := pl) ?_ hm) (hi _) (hsw _))
  refine ks_wpAt_super_base (env := PySem.W.ksEnv qual scope s.heap.objs.size f (.ref cda) cc) S.sup S.cl rfl rfl (K1 _ _ lk) rfl hp rfl (K1 _ _ hcode) rfl hvs hfile F.top ?_
  refine PySem.W.ks_loadName_global S.kind S.sup (PySem.Calls.loadGlobal_builtin (env := PySem.W.ksEnv qual scope s.heap.objs.size f (.ref cda) cc) (e0.mod.glob.keeps kb) (PySem.W.mg_none_of KB e0.mod.glob F.nosup) (hmb.keeps kb) ((hbt "super" (by decide +kernel)).trans boot_super) ⟨rfl, ?_⟩)
  refine wpAny_loadName_free S.kind S.cl rfl ⟨_, K1 _ _ hcell, rfl⟩ ?_
  refine wpAny_loadName_local S.kind hka hns hself ?_
  refine ks_wpAny_isType_cls (K1 _ _ hC) rfl ⟨rfl, ?_⟩
  obtain ⟨t1, ho⟩ := exo_at I.hok hea
  have ho : h1.get? a = some _ := ho
  refine ks_wpAny_call_super (K1 _ _ hC) rfl ho rfl (fun c e => by cases e) (PySem.W.looks_mroIn K1 F.mro) (fun h2 eso k2 => ?_)
  have I2 := I.kept (t' := s.toks + (ps.zip (Value.ref a :: ur)).length) (h' := h2) k2
  have K2 : K.In h2 := K1.keeps k2
  have IA : PySem.W.InstAt h2 a _ C none := ⟨k2 _ _ ho, rfl, rfl, trivial⟩
  have hf : PySem.W.alongIn K "__init__" (((Value.ref C :: bm).dropWhile (· != .ref C)).drop 1) = some (some (.builtin "ValueError.__init__")) := by
    have z := F.sup
    unfold PySem.W.ks_superIn at z
    rw [hcl] at z
    exact z
  refine PySem.W.kxs_getMethod PySem.W.kxs_ValueError eso (PySem.W.looks_opaque K2 F.opq) (l₀ := .ref C :: bm) (fun A Q E s k q => wpAny_bind ((PySem.W.looks_clsIn K2 hcl) A _ E s k (wpAny_pure q))) rfl K2 hf (IA.type.andThen (PySem.W.looks_subIn K2 F.ve)) (PySem.W.ks_ne K2 IA hcl) rfl ?_
  have k3 : ∀ b o, h2.get? b = some o → (h2.push (PySem.W.kxs_mw "ValueError.__init__" a)).get? b = some o := fun b o e => Heap.get?_push_of_some _ e
  have I3 := I2.kept (t' := s.toks + (ps.zip (Value.ref a :: ur)).length + 1) k3
  have hu : (h2.push (PySem.W.kxs_mw "ValueError.__init__" a)).get? h2.objs.size = some (PySem.W.kxs_mw "ValueError.__init__" a) := Heap.get?_push_at rfl rfl
  have I4 : Inv (cxErr P w K mg base ps qual scope f cda cc A outer s H) [(h2.objs.size, PySem.W.kxs_mw "ValueError.__init__" a)] _ H _ := I3.pins_of fun p hp => by
    have e : p = (h2.objs.size, PySem.W.kxs_mw "ValueError.__init__" a) := by simpa using hp
    subst e
    refine ⟨hu, I2.hok.fresh (Nat.le_refl _), fun z => ?_, I2.nofs (Nat.le_refl _), fun v z => by cases z⟩
    have := I2.lt
    have z : h2.objs.size = s.heap.objs.size := z
    have lt : s.heap.objs.size < h2.objs.size := this
    rw [z] at lt
    exact absurd lt (Nat.lt_irrefl _)
  show wpAny _ _ (callWith p3 (Value.ref h2.objs.size) [] (backTo p3 (starEach [ae] (PySem.W.ksEnv qual scope s.heap.objs.size f (.ref cda) cc))) []) _ _ _
  rw [he]
  refine PySem.W.kxs_callWith (i := "ValueError.__init__") (x := a) rfl (PySem.Calls.evalArgs_plain ?_)
  have pa := pa_cons (es := []) (ha A outer s H) pa_nil (he _)
  have run := pa.run p3 _ _ _ H (fun vs H1 => vs.length ≤ 1 ∧ H1 a = some (exo a C none) ∧ t { nx := fun _ H' => Q .non H', rt := Q } ((V.ref a :: vr).map some) H1) I4 (show tCons te tNil _ H _ from hte)
  rw [show starEach [ae] (cxErr P w K mg base ps qual scope f cda cc A outer s H).env = _ from he _] at run
  refine wpAny_mono run (fun us5 s5 h5 => ?_) fun _ _ z => z.elim
  obtain ⟨vs5, H5, I5, r5, l5, e5, q5⟩ := h5
  have hu5 := (I5.pin _ (List.mem_append_right _ List.mem_cons_self)).1
  refine ⟨hu5, mw_call F.oex I5 e5 hu5 (by show us5.length ≤ _; rw [SL_eq, ← r5.length]; exact Nat.le_trans l5 (by decide)) fun s6 I6 => ?_⟩
  refine wpAt_of_wpAny (wpAny_mono ((hr0 A outer s H).run [] s6 _ H5 _ (I6.unpinned (pins := [])) q5) (fun fl s' hs => ?_) fun _ _ z => z.elim)
  have fin : ∀ {σ' : L2.St} {H' : Hp} {v : V} {u : Value}, Inv (cxErr P w K mg base ps qual scope f cda cc A outer s H) [] σ' H' s' → RelV v u → Q v H' → CE outer P w H s Q u s' := fun {σ' H' v u} J rv q => ⟨v, H', J.os, J.bare, J.base, J.hok, rv, q⟩
  cases fl with
  | ret u =>
    obtain ⟨v, σ', H', J, rv, q⟩ := hs
    exact fin J rv q
  | next =>
    obtain ⟨σ', H', J, q⟩ := hs
    exact fin (v := V.non) (u := Value.none) J rfl q
  | brk =>
    obtain ⟨_, _, _, q⟩ := hs
    exact False.elim q
  | cont =>
    obtain ⟨_, _, _, q⟩ := hs
    exact False.elim q
end DL
set_option Elab.async false
set_option linter.all false
set_option maxRecDepth 100000
set_option maxHeartbeats 4000000
/-! DX3: raise C(i), C an own class with one field, an int. -/
namespace DL
open PySem PySem.Spec PyProof.Rows L2
/-- an __init__ that keeps an int in the field fld -/
def spE1 (C : Addr) (fld : Str) : Sp := fun vs H Q _ => ∃ a i, vs = [.ref a, .int i] ∧ i.natAbs.log2 < 1920 ∧ H a = some (exo a C none) ∧
  ∀ dx, H dx = none → dx ≠ a → Q .non (upd (upd H dx (exd dx [(fld, .int i)])) a (exo a C (some dx)))
theorem joined_int {m : Str} (hm : m.length ≤ 1000) {i : Int} (hi : i.natAbs.log2 < 1920) : (Str.empty ++ m).length ≤ sizeLine ∧ (Str.empty ++ m ++ (toString i : String)).length ≤ sizeLine := by
  have e0 : (Str.empty ++ m).length = m.length := by rw [strLen_append]; show 0 + _ = _; omega
  refine ⟨by rw [e0, SL_eq]; exact Nat.le_trans hm (by decide), ?_⟩
  rw [strLen_append, e0, SL_eq, PySem.ofString_length]
  have := PySem.int_text_length_le (k := 1920) (by decide) hi
  show _ ≤ 16777216
  omega
theorem err1_fn {P : Program} {w : World} {K : PySem.W.Frag} {mg : Str → Option Value} {base : Heap} {C f cda cc : Addr} {name qual fld m : Str} {params : Arguments} {scope : Scope} {dV kV doc pm ct : Value} {an : Option Addr} {j1 : Nat} {p0 p1 p2 p3 p4 q1 q2 q3 q4 r1 r2 r3 r4 : Pos} {ar : Arg}
    (F : ErrC P K C f cda cc (PySem.W.ksFn name qual params [.Expr (.Call (.Attribute (.Call (.Name "super" p0) [] [] p1) "__init__" p2) [.JoinedStr [.Constant (.str m) j1 q1, .FormattedValue (.Name fld q2) (-1) none q3] q4] [] p3) p4, .Assign [.Attribute (.Name "self" r1) fld r2] (.Name fld r3) r4] scope dV kV doc pm an (.ref cda) ct cc) qual)
    (S : ErrScope ["self", fld] scope) (hp : (params.posonlyargs ++ params.args).head? = some ar) (hps : ar.arg = "self") (hno : PySem.W.findIn K (.ref C) fld = some none) (hm : m.length ≤ 1000)
    (hmm : ∀ L, ∃ pl : Sem Bool, eval (.Call (.Attribute (.Call (.Name "super" p0) [] [] p1) "__init__" p2) [.JoinedStr [.Constant (.str m) j1 q1, .FormattedValue (.Name fld q2) (-1) none q3] q4] [] p3) (PySem.W.ksEnv qual scope L f (.ref cda) cc) = (do
      let ov ← attributeBase (.Call (.Name "super" p0) [] [] p1) "__init__" (PySem.W.ksEnv qual scope L f (.ref cda) cc) (eval (.Call (.Name "super" p0) [] [] p1) (PySem.W.ksEnv qual scope L f (.ref cda) cc))
      standAt p2.atName
      let (g, first) ← holding [ov] (getMethod ov "__init__" pl)
      callWith p3 g first (backTo p3 (starEach [.JoinedStr [.Constant (.str m) j1 q1, .FormattedValue (.Name fld q2) (-1) none q3] q4] (PySem.W.ksEnv qual scope L f (.ref cda) cc))) []) := by intro L; exact ⟨_, rfl⟩)
    (hi : ∀ L, interactive (PySem.W.ksEnv qual scope L f (.ref cda) cc) = false := by intro L; rfl)
    (hsw : ∀ L, swapsWith (.Call (.Attribute (.Call (.Name "super" p0) [] [] p1) "__init__" p2) [.JoinedStr [.Constant (.str m) j1 q1, .FormattedValue (.Name fld q2) (-1) none q3] q4] [] p3) none p4.line (PySem.W.ksEnv qual scope L f (.ref cda) cc) = pure false := by intro L; rfl)
    (he : ∀ L, starEach [.JoinedStr [.Constant (.str m) j1 q1, .FormattedValue (.Name fld q2) (-1) none q3] q4] (PySem.W.ksEnv qual scope L f (.ref cda) cc) = (false, eval (.JoinedStr [.Constant (.str m) j1 q1, .FormattedValue (.Name fld q2) (-1) none q3] q4) (PySem.W.ksEnv qual scope L f (.ref cda) cc)) :: starEach [] (PySem.W.ksEnv qual scope L f (.ref cda) cc) := by intro L; rfl)
    (hs2 : ∀ L, swapsWith (.Name fld r3) (some (.Attribute (.Name "self" r1) fld r2)) r4.line (PySem.W.ksEnv qual scope L f (.ref cda) cc) = pure false := by intro L; rfl)
    (hdb : (fld == ("__debug__" : Str)) = false := by decide) (hdc : (fld == ("__classdict__" : Str)) = false := by decide) :
    FnOk P w K mg base CX0 1 f (PySem.W.ksFn name qual params [.Expr (.Call (.Attribute (.Call (.Name "super" p0) [] [] p1) "__init__" p2) [.JoinedStr [.Constant (.str m) j1 q1, .FormattedValue (.Name fld q2) (-1) none q3] q4] [] p3) p4, .Assign [.Attribute (.Name "self" r1) fld r2] (.Name fld r3) r4] scope dV kV doc pm an (.ref cda) ct cc) ["self", fld] (spE1 C fld) := by
  have vis : ∀ {A : Around} {outer : List Env} {s : Shared} {H : Hp} {i : Nat} {x : Str} {pos : Pos}, (["self", fld] : List Str)[i]? = some x → (x == ("__debug__" : Str)) = false → (x == ("__classdict__" : Str)) = false → PE (cxErr P w K mg base ["self", fld] qual scope f cda cc A outer s H) (.Name x pos) (tVar i) :=
    fun {A outer s H i x pos} e h1 h2 => pe_var e (.inl (S.par x (List.mem_of_getElem? e))) h1 h2
  have main := err_fn (CX := CX0) (k := 0) (w := w) (mg := mg) (base := base) (ps := ["self", fld]) (tl := [fld]) (t := tOst K fld (tVar 0) (tVar 1)) F S hp (by rw [hps])
    (fun A outer s H => pe_joined (X := cxErr P w K mg base ["self", fld] qual scope f cda cc A outer s H) (PJ.cons pe_str (PJ.cons (pe_fmt (vis (i := 1) rfl hdb hdc)) PJ.nil)))
    (fun A outer s H => pss_one (ps_ost (X := cxErr P w K mg base ["self", fld] qual scope f cda cc A outer s H) (vis (i := 0) rfl (by decide) (by decide)) (vis (i := 1) rfl hdb hdc) (hs2 _))) hmm hi hsw he
  refine main.imp fun vs H Q E h => ?_
  obtain ⟨a, i, rfl, hb, hea, q⟩ := h
  obtain ⟨j1, j2⟩ := joined_int hm hb
  refine ⟨rfl, a, _, rfl, hea, m, rfl, j1, .int i, rfl, .inr ⟨i, rfl, hb, _, rfl, j2, Nat.le_refl 1, hea, .int i, rfl, .ref a, rfl, a, C, rfl, F.oex, hno, .inl ⟨hea, fun dx h1 h2 => q dx h1 h2⟩⟩⟩
/-- a class that is made with an int and raised -/
def ErrF (P : Program) (w : World) (K : PySem.W.Frag) (mg : Str → Option Value) (base : Heap) (C : Addr) (x fld : Str) : Prop :=
  ∃ fI fd, OexC K C ∧ PySem.W.findIn K (.ref C) "__init__" = some (some (.ref fI)) ∧ PySem.W.typeIn K (.ref fI) = some (.type "function") ∧ FnOk P w K mg base CX0 1 fI fd ["self", fld] (spE1 C fld) ∧ Binds K fd ["self", fld] [] ∧ mg x = some (.ref C)
def errK (C : Addr) (f : String) (R : Value → List (String × D) → AH → Prop) : D → AH → Prop
  | .int i, A => i.natAbs < 18446744073709551616 ∧ R (.ref C) [(f, .int i)] A
  | _, _ => False
def dErr1 (C : Addr) (f : String) (te : DTE) : DTM := fun σ A R => te σ A fun y A1 => errK C f R y A1
theorem log_ok {i : Int} (h : i.natAbs < 18446744073709551616) : i.natAbs.log2 < 1920 := by
  rcases Nat.eq_zero_or_pos i.natAbs with z | z
  · rw [z]; decide
  · have := (Nat.log2_lt (Nat.pos_iff_ne_zero.mp z)).mpr (show i.natAbs < 2 ^ 64 from h)
    omega
theorem qm_err1 {X : Cx} {C : Addr} {x : Str} {f : String} {e : Expr} {te : DTE} {p pos : Pos} (E : ErrF X.prog X.w X.K X.mg X.base C x (PySem.Str.ofString f)) (hr : Room 2 X.A) (ha : QE X e te) (hg : Gl X x := by rfl)
    (hdb : (x == ("__debug__" : Str)) = false := by decide) (he : starEach [e] X.env = (false, eval e X.env) :: starEach [] X.env := by rfl) : QM X (.Call (.Name x p) [e] [] pos) (dErr1 C f te) := by
  obtain ⟨fI, fd, T, iC, tI, F, hb, hm⟩ := E
  have z := pmk_oex (ds := []) (dvs := []) (pos := pos) (p := p) T iC tI F hr hb .nil pass0 hg hm (qa_cons ha qa_nil he) hdb he (by rfl)
  intro pins s σ H Q I h
  refine z pins s σ H Q I ?_
  obtain ⟨dσ, A, R, hA, hS, q, k⟩ := h
  refine ⟨dσ, A, fun ds A1 => errK C f R (ds.headD .non) A1, hA, hS, q, fun ds A1 vs H1 q1 l1 hA1 rl g1 => ?_⟩
  obtain ⟨y, rfl⟩ : ∃ y, ds = [y] := List.length_eq_one_iff.mp l1
  have q1 : errK C f R y A1 := q1
  cases y with
  | int i =>
    obtain ⟨v, r, rfl, rv, rr⟩ := rl
    cases rr
    cases rv
    obtain ⟨hb, q1⟩ := q1
    refine ⟨by show 1 ≤ 1000; omega, fun a ha1 => ⟨a, i, rfl, log_ok hb, upd_same, fun dx hd1 hd2 => ⟨rfl, dx, [(PySem.Str.ofString f, .int i)], upd_same, ?_, ?_, ?_⟩⟩⟩
    · rw [upd_ne hd2, upd_same]
    · rw [upd_ne hd2] at hd1; exact hd1
    · rw [upd_ne hd2] at hd1
      have e : upd (del (upd (upd (upd H1 a (exo a C none)) dx (exd dx [(PySem.Str.ofString f, .int i)])) a (exo a C (some dx))) a) dx (.xd [(PySem.Str.ofString f, .int i)]) = upd H1 dx (.xd [(PySem.Str.ofString f, .int i)]) := by
        funext b
        by_cases h1 : b = dx
        · rw [h1, upd_same, upd_same]
        · rw [upd_ne h1, upd_ne h1]
          by_cases h2 : b = a
          · rw [h2, del_same, ha1]
          · rw [del_ne h2, upd_ne h2, upd_ne h1, upd_ne h2]
      rw [e]
      exact k _ _ A1 _ _ q1 (hA1.new hd1) (.inr ⟨dx, _, rfl, upd_same, ⟨_, _, rfl, rfl, rfl⟩⟩) (g1.trans (Grow.new hd1))
  | _ => exact q1.elim
end DL
set_option Elab.async false
set_option linter.all false
set_option maxRecDepth 100000
set_option maxHeartbeats 4000000
/-! DX4: list comprehensions that an exception may leave. -/
namespace DL
open PySem PySem.Spec PyProof.Rows L2
/-- what is wanted behind a comprehension's block, the block's own environment told -/
def postX (M : Model) (A : Around) (E : Value → Shared → Prop) (use : Option (Value → Sem Unit)) (Q : Value → Shared → Prop) (acc : Value) (cenv : Env) (r : Result) (s' : Shared) : Prop :=
  match r with
  | .ok f => compPost M A E use Q acc cenv.locals (.ok f) s'
  | .error x => ∃ m, s'.heap.Ns cenv.locals m ∧ ∀ h', Heap.SameBut cenv.locals s'.heap h' → wpAny M A (passOn "comprehension.variables-let-go" x cenv : Sem Value) (fun _ _ => False) E { s' with heap := h' }
theorem comp_freeX {M : Model} {A : Around} {E : Value → Shared → Prop} {s : Shared} {env : Env} {e : Expr} {scope : Scope} {pos : Pos} {newAcc first : Sem Value} {g : Comprehension} {gs : List Comprehension} {cl : List (Str × Addr)} {use : Option (Value → Sem Unit)} {Q : Value → Shared → Prop}
    (hcl : clausesOf e = g :: gs) (hs : ∀ x, foldedSetIterable g.iter env x = pure x) (hclos : closureFor scope env = pure cl) (hkind : scope.kind = .function) (hnames : ∀ x ∈ scope.names, x.2 = .local → scope.names.lookup x.1 = some .local)
    (h : wpAny M A first (fun x s₁ => wpAny M A (pyIter x) (fun it s₂ => wpAny M A newAcc (fun acc s₃ => wpAny M A (newFunctionEnv scope env.globals cl [] env.qual none .none (some env)) (fun cenv s₄ =>
      codeAny M A (.compStart e 0 it acc { cenv with scope := relabel scope env }) (postX M A E use Q acc { cenv with scope := relabel scope env }) s₄) E s₃) E s₂) E s₁) E s) :
    wpAny M A (comprehension e scope env pos newAcc false first use) Q E s := by
  unfold comprehension
  rw [hclos, hcl]
  refine wpAny_bind (wpAny_mono h (fun x s₁ h₁ => ?_) fun _ _ h' => h')
  refine wpAny_bind (wpAny_standAt (wpAny_bind (wpAny_of_eq (hs x) ?_)))
  refine wpAny_bind (wpAny_holding (wpAny_mono h₁ (fun it s₂ h₂ => ?_) fun _ _ h' => h'))
  refine wpAny_standIf (wpAny_bind (wpAny_mono h₂ (fun acc s₃ h₃ => ?_) fun _ _ h' => h'))
  refine wpAny_bind (wpAny_pure (wpAny_bind (wpAny_mono h₃ (fun cenv s₄ h₄ => ?_) fun _ _ h' => h')))
  dsimp only
  have hk : (({ cenv with scope := relabel scope env } : Env)).scope.kind = .function := hkind
  have hv : ∀ x ∈ (scope.names.filter fun x => (x.2 == .local || x.2 == .cell) && x.1 != (".0" : Str)).reverse, x.2 = .local → Env.kindOf { cenv with scope := relabel scope env } x.1 = some .local := fun x hx hl =>
    lookup_relabel_local (hnames x (List.mem_filter.mp (List.mem_reverse.mp hx)).1 hl)
  have hv' : ∀ x ∈ (scope.names.filter fun x => (x.2 == .local || x.2 == .cell) && x.1 != (".0" : Str)).reverse.drop 1 ++ (scope.names.filter fun x => (x.2 == .local || x.2 == .cell) && x.1 != (".0" : Str)).reverse.take 1, x.2 = .local → Env.kindOf { cenv with scope := relabel scope env } x.1 = some .local :=
    fun x hx hl => (List.mem_append.mp hx).elim (fun z => hv x (List.mem_of_mem_drop z) hl) fun z => hv x (List.mem_of_mem_take z) hl
  refine wpAny_holding (wpAny_bind (wpAny_attempt (wpAny_holding (wpAny_run (codeAny_mono h₄ fun r s' hr => ?_)))))
  cases r with
  | ok f =>
    cases use with
    | none =>
      obtain ⟨m, hn, hr⟩ := hr
      refine wpAny_bind (wpAny_holding (wpAny_comp_letGo (cenv := { cenv with scope := relabel scope env }) hk _ s' m hv hn fun h' m' _ hs' => ?_))
      exact wpAny_pure (hr h' hs')
    | some u =>
      refine wpAny_bind (wpAny_rule (wpAny_bind (wpAny_holding (wpAny_mono hr (fun _ s'' hr' => ?_) fun _ _ h' => h'))))
      obtain ⟨m, hn, hr'⟩ := hr'
      refine wpAny_bind (wpAny_comp_letGo (cenv := { cenv with scope := relabel scope env }) hk _ s'' m hv' hn fun h' m' _ hs' => ?_)
      exact wpAny_pure (hr' h' hs')
  | error x =>
    obtain ⟨m, hn, hr⟩ := hr
    refine wpAny_bind (wpAny_holding (wpAny_comp_letGo (cenv := { cenv with scope := relabel scope env }) hk _ s' m hv hn fun h' m' _ hs' => ?_))
    exact wpAny_mono (hr h' hs') (fun _ _ f => f.elim) fun _ _ y => y
theorem note_eq {x : Value} {env env' : Env} (h : env.frame = env'.frame) : noteFrame x env = noteFrame x env' := by
  unfold noteFrame PySem.frameOf
  rw [h]
/-- noted by a frame that is another one -/
theorem held_other {M : Model} {A : Around} {E : Value → Shared → Prop} {s : Shared} {Z : Obj → Prop} {base : Heap} {env : Env} {outer : List Env} {L L' e : Addr} {Q : Unit → Shared → Prop} (hZ : HandSPX.Steady Z) (hfr : A.frames = some (env :: outer)) (hf : env.frame = some L) (hh : HandSPX.HeldZ base (env :: outer) e Z L' s.heap) (hne : L' ≠ L)
    (hQ : ∀ h', HandSPX.HeldZ base (env :: outer) e Z L h' → s.heap.UpToSlots h' → Q () { s with heap := h' }) : wpAny M A (noteFrame (.ref e) env) Q E s := by
  obtain ⟨kb, en, fl, oe, vs, T, oT, ts, he, hz, hd, h1, nT, Te, hT, hdT, h3⟩ := hh
  unfold noteFrame
  simp only [hf]
  refine wpAny_bind (wpAny_field he hd h1 ?_)
  rw [if_pos (by simp)]
  refine wpAny_bind (wpAny_field hT hdT h3 ?_)
  rw [if_neg (show ¬ ((rawInt L' == rawInt L) = true) from by simp only [rawInt, beq_iff_eq, Value.int.injEq, not_and]; intro z; exact absurd (Int.ofNat_inj.mp z) hne)]
  have sz := (Array.getElem?_eq_some_iff.mp h3).1
  refine wpAny_bind (wpAny_setField hT hdT sz ?_)
  have oth : ∀ b, b ≠ T → (s.heap.update T (Obj.mapFields (·.setIfInBounds 3 Value.none))).get? b = s.heap.get? b := fun b hb => Heap.get?_update_other _ _ (Ne.symm hb)
  have nrec : ∀ b o, s.heap.get? b = some o → (∀ vs, o.data ≠ .fields vs) → b ≠ T := fun b o hb hnf q => by
    rw [q, hT] at hb; cases hb; exact hnf ts hdT
  refine HandSPX.wpAny_entryZ hZ hfr (fl.of_keeps fun b o hb hnf => ⟨o, (oth b (nrec b o hb hnf)).trans hb, rfl⟩) hf ((oth e (Ne.symm Te)).trans he) (fun b o hbo => ?_) en hd (Array.getElem?_eq_some_iff.mp h1).1 hz fun h' hN => ?_
  · exact (oth b fun q => by rw [q, nT] at hbo; cases hbo).trans (kb b o hbo)
  · obtain ⟨x1, x2, x3, x4⟩ := hN
    exact hQ h' ⟨x1, en, x2, x3⟩ fun b o hb hnf => x4 b o ((oth b (nrec b o hb hnf)).trans hb) hnf
theorem ff_move {B B' h1 h' : Heap} (k : ∀ L o, B.get? L = none → h1.get? L = some o → h'.get? L = some o ∧ B'.get? L = none) : ∀ {l : List Env}, h1.FunFrames B l → h'.FunFrames B' l
  | [], _ => trivial
  | _ :: _, ⟨hk, ⟨L, o, hf, hn, ho, hd⟩, hr⟩ => ⟨hk, ⟨L, o, hf, (k L o hn ho).2, (k L o hn ho).1, hd⟩, ff_move k hr⟩
/-- an exception in the air of a block; sI: the state without it -/
def XB (X : Cx) (s3 : Shared) (H3 : Hp) (scope : Scope) (ce : Env) (fp : List Addr) (W0 : WX) (u : Value) (s' : Shared) : Prop :=
  ∃ (a : Addr) (B : Heap) (sI : Shared) (pn : List (Addr × Obj)) (σ : L2.St) (H : Hp) (cls : Value) (d : Option Addr) (L : Addr),
    u = .ref a ∧ Inv (X.blk s3 H3 scope ce fp) pn σ H sI ∧ (∀ b o, sI.heap.get? b = some o → b ∉ frs X.stack → B.get? b = some o) ∧ sI.heap.UpToSlots s'.heap ∧ Sky B X.stack a (Zc cls d) L s'.heap ∧ H a = none ∧ s'.os = sI.os ∧ AllBare s'.gens ∧ W0 cls d σ H
/-- the block's context, its exceptions told -/
abbrev BlkX (X : Cx) (s3 : Shared) (H3 : Hp) (scope : Scope) (ce : Env) (fp : List Addr) (W0 : WX) : Cx := (X.blk s3 H3 scope ce fp).tr [] (XB X s3 H3 scope ce fp W0)
theorem takes_blk {X : Cx} {s3 : Shared} {H3 : Hp} {scope : Scope} {ce : Env} {fp : List Addr} {W0 : WX} (ok : (X.blk s3 H3 scope ce fp).Ok) : Takes (BlkX X s3 H3 scope ce fp W0) W0 := by
  rintro u s' ⟨a, B, sI, pn, σ, H, cls, d, e, I, nb, up, sky, na, os, ag, w⟩
  exact ⟨a, B, sI, _, σ, H, cls, d, _, e, Inv.ofTry (X := X.blk s3 H3 scope ce fp) (pins := []) I ok, nb, up, sky, na, os, ag, w⟩
section
variable {X : Cx} {pins : List (Addr × Obj)} {σ : L2.St} {H H3 : Hp} {s3 : Shared} {scope : Scope} {ce : Env} {fp : List Addr} {W0 W : WX}
/-- .. leaves the comprehension -/
theorem exc_out (hs : X.stack = X.env :: X.outer) (hf : X.env.frame = some X.env.locals) (tk : Takes X W) (I3 : Inv X pins σ H3 s3) (f3 : ∀ b ∈ fp, FpOk X pins H3 b) (hcL : ce.locals = s3.heap.objs.size) (hcf : ce.frame = X.env.frame)
    (hW : ∀ cls d σ' H', W0 cls d σ' H' → Grow H3 H' → W cls d σ H') {use : Option (Value → Sem Unit)} {Qf : Value → Shared → Prop} {acc : Value} {u : Value} {s' : Shared} (x : XB X s3 H3 scope ce fp W0 u s') :
    notedBy (model X.prog X.w) X.A ce (fun e s'' => postX (model X.prog X.w) X.A X.xe use Qf acc ce (.error e) s'') u s' := by
  obtain ⟨a, B, sI, pn, σ', H', cls, d, L, rfl, I, nb, up, sky, na, os, ag, w⟩ := x
  have hfr : X.A.frames = some (X.env :: X.outer) := by rw [I3.ok.frames, hs]
  have cN : ∀ o, s3.heap.get? ce.locals ≠ some o := fun o e => by
    have := Heap.lt_size e
    rw [hcL] at this
    exact absurd this (Nat.lt_irrefl _)
  have cF : ce.locals ∉ frs X.stack := fun hm => by
    obtain ⟨_, o, e, _⟩ := I3.stack.mem hm
    exact cN o e
  obtain ⟨m, hns, _⟩ := I.loc
  have hns : sI.heap.Ns ce.locals m := hns
  obtain ⟨oC, hoC⟩ : ∃ o, sI.heap.get? ce.locals = some o := by
    obtain ⟨o, _, _, e, _⟩ := hns
    exact ⟨o, e⟩
  have bC := nb _ _ hoC cF
  have hcN : H' ce.locals = none := I.free
  show wpAny _ _ (noteFrame (.ref a) ce) _ _ _
  rw [note_eq hcf]
  have fin : ∀ h1, HandSPX.HeldZ B (X.env :: X.outer) a (Zc cls d) X.env.locals h1 → s'.heap.UpToSlots h1 → postX (model X.prog X.w) X.A X.xe use Qf acc ce (.error (.ref a)) { s' with heap := h1 } := fun h1 hh up1 => by
    obtain ⟨kb, an, ff, oe, vs, T, oT, ts, he, hz, hd, e1, nT, Te, hT, hdT, h3⟩ := id hh
    have ha : a ≠ ce.locals := fun e => by rw [e, bC] at an; cases an
    have hTc : T ≠ ce.locals := fun e => by rw [e, bC] at nT; cases nT
    refine ⟨m, hns.at fun o q => by rw [hoC] at q; cases q; exact kb _ _ bC, fun h' sb => ?_⟩
    have oth : ∀ b, b ≠ ce.locals → h'.get? b = h1.get? b := fun b hb => sb.2 b hb
    have hB : HandSPX.HeldZ (PySem.W.hideAll B [ce.locals]) (X.env :: X.outer) a (Zc cls d) X.env.locals h' := by
      have notC : ∀ {b : Addr} {o : Obj}, (PySem.W.hideAll B [ce.locals]).get? b = some o → b ≠ ce.locals := fun {b o} e q => by
        rw [q, PySem.W.hideAll_none _ List.mem_cons_self] at e; cases e
      have none' : ∀ {b : Addr}, B.get? b = none → (PySem.W.hideAll B [ce.locals]).get? b = none := fun {b} e => by
        cases q : (PySem.W.hideAll B [ce.locals]).get? b with
        | none => rfl
        | some o => have z := PySem.W.of_hideAll _ q; rw [e] at z; cases z
      refine ⟨fun b o e => (oth b (notC e)).trans (kb b o (PySem.W.of_hideAll _ e)), none' an, ff_move (fun L o n e => ⟨(oth L fun q => by rw [q, bC] at n; cases n).trans e, none' n⟩) ff, ?_⟩
      exact ⟨oe, vs, T, oT, ts, (oth a ha).trans he, hz, hd, e1, none' nT, Te, (oth T hTc).trans hT, hdT, h3⟩
    have g3 : Grow H3 H' := ⟨I.base.tups, fun b o xs z => I.base.frzs b o _ z⟩
    have ne3 : ∀ {b : Addr} {o : Obj}, s3.heap.get? b = some o → b ∉ [ce.locals] := fun {b o} e z => by
      have z : b = ce.locals := by simpa using z
      rw [z] at e; exact cN o e
    have hg : ∀ {b : Addr} {o : Obj}, b ∉ [ce.locals] → sI.heap.get? b = some o → (PySem.W.hideAll sI.heap [ce.locals]).get? b = some o := fun {b o} n e => PySem.W.hideAll_get _ e n
    have un : Un (frs X.stack) fp H3 H' s3.heap (PySem.W.hideAll sI.heap [ce.locals]) := {
      keep := fun b o e n hb hx => hg (ne3 e) (I.base.keep b o e n hb hx)
      slot := fun b o e n hb hx => by
        obtain ⟨sl, z⟩ := I.base.slot b o e n hb hx
        exact ⟨sl, hg (ne3 e) z⟩
      free := fun b o e n hx => I.base.free b o e n hx
      there := fun b o e hx => by
        obtain ⟨o', z⟩ := I.base.there b o e hx
        exact ⟨o', hg (ne3 e) z⟩
      tups := I.base.tups
      frzs := I.base.frzs
      tbls := I.base.tbls }
    have hok : HOk X.prog X.w H' (PySem.W.hideAll sI.heap [ce.locals]) := fun b o e => by
      refine (I.hok b o e).stay (fun c v hc q => hg (fun z => ?_) q) (fun _ q => q) fun _ _ q => q
      have z : c = ce.locals := by simpa using z
      subst z
      rcases hc with hc | hc
      · rw [← hc, hcN] at e; cases e
      · rw [hcN] at hc; cases hc
    have J : Inv X pins σ H' { sI with heap := PySem.W.hideAll sI.heap [ce.locals] } := I3.call' (ch := fp) (s' := { sI with heap := PySem.W.hideAll sI.heap [ce.locals] }) I.os un hok I.bare fun b hb => ⟨(f3 b hb).2.2.2.1, (f3 b hb).2.1, (f3 b hb).2.2.2.2.1, (f3 b hb).2.2.2.2.2⟩
    have upI : (PySem.W.hideAll sI.heap [ce.locals]).UpToSlots h' := fun b o e hnf => by
      have e0 := PySem.W.of_hideAll _ e
      have nc : b ≠ ce.locals := fun q => by rw [q, PySem.W.hideAll_none _ List.mem_cons_self] at e; cases e
      obtain ⟨sl, z⟩ := (up.trans up1) b o e0 hnf
      exact ⟨sl, (oth b nc).trans z⟩
    unfold PySem.passOn
    refine wpAny_bind (wpAny_field ((oth a ha).trans he) hd e1 ?_)
    rw [if_neg (show ¬ ((Value.ref T == Value.none) = true) from by simp)]
    have go : wpAny (model X.prog X.w) X.A (setFlight (.ref a) ce.frame) (fun _ s4 => wpAny (model X.prog X.w) X.A (throw (.ref a) : Sem Value) (fun _ _ => False) X.xe s4) X.xe { s' with heap := h' } := by
      rw [hcf, hf]
      refine HandSPX.setFlight_onZ hB fun h4 hh4 up4 => wpAny_throw (tk _ _ ?_)
      refine ⟨a, PySem.W.hideAll B [ce.locals], { sI with heap := PySem.W.hideAll sI.heap [ce.locals] }, pins, σ, H', cls, d, rfl, J, fun b o e hb => ?_, upI.trans up4, .inr (.inr (by rw [hs]; exact hh4)), na, os, ag, hW cls d σ' H' w g3⟩
      have nc : b ∉ [ce.locals] := fun z => by
        rw [PySem.W.hideAll_none _ z] at e; cases e
      exact PySem.W.hideAll_get _ (nb b o (PySem.W.of_hideAll _ e) hb) nc
    first
      | exact wpAny_bind (wpAny_pure (wpAny_bind go))
      | exact wpAny_bind go
  rw [hs] at sky
  rcases sky with ⟨hB, hn, hl, oe, vs, he, hz, hd, h1⟩ | fl | hh
  · exact HandSPX.look_newZ Zc.steady hfr hl hf he hB hn hd h1 hz fin
  · exact HandSPX.looks_onZ Zc.steady hfr hf fl fin
  · by_cases e : L = X.env.locals
    · subst e
      exact HandSPX.againZ hf hh.2.2.2 (fin s'.heap hh (Heap.UpToSlots.refl _))
    · exact held_other Zc.steady hfr hf hh e fin
end
end DL
set_option Elab.async false
set_option linter.all false
set_option maxRecDepth 100000
set_option maxHeartbeats 4000000
/-! DX5: list comprehensions that may raise, over plain data. -/
namespace DL
open PySem PySem.Spec PyProof.Rows L2
/-- any wish of the block is that of a block without one -/
theorem blkX_inv {X : Cx} {s3 : Shared} {H3 : Hp} {scope : Scope} {ce : Env} {fp : List Addr} {W0 : WX} {pins : List (Addr × Obj)} {σ : L2.St} {H : Hp} {s : Shared} (I : Inv (X.blk s3 H3 scope ce fp) pins σ H s) : Inv (BlkX X s3 H3 scope ce fp W0) pins σ H s :=
  ⟨I.ok.toTry _ _, I.os, I.bare, I.base, I.loc, I.cell, I.free, I.freeC, I.pin, I.hok, I.len⟩
theorem blkX_un {X : Cx} {s3 : Shared} {H3 : Hp} {scope : Scope} {ce : Env} {fp : List Addr} {W0 : WX} {pins : List (Addr × Obj)} {σ : L2.St} {H : Hp} {s : Shared} (I : Inv (BlkX X s3 H3 scope ce fp W0) pins σ H s) : Inv (X.blk s3 H3 scope ce fp) pins σ H s :=
  ⟨Cx.Ok.ofTry (X := X.blk s3 H3 scope ce fp) I.ok, I.os, I.bare, I.base, I.loc, I.cell, I.free, I.freeC, I.pin, I.hok, I.len⟩
section
variable {X : Cx} {W0 W : WX}
/-- what a comprehension wants behind its first clause -/
def lcB (g : TG) (tt : TT) (te : TE) (vs : List Nat) (σ : L2.St) (Q : VK) : It → Hp → Prop := fun J H1 => ∀ D, H1 D = none → ∃ V : Nat → Nat → Hp → Prop, (∃ m, V 0 m (upd H1 D (.lst []))) ∧ ∀ i m H, V i m H →
  (J.stop i H ∧ Q (.ref D) H) ∨ (J.go i H ∧ ∃ Nx : Hp → Prop, (∀ H', Nx H' → ∃ m', m' < m ∧ V (i + 1) m' H') ∧ ∀ x H', J.yld i H x H' → g x (wipe σ vs) H' fun σ2 H2 => wipe σ2 vs = wipe σ vs ∧ tt σ2 H2 fun b H3 =>
    if b = true then te σ2 H3 fun y H4 => ∃ acc, H4 D = some (.lst acc) ∧ acc.length < sizeLine ∧ Nx (upd H4 D (.lst (acc ++ [y]))) else Nx H3)
theorem lcX_core {pins : List (Addr × Obj)} {s : Shared} {σ : L2.St} {H : Hp} {Q : VK} {elt tg iter : Expr} {ifs : List Expr} {scope : Scope} {own : List (Str × Nat)} {pos pos' : Pos} {wi : TI} {g : TG} {tt : TT} {te : TE} {use : Option (Value → Sem Unit)} {Qf : Value → Shared → Prop}
    (hst : X.stack = X.env :: X.outer) (hf : X.env.frame = some X.env.locals) (tk : Takes X W) (hc : X.calm = true) (hN : X.N.Nodup) (I : Inv X pins σ H s) (hi : PI X tg iter wi) (ok : BlkOk X.N X.env.scope scope own)
    (hg : ∀ s H C cl fp, PG (BlkX X s H scope (compEnvC scope cl C X.env) fp W0) tg g) (ht : ∀ s H C cl fp, PTs (BlkX X s H scope (compEnvC scope cl C X.env) fp W0) ifs tt)
    (he : ∀ s H C cl fp, Takes (BlkX X s H scope (compEnvC scope cl C X.env) fp W0) W0 → PE (BlkX X s H scope (compEnvC scope cl C X.env) fp W0) elt te) (hs : ∀ x, foldedSetIterable iter X.env x = pure x)
    (hW : ∀ cls d σ' H', W0 cls d σ' H' → Grow H H' → W cls d σ H') (h : wi σ H fun J H1 => Grow H H1 ∧ lcB g tt te (own.map (·.2)) σ Q J H1)
    (hRR : ∀ D C s' m H', Inv X pins σ H' s' → Q (.ref D) H' → s'.heap.Ns C m → FpOk X pins H' C → compPost (model X.prog X.w) X.A X.xe use Qf (.ref D) C (.ok .next) s') :
    wpAny (model X.prog X.w) X.A (comprehension (.ListComp elt [⟨tg, iter, ifs, 0⟩] scope pos) scope X.env pos' (newList []) false (eval iter X.env) use) Qf X.xe s := by
  have hfree : ∀ y ∈ scope.names, y.2 = .free → ∃ c, X.env.cells.lookup y.1 = some c := fun y hy e => (ok.free y hy e).elim (fun k => I.ok.has _ (.inl k)) fun k => I.ok.has _ (.inr k)
  refine comp_freeX (use := use) rfl hs (closure_ok hfree) ok.kind (fun y hy e => by rw [ok.uniq y hy, e]) (thn (hi.run pins s σ H _ I h) fun xv s1 hx => thn hx fun itv s2 h2 => ?_)
  obtain ⟨it, fp, tn, J, H2, e, I2, T, st2, f2, g2, q⟩ := h2
  subst e
  refine wpAny_newObj_type (newEnv_comp ?_) (by show 0 ≤ sizeLine; decide)
  generalize hD : s2.heap.objs.size = D
  have hDn : H2 D = none := I2.hok.fresh (Nat.le_of_eq hD)
  obtain ⟨V, ⟨m0, w0⟩, turn⟩ := q D hDn
  generalize hs3 : ({ s2 with heap := s2.heap.push { cls := .type "list", data := .seq ([] : List Value).toArray } } : Shared) = s3
  have I3 : Inv X pins σ (upd H2 D (.lst [])) s3 := by
    rw [← hs3]
    refine I2.laid (t' := s2.toks) (fun b o e => Heap.get?_push_of_some _ e) (Nat.le_of_eq hD) ⟨Nat.zero_le _, [], 0, .nil, ?_⟩
    rw [← hD]; exact Heap.get?_push_size _ rfl
  have h3 : s3.heap = s2.heap.push { cls := .type "list", data := .seq ([] : List Value).toArray } := by rw [← hs3]
  have g3 : Grow H (upd H2 D (.lst [])) := g2.trans (Grow.new hDn)
  have sz : ∀ b ∈ fp, b < s2.heap.objs.size := fun b hb => let ⟨o, e, _⟩ := T.obj _ _ st2 b hb; Heap.lt_size e
  have f3 : ∀ b ∈ fp, FpOk X pins (upd H2 D (.lst [])) b ∧ b < s3.heap.objs.size := fun b hb => by
    have hlt := sz b hb
    refine ⟨⟨?_, (f2 b hb).2⟩, by rw [h3, Heap.size_push]; exact Nat.lt_succ_of_lt hlt⟩
    rw [upd_ne (by rw [← hD]; exact Nat.ne_of_lt hlt)]; exact (f2 b hb).1
  have st3 : tn 0 s3.heap := T.keep _ _ _ st2 fun b _ o e => by rw [h3]; exact Heap.get?_push_of_some _ e
  have I4 := block_start I3 ok hN f3
  have pg := hg s3 (upd H2 D (.lst [])) s3.heap.objs.size (cellsFrom (s3.heap.objs.size + 1) scope.names (cloFrom X.env.cells scope.names [])) fp
  have pt := ht s3 (upd H2 D (.lst [])) s3.heap.objs.size (cellsFrom (s3.heap.objs.size + 1) scope.names (cloFrom X.env.cells scope.names [])) fp
  have pe := he s3 (upd H2 D (.lst [])) s3.heap.objs.size (cellsFrom (s3.heap.objs.size + 1) scope.names (cloFrom X.env.cells scope.names [])) fp
  show codeAny _ _ (.compStart (.ListComp elt [⟨tg, iter, ifs, 0⟩] scope pos) 0 (.ref it) (.ref D) (compEnvC scope (cellsFrom (s3.heap.objs.size + 1) scope.names (cloFrom X.env.cells scope.names [])) s3.heap.objs.size X.env))
    (postX (model X.prog X.w) X.A X.xe use Qf (.ref D) (compEnvC scope (cellsFrom (s3.heap.objs.size + 1) scope.names (cloFrom X.env.cells scope.names [])) s3.heap.objs.size X.env)) { s3 with heap := pushCells (s3.heap.push { cls := .type "dict", data := .dict #[] }) scope.names }
  have nfp : ∀ b ∈ fp, (upd H2 D (.lst [])) b = none := fun b hb => (f3 b hb).1.1
  generalize hce : compEnvC scope (cellsFrom (s3.heap.objs.size + 1) scope.names (cloFrom X.env.cells scope.names [])) s3.heap.objs.size X.env = ce at I4 pg pt pe ⊢
  have cL : ce.locals = s3.heap.objs.size := by subst hce; rfl
  have cFr : ce.frame = X.env.frame := by subst hce; rfl
  generalize hH3 : upd H2 D (.lst []) = H3 at I3 I4 pg pt pe w0 nfp f3 g3
  generalize hs4 : ({ s3 with heap := pushCells (s3.heap.push { cls := .type "dict", data := .dict #[] }) scope.names } : Shared) = s4 at I4 ⊢
  have pe := pe (takes_blk I4.ok)
  have out : ∀ {u : Value} {s' : Shared}, XB X s3 H3 scope ce fp W0 u s' → notedBy (model X.prog X.w) X.A ce (fun e s'' => postX (model X.prog X.w) X.A X.xe use Qf (.ref D) ce (.error e) s'') u s' := fun {u s'} x =>
    exc_out hst hf tk I3 (fun b hb => (f3 b hb).1) cL cFr (fun cls d σ' H' w g => hW cls d σ' H' w (g3.trans g)) x
  have thx : ∀ {α : Type} {t : Sem α} {P P' : α → Shared → Prop} {s : Shared}, wpAny (model X.prog X.w) X.A t P (XB X s3 H3 scope ce fp W0) s → (∀ a s, P a s → P' a s) → wpAny (model X.prog X.w) X.A t P' (notedBy (model X.prog X.w) X.A ce fun e s'' => postX (model X.prog X.w) X.A X.xe use Qf (.ref D) ce (.error e) s'') s :=
    fun hw hp => wpAny_mono hw hp fun _ _ x => out x
  have st4 : tn 0 s4.heap := T.keep _ _ _ st3 fun b _ o e => by rw [← hs4]; exact pushCells_keeps _ _ _ _ (Heap.get?_push_of_some _ e)
  have stat : ∀ {σ' : L2.St} {H' : Hp} {s' : Shared}, Inv (X.blk s3 H3 scope ce fp) [] σ' H' s' → (∀ b ∈ fp, H' b = none) → ∀ b ∈ fp, FpOk (X.blk s3 H3 scope ce fp) [] H' b := fun {σ' H' s'} I' hn b hb =>
    ⟨hn b hb, (I'.ok.exf b hb).1, I'.ok.exfs b hb, .inl hb, fun x c e => (I'.ok.exf b hb).2 x c e, fun p hp => absurd (show p ∈ ([] : List (Addr × Obj)) ++ [] from hp) (by simp)⟩
  have loop : codeAny (model X.prog X.w) X.A (.compLoop (.ListComp elt [⟨tg, iter, ifs, 0⟩] scope pos) 0 (.ref it) (.ref D) ce) (postX (model X.prog X.w) X.A X.xe use Qf (.ref D) ce) s4 := by
    refine compLoop_any (fun n s' => ∃ i H', Inv (X.blk s3 H3 scope ce fp) [] (wipe σ (own.map (·.2))) H' s' ∧ tn i s'.heap ∧ (∀ b ∈ fp, H' b = none) ∧ V i n H') ?_ m0 ⟨0, H3, I4, st4, nfp, w0⟩
    rintro n s5 ⟨i, H5, I5, st5, n5, w5⟩
    rcases turn i n H5 w5 with ⟨stop, qq⟩ | ⟨go, Nx, hNx, step⟩
    · refine thnF (T.done (X.blk s3 H3 scope ce fp) rfl rfl rfl hc i [] s5 _ H5 (fun _ _ => False) I5 (stat I5 n5) st5 stop) fun r s6 ⟨hr, I6⟩ => ?_
      subst hr
      have I7 : Inv X pins σ H5 s6 := I3.call' (ch := fp) I6.os I6.base I6.hok I6.bare fun b hb => let z := (f3 b hb).1.2; ⟨z.2.2.1, z.1, z.2.2.2.1, z.2.2.2.2⟩
      have nC : H5 ce.locals = none := I6.free
      obtain ⟨m, hn, _⟩ := I6.loc
      have hn : s6.heap.Ns ce.locals m := hn
      show compPost _ _ _ _ _ _ _ _ _
      exact hRR D ce.locals s6 m H5 I7 qq hn (I3.fpOk (by rw [cL]; exact Nat.le_refl _) nC)
    · refine thnF (T.item (X.blk s3 H3 scope ce fp) rfl rfl rfl hc i [] s5 _ H5 (fun _ _ => False) I5 (stat I5 n5) st5 go) fun r s6 ⟨u, hr, h6⟩ => ?_
      subst hr
      refine thnF h6 fun _ s7 ⟨x, H7, I7, r7, y7, st7, n7⟩ => ?_
      have I7' := I7.pinned (stat I7 n7) (T.obj _ _ st7)
      refine thx (pg.run _ s7 _ H7 x u _ (blkX_inv I7') r7 (step x H7 y7)) fun _ s8 ⟨σ8, H8, I8, hw8, q8⟩ => ?_
      refine thx (pt.run _ s8 σ8 H8 _ I8 q8) fun b s9 ⟨H9, I9, q9⟩ => ?_
      have fin : ∀ {s' : Shared} {H' : Hp}, Inv (X.blk s3 H3 scope ce fp) ([] ++ pinsAt fp s7.heap) σ8 H' s' → Nx H' → ∃ m, m < n ∧ ∃ i H', Inv (X.blk s3 H3 scope ce fp) [] (wipe σ (own.map (·.2))) H' s' ∧ tn i s'.heap ∧ (∀ b ∈ fp, H' b = none) ∧ V i m H' := fun {s' H'} I' nx => by
        obtain ⟨m', hm, w'⟩ := hNx H' nx
        have pin' : ∀ b ∈ fp, ∀ o, s7.heap.get? b = some o → s'.heap.get? b = some o ∧ H' b = none := fun b hb o e => let z := I'.pin (b, o) (List.mem_append_right _ (List.mem_append_right _ (mem_pinsAt hb e))); ⟨z.1, z.2.1⟩
        refine ⟨m', hm, i + 1, H', (I'.unpinned (pins := [])).weak (by rw [← hw8, wipe_length]) (fun j v e => ?_), T.keep _ _ _ st7 fun b hb o e => (pin' b hb o e).1, fun b hb => ?_, w'⟩
        · rw [← hw8] at e; exact (wipe_some e).1
        · obtain ⟨o, e, _⟩ := T.obj _ _ st7 b hb
          exact (pin' b hb o e).2
      cases b with
      | false =>
        simp only [Bool.false_eq_true, if_false] at q9 ⊢
        exact fin (blkX_un I9) q9
      | true =>
        simp only [if_true] at q9 ⊢
        refine thx (pe.run _ s9 σ8 H9 _ I9 q9) fun z s10 ⟨yv, H10, I10, r10, acc, hD10, hz10, nx⟩ => ?_
        exact app_ok (X := X.blk s3 H3 scope ce fp) (blkX_un I10) hD10 hz10 r10 fun s11 I11 => fin I11 nx
  exact codeAny_compStart_list loop (T.self X.A 0 _ _ _ st4 loop)
end
/-- [e for g in wi if tt], where e may raise -/
def dLcX (W : DW) (wi : DI) (g : DTG) (tt : DTT) (te : DW → DTE) (vs : List Nat) : DTE := fun σ A Q => dLc wi g tt (te fun cls fs _ A' => W cls fs σ A') vs σ A Q
section
variable {X : Cx} {W : DW} {elt tg iter : Expr} {ifs : List Expr} {scope : Scope} {pos spos : Pos} {wi : DI} {g : DTG} {gv : TG} {tt : DTT} {te : DW → DTE}
theorem lI_grow {B : Bs} {σ : L2.St} {H : Hp} {R : It → Hp → Prop} (h : lI B wi σ H R) : lI B wi σ H fun J H1 => Grow H H1 ∧ R J H1 := let ⟨dσ, A, P, hA, hS, q, k⟩ := h; ⟨dσ, A, P, hA, hS, q, fun S A' J H' p hA' g w => ⟨g, k S A' J H' p hA' g w⟩⟩
/-- a block's context, over plain data -/
abbrev BlX (X : Cx) (scope : Scope) (Wb : DW) (s : Shared) (H : Hp) (C : Addr) (cl : List (Str × Addr)) (fp : List Addr) : Cx := BlkX X s H scope (compEnvC scope cl C X.env) fp (lW X.b Wb)
theorem qe_lcX (own : List (Str × Nat)) (hst : X.stack = X.env :: X.outer) (hf : X.env.frame = some X.env.locals) (tk : TakesD X W) (hc : X.calm = true) (hN : X.N.Nodup) (hi : QI X tg iter wi) (ok : blkC X.N X.env.scope scope own = true)
    (hg : ∀ Wb s H C cl fp, QG (BlX X scope Wb s H C cl fp) tg g (own.map (·.2)) gv) (ht : ∀ Wb s H C cl fp, QTs (BlX X scope Wb s H C cl fp) ifs tt) (he : ∀ Wb s H C cl fp, TakesD (BlX X scope Wb s H C cl fp) Wb → QE (BlX X scope Wb s H C cl fp) elt (te Wb))
    (hs : ∀ x, foldedSetIterable iter X.env x = pure x := by intro _; rfl) : QE X (.ListComp elt [⟨tg, iter, ifs, 0⟩] scope pos) (dLcX W wi g tt te (own.map (·.2))) := by
  refine ⟨fun pins s σ H Q I hq => ?_⟩
  obtain ⟨dσ, A, R, hA, hS, q, k⟩ := hq
  have z := lc_t (B := X.b) (own := own) (hg (fun cls fs _ A' => W cls fs dσ A') s H 0 [] []).im σ H Q ⟨dσ, A, R, hA, hS, q, k⟩
  rw [eval_ListComp]
  refine lcX_core (W0 := lW X.b fun cls fs _ A' => W cls fs dσ A') (Q := Q) (te := lE X.b (te fun cls fs _ A' => W cls fs dσ A')) hst hf tk hc hN I hi (blkOk_by ok) (fun s H C cl fp => (hg _ s H C cl fp).pg) (ht _) (fun s H C cl fp t => he _ s H C cl fp t) hs ?_ (lI_grow z) fun D C s' m H' I' q hn f => ⟨m, hn, fun h'' sb => ?_⟩
  · rintro cls d σ' H' ⟨dσ', A', fs, w, hA', _, xf⟩ gr
    exact ⟨dσ, A', fs, w, hA', hS.grow gr, xf⟩
  · obtain ⟨f0, f1, f2, f3, f4, f5⟩ := f
    exact ⟨.ref D, H', I'.turned (t' := s'.toks) (fun b o hb e => (sb.2 b hb).trans e) f0 f1 f3 f4 f5, rfl, q⟩
theorem qs_setLcX (i : Nat) (own : List (Str × Nat)) {y : Str} {py : Pos} (hst : X.stack = X.env :: X.outer) (hf : X.env.frame = some X.env.locals) (tk : TakesD X W) (hc : X.calm = true) (hN : X.N.Nodup) (hi : QI X tg iter wi) (ok : blkC X.N X.env.scope scope own = true)
    (hg : ∀ Wb s H C cl fp, QG (BlX X scope Wb s H C cl fp) tg g (own.map (·.2)) gv) (ht : ∀ Wb s H C cl fp, QTs (BlX X scope Wb s H C cl fp) ifs tt) (he : ∀ Wb s H C cl fp, TakesD (BlX X scope Wb s H C cl fp) Wb → QE (BlX X scope Wb s H C cl fp) elt (te Wb))
    (hsw : swapsWith (.ListComp elt [⟨tg, iter, ifs, 0⟩] scope pos) (some (.Name y py)) spos.line X.env = pure true)
    (hy : X.N[i]? = some y := by rfl) (hyl : X.env.scope.names.lookup y = some .local := by rfl) (hs : ∀ x, foldedSetIterable iter X.env x = pure x := by intro _; rfl) :
    QS X (.Assign [.Name y py] (.ListComp elt [⟨tg, iter, ifs, 0⟩] scope pos) spos) (dAsg (dLcX W wi g tt te (own.map (·.2))) (dName i)) := by
  refine ⟨fun pins s σ H D I hq => ?_⟩
  obtain ⟨dσ, A, DD, hA, hS, q, k⟩ := hq
  have q : dLc wi g tt (te fun cls fs _ A' => W cls fs dσ A') (own.map (·.2)) dσ A (fun x A1 => dName i x dσ A1 DD.nx) := q
  have z := lc_t (B := X.b) (own := own) (hg (fun cls fs _ A' => W cls fs dσ A') s H 0 [] []).im σ H (fun v H1 => gName i v σ H1 D.nx) ⟨dσ, A, _, hA, hS, q, fun d A' v H' q' hA' rd g' => k.nx _ _ _ _ q' hA' ((hS.grow g').set rd) g'⟩
  rw [exec_Assign_Name_used _ _ _ _ hsw]
  refine wpAny_bind (wpAny_standAt (wpAny_bind ?_))
  show wpAny _ X.A (do let _ ← comprehension (.ListComp elt [⟨tg, iter, ifs, 0⟩] scope pos) scope X.env (firstIterPos [⟨tg, iter, ifs, 0⟩] pos) (newList []) false (eval iter X.env) (some (assign (.Name y py) X.env))) _ _ s
  refine wpAny_bind (thn (lcX_core (W0 := lW X.b fun cls fs _ A' => W cls fs dσ A') (Qf := fun _ s' => SP X pins D .next s') (Q := fun v H1 => gName i v σ H1 D.nx) (te := lE X.b (te fun cls fs _ A' => W cls fs dσ A')) hst hf tk hc hN I hi (blkOk_by ok) (fun s H C cl fp => (hg _ s H C cl fp).pg) (ht _) (fun s H C cl fp t => he _ s H C cl fp t) hs ?_ (lI_grow z) fun L C s' m H' I' q hn f => ?_) fun _ s' hq => wpAny_pure (wpAny_pure hq))
  · rintro cls d σ' H' ⟨dσ', A', fs, w, hA', _, xf⟩ gr
    exact ⟨dσ, A', fs, w, hA', hS.grow gr, xf⟩
  · show wpAny _ _ (assign (.Name y py) X.env (.ref L)) _ _ _
    refine wpAny_assign_Name (store_ok2 (v := V.ref L) I' hN hy (.inl hyl) rfl (fun s2 I2 ⟨a, sb, ha⟩ => ?_) (.inr hyl))
    obtain ⟨f0, f1, f2, f3, f4, f5⟩ := f
    have haC : C ≠ a := ha.elim (fun z => by rw [z]; exact f1) fun z e => f4 y a z e.symm
    exact ⟨m, hn.sameBut sb haC, fun h3 sb3 => ⟨_, H', I2.turned (t' := s2.toks) (fun b o hb e => (sb3.2 b hb).trans e) f0 f1 f3 f4 f5, q⟩⟩
end
end DL
set_option Elab.async false
set_option linter.all false
set_option maxRecDepth 100000
set_option maxHeartbeats 4000000
/-! DX6: try .. except X as e, except X; e.field, isinstance(e, X). -/
namespace DL
open PySem PySem.Spec PyProof.Rows L2
/-- a statement of a def's own suite (not in a loop): its ends are told from the def's entry on -/
def lS0 (B : Bs) (H0 : Hp) (t : DTS) : TS := fun D σ H => ∃ dσ A DD, RelH B A H ∧ RelS B.K H dσ σ ∧ t DD dσ A ∧ Kd B H0 DD D
abbrev QS0 (X : Cx) (st : Stmt) (t : DTS) : Prop := PS X st (lS0 X.b X.H_0 t)
abbrev QSs0 (X : Cx) (st : List Stmt) (t : DTS) : Prop := PSs X st (lS0 X.b X.H_0 t)
section
variable {X : Cx} {st : Stmt} {sts : List Stmt} {t u : DTS}
theorem qs0_of (h : QS X st t) : QS0 X st t := ⟨fun pins s σ H D I ⟨dσ, A, DD, hA, hS, q, k⟩ => h.run pins s σ H D I ⟨dσ, A, DD, hA, hS, q, k.from (inv_grow I)⟩⟩
theorem qss0_of (h : QSs X sts t) : QSs0 X sts t := ⟨fun pins s σ H D I ⟨dσ, A, DD, hA, hS, q, k⟩ => h.run pins s σ H D I ⟨dσ, A, DD, hA, hS, q, k.from (inv_grow I)⟩⟩
theorem qss0_cons (h1 : QS0 X st t) (h2 : QSs0 X sts u) : QSs0 X (st :: sts) (dSeq t u) := by
  refine imSs (pss_cons h1 h2) ?_
  intro D σ H ⟨dσ, A, DD, hA, hS, q, k⟩
  exact ⟨dσ, A, _, hA, hS, q, ⟨fun dσ' A' σ' H' q' hA' hS' g' => ⟨dσ', A', DD, hA', hS', q', k⟩, k.rt, k.bk, k.ct⟩⟩
theorem qss0_one (h1 : QS0 X st t) : QSs0 X [st] t := pss_one h1
end
/-- .. if, within such a suite -/
theorem qs0_if {X : Cx} {c : Expr} {a b : List Stmt} {tc : DTT} {t u : DTS} {pos : Pos} (hc : QT X c tc) (ha : QSs0 X a t) (hb : QSs0 X b u) : QS0 X (.If c a b pos) (dIf tc t u) := by
  refine imS (ps_if hc ha hb) ?_
  intro D σ H ⟨dσ, A, DD, hA, hS, q, k⟩
  refine ⟨dσ, A, _, hA, hS, q, fun c A1 H1 q1 hA1 g1 => ?_⟩
  cases c with
  | true => exact iteT ⟨dσ, A1, DD, hA1, hS.grow g1, q1, k⟩
  | false => exact iteF ⟨dσ, A1, DD, hA1, hS.grow g1, q1, k⟩
/-- what the heap tells of the exception that is caught -/
def Cgt (d : Option Addr) (fs : List (String × D)) (A' A'' : AH) : Prop := (d = none ∧ fs = [] ∧ A'' = A') ∨ ∃ dd, d = some dd ∧ (∀ o, A' dd = some o → ∃ gs, o = .xd gs) ∧ A'' = up A' dd (.xd fs)
/-- except X as e (slot i): the classes cs are caught, the classes no go on -/
abbrev Cls1 := Addr × (Addr → Option Addr → DTS)
def wTryAs (cs : List Cls1) (no : List Addr) (i : Nat) (W : DW) (DD : DE) : DW := fun cls fs σ' A' =>
  (∃ c ∈ cs, cls = .ref c.1 ∧ ∀ a d A'', A' a = none → Cgt d fs A' A'' → c.2 a d { nx := fun s B => DD.nx (s.set i none) B, rt := DD.rt, bk := fun s B => DD.bk (s.set i none) B, ct := fun s B => DD.ct (s.set i none) B } (σ'.set i (some (.ref a))) A'') ∨ ∃ C ∈ no, cls = .ref C ∧ W cls fs σ' A'
def dTryAs (cs : List Cls1) (no : List Addr) (i : Nat) (tb : DW → DTS) (W : DW) : DTS := fun DD σ A => tb (wTryAs cs no i W DD) DD σ A
/-- except X -/
def wTryOnly (cs : List Cls1) (no : List Addr) (W : DW) (DD : DE) : DW := fun cls fs σ' A' =>
  (∃ c ∈ cs, cls = .ref c.1 ∧ ∀ a d A'', A' a = none → Cgt d fs A' A'' → c.2 a d DD σ' A'') ∨ ∃ C ∈ no, cls = .ref C ∧ W cls fs σ' A'
def dTryOnly (cs : List Cls1) (no : List Addr) (tb : DW → DTS) (W : DW) : DTS := fun DD σ A => tb (wTryOnly cs no W DD) DD σ A
theorem cgt_rel {B : Bs} {A' : AH} {H : Hp} {d : Option Addr} {fs : List (String × D)} (hA : RelH B A' H) (xf : XF B.K H d fs) : ∃ A'', Cgt d fs A' A'' ∧ RelH B A'' H := by
  rcases xf with ⟨rfl, rfl⟩ | ⟨dd, vs, rfl, e, r⟩
  · exact ⟨A', .inl ⟨rfl, rfl, rfl⟩, hA⟩
  · refine ⟨up A' dd (.xd fs), .inr ⟨dd, rfl, fun o q => ?_, rfl⟩, fun a o q => ?_⟩
    · have z := hA dd o q
      cases o with
      | lst xs => obtain ⟨_, z, _⟩ := z; rw [e] at z; cases z
      | dic kvs => obtain ⟨_, z, _⟩ := z; rw [e] at z; cases z
      | fdic ob kvs => obtain ⟨_, z, _⟩ := z; rw [e] at z; cases z
      | ins C fs => obtain ⟨_, _, z, _⟩ := z; rw [e] at z; cases z
      | tbl => obtain ⟨_, z, _⟩ := z; rw [e] at z; cases z
      | xd gs => exact ⟨gs, rfl⟩
    by_cases c : a = dd
    · subst c; rw [up_same] at q; cases q; exact ⟨vs, e, r⟩
    · rw [up_ne c] at q; exact hA a o q
section
variable {X : Cx} {W : DW} {x n : Str} {c : Value} {i : Nat} {cs : List Cls1} {no : List Addr} {body suite : List Stmt} {b₀ : Stmt} {np pos pos' : Pos} {tb : DW → DTS}
/-- from the layer's wish to plain data's -/
theorem takes_tr {pn : List (Addr × Obj)} {xe : Value → Shared → Prop} {V : WX} {Wd : DW} (t : Takes (X.tr pn xe) V) (h : ∀ cls d σ H, Grow X.H_0 H → lW X.b Wd cls d σ H → V cls d σ H) : TakesD (X.tr pn xe) Wd := by
  rintro u s' ⟨a, B, sI, pins, σ, H, cls, d, e, I, nb, up, sky, na, os, ag, w⟩
  exact t u s' ⟨a, B, sI, pins, σ, H, cls, d, e, I, nb, up, sky, na, os, ag, h cls d σ H (inv_grow (X := X.tr pn xe) I) w⟩
theorem body_tr (hb : ∀ Wd pn xe, TakesD (X.tr pn xe) Wd → PassesOwn (model X.prog X.w) X.A X.env xe → QSs0 (X.tr pn xe) body (tb Wd)) (V : WX) (pn : List (Addr × Obj)) (xe : Value → Shared → Prop) (t : Takes (X.tr pn xe) V) (p : PassesOwn (model X.prog X.w) X.A X.env xe) :
    PSs (X.tr pn xe) body (fun D σ H => ∃ Wd, (∀ cls d σ H, Grow X.H_0 H → lW X.b Wd cls d σ H → V cls d σ H) ∧ lS0 X.b X.H_0 (tb Wd) D σ H) :=
  ⟨fun pins s σ H D I ⟨Wd, hW, h⟩ => (hb Wd pn xe (takes_tr t hW) p).run pins s σ H D I h⟩
/-- each class that is caught, with its suite -/
def AllS (X : Cx) (c : Value) (suite : List Stmt) (cs : List Cls1) : Prop := ∀ p ∈ cs, PySem.W.exmOne X.K (.ref p.1) c = some true ∧ ∀ a oe d pn, Zc (.ref p.1) d oe → (∃ vs, oe.data = .fields vs) → QSs0 (X.suite a ((a, oe) :: pn)) suite (p.2 a d)
theorem allS_nil {suite : List Stmt} : AllS X c suite [] := fun _ h => nomatch h
theorem allS_cons {suite : List Stmt} {C : Addr} {ts : Addr → Option Addr → DTS} (h1 : PySem.W.exmOne X.K (.ref C) c = some true) (h2 : ∀ a oe d pn, Zc (.ref C) d oe → (∃ vs, oe.data = .fields vs) → QSs0 (X.suite a ((a, oe) :: pn)) suite (ts a d)) (h : AllS X c suite cs) : AllS X c suite ((C, ts) :: cs) := fun p hp => by
  rcases List.mem_cons.mp hp with rfl | hp
  · exact ⟨h1, h2⟩
  · exact h p hp
def AllN (X : Cx) (c : Value) (no : List Addr) : Prop := ∀ C ∈ no, PySem.W.exmOne X.K (.ref C) c = some false
theorem allN_nil : AllN X c [] := fun _ h => nomatch h
theorem allN_cons {C : Addr} (h1 : PySem.W.exmOne X.K (.ref C) c = some false) (h : AllN X c no) : AllN X c (C :: no) := fun p hp => by
  rcases List.mem_cons.mp hp with rfl | hp
  · exact h1
  · exact h p hp
theorem suite_tr {a : Addr} {oe : Obj} {cls : Value} {d : Option Addr} {pn : List (Addr × Obj)} {suite : List Stmt} (hsu : AllS X c suite cs) (hz : Zc cls d oe) (hv : ∃ vs, oe.data = .fields vs) :
    PSs (X.suite a ((a, oe) :: pn)) suite (fun D σ H => ∃ p ∈ cs, cls = .ref p.1 ∧ lS0 X.b X.H_0 (p.2 a d) D σ H) :=
  ⟨fun pins s σ H D I ⟨p, hp, e, h⟩ => ((hsu p hp).2 a oe d pn (by rw [← e]; exact hz) hv).run pins s σ H D I h⟩
theorem qs0_try_as (hs : X.stack = X.env :: X.outer) (hf : X.env.frame = some X.env.locals) (hN : X.N.Nodup) (tk : TakesD X W) (hc : Names X x c) (hno : AllN X c no)
    (hb : ∀ Wd pn xe, TakesD (X.tr pn xe) Wd → PassesOwn (model X.prog X.w) X.A X.env xe → QSs0 (X.tr pn xe) body (tb Wd))
    (hsu : AllS X c (b₀ :: suite) cs)
    (hi : X.N[i]? = some n := by rfl) (hln : X.env.kindOf n = some .local := by rfl) :
    QS0 X (.Try body [.ExceptHandler (some (.Name x np)) (some n) (b₀ :: suite) pos'] [] [] pos) (dTryAs cs no i tb W) := by
  refine imS (ps_try_as hs hf hN hi hln hc tk (body_tr hb) (fun a oe cls d pn hz hv => suite_tr hsu hz hv)) ?_
  intro D σ H ⟨dσ, A, DD, hA, hS, q, k⟩
  refine ⟨_, ?_, dσ, A, DD, hA, hS, q, k⟩
  rintro cls d σ1 H1 g1 ⟨dσ1, A1, fs, w, hA1, hS1, xf⟩
  rcases w with ⟨C, hC, rfl, w⟩ | ⟨C, hC, rfl, w⟩
  · refine ⟨true, (hsu C hC).1, fun _ a ha => ⟨C, hC, rfl, ?_⟩, fun z => by cases z⟩
    obtain ⟨A2, c2, r2⟩ := cgt_rel hA1 xf
    refine ⟨_, A2, _, r2, hS1.set (d := .ref a) rfl, w a d A2 (hA1.free ha) c2, ⟨fun dσ A σ H n h1 h2 h3 => k.nx _ _ _ _ n h1 h2.unset h3, k.rt, fun dσ A σ H n h1 h2 h3 => k.bk _ _ _ _ n h1 h2.unset h3, fun dσ A σ H n h1 h2 h3 => k.ct _ _ _ _ n h1 h2.unset h3⟩⟩
  · exact ⟨false, hno C hC, (fun z => nomatch z), fun _ => ⟨dσ1, A1, fs, w, hA1, hS1, xf⟩⟩
theorem qs0_try_only (hs : X.stack = X.env :: X.outer) (hf : X.env.frame = some X.env.locals) (tk : TakesD X W) (hc : Names X x c) (hno : AllN X c no)
    (hb : ∀ Wd pn xe, TakesD (X.tr pn xe) Wd → PassesOwn (model X.prog X.w) X.A X.env xe → QSs0 (X.tr pn xe) body (tb Wd))
    (hsu : AllS X c (b₀ :: suite) cs) :
    QS0 X (.Try body [.ExceptHandler (some (.Name x np)) none (b₀ :: suite) pos'] [] [] pos) (dTryOnly cs no tb W) := by
  refine imS (ps_try_only hs hf hc tk (body_tr hb) (fun a oe cls d pn hz hv => suite_tr hsu hz hv)) ?_
  intro D σ H ⟨dσ, A, DD, hA, hS, q, k⟩
  refine ⟨_, ?_, dσ, A, DD, hA, hS, q, k⟩
  rintro cls d σ1 H1 g1 ⟨dσ1, A1, fs, w, hA1, hS1, xf⟩
  rcases w with ⟨C, hC, rfl, w⟩ | ⟨C, hC, rfl, w⟩
  · refine ⟨true, (hsu C hC).1, fun _ a ha => ⟨C, hC, rfl, ?_⟩, fun z => by cases z⟩
    obtain ⟨A2, c2, r2⟩ := cgt_rel hA1 xf
    exact ⟨_, A2, _, r2, hS1, w a d A2 (hA1.free ha) c2, k⟩
  · exact ⟨false, hno C hC, (fun z => nomatch z), fun _ => ⟨dσ1, A1, fs, w, hA1, hS1, xf⟩⟩
end
/-- the facts of an own exception class, for what is asked of a caught one -/
structure ExcK (K : PySem.W.Frag) (C : Addr) : Prop where
  ga : PySem.W.findIn K (.ref C) "__getattribute__" = some (some (.builtin "BaseException.__getattribute__"))
  gg : PySem.W.findIn K (.ref C) "__getattr__" = some none
  sub : PySem.W.subIn K (.ref C) (.type "BaseException") = some true
  hd : PySem.W.hasDictIn K C = true
  cls : PySem.W.findIn K (.ref C) "__class__" = some (some (.builtin "object.__class__"))
  get : PySem.W.specialIn K (.builtin "object.__class__") "__get__" = some (some (.builtin "getset_descriptor.__get__"))
  tkc : PySem.W.takesIn K (.builtin "object.__class__") = some true
  ob : PySem.W.mroIn K C (.type "object") = some true
  ty : PySem.W.typeIn K (.ref C) = some (.type "type")
  self : PySem.W.subIn K (.ref C) (.ref C) = some true
theorem ExcK.has {K : PySem.W.Frag} {C : Addr} (E : ExcK K C) : (PySem.W.clsIn K C).isSome = true := by
  obtain ⟨cd, hc, _⟩ := PySem.W.any_some E.hd
  rw [hc]; rfl
theorem kitCls_of {K : PySem.W.Frag} {t : Value} {G : Addr} {b : Bool} (E : ExcK K G) (h : PySem.W.subIn K t (.ref G) = some b) : PySem.W.kitCls K t (.ref G) = some b := by
  unfold PySem.W.kitCls
  dsimp only
  rw [if_pos (by rw [E.has, E.ty]; rfl)]
  exact h
theorem kitOne_of {K : PySem.W.Frag} {C G : Addr} {b : Bool} (E : ExcK K G) (h : PySem.W.subIn K (.ref C) (.ref G) = some b) : PySem.W.kitOne K (.ref C) (.ref G) = some b := by
  unfold PySem.W.kitOne
  by_cases e : C = G
  · subst e
    rw [E.self] at h
    rw [if_pos (by simp)]; exact h
  · rw [if_neg (by simp [e])]
    exact kitCls_of E h
theorem exm_of {K : PySem.W.Frag} {C G : Addr} {b : Bool} (E : ExcK K G) (h : PySem.W.subIn K (.ref C) (.ref G) = some b) : PySem.W.exmOne K (.ref C) (.ref G) = some b := by
  unfold PySem.W.exmOne
  rw [if_pos (by rw [E.sub]; rfl)]
  exact kitCls_of E h
/-- e.f of the caught exception -/
def dXf (a : Addr) (d : Option Addr) (f : String) (te : DTE) : DTE := fun σ A Q => te σ A fun x A1 => x = .ref a ∧ match d with
  | some dd => match A1 dd with
    | some (.xd fs) => match getS f fs with
      | some v => Q v A1
      | none => False
    | _ => False
  | none => False
def dIsE (a : Addr) (d : Option Addr) (b : Bool) (te : DTE) : DTE := fun σ A Q => te σ A fun x A1 => x = .ref a ∧ (d = none ∨ ∃ dd fs, d = some dd ∧ A1 dd = some (.xd fs)) ∧ Q (.bl b) A1
section
variable {X : Cx} {a C : Addr} {oe : Obj} {d : Option Addr} {pn : List (Addr × Obj)} {e : Expr} {te : DTE} {pos p tp : Pos} {x : Str}
theorem qe_xf (f : String) (E : ExcK X.K C) (hno : PySem.W.findIn X.K (.ref C) (PySem.Str.ofString f) = some none) (hz : Zc (.ref C) d oe) (hf : ∃ vs, oe.data = .fields vs) (he : QE (X.suite a ((a, oe) :: pn)) e te)
    (hb : attributeBase e (PySem.Str.ofString f) X.env (eval e X.env) = eval e X.env := by rfl) : QE (X.suite a ((a, oe) :: pn)) (.Attribute e (PySem.Str.ofString f) pos) (dXf a d f te) := by
  refine imE (pe_xf ⟨E.ga, E.gg, E.sub, E.hd⟩ hno hz hf he hb) ?_
  intro σ H Q ⟨dσ, A, R, hA, hS, q, k⟩
  refine ⟨dσ, A, _, hA, hS, q, fun y A1 v H1 q1 hA1 ry g1 => ?_⟩
  obtain ⟨rfl, q1⟩ := q1
  cases ry
  refine ⟨rfl, rfl, ?_⟩
  cases d with
  | none => exact q1.elim
  | some dd =>
    revert q1
    show (match A1 dd with | some (.xd fs) => (match getS f fs with | some v => R v A1 | none => False) | _ => False) → _
    split
    · rename_i fs hq
      obtain ⟨vs, e1, rf⟩ := hA1 _ _ hq
      cases e2 : getS f fs with
      | none => exact fun z => z.elim
      | some w =>
        intro q1
        obtain ⟨v, hv, rv⟩ := rf.get e2
        exact ⟨dd, vs, v, rfl, e1, hv, k w A1 v H1 q1 hA1 rv g1⟩
    · exact fun z => z.elim
/-- isinstance of the caught exception -/
def rIsX (B : Bs) (a : Addr) (d : Option Addr) (c : V) (b : Bool) : List V → Hp → VK → Prop := fun xs H Q => xs = [.ref a, c] ∧ (d = none ∨ ∃ dd vs, d = some dd ∧ H dd = some (.xd vs)) ∧ Q (.bl b) H
theorem call_isX {c : V} {cv : Value} {b : Bool} (E : ExcK X.K C) (hz : Zc (.ref C) d oe) (hf : ∃ vs, oe.data = .fields vs) (hcv : ∀ u, RelV c u → u = cv) (hk : PySem.W.kitOne X.K (.ref C) cv = some b) : CallR (X.suite a ((a, oe) :: pn)) (.builtin "isinstance") (rIsX X.b a d c b) := by
  intro pins s σ H xs us Q I r h
  obtain ⟨rfl, hd, q⟩ := h
  cases r with
  | cons rx rr =>
    cases rr with
    | cons rt rr =>
      cases rr
      cases rx
      have ec := hcv _ rt
      subst ec
      obtain ⟨hget, _⟩ := I.pin (a, oe) (List.mem_append.mpr (.inl List.mem_cons_self))
      obtain ⟨vs, hv⟩ := hf
      obtain ⟨h1, h2⟩ := hz
      have hnc : PySem.W.notCls oe = true := by unfold PySem.W.notCls; rw [hv] <;> rfl
      obtain ⟨od, J⟩ : ∃ od, PySem.W.InstAt s.heap a oe C od := by
        rcases hd with rfl | ⟨dd, ws, rfl, e⟩
        · exact ⟨none, hget, h1, hnc, by rw [h2]; exact trivial⟩
        · have hx : ObjOk X.prog X.w H s.heap dd (.xd ws) := I.hok dd _ e
          obtain ⟨mA, ⟨o, _, _, ho, _⟩, _⟩ := hx
          exact ⟨some o, hget, h1, hnc, by rw [h2]; exact ho⟩
      exact PySem.W.kia_one (PySem.W.kitx_exc E.has E.ga E.gg E.sub E.cls E.get E.tkc E.ob) I.kIn J hk (fun z => nomatch z) fun tk => ⟨.bl b, H, I.kept (t' := tk) fun _ _ z => z, rfl, q⟩
theorem isE_t {c : V} {b : Bool} {tc : TE} (htc : ∀ σ H Q, Q c H → tc σ H Q) : ∀ σ H Q, lE X.b (dIsE a d b te) σ H Q → tCB (rIsX X.b a d c b) (tCons (lE X.b te) (tCons tc tNil)) σ H Q := by
  intro σ H Q ⟨dσ, A, R, hA, hS, q, k⟩
  refine ⟨dσ, A, _, hA, hS, q, fun y A1 v H1 q1 hA1 ry g1 => ?_⟩
  obtain ⟨rfl, hd, q1⟩ := q1
  cases ry
  refine htc σ H1 _ ⟨rfl, hd.imp id fun ⟨dd, fs, e, h⟩ => ?_, k _ _ _ _ q1 hA1 rfl g1⟩
  obtain ⟨vs, e1, _⟩ := hA1 _ _ h
  exact ⟨dd, vs, e, e1⟩
theorem qe_isE {b : Bool} {G : Addr} (E : ExcK X.K C) (hz : Zc (.ref C) d oe) (hf : ∃ vs, oe.data = .fields vs) (he : QE (X.suite a ((a, oe) :: pn)) e te) (hk : PySem.W.kitOne X.K (.ref C) (.ref G) = some b) (hg : Gl X "isinstance") (hm : X.mg "isinstance" = none) (hgx : Gl X x) (hmx : X.mg x = some (.ref G))
    (hdb : (x == ("__debug__" : Str)) = false := by decide)
    (hs : starEach [e, .Name x tp] X.env = (false, eval e X.env) :: starEach [.Name x tp] X.env := by rfl) (hpl : (backTo pos (starEach [.Name x tp] X.env)).any (·.1) = false := by rfl) (hs2 : starEach [.Name x tp] X.env = (false, eval (.Name x tp) X.env) :: starEach [] X.env := by rfl) :
    QE (X.suite a ((a, oe) :: pn)) (.Call (.Name "isinstance" p) [e, .Name x tp] [] pos) (dIsE a d b te) := by
  have pc : PE (X.suite a ((a, oe) :: pn)) (.Name x tp) (tC (.ref G)) := ⟨fun pins s σ H Q I q => ld_glob I hgx hmx ⟨.ref G, H, I, rfl, q⟩ hdb⟩
  exact imE (pe_callB (call_isX E hz hf (c := .ref G) (fun u r => r) hk) hg hm PyProof.Rows.boot_isinstance (pa_cons he (pa_cons pc pa_nil hs2) hs) (by decide) (by decide) hs hpl) (isE_t fun σ H Q q => q)
theorem qe_isEb {b : Bool} {T : String} (E : ExcK X.K C) (hz : Zc (.ref C) d oe) (hf : ∃ vs, oe.data = .fields vs) (he : QE (X.suite a ((a, oe) :: pn)) e te) (hk : PySem.W.kitOne X.K (.ref C) (.type T) = some b) (hg : Gl X "isinstance") (hm : X.mg "isinstance" = none) (hgx : Gl X x) (hmx : X.mg x = none) (hv : bootBuiltins x = some (.type T))
    (hn : x ≠ "__name__" := by decide) (hdb : (x == ("__debug__" : Str)) = false := by decide)
    (hs : starEach [e, .Name x tp] X.env = (false, eval e X.env) :: starEach [.Name x tp] X.env := by rfl) (hpl : (backTo pos (starEach [.Name x tp] X.env)).any (·.1) = false := by rfl) (hs2 : starEach [.Name x tp] X.env = (false, eval (.Name x tp) X.env) :: starEach [] X.env := by rfl) :
    QE (X.suite a ((a, oe) :: pn)) (.Call (.Name "isinstance" p) [e, .Name x tp] [] pos) (dIsE a d b te) :=
  imE (pe_callB (call_isX E hz hf (c := .ty T) (fun u r => r) hk) hg hm PyProof.Rows.boot_isinstance (pa_cons he (pa_cons (pe_bltn (v := .ty T) hgx hmx hv rfl hn hdb) pa_nil hs2) hs) (by decide) (by decide) hs hpl) (isE_t fun σ H Q q => q)
end
end DL
set_option Elab.async false
set_option linter.all false
set_option maxRecDepth 100000
set_option maxHeartbeats 4000000
/-! DX7: defs that raise, by their promises; defs with a try. -/
namespace DL
open PySem PySem.Spec PyProof.Rows L2
def CalX (P : Program) (w : World) (K : PySem.W.Frag) (mg : Str → Option Value) (base : Heap) (x : Str) (k n : Nat) (ps : List Str) (sp : DSp) : Prop :=
  ∃ f fd, FnOk P w K mg base (L2.CX P w) k f fd ps (lSp ⟨P, w, K⟩ n sp) ∧ mg x = some (.ref f) ∧ PySem.W.keepIn K (.ref f) = true ∧ L2.Binds K fd ps []
def MetX (P : Program) (w : World) (K : PySem.W.Frag) (mg : Str → Option Value) (base : Heap) (C : Addr) (m : String) (k n : Nat) (ps : List Str) (sp : DSp) : Prop :=
  ∃ f fd, Cls K C ∧ Meth K C (PySem.Str.ofString m) f ∧ FnOk P w K mg base (L2.CX P w) k f fd ps (lSp ⟨P, w, K⟩ n sp) ∧ L2.Binds K fd ps []
section
variable {X : Cx} {W : DW} {k n : Nat} {C : Addr} {ps : List Str} {sp : DSp} {x : Str} {p pos apos : Pos} {e o : Expr} {es : List Expr} {to : DTE} {t : DTA}
theorem qe_calX (F : CalX X.prog X.w X.K X.mg X.base x k n ps sp) (tk : TakesD X W) (hr : Room k X.A) (ha : QA X (e :: es) t) (hn : (e :: es).length = n := by rfl) (hg : Gl X x := by rfl)
    (hdb : (x == ("__debug__" : Str)) = false := by decide) (he : starEach (e :: es) X.env = (false, eval e X.env) :: starEach es X.env := by rfl) (hpl : (backTo pos (starEach es X.env)).any (·.1) = false := by rfl) : QE X (.Call (.Name x p) (e :: es) [] pos) (dCalX W sp t) := by
  obtain ⟨f, fd, F, hm, hk, hb⟩ := F
  exact qe_callX F tk hr hm hk hb ha hn hg hdb he hpl
theorem qe_metX (m : String) {pl : Sem Bool} (F : MetX X.prog X.w X.K X.mg X.base C m k n ps sp) (tk : TakesD X W) (hr : Room k X.A) (he : QE X o to) (ha : QA X (e :: es) t) (hn : (e :: es).length + 1 = n := by rfl)
    (hst : starEach (e :: es) X.env = (false, eval e X.env) :: starEach es X.env := by rfl) (hpl : (backTo pos (starEach es X.env)).any (·.1) = false := by rfl)
    (ht : eval (.Call (.Attribute o (PySem.Str.ofString m) apos) (e :: es) [] pos) X.env = (do
      let ov ← eval o X.env
      standAt apos.atName
      let (f, first) ← holding [ov] (getMethod ov (PySem.Str.ofString m) pl)
      callWith pos f first (backTo pos (starEach (e :: es) X.env)) (backToKw pos (keywordEach [] X.env))) := by rfl) :
    QE X (.Call (.Attribute o (PySem.Str.ofString m) apos) (e :: es) [] pos) (dMetX W C m sp to t) := by
  obtain ⟨f, fd, c, hm, F, hb⟩ := F
  exact qe_methX m c hm F tk hr hb he ha hn hst hpl ht
theorem qe_metX0 (m : String) {pl : Sem Bool} (F : MetX X.prog X.w X.K X.mg X.base C m k 1 ps sp) (tk : TakesD X W) (hr : Room k X.A) (he : QE X o to)
    (ht : eval (.Call (.Attribute o (PySem.Str.ofString m) apos) [] [] pos) X.env = (do
      let ov ← eval o X.env
      standAt apos.atName
      let (f, first) ← holding [ov] (getMethod ov (PySem.Str.ofString m) pl)
      callWith pos f first (backTo pos (starEach [] X.env)) (backToKw pos (keywordEach [] X.env))) := by rfl) :
    QE X (.Call (.Attribute o (PySem.Str.ofString m) apos) [] [] pos) (dMetX W C m sp to dNil) := by
  obtain ⟨f, fd, c, hm, F, hb⟩ := F
  exact qe_methX0 m c hm F tk hr hb he ht
end
abbrev noW : DW := fun _ _ _ _ => False
theorem takesD0 {X : Cx} : TakesD X noW := takes0.imp fun _ _ _ _ ⟨_, _, _, w, _⟩ => w.elim
theorem start_rel {B : Bs} {H : Hp} {N : List Str} {ds : List D} {vs : List V} (rl : RelL B.K H ds vs) : RelS B.K H (ds.map some ++ List.replicate (N.length - ds.length) none) (L2.start N vs) := by
  have e := rl.length
  refine ⟨by unfold L2.start; simp [e], fun i d hi => ?_⟩
  by_cases c : i < ds.length
  · rw [List.getElem?_append_left (by simpa using c), List.getElem?_map] at hi
    cases e2 : ds[i]? with
    | none => rw [e2] at hi; cases hi
    | some d' =>
      rw [e2] at hi; cases hi
      obtain ⟨v, hv, rv⟩ := rl.get e2
      refine ⟨v, ?_, rv⟩
      unfold L2.start
      rw [List.getElem?_append_left (by simpa [← e] using c), List.getElem?_map, hv]; rfl
  · rw [List.getElem?_append_right (by simpa using c), List.getElem?_replicate] at hi
    split at hi <;> cases hi
/-- THE RULE for a def that raises nothing and has a try -/
theorem fn_ok0 {P : Program} {w : World} {K : PySem.W.Frag} {mg : Str → Option Value} {base : Heap} {x qual : Str} {st : Stmt} {f : Addr} {fd : FuncData} {N ps : List Str} {k : Nat} {sp : DSp} {t : DTS} (F : Fun K x qual st f fd) (S : FnScope N ps (defScope st))
    (d : ∀ (X : Cx), (∃ cdv A outer s H E, X = (cxOf CX0 P w K mg base N qual (defScope st) f cdv A outer s H E).nox) → Room k X.A → QSs0 X (defBody st) t)
    (q : ∀ ds A R E, ds.length = ps.length → sp ds A R E → t { nx := fun _ A' => R .non A', rt := R } (ds.map some ++ List.replicate (N.length - ds.length) none) A) :
    FnOk P w K mg base CX0 (k + 1) f fd ps (lSp ⟨P, w, K⟩ ps.length sp) := by
  refine F.ok S (fun vs H Q E h => ?_) (fun cdv A outer s H vs Q E hr h => ?_)
  · obtain ⟨ds, A, R, RE, hA, rl, hl, _⟩ := h
    rw [← rl.length, hl]
  · obtain ⟨ds, A1, R, RE, hA, rl, hl, hs, k1, _⟩ := h
    exact ⟨_, d _ ⟨cdv, A, outer, s, H, E, rfl⟩ hr, ds.map some ++ List.replicate (N.length - ds.length) none, A1, _, hA, start_rel (B := ⟨P, w, K⟩) rl, q ds A1 R RE hl hs, ⟨fun dσ A' σ H' hn hA' _ g => k1 _ _ _ _ hn hA' rfl g, k1, fun _ _ _ _ z => z.elim, fun _ _ _ _ z => z.elim⟩⟩
/-- .. that may raise, too -/
theorem fn_okX0 {P : Program} {w : World} {K : PySem.W.Frag} {mg : Str → Option Value} {base : Heap} {x qual : Str} {st : Stmt} {f : Addr} {fd : FuncData} {N ps : List Str} {k : Nat} {sp : DSp} {t : DW → DTS} (F : Fun K x qual st f fd) (S : FnScope N ps (defScope st))
    (d : ∀ (X : Cx) (W : DW), (∃ cdv A outer s H E, X = cxOf (L2.CX P w) P w K mg base N qual (defScope st) f cdv A outer s H E) → TakesD X W → PassesOwn (model X.prog X.w) X.A X.env X.xe → Room k X.A → QSs0 X (defBody st) (t W))
    (q : ∀ ds A R E, ds.length = ps.length → sp ds A R E → t (fun cls fs _ A' => E cls fs A') { nx := fun _ A' => R .non A', rt := R } (ds.map some ++ List.replicate (N.length - ds.length) none) A) :
    FnOk P w K mg base (L2.CX P w) (k + 1) f fd ps (lSp ⟨P, w, K⟩ ps.length sp) := by
  refine F.okX S (fun vs H Q E h => ?_) (fun cdv A outer s H vs Q E hr h => ?_)
  · obtain ⟨ds, A, R, RE, hA, rl, hl, _⟩ := h
    rw [← rl.length, hl]
  · obtain ⟨ds, A1, R, RE, hA, rl, hl, hs, k1, k2⟩ := h
    have tk : TakesD (cxOf (L2.CX P w) P w K mg base N qual (defScope st) f cdv A outer s H E) (fun cls fs _ A' => RE cls fs A') := takes_kpx k2 (takes_of rfl rfl rfl rfl)
    exact ⟨_, d _ _ ⟨cdv, A, outer, s, H, E, rfl⟩ tk (passes_of rfl) hr, ds.map some ++ List.replicate (N.length - ds.length) none, A1, _, hA, start_rel (B := ⟨P, w, K⟩) rl, q ds A1 R RE hl hs, ⟨fun dσ A' σ H' hn hA' _ g => k1 _ _ _ _ hn hA' rfl g, k1, fun _ _ _ _ z => z.elim, fun _ _ _ _ z => z.elim⟩⟩
end DL
set_option Elab.async false
set_option linter.all false
set_option maxRecDepth 100000
set_option maxHeartbeats 4000000
/-! DX8: a for over a range, or over a list, whose suite has a try. -/
namespace DL
open PySem PySem.Spec PyProof.Rows L2
/-- what is walked does not hang on the growth of the heap -/
def lI0 (B : Bs) (wi : DI) : TI := fun σ H R => ∃ dσ A P, RelH B A H ∧ RelS B.K H dσ σ ∧ wi dσ A P ∧ ∀ S A' J H', P S A' → RelH B A' H' → Grow H H' → (∀ H0, Wlk B H0 J S) → R J H'
abbrev QI0 (X : Cx) (tg iter : Expr) (wi : DI) : Prop := PI X tg iter (lI0 X.b wi)
/-- a list by its address -/
def diL0 (te : DTE) : DI := fun σ A P => te σ A fun x A1 => match x with
  | .ref a => (∃ xs, A1 a = some (.lst xs)) ∧ P (fun A xs => A a = some (.lst xs)) A1
  | _ => False
section
variable {X : Cx} {tg iter e : Expr} {body : List Stmt} {wi : DI} {g : DTG} {gv : TG} {vs : List Nat} {tb : DTS} {te : DTE} {pos p : Pos}
theorem qs0_for (hp : PassesOwn (model X.prog X.w) X.A X.env X.xe) (hc : X.calm = true) (hi : QI0 X tg iter wi) (hg : QG X tg g vs gv) (hb : QSs0 X body tb)
    (hs : ∀ x, foldedSetIterable iter X.env x = pure x := by intro _; rfl) : QS0 X (.For tg iter body [] pos) (dFor wi g tb) := by
  refine ⟨fun pins s σ H D I ⟨dσ, A, DD, hA, hS, q, k⟩ => (ps_for hp hc hi hg.pg hb hs).run pins s σ H D I ?_⟩
  have g0 : Grow X.H_0 H := inv_grow I
  refine ⟨dσ, A, _, hA, hS, q, fun S A1 J H1 ⟨xs, I, i0, still, turn, fin⟩ hA1 g1 W => ?_⟩
  refine ⟨fun i m σ H2 => ∃ dσ A, RelH X.b A H2 ∧ RelS X.K H2 dσ σ ∧ Grow X.H_0 H2 ∧ I i dσ A ∧ i ≤ xs.length ∧ m = xs.length - i, ⟨xs.length, dσ, A1, hA1, hS.grow g1, g0.trans g1, i0, Nat.zero_le _, rfl⟩, ?_⟩
  rintro i m σ2 H2 ⟨dσ2, A2, hA2, hS2, g2, i2, hi2, rfl⟩
  have st := still i dσ2 A2 hi2 i2
  by_cases hlt : i < xs.length
  · have hx : xs[i]? = some xs[i] := by simp [hlt]
    obtain ⟨go, yl⟩ := (W H2).go A2 H2 i xs _ Grow.refl hA2 st hx
    refine .inr ⟨go, fun σ' H' => ∃ dσ A, RelH X.b A H' ∧ RelS X.K H' dσ σ' ∧ Grow X.H_0 H' ∧ I (i + 1) dσ A, fun σ' H' ⟨d', A', h1, h2, h3, h4⟩ => ⟨xs.length - (i + 1), by omega, d', A', h1, h2, h3, h4, hlt, rfl⟩, fun x H3 y => ?_⟩
    obtain ⟨hA3, g3, rx⟩ := yl x H3 y
    refine hg.im _ x dσ2 A2 σ2 H3 _ _ hA3 (hS2.grow g3) rx (turn i _ dσ2 A2 hx i2) fun dσ4 A4 σ4 H4 q4 hA4 hS4 g4 _ => ?_
    exact ⟨dσ4, A4, _, hA4, hS4, q4, ⟨fun d' A' σ' H' n h1 h2 h3 => ⟨d', A', h1, h2, h3, n⟩, k.rt, fun d' A' σ' H' n h1 h2 h3 => k.nx _ _ _ _ n h1 h2 h3, fun d' A' σ' H' n h1 h2 h3 => ⟨d', A', h1, h2, h3, n⟩⟩⟩
  · have e : i = xs.length := by omega
    subst e
    exact .inl ⟨(W H2).stop A2 H2 _ xs Grow.refl hA2 st (Nat.le_refl _), k.nx _ _ _ _ (fin dσ2 A2 i2) hA2 hS2 g2⟩
theorem qi0_range1 {a : Expr} {ta : DTA} (hm : X.mg "range" = none) (ha : QA X [a] ta) (hg : Gl X "range" := by rfl) (hs : starEach [a] X.env = [(false, eval a X.env)] := by rfl) : QI0 X tg (.Call (.Name "range" p) [a] [] pos) (diR1 ta) := by
  refine piI (pi_range1 hg hm ha hs) ?_
  intro σ H R ⟨dσ, A, P, hA, hS, q, k⟩
  refine ⟨dσ, A, _, hA, hS, q, fun ds A1 vs H1 q1 l1 hA1 rl g1 => ?_⟩
  match ds, q1, rl with
  | [.int j], q1, rl =>
    obtain ⟨v, rfl, rfl⟩ := rel1 rl
    exact ⟨j, rfl, by rw [p62]; exact q1.1.1, by rw [p62]; exact q1.1.2, k _ _ _ _ q1.2 hA1 g1 fun _ => wlk_rng⟩
theorem qi0_list (h : QE X e te) : QI0 X tg e (diL0 te) := by
  refine piI (pi_list h) ?_
  intro σ H R ⟨dσ, A, P, hA, hS, q, k⟩
  refine ⟨dσ, A, _, hA, hS, q, fun x A1 v H1 q1 hA1 rx g1 => ?_⟩
  cases x with
  | ref a =>
    cases rx
    obtain ⟨⟨xs, e1⟩, q1⟩ := q1
    obtain ⟨vs, e2, r⟩ := hA1 _ _ e1
    exact ⟨a, rfl, ⟨vs, .of e2⟩, k _ _ _ _ q1 hA1 g1 fun _ => wlk_list a⟩
  | _ => exact q1.elim
theorem qi0_range2 {a b : Expr} {ta : DTA} (hm : X.mg "range" = none) (ha : QA X [a, b] ta) (hg : Gl X "range" := by rfl) (hs : starEach [a, b] X.env = [(false, eval a X.env), (false, eval b X.env)] := by rfl) (hs2 : starEach [b] X.env = [(false, eval b X.env)] := by rfl) :
    QI0 X tg (.Call (.Name "range" p) [a, b] [] pos) (diR2 ta) := by
  refine piI (pi_range2 hg hm ha hs hs2) ?_
  intro σ H R ⟨dσ, A, P, hA, hS, q, k⟩
  refine ⟨dσ, A, _, hA, hS, q, fun ds A1 vs H1 q1 l1 hA1 rl g1 => ?_⟩
  match ds, q1, rl with
  | [.int i, .int j], q1, rl =>
    obtain ⟨v, u, rfl, rfl, rfl⟩ := rel2 rl
    exact ⟨i, j, rfl, by rw [p62]; exact ⟨q1.1.1, q1.1.2, q1.2.1.1, q1.2.1.2⟩, k _ _ _ _ q1.2.2 hA1 g1 fun _ => wlk_rng⟩
theorem qs0_while {c : Expr} {tc : DTT} (hp : PassesOwn (model X.prog X.w) X.A X.env X.xe) (hc : QT X c tc) (hb : QSs0 X body tb) : QS0 X (.While c body [] pos) (dWhile tc tb) := by
  refine ⟨fun pins s σ H D I ⟨dσ, A, DD, hA, hS, ⟨I0, ⟨m0, i0⟩, turn⟩, k⟩ => (ps_while hp hc hb).run pins s σ H D I ?_⟩
  have g0 : Grow X.H_0 H := inv_grow I
  refine ⟨fun m σ H2 => ∃ dσ A, RelH X.b A H2 ∧ RelS X.K H2 dσ σ ∧ Grow X.H_0 H2 ∧ I0 m dσ A, ⟨m0, dσ, A, hA, hS, g0, i0⟩, ?_⟩
  rintro m σ2 H2 ⟨dσ2, A2, hA2, hS2, g2, i2⟩
  refine ⟨dσ2, A2, _, hA2, hS2, turn m dσ2 A2 i2, fun b A3 H3 q3 hA3 g3 => ?_⟩
  cases b with
  | false => exact iteF (k.nx _ _ _ _ q3 hA3 (hS2.grow g3) (g2.trans g3))
  | true =>
    refine iteT ⟨fun σ' H' => ∃ m', m' < m ∧ ∃ dσ A, RelH X.b A H' ∧ RelS X.K H' dσ σ' ∧ Grow X.H_0 H' ∧ I0 m' dσ A, fun σ' H' h => h, dσ2, A3, _, hA3, hS2.grow g3, q3, ?_⟩
    exact ⟨fun d' A' σ' H' ⟨m', l, n⟩ h1 h2 h3 => ⟨m', l, d', A', h1, h2, h3, n⟩, k.rt, fun d' A' σ' H' n h1 h2 h3 => k.nx _ _ _ _ n h1 h2 h3, fun d' A' σ' H' ⟨m', l, n⟩ h1 h2 h3 => ⟨m', l, d', A', h1, h2, h3, n⟩⟩
end
end DL
set_option Elab.async false
set_option linter.all false
set_option maxRecDepth 100000
set_option maxHeartbeats 1000000
/-! DG1: defs that run while no repr is under way (guards = some []): their promises, calls, bodies; the head. -/
namespace DL
open PySem PySem.Spec PyProof.Rows L2
/-- as FnOk (nothing is raised), where no repr is under way -/
structure FnG (P : Program) (w : World) (K : PySem.W.Frag) (mg : Str → Option Value) (base : Heap) (k : Nat) (f : Addr) (fd : FuncData) (ps : List Str) (sp : Sp) : Prop where
  ln : ∀ vs H Q E, sp vs H Q E → vs.length = ps.length
  go : ∀ (A : Around) (out : List Env) (st : Shared) (H : Hp) (ar : Args) (us : List Value) (vs : List V) (Q : VK) (E : XK), A.guards = some [] → Room k A → Env0 P w K mg base A out st H → BindsTo st fd ar (ps.zip us) → Vals vs us → sp vs H Q E →
    codeAny (model P w) A (.call (.ref f) ar) (CR CX0 out P w H st Q E) st
section
variable {X : Cx} {k n : Nat} {f : Addr} {fd : FuncData} {ps : List Str} {sp : Sp} {x : Str} {p pos : Pos} {e : Expr} {es : List Expr} {t : TA}
theorem run_g {pins : List (Addr × Obj)} {σ : L2.St} {H : Hp} {st : Shared} {Q : VK} {us : List Value} {vs : List V} (F : FnG X.prog X.w X.K X.mg X.base k f fd ps sp) (gd : X.A.guards = some []) (rm : Room k X.A) (bd : Binds X.K fd ps []) (I : Inv X pins σ H st) (rv : Vals vs us) (h : sp vs H Q E0) :
    wpAny (model X.prog X.w) X.A (call (.ref f) us) (EP X pins σ Q) X.xe st := by
  have hl : (us ++ []).length = ps.length := by rw [List.append_nil, ← rv.length]; exact F.ln _ _ _ _ h
  have bt := bd st us I.kIn hl
  rw [List.append_nil] at bt
  refine wpAny_call (codeAny_mono (F.go X.A X.stack st H ⟨us, []⟩ us vs Q E0 gd rm I.env0 bt rv h) fun res s2 hq => ?_)
  match res, hq with
  | .ok (.ret u), hq => exact I.after hq
  | .ok .next, hq => exact hq.elim
  | .ok .brk, hq => exact hq.elim
  | .ok .cont, hq => exact hq.elim
  | .error z, hq => exact hq.elim
theorem pe_g (F : FnG X.prog X.w X.K X.mg X.base k f fd ps sp) (gd : X.A.guards = some []) (rm : Room k X.A) (hg : Gl X x) (hm : X.mg x = some (.ref f)) (kp : PySem.W.keepIn X.K (.ref f) = true) (bd : Binds X.K fd ps []) (ha : PA X (e :: es) t)
    (hdb : (x == ("__debug__" : Str)) = false := by decide) (he : starEach (e :: es) X.env = (false, eval e X.env) :: starEach es X.env := by rfl) (hpl : (backTo pos (starEach es X.env)).any (·.1) = false := by rfl) :
    PE X (.Call (.Name x p) (e :: es) [] pos) (tCall sp [] E0 t) := by
  constructor
  intro pins st σ H Q I h
  refine wpAny_Call_Name_kw (ld_glob I hg hm ?_ hdb)
  refine PySem.W.callWith_K (h₀ := X.base) I.ok.mod.kin kp (thn (ha.run pos pins st σ H _ I h) fun us s2 ⟨vs, H2, I2, r, q⟩ => ⟨I2.kIn, ?_⟩) he hpl
  have q : sp (vs ++ []) H2 Q E0 := q
  rw [List.append_nil] at q
  exact run_g F gd rm bd I2 r q
end
/-- a def of the module -/
def CalG (P : Program) (w : World) (K : PySem.W.Frag) (mg : Str → Option Value) (base : Heap) (x : Str) (k n : Nat) (ps : List Str) (sp : DSp) : Prop :=
  ∃ f fd, FnG P w K mg base k f fd ps (lSp ⟨P, w, K⟩ n sp) ∧ mg x = some (.ref f) ∧ PySem.W.keepIn K (.ref f) = true ∧ Binds K fd ps []
theorem qe_calG {X : Cx} {k n : Nat} {ps : List Str} {sp : DSp} {x : Str} {p pos : Pos} {e : Expr} {es : List Expr} {t : DTA} (F : CalG X.prog X.w X.K X.mg X.base x k n ps sp) (gd : X.A.guards = some []) (hr : Room k X.A) (ha : QA X (e :: es) t) (hn : (e :: es).length = n := by rfl) (hg : Gl X x := by rfl)
    (hdb : (x == ("__debug__" : Str)) = false := by decide) (he : starEach (e :: es) X.env = (false, eval e X.env) :: starEach es X.env := by rfl) (hpl : (backTo pos (starEach es X.env)).any (·.1) = false := by rfl) : QE X (.Call (.Name x p) (e :: es) [] pos) (dCal sp t) := by
  obtain ⟨f, fd, F, hm, hk, hb⟩ := F
  exact imE (pe_g F gd hr hg hm hk hb ha hdb he hpl) (cal_t hn)
/-- a def by its body -/
theorem fn_ofG {P : Program} {w : World} {K : PySem.W.Frag} {mg : Str → Option Value} {base : Heap} {k : Nat} {f : Addr} {nm ql : Str} {pa : Arguments} {bo : List Stmt} {sc : Scope} {dV kV doc pm cdv ct oc : Value} {an od : Option Addr}
    {osl : Array (Option Value)} {N ps : List Str} {sp : Sp} (lk : K.lookup f = some ⟨oc, od, .func (PySem.W.fnOf nm ql pa bo sc dV kV doc pm an cdv ct), osl⟩) (hcd : PySem.W.codeIn K cdv ql = true) (S : FnScope N ps sc)
    (ln : ∀ vs H Q E, sp vs H Q E → vs.length = ps.length)
    (hb : ∀ (A : Around) (out : List Env) (st : Shared) (H : Hp) (vs : List V) (Q : VK) (E : XK), A.guards = some [] → Room k (A.deeper (envOfC ql sc st.heap.objs.size f cdv)) → sp vs H Q E →
      ∃ t, PSs (cxOf CX0 P w K mg base N ql sc f cdv A out st H E) bo t ∧ t { nx := fun _ H' => Q .non H', rt := Q } (L2.start N vs) H) :
    FnG P w K mg base (k + 1) f (PySem.W.fnOf nm ql pa bo sc dV kV doc pm an cdv ct) ps sp := by
  refine ⟨ln, fun A out st H ar us vs Q E gd rm e0 bt rv hs => ?_⟩
  have hl := ln _ _ _ _ hs
  have keep : ∀ b o, base.get? b = some o → st.heap.get? b = some o := fun b o e => (e0.bs b o e).1
  have KX := e0.mod.kin.keeps keep
  have lim := e0.mod.nolimit.keeps keep
  have kinds : ∀ y ∈ ps.zip us, sc.names.lookup y.1 = some .local ∨ (sc.names.lookup y.1 = some .cell ∧ ((cellsFrom (st.heap.objs.size + 1) sc.names []).lookup y.1).isSome = true) := by
    rintro ⟨n, v⟩ hy
    rcases S.par n (List.of_mem_zip hy).1 with q | q
    · exact Or.inl q
    · exact Or.inr ⟨q, PySem.W.cellsFrom_some _ _ _ (Or.inl q)⟩
  refine codeAny_call_function rm.depth (KX _ _ lk) rfl S.co S.gen rfl (PySem.W.codeRec_of KX hcd) (bt _ _ _ _ ?_)
  refine wpAny_newFunctionEnv_cells S.kind kinds fun env he s2 x => ?_
  subst he
  refine ⟨lim.keeps x.toInCall.keep, codeAny_func ?_⟩
  obtain ⟨t, ht, hq⟩ := hb A out st H vs Q E gd (rm.deeper _) hs
  have I : Inv (cxOf CX0 P w K mg base N ql sc f cdv A out st H E) [] (L2.start N vs) H s2 := inv_start S rm.hd e0 hl rv x
  refine wpAny_mono (ht.run [] s2 (L2.start N vs) H _ I hq) (fun fl s3 h3 => ?_) fun z s3 h3 => h3
  match fl, h3 with
  | .ret u, ⟨v, σ2, H2, J, r2, q2⟩ => exact ⟨v, H2, J.os, J.bare, J.base, J.hok, r2, q2⟩
  | .next, ⟨σ2, H2, J, q2⟩ => exact ⟨V.non, H2, J.os, J.bare, J.base, J.hok, show RelV V.non Value.none from rfl, q2⟩
  | .brk, ⟨_, _, _, q2⟩ => exact q2.elim
  | .cont, ⟨_, _, _, q2⟩ => exact q2.elim
theorem fn_okG {P : Program} {w : World} {K : PySem.W.Frag} {mg : Str → Option Value} {base : Heap} {x qual : Str} {st : Stmt} {f : Addr} {fd : FuncData} {N ps : List Str} {k : Nat} {sp : DSp} {t : DTS} (F : Fun K x qual st f fd) (S : FnScope N ps (defScope st))
    (d : ∀ (X : Cx), (∃ cdv A outer s H E, A.guards = some [] ∧ X = (cxOf CX0 P w K mg base N qual (defScope st) f cdv A outer s H E).nox) → Room k X.A → QSs X (defBody st) t)
    (q : ∀ ds A R E, ds.length = ps.length → sp ds A R E → t { nx := fun _ A' => R .non A', rt := R } (ds.map some ++ List.replicate (N.length - ds.length) none) A) :
    FnG P w K mg base (k + 1) f fd ps (lSp ⟨P, w, K⟩ ps.length sp) := by
  obtain ⟨oc, od, kV, doc, pm, an, cdv, ct, osl, rfl, lk, hcd⟩ := F.ex
  refine fn_ofG lk hcd S (fun vs H Q E h => ?_) (fun A outer s H vs Q E gd hr h => ?_)
  · obtain ⟨ds, A, R, RE, hA, rl, hl, _⟩ := h
    rw [← rl.length, hl]
  · obtain ⟨ds, A1, R, RE, hA, rl, hl, hs, k1, _⟩ := h
    exact ⟨_, (d _ ⟨cdv, A, outer, s, H, E, gd, rfl⟩ hr).nox, ds.map some ++ List.replicate (N.length - ds.length) none, A1, _, hA, start_rel (B := ⟨P, w, K⟩) rl, q ds A1 R RE hl hs, ⟨fun dσ A' σ H' hn hA' _ g => k1 _ _ _ _ hn hA' rfl g, k1, fun _ _ _ _ z => z.elim, fun _ _ _ _ z => z.elim⟩⟩
theorem fn_okG0 {P : Program} {w : World} {K : PySem.W.Frag} {mg : Str → Option Value} {base : Heap} {x qual : Str} {st : Stmt} {f : Addr} {fd : FuncData} {N ps : List Str} {k : Nat} {sp : DSp} {t : DTS} (F : Fun K x qual st f fd) (S : FnScope N ps (defScope st))
    (d : ∀ (X : Cx), (∃ cdv A outer s H E, A.guards = some [] ∧ X = (cxOf CX0 P w K mg base N qual (defScope st) f cdv A outer s H E).nox) → Room k X.A → QSs0 X (defBody st) t)
    (q : ∀ ds A R E, ds.length = ps.length → sp ds A R E → t { nx := fun _ A' => R .non A', rt := R } (ds.map some ++ List.replicate (N.length - ds.length) none) A) :
    FnG P w K mg base (k + 1) f fd ps (lSp ⟨P, w, K⟩ ps.length sp) := by
  obtain ⟨oc, od, kV, doc, pm, an, cdv, ct, osl, rfl, lk, hcd⟩ := F.ex
  refine fn_ofG lk hcd S (fun vs H Q E h => ?_) (fun A outer s H vs Q E gd hr h => ?_)
  · obtain ⟨ds, A, R, RE, hA, rl, hl, _⟩ := h
    rw [← rl.length, hl]
  · obtain ⟨ds, A1, R, RE, hA, rl, hl, hs, k1, _⟩ := h
    exact ⟨_, (d _ ⟨cdv, A, outer, s, H, E, gd, rfl⟩ hr).nox, ds.map some ++ List.replicate (N.length - ds.length) none, A1, _, hA, start_rel (B := ⟨P, w, K⟩) rl, q ds A1 R RE hl hs, ⟨fun dσ A' σ H' hn hA' _ g => k1 _ _ _ _ hn hA' rfl g, k1, fun _ _ _ _ z => z.elim, fun _ _ _ _ z => z.elim⟩⟩
/-! ### the head -/
/-- the call of a law, the heap H of what is tracked chosen -/
theorem head_at {P : Program} {w : World} {K : PySem.W.Frag} {mg mb : Str → Option Value} {k : Nat} {fa a : Addr} {fd : FuncData} {x : Str} {sp : Sp} {s0 : Shared} {vs : List Value} {H : Hp}
    (KX : K.In s0.heap) (ns1 : s0.heap.Ns mainGlobals mg) (ns2 : s0.heap.Ns builtinsNs mb) (bb : ∀ y : Str, y ≠ "__name__" → mb y = bootBuiltins y) (lim : s0.heap.NoLimit) (gn : s0.gens = #[])
    (ha : s0.heap.get? a = some { cls := .type "list", data := .seq vs.toArray }) (rm : Room k callerA)
    (F : ∀ base : Heap, K.In base → base.Ns mainGlobals mg → FnG P w K mg base k fa fd [x] sp) (bd : ∀ (s : Shared) (u : Value), BindsTo s fd ⟨[u], []⟩ [(x, u)])
    (only : Only H) (hok : HOk P w H s0.heap) (at_a : ∀ b, H b ≠ none → b = a) (noK : H a ≠ none → K.lookup a = none) (hs : sp [.ref a] H (fun v _ => v = .bl true) fun _ _ _ => False) :
    codeAny (model P w) callerA (.call (.ref fa) ⟨[.ref a], []⟩) (fun r s' => r = .ok (.ret (.bool true)) ∧ OldK s0.heap s'.heap ∧ s'.os = s0.os ∧ AllBare s'.gens) s0 := by
  have free_d : ∀ {b : Addr} {o : Obj} {es : Array DictEntry} {ep : Nat}, s0.heap.get? b = some o → o.data = .dict es ep → H b = none := by
    intro b o es ep e d
    by_cases c : H b = none
    · exact c
    · obtain rfl := at_a b c
      rw [ha] at e
      injection e with e
      subst e
      exact Data.noConfusion (show Data.seq vs.toArray _ = Data.dict es ep from d)
  have nsB : ∀ {b : Addr} {m : Str → Option Value}, s0.heap.Ns b m → (hidT s0.heap H).Ns b m := by
    rintro b m ⟨o, es, ep, e, d, r⟩
    exact ⟨o, es, ep, hidT_get e (free_d e d), d, r⟩
  have kB : K.In (hidT s0.heap H) := by
    intro b o e
    refine hidT_get (KX b o e) ?_
    by_cases c : H b = none
    · exact c
    · obtain rfl := at_a b c
      rw [noK c] at e
      cases e
  obtain ⟨mc, l1, l2⟩ := lim
  have env : Env0 P w K mg (hidT s0.heap H) callerA [] s0 H := by
    refine ⟨rfl, ⟨kB, nsB ns1, ⟨mb, nsB ns2, bb⟩, mc, nsB l1, l2⟩, fun b o e => of_hidT e, Nat.le_of_eq (hidT_size _ _), trivial, fun b hb => ?_, hok, .of_eq gn⟩
    exact absurd (show b ∈ ([] : List Addr) from hb) List.not_mem_nil
  refine codeAny_mono ((F _ kB (nsB ns1)).go callerA [] s0 H ⟨[.ref a], []⟩ [.ref a] [.ref a] _ _ rfl rm env (bd s0 (.ref a)) (.cons rfl .nil) hs) fun res s2 hq => ?_
  match res, hq with
  | .ok .next, hq => exact hq.elim
  | .ok .brk, hq => exact hq.elim
  | .ok .cont, hq => exact hq.elim
  | .error z, hq => exact hq.elim
  | .ok (.ret u), ⟨v, H2, os, bare, un, hok2, r2, ev⟩ =>
    have ev : v = .bl true := ev
    subst ev
    obtain rfl : u = Value.bool true := r2
    refine ⟨rfl, OldK.of_keep fun b o e => ?_, os, bare⟩
    by_cases c : H b = none
    · exact un.keep b o e c (fun z => absurd (show b ∈ ([] : List Addr) from z) List.not_mem_nil) List.not_mem_nil
    · rcases only b with z | ⟨ob, xs, z⟩
      · exact absurd z c
      · obtain ⟨e1, _⟩ := hok b _ z
        obtain ⟨e2, _⟩ := hok2 b _ (un.frzs b ob _ z)
        rw [e] at e1
        injection e1 with e1
        rw [e1]
        exact e2
theorem head_g {P : Program} {w : World} {K : PySem.W.Frag} {mg mb : Str → Option Value} {k : Nat} {fa a : Addr} {fd : FuncData} {x : Str} {sp : Sp} {s0 : Shared} {vs : List Value} {ns : List Int}
    (KX : K.In s0.heap) (ns1 : s0.heap.Ns mainGlobals mg) (ns2 : s0.heap.Ns builtinsNs mb) (bb : ∀ y : Str, y ≠ "__name__" → mb y = bootBuiltins y) (lim : s0.heap.NoLimit) (gn : s0.gens = #[])
    (ha : s0.heap.get? a = some { cls := .type "list", data := .seq vs.toArray }) (hi : IntsAre vs ns) (hl : ns.length ≤ sizeLine) (rm : Room k callerA)
    (F : ∀ base : Heap, K.In base → base.Ns mainGlobals mg → FnG P w K mg base k fa fd [x] sp) (bd : ∀ (s : Shared) (u : Value), BindsTo s fd ⟨[u], []⟩ [(x, u)])
    (hs : ∀ H : Hp, Only H → SqL K H a (ns.map V.int) → sp [.ref a] H (fun v _ => v = .bl true) fun _ _ _ => False) :
    codeAny (model P w) callerA (.call (.ref fa) ⟨[.ref a], []⟩) (fun r s' => r = .ok (.ret (.bool true)) ∧ OldK s0.heap s'.heap ∧ s'.os = s0.os ∧ AllBare s'.gens) s0 := by
  have rv := vals_ints hi
  have lenV : vs.length = ns.length := by first | exact hi.length | exact hi.length.symm
  by_cases c : ∃ o, K.lookup a = some o
  · obtain ⟨o, c⟩ := c
    have e := KX a o c
    rw [ha] at e
    injection e with e
    subst e
    have only : Only fun _ => none := fun _ => Or.inl rfl
    refine head_at KX ns1 ns2 bb lim gn ha rm F bd only (fun b u z => nomatch z) (fun b z => absurd rfl z) (fun z => absurd rfl z) (hs _ only (Or.inr ⟨_, vs.toArray, _, c, rfl, rfl, rfl, ?_, by simpa using rv⟩))
    rw [List.size_toArray, lenV]; exact hl
  · have only : Only fun b => if b = a then some (.frz { cls := .type "list", data := .seq vs.toArray } (.lst (ns.map V.int))) else none := by
      intro b
      by_cases hb : b = a
      · exact Or.inr ⟨_, _, if_pos hb⟩
      · exact Or.inl (if_neg hb)
    refine head_at KX ns1 ns2 bb lim gn ha rm F bd only (fun b u z => ?_) (fun b z => ?_) (fun _ => ?_) (hs _ only (Or.inl (Or.inr ⟨{ cls := .type "list", data := .seq vs.toArray }, if_pos rfl⟩)))
    · by_cases hb : b = a
      · have z2 := (if_pos hb).symm.trans z
        injection z2 with z2
        subst z2
        subst hb
        exact ⟨ha, by rw [List.length_map]; exact hl, vs, _, rv, ha⟩
      · exact absurd ((if_neg hb).symm.trans z) (by simp)
    · by_cases hb : b = a
      · exact hb
      · exact absurd (if_neg hb) z
    · cases q : K.lookup a with
      | none => rfl
      | some o => exact absurd ⟨o, q⟩ c
theorem walk_g {l : PySem.W.OpenLaw} {n k : Nat} {q : Program} {loose : List Str} {XP : (Str → Option Value) → Heap → Prop} {YP : World → Heap → Prop} {d : DefRec} {K : Params → PySem.W.Frag} {sp : World → Sp} {x : Str}
    (hn : l.most = some n) (hn2 : n ≤ sizeLine) (hdf : d.params.defaults = []) (rm : Room k callerA)
    (hY : ∀ (w : World) (h : Heap), YP w h → (K w.params).In h)
    (F : ∀ (w : World) (mg : Str → Option Value) (fa : Addr) (h : Heap), (K w.params).In h → h.Ns mainGlobals mg → mg d.name = some (.ref fa) →
      ∃ fd : FuncData, (∀ (s : Shared) (u : Value), BindsTo s fd ⟨[u], []⟩ [(x, u)]) ∧ ∀ base : Heap, (K w.params).In base → base.Ns mainGlobals mg → FnG l.prog w (K w.params) mg base k fa fd [x] (sp w))
    (hsp : ∀ (w : World) (H : Hp) (a : Addr) (ns : List Int), ns.length ≤ n → Only H → SqL (K w.params) H a (ns.map V.int) → sp w [.ref a] H (fun v _ => v = .bl true) fun _ _ _ => False) :
    PySem.W.WalkO q loose XP YP l.row.toRowW d [] (fun f vs => PySem.call f vs) := by
  refine Att.attach_call hn hdf fun w s₀ s₁ mg mb fa o pm cd doc a vs ns G Y ho hd hcd hmg hobj hints hlen hg => ?_
  obtain ⟨fd, hb, hF⟩ := F w mg fa _ (hY w _ Y) G.T.g hmg
  exact head_g (hY w _ Y) G.T.g G.T.b G.T.builtins G.T.nolimit hg hobj hints (Nat.le_trans hlen hn2) rm hF hb fun H hO hS => hsp w H a ns hlen hO hS
end DL
set_option Elab.async false
set_option linter.all false
set_option maxRecDepth 100000
set_option maxHeartbeats 1000000
/-! DG2: repr(x). -/
namespace DL
open PySem PySem.Spec PyProof.Rows L2
mutual
/-- no longer than this is the text of t -/
def T.sz : T → Nat
  | .non => 4 | .bl _ => 5 | .int _ => 70 | .str l => 10 * l.length + 2 | .tup l => T.szs l + 4 | .lst l => T.szs l + 4
def T.szs : List T → Nat
  | [] => 0
  | t :: ts => T.sz t + 2 + T.szs ts
end
mutual
/-- ints are small -/
def T.sm : T → Bool
  | .int i => decide (i.natAbs < 18446744073709551616)
  | .tup l => T.sms l
  | .lst l => T.sms l
  | _ => true
def T.sms : List T → Bool
  | [] => true
  | t :: ts => T.sm t && T.sms ts
end
mutual
/-- texts are of signs -/
def T.ch : T → Prop
  | .str l => ∀ c ∈ l, c < 1114112
  | .tup l => T.chs l
  | .lst l => T.chs l
  | _ => True
def T.chs : List T → Prop
  | [] => True
  | t :: ts => T.ch t ∧ T.chs ts
end
mutual
theorem snap_ch {B : Bs} {A : AH} {H : Hp} (hA : RelH B A H) : ∀ (t : T) (d : D) (v : V), Snap A d t → RelD B.K H d v → t.ch
  | .non, _, _, _, _ => trivial
  | .bl _, _, _, _, _ => trivial
  | .int _, _, _, _, _ => trivial
  | .str l, _, _, h, r => by
    have h : _ = D.str l := h
    subst h
    exact (show _ = V.str ⟨l.toArray⟩ ∧ _ from r).2
  | .tup ts, _, _, h, r => by
    obtain ⟨ds, rfl, hs⟩ := (show ∃ ds, _ = D.tup ds ∧ Snaps A ds ts from h)
    obtain ⟨a, vs, rfl, ta, rl⟩ := (show ∃ a vs, _ = V.ref a ∧ TupAt B.K H a vs ∧ RelL B.K H ds vs from r)
    exact snaps_ch hA ts ds vs hs rl
  | .lst ts, _, _, h, r => by
    rcases (show (∃ a ds, _ = D.ref a ∧ A a = some (.lst ds) ∧ Snaps A ds ts) ∨ ∃ ds, _ = D.cl ds ∧ Snaps A ds ts from h) with ⟨a, ds, rfl, e, hs⟩ | ⟨ds, rfl, hs⟩
    · obtain ⟨vs, e2, rl⟩ := (show ∃ vs, H a = some (.lst vs) ∧ RelL B.K H ds vs from hA a _ e)
      exact snaps_ch hA ts ds vs hs rl
    · obtain ⟨a, vs, rfl, ta, rl⟩ := (show ∃ a vs, _ = V.ref a ∧ CstAt B.K H a vs ∧ RelL B.K H ds vs from r)
      exact snaps_ch hA ts ds vs hs rl
theorem snaps_ch {B : Bs} {A : AH} {H : Hp} (hA : RelH B A H) : ∀ (t : List T) (d : List D) (v : List V), Snaps A d t → RelL B.K H d v → T.chs t
  | [], _, _, _, _ => trivial
  | t :: ts, _, _, h, r => by
    obtain ⟨d, ds, rfl, h1, h2⟩ := (show ∃ d r, _ = d :: r ∧ Snap A d t ∧ Snaps A r ts from h)
    obtain ⟨v, vs, rfl, r1, r2⟩ := r
    exact ⟨snap_ch hA t d v h1 r1, snaps_ch hA ts ds vs h2 r2⟩
end
/-! ### the text's signs and its length -/
def OkS (x : Str) : Prop := ∀ c ∈ x.cps.toList, c < 1114112
theorem okS_char (c : Char) : c.toNat < 1114112 := by
  have h := c.valid
  have e : c.toNat = c.val.toNat := rfl
  rw [e]
  rcases h with h | ⟨_, h⟩
  · exact Nat.lt_trans h (by decide)
  · exact h
theorem okS_lit (s : String) : OkS (PySem.Str.ofString s) := by
  rw [PySem.Str.ofString_eq_toList]
  intro c hc
  obtain ⟨d, _, rfl⟩ := List.mem_map.mp (show c ∈ s.toList.map Char.toNat by simpa using hc)
  exact okS_char d
theorem cps_app (x y : Str) : (x ++ y).cps.toList = x.cps.toList ++ y.cps.toList := by
  show (x.cps ++ y.cps).toList = _
  exact Array.toList_append
theorem okS_app {x y : Str} (h : OkS x) (k : OkS y) : OkS (x ++ y) := by
  intro c hc
  rw [cps_app] at hc
  exact (List.mem_append.mp hc).elim (h c) (k c)
theorem okS_join {sep : Str} (hs : OkS sep) : ∀ {ts : List Str}, (∀ t ∈ ts, OkS t) → OkS (PySem.Str.join sep ts)
  | [], _ => fun c hc => by
    have : c ∈ ([] : List Nat) := hc
    cases this
  | [x], h => h x List.mem_cons_self
  | x :: y :: r, h => okS_app (okS_app (h x List.mem_cons_self) hs) (okS_join hs fun t m => h t (List.mem_cons_of_mem _ m))
theorem okS_reprChar {q c : Nat} (hc : c < 1114112) : ∀ z ∈ Builtin.Str.reprChar q c, z < 1114112 := by
  have hx : ∀ w : Nat, ∀ z ∈ List.replicate w 48 ++ (Nat.toDigits 16 c).map Char.toNat, z < 1114112 := by
    intro w z hz
    rcases List.mem_append.mp hz with h | h
    · rw [(List.mem_replicate.mp h).2]; decide
    · obtain ⟨d, _, rfl⟩ := List.mem_map.mp h
      exact okS_char d
  intro z hz
  unfold Builtin.Str.reprChar at hz
  dsimp only at hz
  repeat' split at hz
  all_goals simp only [List.mem_cons, List.mem_append, List.not_mem_nil, or_false] at hz
  · rcases hz with rfl | rfl <;> omega
  · omega
  · omega
  · omega
  · omega
  all_goals
    rcases hz with (rfl | rfl) | hz
    · decide
    · decide
    · exact hx _ z (List.mem_append.mpr hz)
theorem okS_fold {q : Nat} : ∀ {l : List Nat} {acc : Array Nat}, (∀ c ∈ l, c < 1114112) → (∀ c ∈ acc.toList, c < 1114112) → ∀ c ∈ (l.foldl (fun out c => out ++ (Builtin.Str.reprChar q c).toArray) acc).toList, c < 1114112
  | [], acc, _, h => h
  | d :: l, acc, hl, h => by
    refine okS_fold (l := l) (acc := acc ++ (Builtin.Str.reprChar q d).toArray) (fun c m => hl c (List.mem_cons_of_mem _ m)) fun c hc => ?_
    rw [Array.toList_append] at hc
    rcases List.mem_append.mp hc with m | m
    · exact h c m
    · exact okS_reprChar (hl d List.mem_cons_self) c m
theorem okS_repr {x : Str} (h : OkS x) : OkS (reprText x) := by
  have qb : reprQuote x < 1114112 := by unfold reprQuote; split <;> decide
  intro c hc
  unfold reprText at hc
  dsimp only at hc
  rw [Array.toList_push, ← Array.foldl_toList] at hc
  rcases List.mem_append.mp hc with m | m
  · refine okS_fold (q := reprQuote x) (l := x.cps.toList) (acc := #[reprQuote x]) h (fun c m => ?_) c m
    rw [List.mem_singleton.mp m]; exact qb
  · rw [List.mem_singleton.mp m]; exact qb
mutual
theorem shown_ok : ∀ t : T, t.ch → t.sm = true → OkS t.py.shown ∧ t.py.shown.length ≤ t.sz ∧ t.py.showable = true ∧ t.py.hasDict = false
  | .non, _, _ => by
    simp only [T.py, PyData.shown, PyData.showable, PyData.hasDict, T.sz]
    exact ⟨okS_lit _, by decide +kernel, trivial, trivial⟩
  | .bl b, _, _ => by
    simp only [T.py, PyData.shown, PyData.showable, PyData.hasDict, T.sz]
    cases b
    · exact ⟨okS_lit _, by decide +kernel, trivial, trivial⟩
    · exact ⟨okS_lit _, by decide +kernel, trivial, trivial⟩
  | .int i, _, h => by
    simp only [T.py, PyData.shown, PyData.showable, PyData.hasDict, T.sz]
    have h : i.natAbs < 18446744073709551616 := of_decide_eq_true h
    have lg : i.natAbs.log2 < 64 := by
      by_cases z : i.natAbs = 0
      · rw [z]; decide
      · exact (Nat.log2_lt z).mpr h
    have e : (PySem.Str.ofString (toString i)).length ≤ 65 := by
      have := int_text_length_le (a := i) (k := 64) (by decide) lg
      rw [PySem.Str.ofString_eq_toList]
      show (List.map Char.toNat (toString i).toList).toArray.size ≤ 65
      rw [List.size_toArray, List.length_map, String.length_toList]
      exact this
    exact ⟨okS_lit _, by omega, decide_eq_true (by omega), trivial⟩
  | .str l, h, _ => by
    simp only [T.py, PyData.shown, PyData.showable, PyData.hasDict, T.sz]
    have h : ∀ c ∈ l, c < 1114112 := h
    refine ⟨okS_repr fun c m => h c m, ?_, trivial, trivial⟩
    have := StrLaws.reprText_len ⟨l.toArray⟩ fun c m => Nat.lt_trans (h c m) (by decide)
    exact this
  | .tup ts, h, k => by
    obtain ⟨h1, h2, h3, h4⟩ := showns_ok ts h k
    simp only [T.py, PyData.shown, PyData.showable, PyData.hasDict, T.sz]
    refine ⟨?_, ?_, h3, h4⟩
    · unfold tupleText
      refine okS_app (okS_app (okS_lit _) (okS_join (okS_lit _) h1)) ?_
      split <;> exact okS_lit _
    · have := fmt_text (PyData.shownAll (T.pys ts))
      omega
  | .lst ts, h, k => by
    obtain ⟨h1, h2, h3, h4⟩ := showns_ok ts h k
    simp only [T.py, PyData.shown, PyData.showable, PyData.hasDict, T.sz]
    rw [listText_eq_join]
    refine ⟨okS_app (okS_app (okS_lit _) (okS_join (okS_lit _) h1)) (okS_lit _), ?_, h3, h4⟩
    rw [strLen_append, strLen_append]
    have e1 : (("[" : Str)).length = 1 := rfl
    have e2 : (("]" : Str)).length = 1 := rfl
    by_cases c : PyData.shownAll (T.pys ts) = []
    · rw [c]
      have : (PySem.Str.join ", " []).length = 0 := rfl
      omega
    · have := join_length_add _ c
      omega
theorem showns_ok : ∀ ts : List T, T.chs ts → T.sms ts = true → (∀ x ∈ PyData.shownAll (T.pys ts), OkS x) ∧ piled (PyData.shownAll (T.pys ts)) ≤ T.szs ts ∧ PyData.showableAll (T.pys ts) = true ∧ PyData.hasDictAll (T.pys ts) = false
  | [], _, _ => ⟨fun _ m => (nomatch (show _ ∈ ([] : List Str) from m)), Nat.le_refl _, rfl, rfl⟩
  | t :: ts, h, k => by
    have k : (t.sm && T.sms ts) = true := k
    rw [Bool.and_eq_true] at k
    obtain ⟨a1, a2, a3, a4⟩ := shown_ok t h.1 k.1
    obtain ⟨b1, b2, b3, b4⟩ := showns_ok ts h.2 k.2
    simp only [T.pys, PyData.shownAll, PyData.showableAll, PyData.hasDictAll, T.szs, piled_cons, a3, a4, b3, b4]
    refine ⟨fun x m => ?_, by omega, rfl, rfl⟩
    rcases List.mem_cons.mp m with rfl | m
    · exact a1
    · exact b1 x m
end
/-- the text of t -/
def T.rep (t : T) : List Nat := t.py.shown.cps.toList
def fRepr : DRn
  | [x], A, Q => ∃ t : T, Snap A x t ∧ t.dep ≤ 60 ∧ t.sm = true ∧ t.sz ≤ SL ∧ Q (.str t.rep) A
  | _, _, _ => False
theorem c_repr {X : Cx} (gd : X.A.guards = some []) (hu : X.A.units + 64 < cLine) : DCa X (.builtin "repr") fRepr := DCa.raw fun pins s σ H xs us Q I rv ⟨ds, A, R, hA, rl, q, k⟩ => by
  unfold fRepr at q
  split at q
  · rename_i x
    obtain ⟨v, rfl, rx⟩ := rel1 rl
    obtain ⟨u, rfl, ru⟩ := vals1 rv
    obtain ⟨t, sn, dp, sm, sz, q⟩ := q
    obtain ⟨dd, _, dep⟩ := snap_dp hA t x v sn rx
    obtain ⟨o1, o2, o3, o4⟩ := shown_ok t (snap_ch hA t x v sn rx) sm
    have fin : ∀ (y : Str) (tok tk : Nat) (h' : Heap), y = t.py.shown → (∀ b o, s.heap.get? b = some o → h'.get? b = some o) → EP X pins σ Q (.str y tok) { s with heap := h', toks := tk } := by
      rintro y tok tk h' rfl hk
      exact ⟨.str t.py.shown, H, I.kept hk, ⟨tok, rfl⟩, k.at (d := .str t.rep) q hA ⟨by show V.str _ = V.str _; unfold T.rep; rw [Array.toArray_toList], o1⟩⟩
    have zz : t.py.shown.length ≤ sizeLine := Nat.le_trans o2 (by rw [SL_eq]; exact sz)
    obtain ⟨as, r⟩ := Dp.reads I _ _ _ dd ru
    generalize hd : t.py = d at *
    cases r with
    | none =>
      simp only [PyData.shown] at fin
      exact P.repr_of_none (fin _ _ _ _ rfl fun _ _ e => e)
    | bool b =>
      simp only [PyData.shown] at fin
      exact P.repr_of_bool (fin _ _ _ _ rfl fun _ _ e => e)
    | int i tk =>
      simp only [PyData.shown] at fin
      exact P.repr_of_int (by simpa [PyData.showable] using o3) (fin _ _ _ _ rfl fun _ _ e => e)
    | str y tk =>
      simp only [PyData.shown] at fin zz
      exact P.repr_of_str (fin _ _ _ _ rfl fun _ _ e => e) zz
    | list h1 h2 h3 h4 => exact repr_of_reads' (.list h1 h2 h3 h4) o3 (PyData.noDict_hsm o4) gd (by omega) (fun _ _ e => e) (fun h' u tk hk => fin _ _ _ _ rfl hk) zz
    | tuple h1 h2 h3 h4 => exact repr_of_reads' (.tuple h1 h2 h3 h4) o3 (PyData.noDict_hsm o4) gd (by omega) (fun _ _ e => e) (fun h' u tk hk => fin _ _ _ _ rfl hk) zz
    | dict h1 h2 h3 h4 h5 => simp [PyData.hasDict] at o4
  · exact q.elim
theorem qe_calF0 {X : Cx} {k : Nat} {ps : List Str} {sp : DSp} {x : Str} {p pos : Pos} (F : CalF X.prog X.w X.K X.mg X.base x k 0 ps sp) (hr : Room k X.A) (hg : Gl X x := by rfl) (hdb : (x == ("__debug__" : Str)) = false := by decide) : QE X (.Call (.Name x p) [] [] pos) (dCal sp dNil) := by
  obtain ⟨f, fd, F, hm, hk, hb⟩ := F
  exact qe_call0 F hr hm hk hb hg hdb
end DL
set_option Elab.async false
set_option linter.all false
set_option maxRecDepth 100000
set_option maxHeartbeats 1000000
/-! DX9: a[i], b[j] = x, y. -/
namespace DL
open PySem PySem.Spec PyProof.Rows L2
theorem kitOne_ofB {K : PySem.W.Frag} {C : Addr} {T : String} {b : Bool} (h : PySem.W.subIn K (.ref C) (.type T) = some b) (m : PySem.W.kitMeta T = true) : PySem.W.kitOne K (.ref C) (.type T) = some b := by
  unfold PySem.W.kitOne PySem.W.kitCls
  rw [if_neg (show ¬ ((Value.ref C == Value.type T) = true) from fun z => by simp at z)]
  dsimp only
  rw [if_pos m]
  exact h
/-- two stores into subscripts, of a tuple's two items -/
def dgTwo (f : DSet) (to ti to2 ti2 : DTE) : DTG := fun d σ A Q => match d with
  | .tup [x, y] => dgSub f to ti x σ A fun σ2 A2 => dgSub f to2 ti2 y σ2 A2 Q
  | _ => False
section
variable {X : Cx} {o i o2 i2 e : Expr} {to ti to2 ti2 te : DTE} {pos p1 p2 tp : Pos}
theorem qs_two {f : DSet} {k : Nat} (hc : X.calm = true) (hf : DSt X f) (he : QE X e te) (ho : QE X o to) (hi : QE X i ti) (ho2 : QE X o2 to2) (hi2 : QE X i2 ti2)
    (hs : swapsWithSole [.Tuple [.Subscript o i p1, .Subscript o2 i2 p2] k tp] e pos.line X.env = pure false := by rfl) (hw : swappedStores [.Tuple [.Subscript o i p1, .Subscript o2 i2 p2] k tp] e X.env = pure none := by rfl)
    (h1 : (assignEach [.Tuple [.Subscript o i p1, .Subscript o2 i2 p2] k tp] X.env).map (·.2) = [assign (.Tuple [.Subscript o i p1, .Subscript o2 i2 p2] k tp) X.env] := by rfl)
    (hst : (assignEach [.Subscript o i p1, .Subscript o2 i2 p2] X.env).findIdx? (·.1) = none := by rfl)
    (hn : (assignEach [.Subscript o i p1, .Subscript o2 i2 p2] X.env).length = 2 := by rfl)
    (he1 : (assignEach (.Subscript o i p1 :: [.Subscript o2 i2 p2]) X.env).map (·.2) = assign (.Subscript o i p1) X.env :: (assignEach [.Subscript o2 i2 p2] X.env).map (·.2) := by rfl)
    (he2 : (assignEach (.Subscript o2 i2 p2 :: []) X.env).map (·.2) = assign (.Subscript o2 i2 p2) X.env :: (assignEach [] X.env).map (·.2) := by rfl)
    (ha : ∀ v, assign (.Subscript o i p1) X.env v = (do
      let ov ← holding [v] (eval o X.env)
      let iv ← holding [v, ov] (eval i X.env)
      standAt p1
      holding [v, ov, iv] (setItem ov iv v)
      release [v, ov, iv] []) := by intro _; rfl)
    (ha2 : ∀ v, assign (.Subscript o2 i2 p2) X.env v = (do
      let ov ← holding [v] (eval o2 X.env)
      let iv ← holding [v, ov] (eval i2 X.env)
      standAt p2
      holding [v, ov, iv] (setItem ov iv v)
      release [v, ov, iv] []) := by intro _; rfl) : QS X (.Assign [.Tuple [.Subscript o i p1, .Subscript o2 i2 p2] k tp] e pos) (dAsg te (dgTwo f to ti to2 ti2)) := by
  obtain ⟨r, hr, im⟩ := hf.ex
  have pg1 : PG X (.Subscript o i p1) (gSub (lE X.b to) (lE X.b ti) r) := pg_sub ho hi hr ha
  have pg2 : PG X (.Subscript o2 i2 p2) (gSub (lE X.b to2) (lE X.b ti2) r) := pg_sub ho2 hi2 hr ha2
  have pgt := pg_tup (pos := tp) (k := k) (n := 2) hc (pgs_cons pg1 (pgs_cons pg2 pgs_nil he2) he1) hn hst
  refine imS (ps_asg he pgt hs hw h1) ?_
  intro D σ H ⟨dσ, A, DD, hA, hS, q, kk⟩
  refine ⟨dσ, A, _, hA, hS, q, fun x A1 v H1 q1 hA1 rx g1 => ?_⟩
  match x, q1, rx with
  | .tup [x, y], q1, rx =>
    obtain ⟨a, vs, rfl, ta, vx, r1, rfl, rvx, vy, r2, rfl, rvy, rfl⟩ := rx
    refine ⟨a, _, rfl, ta.seq, rfl, vx, [vy], rfl, ?_⟩
    refine ⟨dσ, A1, _, hA1, hS.grow g1, q1, fun o3 A2 ov H2 q2 hA2 ro g2 => ?_⟩
    refine ⟨dσ, A2, _, hA2, hS.grow (g1.trans g2), q2, fun i3 A3 iv H3 q3 hA3 ri g3 => ?_⟩
    refine im o3 i3 x A3 _ ov iv vx H3 _ hA3 (ro.grow g3) ri (rvx.grow (g2.trans g3)) q3 fun A4 H4 q4 hA4 g4 => ?_
    have g14 := (g2.trans g3).trans g4
    refine ⟨vy, [], rfl, ?_⟩
    refine ⟨dσ, A4, _, hA4, hS.grow (g1.trans g14), q4, fun o5 A5 ov5 H5 q5 hA5 ro5 g5 => ?_⟩
    refine ⟨dσ, A5, _, hA5, hS.grow ((g1.trans g14).trans g5), q5, fun i6 A6 iv6 H6 q6 hA6 ri6 g6 => ?_⟩
    refine im o5 i6 y A6 _ ov5 iv6 vy H6 _ hA6 (ro5.grow g6) ri6 (rvy.grow ((g14.trans g5).trans g6)) q6 fun A7 H7 q7 hA7 g7 => ?_
    have g17 := (((g1.trans g14).trans g5).trans g6).trans g7
    exact ⟨rfl, kk.nx _ _ _ _ q7 hA7 (hS.grow g17) g17⟩
end
end DL
set_option Elab.async false
set_option linter.all false
set_option maxRecDepth 100000
set_option maxHeartbeats 1000000
/-! DX10: in, not in, of lists in lists. -/
namespace DL
open PySem PySem.Spec PyProof.Rows L2
theorem pys_any {t : T} : ∀ {ts : List T}, ((T.pys ts).any fun z => PyData.eqv z t.py) = ts.any fun u => T.eqv u t
  | [] => rfl
  | u :: ts => by
    show (PyData.eqv u.py t.py || (T.pys ts).any fun z => PyData.eqv z t.py) = (T.eqv u t || ts.any fun u => T.eqv u t)
    rw [pys_any (ts := ts), eqv_py]
def fInT (neg : Bool) : DR2 := fun x y A Q => ∃ t ts, Snap A x t ∧ Snap A y (.lst ts) ∧ t.dep ≤ 60 ∧ T.deps ts ≤ 60 ∧ Q (.bl (neg ^^ ts.any fun u => T.eqv u t)) A
section
variable {X : Cx}
theorem d_inT (hu : X.A.units + 65 < cLine) : DOp X (compareOp .In) (fInT false) := by
  refine ⟨_, op_inD hu, fun x y A R v u H Q hA rx ry h k => ?_⟩
  obtain ⟨t, ts, s1, s2, d1, d2, q⟩ := h
  obtain ⟨a1, a2⟩ := snap_shaped hA s1 rx (by omega)
  obtain ⟨b1, b2⟩ := snap_shaped hA s2 ry (by simp only [T.dep]; omega)
  exact ⟨_, T.pys ts, a1, b1, a2, b2, by rw [pys_any]; exact k.at (d := .bl _) (by simpa using q) hA rfl⟩
theorem d_notInT (hu : X.A.units + 65 < cLine) : DOp X (compareOp .NotIn) (fInT true) := by
  refine ⟨_, op_notInD hu, fun x y A R v u H Q hA rx ry h k => ?_⟩
  obtain ⟨t, ts, s1, s2, d1, d2, q⟩ := h
  obtain ⟨a1, a2⟩ := snap_shaped hA s1 rx (by omega)
  obtain ⟨b1, b2⟩ := snap_shaped hA s2 ry (by simp only [T.dep]; omega)
  exact ⟨_, T.pys ts, a1, b1, a2, b2, by rw [pys_any]; exact k.at (d := .bl _) (by simpa using q) hA rfl⟩
end
end DL
set_option Elab.async false
set_option linter.all false
set_option maxRecDepth 100000
set_option maxHeartbeats 1000000
/-! DX11: a, b = xs, a list's items. -/
namespace DL
open PySem PySem.Spec PyProof.Rows L2
def dgLst (gs : DTGs) : DTG := fun d σ A Q => match d with
  | .ref a => match A a with
    | some (.lst xs) => gs xs σ A Q
    | _ => False
  | _ => False
section
variable {X : Cx} {pos : Pos} {vs : List Nat}
theorem qg_lst {es : List Expr} {k : Nat} {gs : DTGs} {gvs : TGs} {n : Nat} (hc : X.calm = true) (h : QGs X es gs vs gvs) (hlen : ∀ l σ A Q, gs l σ A Q → l.length = n)
    (hn : (assignEach es X.env).length = n := by rfl) (hst : (assignEach es X.env).findIdx? (·.1) = none := by rfl) : QG X (.Tuple es k pos) (dgLst gs) vs (gLst X.K n gvs) where
  pg := pg_lst hc h.pg hn hst
  im := fun d v dσ A σ H R Q hA hS rd q k => by
    cases d with
    | ref a =>
      have q : (match A a with
        | some (.lst xs) => gs xs dσ A R
        | _ => False) := q
      cases e : A a with
      | none => rw [e] at q; exact q.elim
      | some o =>
        rw [e] at q
        cases o with
        | lst l =>
          obtain ⟨us, ho, rl⟩ := hA a _ e
          cases rd
          exact ⟨a, us, rfl, .inl (.inl ho), by rw [← rl.length]; exact hlen l _ _ _ q, h.im l us dσ A σ H R Q hA hS rl q k⟩
        | _ => exact q.elim
    | _ => exact q.elim
end
end DL
set_option Elab.async false
set_option linter.all false
set_option maxRecDepth 100000
set_option maxHeartbeats 1000000
/-! PL4: more plain rules: one statement at a time; what stays where exceptions are caught; comprehensions with effects. -/
namespace DL
open PySem L2
theorem dSeq_ap {t u : DTS} {DD : DE} {σ : DS} {A : AH} : dSeq t u DD σ A = t { DD with nx := u DD } σ A := rfl
theorem dAsg_ap {t : DTE} {g : DTG} {DD : DE} {σ : DS} {A : AH} : dAsg t g DD σ A = t σ A fun x A1 => g x σ A1 DD.nx := rfl
theorem dIf_ap {c : DTT} {t u : DTS} {DD : DE} {σ : DS} {A : AH} : dIf c t u DD σ A = c σ A fun b A1 => if b = true then t DD σ A1 else u DD σ A1 := rfl
theorem dRet_ap {t : DTE} {DD : DE} {σ : DS} {A : AH} : dRet t DD σ A = t σ A DD.rt := rfl
theorem dDrop_ap {t : DTE} {DD : DE} {σ : DS} {A : AH} : dDrop t DD σ A = t σ A fun _ A1 => DD.nx σ A1 := rfl
theorem dLc_r1 {t : DTE} {g : DTG} {tt : DTT} {te : DTE} {vs : List Nat} {σ : DS} {A : AH} {Q : DQ} : dLc (diR1 (dCons t dNil)) g tt te vs σ A Q = t σ A fun x A1 => dLc (diR1 (dCons (dC x) dNil)) g tt te vs σ A1 Q := rfl
theorem dFor_r1 {t : DTE} {g : DTG} {tb : DTS} {DD : DE} {σ : DS} {A : AH} : dFor (diR1 (dCons t dNil)) g tb DD σ A = t σ A fun x A1 => dFor (diR1 (dCons (dC x) dNil)) g tb DD σ A1 := rfl
theorem ifF {p q : Prop} (h : q) : if (false : Bool) = true then p else q := by rw [if_neg (by decide)]; exact h
theorem ifT {p q : Prop} (h : p) : if (true : Bool) = true then p else q := by rw [if_pos rfl]; exact h
theorem ifT' {c : Bool} {p q : Prop} (e : c = true) (h : p) : if c = true then p else q := by rw [if_pos e]; exact h
theorem ifF' {c : Bool} {p q : Prop} (e : c = false) (h : q) : if c = true then p else q := by rw [if_neg (by rw [e]; decide)]; exact h
theorem dec_strD {w k : List Nat} : decide (D.str w = D.str k) = decide (w = k) := by simp
theorem ifB {b : Bool} {p q : Prop} (h1 : b = true → p) (h2 : b = false → q) : if b = true then p else q := by
  cases b
  · exact ifF (h2 rfl)
  · exact ifT (h1 rfl)
theorem truth_lst {A : AH} {a : Addr} {xs : List D} (h : A a = some (.lst xs)) : truth A (.ref a) = some (!xs.isEmpty) := by
  show (match A a with | some (.lst xs) => some (!xs.isEmpty) | _ => none) = _
  rw [h]
theorem ixN_nat {n k : Nat} (h : k < n) : ixN n (k : Int) = some k := by
  unfold ixN
  rw [if_pos (by omega), if_pos (by omega), Int.toNat_natCast]
theorem atI_k {α : Type} {xs : List α} {k : Nat} {d : α} (h : xs[k]? = some d) : atI xs (k : Int) = some d := by
  unfold atI
  rw [ixN_nat (List.getElem?_eq_some_iff.mp h).1]
  exact h
/-- if d[0] == "word", d at slot i -/
theorem word_no {i : Nat} {w k : List Nat} {ys : List D} {t u : DTS} {DD : DE} {σ : DS} {A : AH} (h : σ[i]? = some (some (.tup (.str w :: ys)))) (n : decide (w = k) = false) (q : u DD σ A) : dIf (dB (dOp (mEq false) (dOp mIx (dV i) (dC (.int 0))) (dC (.str k)))) t u DD σ A := by
  rw [dIf_ap]
  dsimp only [dB, dOp, dV, dC]
  rw [h]
  refine mIx_tup (d := .str w) (atI_k (k := 0) rfl) (mEq_pl rfl rfl ?_)
  rw [dec_strD, n]
  exact ifF q
theorem word_yes {i : Nat} {w : List Nat} {ys : List D} {t u : DTS} {DD : DE} {σ : DS} {A : AH} (h : σ[i]? = some (some (.tup (.str w :: ys)))) (q : t DD σ A) : dIf (dB (dOp (mEq false) (dOp mIx (dV i) (dC (.int 0))) (dC (.str w)))) t u DD σ A := by
  rw [dIf_ap]
  dsimp only [dB, dOp, dV, dC]
  rw [h]
  refine mIx_tup (d := .str w) (atI_k (k := 0) rfl) (mEq_pl rfl rfl ?_)
  rw [dec_strD, decide_eq_true rfl]
  exact ifT q
theorem mIx_at {A : AH} {a : Addr} {xs : List D} {k : Nat} {d : D} {Q : DQ} (h : A a = some (.lst xs)) (e : xs[k]? = some d) (q : Q d A) : mIx (.ref a) (.int (k : Int)) A Q := mIx_lst h (atI_k e) q
theorem mSt_at {A : AH} {a : Addr} {xs : List D} {k : Nat} {d : D} {Q : AH → Prop} (h : A a = some (.lst xs)) (lt : k < xs.length) (q : Q (up A a (.lst (xs.set k d)))) : mSt (.ref a) (.int (k : Int)) d A Q := mSt_lst h (ixN_nat lt) q
theorem fPopAt_at {A : AH} {a : Addr} {xs : List D} {k : Nat} {d : D} {Q : DQ} (h : A a = some (.lst xs)) (hs : xs.length ≤ SL) (e : xs[k]? = some d) (q : Q d (up A a (.lst (xs.eraseIdx k)))) : fPopAt (.ref a) [.int (k : Int)] A Q := by
  have lt := (List.getElem?_eq_some_iff.mp e).1
  exact fPopAt_lst h (by omega) (by omega) hs (by rw [Int.toNat_natCast]; exact e) (by rw [Int.toNat_natCast]; exact q)
theorem met_of {A : AH} {r C : Addr} {fs : List (String × D)} {m : String} {B : List (String × D) → Prop} (h : A r = some (.ins C fs)) (n : getS m fs = none) (b : B fs) : (match A r with
    | some (.ins C' fs) => C' = C ∧ getS m fs = none ∧ B fs
    | _ => False) := by
  rw [h]
  exact ⟨rfl, n, b⟩
theorem fld_at {A : AH} {r C : Addr} {fs : List (String × D)} {f : String} {d : D} {B : D → Prop} (h : A r = some (.ins C fs)) (e : getS f fs = some d) (b : B d) : (match A r with
    | some (.ins C' fs) => C' = C ∧ match getS f fs with
      | some d => B d
      | none => False
    | _ => False) := by
  rw [h]
  refine ⟨rfl, ?_⟩
  rw [e]
  exact b
theorem sfld_of {A : AH} {r C : Addr} {fs : List (String × D)} {B : List (String × D) → Prop} (h : A r = some (.ins C fs)) (l : fs.length < 1000) (b : B fs) : (match A r with
    | some (.ins C' fs) => C' = C ∧ fs.length < 1000 ∧ B fs
    | _ => False) := by
  rw [h]
  exact ⟨rfl, l, b⟩
/-- xs[:i], xs[i:] -/
theorem cut_hi {α : Type} {xs : List α} {k : Nat} : cutD xs none (some (k : Int)) = xs.take k := by
  unfold cutD
  rw [HT.sIx_none, HT.sIx_nat, List.drop_zero, Nat.sub_zero]
  by_cases h : k ≤ xs.length
  · rw [Nat.min_eq_left h]
  · rw [Nat.min_eq_right (by omega), List.take_of_length_le (Nat.le_refl _), List.take_of_length_le (by omega)]
theorem cut_lo {α : Type} {xs : List α} {k : Nat} : cutD xs (some (k : Int)) none = xs.drop k := by
  unfold cutD
  rw [HT.sIx_none, HT.sIx_nat]
  by_cases h : k ≤ xs.length
  · rw [Nat.min_eq_left h, List.take_of_length_le (by rw [List.length_drop]; omega)]
  · rw [Nat.min_eq_right (by omega), Nat.sub_self, List.take_zero, List.drop_of_length_le (by omega)]
theorem listOf_lst {A : AH} {a : Addr} {xs : List D} {Q : DQ} (h : A a = some (.lst xs)) (q : ∀ p, A p = none → Q (.ref p) (up A p (.lst xs))) : fListOf [.ref a] A Q := by
  show (match A a with | some (.lst xs) => ∀ p, A p = none → Q (.ref p) (up A p (.lst xs)) | _ => False)
  rw [h]; exact q
theorem cut_map {l : List Int} {lo hi : Option Int} : cutD (l.map D.int) lo hi = (cutD l lo hi).map D.int := by
  show List.take _ (List.drop _ (List.map D.int l)) = List.map D.int (List.take _ (List.drop _ l))
  rw [List.map_take, List.map_drop]
  rw [List.length_map]
/-- == of two lists, or a list and a display -/
theorem mEq_lists {A : AH} {a b : Addr} {t u : T} {xs ys : List D} {neg : Bool} {Q : DQ} (h1 : A a = some (.lst xs)) (h2 : A b = some (.lst ys)) (s1 : Snap A (.ref a) t) (s2 : Snap A (.ref b) u) (d1 : t.dep ≤ 64) (d2 : u.dep ≤ 64) (q : Q (.bl (neg ^^ T.eqv t u)) A) : mEq neg (.ref a) (.ref b) A Q := by
  show (if (plB (.ref a) && plB (.ref b)) = true then _ else if isDcB A a = true then _ else fEqn neg (.ref a) (.ref b) A Q)
  rw [show plB (.ref a) = false from rfl, Bool.false_and, if_neg (by decide), lst_nd h1, if_neg (by decide)]
  exact ⟨t, u, s1, s2, d1, d2, q⟩
/-- what stays but what is at W and dicts of exceptions; nothing vanishes -/
structure Sx (W : List Addr) (A A' : AH) : Prop where
  at_ : ∀ a o, a ∉ W → A a = some o → (∀ fs, o ≠ .xd fs) → A' a = some o
  no : ∀ a, A' a = none → A a = none
theorem Sx.refl {W : List Addr} {A : AH} : Sx W A A := ⟨fun _ _ _ h _ => h, fun _ h => h⟩
theorem Sx.trans {W : List Addr} {A B C : AH} (h : Sx W A B) (k : Sx W B C) : Sx W A C := ⟨fun a o n e x => k.at_ a o n (h.at_ a o n e x) x, fun a n => h.no a (k.no a n)⟩
theorem Sx.weak {W V : List Addr} {A B : AH} (h : Sx W A B) (s : ∀ a ∈ W, a ∈ V) : Sx V A B := ⟨fun a o n e x => h.at_ a o (fun m => n (s a m)) e x, h.no⟩
theorem Sx.of {A B : AH} (h : Sm [] A B) : Sx [] A B := ⟨fun a o n e _ => h a o n e, fun a n => h.none0 n⟩
theorem Sx.ofW {W : List Addr} {A B : AH} (h : Sm W A B) (w : ∀ c ∈ W, ∃ o, B c = some o) : Sx W A B := ⟨fun a o n e _ => h a o n e, fun a n => h.noneW w n⟩
theorem Sx.of0 {W : List Addr} {A B : AH} (h : Sx [] A B) : Sx W A B := h.weak fun _ m => nomatch m
theorem Sx.new {W : List Addr} {A : AH} {p : Addr} {o : AO} (h : A p = none) : Sx W A (up A p o) := (Sx.of (Sm.new h)).of0
theorem Sx.put {W : List Addr} {A : AH} {p : Addr} {o : AO} (h : p ∈ W) : Sx W A (up A p o) := ⟨fun a u n e _ => by rw [up_ne (by rintro rfl; exact n h)]; exact e, fun a n => by
  by_cases c : a = p
  · subst c; rw [up_same] at n; cases n
  · rw [up_ne c] at n; exact n⟩
theorem Sx.drop {W V : List Addr} {A B : AH} (h : Sx W A B) (s : ∀ a ∈ W, a ∈ V ∨ A a = none) : Sx V A B := ⟨fun a o n e x => by
  by_cases c : a ∈ W
  · rcases s a c with m | m
    · exact absurd m n
    · rw [m] at e; cases e
  · exact h.at_ a o c e x, h.no⟩
theorem Sx.own {A B : AH} {p : Addr} {o : AO} (s : Sx [] A B) (h : A p = none) : Sx [] A (up B p o) := ((s.of0 (W := [p])).trans (Sx.put (by simp))).drop fun a m => .inr (by rw [List.mem_singleton.mp m]; exact h)
theorem Sx.lst {W : List Addr} {A B : AH} (h : Sx W A B) {a : Addr} {xs : List D} (n : a ∉ W) (e : A a = some (.lst xs)) : B a = some (.lst xs) := h.at_ a _ n e fun _ z => nomatch z
theorem Sx.l0 {A B : AH} (h : Sx [] A B) {a : Addr} {xs : List D} (e : A a = some (.lst xs)) : B a = some (.lst xs) := h.lst List.not_mem_nil e
theorem Sx.ins {W : List Addr} {A B : AH} (h : Sx W A B) {a C : Addr} {fs : List (String × D)} (n : a ∉ W) (e : A a = some (.ins C fs)) : B a = some (.ins C fs) := h.at_ a _ n e fun _ z => nomatch z
/-- what is caught: its dict is at dd -/
theorem Sx.caught {A A' A'' : AH} {d : Option Addr} {fs : List (String × D)} (s : Sx [] A A') (h : Cgt d fs A' A'') : Sx [] A A'' := by
  rcases h with ⟨_, _, rfl⟩ | ⟨dd, rfl, hdd, rfl⟩
  · exact s
  · refine ⟨fun a o n e x => ?_, fun a n => ?_⟩
    · have z := s.at_ a o n e x
      by_cases c : a = dd
      · subst c
        obtain ⟨gs, rfl⟩ := hdd o z
        exact absurd rfl (x gs)
      · rw [up_ne c]; exact z
    · by_cases c : a = dd
      · subst c; rw [up_same] at n; cases n
      · rw [up_ne c] at n; exact s.no a n
/-- [.. for i in range(n)], what the element does to the heap told by J -/
theorem lc_eff {n : Nat} {te : DTE} {i : Nat} {vs : List Nat} {σ : DS} {A : AH} {Q : DQ} (hn : n ≤ 1000000) (J : Addr → Nat → List D → AH → Prop) (h0 : ∀ p, A p = none → J p 0 [] (up A p (.lst [])))
    (step : ∀ p k xs A', A p = none → k < n → J p k xs A' → A' p = some (.lst xs) → xs.length = k → ∀ K : D → AH → Prop, (∀ d A'', A'' p = some (.lst xs) → J p (k + 1) (xs ++ [d]) (up A'' p (.lst (xs ++ [d]))) → K d A'') → te ((dwipe σ vs).set i (some (.int (0 + (k : Int))))) A' K)
    (fin : ∀ p xs A', A p = none → J p n xs A' → A' p = some (.lst xs) → xs.length = n → Q (.ref p) A') : dLc (diR1 (dCons (dC (.int (n : Int))) dNil)) (dName i) dYes te vs σ A Q := by
  unfold dLc diR1
  dsimp only [dCons, dNil, dC]
  refine ⟨by unfold small62; omega, rangeD 0 ((n : Int)).toNat, fun p hp => ?_⟩
  refine ⟨fun k A' => ∃ xs, J p k xs A' ∧ A' p = some (.lst xs) ∧ xs.length = k, ⟨[], h0 p hp, up_same, rfl⟩, fun _ _ _ _ => rfl, ?_, ?_⟩
  · rintro k x A3 hx ⟨xs, j3, e3, l3⟩
    have lt := (List.getElem?_eq_some_iff.mp hx).1
    rw [rangeD_len, Int.toNat_natCast] at lt
    have ex : x = .int (0 + (k : Int)) := by
      rw [Int.toNat_natCast, rangeD_get (by omega)] at hx
      exact (Option.some.inj hx).symm
    subst ex
    dsimp only [dYes, dName]
    refine ifT ?_
    exact step p k xs A3 hp lt j3 e3 l3 _ fun d A'' e j => ⟨xs, e, by show _ < 16777216; omega, xs ++ [d], j, up_same, by rw [List.length_append, List.length_singleton]; omega⟩
  · rintro A3 ⟨xs, j3, e3, l3⟩
    rw [rangeD_len, Int.toNat_natCast] at j3 l3
    exact fin p xs A3 hp j3 e3 l3
/-! ### trees at a heap -/
/-- the heap without some addresses -/
def woA (A : AH) (W : List Addr) : AH := fun a => if a ∈ W then none else A a
mutual
theorem snap_mono {A A' : AH} (h : ∀ a xs, A a = some (.lst xs) → A' a = some (.lst xs)) : ∀ (t : T) (d : D), Snap A d t → Snap A' d t
  | .non, _, q => q
  | .bl _, _, q => q
  | .int _, _, q => q
  | .str _, _, q => q
  | .tup ts, _, q => by
    obtain ⟨ds, rfl, hs⟩ := (show ∃ ds, _ = D.tup ds ∧ Snaps A ds ts from q)
    exact ⟨ds, rfl, snaps_mono h ts ds hs⟩
  | .lst ts, _, q => by
    rcases (show (∃ a ds, _ = D.ref a ∧ A a = some (.lst ds) ∧ Snaps A ds ts) ∨ ∃ ds, _ = D.cl ds ∧ Snaps A ds ts from q) with ⟨a, ds, rfl, e, hs⟩ | ⟨ds, rfl, hs⟩
    · exact .inl ⟨a, ds, rfl, h a ds e, snaps_mono h ts ds hs⟩
    · exact .inr ⟨ds, rfl, snaps_mono h ts ds hs⟩
theorem snaps_mono {A A' : AH} (h : ∀ a xs, A a = some (.lst xs) → A' a = some (.lst xs)) : ∀ (ts : List T) (ds : List D), Snaps A ds ts → Snaps A' ds ts
  | [], _, q => q
  | t :: ts, _, q => by
    obtain ⟨d, ds, rfl, h1, h2⟩ := (show ∃ d r, _ = d :: r ∧ Snap A d t ∧ Snaps A r ts from q)
    exact ⟨d, ds, rfl, snap_mono h t d h1, snaps_mono h ts ds h2⟩
end
theorem snaps_app {A : AH} : ∀ {ds es : List D} {ts us : List T}, Snaps A ds ts → Snaps A es us → Snaps A (ds ++ es) (ts ++ us)
  | _, _, [], _, h, k => by
    have h : _ = [] := h
    subst h
    exact k
  | _, es, t :: ts, us, h, k => by
    obtain ⟨d, ds, rfl, h1, h2⟩ := (show ∃ d r, _ = d :: r ∧ Snap A d t ∧ Snaps A r ts from h)
    exact ⟨d, ds ++ es, rfl, h1, snaps_app h2 k⟩
theorem snaps_take {A : AH} : ∀ {n : Nat} {ds : List D} {ts : List T}, Snaps A ds ts → Snaps A (ds.take n) (ts.take n)
  | 0, _, _, _ => by rw [List.take_zero, List.take_zero]; rfl
  | n + 1, _, [], h => by
    have h : _ = [] := h
    subst h
    rw [List.take_nil, List.take_nil]; rfl
  | n + 1, _, t :: ts, h => by
    obtain ⟨d, ds, rfl, h1, h2⟩ := (show ∃ d r, _ = d :: r ∧ Snap A d t ∧ Snaps A r ts from h)
    exact ⟨d, ds.take n, rfl, h1, snaps_take h2⟩
theorem snaps_len {A : AH} : ∀ {ds : List D} {ts : List T}, Snaps A ds ts → ds.length = ts.length
  | _, [], h => by
    have h : _ = [] := h
    subst h
    rfl
  | _, t :: ts, h => by
    obtain ⟨d, ds, rfl, h1, h2⟩ := (show ∃ d r, _ = d :: r ∧ Snap A d t ∧ Snaps A r ts from h)
    rw [List.length_cons, List.length_cons, snaps_len h2]
theorem woA_le {A : AH} {W : List Addr} : ∀ a xs, woA A W a = some (.lst xs) → A a = some (.lst xs) := by
  intro a xs h
  unfold woA at h
  split at h
  · cases h
  · exact h
theorem woA_sx {A : AH} {W : List Addr} : Sx [] (woA A W) A := ⟨fun a o _ e _ => by
  unfold woA at e
  split at e
  · cases e
  · exact e, fun a n => by
  unfold woA
  split
  · rfl
  · exact n⟩
theorem woA_new {A : AH} {p : Addr} {o : AO} (hp : A p = none) : woA (up A p o) [p] = A := by
  funext a
  unfold woA
  by_cases c : a = p
  · rw [if_pos (by simp [c]), c, hp]
  · rw [if_neg (by simpa using c), up_ne c]
theorem woA_up {A : AH} {p : Addr} {o : AO} : woA (up A p o) [p] = woA A [p] := by
  funext a
  unfold woA
  by_cases c : a = p
  · rw [if_pos (by simp [c]), if_pos (by simp [c])]
  · rw [if_neg (by simpa using c), if_neg (by simpa using c), up_ne c]
theorem wo_keep {A A' : AH} {W : List Addr} (h : ∀ a ds, a ∉ W → A a = some (.lst ds) → A' a = some (.lst ds)) : ∀ a ds, woA A W a = some (.lst ds) → woA A' W a = some (.lst ds) := by
  intro a ds e
  unfold woA at e ⊢
  split at e
  · cases e
  · rename_i c
    rw [if_neg c]; exact h a ds c e
theorem woA_sub {A : AH} {W V : List Addr} (h : ∀ a ∈ V, a ∈ W) : ∀ a ds, woA A W a = some (.lst ds) → woA A V a = some (.lst ds) := by
  intro a ds e
  unfold woA at e ⊢
  split at e
  · cases e
  · rename_i c
    rw [if_neg fun m => c (h a m)]; exact e
/-- a list of ints, as a tree -/
def intsT (l : List Int) : T := .lst (l.map .int)
theorem snaps_ints {A : AH} : ∀ {l : List Int}, Snaps A (l.map D.int) (l.map .int)
  | [] => rfl
  | i :: l => ⟨.int i, l.map D.int, rfl, rfl, snaps_ints⟩
theorem snap_ints {A : AH} {a : Addr} {l : List Int} (h : A a = some (.lst (l.map D.int))) : Snap A (.ref a) (intsT l) := .inl ⟨a, l.map D.int, rfl, h, snaps_ints⟩
theorem ints_small {l : List Int} (h : ∀ x ∈ l, x.natAbs < 18446744073709551616) : (intsT l).sz = 72 * l.length + 4 ∧ (intsT l).sm = true ∧ (intsT l).dep ≤ 1 := by
  have : T.szs (l.map T.int) = 72 * l.length ∧ T.sms (l.map T.int) = true ∧ T.deps (l.map T.int) = 0 := by
    induction l with
    | nil => exact ⟨rfl, rfl, rfl⟩
    | cons x l ih =>
      obtain ⟨h1, h2, h3⟩ := ih fun y m => h y (List.mem_cons_of_mem _ m)
      have hx := h x List.mem_cons_self
      refine ⟨?_, ?_, ?_⟩
      · show 70 + 2 + T.szs (l.map T.int) = 72 * (l.length + 1)
        omega
      · show (decide (x.natAbs < 18446744073709551616) && T.sms (l.map T.int)) = true
        rw [h2, decide_eq_true hx]; rfl
      · show max 0 (T.deps (l.map T.int)) = 0
        omega
  refine ⟨?_, this.2.1, ?_⟩
  · show T.szs (l.map T.int) + 4 = _
    rw [this.1]
  · show T.deps (l.map T.int) + 1 ≤ 1
    omega
end DL
set_option Elab.async false
set_option linter.all false
set_option maxRecDepth 100000
set_option maxHeartbeats 1000000
namespace LawP
open PySem L2 DL
/-! ### what is drawn -/
/-- the box at b: its digits at dg, the place -/
structure Box (A : AH) (b dg : Addr) : Prop where
  ne : b ≠ dg
  bx : ∃ n : Int, A b = some (.lst [.ref dg, .int n]) ∧ 0 ≤ n
  dg : ∃ l : List Int, A dg = some (.lst (l.map .int))
theorem Box.keep {A A' : AH} {b dg : Addr} {W : List Addr} (x : Box A b dg) (s : Sm W A A') (h1 : b ∉ W) (h2 : dg ∉ W) : Box A' b dg :=
  ⟨x.ne, let ⟨n, e, k⟩ := x.bx; ⟨n, s b _ h1 e, k⟩, let ⟨l, e⟩ := x.dg; ⟨l, s dg _ h2 e⟩⟩
theorem Box.b_ne {A : AH} {b dg p : Addr} (x : Box A b dg) (n : A p = none) : b ≠ p := let ⟨_, e, _⟩ := x.bx; ne_nn e n
theorem Box.d_ne {A : AH} {b dg p : Addr} (x : Box A b dg) (n : A p = none) : dg ≠ p := let ⟨_, e⟩ := x.dg; ne_nn e n
theorem Box.new {A : AH} {b dg p : Addr} {o : AO} (x : Box A b dg) (n : A p = none) : Box (up A p o) b dg := x.keep (W := []) (Sm.new n) (by simp) (by simp)
theorem mIx_mem {A : AH} {a : Addr} {xs : List D} {k : Int} {Q : DQ} (h : A a = some (.lst xs)) (h0 : 0 ≤ k) (h1 : k < xs.length) (q : ∀ d ∈ xs, Q d A) : mIx (.ref a) (.int k) A Q := by
  have lt : k.toNat < xs.length := by omega
  exact mIx_lst h (d := xs[k.toNat]) (by rw [atI_nat h0 h1]; exact List.getElem?_eq_getElem lt) (q _ (List.getElem_mem lt))
/-- a name -/
def Nam (d : D) : Prop := ∃ i j : Int, d = .tup [.int i, .int j]
/-- one of the nine names -/
def nineB : D → Bool
  | .tup [.int i, .int j] => decide (0 ≤ i ∧ i < 3 ∧ 0 ≤ j ∧ j < 3)
  | _ => false
def letB (c : Nat) : Bool := decide (97 ≤ c) && decide (c ≤ 122)
def wordB (most : Nat) (l : List Nat) : Bool := decide (l.length ≤ most) && l.all letB
def trgB : D → Bool
  | .tup [_, m] => nineB m
  | .int i => decide (-1000000 ≤ i ∧ i ≤ 1000000)
  | .str l => wordB 20 l
  | _ => true
def fldB : D → Bool
  | .str l => decide (1 ≤ l.length) && wordB 8 l
  | _ => false
def stpB : D → Bool
  | .tup [.int n, .int q] => decide (1 ≤ n ∧ n < 4294967296 ∧ 0 ≤ q ∧ q < 8)
  | _ => false
def chgB : D → Bool
  | .tup [s, n, f, v] => (nineB n && trgB v) && (stpB s && fldB f)
  | _ => false
def Fld (d : D) : Prop := ∃ l, d = .str l
def Wor (d : D) : Prop := d = .non ∨ (∃ i, d = .int i) ∨ (∃ l, d = .str l) ∨ ∃ n, Nam n ∧ d = .tup [.str [114, 101, 102], n]
/-! ### changes -/
def c0 : D → D
  | .tup (a :: _) => a
  | _ => .non
def c1 : D → D
  | .tup (_ :: a :: _) => a
  | _ => .non
def c3 : D → D
  | .tup (_ :: _ :: _ :: a :: _) => a
  | _ => .non
def ckey : D → D
  | .tup (_ :: a :: b :: _) => .tup [a, b]
  | _ => .non
def Stp (d : D) : Prop := ∃ n q : Int, d = .tup [.int n, .int q]
def Chg (d : D) : Prop := ∃ s n f v, d = .tup [s, n, f, v] ∧ Stp s ∧ Nam n ∧ Fld f ∧ Wor v
theorem plB_int {i : Int} : plB (.int i) = true := rfl
theorem plB_pair {i j : Int} : plB (.tup [.int i, .int j]) = true := rfl
theorem Wor.pl {d : D} (h : Wor d) : plB d = true := by
  rcases h with rfl | ⟨i, rfl⟩ | ⟨l, rfl⟩ | ⟨n, ⟨i, j, rfl⟩, rfl⟩ <;> rfl
theorem isKey_pair {i j : Int} : isKey (.tup [.int i, .int j]) = true := rfl
theorem Stp.key {d : D} (h : Stp d) : isKey d = true ∧ isTup d = true := by obtain ⟨i, j, rfl⟩ := h; exact ⟨rfl, rfl⟩
/-- all the keys are tuples -/
theorem okK_tup {α : Type} {kvs : List (D × α)} {k : D} (h : isKey k = true) (t : isTup k = true) (a : ∀ p ∈ kvs, isTup p.1 = true) : okK kvs k = true := by
  unfold okK
  rw [h, t, Bool.true_and, List.all_eq_true]
  intro p m
  rw [a p m]; rfl
/-! ### the draws of the later laws -/
/-- a value that is drawn, the names ns -/
def WoN (ns : List D) (v : D) : Prop := v = .non ∨ (∃ i : Int, v = .int i ∧ -4 ≤ i ∧ i ≤ 4) ∨ v ∈ [D.str [], .str [97], .str [122, 98], .str [115, 101, 97]] ∨ ∃ n ∈ ns, v = .tup [.str [114, 101, 102], n]
def sp__law_cell : DSp := fun ds A R _ => ∃ (ns : List Int) (k : Int), ds = [.cl (ns.map .int), .int k] ∧ 0 ≤ k ∧ ∀ v, R (.int v) A
def sp__law_row : DSp := fun ds A R _ => ∃ (c k m : Int), ds = [.int c, .int k, .int m] ∧ 0 ≤ k ∧ k ≤ 1000 ∧ 0 ≤ m ∧ m ≤ 100 ∧ ∀ (p : Addr) (l : List Int) (A' : AH), Sm [] A A' → A p = none → A' p = some (.lst (l.map .int)) → l.length ≤ 100 → R (.ref p) A'
def sp__law_box : DSp := fun ds A R _ => ∃ (ns : List Int) (i j : Int), ds = [.cl (ns.map .int), .int i, .int j] ∧ 0 ≤ i ∧ i ≤ j ∧ j ≤ 100 ∧ ∀ (b dg : Addr) (A' : AH), Sm [] A A' → A b = none → A dg = none → Box A' b dg → R (.ref b) A'
def sp__law_draw : DSp := fun ds A R _ => ∃ b dg m, ds = [.ref b, .int m] ∧ 0 < m ∧ Box A b dg ∧ ∀ v A', 0 ≤ v → v < m → Sm [b] A A' → Box A' b dg → R (.int v) A'
def sp__law_same : DSp := fun ds A R _ => ∃ x y t u, ds = [x, y] ∧ Snap A x t ∧ Snap A y u ∧ (t.dep ≤ 60 ∧ t.sm = true ∧ t.sz ≤ SL) ∧ (u.dep ≤ 60 ∧ u.sm = true ∧ u.sz ≤ SL) ∧ R (.bl (decide (D.str t.rep = D.str u.rep))) A
def sp__law_pick : DSp := fun ds A R _ => ∃ b dg r xs, ds = [.ref b, .ref r] ∧ Box A b dg ∧ A r = some (.lst xs) ∧ r ≠ b ∧ 1 ≤ xs.length ∧ ∀ x A', x ∈ xs → Sm [b] A A' → Box A' b dg → R x A'
def sp__law_worth : DSp := fun ds A R _ => ∃ b dg r xs, ds = [.ref b, .ref r] ∧ Box A b dg ∧ A r = some (.lst xs) ∧ r ≠ b ∧ 1 ≤ xs.length ∧ ∀ v A', WoN xs v → Sm [b] A A' → Box A' b dg → R v A'
def sp__law_field : DSp := fun ds A R _ => ∃ b dg, ds = [.ref b] ∧ Box A b dg ∧ ∀ v A', v ∈ [D.str [97], .str [98], .str [110, 101, 120, 116], .str [122]] → Sm [b] A A' → Box A' b dg → R v A'
def sp__law_target : DSp := fun ds A R _ => ∃ d, ds = [d] ∧ ((∃ r n, d = .tup [r, n] ∧ R n A) ∨ ((d = .non ∨ (∃ i, d = .int i) ∨ ∃ l, d = .str l) ∧ R .non A))
def sp__law_changes : DSp := fun ds A R _ => ∃ b dg m, ds = [.ref b, .int m] ∧ 0 ≤ m ∧ m ≤ 100 ∧ Box A b dg ∧ ∀ (p : Addr) (xs : List D) (A' : AH), (∀ x ∈ xs, Chg x) → (∀ x ∈ xs, chgB x = true) → (xs.map c0).Nodup → xs.length ≤ m.toNat → Sm [b] A A' → Box A' b dg → A p = none → A' p = some (.lst xs) → R (.ref p) A'
/-- _law_cell: 0 _law_script, 1 _law_k -/
def t__law_cell : DTS := dSeq (dIf (dB (dOp (mLt .Lt) (dV 1) (dCall mLen (dCons (dV 0) (dNil))))) (dRet (dOp mIx (dV 0) (dV 1))) (dNext)) (
  dRet (dC (.int 0)))
/-- _law_row: 0 _law_cell_here, 1 _law_k, 2 _law_many, 3 _law_row_here, 4 _law_turn, 5 _law_seed -/
def t__law_row : DTS := dSeq (dAsg (dLst (dNil)) (dName 3)) (
  dSeq (dIf (dB (dOp (mLt .Lt) (dV 0) (dC (.int 0)))) (dAsg (dOp fSub (dC (.int 1)) (dOp fMul (dC (.int 2)) (dV 0))) (dName 0)) (dNext)) (
  dSeq (dIf (dB (dOp (mLt .GtE) (dV 0) (dOp fPow (dC (.int 10)) (dC (.int 18))))) (dSeq (dFor (diR1 (dCons (dC (.int 60)) (dNil))) (dName 4) (dIf (dAndT (dB (dOp (mLt .Gt) (dV 0) (dC (.int 0)))) (dB (dOp (mLt .Lt) (dCall mLen (dCons (dV 3) (dNil))) (dV 2)))) (dSeq (dDrop (dBm isL fAppend (dV 3) (dCons (dOp fMod (dCall fInt (dCons (dV 0) (dNil))) (dC (.int 1000))) (dNil)))) (
  dAsg (dOp fDiv (dV 0) (dC (.int 1000))) (dName 0))) (dNext))) (
  dRet (dV 3))) (dNext)) (
  dSeq (dAsg (dOp fMod (dCall fInt (dCons (dOp fAdd (dOp fAdd (dOp fMul (dV 0) (dC (.int 48271))) (dOp fMul (dV 1) (dC (.int 69621)))) (dC (.int 11))) (dNil))) (dC (.int 2147483647))) (dName 5)) (
  dSeq (dFor (diR1 (dCons (dV 2) (dNil))) (dName 4) (dSeq (dAsg (dOp fMod (dCall fInt (dCons (dOp fAdd (dOp fAdd (dOp fMul (dV 5) (dC (.int 16807))) (dOp fMul (dC (.int 7)) (dV 4))) (dC (.int 1))) (dNil))) (dC (.int 2147483647))) (dName 5)) (
  dDrop (dBm isL fAppend (dV 3) (dCons (dOp fMod (dCall fInt (dCons (dOp fDiv (dV 5) (dC (.int 997))) (dNil))) (dC (.int 1000))) (dNil)))))) (
  dRet (dV 3))))))
/-- _law_box: 0 _law_script, 1 _law_first, 2 _law_last, 3 _law_row_here, 4 _law_k -/
def t__law_box : DTS := dSeq (dAsg (dLst (dNil)) (dName 3)) (
  dSeq (dFor (diR2 (dCons (dV 1) (dCons (dV 2) (dNil)))) (dName 4) (dAsg (dOp fAdd (dV 3) (dCal sp__law_row (dCons (dCal sp__law_cell (dCons (dV 0) (dCons (dV 4) (dNil)))) (dCons (dV 4) (dCons (dC (.int 12)) (dNil)))))) (dName 3))) (
  dRet (dLst (dCons (dV 3) (dCons (dC (.int 0)) (dNil))))))
/-- _law_draw: 0 _law_box_here, 1 _law_many, 2 _law_at -/
def t__law_draw : DTS := dSeq (dAsg (dOp mIx (dV 0) (dC (.int 1))) (dName 2)) (
  dSeq (dAsg (dOp fAdd (dV 2) (dC (.int 1))) (dgSub mSt (dV 0) (dC (.int 1)))) (
  dSeq (dIf (dB (dOp (mLt .Lt) (dV 2) (dCall mLen (dCons (dOp mIx (dV 0) (dC (.int 0))) (dNil))))) (dRet (dOp fMod (dCall fInt (dCons (dOp mIx (dOp mIx (dV 0) (dC (.int 0))) (dV 2)) (dNil))) (dV 1))) (dNext)) (
  dRet (dOp fMod (dCall fInt (dCons (dOp fAdd (dOp fMul (dV 2) (dC (.int 7))) (dC (.int 3))) (dNil))) (dV 1)))))
/-- _law_same: 0 _law_one, 1 _law_other -/
def t__law_same : DTS := dRet (dOp (mEq false) (dCall fRepr (dCons (dV 0) (dNil))) (dCall fRepr (dCons (dV 1) (dNil))))
/-- _law_pick: 0 _law_box_here, 1 _law_row_here -/
def t__law_pick : DTS := dRet (dOp mIx (dV 1) (dOp fMod (dCall fInt (dCons (dCal sp__law_draw (dCons (dV 0) (dCons (dC (.int 900)) (dNil)))) (dNil))) (dCall mLen (dCons (dV 1) (dNil)))))
/-- _law_worth: 0 _law_box_here, 1 _law_names, 2 _law_kind -/
def t__law_worth : DTS := dSeq (dAsg (dCal sp__law_draw (dCons (dV 0) (dCons (dC (.int 7)) (dNil)))) (dName 2)) (
  dSeq (dIf (dB (dOp (mLt .Lt) (dV 2) (dC (.int 3)))) (dRet (dTup (dCons (dC (.str [114, 101, 102])) (dCons (dCal sp__law_pick (dCons (dV 0) (dCons (dV 1) (dNil)))) (dNil))))) (dNext)) (
  dSeq (dIf (dB (dOp (mEq false) (dV 2) (dC (.int 3)))) (dRet (dC .non)) (dNext)) (
  dSeq (dIf (dB (dOp (mEq false) (dV 2) (dC (.int 4)))) (dRet (dOp mIx (dLst (dCons (dC (.str [])) (dCons (dC (.str [97])) (dCons (dC (.str [122, 98])) (dCons (dC (.str [115, 101, 97])) (dNil)))))) (dCal sp__law_draw (dCons (dV 0) (dCons (dC (.int 4)) (dNil)))))) (dNext)) (
  dRet (dOp fSub (dCal sp__law_draw (dCons (dV 0) (dCons (dC (.int 9)) (dNil)))) (dC (.int 4)))))))
/-- _law_target: 0 _law_value -/
def t__law_target : DTS := dSeq (dIf (dTru (dIsi "tuple" (dV 0))) (dRet (dOp mIx (dV 0) (dC (.int 1)))) (dNext)) (
  dRet (dC .non))
theorem q__law_cell : ∀ ds A R E, ds.length = 2 → sp__law_cell ds A R E → t__law_cell { nx := fun _ A' => R .non A', rt := R } (ds.map some ++ List.replicate (2 - ds.length) none) A := by
  rintro ds A R E - ⟨ns, k, rfl, h0, hR⟩
  show t__law_cell _ [some (.cl (ns.map .int)), some (.int k)] A
  dsimp only [t__law_cell, dSeq, dIf, dAsg, dName, dRet, dRetN, dDrop, dNext, dB, dTru, dOp, dUn, dCall, dCons, dNil, dC, dV, dTup, dLst, dCal, dMet, dMak, dFld, DL.sFld, dBm, dgSub, dgTup, dgCons, dgNil, dAndT, dOrT, dNotT, dOr, dAnd, dNotE, dIsi, dSl, dNoP, dPart, dDNew, dNever, fInt, fMod, fAdd_int, fSub, fMul, fDiv, fPow, fI2, fI2C, fNeg, mLt, List.getElem?_cons_succ, List.getElem?_cons_zero, List.set_cons_zero, List.set_cons_succ]
  show (if decide (k < ((ns.map D.int).length : Int)) = true then _ else _)
  split
  · rename_i h
    have h := of_decide_eq_true h
    have lt : k.toNat < ns.length := by rw [List.length_map] at h; omega
    show fIx (.cl (ns.map .int)) (.int k) A R
    refine fIx_of (xs := ns.map .int) rfl (d := .int ns[k.toNat]) ?_ (hR _)
    rw [atI_nat h0 h, List.getElem?_map, List.getElem?_eq_getElem lt]; rfl
  · exact hR 0
theorem kSeq {t u : DTS} {DD : DE} {σ : DS} {A : AH} : dSeq t u DD σ A = t { DD with nx := u DD } σ A := rfl
theorem kIf {c : DTT} {t u : DTS} {DD : DE} {σ : DS} {A : AH} : dIf c t u DD σ A = c σ A fun b A1 => if b = true then t DD σ A1 else u DD σ A1 := rfl
theorem q__law_row : ∀ ds A R E, ds.length = 3 → sp__law_row ds A R E → t__law_row { nx := fun _ A' => R .non A', rt := R } (ds.map some ++ List.replicate (6 - ds.length) none) A := by
  rintro ds A R E - ⟨c, k, m, rfl, k0, k1, m0, m1, hR⟩
  show t__law_row _ [some (.int c), some (.int k), some (.int m), none, none, none] A
  dsimp only [t__law_row, dSeq, dIf, dAsg, dName, dRet, dRetN, dDrop, dNext, dB, dTru, dOp, dUn, dCall, dCons, dNil, dC, dV, dTup, dLst, dCal, dMet, dMak, dFld, DL.sFld, dBm, dgSub, dgTup, dgCons, dgNil, dAndT, dOrT, dNotT, dOr, dAnd, dNotE, dIsi, dSl, dNoP, dPart, dDNew, dNever, fInt, fMod, fAdd_int, fSub, fMul, fDiv, fPow, fI2, fI2C, fNeg, mLt, List.getElem?_cons_succ, List.getElem?_cons_zero, List.set_cons_zero, List.set_cons_succ]
  intro p hp
  have big : ∀ (c : Int) (x4 x5 : Option D) (A1 : AH), Sm [] A A1 → A1 p = some (.lst []) → dSeq (dFor (diR1 (dCons (dC (.int 60)) (dNil))) (dName 4) (dIf (dAndT (dB (dOp (mLt .Gt) (dV 0) (dC (.int 0)))) (dB (dOp (mLt .Lt) (dCall mLen (dCons (dV 3) (dNil))) (dV 2)))) (dSeq (dDrop (dBm isL fAppend (dV 3) (dCons (dOp fMod (dCall fInt (dCons (dV 0) (dNil))) (dC (.int 1000))) (dNil)))) (
      dAsg (dOp fDiv (dV 0) (dC (.int 1000))) (dName 0))) (dNext))) (dRet (dV 3)) { nx := fun _ A' => False, rt := R } [some (.int c), some (.int k), some (.int m), some (.ref p), x4, x5] A1 := by
    intro c x4 x5 A1 s1 e1
    dsimp only [dSeq, dIf, dAsg, dName, dRet, dRetN, dDrop, dNext, dB, dTru, dOp, dUn, dCall, dCons, dNil, dC, dV, dTup, dLst, dCal, dMet, dMak, dFld, DL.sFld, dBm, dgSub, dgTup, dgCons, dgNil, dAndT, dOrT, dNotT, dOr, dAnd, dNotE, dIsi, dSl, dNoP, dPart, dDNew, dNever, fInt, fMod, fAdd_int, fSub, fMul, fDiv, fPow, fI2, fI2C, fNeg, mLt, List.getElem?_cons_succ, List.getElem?_cons_zero, List.set_cons_zero, List.set_cons_succ]
    refine for_r1 (by unfold small62; omega) (fun j σ A' => ∃ c x4 l, σ = [some (.int c), some (.int k), some (.int m), some (.ref p), x4, x5] ∧ Sm [] A A' ∧ A' p = some (.lst (List.map D.int l)) ∧ l.length ≤ j) ⟨c, x4, [], rfl, s1, e1, Nat.le_refl _⟩ ?_ ?_ (fun _ q => q)
    · rintro j σ A2 hj ⟨c, x4, l, rfl, s2, e2, hl⟩
      have hj : j < 60 := hj
      dsimp only [dAndT, dSeq, dIf, dAsg, dName, dRet, dRetN, dDrop, dNext, dB, dTru, dOp, dUn, dCall, dCons, dNil, dC, dV, dTup, dLst, dCal, dMet, dMak, dFld, DL.sFld, dBm, dgSub, dgTup, dgCons, dgNil, dAndT, dOrT, dNotT, dOr, dAnd, dNotE, dIsi, dSl, dNoP, dPart, dDNew, dNever, fInt, fMod, fAdd_int, fSub, fMul, fDiv, fPow, fI2, fI2C, fNeg, mLt, List.getElem?_cons_succ, List.getElem?_cons_zero, List.set_cons_zero, List.set_cons_succ]
      split
      · refine len_lst e2 ?_
        show (if decide _ = true then _ else _)
        split
        · refine ⟨⟨_, e2⟩, by decide, fAppend_lst e2 (by rw [List.length_map]; show _ < 16777216; omega) ⟨by decide, ?_⟩⟩
          exact ⟨_, _, l ++ [c % 1000], rfl, s2.own hp, by rw [up_same]; simp, by simp; omega⟩
        · exact ⟨c, _, l, rfl, s2, e2, by omega⟩
      · exact ⟨c, _, l, rfl, s2, e2, by omega⟩
    · rintro σ A2 ⟨c, x4, l, rfl, s2, e2, hl⟩
      have hl : l.length ≤ 60 := hl
      exact hR p l A2 s2 hp e2 (by omega)
  have mid : ∀ (c : Int) (A1 : AH), Sm [] A A1 → A1 p = some (.lst []) → dSeq (dIf (dB (dOp (mLt .GtE) (dV 0) (dOp fPow (dC (.int 10)) (dC (.int 18))))) (dSeq (dFor (diR1 (dCons (dC (.int 60)) (dNil))) (dName 4) (dIf (dAndT (dB (dOp (mLt .Gt) (dV 0) (dC (.int 0)))) (dB (dOp (mLt .Lt) (dCall mLen (dCons (dV 3) (dNil))) (dV 2)))) (dSeq (dDrop (dBm isL fAppend (dV 3) (dCons (dOp fMod (dCall fInt (dCons (dV 0) (dNil))) (dC (.int 1000))) (dNil)))) (
      dAsg (dOp fDiv (dV 0) (dC (.int 1000))) (dName 0))) (dNext))) (dRet (dV 3))) (dNext)) (
      dSeq (dAsg (dOp fMod (dCall fInt (dCons (dOp fAdd (dOp fAdd (dOp fMul (dV 0) (dC (.int 48271))) (dOp fMul (dV 1) (dC (.int 69621)))) (dC (.int 11))) (dNil))) (dC (.int 2147483647))) (dName 5)) (
      dSeq (dFor (diR1 (dCons (dV 2) (dNil))) (dName 4) (dSeq (dAsg (dOp fMod (dCall fInt (dCons (dOp fAdd (dOp fAdd (dOp fMul (dV 5) (dC (.int 16807))) (dOp fMul (dC (.int 7)) (dV 4))) (dC (.int 1))) (dNil))) (dC (.int 2147483647))) (dName 5)) (
      dDrop (dBm isL fAppend (dV 3) (dCons (dOp fMod (dCall fInt (dCons (dOp fDiv (dV 5) (dC (.int 997))) (dNil))) (dC (.int 1000))) (dNil)))))) (
      dRet (dV 3)))) { nx := fun _ A' => R .non A', rt := R } [some (.int c), some (.int k), some (.int m), some (.ref p), none, none] A1 := by
    intro c A1 s1 e1
    rw [kSeq, kIf]
    dsimp only [dB, dOp, dV, dC, fPow, fI2C, mLt, List.getElem?_cons_zero]
    refine ⟨⟨by decide, by decide, by unfold smallI; omega⟩, ?_⟩
    show (if decide _ = true then _ else _)
    split
    · exact big c none none A1 s1 e1
    · dsimp only [dSeq, dIf, dAsg, dName, dRet, dRetN, dDrop, dNext, dB, dTru, dOp, dUn, dCall, dCons, dNil, dC, dV, dTup, dLst, dCal, dMet, dMak, dFld, DL.sFld, dBm, dgSub, dgTup, dgCons, dgNil, dAndT, dOrT, dNotT, dOr, dAnd, dNotE, dIsi, dSl, dNoP, dPart, dDNew, dNever, fInt, fMod, fAdd_int, fSub, fMul, fDiv, fPow, fI2, fI2C, fNeg, mLt, List.getElem?_cons_succ, List.getElem?_cons_zero, List.set_cons_zero, List.set_cons_succ]
      refine ⟨.inr (by unfold smallI; omega), .inr (by unfold smallI; omega), by decide, for_r1 (by unfold small62; omega) (fun j σ A' => ∃ x4 sd l, σ = [some (.int c), some (.int k), some (.int m), some (.ref p), x4, some (.int sd)] ∧ Sm [] A A' ∧ A' p = some (.lst (List.map D.int l)) ∧ l.length ≤ j) ⟨none, _, [], rfl, s1, e1, Nat.le_refl _⟩ ?_ ?_ (fun _ q => q)⟩
      · rintro j σ A2 hj ⟨x4, sd, l, rfl, s2, e2, hl⟩
        have hj : j < m.toNat := hj
        dsimp only [dSeq, dIf, dAsg, dName, dRet, dRetN, dDrop, dNext, dB, dTru, dOp, dUn, dCall, dCons, dNil, dC, dV, dTup, dLst, dCal, dMet, dMak, dFld, DL.sFld, dBm, dgSub, dgTup, dgCons, dgNil, dAndT, dOrT, dNotT, dOr, dAnd, dNotE, dIsi, dSl, dNoP, dPart, dDNew, dNever, fInt, fMod, fAdd_int, fSub, fMul, fDiv, fPow, fI2, fI2C, fNeg, mLt, List.getElem?_cons_succ, List.getElem?_cons_zero, List.set_cons_zero, List.set_cons_succ]
        refine ⟨.inr (by unfold smallI; omega), .inl (by unfold smallI; omega), by decide, ⟨_, e2⟩, by decide, by decide, fAppend_lst e2 (by rw [List.length_map]; show _ < 16777216; omega) ?_⟩
        exact ⟨_, _, l ++ [_], rfl, s2.own hp, by rw [up_same, List.map_append]; rfl, by simp; omega⟩
      · rintro σ A2 ⟨x4, sd, l, rfl, s2, e2, hl⟩
        have hl : l.length ≤ m.toNat := hl
        exact hR p l A2 s2 hp e2 (by omega)
  show (if decide _ = true then _ else _)
  split
  · refine ⟨.inl (by unfold smallI; omega), ?_⟩
    exact mid _ _ (Sm.new hp) up_same
  · exact mid _ _ (Sm.new hp) up_same
theorem q__law_box : ∀ ds A R E, ds.length = 3 → sp__law_box ds A R E → t__law_box { nx := fun _ A' => R .non A', rt := R } (ds.map some ++ List.replicate (5 - ds.length) none) A := by
  rintro ds A R E - ⟨ns, i, j, rfl, i0, ij, j1, hR⟩
  show t__law_box _ [some (.cl (ns.map .int)), some (.int i), some (.int j), none, none] A
  dsimp only [t__law_box, dSeq, dIf, dAsg, dName, dRet, dRetN, dDrop, dNext, dB, dTru, dOp, dUn, dCall, dCons, dNil, dC, dV, dTup, dLst, dCal, dMet, dMak, dFld, DL.sFld, dBm, dgSub, dgTup, dgCons, dgNil, dAndT, dOrT, dNotT, dOr, dAnd, dNotE, dIsi, dSl, dNoP, dPart, dDNew, dNever, fInt, fMod, fAdd_int, fSub, fMul, fDiv, fPow, fI2, fI2C, fNeg, mLt, List.getElem?_cons_succ, List.getElem?_cons_zero, List.set_cons_zero, List.set_cons_succ]
  intro p hp
  refine for_r2 (by unfold small62; omega) (by unfold small62; omega) (fun n σ A' => ∃ x4 q l, σ = [some (.cl (ns.map .int)), some (.int i), some (.int j), some (.ref q), x4] ∧ Sm [] A A' ∧ A q = none ∧ A' q = some (.lst (List.map D.int l)) ∧ l.length ≤ 100 * n) ⟨none, p, [], rfl, Sm.new hp, hp, up_same, by simp⟩ ?_ ?_ (fun _ q => q)
  · rintro n σ A1 hn ⟨x4, q, l, rfl, s1, q0, e1, hl⟩
    have hn : (n : Int) < j - i := by omega
    dsimp only [dSeq, dIf, dAsg, dName, dRet, dRetN, dDrop, dNext, dB, dTru, dOp, dUn, dCall, dCons, dNil, dC, dV, dTup, dLst, dCal, dMet, dMak, dFld, DL.sFld, dBm, dgSub, dgTup, dgCons, dgNil, dAndT, dOrT, dNotT, dOr, dAnd, dNotE, dIsi, dSl, dNoP, dPart, dDNew, dNever, fInt, fMod, fAdd_int, fSub, fMul, fDiv, fPow, fI2, fI2C, fNeg, mLt, List.getElem?_cons_succ, List.getElem?_cons_zero, List.set_cons_zero, List.set_cons_succ]
    refine ⟨ns, i + n, rfl, by omega, fun c => ⟨c, i + n, 12, rfl, by omega, by omega, by decide, by decide, fun r l2 A2 s2 r0 e2 hl2 => ?_⟩⟩
    refine fAdd_lst (s2 q _ (by simp) e1) e2 (by rw [List.length_map, List.length_map]; show _ ≤ 16777216; omega) fun u hu => ?_
    exact ⟨_, u, l ++ l2, rfl, (s1.trans s2).trans (Sm.new hu), (s1.trans s2).none0 hu, by rw [up_same, List.map_append], by rw [List.length_append]; omega⟩
  · rintro σ A1 ⟨x4, q, l, rfl, s1, q0, e1, hl⟩
    dsimp only [dSeq, dIf, dAsg, dName, dRet, dRetN, dDrop, dNext, dB, dTru, dOp, dUn, dCall, dCons, dNil, dC, dV, dTup, dLst, dCal, dMet, dMak, dFld, DL.sFld, dBm, dgSub, dgTup, dgCons, dgNil, dAndT, dOrT, dNotT, dOr, dAnd, dNotE, dIsi, dSl, dNoP, dPart, dDNew, dNever, fInt, fMod, fAdd_int, fSub, fMul, fDiv, fPow, fI2, fI2C, fNeg, mLt, List.getElem?_cons_succ, List.getElem?_cons_zero, List.set_cons_zero, List.set_cons_succ]
    intro b hb
    have bq : b ≠ q := (ne_nn e1 hb).symm
    exact hR b q _ (s1.trans (Sm.new hb)) (s1.none0 hb) q0 ⟨bq, ⟨0, up_same, by decide⟩, ⟨l, by rw [up_ne bq.symm]; exact e1⟩⟩
theorem q__law_draw : ∀ ds A R E, ds.length = 2 → sp__law_draw ds A R E → t__law_draw { nx := fun _ A' => R .non A', rt := R } (ds.map some ++ List.replicate (3 - ds.length) none) A := by
  rintro ds A R E - ⟨b, dg, m, rfl, hm, B, hR⟩
  obtain ⟨ne, ⟨n, hb, hn⟩, ⟨l, hd⟩⟩ := id B
  show t__law_draw _ [some (.ref b), some (.int m), none] A
  dsimp only [t__law_draw, dSeq, dIf, dAsg, dName, dRet, dRetN, dDrop, dNext, dB, dTru, dOp, dUn, dCall, dCons, dNil, dC, dV, dTup, dLst, dCal, dMet, dMak, dFld, DL.sFld, dBm, dgSub, dgTup, dgCons, dgNil, dAndT, dOrT, dNotT, dOr, dAnd, dNotE, dIsi, dSl, dNoP, dPart, dDNew, dNever, fInt, fMod, fAdd_int, fSub, fMul, fDiv, fPow, fI2, fI2C, fNeg, mLt, List.getElem?_cons_succ, List.getElem?_cons_zero, List.set_cons_zero, List.set_cons_succ]
  refine mIx_lst hb (d := .int n) (by rfl) ?_
  refine mSt_lst hb (j := 1) (by rfl) ?_
  have s1 : Sm [b] A (up A b (.lst [.ref dg, .int (n + 1)])) := Sm.put (by simp)
  have hb1 : up A b (.lst [.ref dg, .int (n + 1)]) b = some (.lst [.ref dg, .int (n + 1)]) := up_same
  have hd1 : up A b (.lst [.ref dg, .int (n + 1)]) dg = some (.lst (l.map .int)) := by rw [up_ne ne.symm]; exact hd
  have B1 : Box (up A b (.lst [.ref dg, .int (n + 1)])) b dg := ⟨ne, ⟨n + 1, hb1, by omega⟩, ⟨l, hd1⟩⟩
  show mIx (.ref b) (.int 0) (up A b (.lst [.ref dg, .int (n + 1)])) _
  refine mIx_lst hb1 (d := .ref dg) (by rfl) (len_lst hd1 ?_)
  show (if decide (n < ((l.map D.int).length : Int)) = true then _ else _)
  split
  · rename_i h
    have h := of_decide_eq_true h
    have lt : n.toNat < l.length := by rw [List.length_map] at h; omega
    show mIx (.ref b) (.int 0) _ _
    refine mIx_lst hb1 (d := .ref dg) (by rfl) ?_
    refine mIx_lst hd1 (d := .int l[n.toNat]) ?_ ?_
    · rw [atI_nat hn h, List.getElem?_map, List.getElem?_eq_getElem lt]; rfl
    · exact ⟨hm, hR _ _ (Int.emod_nonneg _ (by omega)) (Int.emod_lt_of_pos _ hm) s1 B1⟩
  · refine ⟨.inr (by unfold smallI; omega), ?_⟩
    exact ⟨hm, hR _ _ (Int.emod_nonneg _ (by omega)) (Int.emod_lt_of_pos _ hm) s1 B1⟩
theorem q__law_same : ∀ ds A R E, ds.length = 2 → sp__law_same ds A R E → t__law_same { nx := fun _ A' => R .non A', rt := R } (ds.map some ++ List.replicate (2 - ds.length) none) A := by
  rintro ds A R E - ⟨x, y, t, u, rfl, sx, sy, ⟨h1, h2, h3⟩, ⟨k1, k2, k3⟩, hR⟩
  show t__law_same _ [some x, some y] A
  dsimp only [t__law_same, dSeq, dIf, dAsg, dName, dRet, dRetN, dDrop, dNext, dB, dTru, dOp, dUn, dCall, dCons, dNil, dC, dV, dTup, dLst, dCal, dMet, dMak, dFld, DL.sFld, dBm, dgSub, dgTup, dgCons, dgNil, dAndT, dOrT, dNotT, dOr, dAnd, dNotE, dIsi, dSl, dNoP, dPart, dDNew, dNever, fInt, fMod, fAdd_int, fSub, fMul, fDiv, fPow, fI2, fI2C, fNeg, mLt, List.getElem?_cons_succ, List.getElem?_cons_zero, List.set_cons_zero, List.set_cons_succ]
  exact ⟨t, sx, h1, h2, h3, ⟨u, sy, k1, k2, k3, mEq_pl rfl rfl (by rw [Bool.false_xor]; exact hR)⟩⟩
theorem q__law_pick : ∀ ds A R E, ds.length = 2 → sp__law_pick ds A R E → t__law_pick { nx := fun _ A' => R .non A', rt := R } (ds.map some ++ List.replicate (2 - ds.length) none) A := by
  rintro ds A R E - ⟨b, dg, r, xs, rfl, B, hr, rb, h1, hR⟩
  show t__law_pick _ [some (.ref b), some (.ref r)] A
  dsimp only [t__law_pick, dSeq, dIf, dAsg, dName, dRet, dRetN, dDrop, dNext, dB, dTru, dOp, dUn, dCall, dCons, dNil, dC, dV, dTup, dLst, dCal, dMet, dMak, dFld, DL.sFld, dBm, dgSub, dgTup, dgCons, dgNil, dAndT, dOrT, dNotT, dOr, dAnd, dNotE, dIsi, dSl, dNoP, dPart, dDNew, dNever, fInt, fMod, fAdd_int, fSub, fMul, fDiv, fPow, fI2, fI2C, fNeg, mLt, List.getElem?_cons_succ, List.getElem?_cons_zero, List.set_cons_zero, List.set_cons_succ]
  refine ⟨b, dg, 900, rfl, by decide, B, fun v A1 v0 _ s1 B1 => ?_⟩
  have e1 := s1 r _ (by simpa using rb) hr
  dsimp only [fInt]
  refine len_lst e1 ?_
  dsimp only
  refine ⟨by omega, ?_⟩
  exact mIx_mem e1 (Int.emod_nonneg _ (by omega)) (Int.emod_lt_of_pos _ (by omega)) fun d hd => hR d A1 hd s1 B1
theorem q__law_worth : ∀ ds A R E, ds.length = 2 → sp__law_worth ds A R E → t__law_worth { nx := fun _ A' => R .non A', rt := R } (ds.map some ++ List.replicate (3 - ds.length) none) A := by
  rintro ds A R E - ⟨b, dg, r, xs, rfl, B, hr, rb, h1, hR⟩
  show t__law_worth _ [some (.ref b), some (.ref r), none] A
  dsimp only [t__law_worth, dSeq, dIf, dAsg, dName, dRet, dRetN, dDrop, dNext, dB, dTru, dOp, dUn, dCall, dCons, dNil, dC, dV, dTup, dLst, dCal, dMet, dMak, dFld, DL.sFld, dBm, dgSub, dgTup, dgCons, dgNil, dAndT, dOrT, dNotT, dOr, dAnd, dNotE, dIsi, dSl, dNoP, dPart, dDNew, dNever, fInt, fMod, fAdd_int, fSub, fMul, fDiv, fPow, fI2, fI2C, fNeg, mLt, List.getElem?_cons_succ, List.getElem?_cons_zero, List.set_cons_zero, List.set_cons_succ]
  refine ⟨b, dg, 7, rfl, by decide, B, fun k A1 _ _ s1 B1 => ?_⟩
  show (if decide _ = true then _ else _)
  split
  · exact ⟨b, dg, r, xs, rfl, B1, s1 r _ (by simpa using rb) hr, rb, h1, fun x A2 mx s2 B2 => hR _ A2 (.inr (.inr (.inr ⟨x, mx, rfl⟩))) (s1.trans s2) B2⟩
  refine mEq_pl rfl rfl ?_
  show (if _ = true then _ else _)
  split
  · exact hR _ _ (.inl rfl) s1 B1
  refine mEq_pl rfl rfl ?_
  show (if _ = true then _ else _)
  split
  · intro p hp
    refine ⟨b, dg, 4, rfl, by decide, B1.new hp, fun v A2 h0 h1 s2 B2 => ?_⟩
    have e1 := s2 p _ (by simp; exact Ne.symm (B1.b_ne hp)) up_same
    exact mIx_mem e1 h0 (by simpa using h1) fun d hd => hR d A2 (.inr (.inr (.inl hd))) (s1.trans ((Sm.new hp).trans s2)) B2
  · exact ⟨b, dg, 9, rfl, by decide, B1, fun v A2 h0 h1 s2 B2 => hR _ A2 (.inr (.inl ⟨_, rfl, by omega, by omega⟩)) (s1.trans s2) B2⟩
theorem q__law_target : ∀ ds A R E, ds.length = 1 → sp__law_target ds A R E → t__law_target { nx := fun _ A' => R .non A', rt := R } (ds.map some ++ List.replicate (1 - ds.length) none) A := by
  rintro ds A R E - ⟨d, rfl, hd⟩
  show t__law_target _ [some d] A
  dsimp only [t__law_target, dSeq, dIf, dAsg, dName, dRet, dRetN, dDrop, dNext, dB, dTru, dOp, dUn, dCall, dCons, dNil, dC, dV, dTup, dLst, dCal, dMet, dMak, dFld, DL.sFld, dBm, dgSub, dgTup, dgCons, dgNil, dAndT, dOrT, dNotT, dOr, dAnd, dNotE, dIsi, dSl, dNoP, dPart, dDNew, dNever, fInt, fMod, fAdd_int, fSub, fMul, fDiv, fPow, fI2, fI2C, fNeg, mLt, List.getElem?_cons_succ, List.getElem?_cons_zero, List.set_cons_zero, List.set_cons_succ]
  rcases hd with ⟨r, n, rfl, hR⟩ | ⟨rfl | ⟨i, rfl⟩ | ⟨l, rfl⟩, hR⟩
  · show (if (true : Bool) = true then (_ : Prop) else (_ : Prop))
    rw [if_pos rfl]
    exact mIx_tup (d := n) rfl hR
  all_goals
    show (if (false : Bool) = true then (_ : Prop) else (_ : Prop))
    rw [if_neg (by decide)]
    exact hR
theorem fiveB : ∀ n ∈ [D.tup [.int 0, .int 0], .tup [.int 0, .int 1], .tup [.int 1, .int 0], .tup [.int 2, .int 0], .tup [.int 2, .int 1]], Nam n ∧ nineB n = true := by
  intro n hn
  simp only [List.mem_cons, List.not_mem_nil, or_false] at hn
  rcases hn with rfl | rfl | rfl | rfl | rfl <;> exact ⟨⟨_, _, rfl⟩, by decide⟩
theorem fldB4 {v : D} (h : v ∈ [D.str [97], .str [98], .str [110, 101, 120, 116], .str [122]]) : Fld v ∧ fldB v = true := by
  simp only [List.mem_cons, List.not_mem_nil, or_false] at h
  rcases h with rfl | rfl | rfl | rfl <;> exact ⟨⟨_, rfl⟩, by decide⟩
theorem worB {ns : List D} {v : D} (h : WoN ns v) (hn : ∀ n ∈ ns, Nam n ∧ nineB n = true) : Wor v ∧ trgB v = true := by
  rcases h with rfl | ⟨i, rfl, h1, h2⟩ | h | ⟨n, m, rfl⟩
  · exact ⟨.inl rfl, rfl⟩
  · exact ⟨.inr (.inl ⟨i, rfl⟩), decide_eq_true ⟨by omega, by omega⟩⟩
  · simp only [List.mem_cons, List.not_mem_nil, or_false] at h
    rcases h with rfl | rfl | rfl | rfl <;> exact ⟨.inr (.inr (.inl ⟨_, rfl⟩)), by decide⟩
  · exact ⟨.inr (.inr (.inr ⟨n, (hn n m).1, rfl⟩)), (hn n m).2⟩
end LawP
set_option Elab.async false
set_option linter.all false
set_option maxRecDepth 100000
set_option maxHeartbeats 1000000
namespace LawP
open PySem L2 DL
/-! ### cells: what a row of changes comes to -/
/-- a cell's value: the stamp, the worth -/
def CV (d : D) : Prop := ∃ s v, d = .tup [s, v] ∧ Stp s ∧ Wor v
/-- is the change taken -/
def told (kvs : List (D × D)) (c : D) : Bool := match dget kvs (ckey c) with
  | none => true
  | some o => ltD 4 (c0 o) (c0 c)
def stepC (kvs : List (D × D)) (c : D) : List (D × D) := if told kvs c then dput kvs (ckey c) (.tup [c0 c, c3 c]) else kvs
def cellsOf (xs : List D) : List (D × D) := xs.foldl stepC []
/-- cells as they may stand -/
structure Cells (kvs : List (D × D)) : Prop where
  nd : (kvs.map (·.1)).Nodup
  ke : ∀ p ∈ kvs, isKey p.1 = true ∧ isTup p.1 = true
  va : ∀ p ∈ kvs, CV p.2
theorem CV.pl {d : D} (h : CV d) : plB d = true := by
  obtain ⟨s, v, rfl, ⟨i, j, rfl⟩, hv⟩ := h
  rcases hv with rfl | ⟨i, rfl⟩ | ⟨l, rfl⟩ | ⟨n, ⟨i, j, rfl⟩, rfl⟩ <;> rfl
theorem Chg.ckey {c : D} (h : Chg c) : isKey (ckey c) = true ∧ isTup (ckey c) = true := by
  obtain ⟨s, n, f, v, rfl, _, ⟨i, j, rfl⟩, ⟨l, rfl⟩, _⟩ := h
  exact ⟨rfl, rfl⟩
theorem Chg.cv {c : D} (h : Chg c) : CV (.tup [c0 c, c3 c]) := by
  obtain ⟨s, n, f, v, rfl, hs, _, _, hv⟩ := h
  exact ⟨s, v, rfl, hs, hv⟩
theorem Cells.nil : Cells [] := ⟨List.nodup_nil, (fun _ z => nomatch z), (fun _ z => nomatch z)⟩
theorem Cells.ok {kvs : List (D × D)} {k : D} (h : Cells kvs) (k1 : isKey k = true) (k2 : isTup k = true) : okK kvs k = true := okK_tup k1 k2 fun p m => (h.ke p m).2
theorem Cells.step {kvs : List (D × D)} {c : D} (h : Cells kvs) (hc : Chg c) : Cells (stepC kvs c) := by
  unfold stepC
  split
  · refine ⟨nodup_dput h.nd, fun p m => ?_, fun p m => ?_⟩
    · rcases mem_dput m with rfl | ⟨m, _⟩
      · exact hc.ckey
      · exact h.ke p m
    · rcases mem_dput m with rfl | ⟨m, _⟩
      · exact hc.cv
      · exact h.va p m
  · exact h
theorem Cells.get {kvs : List (D × D)} {k d : D} (h : Cells kvs) (e : dget kvs k = some d) : CV d := by
  unfold dget at e
  cases f : kvs.find? fun p => decide (p.1 = k) with
  | none => rw [f] at e; cases e
  | some p =>
    rw [f] at e
    have : p.2 = d := by simpa using e
    rw [← this]
    exact h.va p (List.mem_of_find?_eq_some f)
theorem stepC_len {kvs : List (D × D)} {c : D} : (stepC kvs c).length ≤ kvs.length + 1 := by
  unfold stepC
  split
  · exact len_dput
  · omega
theorem cellsOf_snoc {xs : List D} {c : D} : cellsOf (xs ++ [c]) = stepC (cellsOf xs) c := by
  unfold cellsOf
  rw [List.foldl_append]; rfl
theorem foldl_cells {xs : List D} : ∀ {kvs : List (D × D)}, Cells kvs → (∀ x ∈ xs, Chg x) → Cells (xs.foldl stepC kvs) ∧ (xs.foldl stepC kvs).length ≤ kvs.length + xs.length := by
  induction xs with
  | nil => intro kvs h _; exact ⟨h, Nat.le_refl _⟩
  | cons x xs ih =>
    intro kvs h hx
    obtain ⟨a, b⟩ := ih (h.step (hx x List.mem_cons_self)) fun y m => hx y (List.mem_cons_of_mem _ m)
    refine ⟨a, Nat.le_trans b ?_⟩
    have := stepC_len (kvs := kvs) (c := x)
    rw [List.length_cons]
    omega
theorem cellsOf_ok {xs : List D} (h : ∀ x ∈ xs, Chg x) : Cells (cellsOf xs) ∧ (cellsOf xs).length ≤ xs.length := by
  have := foldl_cells (xs := xs) Cells.nil h
  simpa [cellsOf] using this
theorem okD_stp {x y : D} (hx : Stp x) (hy : Stp y) : okD 4 x y = true := by
  obtain ⟨i, j, rfl⟩ := hx
  obtain ⟨k, l, rfl⟩ := hy
  show ((decide _ || true) && ((decide _ || true) && true)) = true
  simp
def sp__law_cells : DSp := fun ds A R _ => ∃ r xs, ds = [.ref r] ∧ A r = some (.lst xs) ∧ (∀ x ∈ xs, Chg x) ∧ xs.length ≤ 1000 ∧ ∀ (p : Addr) (A' : AH), Sm [] A A' → A p = none → A' p = some (.dic (cellsOf xs)) → R (.ref p) A'
def sp_is_later : DSp := fun ds A R _ => ∃ x y, ds = [x, y] ∧ Stp x ∧ ((y = .non ∧ R (.bl true) A) ∨ (Stp y ∧ R (.bl (ltD 4 y x)) A))
/-- a state at s, its dict at d -/
def St (A : AH) (C s d : Addr) (kvs : List (D × D)) : Prop := A s = some (.ins C [("cells", .ref d)]) ∧ A d = some (.dic kvs)
def sp_State___init__ (C : Addr) : DSp := fun ds A R _ => ∃ s, ds = [.ref s] ∧ A s = some (.ins C []) ∧ ∀ d A', d ≠ s → A d = none → Sm [s] A A' → St A' C s d [] → R .non A'
def sp_State_take (C : Addr) : DSp := fun ds A R _ => ∃ s d kvs c, ds = [.ref s, c] ∧ St A C s d kvs ∧ Cells kvs ∧ kvs.length ≤ 1000 ∧ Chg c ∧ ∀ A', Sm [d] A A' → St A' C s d (stepC kvs c) → R (.bl (told kvs c)) A'
def sp_is_equal (C : Addr) : DSp := fun ds A R _ => ∃ s d kvs s' d' kvs', ds = [.ref s, .ref s'] ∧ St A C s d kvs ∧ St A C s' d' kvs' ∧ Cells kvs ∧ Cells kvs' ∧ R (.bl (dEqB kvs kvs')) A
def sp_State_value (C : Addr) : DSp := fun ds A R _ => ∃ s d kvs n f, ds = [.ref s, n, f] ∧ St A C s d kvs ∧ Cells kvs ∧ Nam n ∧ Fld f ∧ R (match dget kvs (.tup [n, f]) with | some o => c1 o | none => .non) A
def sp_State_stamp (C : Addr) : DSp := fun ds A R _ => ∃ s d kvs n f, ds = [.ref s, n, f] ∧ St A C s d kvs ∧ Cells kvs ∧ Nam n ∧ Fld f ∧ R (match dget kvs (.tup [n, f]) with | some o => c0 o | none => .non) A
/-- _law_cells: 0 _law_changes, 1 _law_cells_here, 2 _law_change, 3 _law_key -/
def t__law_cells : DTS := dSeq (dAsg (dDNew) (dName 1)) (
  dSeq (dFor (diL (dV 0)) (dName 2) (dSeq (dAsg (dTup (dCons (dOp mIx (dV 2) (dC (.int 1))) (dCons (dOp mIx (dV 2) (dC (.int 2))) (dNil)))) (dName 3)) (
  dIf (dOrT (dB (dOp (mIn true) (dV 3) (dV 1))) (dB (dOp (mLt .Gt) (dOp mIx (dV 2) (dC (.int 0))) (dOp mIx (dOp mIx (dV 1) (dV 3)) (dC (.int 0)))))) (dAsg (dTup (dCons (dOp mIx (dV 2) (dC (.int 0))) (dCons (dOp mIx (dV 2) (dC (.int 3))) (dNil)))) (dgSub mSt (dV 1) (dV 3))) (dNext)))) (
  dRet (dV 1)))
/-- is_later: 0 stamp, 1 other -/
def t_is_later : DTS := dRet (dOr (dOp fIs (dV 1) (dC .non)) (dOp (mLt .Gt) (dV 0) (dV 1)))
/-- State.__init__: 0 self -/
def t_State___init__ (C_State : Addr) : DTS := sFld C_State "cells" (dV 0) (dDNew)
/-- State.take: 0 self, 1 change, 2 stamp, 3 name, 4 field, 5 value, 6 old -/
def t_State_take (C_State : Addr) : DTS := dSeq (dAsg (dV 1) (dgTup (dgCons (dName 2) (dgCons (dName 3) (dgCons (dName 4) (dgCons (dName 5) (dgNil))))))) (
  dSeq (dAsg (dBm isDc fDGetM (dFld C_State "cells" (dV 0)) (dCons (dTup (dCons (dV 3) (dCons (dV 4) (dNil)))) (dNil))) (dName 6)) (
  dSeq (dIf (dAndT (dB (dOp fNot (dV 6) (dC .non))) (dNotT (dTru (dCal sp_is_later (dCons (dV 2) (dCons (dOp mIx (dV 6) (dC (.int 0))) (dNil))))))) (dRet (dC (.bl false))) (dNext)) (
  dSeq (dAsg (dTup (dCons (dV 2) (dCons (dV 5) (dNil)))) (dgSub mSt (dFld C_State "cells" (dV 0)) (dTup (dCons (dV 3) (dCons (dV 4) (dNil)))))) (
  dRet (dC (.bl true))))))
/-- State.value: 0 self, 1 name, 2 field, 3 cell -/
def t_State_value (C_State : Addr) : DTS := dSeq (dAsg (dBm isDc fDGetM (dFld C_State "cells" (dV 0)) (dCons (dTup (dCons (dV 1) (dCons (dV 2) (dNil)))) (dNil))) (dName 3)) (
  dSeq (dIf (dB (dOp fIs (dV 3) (dC .non))) (dRet (dC .non)) (dNext)) (
  dRet (dOp mIx (dV 3) (dC (.int 1)))))
theorem q__law_cells : ∀ ds A R E, ds.length = 1 → sp__law_cells ds A R E → t__law_cells { nx := fun _ A' => R .non A', rt := R } (ds.map some ++ List.replicate (4 - ds.length) none) A := by
  rintro ds A R E - ⟨r, xs, rfl, hr, hc, hl, hR⟩
  show t__law_cells _ [some (.ref r), none, none, none] A
  dsimp only [t__law_cells, dSeq, dIf, dAsg, dName, dRet, dRetN, dDrop, dNext, dB, dTru, dOp, dUn, dCall, dCons, dNil, dC, dV, dTup, dLst, dCal, dMet, dMak, dFld, DL.sFld, dBm, dgSub, dgTup, dgCons, dgNil, dAndT, dOrT, dNotT, dOr, dAnd, dNotE, dIsi, dSl, dNoP, dPart, dDNew, dNever, fInt, fMod, fAdd_int, fSub, fMul, fDiv, fPow, fI2, fI2C, fNeg, mLt, List.getElem?_cons_succ, List.getElem?_cons_zero, List.set_cons_zero, List.set_cons_succ]
  intro p hp
  refine for_l (up_at hr hp) (fun i σ A' => ∃ x2 x3, σ = [some (.ref r), some (.ref p), x2, x3] ∧ Sm [] A A' ∧ A' p = some (.dic (cellsOf (xs.take i))))
    ⟨none, none, rfl, Sm.new hp, up_same⟩ (fun i σ A' _ ⟨_, _, _, s, _⟩ => s r _ (by simp) hr) ?_ ?_ (fun _ q => q)
  · rintro i x σ A1 hx ⟨x2, x3, rfl, s1, e1⟩
    have lt := (List.getElem?_eq_some_iff.mp hx).1
    have tk : xs.take (i + 1) = xs.take i ++ [x] := by rw [List.take_succ, hx]; rfl
    have cx := hc x (List.mem_of_getElem? hx)
    obtain ⟨CK, CL⟩ := cellsOf_ok (xs := xs.take i) fun y my => hc y (List.mem_of_mem_take my)
    obtain ⟨s, n, f, v, rfl, hs, hn, hf, hv⟩ := id cx
    obtain ⟨k1, k2⟩ := cx.ckey
    have ok := CK.ok k1 k2
    have st : cellsOf (xs.take (i + 1)) = stepC (cellsOf (xs.take i)) (.tup [s, n, f, v]) := by rw [tk, cellsOf_snoc]
    have hlen : (cellsOf (xs.take i)).length ≤ 1000 := by
      rw [List.length_take] at CL
      omega
    dsimp only [dSeq, dIf, dAsg, dName, dRet, dRetN, dDrop, dNext, dB, dTru, dOp, dUn, dCall, dCons, dNil, dC, dV, dTup, dLst, dCal, dMet, dMak, dFld, DL.sFld, dBm, dgSub, dgTup, dgCons, dgNil, dAndT, dOrT, dNotT, dOr, dAnd, dNotE, dIsi, dSl, dNoP, dPart, dDNew, dNever, fInt, fMod, fAdd_int, fSub, fMul, fDiv, fPow, fI2, fI2C, fNeg, mLt, List.getElem?_cons_succ, List.getElem?_cons_zero, List.set_cons_zero, List.set_cons_succ]
    refine mIx_tup (d := n) rfl (mIx_tup (d := f) rfl ?_)
    refine mIn_dic (dic_d e1) ok ?_
    have put : told (cellsOf (xs.take i)) (.tup [s, n, f, v]) = true → ∀ K : AH → Prop, (∀ A', Sm [] A A' → A' p = some (.dic (cellsOf (xs.take (i + 1)))) → K A') →
        mIx (.tup [s, n, f, v]) (.int 0) A1 fun y A2 => mIx (.tup [s, n, f, v]) (.int 3) A2 fun z A3 => mSt (.ref p) (.tup [n, f]) (.tup [y, z]) A3 K := fun ht K hK => by
      refine mIx_tup (d := s) rfl (mIx_tup (d := v) rfl ?_)
      refine mSt_dic e1 ok (by show _ < 16777216; omega) (hK _ (s1.own hp) ?_)
      rw [up_same, st]
      unfold stepC
      rw [if_pos ht]; rfl
    have skip : told (cellsOf (xs.take i)) (.tup [s, n, f, v]) = false → A1 p = some (.dic (cellsOf (xs.take (i + 1)))) := fun ht => by
      rw [e1, st]
      unfold stepC
      rw [if_neg (by rw [ht]; simp)]
    cases hg : dget (cellsOf (xs.take i)) (.tup [n, f]) with
    | none =>
      have ht : told (cellsOf (xs.take i)) (.tup [s, n, f, v]) = true := by
        unfold told
        rw [show ckey (.tup [s, n, f, v]) = .tup [n, f] from rfl, hg]
      exact put ht _ fun A' s e => ⟨_, _, rfl, s, e⟩
    | some o =>
      obtain ⟨so, vo, rfl, hso, hvo⟩ := CK.get hg
      have ht : told (cellsOf (xs.take i)) (.tup [s, n, f, v]) = ltD 4 so s := by
        unfold told
        rw [show ckey (.tup [s, n, f, v]) = .tup [n, f] from rfl, hg]; rfl
      refine ifF ?_
      refine mIx_tup (d := s) rfl ?_
      show mIx (.ref p) (.tup [n, f]) A1 _
      refine mIx_dic (dic_d e1) ok hg (mIx_tup (d := so) rfl ?_)
      obtain ⟨i1, i2, rfl⟩ := id hso
      obtain ⟨j1, j2, rfl⟩ := id hs
      refine ⟨rfl, rfl, okD_stp hs hso, ?_⟩
      show (if ltD 4 (.tup [.int i1, .int i2]) (.tup [.int j1, .int j2]) = true then _ else _)
      rw [← ht]
      split
      · rename_i h; exact put h _ fun A' s e => ⟨_, _, rfl, s, e⟩
      · rename_i h; exact ⟨_, _, rfl, s1, skip (by simpa using h)⟩
  · rintro σ A1 ⟨x2, x3, rfl, s1, e1⟩
    rw [List.take_length] at e1
    exact hR p A1 s1 hp e1
theorem q_is_later : ∀ ds A R E, ds.length = 2 → sp_is_later ds A R E → t_is_later { nx := fun _ A' => R .non A', rt := R } (ds.map some ++ List.replicate (2 - ds.length) none) A := by
  rintro ds A R E - ⟨x, y, rfl, hx, h⟩
  show t_is_later _ [some x, some y] A
  dsimp only [t_is_later, dSeq, dIf, dAsg, dName, dRet, dRetN, dDrop, dNext, dB, dTru, dOp, dUn, dCall, dCons, dNil, dC, dV, dTup, dLst, dCal, dMet, dMak, dFld, DL.sFld, dBm, dgSub, dgTup, dgCons, dgNil, dAndT, dOrT, dNotT, dOr, dAnd, dNotE, dIsi, dSl, dNoP, dPart, dDNew, dNever, fInt, fMod, fAdd_int, fSub, fMul, fDiv, fPow, fI2, fI2C, fNeg, mLt, List.getElem?_cons_succ, List.getElem?_cons_zero, List.set_cons_zero, List.set_cons_succ]
  rcases h with ⟨rfl, h⟩ | ⟨hy, h⟩
  · exact h
  · obtain ⟨i, j, rfl⟩ := id hy
    obtain ⟨k, l, rfl⟩ := id hx
    exact ⟨rfl, rfl, okD_stp hx hy, h⟩
theorem q_State___init__ {C_State : Addr} : ∀ ds A R E, ds.length = 1 → (sp_State___init__ C_State) ds A R E → t_State___init__ C_State { nx := fun _ A' => R .non A', rt := R } (ds.map some ++ List.replicate (1 - ds.length) none) A := by
  rintro ds A R E - ⟨s, rfl, hs, hR⟩
  show t_State___init__ C_State _ [some (.ref s)] A
  dsimp only [t_State___init__, dSeq, dIf, dAsg, dName, dRet, dRetN, dDrop, dNext, dB, dTru, dOp, dUn, dCall, dCons, dNil, dC, dV, dTup, dLst, dCal, dMet, dMak, dFld, DL.sFld, dBm, dgSub, dgTup, dgCons, dgNil, dAndT, dOrT, dNotT, dOr, dAnd, dNotE, dIsi, dSl, dNoP, dPart, dDNew, dNever, fInt, fMod, fAdd_int, fSub, fMul, fDiv, fPow, fI2, fI2C, fNeg, mLt, List.getElem?_cons_succ, List.getElem?_cons_zero, List.set_cons_zero, List.set_cons_succ]
  intro p hp
  have ps : s ≠ p := ne_nn hs hp
  rw [up_at hs hp]
  refine ⟨rfl, by decide, hR p _ ps.symm hp ((Sm.new hp).trans (Sm.put (by simp))) ⟨up_same, by rw [up_ne ps.symm, up_same]⟩⟩
theorem q_State_take {C_State : Addr} : ∀ ds A R E, ds.length = 2 → (sp_State_take C_State) ds A R E → t_State_take C_State { nx := fun _ A' => R .non A', rt := R } (ds.map some ++ List.replicate (7 - ds.length) none) A := by
  rintro ds A R E - ⟨s, d, kvs, c, rfl, ⟨h1, h2⟩, CK, hl, hc, hR⟩
  show t_State_take C_State _ [some (.ref s), some c, none, none, none, none, none] A
  obtain ⟨k1, k2⟩ := hc.ckey
  have ok := CK.ok k1 k2
  have sd : s ≠ d := ne_oo h1 h2 (fun z => nomatch z)
  obtain ⟨st, n, f, v, rfl, hs, hn, hf, hv⟩ := id hc
  dsimp only [t_State_take, dSeq, dIf, dAsg, dName, dRet, dRetN, dDrop, dNext, dB, dTru, dOp, dUn, dCall, dCons, dNil, dC, dV, dTup, dLst, dCal, dMet, dMak, dFld, DL.sFld, dBm, dgSub, dgTup, dgCons, dgNil, dAndT, dOrT, dNotT, dOr, dAnd, dNotE, dIsi, dSl, dNoP, dPart, dDNew, dNever, fInt, fMod, fAdd_int, fSub, fMul, fDiv, fPow, fI2, fI2C, fNeg, mLt, List.getElem?_cons_succ, List.getElem?_cons_zero, List.set_cons_zero, List.set_cons_succ]
  rw [h1]
  refine ⟨rfl, rfl, ?_⟩
  show isDc (.ref d) A ∧ fDGetM (.ref d) [.tup [n, f]] A _
  refine ⟨⟨kvs, dic_d h2⟩, fDGetM_dic (dic_d h2) ok ?_⟩
  have put : told kvs (.tup [st, n, f, v]) = true → (match A s with
    | some (.ins C' fs) => C' = C_State ∧ match getS "cells" fs with
      | some d => mSt d (.tup [n, f]) (.tup [st, v]) A fun A' => R (.bl true) A'
      | none => False
    | _ => False) := fun ht => by
    rw [h1]
    refine ⟨rfl, ?_⟩
    show mSt (.ref d) (.tup [n, f]) (.tup [st, v]) A _
    refine mSt_dic h2 ok (by show _ < 16777216; omega) ?_
    rw [← ht]
    refine hR _ (Sm.put (by simp)) ⟨by rw [up_ne sd]; exact h1, ?_⟩
    rw [up_same]
    unfold stepC
    rw [if_pos ht]; rfl
  cases hg : dget kvs (.tup [n, f]) with
  | none =>
    have ht : told kvs (.tup [st, n, f, v]) = true := by
      unfold told
      rw [show ckey (.tup [st, n, f, v]) = .tup [n, f] from rfl, hg]
    exact put ht
  | some o =>
    obtain ⟨so, vo, rfl, hso, hvo⟩ := CK.get hg
    have ht : told kvs (.tup [st, n, f, v]) = ltD 4 so st := by
      unfold told
      rw [show ckey (.tup [st, n, f, v]) = .tup [n, f] from rfl, hg]; rfl
    rw [fNot_non]
    show (if (true : Bool) = true then mIx (.tup [so, vo]) (.int 0) A _ else _)
    rw [if_pos rfl]
    refine mIx_tup (d := so) rfl ⟨st, so, rfl, hs, .inr ⟨hso, ?_⟩⟩
    rw [← ht]
    show (if (!told kvs (.tup [st, n, f, v])) = true then _ else _)
    split
    · rename_i h
      have h : told kvs (.tup [st, n, f, v]) = false := by simpa using h
      have := hR A Sm.refl ⟨h1, by rw [h2]; unfold stepC; rw [if_neg (by rw [h]; simp)]⟩
      rw [h] at this
      exact this
    · rename_i h
      exact put (by simpa using h)
theorem q_State_value {C_State : Addr} : ∀ ds A R E, ds.length = 3 → (sp_State_value C_State) ds A R E → t_State_value C_State { nx := fun _ A' => R .non A', rt := R } (ds.map some ++ List.replicate (4 - ds.length) none) A := by
  rintro ds A R E - ⟨s, d, kvs, n, f, rfl, ⟨h1, h2⟩, CK, hn, hf, hR⟩
  show t_State_value C_State _ [some (.ref s), some n, some f, none] A
  have kk : isKey (.tup [n, f]) = true := by obtain ⟨i, j, rfl⟩ := hn; obtain ⟨l, rfl⟩ := hf; rfl
  dsimp only [t_State_value, dSeq, dIf, dAsg, dName, dRet, dRetN, dDrop, dNext, dB, dTru, dOp, dUn, dCall, dCons, dNil, dC, dV, dTup, dLst, dCal, dMet, dMak, dFld, DL.sFld, dBm, dgSub, dgTup, dgCons, dgNil, dAndT, dOrT, dNotT, dOr, dAnd, dNotE, dIsi, dSl, dNoP, dPart, dDNew, dNever, fInt, fMod, fAdd_int, fSub, fMul, fDiv, fPow, fI2, fI2C, fNeg, mLt, List.getElem?_cons_succ, List.getElem?_cons_zero, List.set_cons_zero, List.set_cons_succ]
  rw [h1]
  refine ⟨rfl, ?_⟩
  show isDc (.ref d) A ∧ fDGetM (.ref d) [.tup [n, f]] A _
  refine ⟨⟨kvs, dic_d h2⟩, fDGetM_dic (dic_d h2) (CK.ok kk rfl) ?_⟩
  cases hg : dget kvs (.tup [n, f]) with
  | none => rw [hg] at hR; exact hR
  | some o =>
    rw [hg] at hR
    obtain ⟨so, vo, rfl, hso, hvo⟩ := CK.get hg
    show mIx (.tup [so, vo]) (.int 1) A R
    exact mIx_tup (d := vo) rfl hR
/-! ### what cells come to -/
def cval (c : D) : D := .tup [c0 c, c3 c]
theorem Chg.stp {c : D} (h : Chg c) : Stp (c0 c) := by obtain ⟨s, n, f, v, rfl, hs, _⟩ := h; exact hs
/-- c is the latest with its key -/
def Top (l : List D) (k c : D) : Prop := c ∈ l ∧ ckey c = k ∧ ∀ c' ∈ l, ckey c' = k → ltD 4 (c0 c) (c0 c') = false
theorem stepC_get {kvs : List (D × D)} {c k : D} : dget (stepC kvs c) k = if k = ckey c ∧ told kvs c = true then some (cval c) else dget kvs k := by
  unfold stepC
  by_cases t : told kvs c = true
  · rw [if_pos t, dget_dput]
    by_cases e : k = ckey c
    · rw [if_pos e, if_pos ⟨e, t⟩]; rfl
    · rw [if_neg e, if_neg fun z => e z.1]
  · rw [if_neg t, if_neg fun z => t z.2]
theorem cells_top {k : D} : ∀ (n : Nat) (l : List D), l.length = n → (∀ c ∈ l, Chg c) → (dget (cellsOf l) k = none ∧ ∀ c ∈ l, ckey c ≠ k) ∨ ∃ c, Top l k c ∧ dget (cellsOf l) k = some (cval c) := by
  intro n
  induction n with
  | zero =>
    intro l hl _
    have : l = [] := List.eq_nil_of_length_eq_zero hl
    subst this
    exact .inl ⟨rfl, fun _ z => nomatch z⟩
  | succ n ih =>
    intro l hl hc
    obtain ⟨l, c, rfl⟩ : ∃ l' c, l = l' ++ [c] := by
      have : l ≠ [] := fun e => by rw [e] at hl; cases hl
      exact ⟨l.dropLast, l.getLast this, (List.dropLast_concat_getLast this).symm⟩
    have hcl : ∀ c ∈ l, Chg c := fun y m => hc y (List.mem_append_left _ m)
    have hcc : Chg c := hc c (by simp)
    have O := swo_rk 4
    rw [cellsOf_snoc, stepC_get]
    rcases ih l (by simpa using hl) hcl with ⟨h1, h2⟩ | ⟨m, ⟨m1, m2, m3⟩, h2⟩
    · by_cases e : k = ckey c
      · have ht : told (cellsOf l) c = true := by unfold told; rw [← e, h1]
        rw [if_pos ⟨e, ht⟩]
        refine .inr ⟨c, ⟨by simp, e.symm, fun c' mc ek => ?_⟩, rfl⟩
        rcases List.mem_append.mp mc with mc | mc
        · exact absurd ek (h2 c' mc)
        · rw [List.mem_singleton.mp mc]; exact O.refl _
      · rw [if_neg fun z => e z.1]
        refine .inl ⟨h1, fun c' mc => ?_⟩
        rcases List.mem_append.mp mc with mc | mc
        · exact h2 c' mc
        · rw [List.mem_singleton.mp mc]; exact fun z => e z.symm
    · by_cases e : k = ckey c
      · have ht : told (cellsOf l) c = ltD 4 (c0 m) (c0 c) := by unfold told; rw [← e, h2]; rfl
        cases hlt : ltD 4 (c0 m) (c0 c) with
        | true =>
          rw [if_pos ⟨e, by rw [ht, hlt]⟩]
          refine .inr ⟨c, ⟨by simp, e.symm, fun c' mc ek => ?_⟩, rfl⟩
          rcases List.mem_append.mp mc with mc | mc
          · exact O.tr _ _ _ (m3 c' mc ek) (O.asym _ _ hlt)
          · rw [List.mem_singleton.mp mc]; exact O.refl _
        | false =>
          rw [if_neg fun z => by rw [ht, hlt] at z; exact nomatch z.2]
          refine .inr ⟨m, ⟨List.mem_append_left _ m1, m2, fun c' mc ek => ?_⟩, h2⟩
          rcases List.mem_append.mp mc with mc | mc
          · exact m3 c' mc ek
          · rw [List.mem_singleton.mp mc]; exact hlt
      · rw [if_neg fun z => e z.1]
        refine .inr ⟨m, ⟨List.mem_append_left _ m1, m2, fun c' mc ek => ?_⟩, h2⟩
        rcases List.mem_append.mp mc with mc | mc
        · exact m3 c' mc ek
        · rw [List.mem_singleton.mp mc] at ek; exact absurd ek.symm e
/-- the order and the repeats do not matter -/
theorem cells_same {xs ys : List D} (hx : ∀ c ∈ xs, Chg c) (inj : ∀ c ∈ xs, ∀ c' ∈ xs, c0 c = c0 c' → c = c') (h : ∀ c, c ∈ ys ↔ c ∈ xs) (k : D) : dget (cellsOf ys) k = dget (cellsOf xs) k := by
  have hy : ∀ c ∈ ys, Chg c := fun c m => hx c ((h c).mp m)
  rcases cells_top (k := k) _ ys rfl hy with ⟨a1, a2⟩ | ⟨c, ⟨a1, a2, a3⟩, a4⟩
  · rcases cells_top (k := k) _ xs rfl hx with ⟨b1, b2⟩ | ⟨c', ⟨b1, b2, b3⟩, b4⟩
    · rw [a1, b1]
    · exact absurd b2 (a2 c' ((h c').mpr b1))
  · rcases cells_top (k := k) _ xs rfl hx with ⟨b1, b2⟩ | ⟨c', ⟨b1, b2, b3⟩, b4⟩
    · exact absurd a2 (b2 c ((h c).mp a1))
    · have e : c0 c = c0 c' := tri 4 _ _ (hy c a1).stp.key.1 (hx c' b1).stp.key.1 (a3 c' ((h c').mpr b1) b2) (b3 c ((h c).mp a1) a2)
      rw [a4, b4, inj c ((h c).mp a1) c' b1 e]
theorem step_eq {kvs : List (D × D)} {c : D} (h : Cells kvs) : dEqB (stepC kvs c) kvs = !told kvs c := by
  cases ht : told kvs c with
  | false =>
    unfold stepC
    rw [if_neg (by rw [ht]; simp)]
    exact dEqB_refl h.nd
  | true =>
    unfold stepC
    rw [if_pos ht]
    refine dEqB_put fun e => ?_
    unfold told at ht
    rw [e] at ht
    have : ltD 4 (c0 c) (c0 c) = true := ht
    rw [(swo_rk 4).refl] at this
    cases this
theorem nd_inj {xs : List D} (nd : (xs.map c0).Nodup) : ∀ c ∈ xs, ∀ c' ∈ xs, c0 c = c0 c' → c = c' := by
  induction xs with
  | nil => intro c m; cases m
  | cons x xs ih =>
    rw [List.map_cons, List.nodup_cons] at nd
    intro c m c' m' e
    rcases List.mem_cons.mp m with h1 | h1
    · rcases List.mem_cons.mp m' with h2 | h2
      · rw [h1, h2]
      · exact absurd (List.mem_map.mpr ⟨c', h2, by rw [← e, h1]⟩) nd.1
    · rcases List.mem_cons.mp m' with h2 | h2
      · exact absurd (List.mem_map.mpr ⟨c, h1, by rw [e, h2]⟩) nd.1
      · exact ih nd.2 c h1 c' h2 e
theorem St.keep {A A' : AH} {C s d : Addr} {kvs : List (D × D)} {W : List Addr} (h : St A C s d kvs) (k : Sm W A A') (h1 : s ∉ W) (h2 : d ∉ W) : St A' C s d kvs := ⟨k _ _ h1 h.1, k _ _ h2 h.2⟩
theorem mEq_bl {a b neg : Bool} {A : AH} {Q : DQ} (q : Q (.bl (neg ^^ (a == b))) A) : mEq neg (.bl a) (.bl b) A Q := q
end LawP
set_option Elab.async false
set_option linter.all false
set_option maxRecDepth 100000
set_option maxHeartbeats 1000000
namespace LawP
open PySem L2 DL
/-! ### values, paths -/
def ns4 : List D := [.tup [.int 0, .int 0], .tup [.int 0, .int 1], .tup [.int 1, .int 0], .tup [.int 2, .int 0]]
def w18 : List D := [.non, .int (-4), .int (-3), .int (-2), .int (-1), .int 0, .int 1, .int 2, .int 3, .int 4, .str [], .str [97], .str [122, 98], .str [115, 101, 97]] ++ ns4.map fun n => .tup [.str [114, 101, 102], n]
def fl4 : List D := [.str [110, 101, 120, 116], .str [97], .str [98], .str [122]]
def root : D := .tup [.str [114, 101, 102], .tup [.int 0, .int 0]]
theorem root_w : root ∈ w18 := by decide
def targ : D → D
  | .tup [_, n] => n
  | _ => .non
def gv (kvs : List (D × D)) (n f : D) : D := match dget kvs (.tup [n, f]) with
  | some o => c1 o
  | none => .non
def fol (kvs : List (D × D)) : D → List D → List D
  | _, [] => []
  | v, f :: fs => if targ v = .non then [] else gv kvs (targ v) f :: fol kvs (gv kvs (targ v) f) fs
def asks (kvs : List (D × D)) : D → List D → List D
  | _, [] => []
  | v, f :: fs => if targ v = .non then [] else .tup [targ v, f] :: asks kvs (gv kvs (targ v) f) fs
def vat (kvs : List (D × D)) : D → List D → D
  | v, [] => v
  | v, f :: fs => if targ v = .non then .non else vat kvs (gv kvs (targ v) f) fs
def uniq (l : List D) : List D := l.foldl (fun acc x => if x ∈ acc then acc else acc ++ [x]) []
def Pth (fs : List D) : Prop := fs.length ≤ 4 ∧ ∀ f ∈ fs, f ∈ fl4
/-- cells with such values -/
def Kv (kvs : List (D × D)) : Prop := Cells kvs ∧ ∀ p ∈ kvs, c1 p.2 ∈ w18
def Chm (c : D) : Prop := Chg c ∧ c3 c ∈ w18
theorem Kv.step {kvs : List (D × D)} {c : D} (h : Kv kvs) (hc : Chm c) : Kv (stepC kvs c) := by
  refine ⟨h.1.step hc.1, fun p m => ?_⟩
  unfold stepC at m
  split at m
  · rcases mem_dput m with rfl | ⟨m, _⟩
    · exact hc.2
    · exact h.2 p m
  · exact h.2 p m
theorem Kv.of {xs : List D} (h : ∀ c ∈ xs, Chm c) : Kv (cellsOf xs) := by
  have : ∀ (xs : List D) (kvs : List (D × D)), Kv kvs → (∀ c ∈ xs, Chm c) → Kv (xs.foldl stepC kvs) := by
    intro xs
    induction xs with
    | nil => intro kvs h _; exact h
    | cons x xs ih => intro kvs h hx; exact ih _ (h.step (hx x List.mem_cons_self)) fun c m => hx c (List.mem_cons_of_mem _ m)
  exact this xs [] ⟨Cells.nil, fun _ m => nomatch m⟩ h
theorem Kv.gv {kvs : List (D × D)} {n f : D} (h : Kv kvs) : gv kvs n f ∈ w18 := by
  unfold LawP.gv
  cases e : dget kvs (.tup [n, f]) with
  | none => decide
  | some o => exact h.2 _ (dget_mem2 e)
theorem targ_nam : ∀ v ∈ w18, targ v = .non ∨ (targ v ∈ ns4 ∧ v = .tup [.str [114, 101, 102], targ v]) := by decide
theorem ns4_nam : ∀ n ∈ ns4, Nam n := by
  intro n m
  simp only [ns4, List.mem_cons, List.not_mem_nil, or_false] at m
  rcases m with rfl | rfl | rfl | rfl <;> exact ⟨_, _, rfl⟩
theorem targ_cases {v : D} (h : v ∈ w18) : (∃ r n, v = .tup [r, n] ∧ targ v = n ∧ Nam n) ∨ ((v = .non ∨ (∃ i, v = .int i) ∨ ∃ l, v = .str l) ∧ targ v = .non) := by
  rcases targ_nam v h with e | ⟨m, e⟩
  · refine .inr ⟨?_, e⟩
    simp only [w18, ns4, List.map_cons, List.map_nil, List.cons_append, List.nil_append, List.mem_cons, List.not_mem_nil, or_false] at h
    rcases h with rfl | rfl | rfl | rfl | rfl | rfl | rfl | rfl | rfl | rfl | rfl | rfl | rfl | rfl | rfl | rfl | rfl | rfl
    · exact .inl rfl
    all_goals first
      | exact .inr (.inl ⟨_, rfl⟩)
      | exact .inr (.inr ⟨_, rfl⟩)
      | exact absurd e (by decide)
  · exact .inl ⟨_, _, e, rfl, ns4_nam _ m⟩
theorem fl4_fld {f : D} (h : f ∈ fl4) : Fld f := by
  simp only [fl4, List.mem_cons, List.not_mem_nil, or_false] at h
  rcases h with rfl | rfl | rfl | rfl <;> exact ⟨_, rfl⟩
theorem Pth.fld {fs : List D} (h : Pth fs) {f : D} (m : f ∈ fs) : Fld f := fl4_fld (h.2 f m)
/-! ### the walk, a field at a time -/
structure Wk (kvs : List (D × D)) (fs : List D) (i : Nat) (vs : List D) (v : D) (as : List D) : Prop where
  len : vs.length = i
  al : as.length = i
  f : root :: fol kvs root fs = vs ++ v :: fol kvs v (fs.drop i)
  a : asks kvs root fs = as ++ asks kvs v (fs.drop i)
  t : vat kvs root fs = vat kvs v (fs.drop i)
  w : v ∈ w18
section
variable {kvs : List (D × D)} {fs vs as : List D} {v f : D} {i : Nat}
theorem Wk.zero : Wk kvs fs 0 [] root [] := ⟨rfl, rfl, by rw [List.drop_zero]; rfl, by rw [List.drop_zero]; rfl, by rw [List.drop_zero], root_w⟩
theorem drop_get (h : fs[i]? = some f) : fs.drop i = f :: fs.drop (i + 1) := by
  obtain ⟨lt, e⟩ := List.getElem?_eq_some_iff.mp h
  rw [List.drop_eq_getElem_cons lt, e]
theorem Wk.step (h : Wk kvs fs i vs v as) (hf : fs[i]? = some f) (n : targ v ≠ .non) (k : Kv kvs) : Wk kvs fs (i + 1) (vs ++ [v]) (gv kvs (targ v) f) (as ++ [.tup [targ v, f]]) := by
  have d := drop_get hf
  refine ⟨by rw [List.length_append, List.length_singleton, h.len], by rw [List.length_append, List.length_singleton, h.al], ?_, ?_, ?_, k.gv⟩
  · rw [h.f, d, fol, if_neg n, List.append_assoc]; rfl
  · rw [h.a, d, asks, if_neg n, List.append_assoc]; rfl
  · rw [h.t, d, vat, if_neg n]
theorem Wk.stop (h : Wk kvs fs i vs v as) (hf : fs[i]? = some f) (n : targ v = .non) : root :: fol kvs root fs = vs ++ [v] ∧ asks kvs root fs = as ∧ vat kvs root fs = .non := by
  have d := drop_get hf
  refine ⟨?_, ?_, ?_⟩
  · rw [h.f, d, fol, if_pos n]
  · rw [h.a, d, asks, if_pos n, List.append_nil]
  · rw [h.t, d, vat, if_pos n]
theorem Wk.fin (h : Wk kvs fs fs.length vs v as) : root :: fol kvs root fs = vs ++ [v] ∧ asks kvs root fs = as ∧ vat kvs root fs = v := by
  have d : fs.drop fs.length = [] := List.drop_length
  refine ⟨?_, ?_, ?_⟩
  · rw [h.f, d, fol]
  · rw [h.a, d, asks, List.append_nil]
  · rw [h.t, d, vat]
theorem fol_w (k : Kv kvs) : ∀ {fs : List D} {v : D}, ∀ x ∈ fol kvs v fs, x ∈ w18
  | [], _, x, m => nomatch m
  | f :: fs, v, x, m => by
    unfold fol at m
    split at m
    · cases m
    · rcases List.mem_cons.mp m with rfl | m
      · exact k.gv
      · exact fol_w k x m
theorem fol_len : ∀ {fs : List D} {v : D}, (fol kvs v fs).length ≤ fs.length
  | [], _ => Nat.le_refl _
  | f :: fs, v => by
    unfold fol
    split
    · exact Nat.zero_le _
    · rw [List.length_cons, List.length_cons]; have := fol_len (fs := fs) (v := gv kvs (targ v) f); omega
theorem vat_w (k : Kv kvs) : ∀ {fs : List D} {v : D}, v ∈ w18 → vat kvs v fs ∈ w18
  | [], _, h => h
  | f :: fs, v, h => by
    unfold vat
    split
    · decide
    · exact vat_w k k.gv
/-- keys -/
theorem asks_k : ∀ {fs : List D} {v : D}, Kv kvs → v ∈ w18 → (∀ f ∈ fs, f ∈ fl4) → ∀ x ∈ asks kvs v fs, ∃ n ∈ ns4, ∃ f ∈ fl4, x = .tup [n, f]
  | [], _, _, _, _, x, m => nomatch m
  | f :: fs, v, k, hv, hf, x, m => by
    unfold asks at m
    split at m
    · cases m
    · rename_i n
      rcases List.mem_cons.mp m with rfl | m
      · rcases targ_nam v hv with e | ⟨m, _⟩
        · exact absurd e n
        · exact ⟨_, m, f, hf f List.mem_cons_self, rfl⟩
      · exact asks_k k k.gv (fun g mg => hf g (List.mem_cons_of_mem _ mg)) x m
theorem asks_len : ∀ {fs : List D} {v : D}, (asks kvs v fs).length ≤ fs.length
  | [], _ => Nat.le_refl _
  | f :: fs, v => by
    unfold asks
    split
    · exact Nat.zero_le _
    · rw [List.length_cons, List.length_cons]; have := asks_len (fs := fs) (v := gv kvs (targ v) f); omega
/-- where the asked cells have the same values -/
theorem vat_same {kvs' : List (D × D)} : ∀ {fs : List D} {v : D}, (∀ n f, .tup [n, f] ∈ asks kvs v fs → gv kvs n f = gv kvs' n f) → vat kvs v fs = vat kvs' v fs
  | [], _, _ => rfl
  | f :: fs, v, h => by
    unfold vat
    unfold asks at h
    split
    · rfl
    · rename_i n
      rw [if_neg n] at h
      rw [← h (targ v) f List.mem_cons_self]
      exact vat_same fun n g m => h n g (List.mem_cons_of_mem _ m)
/-- the pieces of value_at -/
theorem vat_fol : ∀ {fs : List D} {v : D}, ((v :: fol kvs v fs).length ≤ fs.length → vat kvs v fs = .non) ∧ (fs.length < (v :: fol kvs v fs).length → (v :: fol kvs v fs).getLast (List.cons_ne_nil _ _) = vat kvs v fs)
  | [], v => ⟨fun h => by simp [fol] at h, fun _ => rfl⟩
  | f :: fs, v => by
    by_cases n : targ v = .non
    · have e1 : fol kvs v (f :: fs) = [] := by rw [fol, if_pos n]
      have e2 : vat kvs v (f :: fs) = .non := by rw [vat, if_pos n]
      refine ⟨fun _ => e2, fun h => ?_⟩
      rw [e1] at h
      simp at h
    · have e1 : fol kvs v (f :: fs) = gv kvs (targ v) f :: fol kvs (gv kvs (targ v) f) fs := by rw [fol, if_neg n]
      have e2 : vat kvs v (f :: fs) = vat kvs (gv kvs (targ v) f) fs := by rw [vat, if_neg n]
      obtain ⟨h1, h2⟩ := vat_fol (fs := fs) (v := gv kvs (targ v) f)
      rw [e2]
      refine ⟨fun h => h1 ?_, fun h => ?_⟩
      · rw [e1] at h
        simp only [List.length_cons] at h ⊢
        omega
      · have h' : fs.length < (gv kvs (targ v) f :: fol kvs (gv kvs (targ v) f) fs).length := by
          rw [e1] at h
          simp only [List.length_cons] at h ⊢
          omega
        rw [← h2 h']
        simp only [e1]
        rw [List.getLast_cons (List.cons_ne_nil _ _)]
end
/-! ### each once -/
def unqS (acc : List D) (x : D) : List D := if x ∈ acc then acc else acc ++ [x]
theorem uniq_snoc {l : List D} {x : D} : uniq (l ++ [x]) = unqS (uniq l) x := by unfold uniq; rw [List.foldl_append]; rfl
theorem unq_mem {l : List D} : ∀ {acc : List D} {x : D}, x ∈ l.foldl (fun acc x => if x ∈ acc then acc else acc ++ [x]) acc ↔ x ∈ acc ∨ x ∈ l := by
  induction l with
  | nil => intro acc x; simp
  | cons y l ih =>
    intro acc x
    rw [List.foldl_cons, ih, List.mem_cons]
    split
    · rename_i m
      constructor
      · rintro (h | h)
        · exact .inl h
        · exact .inr (.inr h)
      · rintro (h | rfl | h)
        · exact .inl h
        · exact .inl m
        · exact .inr h
    · rw [List.mem_append, List.mem_singleton, or_assoc]
theorem mem_uniq {l : List D} {x : D} : x ∈ uniq l ↔ x ∈ l := by
  unfold uniq
  rw [unq_mem]
  simp
theorem uniq_len (l : List D) : (uniq l).length ≤ l.length := by
  have : ∀ (l acc : List D), (l.foldl (fun acc x => if x ∈ acc then acc else acc ++ [x]) acc).length ≤ acc.length + l.length := by
    intro l
    induction l with
    | nil => intro acc; exact Nat.le_refl _
    | cons y l ih =>
      intro acc
      rw [List.foldl_cons, List.length_cons]
      refine Nat.le_trans (ih _) ?_
      split
      · omega
      · rw [List.length_append, List.length_singleton]; omega
  simpa [uniq] using this l []
/-! ### small trees -/
def Sml (d : D) : Prop := plB d = true ∧ (plT d).sm = true ∧ (plT d).sz ≤ 1000
def smlB (d : D) : Bool := plB d && ((plT d).sm && decide ((plT d).sz ≤ 1000))
theorem sml_of {d : D} (h : smlB d = true) : Sml d := by
  simp only [smlB, Bool.and_eq_true, decide_eq_true_eq] at h
  exact ⟨h.1, h.2.1, h.2.2⟩
theorem w18_sml : ∀ v ∈ w18, Sml v := by
  have : w18.all smlB = true := by decide
  exact fun v m => sml_of (List.all_eq_true.mp this v m)
theorem fl4_sml : ∀ v ∈ fl4, Sml v := by
  have : fl4.all smlB = true := by decide
  exact fun v m => sml_of (List.all_eq_true.mp this v m)
theorem key_sml {n f : D} (h1 : n ∈ ns4) (h2 : f ∈ fl4) : Sml (.tup [n, f]) := by
  have : (ns4.all fun n => fl4.all fun f => smlB (.tup [n, f])) = true := by decide
  exact sml_of (List.all_eq_true.mp (List.all_eq_true.mp this n h1) f h2)
theorem sml_all {xs : List D} (h : ∀ x ∈ xs, Sml x) : xs.all plB = true := List.all_eq_true.mpr fun x m => (h x m).1
theorem sml_list {xs : List D} (h : ∀ x ∈ xs, Sml x) : T.sms (plTs xs) = true ∧ T.szs (plTs xs) ≤ 1002 * xs.length := by
  induction xs with
  | nil => exact ⟨rfl, by decide⟩
  | cons x xs ih =>
    obtain ⟨a, b⟩ := ih fun y m => h y (List.mem_cons_of_mem _ m)
    obtain ⟨_, c, d⟩ := h x List.mem_cons_self
    refine ⟨?_, ?_⟩
    · show ((plT x).sm && T.sms (plTs xs)) = true
      rw [a, c]; rfl
    · show (plT x).sz + 2 + T.szs (plTs xs) ≤ 1002 * (xs.length + 1)
      omega
/-- the tree of a list -/
theorem lst_ok {xs : List D} (h : ∀ x ∈ xs, Sml x) (hl : xs.length ≤ 100) (hd : T.deps (plTs xs) ≤ 50) : (T.lst (plTs xs)).dep ≤ 60 ∧ (T.lst (plTs xs)).sm = true ∧ (T.lst (plTs xs)).sz ≤ SL := by
  obtain ⟨a, b⟩ := sml_list h
  exact ⟨by show T.deps (plTs xs) + 1 ≤ 60; omega, a, by show T.szs (plTs xs) + 4 ≤ 16777216; omega⟩
theorem deps_of {xs : List D} {n : Nat} (h : ∀ x ∈ xs, (plT x).dep ≤ n) : T.deps (plTs xs) ≤ n := by
  induction xs with
  | nil => exact Nat.zero_le _
  | cons x xs ih =>
    show max (plT x).dep (T.deps (plTs xs)) ≤ n
    have := ih fun y m => h y (List.mem_cons_of_mem _ m)
    have := h x List.mem_cons_self
    omega
theorem w18_dep : ∀ v ∈ w18, (plT v).dep ≤ 3 := by
  have : (w18.all fun v => decide ((plT v).dep ≤ 3)) = true := by decide
  exact fun v m => of_decide_eq_true (List.all_eq_true.mp this v m)
theorem fl4_dep : ∀ v ∈ fl4, (plT v).dep ≤ 3 := by
  have : (fl4.all fun v => decide ((plT v).dep ≤ 3)) = true := by decide
  exact fun v m => of_decide_eq_true (List.all_eq_true.mp this v m)
theorem key_dep {n f : D} (h1 : n ∈ ns4) (h2 : f ∈ fl4) : (plT (.tup [n, f])).dep ≤ 3 := by
  have : (ns4.all fun n => fl4.all fun f => decide ((plT (.tup [n, f])).dep ≤ 3)) = true := by decide
  exact of_decide_eq_true (List.all_eq_true.mp (List.all_eq_true.mp this n h1) f h2)
/-- what is shown tells the value -/
theorem rep_w18 : ∀ v ∈ w18, ∀ w ∈ w18, decide (D.str (plT v).rep = D.str (plT w).rep) = decide (v = w) := by
  have : (w18.all fun v => w18.all fun w => decide (D.str (plT v).rep = D.str (plT w).rep) == decide (v = w)) = true := by decide +kernel
  intro v hv w hw
  exact eq_of_beq (List.all_eq_true.mp (List.all_eq_true.mp this v hv) w hw)
end LawP
set_option Elab.async false
set_option linter.all false
set_option maxRecDepth 100000
set_option maxHeartbeats 1000000
namespace LawP
open PySem L2 DL
/-! ### rows of lists -/
/-- the addresses as hold the lists L; none of them is among W -/
def Inr (A : AH) (W : List Addr) (as : List Addr) (L : List (List D)) : Prop := as.length = L.length ∧ ∀ (i : Nat) (a : Addr), as[i]? = some a → a ∉ W ∧ ∃ l, L[i]? = some l ∧ A a = some (.lst l)
section
variable {A A' : AH} {W V : List Addr} {as : List Addr} {L : List (List D)} {a : Addr} {l : List D} {i : Nat}
theorem Inr.keep (h : Inr A W as L) (k : ∀ a xs, a ∉ W → A a = some (.lst xs) → A' a = some (.lst xs)) : Inr A' W as L := ⟨h.1, fun i a e => by
  obtain ⟨n, l, e1, e2⟩ := h.2 i a e
  exact ⟨n, l, e1, k a _ n e2⟩⟩
theorem Inr.sub (h : Inr A W as L) (s : ∀ a ∈ V, a ∈ W) : Inr A V as L := ⟨h.1, fun i a e => by
  obtain ⟨n, l, e1, e2⟩ := h.2 i a e
  exact ⟨fun m => n (s a m), l, e1, e2⟩⟩
/-- a new address is none of them -/
theorem Inr.add (h : Inr A W as L) {u : Addr} (hu : A u = none) : Inr A (u :: W) as L := ⟨h.1, fun i a e => by
  obtain ⟨n, l, e1, e2⟩ := h.2 i a e
  exact ⟨fun m => by
    rcases List.mem_cons.mp m with rfl | m
    · rw [hu] at e2; cases e2
    · exact n m, l, e1, e2⟩⟩
theorem Inr.app (h : Inr A W as L) (n : a ∉ W) (e : A a = some (.lst l)) : Inr A W (as ++ [a]) (L ++ [l]) := by
  refine ⟨by simp [h.1], fun i x ex => ?_⟩
  by_cases c : i < as.length
  · rw [List.getElem?_append_left c] at ex
    rw [List.getElem?_append_left (by rw [← h.1]; exact c)]
    exact h.2 i x ex
  · rw [List.getElem?_append_right (by omega)] at ex
    have z : i - as.length = 0 := by
      have := (List.getElem?_eq_some_iff.mp ex).1
      simp at this; omega
    rw [z] at ex
    cases ex
    refine ⟨n, l, ?_, e⟩
    rw [List.getElem?_append_right (by rw [← h.1]; omega), ← h.1, z]; rfl
theorem Inr.set (h : Inr A W as L) (n : a ∉ W) (e : A a = some (.lst l)) : Inr A W (as.set i a) (L.set i l) := by
  refine ⟨by simp [h.1], fun j x ex => ?_⟩
  by_cases c : i = j
  · subst c
    have lt : i < as.length := by
      have := (List.getElem?_eq_some_iff.mp ex).1
      simpa using this
    rw [List.getElem?_set_self lt] at ex
    cases ex
    exact ⟨n, l, List.getElem?_set_self (by rw [← h.1]; exact lt), e⟩
  · rw [List.getElem?_set_ne c] at ex ⊢
    exact h.2 j x ex
theorem Inr.erase (h : Inr A W as L) : Inr A W (as.eraseIdx i) (L.eraseIdx i) := by
  refine ⟨by rw [List.length_eraseIdx, List.length_eraseIdx, h.1], fun j x ex => ?_⟩
  rw [List.getElem?_eraseIdx] at ex ⊢
  split at ex
  · rename_i c
    rw [if_pos c]; exact h.2 j x ex
  · rename_i c
    rw [if_neg c]; exact h.2 (j + 1) x ex
theorem Inr.at_ (h : Inr A W as L) (lt : i < L.length) : ∃ a l, as[i]? = some a ∧ L[i]? = some l ∧ a ∉ W ∧ A a = some (.lst l) := by
  have lt2 : i < as.length := by rw [h.1]; exact lt
  obtain ⟨n, l, e1, e2⟩ := h.2 i as[i] (List.getElem?_eq_getElem lt2)
  exact ⟨as[i], l, List.getElem?_eq_getElem lt2, e1, n, e2⟩
theorem Inr.nil : Inr A W [] [] := ⟨rfl, fun i a e => by simp at e⟩
end
/-- for i, x in enumerate(xs) -/
theorem for_e {a : Addr} {xs : List D} {t : DTA} {g : DTG} {tb : DTS} {DD : DE} {σ : DS} {A : AH} (h : A a = some (.lst xs)) (I : Nat → DS → AH → Prop) (h0 : I 0 σ A) (st : ∀ i σ A, i ≤ xs.length → I i σ A → A a = some (.lst xs))
    (step : ∀ (i : Nat) x σ A, xs[i]? = some x → I i σ A → g (.tup [.int ((i : Nat) : Int), x]) σ A fun σ2 A2 => tb { DD with nx := I (i + 1), ct := I (i + 1), bk := DD.nx } σ2 A2) (fin : ∀ σ A, I xs.length σ A → DD.nx σ A) (ht : ∀ Q : List D → AH → Prop, Q [.ref a] A → t σ A Q) :
    dFor (diE t) g tb DD σ A := ht _ ⟨⟨xs, h⟩, enumD 0 xs, I, h0, fun i σ A hi k => ⟨xs, st i σ A (by rwa [enumD_len] at hi) k, rfl⟩, fun i x σ A hx hi => by
    obtain ⟨y, hy, rfl⟩ := enumD_get hx
    rw [Nat.zero_add]
    exact step i y σ A hy hi, by rw [enumD_len]; exact fin⟩
theorem atI_last {α : Type} {xs : List α} {d : α} : atI (xs ++ [d]) (-1) = some d := by
  unfold atI ixN
  rw [if_neg (by omega), List.length_append, List.length_singleton, if_pos (by omega)]
  show (xs ++ [d])[_]? = some d
  rw [show (-1 + ((xs.length + 1 : Nat) : Int)).toNat = xs.length by omega, List.getElem?_append_right (Nat.le_refl _), Nat.sub_self]; rfl
/-! ### promises: walks -/
def sp_reference : DSp := fun ds A R _ => ∃ n, ds = [n] ∧ R (.tup [.str [114, 101, 102], n]) A
def sp_target_of : DSp := fun ds A R _ => ∃ d, ds = [d] ∧ ((∃ r n, d = .tup [r, n] ∧ R n A) ∨ ((d = .non ∨ (∃ i, d = .int i) ∨ ∃ l, d = .str l) ∧ R .non A))
def sp_follow (C : Addr) : DSp := fun ds A R _ => ∃ s d kvs q fs, ds = [.ref s, .ref q] ∧ St A C s d kvs ∧ Kv kvs ∧ A q = some (.lst fs) ∧ Pth fs ∧ ∀ p A', Sm [] A A' → A p = none → A' p = some (.lst (root :: fol kvs root fs)) → R (.ref p) A'
def sp_value_at (C : Addr) : DSp := fun ds A R _ => ∃ s d kvs q fs, ds = [.ref s, .ref q] ∧ St A C s d kvs ∧ Kv kvs ∧ A q = some (.lst fs) ∧ Pth fs ∧ ∀ A', Sm [] A A' → R (vat kvs root fs) A'
def sp_cells_of (C : Addr) : DSp := fun ds A R _ => ∃ s d kvs q fs, ds = [.ref s, .ref q] ∧ St A C s d kvs ∧ Kv kvs ∧ A q = some (.lst fs) ∧ Pth fs ∧ ∀ p A', Sm [] A A' → A p = none → A' p = some (.lst (asks kvs root fs)) → R (.ref p) A'
def sp__law_once : DSp := fun ds A R _ => ∃ r xs, ds = [.ref r] ∧ A r = some (.lst xs) ∧ xs.all plB = true ∧ xs.length ≤ 1000 ∧ ∀ p A', Sm [] A A' → A p = none → A' p = some (.lst (uniq xs)) → R (.ref p) A'
def sp__law_walk : DSp := fun ds A R _ => ∃ c kvs q fs, ds = [.ref c, .ref q] ∧ A c = some (.dic kvs) ∧ Kv kvs ∧ A q = some (.lst fs) ∧ Pth fs ∧ ∀ p pv pa A', Sm [] A A' → A p = none → A' p = some (.lst [.ref pv, .ref pa, vat kvs root fs]) → A' pv = some (.lst (root :: fol kvs root fs)) → A' pa = some (.lst (uniq (asks kvs root fs))) → R (.ref p) A'
/- reference: 0 name -/
def t_reference : DTS := dRet (dTup (dCons (dC (.str [114, 101, 102])) (dCons (dV 0) (dNil))))
/- target_of: 0 value -/
def target_of_p1 : DTS := dSeq (dIf (dTru (dIsi "tuple" (dV 0))) (dRet (dOp mIx (dV 0) (dC (.int 1)))) (dNext)) (
  dRet (dC .non))
def t_target_of : DTS := dSeq (dIf (dTru (dIsi "tuple" (dV 0))) (dRet (dOp mIx (dV 0) (dC (.int 1)))) (dNext)) (
  dRet (dC .non))
/- follow: 0 state, 1 path, 2 found, 3 field, 4 name -/
def follow_p4 (C_State : Addr) : DTS := dSeq (dIf (dB (dOp fIs (dV 4) (dC .non))) (dRet (dV 2)) (dNext)) (
  dDrop (dBm isL fAppend (dV 2) (dCons (dMet C_State "value" (sp_State_value C_State) (dV 0) (dCons (dV 4) (dCons (dV 3) (dNil)))) (dNil))))
def follow_p3 (C_State : Addr) : DTS := dSeq (dAsg (dCal sp_target_of (dCons (dOp mIx (dV 2) (dUn fNeg (dC (.int 1)))) (dNil))) (dName 4)) (
  (follow_p4 C_State))
def follow_p2 (C_State : Addr) : DTS := dSeq (dFor (diL (dV 1)) (dName 3) ((follow_p3 C_State))) (
  dRet (dV 2))
def follow_p1 (C_State : Addr) : DTS := dSeq (dAsg (dLst (dCons (dCal sp_reference (dCons (dC (.tup [.int 0, .int 0])) (dNil))) (dNil))) (dName 2)) (
  (follow_p2 C_State))
def t_follow (C_State : Addr) : DTS := dSeq (dAsg (dLst (dCons (dCal sp_reference (dCons (dC (.tup [.int 0, .int 0])) (dNil))) (dNil))) (dName 2)) (
  dSeq (dFor (diL (dV 1)) (dName 3) (dSeq (dAsg (dCal sp_target_of (dCons (dOp mIx (dV 2) (dUn fNeg (dC (.int 1)))) (dNil))) (dName 4)) (
  dSeq (dIf (dB (dOp fIs (dV 4) (dC .non))) (dRet (dV 2)) (dNext)) (
  dDrop (dBm isL fAppend (dV 2) (dCons (dMet C_State "value" (sp_State_value C_State) (dV 0) (dCons (dV 4) (dCons (dV 3) (dNil)))) (dNil))))))) (
  dRet (dV 2)))
/- value_at: 0 state, 1 path, 2 found -/
def value_at_p2 : DTS := dSeq (dIf (dB (dOp (mLt .LtE) (dCall mLen (dCons (dV 2) (dNil))) (dCall mLen (dCons (dV 1) (dNil))))) (dRet (dC .non)) (dNext)) (
  dRet (dOp mIx (dV 2) (dUn fNeg (dC (.int 1)))))
def value_at_p1 (C_State : Addr) : DTS := dSeq (dAsg (dCal (sp_follow C_State) (dCons (dV 0) (dCons (dV 1) (dNil)))) (dName 2)) (
  (value_at_p2))
def t_value_at (C_State : Addr) : DTS := dSeq (dAsg (dCal (sp_follow C_State) (dCons (dV 0) (dCons (dV 1) (dNil)))) (dName 2)) (
  dSeq (dIf (dB (dOp (mLt .LtE) (dCall mLen (dCons (dV 2) (dNil))) (dCall mLen (dCons (dV 1) (dNil))))) (dRet (dC .non)) (dNext)) (
  dRet (dOp mIx (dV 2) (dUn fNeg (dC (.int 1))))))
/- cells_of: 0 state, 1 path, 2 found, 3 values, 4 place, 5 field -/
def cells_of_p3 : DTS := dSeq (dFor (diE (dCons (dV 1) (dNil))) (dgTup (dgCons (dName 4) (dgCons (dName 5) (dgNil)))) (dIf (dAndT (dB (dOp (mLt .Lt) (dV 4) (dCall mLen (dCons (dV 3) (dNil))))) (dB (dOp fNot (dCal sp_target_of (dCons (dOp mIx (dV 3) (dV 4)) (dNil))) (dC .non)))) (dDrop (dBm isL fAppend (dV 2) (dCons (dTup (dCons (dCal sp_target_of (dCons (dOp mIx (dV 3) (dV 4)) (dNil))) (dCons (dV 5) (dNil)))) (dNil)))) (dNext))) (
  dRet (dV 2))
def cells_of_p2 (C_State : Addr) : DTS := dSeq (dAsg (dCal (sp_follow C_State) (dCons (dV 0) (dCons (dV 1) (dNil)))) (dName 3)) (
  (cells_of_p3))
def cells_of_p1 (C_State : Addr) : DTS := dSeq (dAsg (dLst (dNil)) (dName 2)) (
  (cells_of_p2 C_State))
def t_cells_of (C_State : Addr) : DTS := dSeq (dAsg (dLst (dNil)) (dName 2)) (
  dSeq (dAsg (dCal (sp_follow C_State) (dCons (dV 0) (dCons (dV 1) (dNil)))) (dName 3)) (
  dSeq (dFor (diE (dCons (dV 1) (dNil))) (dgTup (dgCons (dName 4) (dgCons (dName 5) (dgNil)))) (dIf (dAndT (dB (dOp (mLt .Lt) (dV 4) (dCall mLen (dCons (dV 3) (dNil))))) (dB (dOp fNot (dCal sp_target_of (dCons (dOp mIx (dV 3) (dV 4)) (dNil))) (dC .non)))) (dDrop (dBm isL fAppend (dV 2) (dCons (dTup (dCons (dCal sp_target_of (dCons (dOp mIx (dV 3) (dV 4)) (dNil))) (dCons (dV 5) (dNil)))) (dNil)))) (dNext))) (
  dRet (dV 2))))
/- _law_once: 0 _law_rows, 1 _law_found, 2 _law_row_here -/
def _law_once_p2 : DTS := dSeq (dFor (diL (dV 0)) (dName 2) (dIf (dB (dOp (mIn true) (dV 2) (dV 1))) (dDrop (dBm isL fAppend (dV 1) (dCons (dV 2) (dNil)))) (dNext))) (
  dRet (dV 1))
def _law_once_p1 : DTS := dSeq (dAsg (dLst (dNil)) (dName 1)) (
  (_law_once_p2))
def t__law_once : DTS := dSeq (dAsg (dLst (dNil)) (dName 1)) (
  dSeq (dFor (diL (dV 0)) (dName 2) (dIf (dB (dOp (mIn true) (dV 2) (dV 1))) (dDrop (dBm isL fAppend (dV 1) (dCons (dV 2) (dNil)))) (dNext))) (
  dRet (dV 1)))
/- _law_walk: 0 _law_cells_here, 1 _law_path, 2 _law_values, 3 _law_asked, 4 _law_field, 5 _law_key, 6 _law_value -/
def _law_walk_p8 : DTS := dSeq (dIf (dB (dOp (mIn false) (dV 5) (dV 0))) (dAsg (dOp mIx (dOp mIx (dV 0) (dV 5)) (dC (.int 1))) (dName 6)) (dNext)) (
  dDrop (dBm isL fAppend (dV 2) (dCons (dV 6) (dNil))))
def _law_walk_p7 : DTS := dSeq (dAsg (dC .non) (dName 6)) (
  (_law_walk_p8))
def _law_walk_p6 : DTS := dSeq (dIf (dB (dOp (mIn true) (dV 5) (dV 3))) (dDrop (dBm isL fAppend (dV 3) (dCons (dV 5) (dNil)))) (dNext)) (
  (_law_walk_p7))
def _law_walk_p5 : DTS := dSeq (dAsg (dTup (dCons (dOp mIx (dOp mIx (dV 2) (dUn fNeg (dC (.int 1)))) (dC (.int 1))) (dCons (dV 4) (dNil)))) (dName 5)) (
  (_law_walk_p6))
def _law_walk_p4 : DTS := dSeq (dIf (dB (dOp fIs (dCal sp__law_target (dCons (dOp mIx (dV 2) (dUn fNeg (dC (.int 1)))) (dNil))) (dC .non))) (dRet (dLst (dCons (dV 2) (dCons (dV 3) (dCons (dC .non) (dNil)))))) (dNext)) (
  (_law_walk_p5))
def _law_walk_p3 : DTS := dSeq (dFor (diL (dV 1)) (dName 4) ((_law_walk_p4))) (
  dRet (dLst (dCons (dV 2) (dCons (dV 3) (dCons (dOp mIx (dV 2) (dUn fNeg (dC (.int 1)))) (dNil))))))
def _law_walk_p2 : DTS := dSeq (dAsg (dLst (dNil)) (dName 3)) (
  (_law_walk_p3))
def _law_walk_p1 : DTS := dSeq (dAsg (dLst (dCons (dTup (dCons (dC (.str [114, 101, 102])) (dCons (dTup (dCons (dC (.int 0)) (dCons (dC (.int 0)) (dNil)))) (dNil)))) (dNil))) (dName 2)) (
  (_law_walk_p2))
def t__law_walk : DTS := dSeq (dAsg (dLst (dCons (dTup (dCons (dC (.str [114, 101, 102])) (dCons (dTup (dCons (dC (.int 0)) (dCons (dC (.int 0)) (dNil)))) (dNil)))) (dNil))) (dName 2)) (
  dSeq (dAsg (dLst (dNil)) (dName 3)) (
  dSeq (dFor (diL (dV 1)) (dName 4) (dSeq (dIf (dB (dOp fIs (dCal sp__law_target (dCons (dOp mIx (dV 2) (dUn fNeg (dC (.int 1)))) (dNil))) (dC .non))) (dRet (dLst (dCons (dV 2) (dCons (dV 3) (dCons (dC .non) (dNil)))))) (dNext)) (
  dSeq (dAsg (dTup (dCons (dOp mIx (dOp mIx (dV 2) (dUn fNeg (dC (.int 1)))) (dC (.int 1))) (dCons (dV 4) (dNil)))) (dName 5)) (
  dSeq (dIf (dB (dOp (mIn true) (dV 5) (dV 3))) (dDrop (dBm isL fAppend (dV 3) (dCons (dV 5) (dNil)))) (dNext)) (
  dSeq (dAsg (dC .non) (dName 6)) (
  dSeq (dIf (dB (dOp (mIn false) (dV 5) (dV 0))) (dAsg (dOp mIx (dOp mIx (dV 0) (dV 5)) (dC (.int 1))) (dName 6)) (dNext)) (
  dDrop (dBm isL fAppend (dV 2) (dCons (dV 6) (dNil)))))))))) (
  dRet (dLst (dCons (dV 2) (dCons (dV 3) (dCons (dOp mIx (dV 2) (dUn fNeg (dC (.int 1)))) (dNil))))))))
theorem q_reference : ∀ ds A R E, ds.length = 1 → sp_reference ds A R E → t_reference { nx := fun _ A' => R .non A', rt := R } (ds.map some ++ List.replicate (1 - ds.length) none) A := by
  rintro ds A R E - ⟨n, rfl, hR⟩
  show t_reference _ [some n] A
  dsimp only [t_reference, dSeq, dIf, dAsg, dName, dRet, dRetN, dDrop, dNext, dB, dTru, dOp, dUn, dCall, dCons, dNil, dC, dV, dTup, dLst, dCal, dMet, dMak, dFld, DL.sFld, dBm, dgSub, dgTup, dgCons, dgNil, dAndT, dOrT, dNotT, dOr, dAnd, dNotE, dIsi, dSl, dNoP, dPart, dDNew, dNever, fInt, fMod, fAdd_int, fSub, fMul, fDiv, fPow, fI2, fI2C, fNeg, mLt, List.getElem?_cons_succ, List.getElem?_cons_zero, List.set_cons_zero, List.set_cons_succ]
  exact hR
theorem q_target_of : ∀ ds A R E, ds.length = 1 → sp_target_of ds A R E → t_target_of { nx := fun _ A' => R .non A', rt := R } (ds.map some ++ List.replicate (1 - ds.length) none) A := by
  rintro ds A R E - ⟨d, rfl, hd⟩
  show t_target_of _ [some d] A
  dsimp only [t_target_of, dSeq, dIf, dAsg, dName, dRet, dRetN, dDrop, dNext, dB, dTru, dOp, dUn, dCall, dCons, dNil, dC, dV, dTup, dLst, dCal, dMet, dMak, dFld, DL.sFld, dBm, dgSub, dgTup, dgCons, dgNil, dAndT, dOrT, dNotT, dOr, dAnd, dNotE, dIsi, dSl, dNoP, dPart, dDNew, dNever, fInt, fMod, fAdd_int, fSub, fMul, fDiv, fPow, fI2, fI2C, fNeg, mLt, List.getElem?_cons_succ, List.getElem?_cons_zero, List.set_cons_zero, List.set_cons_succ]
  rcases hd with ⟨r, n, rfl, hR⟩ | ⟨rfl | ⟨i, rfl⟩ | ⟨l, rfl⟩, hR⟩
  · refine ifT ?_
    exact mIx_tup (d := n) rfl hR
  all_goals
    refine ifF ?_
    exact hR
theorem targ_use {v : D} {A : AH} {R : DQ} {E : DX} (h : v ∈ w18) (q : R (targ v) A) : sp_target_of [v] A R E := by
  rcases targ_cases h with ⟨r, n, rfl, e, _⟩ | ⟨k, e⟩
  · exact ⟨_, rfl, .inl ⟨r, n, rfl, by rw [← e]; exact q⟩⟩
  · exact ⟨_, rfl, .inr ⟨k, by rw [← e]; exact q⟩⟩
theorem targ_law {v : D} {A : AH} {R : DQ} {E : DX} (h : v ∈ w18) (q : R (targ v) A) : sp__law_target [v] A R E := by
  rcases targ_cases h with ⟨r, n, rfl, e, _⟩ | ⟨k, e⟩
  · exact ⟨_, rfl, .inl ⟨r, n, rfl, by rw [← e]; exact q⟩⟩
  · exact ⟨_, rfl, .inr ⟨k, by rw [← e]; exact q⟩⟩
theorem isNon_iff {d : D} : d.isNon = decide (d = .non) := by cases d <;> simp [D.isNon]
theorem targ_key {v : D} (h : v ∈ w18) (n : targ v ≠ .non) : targ v ∈ ns4 := (targ_nam v h).elim (fun e => absurd e n) (·.1)
section
variable {C : Addr}
theorem q_follow : ∀ ds A R E, ds.length = 2 → sp_follow C ds A R E → t_follow C { nx := fun _ A' => R .non A', rt := R } (ds.map some ++ List.replicate (5 - ds.length) none) A := by
  rintro ds A R E - ⟨s, d, kvs, q, fs, rfl, hs, hk, hq, hp, hR⟩
  show follow_p1 C _ [some (.ref s), some (.ref q), none, none, none] A
  generalize hDD : ({ nx := fun _ A' => R .non A', rt := R } : DE) = DD
  have hrt : DD.rt = R := by rw [← hDD]
  unfold follow_p1
  rw [dSeq_ap, dAsg_ap]
  dsimp only [dSeq, dIf, dAsg, dName, dRet, dRetN, dDrop, dNext, dB, dTru, dOp, dUn, dCall, dCons, dNil, dC, dV, dTup, dLst, dCal, dMet, dMak, dFld, DL.sFld, dBm, dgSub, dgTup, dgCons, dgNil, dAndT, dOrT, dNotT, dOr, dAnd, dNotE, dIsi, dSl, dNoP, dPart, dDNew, dNever, fInt, fMod, fAdd_int, fSub, fMul, fDiv, fPow, fI2, fI2C, fNeg, mLt, List.getElem?_cons_succ, List.getElem?_cons_zero, List.set_cons_zero, List.set_cons_succ, dMetX, dCalX, dRaise, dErr1, dXf, dIsE]
  refine ⟨_, rfl, fun p hp0 => ?_⟩
  try dsimp only [dNext, dName, List.set_cons_zero, List.set_cons_succ]
  unfold follow_p2
  rw [dSeq_ap]
  refine for_l (up_at hq hp0) (fun i σ A' => ∃ x3 x4 vs v as, σ = [some (.ref s), some (.ref q), some (.ref p), x3, x4] ∧ Sm [] A A' ∧ A' p = some (.lst (vs ++ [v])) ∧ Wk kvs fs i vs v as) ⟨none, none, [], root, [], rfl, Sm.new hp0, up_same, Wk.zero⟩ (fun i σ A' _ ⟨_, _, _, _, _, _, s, _⟩ => s q _ (by simp) hq) ?_ ?_ (fun Q q => q)
  · rintro i f σ A1 hf ⟨x3, x4, vs, v, as, rfl, s1, e1, wk⟩
    have lt := (List.getElem?_eq_some_iff.mp hf).1
    have h4 := hp.1
    try dsimp only [dNext, dName, List.set_cons_zero, List.set_cons_succ]
    unfold follow_p3
    rw [dSeq_ap, dAsg_ap]
    dsimp only [dSeq, dIf, dAsg, dName, dRet, dRetN, dDrop, dNext, dB, dTru, dOp, dUn, dCall, dCons, dNil, dC, dV, dTup, dLst, dCal, dMet, dMak, dFld, DL.sFld, dBm, dgSub, dgTup, dgCons, dgNil, dAndT, dOrT, dNotT, dOr, dAnd, dNotE, dIsi, dSl, dNoP, dPart, dDNew, dNever, fInt, fMod, fAdd_int, fSub, fMul, fDiv, fPow, fI2, fI2C, fNeg, mLt, List.getElem?_cons_succ, List.getElem?_cons_zero, List.set_cons_zero, List.set_cons_succ, dMetX, dCalX, dRaise, dErr1, dXf, dIsE]
    refine mIx_lst e1 (d := v) atI_last (targ_use wk.w ?_)
    try dsimp only [dNext, dName, List.set_cons_zero, List.set_cons_succ]
    unfold follow_p4
    rw [dSeq_ap, dIf_ap]
    dsimp only [dB, dOp, dV, dC, List.getElem?_cons_succ, List.getElem?_cons_zero]
    rw [fIs_non, isNon_iff]
    dsimp only
    refine ifB (fun c => ?_) (fun c => ?_)
    · have c : targ v = .non := of_decide_eq_true c
      rw [dRet_ap, hrt]
      dsimp only [dV, List.getElem?_cons_succ, List.getElem?_cons_zero]
      obtain ⟨k1, k2, k3⟩ := wk.stop hf c
      exact hR p A1 s1 hp0 (by rw [k1]; exact e1)
    · have c : targ v ≠ .non := of_decide_eq_false c
      try dsimp only [dNext, dName, List.set_cons_zero, List.set_cons_succ]
      rw [dDrop_ap]
      dsimp only [dSeq, dIf, dAsg, dName, dRet, dRetN, dDrop, dNext, dB, dTru, dOp, dUn, dCall, dCons, dNil, dC, dV, dTup, dLst, dCal, dMet, dMak, dFld, DL.sFld, dBm, dgSub, dgTup, dgCons, dgNil, dAndT, dOrT, dNotT, dOr, dAnd, dNotE, dIsi, dSl, dNoP, dPart, dDNew, dNever, fInt, fMod, fAdd_int, fSub, fMul, fDiv, fPow, fI2, fI2C, fNeg, mLt, List.getElem?_cons_succ, List.getElem?_cons_zero, List.set_cons_zero, List.set_cons_succ, dMetX, dCalX, dRaise, dErr1, dXf, dIsE]
      have hs1 := hs.keep s1 (by simp) (by simp)
      refine ⟨⟨_, e1⟩, met_of hs1.1 rfl ⟨s, d, kvs, _, _, rfl, hs1, hk.1, ns4_nam _ (targ_key wk.w c), hp.fld (List.mem_of_getElem? hf), ?_⟩⟩
      refine fAppend_lst e1 (by rw [List.length_append, List.length_singleton, wk.len]; show _ < 16777216; omega) ?_
      refine ⟨_, _, vs ++ [v], _, _, rfl, s1.own hp0, ?_, wk.step hf c hk⟩
      rw [up_same]; rfl
  · rintro σ A1 ⟨x3, x4, vs, v, as, rfl, s1, e1, wk⟩
    try dsimp only [dNext, dName, List.set_cons_zero, List.set_cons_succ]
    rw [dRet_ap, hrt]
    dsimp only [dV, List.getElem?_cons_succ, List.getElem?_cons_zero]
    obtain ⟨k1, k2, k3⟩ := wk.fin
    exact hR p A1 s1 hp0 (by rw [k1]; exact e1)
theorem q_value_at : ∀ ds A R E, ds.length = 2 → sp_value_at C ds A R E → t_value_at C { nx := fun _ A' => R .non A', rt := R } (ds.map some ++ List.replicate (3 - ds.length) none) A := by
  rintro ds A R E - ⟨s, d, kvs, q, fs, rfl, hs, hk, hq, hp, hR⟩
  show value_at_p1 C _ [some (.ref s), some (.ref q), none] A
  generalize hDD : ({ nx := fun _ A' => R .non A', rt := R } : DE) = DD
  have hrt : DD.rt = R := by rw [← hDD]
  unfold value_at_p1
  rw [dSeq_ap, dAsg_ap]
  dsimp only [dSeq, dIf, dAsg, dName, dRet, dRetN, dDrop, dNext, dB, dTru, dOp, dUn, dCall, dCons, dNil, dC, dV, dTup, dLst, dCal, dMet, dMak, dFld, DL.sFld, dBm, dgSub, dgTup, dgCons, dgNil, dAndT, dOrT, dNotT, dOr, dAnd, dNotE, dIsi, dSl, dNoP, dPart, dDNew, dNever, fInt, fMod, fAdd_int, fSub, fMul, fDiv, fPow, fI2, fI2C, fNeg, mLt, List.getElem?_cons_succ, List.getElem?_cons_zero, List.set_cons_zero, List.set_cons_succ, dMetX, dCalX, dRaise, dErr1, dXf, dIsE]
  refine ⟨s, d, kvs, q, fs, rfl, hs, hk, hq, hp, fun p A1 s1 p0 e1 => ?_⟩
  try dsimp only [dNext, dName, List.set_cons_zero, List.set_cons_succ]
  unfold value_at_p2
  rw [dSeq_ap, dIf_ap]
  dsimp only [dSeq, dIf, dAsg, dName, dRet, dRetN, dDrop, dNext, dB, dTru, dOp, dUn, dCall, dCons, dNil, dC, dV, dTup, dLst, dCal, dMet, dMak, dFld, DL.sFld, dBm, dgSub, dgTup, dgCons, dgNil, dAndT, dOrT, dNotT, dOr, dAnd, dNotE, dIsi, dSl, dNoP, dPart, dDNew, dNever, fInt, fMod, fAdd_int, fSub, fMul, fDiv, fPow, fI2, fI2C, fNeg, mLt, List.getElem?_cons_succ, List.getElem?_cons_zero, List.set_cons_zero, List.set_cons_succ, dMetX, dCalX, dRaise, dErr1, dXf, dIsE]
  refine len_lst e1 (len_lst (s1 q _ (by simp) hq) ?_)
  obtain ⟨k1, k2⟩ := vat_fol (kvs := kvs) (fs := fs) (v := root)
  dsimp only
  refine ifB (fun c => ?_) (fun c => ?_)
  · have c : ((root :: fol kvs root fs).length : Int) ≤ (fs.length : Int) := of_decide_eq_true c
    rw [hrt]
    have := hR A1 s1
    rw [k1 (by omega)] at this
    exact this
  · have c : ¬ ((root :: fol kvs root fs).length : Int) ≤ (fs.length : Int) := of_decide_eq_false c
    rw [hrt]
    have e2 := k2 (by omega)
    have e1' : A1 p = some (.lst ((root :: fol kvs root fs).dropLast ++ [vat kvs root fs])) := by
      rw [e1, ← e2, List.dropLast_concat_getLast]
    exact mIx_lst e1' atI_last (hR A1 s1)
theorem q_cells_of : ∀ ds A R E, ds.length = 2 → sp_cells_of C ds A R E → t_cells_of C { nx := fun _ A' => R .non A', rt := R } (ds.map some ++ List.replicate (6 - ds.length) none) A := by
  rintro ds A R E - ⟨s, d, kvs, q, fs, rfl, hs, hk, hq, hp, hR⟩
  show cells_of_p1 C _ [some (.ref s), some (.ref q), none, none, none, none] A
  generalize hDD : ({ nx := fun _ A' => R .non A', rt := R } : DE) = DD
  have hrt : DD.rt = R := by rw [← hDD]
  have h4 := hp.1
  unfold cells_of_p1
  rw [dSeq_ap, dAsg_ap]
  dsimp only [dSeq, dIf, dAsg, dName, dRet, dRetN, dDrop, dNext, dB, dTru, dOp, dUn, dCall, dCons, dNil, dC, dV, dTup, dLst, dCal, dMet, dMak, dFld, DL.sFld, dBm, dgSub, dgTup, dgCons, dgNil, dAndT, dOrT, dNotT, dOr, dAnd, dNotE, dIsi, dSl, dNoP, dPart, dDNew, dNever, fInt, fMod, fAdd_int, fSub, fMul, fDiv, fPow, fI2, fI2C, fNeg, mLt, List.getElem?_cons_succ, List.getElem?_cons_zero, List.set_cons_zero, List.set_cons_succ, dMetX, dCalX, dRaise, dErr1, dXf, dIsE]
  intro p p0
  have s0 : Sm [] A (up A p (.lst [])) := Sm.new p0
  have e0 : up A p (.lst []) p = some (.lst []) := up_same
  generalize up A p (.lst []) = A0 at s0 e0 ⊢
  try dsimp only [dNext, dName, List.set_cons_zero, List.set_cons_succ]
  unfold cells_of_p2
  rw [dSeq_ap, dAsg_ap]
  dsimp only [dSeq, dIf, dAsg, dName, dRet, dRetN, dDrop, dNext, dB, dTru, dOp, dUn, dCall, dCons, dNil, dC, dV, dTup, dLst, dCal, dMet, dMak, dFld, DL.sFld, dBm, dgSub, dgTup, dgCons, dgNil, dAndT, dOrT, dNotT, dOr, dAnd, dNotE, dIsi, dSl, dNoP, dPart, dDNew, dNever, fInt, fMod, fAdd_int, fSub, fMul, fDiv, fPow, fI2, fI2C, fNeg, mLt, List.getElem?_cons_succ, List.getElem?_cons_zero, List.set_cons_zero, List.set_cons_succ, dMetX, dCalX, dRaise, dErr1, dXf, dIsE]
  refine ⟨s, d, kvs, q, fs, rfl, hs.keep s0 (by simp) (by simp), hk, s0 q _ (by simp) hq, hp, fun pv A1 s1 pv0 e1 => ?_⟩
  have pne : pv ≠ p := (ne_nn e0 pv0).symm
  have ep := s1 p _ (by simp) e0
  have s01 := s0.trans s1
  try dsimp only [dNext, dName, List.set_cons_zero, List.set_cons_succ]
  unfold cells_of_p3
  rw [dSeq_ap]
  refine for_e (s01 q _ (by simp) hq) (fun i σ A' => ∃ x4 x5 xs, σ = [some (.ref s), some (.ref q), some (.ref p), some (.ref pv), x4, x5] ∧ Sm [p] A1 A' ∧ Sm [] A A' ∧ A' p = some (.lst xs) ∧ xs.length ≤ i ∧ ((∃ vs v, Wk kvs fs i vs v xs) ∨ (xs = asks kvs root fs ∧ (root :: fol kvs root fs).length ≤ i))) ⟨none, none, [], rfl, Sm.refl, s01, ep, Nat.le_refl _, .inl ⟨[], root, Wk.zero⟩⟩ (fun i σ A' _ ⟨_, _, _, _, _, s, _⟩ => s q _ (by simp) hq) ?_ ?_ (fun Q q => q)
  · rintro i f σ A2 hf ⟨x4, x5, xs, rfl, s2, s3, e2, xl, hw⟩
    have lt := (List.getElem?_eq_some_iff.mp hf).1
    have ev := s2 pv _ (by simpa using pne) e1
    dsimp only [dSeq, dIf, dAsg, dName, dRet, dRetN, dDrop, dNext, dB, dTru, dOp, dUn, dCall, dCons, dNil, dC, dV, dTup, dLst, dCal, dMet, dMak, dFld, DL.sFld, dBm, dgSub, dgTup, dgCons, dgNil, dAndT, dOrT, dNotT, dOr, dAnd, dNotE, dIsi, dSl, dNoP, dPart, dDNew, dNever, fInt, fMod, fAdd_int, fSub, fMul, fDiv, fPow, fI2, fI2C, fNeg, mLt, List.getElem?_cons_succ, List.getElem?_cons_zero, List.set_cons_zero, List.set_cons_succ, dMetX, dCalX, dRaise, dErr1, dXf, dIsE]
    refine ⟨rfl, ?_⟩
    refine len_lst ev ?_
    dsimp only
    rcases hw with ⟨vs, v, wk⟩ | ⟨rfl, hl⟩
    · have fl : i < (root :: fol kvs root fs).length := by
        rw [wk.f, List.length_append, List.length_cons, wk.len]; omega
      have eg : (root :: fol kvs root fs)[i]? = some v := by
        rw [wk.f, List.getElem?_append_right (by rw [wk.len]; exact Nat.le_refl _), wk.len, Nat.sub_self]; rfl
      refine ifT' (decide_eq_true (by omega)) ?_
      refine mIx_at (k := i) ev eg (targ_use wk.w ?_)
      rw [fNot_non, isNon_iff]
      by_cases c : targ v = .non
      · obtain ⟨k1, k2, k3⟩ := wk.stop hf c
        rw [c]
        refine ifF ?_
        exact ⟨_, _, xs, rfl, s2, s3, e2, by omega, .inr ⟨k2.symm, by rw [k1, List.length_append, List.length_singleton, wk.len]; exact Nat.le_refl _⟩⟩
      · rw [decide_eq_false c]
        refine ifT ?_
        refine ⟨⟨_, e2⟩, mIx_at (k := i) ev eg (targ_use wk.w ?_)⟩
        refine fAppend_lst e2 (by show _ < 16777216; omega) ?_
        exact ⟨_, _, _, rfl, s2.trans (Sm.put (by simp)), s3.own p0, up_same, by rw [List.length_append, List.length_singleton]; omega, .inl ⟨_, _, wk.step hf c hk⟩⟩
    · refine ifF' (decide_eq_false (by omega)) ?_
      exact ⟨_, _, _, rfl, s2, s3, e2, by omega, .inr ⟨rfl, by omega⟩⟩
  · rintro σ A2 ⟨x4, x5, xs, rfl, s2, s3, e2, xl, hw⟩
    try dsimp only [dNext, dName, List.set_cons_zero, List.set_cons_succ]
    rw [dRet_ap, hrt]
    dsimp only [dV, List.getElem?_cons_succ, List.getElem?_cons_zero]
    have ex : xs = asks kvs root fs := by
      rcases hw with ⟨vs, v, wk⟩ | ⟨e, _⟩
      · exact wk.fin.2.1.symm
      · exact e
    subst ex
    exact hR p A2 s3 p0 e2
end
theorem q__law_once : ∀ ds A R E, ds.length = 1 → sp__law_once ds A R E → t__law_once { nx := fun _ A' => R .non A', rt := R } (ds.map some ++ List.replicate (3 - ds.length) none) A := by
  rintro ds A R E - ⟨r, xs, rfl, hr, hx, hl, hR⟩
  show t__law_once _ [some (.ref r), none, none] A
  dsimp only [t__law_once, dSeq, dIf, dAsg, dName, dRet, dRetN, dDrop, dNext, dB, dTru, dOp, dUn, dCall, dCons, dNil, dC, dV, dTup, dLst, dCal, dMet, dMak, dFld, DL.sFld, dBm, dgSub, dgTup, dgCons, dgNil, dAndT, dOrT, dNotT, dOr, dAnd, dNotE, dIsi, dSl, dNoP, dPart, dDNew, dNever, fInt, fMod, fAdd_int, fSub, fMul, fDiv, fPow, fI2, fI2C, fNeg, mLt, List.getElem?_cons_succ, List.getElem?_cons_zero, List.set_cons_zero, List.set_cons_succ]
  intro p p0
  refine for_l (up_at hr p0) (fun i σ A' => ∃ x2, σ = [some (.ref r), some (.ref p), x2] ∧ Sm [] A A' ∧ A' p = some (.lst (uniq (xs.take i)))) ⟨none, rfl, Sm.new p0, up_same⟩ (fun i σ A' _ ⟨_, _, s, _⟩ => s r _ (by simp) hr) ?_ ?_ (fun Q q => q)
  · rintro i x σ A1 hx1 ⟨x2, rfl, s1, e1⟩
    have tk : xs.take (i + 1) = xs.take i ++ [x] := by rw [List.take_succ, hx1]; rfl
    have ul := uniq_len (xs.take i)
    rw [List.length_take] at ul
    dsimp only [dSeq, dIf, dAsg, dName, dRet, dRetN, dDrop, dNext, dB, dTru, dOp, dUn, dCall, dCons, dNil, dC, dV, dTup, dLst, dCal, dMet, dMak, dFld, DL.sFld, dBm, dgSub, dgTup, dgCons, dgNil, dAndT, dOrT, dNotT, dOr, dAnd, dNotE, dIsi, dSl, dNoP, dPart, dDNew, dNever, fInt, fMod, fAdd_int, fSub, fMul, fDiv, fPow, fI2, fI2C, fNeg, mLt, List.getElem?_cons_succ, List.getElem?_cons_zero, List.set_cons_zero, List.set_cons_succ]
    refine mIn_lst e1 (List.all_eq_true.mp hx x (List.mem_of_getElem? hx1)) (List.all_eq_true.mpr fun y my => List.all_eq_true.mp hx y (List.mem_of_mem_take (mem_uniq.mp my))) ?_
    dsimp only
    by_cases c : x ∈ uniq (xs.take i)
    · rw [decide_eq_true c]
      refine ifF ?_
      exact ⟨_, rfl, s1, by rw [e1, tk, uniq_snoc]; unfold unqS; rw [if_pos c]⟩
    · rw [decide_eq_false c]
      refine ifT ?_
      refine ⟨⟨_, e1⟩, fAppend_lst e1 (by show _ < 16777216; omega) ?_⟩
      exact ⟨_, rfl, s1.own p0, by rw [up_same, tk, uniq_snoc]; unfold unqS; rw [if_neg c]⟩
  · rintro σ A1 ⟨x2, rfl, s1, e1⟩
    rw [List.take_length] at e1
    exact hR p A1 s1 p0 e1
end LawP
set_option Elab.async false
set_option linter.all false
set_option maxRecDepth 100000
set_option maxHeartbeats 1000000
namespace LawP
open PySem L2 DL
theorem Kv.ok {kvs : List (D × D)} (h : Kv kvs) {n f : D} (hn : Nam n) (hf : Fld f) : okK kvs (.tup [n, f]) = true := by
  obtain ⟨i, j, rfl⟩ := hn
  obtain ⟨l, rfl⟩ := hf
  exact h.1.ok rfl rfl
theorem key_pl {n f : D} (h1 : n ∈ ns4) (h2 : f ∈ fl4) : plB (.tup [n, f]) = true := (key_sml h1 h2).1
theorem q__law_walk : ∀ ds A R E, ds.length = 2 → sp__law_walk ds A R E → t__law_walk { nx := fun _ A' => R .non A', rt := R } (ds.map some ++ List.replicate (7 - ds.length) none) A := by
  rintro ds A R E - ⟨c, kvs, q, fs, rfl, hc, hk, hq, hp, hR⟩
  show _law_walk_p1 _ [some (.ref c), some (.ref q), none, none, none, none, none] A
  generalize hDD : ({ nx := fun _ A' => R .non A', rt := R } : DE) = DD
  have hrt : DD.rt = R := by rw [← hDD]
  have h4 := hp.1
  unfold _law_walk_p1
  rw [dSeq_ap, dAsg_ap]
  dsimp only [dSeq, dIf, dAsg, dName, dRet, dRetN, dDrop, dNext, dB, dTru, dOp, dUn, dCall, dCons, dNil, dC, dV, dTup, dLst, dCal, dMet, dMak, dFld, DL.sFld, dBm, dgSub, dgTup, dgCons, dgNil, dAndT, dOrT, dNotT, dOr, dAnd, dNotE, dIsi, dSl, dNoP, dPart, dDNew, dNever, fInt, fMod, fAdd_int, fSub, fMul, fDiv, fPow, fI2, fI2C, fNeg, mLt, List.getElem?_cons_succ, List.getElem?_cons_zero, List.set_cons_zero, List.set_cons_succ, dMetX, dCalX, dRaise, dErr1, dXf, dIsE]
  intro pv pv0
  have s1 : Sm [] A (up A pv (.lst [root])) := Sm.new pv0
  have e1 : up A pv (.lst [root]) pv = some (.lst [root]) := up_same
  show _law_walk_p2 _ _ (up A pv (.lst [root]))
  generalize up A pv (.lst [root]) = A1 at s1 e1 ⊢
  try dsimp only [dNext, dName, List.set_cons_zero, List.set_cons_succ]
  unfold _law_walk_p2
  rw [dSeq_ap, dAsg_ap]
  dsimp only [dSeq, dIf, dAsg, dName, dRet, dRetN, dDrop, dNext, dB, dTru, dOp, dUn, dCall, dCons, dNil, dC, dV, dTup, dLst, dCal, dMet, dMak, dFld, DL.sFld, dBm, dgSub, dgTup, dgCons, dgNil, dAndT, dOrT, dNotT, dOr, dAnd, dNotE, dIsi, dSl, dNoP, dPart, dDNew, dNever, fInt, fMod, fAdd_int, fSub, fMul, fDiv, fPow, fI2, fI2C, fNeg, mLt, List.getElem?_cons_succ, List.getElem?_cons_zero, List.set_cons_zero, List.set_cons_succ, dMetX, dCalX, dRaise, dErr1, dXf, dIsE]
  intro pa pa0
  have pne : pv ≠ pa := ne_nn e1 pa0
  have s2 : Sm [] A (up A1 pa (.lst [])) := s1.trans (Sm.new pa0)
  have e2 : up A1 pa (.lst []) pv = some (.lst [root]) := up_at e1 pa0
  have a2 : up A1 pa (.lst []) pa = some (.lst []) := up_same
  generalize up A1 pa (.lst []) = A2 at s2 e2 a2 ⊢
  have pa0' : A pa = none := s1.none0 pa0
  try dsimp only [dNext, dName, List.set_cons_zero, List.set_cons_succ]
  unfold _law_walk_p3
  rw [dSeq_ap]
  refine for_l (s2 q _ (by simp) hq) (fun i σ A' => ∃ x4 x5 x6 vs v as, σ = [some (.ref c), some (.ref q), some (.ref pv), some (.ref pa), x4, x5, x6] ∧ Sm [] A A' ∧ A' pv = some (.lst (vs ++ [v])) ∧ A' pa = some (.lst (uniq as)) ∧ Wk kvs fs i vs v as) ⟨none, none, none, [], root, [], rfl, s2, e2, a2, Wk.zero⟩ (fun i σ A' _ ⟨_, _, _, _, _, _, _, s, _⟩ => s q _ (by simp) hq) ?_ ?_ (fun Q q => q)
  · rintro i f σ A3 hf ⟨x4, x5, x6, vs, v, as, rfl, s3, e3, a3, wk⟩
    have lt := (List.getElem?_eq_some_iff.mp hf).1
    have mf := List.mem_of_getElem? hf
    try dsimp only [dNext, dName, List.set_cons_zero, List.set_cons_succ]
    unfold _law_walk_p4
    rw [dSeq_ap, dIf_ap]
    dsimp only [dSeq, dIf, dAsg, dName, dRet, dRetN, dDrop, dNext, dB, dTru, dOp, dUn, dCall, dCons, dNil, dC, dV, dTup, dLst, dCal, dMet, dMak, dFld, DL.sFld, dBm, dgSub, dgTup, dgCons, dgNil, dAndT, dOrT, dNotT, dOr, dAnd, dNotE, dIsi, dSl, dNoP, dPart, dDNew, dNever, fInt, fMod, fAdd_int, fSub, fMul, fDiv, fPow, fI2, fI2C, fNeg, mLt, List.getElem?_cons_succ, List.getElem?_cons_zero, List.set_cons_zero, List.set_cons_succ, dMetX, dCalX, dRaise, dErr1, dXf, dIsE]
    refine mIx_lst e3 (d := v) atI_last (targ_law wk.w ?_)
    rw [fIs_non, isNon_iff]
    dsimp only
    refine ifB (fun k => ?_) (fun k => ?_)
    · have k : targ v = .non := of_decide_eq_true k
      obtain ⟨k1, k2, k3⟩ := wk.stop hf k
      intro p p0
      rw [hrt]
      refine hR p pv pa _ (s3.trans (Sm.new p0)) (s3.none0 p0) (by rw [up_same, k3]) ?_ ?_
      · rw [k1]; exact up_at e3 p0
      · rw [k2]; exact up_at a3 p0
    · have k : targ v ≠ .non := of_decide_eq_false k
      have mn := targ_key wk.w k
      have hn := ns4_nam _ mn
      have hfl := hp.fld mf
      have okk := hk.ok hn hfl
      obtain ⟨r, n, ev, en, _⟩ | ⟨_, z⟩ := targ_cases wk.w
      rotate_left
      · exact absurd z k
      try dsimp only [dNext, dName, List.set_cons_zero, List.set_cons_succ]
      unfold _law_walk_p5
      rw [dSeq_ap, dAsg_ap]
      dsimp only [dSeq, dIf, dAsg, dName, dRet, dRetN, dDrop, dNext, dB, dTru, dOp, dUn, dCall, dCons, dNil, dC, dV, dTup, dLst, dCal, dMet, dMak, dFld, DL.sFld, dBm, dgSub, dgTup, dgCons, dgNil, dAndT, dOrT, dNotT, dOr, dAnd, dNotE, dIsi, dSl, dNoP, dPart, dDNew, dNever, fInt, fMod, fAdd_int, fSub, fMul, fDiv, fPow, fI2, fI2C, fNeg, mLt, List.getElem?_cons_succ, List.getElem?_cons_zero, List.set_cons_zero, List.set_cons_succ, dMetX, dCalX, dRaise, dErr1, dXf, dIsE]
      refine mIx_lst e3 (d := v) atI_last ?_
      have mt : ∀ Q : DQ, Q (targ v) A3 → mIx v (.int 1) A3 Q := fun Q h => by rw [en] at h; rw [ev]; exact mIx_tup (d := n) rfl h
      refine mt _ ?_
      try dsimp only [dNext, dName, List.set_cons_zero, List.set_cons_succ]
      unfold _law_walk_p6
      rw [dSeq_ap, dIf_ap]
      dsimp only [dSeq, dIf, dAsg, dName, dRet, dRetN, dDrop, dNext, dB, dTru, dOp, dUn, dCall, dCons, dNil, dC, dV, dTup, dLst, dCal, dMet, dMak, dFld, DL.sFld, dBm, dgSub, dgTup, dgCons, dgNil, dAndT, dOrT, dNotT, dOr, dAnd, dNotE, dIsi, dSl, dNoP, dPart, dDNew, dNever, fInt, fMod, fAdd_int, fSub, fMul, fDiv, fPow, fI2, fI2C, fNeg, mLt, List.getElem?_cons_succ, List.getElem?_cons_zero, List.set_cons_zero, List.set_cons_succ, dMetX, dCalX, dRaise, dErr1, dXf, dIsE]
      have aks : ∀ x ∈ uniq as, ∃ n ∈ ns4, ∃ f ∈ fl4, x = .tup [n, f] := fun x m => by
        have m : x ∈ asks kvs root fs := by rw [wk.a]; exact List.mem_append_left _ (mem_uniq.mp m)
        exact asks_k hk root_w hp.2 x m
      have aal : (uniq as).all plB = true := List.all_eq_true.mpr fun x m => by
        obtain ⟨n, m1, f, m2, rfl⟩ := aks x m
        exact key_pl m1 m2
      have ul := uniq_len as
      rw [wk.al] at ul
      refine mIn_lst a3 (key_pl mn (hp.2 f mf)) aal ?_
      -- behind the row of asked cells
      have go : ∀ (bb : DS → AH → Prop) A4, Sm [] A A4 → A4 pv = some (.lst (vs ++ [v])) → A4 pa = some (.lst (uniq (as ++ [.tup [targ v, f]]))) →
          _law_walk_p7 { DD with nx := fun σ A' => ∃ x4 x5 x6 vs v as, σ = [some (.ref c), some (.ref q), some (.ref pv), some (.ref pa), x4, x5, x6] ∧ Sm [] A A' ∧ A' pv = some (.lst (vs ++ [v])) ∧ A' pa = some (.lst (uniq as)) ∧ Wk kvs fs (i + 1) vs v as, ct := fun σ A' => ∃ x4 x5 x6 vs v as, σ = [some (.ref c), some (.ref q), some (.ref pv), some (.ref pa), x4, x5, x6] ∧ Sm [] A A' ∧ A' pv = some (.lst (vs ++ [v])) ∧ A' pa = some (.lst (uniq as)) ∧ Wk kvs fs (i + 1) vs v as, bk := bb } [some (.ref c), some (.ref q), some (.ref pv), some (.ref pa), some f, some (.tup [targ v, f]), x6] A4 := by
        intro bb A4 s4 e4 a4
        have fin : ∀ A5 w, Sm [] A A5 → w = gv kvs (targ v) f → A5 pv = some (.lst (vs ++ [v])) → A5 pa = some (.lst (uniq (as ++ [.tup [targ v, f]]))) → isL (.ref pv) A5 ∧ fAppend (.ref pv) [w] A5 fun _ A' => ∃ x4 x5 x6 vs' v' as', [some (.ref c), some (.ref q), some (.ref pv), some (.ref pa), some f, some (.tup [targ v, f]), some w] = [some (.ref c), some (.ref q), some (.ref pv), some (.ref pa), x4, x5, x6] ∧ Sm [] A A' ∧ A' pv = some (.lst (vs' ++ [v'])) ∧ A' pa = some (.lst (uniq as')) ∧ Wk kvs fs (i + 1) vs' v' as' := by
          intro A5 w s5 ew e5 a5
          refine ⟨⟨_, e5⟩, fAppend_lst e5 (by rw [List.length_append, List.length_singleton, wk.len]; show _ < 16777216; omega) ?_⟩
          exact ⟨_, _, _, vs ++ [v], w, _, rfl, s5.own pv0, up_same, by rw [up_ne pne.symm]; exact a5, by rw [ew]; exact wk.step hf k hk⟩
        have ec := s4 c _ (by simp) hc
        unfold _law_walk_p7
        rw [dSeq_ap, dAsg_ap]
        dsimp only [dSeq, dIf, dAsg, dName, dRet, dRetN, dDrop, dNext, dB, dTru, dOp, dUn, dCall, dCons, dNil, dC, dV, dTup, dLst, dCal, dMet, dMak, dFld, DL.sFld, dBm, dgSub, dgTup, dgCons, dgNil, dAndT, dOrT, dNotT, dOr, dAnd, dNotE, dIsi, dSl, dNoP, dPart, dDNew, dNever, fInt, fMod, fAdd_int, fSub, fMul, fDiv, fPow, fI2, fI2C, fNeg, mLt, List.getElem?_cons_succ, List.getElem?_cons_zero, List.set_cons_zero, List.set_cons_succ, dMetX, dCalX, dRaise, dErr1, dXf, dIsE]
        try dsimp only [dNext, dName, List.set_cons_zero, List.set_cons_succ]
        unfold _law_walk_p8
        rw [dSeq_ap, dIf_ap]
        dsimp only [dSeq, dIf, dAsg, dName, dRet, dRetN, dDrop, dNext, dB, dTru, dOp, dUn, dCall, dCons, dNil, dC, dV, dTup, dLst, dCal, dMet, dMak, dFld, DL.sFld, dBm, dgSub, dgTup, dgCons, dgNil, dAndT, dOrT, dNotT, dOr, dAnd, dNotE, dIsi, dSl, dNoP, dPart, dDNew, dNever, fInt, fMod, fAdd_int, fSub, fMul, fDiv, fPow, fI2, fI2C, fNeg, mLt, List.getElem?_cons_succ, List.getElem?_cons_zero, List.set_cons_zero, List.set_cons_succ, dMetX, dCalX, dRaise, dErr1, dXf, dIsE]
        refine mIn_dic (dic_d ec) okk ?_
        cases hg : dget kvs (.tup [targ v, f]) with
        | none =>
          refine ifF ?_
          exact fin A4 .non s4 (by unfold gv; rw [hg]) e4 a4
        | some o =>
          refine ifT ?_
          obtain ⟨so, vo, rfl, hso, hvo⟩ := hk.1.get hg
          refine mIx_dic (dic_d ec) okk hg (mIx_tup (d := vo) rfl ?_)
          exact fin A4 vo s4 (by unfold gv; rw [hg]; rfl) e4 a4
      dsimp only
      by_cases m : D.tup [targ v, f] ∈ uniq as
      · rw [decide_eq_true m]
        refine ifF ?_
        exact go _ A3 s3 e3 (by rw [a3, uniq_snoc]; unfold unqS; rw [if_pos m])
      · rw [decide_eq_false m]
        refine ifT ?_
        refine ⟨⟨_, a3⟩, fAppend_lst a3 (by show _ < 16777216; omega) ?_⟩
        exact go _ _ (s3.own pa0') (by rw [up_ne pne]; exact e3) (by rw [up_same, uniq_snoc]; unfold unqS; rw [if_neg m])
  · rintro σ A3 ⟨x4, x5, x6, vs, v, as, rfl, s3, e3, a3, wk⟩
    try dsimp only [dNext, dName, List.set_cons_zero, List.set_cons_succ]
    rw [dRet_ap, hrt]
    dsimp only [dSeq, dIf, dAsg, dName, dRet, dRetN, dDrop, dNext, dB, dTru, dOp, dUn, dCall, dCons, dNil, dC, dV, dTup, dLst, dCal, dMet, dMak, dFld, DL.sFld, dBm, dgSub, dgTup, dgCons, dgNil, dAndT, dOrT, dNotT, dOr, dAnd, dNotE, dIsi, dSl, dNoP, dPart, dDNew, dNever, fInt, fMod, fAdd_int, fSub, fMul, fDiv, fPow, fI2, fI2C, fNeg, mLt, List.getElem?_cons_succ, List.getElem?_cons_zero, List.set_cons_zero, List.set_cons_succ, dMetX, dCalX, dRaise, dErr1, dXf, dIsE]
    refine mIx_lst e3 (d := v) atI_last ?_
    obtain ⟨k1, k2, k3⟩ := wk.fin
    intro p p0
    refine hR p pv pa _ (s3.trans (Sm.new p0)) (s3.none0 p0) (by rw [up_same, k3]) ?_ ?_
    · rw [k1]; exact up_at e3 p0
    · rw [k2]; exact up_at a3 p0
end LawP
set_option Elab.async false
set_option linter.all false
set_option maxRecDepth 100000
set_option maxHeartbeats 1000000
namespace LawP
open PySem L2 DL
abbrev pathT (fs : List D) : T := .lst (plTs fs)
theorem pth_sml {fs : List D} (h : Pth fs) : ∀ f ∈ fs, Sml f := fun f m => fl4_sml f (h.2 f m)
theorem pth_pls {fs : List D} (h : Pth fs) : isPls fs = true := (pls_of (sml_all (pth_sml h))).1
theorem pth_dep {fs : List D} (h : Pth fs) : T.deps (plTs fs) ≤ 3 := deps_of fun f m => fl4_dep f (h.2 f m)
theorem Inr.snap {A : AH} {W : List Addr} : ∀ {as : List Addr} {L : List (List D)}, Inr A W as L → (∀ fs ∈ L, Pth fs) → Snaps A (as.map D.ref) (L.map pathT)
  | [], [], _, _ => rfl
  | [], _ :: _, h, _ => by have := h.1; simp at this
  | _ :: _, [], h, _ => by have := h.1; simp at this
  | a :: as, l :: L, h, hp => by
    obtain ⟨n, l', e1, e2⟩ := h.2 0 a rfl
    have e1 : l = l' := by simpa using e1
    subst e1
    exact ⟨.ref a, as.map D.ref, rfl, .inl ⟨a, l, rfl, e2, snaps_pl _ (pth_pls (hp l List.mem_cons_self))⟩, Inr.snap (as := as) (L := L) ⟨by have := h.1; simpa using this, fun i x ex => h.2 (i + 1) x (by simpa using ex)⟩ fun fs m => hp fs (List.mem_cons_of_mem _ m)⟩
theorem deps_paths : ∀ {L : List (List D)}, (∀ fs ∈ L, Pth fs) → T.deps (L.map pathT) ≤ 4
  | [], _ => by show (0 : Nat) ≤ 4; omega
  | l :: L, h => by
    have h1 := pth_dep (h l List.mem_cons_self)
    have h2 := deps_paths (L := L) fun fs m => h fs (List.mem_cons_of_mem _ m)
    show max (T.deps (plTs l) + 1) (T.deps (L.map pathT)) ≤ 4
    omega
theorem won_w18 {v : D} (h : WoN ns4 v) : v ∈ w18 := by
  rcases h with rfl | ⟨i, rfl, h1, h2⟩ | m | ⟨n, m, rfl⟩
  · decide
  · have : i = -4 ∨ i = -3 ∨ i = -2 ∨ i = -1 ∨ i = 0 ∨ i = 1 ∨ i = 2 ∨ i = 3 ∨ i = 4 := by omega
    rcases this with rfl | rfl | rfl | rfl | rfl | rfl | rfl | rfl | rfl <;> decide
  · simp only [List.mem_cons, List.not_mem_nil, or_false] at m
    rcases m with rfl | rfl | rfl | rfl <;> decide
  · exact List.mem_append_right _ (List.mem_map.mpr ⟨n, m, rfl⟩)
theorem w18_wor {v : D} (h : v ∈ w18) : Wor v := by
  rcases targ_nam v h with e | ⟨m, e⟩
  · rcases targ_cases h with ⟨r, n, _, e2, hn⟩ | ⟨rfl | ⟨i, rfl⟩ | ⟨l, rfl⟩, _⟩
    · obtain ⟨i, j, rfl⟩ := hn
      rw [e] at e2; cases e2
    · exact .inl rfl
    · exact .inr (.inl ⟨_, rfl⟩)
    · exact .inr (.inr (.inl ⟨_, rfl⟩))
  · exact .inr (.inr (.inr ⟨_, ns4_nam _ m, e⟩))
theorem ref_w18 {n : D} (h : n ∈ ns4) : D.tup [.str [114, 101, 102], n] ∈ w18 := List.mem_append_right _ (List.mem_map.mpr ⟨n, h, rfl⟩)
theorem chm_of {i j : Int} {n f v : D} (hn : n ∈ ns4) (hf : f ∈ fl4) (hv : v ∈ w18) : Chm (.tup [.tup [.int i, .int j], n, f, v]) := ⟨⟨_, _, _, _, rfl, ⟨_, _, rfl⟩, ns4_nam n hn, fl4_fld hf, w18_wor hv⟩, hv⟩
def sp__law_paths : DSp := fun ds A R _ => ∃ b dg, ds = [.ref b] ∧ Box A b dg ∧ ∀ p as L A', Sm [b] A A' → Box A' b dg → A p = none → A' p = some (.lst (as.map D.ref)) → (∀ a ∈ as, A a = none) → Inr A' [p] as L → (∀ fs ∈ L, Pth fs) → L.length ≤ 9 → R (.ref p) A'
def sp__law_more : DSp := fun ds A R _ => ∃ b dg k, ds = [.ref b, .int k] ∧ Box A b dg ∧ ∀ p xs A', Sm [b] A A' → Box A' b dg → A p = none → A' p = some (.lst xs) → (∀ c ∈ xs, Chm c) → xs.length ≤ 5 → R (.ref p) A'
def sp__law_state (C : Addr) : DSp := fun ds A R _ => ∃ r xs, ds = [.ref r] ∧ A r = some (.lst xs) ∧ (∀ c ∈ xs, Chm c) ∧ xs.length ≤ 100 ∧ ∀ s d A', Sm [] A A' → A s = none → A d = none → St A' C s d (cellsOf xs) → R (.ref s) A'
/-- a watcher at w -/
def Wtc (A : AH) (CW w s pp tt : Addr) (as : List Addr) (vs : List D) : Prop := A w = some (.ins CW [("state", .ref s), ("paths", .ref pp), ("told", .ref tt)]) ∧ A pp = some (.lst (as.map D.ref)) ∧ A tt = some (.lst vs) ∧ pp ≠ tt
def sp_Watcher___init__ (CW : Addr) : DSp := fun ds A R _ => ∃ w s, ds = [.ref w, .ref s] ∧ A w = some (.ins CW []) ∧ ∀ pp tt A', Sm [w] A A' → A pp = none → A tt = none → Wtc A' CW w s pp tt [] [] → R .non A'
def sp_Watcher_watch (CS CW : Addr) : DSp := fun ds A R _ => ∃ w s d kvs pp tt as vs q fs, ds = [.ref w, .ref q] ∧ Wtc A CW w s pp tt as vs ∧ St A CS s d kvs ∧ Kv kvs ∧ A q = some (.lst fs) ∧ Pth fs ∧ as.length ≤ 100 ∧ vs.length ≤ 100 ∧ q ≠ pp ∧
  ∀ z A', Sm [pp, tt] A A' → A z = none → A' z = some (.lst fs) → Wtc A' CW w s pp tt (as ++ [z]) (vs ++ [vat kvs root fs]) → R (vat kvs root fs) A'
/- _law_paths: 0 _law_box_here, 1 _law_found, 2 _law_turn, 3 _law_path, 4 _law_k -/
def _law_paths_p3 : DTS := dSeq (dAsg (dLc (diR1 (dCons (dCal sp__law_draw (dCons (dV 0) (dCons (dC (.int 5)) (dNil)))) (dNil))) (dName 4) (dYes) (dOp mIx (dLst (dCons (dC (.str [110, 101, 120, 116])) (dCons (dC (.str [97])) (dCons (dC (.str [98])) (dCons (dC (.str [110, 101, 120, 116])) (dCons (dC (.str [122])) (dNil))))))) (dCal sp__law_draw (dCons (dV 0) (dCons (dC (.int 5)) (dNil))))) [4]) (dName 3)) (
  dIf (dB (dOp (fInT true) (dV 3) (dV 1))) (dDrop (dBm isL fAppend (dV 1) (dCons (dV 3) (dNil)))) (dNext))
def _law_paths_p2 : DTS := dSeq (dFor (diR1 (dCons (dOp fAdd (dC (.int 3)) (dCal sp__law_draw (dCons (dV 0) (dCons (dC (.int 7)) (dNil))))) (dNil))) (dName 2) ((_law_paths_p3))) (
  dRet (dV 1))
def _law_paths_p1 : DTS := dSeq (dAsg (dLst (dNil)) (dName 1)) (
  (_law_paths_p2))
def t__law_paths : DTS := dSeq (dAsg (dLst (dNil)) (dName 1)) (
  dSeq (dFor (diR1 (dCons (dOp fAdd (dC (.int 3)) (dCal sp__law_draw (dCons (dV 0) (dCons (dC (.int 7)) (dNil))))) (dNil))) (dName 2) (dSeq (dAsg (dLc (diR1 (dCons (dCal sp__law_draw (dCons (dV 0) (dCons (dC (.int 5)) (dNil)))) (dNil))) (dName 4) (dYes) (dOp mIx (dLst (dCons (dC (.str [110, 101, 120, 116])) (dCons (dC (.str [97])) (dCons (dC (.str [98])) (dCons (dC (.str [110, 101, 120, 116])) (dCons (dC (.str [122])) (dNil))))))) (dCal sp__law_draw (dCons (dV 0) (dCons (dC (.int 5)) (dNil))))) [4]) (dName 3)) (
  dIf (dB (dOp (fInT true) (dV 3) (dV 1))) (dDrop (dBm isL fAppend (dV 1) (dCons (dV 3) (dNil)))) (dNext)))) (
  dRet (dV 1)))
/- _law_more: 0 _law_box_here, 1 _law_clock, 2 _law_names, 3 _law_found, 4 _law_turn, 5 _law_value -/
def _law_more_p5 : DTS := dSeq (dIf (dB (dOp (mEq false) (dCal sp__law_draw (dCons (dV 0) (dCons (dC (.int 3)) (dNil)))) (dC (.int 0)))) (dAsg (dTup (dCons (dC (.str [114, 101, 102])) (dCons (dCal sp__law_pick (dCons (dV 0) (dCons (dV 2) (dNil)))) (dNil)))) (dName 5)) (dNext)) (
  dDrop (dBm isL fAppend (dV 3) (dCons (dTup (dCons (dTup (dCons (dOp fAdd (dOp fAdd (dV 1) (dC (.int 1))) (dV 4)) (dCons (dCal sp__law_draw (dCons (dV 0) (dCons (dC (.int 3)) (dNil)))) (dNil)))) (dCons (dCal sp__law_pick (dCons (dV 0) (dCons (dV 2) (dNil)))) (dCons (dOp mIx (dLst (dCons (dC (.str [110, 101, 120, 116])) (dCons (dC (.str [97])) (dCons (dC (.str [98])) (dCons (dC (.str [110, 101, 120, 116])) (dNil)))))) (dCal sp__law_draw (dCons (dV 0) (dCons (dC (.int 4)) (dNil))))) (dCons (dV 5) (dNil)))))) (dNil))))
def _law_more_p4 : DTS := dSeq (dAsg (dCal sp__law_worth (dCons (dV 0) (dCons (dV 2) (dNil)))) (dName 5)) (
  (_law_more_p5))
def _law_more_p3 : DTS := dSeq (dFor (diR1 (dCons (dOp fAdd (dC (.int 1)) (dCal sp__law_draw (dCons (dV 0) (dCons (dC (.int 5)) (dNil))))) (dNil))) (dName 4) ((_law_more_p4))) (
  dRet (dV 3))
def _law_more_p2 : DTS := dSeq (dAsg (dLst (dNil)) (dName 3)) (
  (_law_more_p3))
def _law_more_p1 : DTS := dSeq (dAsg (dLst (dCons (dTup (dCons (dC (.int 0)) (dCons (dC (.int 0)) (dNil)))) (dCons (dTup (dCons (dC (.int 0)) (dCons (dC (.int 1)) (dNil)))) (dCons (dTup (dCons (dC (.int 1)) (dCons (dC (.int 0)) (dNil)))) (dCons (dTup (dCons (dC (.int 2)) (dCons (dC (.int 0)) (dNil)))) (dNil)))))) (dName 2)) (
  (_law_more_p2))
def t__law_more : DTS := dSeq (dAsg (dLst (dCons (dTup (dCons (dC (.int 0)) (dCons (dC (.int 0)) (dNil)))) (dCons (dTup (dCons (dC (.int 0)) (dCons (dC (.int 1)) (dNil)))) (dCons (dTup (dCons (dC (.int 1)) (dCons (dC (.int 0)) (dNil)))) (dCons (dTup (dCons (dC (.int 2)) (dCons (dC (.int 0)) (dNil)))) (dNil)))))) (dName 2)) (
  dSeq (dAsg (dLst (dNil)) (dName 3)) (
  dSeq (dFor (diR1 (dCons (dOp fAdd (dC (.int 1)) (dCal sp__law_draw (dCons (dV 0) (dCons (dC (.int 5)) (dNil))))) (dNil))) (dName 4) (dSeq (dAsg (dCal sp__law_worth (dCons (dV 0) (dCons (dV 2) (dNil)))) (dName 5)) (
  dSeq (dIf (dB (dOp (mEq false) (dCal sp__law_draw (dCons (dV 0) (dCons (dC (.int 3)) (dNil)))) (dC (.int 0)))) (dAsg (dTup (dCons (dC (.str [114, 101, 102])) (dCons (dCal sp__law_pick (dCons (dV 0) (dCons (dV 2) (dNil)))) (dNil)))) (dName 5)) (dNext)) (
  dDrop (dBm isL fAppend (dV 3) (dCons (dTup (dCons (dTup (dCons (dOp fAdd (dOp fAdd (dV 1) (dC (.int 1))) (dV 4)) (dCons (dCal sp__law_draw (dCons (dV 0) (dCons (dC (.int 3)) (dNil)))) (dNil)))) (dCons (dCal sp__law_pick (dCons (dV 0) (dCons (dV 2) (dNil)))) (dCons (dOp mIx (dLst (dCons (dC (.str [110, 101, 120, 116])) (dCons (dC (.str [97])) (dCons (dC (.str [98])) (dCons (dC (.str [110, 101, 120, 116])) (dNil)))))) (dCal sp__law_draw (dCons (dV 0) (dCons (dC (.int 4)) (dNil))))) (dCons (dV 5) (dNil)))))) (dNil))))))) (
  dRet (dV 3))))
/- _law_state: 0 _law_changes, 1 _law_state_here, 2 _law_change -/
def _law_state_p2 (C_State : Addr) : DTS := dSeq (dFor (diL (dV 0)) (dName 2) (dDrop (dMet C_State "take" (sp_State_take C_State) (dV 1) (dCons (dV 2) (dNil))))) (
  dRet (dV 1))
def _law_state_p1 (C_State : Addr) : DTS := dSeq (dAsg (dMak C_State (sp_State___init__ C_State) dNil) (dName 1)) (
  (_law_state_p2 C_State))
def t__law_state (C_State : Addr) : DTS := dSeq (dAsg (dMak C_State (sp_State___init__ C_State) dNil) (dName 1)) (
  dSeq (dFor (diL (dV 0)) (dName 2) (dDrop (dMet C_State "take" (sp_State_take C_State) (dV 1) (dCons (dV 2) (dNil))))) (
  dRet (dV 1)))
/- Watcher.__init__: 0 self, 1 state -/
def Watcher___init___p2 (C_Watcher : Addr) : DTS := dSeq (sFld C_Watcher "paths" (dV 0) (dLst (dNil))) (
  sFld C_Watcher "told" (dV 0) (dLst (dNil)))
def Watcher___init___p1 (C_Watcher : Addr) : DTS := dSeq (sFld C_Watcher "state" (dV 0) (dV 1)) (
  (Watcher___init___p2 C_Watcher))
def t_Watcher___init__ (C_Watcher : Addr) : DTS := dSeq (sFld C_Watcher "state" (dV 0) (dV 1)) (
  dSeq (sFld C_Watcher "paths" (dV 0) (dLst (dNil))) (
  sFld C_Watcher "told" (dV 0) (dLst (dNil))))
/- Watcher.watch: 0 self, 1 path -/
def Watcher_watch_p2 (C_State C_Watcher : Addr) : DTS := dSeq (dDrop (dBm isL fAppend (dFld C_Watcher "told" (dV 0)) (dCons (dCal (sp_value_at C_State) (dCons (dFld C_Watcher "state" (dV 0)) (dCons (dV 1) (dNil)))) (dNil)))) (
  dRet (dOp mIx (dFld C_Watcher "told" (dV 0)) (dUn fNeg (dC (.int 1)))))
def Watcher_watch_p1 (C_State C_Watcher : Addr) : DTS := dSeq (dDrop (dBm isL fAppend (dFld C_Watcher "paths" (dV 0)) (dCons (dCall fListOf (dCons (dV 1) (dNil))) (dNil)))) (
  (Watcher_watch_p2 C_State C_Watcher))
def t_Watcher_watch (C_State C_Watcher : Addr) : DTS := dSeq (dDrop (dBm isL fAppend (dFld C_Watcher "paths" (dV 0)) (dCons (dCall fListOf (dCons (dV 1) (dNil))) (dNil)))) (
  dSeq (dDrop (dBm isL fAppend (dFld C_Watcher "told" (dV 0)) (dCons (dCal (sp_value_at C_State) (dCons (dFld C_Watcher "state" (dV 0)) (dCons (dV 1) (dNil)))) (dNil)))) (
  dRet (dOp mIx (dFld C_Watcher "told" (dV 0)) (dUn fNeg (dC (.int 1))))))
theorem q__law_paths : ∀ ds A R E, ds.length = 1 → sp__law_paths ds A R E → t__law_paths { nx := fun _ A' => R .non A', rt := R } (ds.map some ++ List.replicate (5 - ds.length) none) A := by
  rintro ds A R E - ⟨b, dg, rfl, B, hR⟩
  show _law_paths_p1 _ [some (.ref b), none, none, none, none] A
  generalize hDD : ({ nx := fun _ A' => R .non A', rt := R } : DE) = DD
  have hrt : DD.rt = R := by rw [← hDD]
  unfold _law_paths_p1
  rw [dSeq_ap, dAsg_ap]
  dsimp only [dSeq, dIf, dAsg, dName, dRet, dRetN, dDrop, dNext, dB, dTru, dOp, dUn, dCall, dCons, dNil, dC, dV, dTup, dLst, dCal, dMet, dMak, dFld, DL.sFld, dBm, dgSub, dgTup, dgCons, dgNil, dAndT, dOrT, dNotT, dOr, dAnd, dNotE, dIsi, dSl, dNoP, dPart, dDNew, dNever, fInt, fMod, fAdd_int, fSub, fMul, fDiv, fPow, fI2, fI2C, fNeg, mLt, List.getElem?_cons_succ, List.getElem?_cons_zero, List.set_cons_zero, List.set_cons_succ, dMetX, dCalX, dRaise, dErr1, dXf, dIsE]
  intro p hp
  have B1 := B.new (o := .lst []) hp
  have pb : p ≠ b := (B.b_ne hp).symm
  have pd : p ≠ dg := (B.d_ne hp).symm
  have s1 : Sm [b] A (up A p (.lst [])) := Sm.new hp
  have e1 : up A p (.lst []) p = some (.lst []) := up_same
  generalize up A p (.lst []) = A1 at B1 s1 e1 ⊢
  try dsimp only [dNext, dName, List.set_cons_zero, List.set_cons_succ]
  unfold _law_paths_p2
  rw [dSeq_ap, dFor_r1]
  dsimp only [dOp, dCal, dCons, dNil, dV, dC, List.getElem?_cons_succ, List.getElem?_cons_zero]
  refine ⟨b, dg, 7, rfl, by decide, B1, fun v A2 v0 v1 s2 B2 => ?_⟩
  dsimp only [fAdd_int]
  obtain ⟨k, hk, k9⟩ : ∃ k : Nat, (3 : Int) + v = (k : Int) ∧ k ≤ 9 := ⟨(3 + v).toNat, by omega, by omega⟩
  rw [hk]
  have e2 := s2 p _ (by simpa using pb) e1
  have s12 := s1.trans s2
  have bx : ∀ c ∈ [b], ∃ o, A c = some o := fun c m => by rw [List.mem_singleton.mp m]; obtain ⟨_, e, _⟩ := B.bx; exact ⟨_, e⟩
  refine for_r1 (tb := _law_paths_p3) (by unfold small62; omega) (fun i σ A' => ∃ x2 x3 x4 as L, σ = [some (.ref b), some (.ref p), x2, x3, x4] ∧ Sm [b] A A' ∧ Box A' b dg ∧ A' p = some (.lst (as.map D.ref)) ∧ (∀ a ∈ as, A a = none) ∧ Inr A' [p] as L ∧ (∀ fs ∈ L, Pth fs) ∧ L.length ≤ i) ⟨_, _, _, [], [], rfl, s12, B2, e2, (fun _ m => nomatch m), Inr.nil, (fun _ m => nomatch m), Nat.le_refl _⟩ ?_ ?_ (fun Q q => q)
  · rintro i σ A3 hi ⟨x2, x3, x4, as, L, rfl, s3, B3, e3, fr, hI, hP, hl⟩
    have hi : i < k := hi
    have al := hI.1
    try dsimp only [dNext, dName, List.set_cons_zero, List.set_cons_succ]
    unfold _law_paths_p3
    rw [dSeq_ap, dAsg_ap, dLc_r1]
    dsimp only [dCal, dCons, dNil, dV, dC, List.getElem?_cons_zero]
    refine ⟨b, dg, 5, rfl, by decide, B3, fun v A4 v0 v1 s4 B4 => ?_⟩
    obtain ⟨n, rfl⟩ : ∃ n : Nat, v = (n : Int) := ⟨v.toNat, by omega⟩
    have e4 := s4 p _ (by simpa using pb) e3
    refine lc_eff (by omega) (fun q j ys A' => Sm [b] A4 A' ∧ Box A' b dg ∧ (∀ y ∈ ys, y ∈ fl4) ∧ ys.length = j) (fun q hq => ⟨Sm.new hq, B4.new hq, (fun _ h => nomatch h), rfl⟩) ?_ ?_
    · rintro q j ys A' hq hj ⟨s, B', oy, ly⟩ e _ K hK
      have qb : q ≠ b := (B4.b_ne hq).symm
      have q0 := hq
      dsimp only [dwipe, dOp, dLst, dCall, dCal, dCons, dNil, dV, dC, List.set_cons_zero, List.set_cons_succ, List.getElem?_cons_succ, List.getElem?_cons_zero]
      intro z hz
      refine ⟨b, dg, 5, rfl, by decide, B'.new hz, fun w A5 w0 w1 s5 B5 => ?_⟩
      have zb : z ≠ b := (B'.b_ne hz).symm
      have sz : Sm [b] A' A5 := (Sm.new hz).trans s5
      refine mIx_mem (s5 z _ (by simpa using zb) up_same) w0 (by simpa using w1) fun d hd => ?_
      have e5 := sz q _ (by simpa using qb) e
      refine hK _ _ e5 ⟨?_, B5.keep (W := [q]) (Sm.put (by simp)) (by simpa using qb.symm) (by simpa using B4.d_ne q0), fun y my => ?_, by rw [List.length_append, List.length_singleton, ly]⟩
      · exact (((s.trans sz).weak (V := [b, q]) (by simp)).trans (Sm.put (by simp))).drop fun a ma => by
          simp at ma
          rcases ma with rfl | rfl
          · exact .inl (by simp)
          · exact .inr q0
      · rcases List.mem_append.mp my with my | my
        · exact oy y my
        · rw [List.mem_singleton.mp my]
          simp only [List.mem_cons, List.not_mem_nil, or_false] at hd
          rcases hd with rfl | rfl | rfl | rfl | rfl <;> decide
    · rintro q ys A' hq ⟨s, B', oy, ly⟩ e _
      have s' := s3.trans (s4.trans s)
      have q0 : A q = none := (s3.trans s4).noneW (fun c m => by rw [List.mem_singleton.mp m]; obtain ⟨_, e, _⟩ := B4.bx; exact ⟨_, e⟩) hq
      have qp : q ≠ p := (ne_nn e4 hq).symm
      have py : Pth ys := ⟨by omega, oy⟩
      have ep := s p _ (by simpa using pb) e4
      have hI' : Inr A' [p] as L := ⟨hI.1, fun j a ea => by
        obtain ⟨n1, l, e1, e2⟩ := hI.2 j a ea
        have ab : a ≠ b := fun z => by
          have := fr a (List.mem_of_getElem? ea)
          rw [z] at this
          obtain ⟨_, e, _⟩ := B.bx
          rw [this] at e; cases e
        exact ⟨n1, l, e1, s a _ (by simpa using ab) (s4 a _ (by simpa using ab) e2)⟩⟩
      try dsimp only [dNext, dName, List.set_cons_zero, List.set_cons_succ]
      rw [dIf_ap]
      dsimp only [dSeq, dIf, dAsg, dName, dRet, dRetN, dDrop, dNext, dB, dTru, dOp, dUn, dCall, dCons, dNil, dC, dV, dTup, dLst, dCal, dMet, dMak, dFld, DL.sFld, dBm, dgSub, dgTup, dgCons, dgNil, dAndT, dOrT, dNotT, dOr, dAnd, dNotE, dIsi, dSl, dNoP, dPart, dDNew, dNever, fInt, fMod, fAdd_int, fSub, fMul, fDiv, fPow, fI2, fI2C, fNeg, mLt, List.getElem?_cons_succ, List.getElem?_cons_zero, List.set_cons_zero, List.set_cons_succ, dMetX, dCalX, dRaise, dErr1, dXf, dIsE]
      refine ⟨pathT ys, L.map pathT, .inl ⟨q, ys, rfl, e, snaps_pl _ (pth_pls py)⟩, .inl ⟨p, _, rfl, ep, hI'.snap hP⟩, by have := pth_dep py; show T.deps (plTs ys) + 1 ≤ 60; omega, by have := deps_paths hP; omega, ?_⟩
      dsimp only
      refine ifB (fun _ => ?_) (fun _ => ?_)
      · refine ⟨⟨_, ep⟩, fAppend_lst ep (by rw [List.length_map]; show _ < 16777216; omega) ?_⟩
        refine ⟨_, _, _, as ++ [q], L ++ [ys], rfl, ?_, ?_, by rw [up_same, List.map_append]; rfl, fun a ma => ?_, ?_, fun fs mf => ?_, by rw [List.length_append, List.length_singleton]; omega⟩
        · exact ((s'.weak (V := [b, p]) (by simp)).trans (Sm.put (by simp))).drop fun a ma => by
            simp at ma
            rcases ma with rfl | rfl
            · exact .inl (by simp)
            · exact .inr hp
        · exact B'.keep (W := [p]) (Sm.put (by simp)) (by simpa using pb.symm) (by simpa using pd.symm)
        · rcases List.mem_append.mp ma with ma | ma
          · exact fr a ma
          · rw [List.mem_singleton.mp ma]; exact q0
        · refine (hI'.keep fun a xs n e => ?_).app (by simpa using qp) (by rw [up_ne qp]; exact e)
          rw [up_ne (by simpa using n)]; exact e
        · rcases List.mem_append.mp mf with mf | mf
          · exact hP fs mf
          · rw [List.mem_singleton.mp mf]; exact py
      · exact ⟨_, _, _, as, L, rfl, s', B', ep, fr, hI', hP, by omega⟩
  · rintro σ A3 ⟨x2, x3, x4, as, L, rfl, s3, B3, e3, fr, hI, hP, hl⟩
    have hl : L.length ≤ k := hl
    try dsimp only [dNext, dName, List.set_cons_zero, List.set_cons_succ]
    rw [dRet_ap, hrt]
    dsimp only [dV, List.getElem?_cons_succ, List.getElem?_cons_zero]
    exact hR p as L A3 s3 B3 hp e3 fr hI hP (by omega)
theorem q__law_more : ∀ ds A R E, ds.length = 2 → sp__law_more ds A R E → t__law_more { nx := fun _ A' => R .non A', rt := R } (ds.map some ++ List.replicate (6 - ds.length) none) A := by
  rintro ds A R E - ⟨b, dg, ck, rfl, B, hR⟩
  show _law_more_p1 _ [some (.ref b), some (.int ck), none, none, none, none] A
  generalize hDD : ({ nx := fun _ A' => R .non A', rt := R } : DE) = DD
  have hrt : DD.rt = R := by rw [← hDD]
  unfold _law_more_p1
  rw [dSeq_ap, dAsg_ap]
  dsimp only [dSeq, dIf, dAsg, dName, dRet, dRetN, dDrop, dNext, dB, dTru, dOp, dUn, dCall, dCons, dNil, dC, dV, dTup, dLst, dCal, dMet, dMak, dFld, DL.sFld, dBm, dgSub, dgTup, dgCons, dgNil, dAndT, dOrT, dNotT, dOr, dAnd, dNotE, dIsi, dSl, dNoP, dPart, dDNew, dNever, fInt, fMod, fAdd_int, fSub, fMul, fDiv, fPow, fI2, fI2C, fNeg, mLt, List.getElem?_cons_succ, List.getElem?_cons_zero, List.set_cons_zero, List.set_cons_succ, dMetX, dCalX, dRaise, dErr1, dXf, dIsE]
  intro nm hn
  have B1 := B.new (o := .lst ns4) hn
  have nb : nm ≠ b := (B.b_ne hn).symm
  have s1 : Sm [b] A (up A nm (.lst ns4)) := Sm.new hn
  have e1 : up A nm (.lst ns4) nm = some (.lst ns4) := up_same
  show _law_more_p2 _ _ (up A nm (.lst ns4))
  generalize up A nm (.lst ns4) = A1 at B1 s1 e1 ⊢
  try dsimp only [dNext, dName, List.set_cons_zero, List.set_cons_succ]
  unfold _law_more_p2
  rw [dSeq_ap, dAsg_ap]
  dsimp only [dSeq, dIf, dAsg, dName, dRet, dRetN, dDrop, dNext, dB, dTru, dOp, dUn, dCall, dCons, dNil, dC, dV, dTup, dLst, dCal, dMet, dMak, dFld, DL.sFld, dBm, dgSub, dgTup, dgCons, dgNil, dAndT, dOrT, dNotT, dOr, dAnd, dNotE, dIsi, dSl, dNoP, dPart, dDNew, dNever, fInt, fMod, fAdd_int, fSub, fMul, fDiv, fPow, fI2, fI2C, fNeg, mLt, List.getElem?_cons_succ, List.getElem?_cons_zero, List.set_cons_zero, List.set_cons_succ, dMetX, dCalX, dRaise, dErr1, dXf, dIsE]
  intro p hp1
  have hp : A p = none := s1.noneW (fun c m => by rw [List.mem_singleton.mp m]; obtain ⟨_, e, _⟩ := B1.bx; exact ⟨_, e⟩) hp1
  have pn : nm ≠ p := ne_nn e1 hp1
  have pb : p ≠ b := (B.b_ne hp).symm
  have pd : p ≠ dg := (B.d_ne hp).symm
  have B2 := B1.new (o := .lst []) hp1
  have s2 : Sm [b] A (up A1 p (.lst [])) := s1.trans (Sm.new hp1)
  have e2 : up A1 p (.lst []) p = some (.lst []) := up_same
  have n2 : up A1 p (.lst []) nm = some (.lst ns4) := up_at e1 hp1
  generalize up A1 p (.lst []) = A2 at B2 s2 e2 n2 ⊢
  try dsimp only [dNext, dName, List.set_cons_zero, List.set_cons_succ]
  unfold _law_more_p3
  rw [dSeq_ap, dFor_r1]
  dsimp only [dOp, dCal, dCons, dNil, dV, dC, List.getElem?_cons_succ, List.getElem?_cons_zero]
  refine ⟨b, dg, 5, rfl, by decide, B2, fun v A3 v0 v1 s3 B3 => ?_⟩
  dsimp only [fAdd_int]
  obtain ⟨k, hk, k9⟩ : ∃ k : Nat, (1 : Int) + v = (k : Int) ∧ k ≤ 5 := ⟨(1 + v).toNat, by omega, by omega⟩
  rw [hk]
  refine for_r1 (tb := _law_more_p4) (by unfold small62; omega) (fun i σ A' => ∃ x4 x5 xs, σ = [some (.ref b), some (.int ck), some (.ref nm), some (.ref p), x4, x5] ∧ Sm [b] A A' ∧ Box A' b dg ∧ A' nm = some (.lst ns4) ∧ A' p = some (.lst xs) ∧ (∀ c ∈ xs, Chm c) ∧ xs.length ≤ i) ⟨_, _, [], rfl, s2.trans s3, B3, s3 _ _ (by simpa using nb) n2, s3 _ _ (by simpa using pb) e2, (fun _ m => nomatch m), Nat.le_refl _⟩ ?_ ?_ (fun Q q => q)
  · rintro i σ A4 hi ⟨x4, x5, xs, rfl, s4, B4, n4, e4, hc, hl⟩
    have hi : i < k := hi
    try dsimp only [dNext, dName, List.set_cons_zero, List.set_cons_succ]
    unfold _law_more_p4
    rw [dSeq_ap, dAsg_ap]
    dsimp only [dSeq, dIf, dAsg, dName, dRet, dRetN, dDrop, dNext, dB, dTru, dOp, dUn, dCall, dCons, dNil, dC, dV, dTup, dLst, dCal, dMet, dMak, dFld, DL.sFld, dBm, dgSub, dgTup, dgCons, dgNil, dAndT, dOrT, dNotT, dOr, dAnd, dNotE, dIsi, dSl, dNoP, dPart, dDNew, dNever, fInt, fMod, fAdd_int, fSub, fMul, fDiv, fPow, fI2, fI2C, fNeg, mLt, List.getElem?_cons_succ, List.getElem?_cons_zero, List.set_cons_zero, List.set_cons_succ, dMetX, dCalX, dRaise, dErr1, dXf, dIsE]
    refine ⟨b, dg, nm, ns4, rfl, B4, n4, nb, by decide, fun val A5 hv s5 B5 => ?_⟩
    have hv := won_w18 hv
    have n5 := s5 _ _ (by simpa using nb) n4
    have e5 := s5 _ _ (by simpa using pb) e4
    have app : ∀ val A6, val ∈ w18 → Sm [b] A A6 → Box A6 b dg → A6 nm = some (.lst ns4) → A6 p = some (.lst xs) → dDrop (dBm isL fAppend (dV 3) (dCons (dTup (dCons (dTup (dCons (dOp fAdd (dOp fAdd (dV 1) (dC (.int 1))) (dV 4)) (dCons (dCal sp__law_draw (dCons (dV 0) (dCons (dC (.int 3)) (dNil)))) (dNil)))) (dCons (dCal sp__law_pick (dCons (dV 0) (dCons (dV 2) (dNil)))) (dCons (dOp mIx (dLst (dCons (dC (.str [110, 101, 120, 116])) (dCons (dC (.str [97])) (dCons (dC (.str [98])) (dCons (dC (.str [110, 101, 120, 116])) (dNil)))))) (dCal sp__law_draw (dCons (dV 0) (dCons (dC (.int 4)) (dNil))))) (dCons (dV 5) (dNil)))))) (dNil)))
        { nx := fun σ A' => ∃ x4 x5 xs, σ = [some (.ref b), some (.int ck), some (.ref nm), some (.ref p), x4, x5] ∧ Sm [b] A A' ∧ Box A' b dg ∧ A' nm = some (.lst ns4) ∧ A' p = some (.lst xs) ∧ (∀ c ∈ xs, Chm c) ∧ xs.length ≤ i + 1, rt := DD.rt } [some (.ref b), some (.int ck), some (.ref nm), some (.ref p), some (.int (0 + (i : Int))), some val] A6 := by
      intro val A6 hv s6 B6 n6 e6
      rw [dDrop_ap]
      dsimp only [dSeq, dIf, dAsg, dName, dRet, dRetN, dDrop, dNext, dB, dTru, dOp, dUn, dCall, dCons, dNil, dC, dV, dTup, dLst, dCal, dMet, dMak, dFld, DL.sFld, dBm, dgSub, dgTup, dgCons, dgNil, dAndT, dOrT, dNotT, dOr, dAnd, dNotE, dIsi, dSl, dNoP, dPart, dDNew, dNever, fInt, fMod, fAdd_int, fSub, fMul, fDiv, fPow, fI2, fI2C, fNeg, mLt, List.getElem?_cons_succ, List.getElem?_cons_zero, List.set_cons_zero, List.set_cons_succ, dMetX, dCalX, dRaise, dErr1, dXf, dIsE]
      refine ⟨⟨_, e6⟩, ?_⟩
      refine ⟨b, dg, 3, rfl, by decide, B6, fun w A7 w0 w1 s7 B7 => ?_⟩
      have n7 := s7 _ _ (by simpa using nb) n6
      refine ⟨b, dg, nm, ns4, rfl, B7, n7, nb, by decide, fun n A8 mn s8 B8 => ?_⟩
      intro z hz
      refine ⟨b, dg, 4, rfl, by decide, B8.new hz, fun w2 A9 w20 w21 s9 B9 => ?_⟩
      have zb : z ≠ b := (B8.b_ne hz).symm
      refine mIx_mem (s9 z _ (by simpa using zb) up_same) w20 (by simpa using w21) fun f hf => ?_
      have mf : f ∈ fl4 := by
        simp only [List.mem_cons, List.not_mem_nil, or_false] at hf
        rcases hf with rfl | rfl | rfl | rfl <;> decide
      have s69 : Sm [b] A6 A9 := (s7.trans s8).trans ((Sm.new hz).trans s9)
      have e9 := s69 _ _ (by simpa using pb) e6
      refine fAppend_lst e9 (by show _ < 16777216; omega) ?_
      refine ⟨_, _, _, rfl, ?_, B9.keep (W := [p]) (Sm.put (by simp)) (by simpa using pb.symm) (by simpa using pd.symm), by rw [up_ne pn]; exact s69 _ _ (by simpa using nb) n6, up_same, fun c mc => ?_, by rw [List.length_append, List.length_singleton]; omega⟩
      · exact (((s6.trans s69).weak (V := [b, p]) (by simp)).trans (Sm.put (by simp))).drop fun a ma => by
          simp at ma
          rcases ma with rfl | rfl
          · exact .inl (by simp)
          · exact .inr hp
      · rcases List.mem_append.mp mc with mc | mc
        · exact hc c mc
        · rw [List.mem_singleton.mp mc]; exact chm_of mn mf hv
    try dsimp only [dNext, dName, List.set_cons_zero, List.set_cons_succ]
    unfold _law_more_p5
    rw [dSeq_ap, dIf_ap]
    dsimp only [dB, dOp, dCal, dCons, dNil, dV, dC, List.getElem?_cons_succ, List.getElem?_cons_zero]
    refine ⟨b, dg, 3, rfl, by decide, B5, fun w A6 w0 w1 s6 B6 => mEq_pl rfl rfl ?_⟩
    have n6 := s6 _ _ (by simpa using nb) n5
    have e6 := s6 _ _ (by simpa using pb) e5
    have s46 := (s4.trans s5).trans s6
    dsimp only
    refine ifB (fun _ => ?_) (fun _ => ?_)
    · rw [dAsg_ap]
      dsimp only [dTup, dCal, dCons, dNil, dV, dC, List.getElem?_cons_succ, List.getElem?_cons_zero]
      refine ⟨b, dg, nm, ns4, rfl, B6, n6, nb, by decide, fun n A7 mn s7 B7 => ?_⟩
      exact app _ A7 (ref_w18 mn) (s46.trans s7) B7 (s7 _ _ (by simpa using nb) n6) (s7 _ _ (by simpa using pb) e6)
    · exact app _ A6 hv s46 B6 n6 e6
  · rintro σ A4 ⟨x4, x5, xs, rfl, s4, B4, n4, e4, hc, hl⟩
    have hl : xs.length ≤ k := hl
    try dsimp only [dNext, dName, List.set_cons_zero, List.set_cons_succ]
    rw [dRet_ap, hrt]
    dsimp only [dV, List.getElem?_cons_succ, List.getElem?_cons_zero]
    exact hR p xs A4 s4 B4 hp e4 hc (by omega)
section
variable {CS CW : Addr}
theorem q__law_state : ∀ ds A R E, ds.length = 1 → sp__law_state CS ds A R E → t__law_state CS { nx := fun _ A' => R .non A', rt := R } (ds.map some ++ List.replicate (3 - ds.length) none) A := by
  rintro ds A R E - ⟨r, xs, rfl, hr, hc, hl, hR⟩
  show t__law_state CS _ [some (.ref r), none, none] A
  dsimp only [t__law_state, dSeq, dIf, dAsg, dName, dRet, dRetN, dDrop, dNext, dB, dTru, dOp, dUn, dCall, dCons, dNil, dC, dV, dTup, dLst, dCal, dMet, dMak, dFld, DL.sFld, dBm, dgSub, dgTup, dgCons, dgNil, dAndT, dOrT, dNotT, dOr, dAnd, dNotE, dIsi, dSl, dNoP, dPart, dDNew, dNever, fInt, fMod, fAdd_int, fSub, fMul, fDiv, fPow, fI2, fI2C, fNeg, mLt, List.getElem?_cons_succ, List.getElem?_cons_zero, List.set_cons_zero, List.set_cons_succ]
  intro s hs
  refine ⟨s, rfl, up_same, fun d A1 ds d0 s1 st => ⟨rfl, ?_⟩⟩
  have d0' : A d = none := by rw [up_ne ds] at d0; exact d0
  have s01 : Sm [] A A1 := (((Sm.new hs).trans s1).drop fun a m => .inr (by rw [List.mem_singleton.mp m]; exact hs))
  refine for_l (s01 r _ (by simp) hr) (fun i σ A' => ∃ x2, σ = [some (.ref r), some (.ref s), x2] ∧ Sm [] A A' ∧ St A' CS s d (cellsOf (xs.take i))) ⟨none, rfl, s01, st⟩ (fun i σ A' _ ⟨_, _, s, _⟩ => s r _ (by simp) hr) ?_ ?_ (fun Q q => q)
  · rintro i c σ A2 hx ⟨x2, rfl, s2, st2⟩
    have tk : xs.take (i + 1) = xs.take i ++ [c] := by rw [List.take_succ, hx]; rfl
    obtain ⟨k1, k2⟩ := cellsOf_ok (xs := xs.take i) fun y my => (hc y (List.mem_of_mem_take my)).1
    rw [List.length_take] at k2
    dsimp only [dSeq, dIf, dAsg, dName, dRet, dRetN, dDrop, dNext, dB, dTru, dOp, dUn, dCall, dCons, dNil, dC, dV, dTup, dLst, dCal, dMet, dMak, dFld, DL.sFld, dBm, dgSub, dgTup, dgCons, dgNil, dAndT, dOrT, dNotT, dOr, dAnd, dNotE, dIsi, dSl, dNoP, dPart, dDNew, dNever, fInt, fMod, fAdd_int, fSub, fMul, fDiv, fPow, fI2, fI2C, fNeg, mLt, List.getElem?_cons_succ, List.getElem?_cons_zero, List.set_cons_zero, List.set_cons_succ]
    refine met_of st2.1 rfl ⟨s, d, _, c, rfl, st2, k1, by omega, (hc c (List.mem_of_getElem? hx)).1, fun A3 s3 st3 => ?_⟩
    exact ⟨_, rfl, (s2.of0.trans s3).drop fun a m => .inr (by rw [List.mem_singleton.mp m]; exact d0'), by rw [tk, cellsOf_snoc]; exact st3⟩
  · rintro σ A2 ⟨x2, rfl, s2, st2⟩
    rw [List.take_length] at st2
    exact hR s d A2 s2 hs d0' st2
theorem q_Watcher___init__ : ∀ ds A R E, ds.length = 2 → sp_Watcher___init__ CW ds A R E → t_Watcher___init__ CW { nx := fun _ A' => R .non A', rt := R } (ds.map some ++ List.replicate (2 - ds.length) none) A := by
  rintro ds A R E - ⟨w, s, rfl, hw, hR⟩
  show t_Watcher___init__ CW _ [some (.ref w), some (.ref s)] A
  dsimp only [t_Watcher___init__, dSeq, dIf, dAsg, dName, dRet, dRetN, dDrop, dNext, dB, dTru, dOp, dUn, dCall, dCons, dNil, dC, dV, dTup, dLst, dCal, dMet, dMak, dFld, DL.sFld, dBm, dgSub, dgTup, dgCons, dgNil, dAndT, dOrT, dNotT, dOr, dAnd, dNotE, dIsi, dSl, dNoP, dPart, dDNew, dNever, fInt, fMod, fAdd_int, fSub, fMul, fDiv, fPow, fI2, fI2C, fNeg, mLt, List.getElem?_cons_succ, List.getElem?_cons_zero, List.set_cons_zero, List.set_cons_succ]
  refine sfld_of hw (by decide) ?_
  intro pp hpp
  have pw : w ≠ pp := ne_nn up_same hpp
  refine sfld_of (up_at up_same hpp) (by show (1 : Nat) < 1000; decide) ?_
  intro tt htt
  have tw : w ≠ tt := ne_nn up_same htt
  have tp : pp ≠ tt := ne_nn (by rw [up_ne pw.symm]; exact up_same) htt
  refine sfld_of (up_at up_same htt) (by show (2 : Nat) < 1000; decide) ?_
  have p0 : A pp = none := by rw [up_ne pw.symm] at hpp; exact hpp
  have t0 : A tt = none := by rw [up_ne tw.symm, up_ne tp.symm, up_ne tw.symm] at htt; exact htt
  refine hR pp tt _ ?_ p0 t0 ⟨up_same, ?_, ?_, tp⟩
  · exact ((((Sm.put (by simp)).trans (Sm.new hpp)).trans (Sm.put (by simp))).trans (Sm.new htt)).trans (Sm.put (by simp))
  · rw [up_ne pw.symm, up_ne tp, up_ne pw.symm]; exact up_same
  · rw [up_ne tw.symm]; exact up_same
theorem Wtc.ne {A : AH} {w s pp tt : Addr} {as : List Addr} {vs : List D} (h : Wtc A CW w s pp tt as vs) : w ≠ pp ∧ w ≠ tt := ⟨ne_oo h.1 h.2.1 (by simp), ne_oo h.1 h.2.2.1 (by simp)⟩
theorem gSt {x y z : D} : getS "state" [("state", x), ("paths", y), ("told", z)] = some x := rfl
theorem gPa {x y z : D} : getS "paths" [("state", x), ("paths", y), ("told", z)] = some y := rfl
theorem gTo {x y z : D} : getS "told" [("state", x), ("paths", y), ("told", z)] = some z := rfl
theorem q_Watcher_watch : ∀ ds A R E, ds.length = 2 → sp_Watcher_watch CS CW ds A R E → t_Watcher_watch CS CW { nx := fun _ A' => R .non A', rt := R } (ds.map some ++ List.replicate (2 - ds.length) none) A := by
  rintro ds A R E - ⟨w, s, d, kvs, pp, tt, as, vs, q, fs, rfl, hw, hs, hk, hq, hp, al, vl, qp, hR⟩
  show t_Watcher_watch CS CW _ [some (.ref w), some (.ref q)] A
  obtain ⟨w1, w2⟩ := hw.ne
  dsimp only [t_Watcher_watch, dSeq, dIf, dAsg, dName, dRet, dRetN, dDrop, dNext, dB, dTru, dOp, dUn, dCall, dCons, dNil, dC, dV, dTup, dLst, dCal, dMet, dMak, dFld, DL.sFld, dBm, dgSub, dgTup, dgCons, dgNil, dAndT, dOrT, dNotT, dOr, dAnd, dNotE, dIsi, dSl, dNoP, dPart, dDNew, dNever, fInt, fMod, fAdd_int, fSub, fMul, fDiv, fPow, fI2, fI2C, fNeg, mLt, List.getElem?_cons_succ, List.getElem?_cons_zero, List.set_cons_zero, List.set_cons_succ]
  refine fld_at hw.1 gPa ?_
  refine ⟨⟨_, hw.2.1⟩, listOf_lst hq fun z hz => ?_⟩
  refine fAppend_lst (up_at hw.2.1 hz) (by rw [List.length_map]; show _ < 16777216; omega) ?_
  have zp : z ≠ pp := (ne_nn hw.2.1 hz).symm
  have s1 : Sm [pp, tt] A (up (up A z (.lst fs)) pp (.lst (as.map D.ref ++ [.ref z]))) := (Sm.new hz).trans (Sm.put (by simp))
  have e1 : up (up A z (.lst fs)) pp (.lst (as.map D.ref ++ [.ref z])) pp = some (.lst ((as ++ [z]).map D.ref)) := by rw [up_same, List.map_append]; rfl
  have z1 : up (up A z (.lst fs)) pp (.lst (as.map D.ref ++ [.ref z])) z = some (.lst fs) := by rw [up_ne zp]; exact up_same
  have t1 : up (up A z (.lst fs)) pp (.lst (as.map D.ref ++ [.ref z])) tt = some (.lst vs) := by rw [up_ne hw.2.2.2.symm]; exact up_at hw.2.2.1 hz
  have q1 : up (up A z (.lst fs)) pp (.lst (as.map D.ref ++ [.ref z])) q = some (.lst fs) := by rw [up_ne qp]; exact up_at hq hz
  have sp1 : s ≠ pp := ne_oo hs.1 hw.2.1 (by simp)
  have dp1 : d ≠ pp := ne_oo hs.2 hw.2.1 (by simp)
  have st1 : St (up (up A z (.lst fs)) pp (.lst (as.map D.ref ++ [.ref z]))) CS s d kvs := ⟨by rw [up_ne sp1]; exact up_at hs.1 hz, by rw [up_ne dp1]; exact up_at hs.2 hz⟩
  have ww : up (up A z (.lst fs)) pp (.lst (as.map D.ref ++ [.ref z])) w = _ := s1 w _ (by simp [w1, w2]) hw.1
  generalize up (up A z (.lst fs)) pp (.lst (as.map D.ref ++ [.ref z])) = A1 at s1 e1 z1 t1 q1 st1 ww ⊢
  refine fld_at ww gTo ⟨⟨_, t1⟩, fld_at ww gSt ?_⟩
  refine ⟨s, d, kvs, q, fs, rfl, st1, hk, q1, hp, fun A2 s2 => ?_⟩
  have t2 := s2 _ _ (by simp) t1
  have w3 := s2 _ _ (by simp) ww
  refine fAppend_lst t2 (by show _ < 16777216; omega) ?_
  have zt : z ≠ tt := (ne_nn hw.2.2.1 hz).symm
  refine fld_at (d := .ref tt) (fs := [("state", .ref s), ("paths", .ref pp), ("told", .ref tt)]) (by rw [up_ne w2]; exact w3) gTo ?_
  refine mIx_lst up_same atI_last ?_
  refine hR z _ ((s1.trans s2.of0).trans (Sm.put (by simp))) hz (by rw [up_ne zt]; exact s2 _ _ (by simp) z1) ⟨by rw [up_ne w2]; exact w3, by rw [up_ne hw.2.2.2]; exact s2 _ _ (by simp) e1, up_same, hw.2.2.2⟩
end
end LawP
set_option Elab.async false
set_option linter.all false
set_option maxRecDepth 100000
set_option maxHeartbeats 1000000
namespace LawP
open PySem L2 DL
/-! ### which paths are touched -/
def hitB (kvs : List (D × D)) (ks fs : List D) : Bool := (asks kvs root fs).any fun x => decide (x ∈ ks)
def hitsN (kvs : List (D × D)) (ks : List D) (L : List (List D)) (n : Nat) : List D := ((List.range n).filter fun k => hitB kvs ks ((L[k]?).getD [])).map fun k => D.int ((k : Nat) : Int)
theorem hits_succ {kvs : List (D × D)} {ks : List D} {L : List (List D)} {n : Nat} : hitsN kvs ks L (n + 1) = hitsN kvs ks L n ++ if hitB kvs ks ((L[n]?).getD []) = true then [D.int (n : Int)] else [] := by
  unfold hitsN
  rw [List.range_succ, List.filter_append, List.map_append]
  congr 1
  by_cases h : hitB kvs ks ((L[n]?).getD []) = true
  · rw [if_pos h]; simp [List.filter, h]
  · rw [if_neg h]; simp [List.filter, h]
theorem hits_len {kvs : List (D × D)} {ks : List D} {L : List (List D)} {n : Nat} : (hitsN kvs ks L n).length ≤ n := by
  unfold hitsN
  rw [List.length_map]
  exact Nat.le_trans (List.length_filter_le _ _) (by rw [List.length_range]; exact Nat.le_refl _)
theorem hits_take {kvs : List (D × D)} {ks : List D} {L : List (List D)} {n : Nat} : hitsN kvs ks (L.take n) n = hitsN kvs ks L n := by
  unfold hitsN
  congr 1
  refine List.filter_congr fun k m => ?_
  rw [List.getElem?_take_of_lt (List.mem_range.mp m)]
/-- some that is among them -/
theorem some_in {l ks : List D} : (!(l.filterMap fun x => if x ∈ ks then some x else none).isEmpty) = l.any fun x => decide (x ∈ ks) := by
  induction l with
  | nil => rfl
  | cons x l ih =>
    by_cases h : x ∈ ks
    · simp [List.filterMap_cons, h]
    · rw [List.any_cons, decide_eq_false h, Bool.false_or, ← ih]; simp [List.filterMap_cons, h]
theorem any_uniq {l : List D} {p : D → Bool} : (uniq l).any p = l.any p := by
  rw [Bool.eq_iff_iff, List.any_eq_true, List.any_eq_true]
  constructor
  · rintro ⟨x, m, h⟩; exact ⟨x, mem_uniq.mp m, h⟩
  · rintro ⟨x, m, h⟩; exact ⟨x, mem_uniq.mpr m, h⟩
theorem chm_key {c : D} (h : Chm c) : plB (ckey c) = true := by
  obtain ⟨⟨s, n, f, v, rfl, _, ⟨i, j, rfl⟩, ⟨l, rfl⟩, _⟩, _⟩ := h
  rfl
theorem keys_pl {xs : List D} (h : ∀ c ∈ xs, Chm c) : (xs.map ckey).all plB = true := List.all_eq_true.mpr fun x m => by
  obtain ⟨c, mc, rfl⟩ := List.mem_map.mp m
  exact chm_key (h c mc)
theorem ask_pl {kvs : List (D × D)} {fs : List D} (k : Kv kvs) (h : Pth fs) : ∀ x ∈ asks kvs root fs, plB x = true := fun x m => by
  obtain ⟨n, mn, f, mf, rfl⟩ := asks_k k root_w h.2 x m
  exact key_pl mn mf
theorem dLc_ap {t : DTE} {g : DTG} {tt : DTT} {te : DTE} {vs : List Nat} {σ : DS} {A : AH} {Q : DQ} : dLc (diL t) g tt te vs σ A Q = t σ A fun x A1 => dLc (diL (dC x)) g tt te vs σ A1 Q := rfl
def sp__law_touched : DSp := fun ds A R _ => ∃ pl n c r kvs as L xs, ds = [.ref pl, .int ((n : Nat) : Int), .ref c, .ref r] ∧ A pl = some (.lst (as.map D.ref)) ∧ Inr A [] as L ∧ (∀ fs ∈ L, Pth fs) ∧ n ≤ L.length ∧ L.length ≤ 100 ∧ A c = some (.dic kvs) ∧ Kv kvs ∧ A r = some (.lst xs) ∧ (∀ c ∈ xs, Chm c) ∧ xs.length ≤ 100 ∧
  ∀ p A', Sm [] A A' → A p = none → A' p = some (.lst (hitsN kvs (xs.map ckey) L n)) → R (.ref p) A'
def sp_Watcher_touched (CS CW : Addr) : DSp := fun ds A R _ => ∃ w r s d kvs pp tt as vs L xs, ds = [.ref w, .ref r] ∧ Wtc A CW w s pp tt as vs ∧ St A CS s d kvs ∧ Kv kvs ∧ Inr A [] as L ∧ (∀ fs ∈ L, Pth fs) ∧ L.length ≤ 100 ∧ A r = some (.lst xs) ∧ (∀ c ∈ xs, Chm c) ∧ xs.length ≤ 100 ∧
  ∀ p A', Sm [] A A' → A p = none → A' p = some (.lst (hitsN kvs (xs.map ckey) L L.length)) → R (.ref p) A'
def sp__law_right (CS : Addr) : DSp := fun ds A R _ => ∃ s d c pl kvs as L, ds = [.ref s, .ref c, .ref pl] ∧ St A CS s d kvs ∧ A c = some (.dic kvs) ∧ Kv kvs ∧ A pl = some (.lst (as.map D.ref)) ∧ Inr A [] as L ∧ (∀ fs ∈ L, Pth fs) ∧ ∀ A', Sm [] A A' → R (.bl true) A'
def sp__law_local (CS : Addr) : DSp := fun ds A R _ => ∃ s d c s' d' c' pl kvs kvs' as L, ds = [.ref s, .ref c, .ref s', .ref c', .ref pl] ∧ St A CS s d kvs ∧ A c = some (.dic kvs) ∧ Kv kvs ∧ St A CS s' d' kvs' ∧ Kv kvs' ∧ A pl = some (.lst (as.map D.ref)) ∧ Inr A [] as L ∧ (∀ fs ∈ L, Pth fs) ∧ ∀ A', Sm [] A A' → R (.bl true) A'
/- _law_touched: 0 _law_paths_here, 1 _law_many, 2 _law_cells_here, 3 _law_changes, 4 _law_keys, 5 _law_found, 6 _law_k, 7 _law_change, 8 _law_key -/
def _law_touched_p3 : DTS := dSeq (dFor (diR1 (dCons (dV 1) (dNil))) (dName 6) (dIf (dTru (dLc (diL (dOp mIx (dCal sp__law_walk (dCons (dV 2) (dCons (dOp mIx (dV 0) (dV 6)) (dNil)))) (dC (.int 1)))) (dName 8) (dB (dOp (mIn false) (dV 8) (dV 4))) (dV 8) [8])) (dDrop (dBm isL fAppend (dV 5) (dCons (dV 6) (dNil)))) (dNext))) (
  dRet (dV 5))
def _law_touched_p2 : DTS := dSeq (dAsg (dLst (dNil)) (dName 5)) (
  (_law_touched_p3))
def _law_touched_p1 : DTS := dSeq (dAsg (dLc (diL (dV 3)) (dName 7) (dYes) (dSl (dV 7) (dPart (dC (.int 1))) (dPart (dC (.int 3)))) [7]) (dName 4)) (
  (_law_touched_p2))
def t__law_touched : DTS := dSeq (dAsg (dLc (diL (dV 3)) (dName 7) (dYes) (dSl (dV 7) (dPart (dC (.int 1))) (dPart (dC (.int 3)))) [7]) (dName 4)) (
  dSeq (dAsg (dLst (dNil)) (dName 5)) (
  dSeq (dFor (diR1 (dCons (dV 1) (dNil))) (dName 6) (dIf (dTru (dLc (diL (dOp mIx (dCal sp__law_walk (dCons (dV 2) (dCons (dOp mIx (dV 0) (dV 6)) (dNil)))) (dC (.int 1)))) (dName 8) (dB (dOp (mIn false) (dV 8) (dV 4))) (dV 8) [8])) (dDrop (dBm isL fAppend (dV 5) (dCons (dV 6) (dNil)))) (dNext))) (
  dRet (dV 5))))
/- Watcher.touched: 0 self, 1 changes, 2 cells, 3 found, 4 place, 5 path, 6 change, 7 cell -/
def Watcher_touched_p3 (C_State C_Watcher : Addr) : DTS := dSeq (dFor (diE (dCons (dFld C_Watcher "paths" (dV 0)) (dNil))) (dgTup (dgCons (dName 4) (dgCons (dName 5) (dgNil)))) (dIf (dTru (dLc (diL (dCal (sp_cells_of C_State) (dCons (dFld C_Watcher "state" (dV 0)) (dCons (dV 5) (dNil))))) (dName 7) (dB (dOp (mIn false) (dV 7) (dV 2))) (dV 7) [7])) (dDrop (dBm isL fAppend (dV 3) (dCons (dV 4) (dNil)))) (dNext))) (
  dRet (dV 3))
def Watcher_touched_p2 (C_State C_Watcher : Addr) : DTS := dSeq (dAsg (dLst (dNil)) (dName 3)) (
  (Watcher_touched_p3 C_State C_Watcher))
def Watcher_touched_p1 (C_State C_Watcher : Addr) : DTS := dSeq (dAsg (dLc (diL (dV 1)) (dName 6) (dYes) (dTup (dCons (dOp mIx (dV 6) (dC (.int 1))) (dCons (dOp mIx (dV 6) (dC (.int 2))) (dNil)))) [6]) (dName 2)) (
  (Watcher_touched_p2 C_State C_Watcher))
def t_Watcher_touched (C_State C_Watcher : Addr) : DTS := dSeq (dAsg (dLc (diL (dV 1)) (dName 6) (dYes) (dTup (dCons (dOp mIx (dV 6) (dC (.int 1))) (dCons (dOp mIx (dV 6) (dC (.int 2))) (dNil)))) [6]) (dName 2)) (
  dSeq (dAsg (dLst (dNil)) (dName 3)) (
  dSeq (dFor (diE (dCons (dFld C_Watcher "paths" (dV 0)) (dNil))) (dgTup (dgCons (dName 4) (dgCons (dName 5) (dgNil)))) (dIf (dTru (dLc (diL (dCal (sp_cells_of C_State) (dCons (dFld C_Watcher "state" (dV 0)) (dCons (dV 5) (dNil))))) (dName 7) (dB (dOp (mIn false) (dV 7) (dV 2))) (dV 7) [7])) (dDrop (dBm isL fAppend (dV 3) (dCons (dV 4) (dNil)))) (dNext))) (
  dRet (dV 3))))
/- _law_right: 0 _law_state_here, 1 _law_cells_here, 2 _law_paths_here, 3 _law_path, 4 _law_values, 5 _law_asked, 6 _law_value, 7 _law_kept -/
def _law_right_p4 (C_State : Addr) : DTS := dSeq (dIf (dOrT (dNotT (dTru (dCal sp__law_same (dCons (dCal (sp_follow C_State) (dCons (dV 0) (dCons (dV 3) (dNil)))) (dCons (dV 4) (dNil)))))) (dOrT (dNotT (dTru (dCal sp__law_same (dCons (dCal (sp_value_at C_State) (dCons (dV 0) (dCons (dV 3) (dNil)))) (dCons (dV 6) (dNil)))))) (dB (dOp (mEq true) (dV 3) (dV 7))))) (dRet (dC (.bl false))) (dNext)) (
  dIf (dNotT (dTru (dCal sp__law_same (dCons (dCal sp__law_once (dCons (dCal (sp_cells_of C_State) (dCons (dV 0) (dCons (dV 3) (dNil)))) (dNil))) (dCons (dV 5) (dNil)))))) (dRet (dC (.bl false))) (dNext))
def _law_right_p3 (C_State : Addr) : DTS := dSeq (dAsg (dCall fListOf (dCons (dV 3) (dNil))) (dName 7)) (
  (_law_right_p4 C_State))
def _law_right_p2 (C_State : Addr) : DTS := dSeq (dAsg (dCal sp__law_walk (dCons (dV 1) (dCons (dV 3) (dNil)))) (dgLst (dgCons (dName 4) (dgCons (dName 5) (dgCons (dName 6) (dgNil)))))) (
  (_law_right_p3 C_State))
def _law_right_p1 (C_State : Addr) : DTS := dSeq (dFor (diL (dV 2)) (dName 3) ((_law_right_p2 C_State))) (
  dRet (dC (.bl true)))
def t__law_right (C_State : Addr) : DTS := dSeq (dFor (diL (dV 2)) (dName 3) (dSeq (dAsg (dCal sp__law_walk (dCons (dV 1) (dCons (dV 3) (dNil)))) (dgLst (dgCons (dName 4) (dgCons (dName 5) (dgCons (dName 6) (dgNil)))))) (
  dSeq (dAsg (dCall fListOf (dCons (dV 3) (dNil))) (dName 7)) (
  dSeq (dIf (dOrT (dNotT (dTru (dCal sp__law_same (dCons (dCal (sp_follow C_State) (dCons (dV 0) (dCons (dV 3) (dNil)))) (dCons (dV 4) (dNil)))))) (dOrT (dNotT (dTru (dCal sp__law_same (dCons (dCal (sp_value_at C_State) (dCons (dV 0) (dCons (dV 3) (dNil)))) (dCons (dV 6) (dNil)))))) (dB (dOp (mEq true) (dV 3) (dV 7))))) (dRet (dC (.bl false))) (dNext)) (
  dIf (dNotT (dTru (dCal sp__law_same (dCons (dCal sp__law_once (dCons (dCal (sp_cells_of C_State) (dCons (dV 0) (dCons (dV 3) (dNil)))) (dNil))) (dCons (dV 5) (dNil)))))) (dRet (dC (.bl false))) (dNext)))))) (
  dRet (dC (.bl true)))
/- _law_local: 0 _law_state_here, 1 _law_cells_here, 2 _law_later, 3 _law_after, 4 _law_paths_here, 5 _law_path, 6 _law_asked, 7 _law_moved, 8 _law_key -/
def _law_local_p3 (C_State : Addr) : DTS := dSeq (dAsg (dLc (diL (dV 6)) (dName 8) (dNotT (dTru (dCal sp__law_same (dCons (dMet C_State "value" (sp_State_value C_State) (dV 0) (dCons (dOp mIx (dV 8) (dC (.int 0))) (dCons (dOp mIx (dV 8) (dC (.int 1))) (dNil)))) (dCons (dMet C_State "value" (sp_State_value C_State) (dV 2) (dCons (dOp mIx (dV 8) (dC (.int 0))) (dCons (dOp mIx (dV 8) (dC (.int 1))) (dNil)))) (dNil)))))) (dV 8) [8]) (dName 7)) (
  dIf (dAndT (dB (dOp (mEq false) (dV 7) (dLst (dNil)))) (dNotT (dTru (dCal sp__law_same (dCons (dCal (sp_value_at C_State) (dCons (dV 2) (dCons (dV 5) (dNil)))) (dCons (dCal (sp_value_at C_State) (dCons (dV 0) (dCons (dV 5) (dNil)))) (dNil))))))) (dRet (dC (.bl false))) (dNext))
def _law_local_p2 (C_State : Addr) : DTS := dSeq (dAsg (dOp mIx (dCal sp__law_walk (dCons (dV 1) (dCons (dV 5) (dNil)))) (dC (.int 1))) (dName 6)) (
  (_law_local_p3 C_State))
def _law_local_p1 (C_State : Addr) : DTS := dSeq (dFor (diL (dV 4)) (dName 5) ((_law_local_p2 C_State))) (
  dRet (dC (.bl true)))
def t__law_local (C_State : Addr) : DTS := dSeq (dFor (diL (dV 4)) (dName 5) (dSeq (dAsg (dOp mIx (dCal sp__law_walk (dCons (dV 1) (dCons (dV 5) (dNil)))) (dC (.int 1))) (dName 6)) (
  dSeq (dAsg (dLc (diL (dV 6)) (dName 8) (dNotT (dTru (dCal sp__law_same (dCons (dMet C_State "value" (sp_State_value C_State) (dV 0) (dCons (dOp mIx (dV 8) (dC (.int 0))) (dCons (dOp mIx (dV 8) (dC (.int 1))) (dNil)))) (dCons (dMet C_State "value" (sp_State_value C_State) (dV 2) (dCons (dOp mIx (dV 8) (dC (.int 0))) (dCons (dOp mIx (dV 8) (dC (.int 1))) (dNil)))) (dNil)))))) (dV 8) [8]) (dName 7)) (
  dIf (dAndT (dB (dOp (mEq false) (dV 7) (dLst (dNil)))) (dNotT (dTru (dCal sp__law_same (dCons (dCal (sp_value_at C_State) (dCons (dV 2) (dCons (dV 5) (dNil)))) (dCons (dCal (sp_value_at C_State) (dCons (dV 0) (dCons (dV 5) (dNil)))) (dNil))))))) (dRet (dC (.bl false))) (dNext))))) (
  dRet (dC (.bl true)))
theorem Inr.sm {A A' : AH} {as : List Addr} {L : List (List D)} (h : Inr A [] as L) (s : Sm [] A A') : Inr A' [] as L := h.keep fun a xs _ e => s a _ (by simp) e
theorem q__law_touched : ∀ ds A R E, ds.length = 4 → sp__law_touched ds A R E → t__law_touched { nx := fun _ A' => R .non A', rt := R } (ds.map some ++ List.replicate (9 - ds.length) none) A := by
  rintro ds A R E - ⟨pl, n, c, r, kvs, as, L, xs, rfl, hpl, hI, hP, nl, ll, hc, hk, hr, hx, hl, hR⟩
  show _law_touched_p1 _ [some (.ref pl), some (.int (n : Int)), some (.ref c), some (.ref r), none, none, none, none, none] A
  generalize hDD : ({ nx := fun _ A' => R .non A', rt := R } : DE) = DD
  have hrt : DD.rt = R := by rw [← hDD]
  unfold _law_touched_p1
  rw [dSeq_ap, dAsg_ap]
  refine lc_l (fun c => some (ckey c)) hr (by show _ ≤ 16777216; omega) (fun x p o mx hp K N k1 _ => ?_) (fun p hp => ?_) (fun Q q => q)
  · obtain ⟨⟨st, nm, f, v, rfl, _⟩, _⟩ := hx x mx
    dsimp only [dwipe, dYes, dSl, dPart, dSeq, dIf, dAsg, dName, dRet, dRetN, dDrop, dNext, dB, dTru, dOp, dUn, dCall, dCons, dNil, dC, dV, dTup, dLst, dCal, dMet, dMak, dFld, DL.sFld, dBm, dgSub, dgTup, dgCons, dgNil, dAndT, dOrT, dNotT, dOr, dAnd, dNotE, dIsi, dSl, dNoP, dPart, dDNew, dNever, fInt, fMod, fAdd_int, fSub, fMul, fDiv, fPow, fI2, fI2C, fNeg, mLt, List.getElem?_cons_succ, List.getElem?_cons_zero, List.set_cons_zero, List.set_cons_succ, dMetX, dCalX, dRaise, dErr1, dXf, dIsE]
    refine ifT ?_
    exact k1 _ rfl
  rw [fm_some]
  have s1 : Sm [] A (up A p (.lst (xs.map ckey))) := Sm.new hp
  have e1 : up A p (.lst (xs.map ckey)) p = some (.lst (xs.map ckey)) := up_same
  generalize up A p (.lst (xs.map ckey)) = A1 at s1 e1 ⊢
  try dsimp only [dNext, dName, List.set_cons_zero, List.set_cons_succ]
  unfold _law_touched_p2
  rw [dSeq_ap, dAsg_ap]
  dsimp only [dSeq, dIf, dAsg, dName, dRet, dRetN, dDrop, dNext, dB, dTru, dOp, dUn, dCall, dCons, dNil, dC, dV, dTup, dLst, dCal, dMet, dMak, dFld, DL.sFld, dBm, dgSub, dgTup, dgCons, dgNil, dAndT, dOrT, dNotT, dOr, dAnd, dNotE, dIsi, dSl, dNoP, dPart, dDNew, dNever, fInt, fMod, fAdd_int, fSub, fMul, fDiv, fPow, fI2, fI2C, fNeg, mLt, List.getElem?_cons_succ, List.getElem?_cons_zero, List.set_cons_zero, List.set_cons_succ, dMetX, dCalX, dRaise, dErr1, dXf, dIsE]
  intro q hq1
  have hq : A q = none := s1.none0 hq1
  have s2 : Sm [] A (up A1 q (.lst [])) := s1.trans (Sm.new hq1)
  have e2 := up_at (u := .lst []) e1 hq1
  have qp : p ≠ q := ne_nn e1 hq1
  have f2 : up A1 q (.lst []) q = some (.lst []) := up_same
  generalize up A1 q (.lst []) = A2 at s2 e2 f2 ⊢
  try dsimp only [dNext, dName, List.set_cons_zero, List.set_cons_succ]
  unfold _law_touched_p3
  rw [dSeq_ap]
  refine for_r1 (by unfold small62; omega) (fun i σ A' => ∃ x6 x7 x8, σ = [some (.ref pl), some (.int (n : Int)), some (.ref c), some (.ref r), some (.ref p), some (.ref q), x6, x7, x8] ∧ Sm [] A A' ∧ A' p = some (.lst (xs.map ckey)) ∧ A' q = some (.lst (hitsN kvs (xs.map ckey) L i))) ⟨none, none, none, rfl, s2, e2, f2⟩ ?_ ?_ (fun Q q => q)
  · rintro i σ A3 hi ⟨x6, x7, x8, rfl, s3, e3, f3⟩
    have hi : i < n := by simpa using hi
    obtain ⟨a, fs, ea, el, _, xa⟩ := (hI.sm s3).at_ (i := i) (by omega)
    have hp' := hP fs (List.mem_of_getElem? el)
    have gD : (L[i]?).getD [] = fs := by rw [el]; rfl
    have hln := hits_len (kvs := kvs) (ks := xs.map ckey) (L := L) (n := i)
    try dsimp only [dNext, dName, List.set_cons_zero, List.set_cons_succ]
    rw [dIf_ap]
    show dLc _ _ _ _ _ _ _ _
    rw [dLc_ap]
    dsimp only [dOp, dCal, dCons, dNil, dV, dC, List.getElem?_cons_succ, List.getElem?_cons_zero]
    rw [show (0 : Int) + (i : Int) = (i : Int) by omega]
    refine mIx_at (k := i) (s3 _ _ (by simp) hpl) (d := .ref a) (by rw [List.getElem?_map, ea]; rfl) ?_
    refine ⟨c, kvs, a, fs, rfl, s3 _ _ (by simp) hc, hk, xa, hp', fun w pv pa A4 s4 w0 ew ev ek => ?_⟩
    refine mIx_lst ew (d := .ref pa) rfl ?_
    have s34 := s3.trans s4
    refine lc_l (fun x => if x ∈ xs.map ckey then some x else none) ek (by have := uniq_len (asks kvs root fs); have := asks_len (kvs := kvs) (fs := fs) (v := root); have := hp'.1; show _ ≤ 16777216; omega) (fun x z o mx hz K N k1 k2 => ?_) (fun z hz => ?_) (fun Q q => q)
    · dsimp only [dwipe, dB, dSeq, dIf, dAsg, dName, dRet, dRetN, dDrop, dNext, dB, dTru, dOp, dUn, dCall, dCons, dNil, dC, dV, dTup, dLst, dCal, dMet, dMak, dFld, DL.sFld, dBm, dgSub, dgTup, dgCons, dgNil, dAndT, dOrT, dNotT, dOr, dAnd, dNotE, dIsi, dSl, dNoP, dPart, dDNew, dNever, fInt, fMod, fAdd_int, fSub, fMul, fDiv, fPow, fI2, fI2C, fNeg, mLt, List.getElem?_cons_succ, List.getElem?_cons_zero, List.set_cons_zero, List.set_cons_succ, dMetX, dCalX, dRaise, dErr1, dXf, dIsE]
      refine mIn_lst (up_at (s4 p _ (by simp) e3) hz) (ask_pl hk hp' x (mem_uniq.mp mx)) (keys_pl hx) ?_
      dsimp only
      by_cases m : x ∈ xs.map ckey
      · rw [decide_eq_true m]
        exact ifT (k1 x (if_pos m))
      · rw [decide_eq_false m]
        exact ifF (k2 (if_neg m))
    rw [truth_lst up_same]
    dsimp only
    rw [some_in, any_uniq]
    have s5 : Sm [] A4 (up A4 z (.lst ((uniq (asks kvs root fs)).filterMap fun x => if x ∈ xs.map ckey then some x else none))) := Sm.new hz
    have e5 := s5 p _ (by simp) (s4 p _ (by simp) e3)
    have f5 := s5 q _ (by simp) (s4 q _ (by simp) f3)
    generalize up A4 z (.lst ((uniq (asks kvs root fs)).filterMap fun x => if x ∈ xs.map ckey then some x else none)) = A5 at s5 e5 f5 ⊢
    refine ifB (fun hb => ?_) (fun hb => ?_)
    · rw [dDrop_ap]
      dsimp only [dSeq, dIf, dAsg, dName, dRet, dRetN, dDrop, dNext, dB, dTru, dOp, dUn, dCall, dCons, dNil, dC, dV, dTup, dLst, dCal, dMet, dMak, dFld, DL.sFld, dBm, dgSub, dgTup, dgCons, dgNil, dAndT, dOrT, dNotT, dOr, dAnd, dNotE, dIsi, dSl, dNoP, dPart, dDNew, dNever, fInt, fMod, fAdd_int, fSub, fMul, fDiv, fPow, fI2, fI2C, fNeg, mLt, List.getElem?_cons_succ, List.getElem?_cons_zero, List.set_cons_zero, List.set_cons_succ, dMetX, dCalX, dRaise, dErr1, dXf, dIsE]
      refine ⟨⟨_, f5⟩, fAppend_lst f5 (by show _ < 16777216; omega) ?_⟩
      refine ⟨_, _, _, rfl, (s34.trans s5).own hq, by rw [up_ne qp]; exact e5, ?_⟩
      rw [up_same, hits_succ, gD, if_pos (show hitB kvs (xs.map ckey) fs = true from hb)]
    · refine ⟨_, _, _, rfl, s34.trans s5, e5, ?_⟩
      rw [hits_succ, gD, if_neg (by rw [show hitB kvs (xs.map ckey) fs = _ from hb]; decide), List.append_nil]
      exact f5
  · rintro σ A3 ⟨x6, x7, x8, rfl, s3, e3, f3⟩
    try dsimp only [dNext, dName, List.set_cons_zero, List.set_cons_succ]
    rw [dRet_ap, hrt]
    dsimp only [dV, List.getElem?_cons_succ, List.getElem?_cons_zero]
    exact hR q A3 s3 hq (by simpa using f3)
section
variable {CS CW : Addr}
theorem q_Watcher_touched : ∀ ds A R E, ds.length = 2 → sp_Watcher_touched CS CW ds A R E → t_Watcher_touched CS CW { nx := fun _ A' => R .non A', rt := R } (ds.map some ++ List.replicate (8 - ds.length) none) A := by
  rintro ds A R E - ⟨w, r, s, d, kvs, pp, tt, as, vs, L, xs, rfl, hw, hs, hk, hI, hP, ll, hr, hx, hl, hR⟩
  show Watcher_touched_p1 CS CW _ [some (.ref w), some (.ref r), none, none, none, none, none, none] A
  generalize hDD : ({ nx := fun _ A' => R .non A', rt := R } : DE) = DD
  have hrt : DD.rt = R := by rw [← hDD]
  have al := hI.1
  unfold Watcher_touched_p1
  rw [dSeq_ap, dAsg_ap]
  refine lc_l (fun c => some (ckey c)) hr (by show _ ≤ 16777216; omega) (fun x p o mx hp K N k1 _ => ?_) (fun p hp => ?_) (fun Q q => q)
  · obtain ⟨⟨st, nm, f, v, rfl, _⟩, _⟩ := hx x mx
    dsimp only [dwipe, dYes, dSeq, dIf, dAsg, dName, dRet, dRetN, dDrop, dNext, dB, dTru, dOp, dUn, dCall, dCons, dNil, dC, dV, dTup, dLst, dCal, dMet, dMak, dFld, DL.sFld, dBm, dgSub, dgTup, dgCons, dgNil, dAndT, dOrT, dNotT, dOr, dAnd, dNotE, dIsi, dSl, dNoP, dPart, dDNew, dNever, fInt, fMod, fAdd_int, fSub, fMul, fDiv, fPow, fI2, fI2C, fNeg, mLt, List.getElem?_cons_succ, List.getElem?_cons_zero, List.set_cons_zero, List.set_cons_succ, dMetX, dCalX, dRaise, dErr1, dXf, dIsE]
    refine ifT ?_
    refine mIx_tup (d := nm) rfl (mIx_tup (d := f) rfl ?_)
    exact k1 _ rfl
  rw [fm_some]
  have s1 : Sm [] A (up A p (.lst (xs.map ckey))) := Sm.new hp
  have e1 : up A p (.lst (xs.map ckey)) p = some (.lst (xs.map ckey)) := up_same
  generalize up A p (.lst (xs.map ckey)) = A1 at s1 e1 ⊢
  try dsimp only [dNext, dName, List.set_cons_zero, List.set_cons_succ]
  unfold Watcher_touched_p2
  rw [dSeq_ap, dAsg_ap]
  dsimp only [dSeq, dIf, dAsg, dName, dRet, dRetN, dDrop, dNext, dB, dTru, dOp, dUn, dCall, dCons, dNil, dC, dV, dTup, dLst, dCal, dMet, dMak, dFld, DL.sFld, dBm, dgSub, dgTup, dgCons, dgNil, dAndT, dOrT, dNotT, dOr, dAnd, dNotE, dIsi, dSl, dNoP, dPart, dDNew, dNever, fInt, fMod, fAdd_int, fSub, fMul, fDiv, fPow, fI2, fI2C, fNeg, mLt, List.getElem?_cons_succ, List.getElem?_cons_zero, List.set_cons_zero, List.set_cons_succ, dMetX, dCalX, dRaise, dErr1, dXf, dIsE]
  intro q hq1
  have hq : A q = none := s1.none0 hq1
  have s2 : Sm [] A (up A1 q (.lst [])) := s1.trans (Sm.new hq1)
  have e2 := up_at (u := .lst []) e1 hq1
  have qp : p ≠ q := ne_nn e1 hq1
  have f2 : up A1 q (.lst []) q = some (.lst []) := up_same
  generalize up A1 q (.lst []) = A2 at s2 e2 f2 ⊢
  try dsimp only [dNext, dName, List.set_cons_zero, List.set_cons_succ]
  unfold Watcher_touched_p3
  rw [dSeq_ap]
  refine for_e (a := pp) (xs := as.map D.ref) (s2 _ _ (by simp) hw.2.1) (fun i σ A' => ∃ x4 x5 x6 x7, σ = [some (.ref w), some (.ref r), some (.ref p), some (.ref q), x4, x5, x6, x7] ∧ Sm [] A A' ∧ A' p = some (.lst (xs.map ckey)) ∧ A' q = some (.lst (hitsN kvs (xs.map ckey) L i))) ⟨none, none, none, none, rfl, s2, e2, f2⟩ (fun i σ A' _ ⟨_, _, _, _, _, s, _⟩ => s _ _ (by simp) hw.2.1) ?_ ?_ (fun Q q => fld_at (s2 _ _ (by simp) hw.1) gPa q)
  · rintro i x σ A3 hx1 ⟨x4, x5, x6, x7, rfl, s3, e3, f3⟩
    have lt := (List.getElem?_eq_some_iff.mp hx1).1
    rw [List.length_map, al] at lt
    obtain ⟨a, fs, ea, el, _, xa⟩ := (hI.sm s3).at_ (i := i) lt
    rw [List.getElem?_map, ea] at hx1
    obtain rfl : D.ref a = x := by simpa using hx1
    have hp' := hP fs (List.mem_of_getElem? el)
    have gD : (L[i]?).getD [] = fs := by rw [el]; rfl
    have hln := hits_len (kvs := kvs) (ks := xs.map ckey) (L := L) (n := i)
    dsimp only [dgTup, dgCons, dgNil, dName, List.set_cons_zero, List.set_cons_succ]
    refine ⟨rfl, ?_⟩
    rw [dIf_ap]
    show dLc _ _ _ _ _ _ _ _
    rw [dLc_ap]
    dsimp only [dOp, dCal, dFld, dCons, dNil, dV, dC, List.getElem?_cons_succ, List.getElem?_cons_zero]
    refine fld_at (s3 _ _ (by simp) hw.1) gSt ?_
    refine ⟨s, d, kvs, a, fs, rfl, hs.keep s3 (by simp) (by simp), hk, xa, hp', fun pa A4 s4 w0 ek => ?_⟩
    have s34 := s3.trans s4
    refine lc_l (fun x => if x ∈ xs.map ckey then some x else none) ek (by have := asks_len (kvs := kvs) (fs := fs) (v := root); have := hp'.1; show _ ≤ 16777216; omega) (fun x z o mx hz K N k1 k2 => ?_) (fun z hz => ?_) (fun Q q => q)
    · dsimp only [dwipe, dB, dSeq, dIf, dAsg, dName, dRet, dRetN, dDrop, dNext, dB, dTru, dOp, dUn, dCall, dCons, dNil, dC, dV, dTup, dLst, dCal, dMet, dMak, dFld, DL.sFld, dBm, dgSub, dgTup, dgCons, dgNil, dAndT, dOrT, dNotT, dOr, dAnd, dNotE, dIsi, dSl, dNoP, dPart, dDNew, dNever, fInt, fMod, fAdd_int, fSub, fMul, fDiv, fPow, fI2, fI2C, fNeg, mLt, List.getElem?_cons_succ, List.getElem?_cons_zero, List.set_cons_zero, List.set_cons_succ, dMetX, dCalX, dRaise, dErr1, dXf, dIsE]
      refine mIn_lst (up_at (s4 p _ (by simp) e3) hz) (ask_pl hk hp' x mx) (keys_pl hx) ?_
      dsimp only
      by_cases m : x ∈ xs.map ckey
      · rw [decide_eq_true m]
        exact ifT (k1 x (if_pos m))
      · rw [decide_eq_false m]
        exact ifF (k2 (if_neg m))
    rw [truth_lst up_same]
    dsimp only
    rw [some_in]
    have s5 : Sm [] A4 (up A4 z (.lst ((asks kvs root fs).filterMap fun x => if x ∈ xs.map ckey then some x else none))) := Sm.new hz
    have e5 := s5 p _ (by simp) (s4 p _ (by simp) e3)
    have f5 := s5 q _ (by simp) (s4 q _ (by simp) f3)
    generalize up A4 z (.lst ((asks kvs root fs).filterMap fun x => if x ∈ xs.map ckey then some x else none)) = A5 at s5 e5 f5 ⊢
    refine ifB (fun hb => ?_) (fun hb => ?_)
    · rw [dDrop_ap]
      dsimp only [dSeq, dIf, dAsg, dName, dRet, dRetN, dDrop, dNext, dB, dTru, dOp, dUn, dCall, dCons, dNil, dC, dV, dTup, dLst, dCal, dMet, dMak, dFld, DL.sFld, dBm, dgSub, dgTup, dgCons, dgNil, dAndT, dOrT, dNotT, dOr, dAnd, dNotE, dIsi, dSl, dNoP, dPart, dDNew, dNever, fInt, fMod, fAdd_int, fSub, fMul, fDiv, fPow, fI2, fI2C, fNeg, mLt, List.getElem?_cons_succ, List.getElem?_cons_zero, List.set_cons_zero, List.set_cons_succ, dMetX, dCalX, dRaise, dErr1, dXf, dIsE]
      refine ⟨⟨_, f5⟩, fAppend_lst f5 (by show _ < 16777216; omega) ?_⟩
      refine ⟨_, _, _, _, rfl, (s34.trans s5).own hq, by rw [up_ne qp]; exact e5, ?_⟩
      rw [up_same, hits_succ, gD, if_pos (show hitB kvs (xs.map ckey) fs = true from hb)]
    · refine ⟨_, _, _, _, rfl, s34.trans s5, e5, ?_⟩
      rw [hits_succ, gD, if_neg (by rw [show hitB kvs (xs.map ckey) fs = _ from hb]; decide), List.append_nil]
      exact f5
  · rintro σ A3 ⟨x4, x5, x6, x7, rfl, s3, e3, f3⟩
    try dsimp only [dNext, dName, List.set_cons_zero, List.set_cons_succ]
    rw [dRet_ap, hrt]
    dsimp only [dV, List.getElem?_cons_succ, List.getElem?_cons_zero]
    exact hR q A3 s3 hq (by rw [List.length_map, al] at f3; exact f3)
theorem walk_sml {kvs : List (D × D)} {fs : List D} (k : Kv kvs) (h : Pth fs) : (∀ x ∈ root :: fol kvs root fs, Sml x) ∧ (root :: fol kvs root fs).length ≤ 5 ∧ T.deps (plTs (root :: fol kvs root fs)) ≤ 3 := by
  have w : ∀ x ∈ root :: fol kvs root fs, x ∈ w18 := fun x m => by
    rcases List.mem_cons.mp m with rfl | m
    · exact root_w
    · exact fol_w k x m
  exact ⟨fun x m => w18_sml x (w x m), by have := fol_len (kvs := kvs) (fs := fs) (v := root); have := h.1; rw [List.length_cons]; omega, deps_of fun x m => w18_dep x (w x m)⟩
theorem uniq_sml {kvs : List (D × D)} {fs : List D} (k : Kv kvs) (h : Pth fs) : (∀ x ∈ uniq (asks kvs root fs), Sml x) ∧ (uniq (asks kvs root fs)).length ≤ 4 ∧ T.deps (plTs (uniq (asks kvs root fs))) ≤ 3 := by
  have w : ∀ x ∈ uniq (asks kvs root fs), ∃ n ∈ ns4, ∃ f ∈ fl4, x = .tup [n, f] := fun x m => asks_k k root_w h.2 x (mem_uniq.mp m)
  refine ⟨fun x m => ?_, by have := uniq_len (asks kvs root fs); have := asks_len (kvs := kvs) (fs := fs) (v := root); have := h.1; omega, deps_of fun x m => ?_⟩
  · obtain ⟨n, mn, f, mf, rfl⟩ := w x m
    exact key_sml mn mf
  · obtain ⟨n, mn, f, mf, rfl⟩ := w x m
    exact key_dep mn mf
theorem one_ok {v : D} (h : v ∈ w18) : (plT v).dep ≤ 60 ∧ (plT v).sm = true ∧ (plT v).sz ≤ SL := by
  obtain ⟨_, a, b⟩ := w18_sml v h
  have := w18_dep v h
  exact ⟨by omega, a, by show _ ≤ 16777216; omega⟩
theorem w18_pls {xs : List D} (h : ∀ x ∈ xs, Sml x) : isPls xs = true := (pls_of (sml_all h)).1
theorem w18_pl {v : D} (h : v ∈ w18) : isPl v = true := (plB_V (w18_sml v h).1).1
theorem q__law_right : ∀ ds A R E, ds.length = 3 → sp__law_right CS ds A R E → t__law_right CS { nx := fun _ A' => R .non A', rt := R } (ds.map some ++ List.replicate (8 - ds.length) none) A := by
  rintro ds A R E - ⟨s, d, c, pl, kvs, as, L, rfl, hs, hc, hk, hpl, hI, hP, hR⟩
  show _law_right_p1 CS _ [some (.ref s), some (.ref c), some (.ref pl), none, none, none, none, none] A
  generalize hDD : ({ nx := fun _ A' => R .non A', rt := R } : DE) = DD
  have hrt : DD.rt = R := by rw [← hDD]
  have al := hI.1
  unfold _law_right_p1
  rw [dSeq_ap]
  refine for_l hpl (fun i σ A' => ∃ x3 x4 x5 x6 x7, σ = [some (.ref s), some (.ref c), some (.ref pl), x3, x4, x5, x6, x7] ∧ Sm [] A A') ⟨none, none, none, none, none, rfl, Sm.refl⟩ (fun i σ A' _ ⟨_, _, _, _, _, _, s⟩ => s _ _ (by simp) hpl) ?_ ?_ (fun Q q => q)
  · rintro i x σ A1 hx ⟨x3, x4, x5, x6, x7, rfl, s1⟩
    have lt := (List.getElem?_eq_some_iff.mp hx).1
    rw [List.length_map, al] at lt
    obtain ⟨a, fs, ea, el, _, xa⟩ := (hI.sm s1).at_ (i := i) lt
    rw [List.getElem?_map, ea] at hx
    obtain rfl : D.ref a = x := by simpa using hx
    have hp := hP fs (List.mem_of_getElem? el)
    obtain ⟨m1, m2, m3⟩ := walk_sml hk hp
    obtain ⟨u1, u2, u3⟩ := uniq_sml hk hp
    try dsimp only [dNext, dName, List.set_cons_zero, List.set_cons_succ]
    unfold _law_right_p2
    rw [dSeq_ap, dAsg_ap]
    dsimp only [dSeq, dIf, dAsg, dName, dRet, dRetN, dDrop, dNext, dB, dTru, dOp, dUn, dCall, dCons, dNil, dC, dV, dTup, dLst, dCal, dMet, dMak, dFld, DL.sFld, dBm, dgSub, dgTup, dgCons, dgNil, dAndT, dOrT, dNotT, dOr, dAnd, dNotE, dIsi, dSl, dNoP, dPart, dDNew, dNever, fInt, fMod, fAdd_int, fSub, fMul, fDiv, fPow, fI2, fI2C, fNeg, mLt, List.getElem?_cons_succ, List.getElem?_cons_zero, List.set_cons_zero, List.set_cons_succ, dMetX, dCalX, dRaise, dErr1, dXf, dIsE]
    refine ⟨c, kvs, a, fs, rfl, s1 _ _ (by simp) hc, hk, xa, hp, fun w pv pa A2 s2 w0 ew ev ek => ?_⟩
    show (match A2 w with
      | some (.lst xs) => dgCons (dName 4) (dgCons (dName 5) (dgCons (dName 6) dgNil)) xs _ A2 _
      | _ => False)
    rw [ew]
    dsimp only [dSeq, dIf, dAsg, dName, dRet, dRetN, dDrop, dNext, dB, dTru, dOp, dUn, dCall, dCons, dNil, dC, dV, dTup, dLst, dCal, dMet, dMak, dFld, DL.sFld, dBm, dgSub, dgTup, dgCons, dgNil, dAndT, dOrT, dNotT, dOr, dAnd, dNotE, dIsi, dSl, dNoP, dPart, dDNew, dNever, fInt, fMod, fAdd_int, fSub, fMul, fDiv, fPow, fI2, fI2C, fNeg, mLt, List.getElem?_cons_succ, List.getElem?_cons_zero, List.set_cons_zero, List.set_cons_succ, dMetX, dCalX, dRaise, dErr1, dXf, dIsE]
    refine ⟨rfl, ?_⟩
    have s12 := s1.trans s2
    try dsimp only [dNext, dName, List.set_cons_zero, List.set_cons_succ]
    unfold _law_right_p3
    rw [dSeq_ap, dAsg_ap]
    dsimp only [dSeq, dIf, dAsg, dName, dRet, dRetN, dDrop, dNext, dB, dTru, dOp, dUn, dCall, dCons, dNil, dC, dV, dTup, dLst, dCal, dMet, dMak, dFld, DL.sFld, dBm, dgSub, dgTup, dgCons, dgNil, dAndT, dOrT, dNotT, dOr, dAnd, dNotE, dIsi, dSl, dNoP, dPart, dDNew, dNever, fInt, fMod, fAdd_int, fSub, fMul, fDiv, fPow, fI2, fI2C, fNeg, mLt, List.getElem?_cons_succ, List.getElem?_cons_zero, List.set_cons_zero, List.set_cons_succ, dMetX, dCalX, dRaise, dErr1, dXf, dIsE]
    refine listOf_lst (s2 _ _ (by simp) xa) fun z hz => ?_
    have s13 := s12.trans (Sm.new (W := []) (o := .lst fs) hz)
    have xa3 := up_at (u := .lst fs) (s2 a _ (by simp) xa) hz
    have ev3 := up_at (u := .lst fs) ev hz
    have ek3 := up_at (u := .lst fs) ek hz
    have ez3 : up A2 z (.lst fs) z = some (.lst fs) := up_same
    generalize up A2 z (.lst fs) = A3 at s13 xa3 ev3 ek3 ez3 ⊢
    try dsimp only [dNext, dName, List.set_cons_zero, List.set_cons_succ]
    unfold _law_right_p4
    rw [dSeq_ap, dIf_ap]
    dsimp only [dOrT, dSeq, dIf, dAsg, dName, dRet, dRetN, dDrop, dNext, dB, dTru, dOp, dUn, dCall, dCons, dNil, dC, dV, dTup, dLst, dCal, dMet, dMak, dFld, DL.sFld, dBm, dgSub, dgTup, dgCons, dgNil, dAndT, dOrT, dNotT, dOr, dAnd, dNotE, dIsi, dSl, dNoP, dPart, dDNew, dNever, fInt, fMod, fAdd_int, fSub, fMul, fDiv, fPow, fI2, fI2C, fNeg, mLt, List.getElem?_cons_succ, List.getElem?_cons_zero, List.set_cons_zero, List.set_cons_succ, dMetX, dCalX, dRaise, dErr1, dXf, dIsE]
    refine ⟨s, d, kvs, a, fs, rfl, hs.keep s13 (by simp) (by simp), hk, xa3, hp, fun y A4 s4 y0 ey => ?_⟩
    have s14 := s13.trans s4
    refine ⟨.ref y, .ref pv, .lst (plTs (root :: fol kvs root fs)), .lst (plTs (root :: fol kvs root fs)), rfl, .inl ⟨y, _, rfl, ey, snaps_pl _ (w18_pls m1)⟩, .inl ⟨pv, _, rfl, s4 _ _ (by simp) ev3, snaps_pl _ (w18_pls m1)⟩, lst_ok m1 (by omega) (by omega), lst_ok m1 (by omega) (by omega), ?_⟩
    rw [decide_eq_true rfl]
    refine ifF ?_
    refine ⟨s, d, kvs, a, fs, rfl, hs.keep s14 (by simp) (by simp), hk, s4 _ _ (by simp) xa3, hp, fun A5 s5 => ?_⟩
    have s15 := s14.trans s5
    have vw := vat_w hk (fs := fs) root_w
    refine ⟨_, _, plT (vat kvs root fs), plT (vat kvs root fs), rfl, snap_pl _ (w18_pl vw), snap_pl _ (w18_pl vw), one_ok vw, one_ok vw, ?_⟩
    rw [decide_eq_true rfl]
    refine ifF ?_
    have s35 := s4.trans s5
    refine mEq_lst (s35 _ _ (by simp) xa3) (s35 _ _ (by simp) ez3) (sml_all (pth_sml hp)) (sml_all (pth_sml hp)) ?_
    rw [decide_eq_true rfl]
    refine ifF ?_
    refine ⟨s, d, kvs, a, fs, rfl, hs.keep s15 (by simp) (by simp), hk, s35 _ _ (by simp) xa3, hp, fun y2 A6 s6 _ ey2 => ?_⟩
    have s16 := s15.trans s6
    have als := asks_len (kvs := kvs) (fs := fs) (v := root)
    have h4 := hp.1
    refine ⟨y2, _, rfl, ey2, List.all_eq_true.mpr (ask_pl hk hp), by omega, fun y3 A7 s7 _ ey3 => ?_⟩
    have s17 := s16.trans s7
    refine ⟨.ref y3, .ref pa, .lst (plTs (uniq (asks kvs root fs))), .lst (plTs (uniq (asks kvs root fs))), rfl, .inl ⟨y3, _, rfl, ey3, snaps_pl _ (w18_pls u1)⟩, .inl ⟨pa, _, rfl, (s35.trans (s6.trans s7)) _ _ (by simp) ek3, snaps_pl _ (w18_pls u1)⟩, lst_ok u1 (by omega) (by omega), lst_ok u1 (by omega) (by omega), ?_⟩
    rw [decide_eq_true rfl]
    refine ifF ?_
    exact ⟨_, _, _, _, _, rfl, s17⟩
  · rintro σ A1 ⟨x3, x4, x5, x6, x7, rfl, s1⟩
    try dsimp only [dNext, dName, List.set_cons_zero, List.set_cons_succ]
    rw [dRet_ap, hrt]
    exact hR A1 s1
theorem q__law_local : ∀ ds A R E, ds.length = 5 → sp__law_local CS ds A R E → t__law_local CS { nx := fun _ A' => R .non A', rt := R } (ds.map some ++ List.replicate (9 - ds.length) none) A := by
  rintro ds A R E - ⟨s, d, c, s', d', c', pl, kvs, kvs', as, L, rfl, hs, hc, hk, hs', hk', hpl, hI, hP, hR⟩
  show _law_local_p1 CS _ [some (.ref s), some (.ref c), some (.ref s'), some (.ref c'), some (.ref pl), none, none, none, none] A
  generalize hDD : ({ nx := fun _ A' => R .non A', rt := R } : DE) = DD
  have hrt : DD.rt = R := by rw [← hDD]
  have al := hI.1
  unfold _law_local_p1
  rw [dSeq_ap]
  refine for_l hpl (fun i σ A' => ∃ x5 x6 x7 x8, σ = [some (.ref s), some (.ref c), some (.ref s'), some (.ref c'), some (.ref pl), x5, x6, x7, x8] ∧ Sm [] A A') ⟨none, none, none, none, rfl, Sm.refl⟩ (fun i σ A' _ ⟨_, _, _, _, _, s⟩ => s _ _ (by simp) hpl) ?_ ?_ (fun Q q => q)
  · rintro i x σ A1 hx ⟨x5, x6, x7, x8, rfl, s1⟩
    have lt := (List.getElem?_eq_some_iff.mp hx).1
    rw [List.length_map, al] at lt
    obtain ⟨a, fs, ea, el, _, xa⟩ := (hI.sm s1).at_ (i := i) lt
    rw [List.getElem?_map, ea] at hx
    obtain rfl : D.ref a = x := by simpa using hx
    have hp := hP fs (List.mem_of_getElem? el)
    obtain ⟨u1, u2, u3⟩ := uniq_sml hk hp
    try dsimp only [dNext, dName, List.set_cons_zero, List.set_cons_succ]
    unfold _law_local_p2
    rw [dSeq_ap, dAsg_ap]
    dsimp only [dSeq, dIf, dAsg, dName, dRet, dRetN, dDrop, dNext, dB, dTru, dOp, dUn, dCall, dCons, dNil, dC, dV, dTup, dLst, dCal, dMet, dMak, dFld, DL.sFld, dBm, dgSub, dgTup, dgCons, dgNil, dAndT, dOrT, dNotT, dOr, dAnd, dNotE, dIsi, dSl, dNoP, dPart, dDNew, dNever, fInt, fMod, fAdd_int, fSub, fMul, fDiv, fPow, fI2, fI2C, fNeg, mLt, List.getElem?_cons_succ, List.getElem?_cons_zero, List.set_cons_zero, List.set_cons_succ, dMetX, dCalX, dRaise, dErr1, dXf, dIsE]
    refine ⟨c, kvs, a, fs, rfl, s1 _ _ (by simp) hc, hk, xa, hp, fun w pv pa A2 s2 w0 ew ev ek => mIx_lst ew (d := .ref pa) rfl ?_⟩
    have s12 := s1.trans s2
    try dsimp only [dNext, dName, List.set_cons_zero, List.set_cons_succ]
    unfold _law_local_p3
    rw [dSeq_ap, dAsg_ap]
    refine lc_l (fun k => match k with | .tup [n, f] => if gv kvs n f = gv kvs' n f then none else some k | _ => none) ek (by show _ ≤ 16777216; omega) (fun x z o mx hz K N k1 k2 => ?_) (fun z hz => ?_) (fun Q q => q)
    · obtain ⟨n, mn, f, mf, rfl⟩ := asks_k hk root_w hp.2 x (mem_uniq.mp mx)
      have s13 := s12.trans (Sm.new (W := []) (o := o) hz)
      dsimp only [dwipe, dNotT, dTru, dSeq, dIf, dAsg, dName, dRet, dRetN, dDrop, dNext, dB, dTru, dOp, dUn, dCall, dCons, dNil, dC, dV, dTup, dLst, dCal, dMet, dMak, dFld, DL.sFld, dBm, dgSub, dgTup, dgCons, dgNil, dAndT, dOrT, dNotT, dOr, dAnd, dNotE, dIsi, dSl, dNoP, dPart, dDNew, dNever, fInt, fMod, fAdd_int, fSub, fMul, fDiv, fPow, fI2, fI2C, fNeg, mLt, List.getElem?_cons_succ, List.getElem?_cons_zero, List.set_cons_zero, List.set_cons_succ, dMetX, dCalX, dRaise, dErr1, dXf, dIsE]
      have h1 := hs.keep s13 (by simp) (by simp)
      have h2 := hs'.keep s13 (by simp) (by simp)
      refine met_of h1.1 rfl (mIx_tup (d := n) rfl (mIx_tup (d := f) rfl ⟨s, d, kvs, n, f, rfl, h1, hk.1, ns4_nam n mn, fl4_fld mf, ?_⟩))
      refine met_of h2.1 rfl (mIx_tup (d := n) rfl (mIx_tup (d := f) rfl ⟨s', d', kvs', n, f, rfl, h2, hk'.1, ns4_nam n mn, fl4_fld mf, ?_⟩))
      show sp__law_same [gv kvs n f, gv kvs' n f] _ _ _
      have w1 := hk.gv (n := n) (f := f)
      have w2 := hk'.gv (n := n) (f := f)
      refine ⟨_, _, plT (gv kvs n f), plT (gv kvs' n f), rfl, snap_pl _ (w18_pl w1), snap_pl _ (w18_pl w2), one_ok w1, one_ok w2, ?_⟩
      rw [rep_w18 _ w1 _ w2]
      by_cases e : gv kvs n f = gv kvs' n f
      · rw [decide_eq_true e]
        exact ifF (k2 (if_pos e))
      · rw [decide_eq_false e]
        exact ifT (k1 _ (if_neg e))
    generalize hm : (uniq (asks kvs root fs)).filterMap (fun k => match k with | .tup [n, f] => if gv kvs n f = gv kvs' n f then none else some k | _ => none) = mv
    have mvp : mv.all plB = true := by
      rw [← hm]
      refine List.all_eq_true.mpr fun x m => ?_
      obtain ⟨y, my, hy⟩ := List.mem_filterMap.mp m
      obtain ⟨n, mn, f, mf, rfl⟩ := asks_k hk root_w hp.2 y (mem_uniq.mp my)
      dsimp only at hy
      split at hy
      · cases hy
      · cases hy; exact key_pl mn mf
    have s13 := s12.trans (Sm.new (W := []) (o := .lst mv) hz)
    have xa3 := up_at (u := .lst mv) (s2 a _ (by simp) xa) hz
    have ez3 : up A2 z (.lst mv) z = some (.lst mv) := up_same
    generalize up A2 z (.lst mv) = A3 at s13 xa3 ez3 ⊢
    try dsimp only [dNext, dName, List.set_cons_zero, List.set_cons_succ]
    rw [dIf_ap]
    dsimp only [dAndT, dSeq, dIf, dAsg, dName, dRet, dRetN, dDrop, dNext, dB, dTru, dOp, dUn, dCall, dCons, dNil, dC, dV, dTup, dLst, dCal, dMet, dMak, dFld, DL.sFld, dBm, dgSub, dgTup, dgCons, dgNil, dAndT, dOrT, dNotT, dOr, dAnd, dNotE, dIsi, dSl, dNoP, dPart, dDNew, dNever, fInt, fMod, fAdd_int, fSub, fMul, fDiv, fPow, fI2, fI2C, fNeg, mLt, List.getElem?_cons_succ, List.getElem?_cons_zero, List.set_cons_zero, List.set_cons_succ, dMetX, dCalX, dRaise, dErr1, dXf, dIsE]
    intro y hy
    have s14 := s13.trans (Sm.new (W := []) (o := .lst []) hy)
    refine mEq_lst (up_at ez3 hy) up_same mvp rfl ?_
    dsimp only
    refine ifB (fun cc => ?_) (fun cc => ifF ⟨_, _, _, _, rfl, s14⟩)
    have cc : mv = [] := of_decide_eq_true (by simpa using cc)
    have same : vat kvs root fs = vat kvs' root fs := vat_same fun n f m => by
      rw [cc] at hm
      have := List.filterMap_eq_nil_iff.mp hm (.tup [n, f]) (mem_uniq.mpr m)
      dsimp only at this
      split at this
      · assumption
      · cases this
    have xa4 := up_at (u := .lst []) xa3 hy
    generalize up A3 y (.lst []) = A4 at s14 xa4 ⊢
    refine ⟨s', d', kvs', a, fs, rfl, hs'.keep s14 (by simp) (by simp), hk', xa4, hp, fun A5 s5 => ?_⟩
    have s15 := s14.trans s5
    refine ⟨s, d, kvs, a, fs, rfl, hs.keep s15 (by simp) (by simp), hk, s5 _ _ (by simp) xa4, hp, fun A6 s6 => ?_⟩
    have vw := vat_w hk (fs := fs) root_w
    rw [← same]
    refine ⟨_, _, plT (vat kvs root fs), plT (vat kvs root fs), rfl, snap_pl _ (w18_pl vw), snap_pl _ (w18_pl vw), one_ok vw, one_ok vw, ?_⟩
    rw [decide_eq_true rfl]
    refine ifF ?_
    exact ⟨_, _, _, _, rfl, s15.trans s6⟩
  · rintro σ A1 ⟨x5, x6, x7, x8, rfl, s1⟩
    try dsimp only [dNext, dName, List.set_cons_zero, List.set_cons_succ]
    rw [dRet_ap, hrt]
    exact hR A1 s1
end
end LawP
set_option Elab.async false
set_option linter.all false
set_option maxRecDepth 100000
set_option maxHeartbeats 1000000
namespace LawP
open PySem L2 DL
/-! ### news -/
def newT (kvs : List (D × D)) (z : D × List D) : List T := if vat kvs root z.2 = z.1 then [] else [.tup [pathT z.2, plT z.1, plT (vat kvs root z.2)]]
def newsT (kvs : List (D × D)) (zs : List (D × List D)) : List T := zs.flatMap (newT kvs)
def newV (kvs : List (D × D)) (zs : List (D × List D)) : List D := zs.map fun z => vat kvs root z.2
/-- what has been told, the first i anew -/
def tv (kvs : List (D × D)) (vs : List D) (L : List (List D)) (i : Nat) : List D := newV kvs ((vs.zip L).take i) ++ vs.drop i
section
variable {kvs : List (D × D)} {vs : List D} {L : List (List D)} {i : Nat} {v : D} {fs : List D}
theorem newV_len {zs : List (D × List D)} : (newV kvs zs).length = zs.length := List.length_map ..
theorem zip_at (h : vs.length ≤ L.length) (hv : vs[i]? = some v) (hf : L[i]? = some fs) : (vs.zip L)[i]? = some (v, fs) := by
  rw [List.getElem?_zip_eq_some]
  exact ⟨hv, hf⟩
theorem tv_len (h : vs.length ≤ L.length) : (tv kvs vs L i).length = vs.length := by
  unfold tv
  rw [List.length_append, newV_len, List.length_take, List.length_zip, List.length_drop]
  omega
theorem tv_at (h : vs.length ≤ L.length) (hi : i < vs.length) : (tv kvs vs L i)[i]? = vs[i]? := by
  unfold tv
  have l1 : (newV kvs ((vs.zip L).take i)).length = i := by rw [newV_len, List.length_take, List.length_zip]; omega
  rw [List.getElem?_append_right (by omega), l1, Nat.sub_self, List.getElem?_drop]; rfl
theorem tv_succ (h : vs.length ≤ L.length) (hv : vs[i]? = some v) (hf : L[i]? = some fs) : tv kvs vs L (i + 1) = newV kvs ((vs.zip L).take i) ++ vat kvs root fs :: vs.drop (i + 1) := by
  unfold tv
  rw [List.take_add_one, zip_at h hv hf]
  unfold newV
  rw [List.map_append, List.append_assoc]; rfl
theorem tv_set (h : vs.length ≤ L.length) (hv : vs[i]? = some v) (hf : L[i]? = some fs) : (tv kvs vs L i).set i (vat kvs root fs) = tv kvs vs L (i + 1) := by
  have hi := (List.getElem?_eq_some_iff.mp hv).1
  have l1 : (newV kvs ((vs.zip L).take i)).length = i := by rw [newV_len, List.length_take, List.length_zip]; omega
  rw [tv_succ h hv hf]
  unfold tv
  rw [List.set_append_right _ _ (by omega), l1, Nat.sub_self, drop_get hv]; rfl
theorem tv_same (h : vs.length ≤ L.length) (hv : vs[i]? = some v) (hf : L[i]? = some fs) (e : vat kvs root fs = v) : tv kvs vs L i = tv kvs vs L (i + 1) := by
  rw [tv_succ h hv hf, e]
  unfold tv
  rw [drop_get hv]
theorem tv_zero : tv kvs vs L 0 = vs := by unfold tv newV; simp
theorem tv_fin (h : vs.length ≤ L.length) : tv kvs vs L vs.length = newV kvs (vs.zip L) := by
  unfold tv
  rw [List.drop_length, List.append_nil, List.take_of_length_le (by rw [List.length_zip]; omega)]
theorem news_succ (h : vs.length ≤ L.length) (hv : vs[i]? = some v) (hf : L[i]? = some fs) : newsT kvs ((vs.zip L).take (i + 1)) = newsT kvs ((vs.zip L).take i) ++ newT kvs (v, fs) := by
  rw [List.take_add_one, zip_at h hv hf]
  unfold newsT
  rw [List.flatMap_append]
  congr 1
  show List.flatMap (newT kvs) [(v, fs)] = _
  rw [List.flatMap_cons, List.flatMap_nil, List.append_nil]
theorem tv_w (k : Kv kvs) (hw : ∀ v ∈ vs, v ∈ w18) : ∀ v ∈ tv kvs vs L i, v ∈ w18 := by
  intro v m
  rcases List.mem_append.mp m with m | m
  · obtain ⟨z, _, rfl⟩ := List.mem_map.mp m
    exact vat_w k root_w
  · exact hw v (List.mem_of_mem_drop m)
end
/-- a piece of news -/
def Rec (A0 A : AH) (x : D) (t : T) : Prop := ∃ z fs o v, x = .tup [.ref z, o, v] ∧ A0 z = none ∧ A z = some (.lst fs) ∧ Pth fs ∧ o ∈ w18 ∧ v ∈ w18 ∧ t = .tup [pathT fs, plT o, plT v]
def Recs (A0 A : AH) (xs : List D) (ts : List T) : Prop := xs.length = ts.length ∧ ∀ (i : Nat) (x : D), xs[i]? = some x → ∃ t, ts[i]? = some t ∧ Rec A0 A x t
theorem Recs.nil {A0 A : AH} : Recs A0 A [] [] := ⟨rfl, fun i x h => by simp at h⟩
theorem Recs.app {A0 A : AH} {xs : List D} {ts : List T} {x : D} {t : T} (h : Recs A0 A xs ts) (r : Rec A0 A x t) : Recs A0 A (xs ++ [x]) (ts ++ [t]) := by
  refine ⟨by simp [h.1], fun i y ey => ?_⟩
  by_cases c : i < xs.length
  · rw [List.getElem?_append_left c] at ey
    rw [List.getElem?_append_left (by rw [← h.1]; exact c)]
    exact h.2 i y ey
  · rw [List.getElem?_append_right (by omega)] at ey
    have z : i - xs.length = 0 := by
      have := (List.getElem?_eq_some_iff.mp ey).1
      simp at this; omega
    rw [z] at ey
    cases ey
    refine ⟨t, ?_, r⟩
    rw [List.getElem?_append_right (by rw [← h.1]; omega), ← h.1, z]; rfl
theorem Recs.keep {A0 A A' : AH} {xs : List D} {ts : List T} (h : Recs A0 A xs ts) (k : ∀ a l, A0 a = none → A a = some (.lst l) → A' a = some (.lst l)) : Recs A0 A' xs ts := ⟨h.1, fun i x e => by
  obtain ⟨t, et, z, fs, o, v, h1, h2, h3, h4⟩ := h.2 i x e
  exact ⟨t, et, z, fs, o, v, h1, h2, k z fs h2 h3, h4⟩⟩
theorem Recs.less {A0 B0 A : AH} {xs : List D} {ts : List T} (h : Recs B0 A xs ts) (k : ∀ a, B0 a = none → A0 a = none) : Recs A0 A xs ts := ⟨h.1, fun i x e => by
  obtain ⟨t, et, z, fs, o, v, h1, h2, h3⟩ := h.2 i x e
  exact ⟨t, et, z, fs, o, v, h1, k z h2, h3⟩⟩
theorem Recs.snap {A0 A : AH} : ∀ {xs : List D} {ts : List T}, Recs A0 A xs ts → Snaps A xs ts
  | [], [], _ => rfl
  | [], _ :: _, h => by have := h.1; simp at this
  | _ :: _, [], h => by have := h.1; simp at this
  | x :: xs, t :: ts, h => by
    obtain ⟨t', et, z, fs, o, v, rfl, h2, h3, h4, h5, h6, h7⟩ := h.2 0 x rfl
    obtain rfl : t = t' := by simpa using et
    subst h7
    exact ⟨_, xs, rfl, ⟨_, rfl, .ref z, [o, v], rfl, .inl ⟨z, fs, rfl, h3, snaps_pl _ (pth_pls h4)⟩, o, [v], rfl, snap_pl _ (w18_pl h5), v, [], rfl, snap_pl _ (w18_pl h6), rfl⟩, Recs.snap (xs := xs) (ts := ts) ⟨by have := h.1; simpa using this, fun i x e => h.2 (i + 1) x (by simpa using e)⟩⟩
theorem newT_small {kvs : List (D × D)} {z : D × List D} (k : Kv kvs) (h1 : z.1 ∈ w18) (h2 : Pth z.2) : T.deps (newT kvs z) ≤ 6 ∧ T.sms (newT kvs z) = true ∧ T.szs (newT kvs z) ≤ 8000 := by
  unfold newT
  split
  · exact ⟨by decide, rfl, by decide⟩
  · obtain ⟨_, a2, a3⟩ := w18_sml _ h1
    have vw := vat_w k (fs := z.2) root_w
    obtain ⟨_, b2, b3⟩ := w18_sml _ vw
    obtain ⟨c2, c3⟩ := sml_list (pth_sml h2)
    have d1 := w18_dep _ h1
    have d2 := w18_dep _ vw
    have d3 := pth_dep h2
    have l4 := h2.1
    refine ⟨?_, ?_, ?_⟩
    · show max (max (T.deps (plTs z.2) + 1) (max (plT z.1).dep (max (plT (vat kvs root z.2)).dep 0)) + 1) 0 ≤ 6
      omega
    · show ((T.sms (plTs z.2) && ((plT z.1).sm && ((plT (vat kvs root z.2)).sm && true))) && true) = true
      rw [c2, a2, b2]; rfl
    · show ((T.szs (plTs z.2) + 4) + 2 + ((plT z.1).sz + 2 + ((plT (vat kvs root z.2)).sz + 2 + 0)) + 4) + 2 + 0 ≤ 8000
      omega
theorem t_app : ∀ {a b : List T}, T.deps (a ++ b) = max (T.deps a) (T.deps b) ∧ T.sms (a ++ b) = (T.sms a && T.sms b) ∧ T.szs (a ++ b) = T.szs a + T.szs b
  | [], b => ⟨by show T.deps b = max 0 (T.deps b); omega, rfl, by show T.szs b = 0 + T.szs b; omega⟩
  | x :: a, b => by
    obtain ⟨h1, h2, h3⟩ := t_app (a := a) (b := b)
    refine ⟨?_, ?_, ?_⟩
    · show max x.dep (T.deps (a ++ b)) = max (max x.dep (T.deps a)) (T.deps b)
      omega
    · show (x.sm && T.sms (a ++ b)) = ((x.sm && T.sms a) && T.sms b)
      rw [h2, Bool.and_assoc]
    · show x.sz + 2 + T.szs (a ++ b) = x.sz + 2 + T.szs a + T.szs b
      omega
theorem newsT_small {kvs : List (D × D)} (k : Kv kvs) : ∀ {zs : List (D × List D)}, (∀ z ∈ zs, z.1 ∈ w18 ∧ Pth z.2) → T.deps (newsT kvs zs) ≤ 6 ∧ T.sms (newsT kvs zs) = true ∧ T.szs (newsT kvs zs) ≤ 8000 * zs.length
  | [], _ => ⟨by show (0 : Nat) ≤ 6; decide, rfl, by show (0 : Nat) ≤ _; exact Nat.zero_le _⟩
  | z :: zs, h => by
    obtain ⟨a1, a2, a3⟩ := newT_small k (h z List.mem_cons_self).1 (h z List.mem_cons_self).2
    obtain ⟨b1, b2, b3⟩ := newsT_small k (zs := zs) fun y m => h y (List.mem_cons_of_mem _ m)
    have e : newsT kvs (z :: zs) = newT kvs z ++ newsT kvs zs := by unfold newsT; rw [List.flatMap_cons]
    obtain ⟨t1, t2, t3⟩ := t_app (a := newT kvs z) (b := newsT kvs zs)
    rw [e, t1, t2, t3, a2, b2, List.length_cons]
    exact ⟨by omega, rfl, by omega⟩
theorem news_none {kvs : List (D × D)} {L : List (List D)} {vs : List D} : newsT kvs ((newV kvs (vs.zip L)).zip L) = [] := by
  unfold newsT
  rw [List.flatMap_eq_nil_iff]
  rintro ⟨v, fs⟩ m
  obtain ⟨i, hi⟩ := List.mem_iff_getElem?.mp m
  rw [List.getElem?_zip_eq_some] at hi
  obtain ⟨h1, h2⟩ := hi
  unfold newV at h1
  rw [List.getElem?_map] at h1
  obtain ⟨z, hz, ez⟩ := Option.map_eq_some_iff.mp h1
  rw [List.getElem?_zip_eq_some] at hz
  have : z.2 = fs := by have := hz.2; rw [h2] at this; exact (Option.some.inj this).symm
  unfold newT
  rw [if_pos (by rw [← ez, this])]
def sp__law_news : DSp := fun ds A R _ => ∃ pl tl c kvs as L vs, ds = [.ref pl, .ref tl, .ref c] ∧ A pl = some (.lst (as.map D.ref)) ∧ tl ≠ pl ∧ Inr A [tl] as L ∧ (∀ fs ∈ L, Pth fs) ∧ L.length ≤ 100 ∧ A tl = some (.lst vs) ∧ vs.length ≤ L.length ∧ (∀ v ∈ vs, v ∈ w18) ∧ A c = some (.dic kvs) ∧ Kv kvs ∧
  ∀ p xs A', Sm [tl] A A' → A p = none → A' p = some (.lst xs) → Snaps A' xs (newsT kvs (vs.zip L)) → A' tl = some (.lst (newV kvs (vs.zip L))) → R (.ref p) A'
def sp_Watcher_news (CS CW : Addr) : DSp := fun ds A R _ => ∃ w s0 s d kvs pp tt as L vs, ds = [.ref w, .ref s] ∧ Wtc A CW w s0 pp tt as vs ∧ St A CS s d kvs ∧ Kv kvs ∧ Inr A [tt] as L ∧ (∀ fs ∈ L, Pth fs) ∧ L.length ≤ 100 ∧ vs.length = L.length ∧ (∀ v ∈ vs, v ∈ w18) ∧
  ∀ p xs A', Sm [w, tt] A A' → A p = none → A' p = some (.lst xs) → Recs A A' xs (newsT kvs (vs.zip L)) → Wtc A' CW w s pp tt as (newV kvs (vs.zip L)) → R (.ref p) A'
/- _law_news: 0 _law_paths_here, 1 _law_told, 2 _law_cells_here, 3 _law_found, 4 _law_k, 5 _law_value -/
def _law_news_p4 : DTS := dSeq (dDrop (dBm isL fAppend (dV 3) (dCons (dTup (dCons (dOp mIx (dV 0) (dV 4)) (dCons (dOp mIx (dV 1) (dV 4)) (dCons (dV 5) (dNil))))) (dNil)))) (
  dAsg (dV 5) (dgSub mSt (dV 1) (dV 4)))
def _law_news_p3 : DTS := dSeq (dAsg (dOp mIx (dCal sp__law_walk (dCons (dV 2) (dCons (dOp mIx (dV 0) (dV 4)) (dNil)))) (dC (.int 2))) (dName 5)) (
  dIf (dNotT (dTru (dCal sp__law_same (dCons (dV 5) (dCons (dOp mIx (dV 1) (dV 4)) (dNil)))))) ((_law_news_p4)) (dNext))
def _law_news_p2 : DTS := dSeq (dFor (diR1 (dCons (dCall mLen (dCons (dV 1) (dNil))) (dNil))) (dName 4) ((_law_news_p3))) (
  dRet (dV 3))
def _law_news_p1 : DTS := dSeq (dAsg (dLst (dNil)) (dName 3)) (
  (_law_news_p2))
def t__law_news : DTS := dSeq (dAsg (dLst (dNil)) (dName 3)) (
  dSeq (dFor (diR1 (dCons (dCall mLen (dCons (dV 1) (dNil))) (dNil))) (dName 4) (dSeq (dAsg (dOp mIx (dCal sp__law_walk (dCons (dV 2) (dCons (dOp mIx (dV 0) (dV 4)) (dNil)))) (dC (.int 2))) (dName 5)) (
  dIf (dNotT (dTru (dCal sp__law_same (dCons (dV 5) (dCons (dOp mIx (dV 1) (dV 4)) (dNil)))))) (dSeq (dDrop (dBm isL fAppend (dV 3) (dCons (dTup (dCons (dOp mIx (dV 0) (dV 4)) (dCons (dOp mIx (dV 1) (dV 4)) (dCons (dV 5) (dNil))))) (dNil)))) (
  dAsg (dV 5) (dgSub mSt (dV 1) (dV 4)))) (dNext)))) (
  dRet (dV 3)))
/- Watcher.news: 0 self, 1 state, 2 found, 3 place, 4 path, 5 value -/
def Watcher_news_p4 (C_Watcher : Addr) : DTS := dSeq (dDrop (dBm isL fAppend (dV 2) (dCons (dTup (dCons (dCall fListOf (dCons (dV 4) (dNil))) (dCons (dOp mIx (dFld C_Watcher "told" (dV 0)) (dV 3)) (dCons (dV 5) (dNil))))) (dNil)))) (
  dAsg (dV 5) (dgSub mSt (dFld C_Watcher "told" (dV 0)) (dV 3)))
def Watcher_news_p3 (C_State C_Watcher : Addr) : DTS := dSeq (dAsg (dCal (sp_value_at C_State) (dCons (dV 1) (dCons (dV 4) (dNil)))) (dName 5)) (
  dIf (dB (dOp (mEq true) (dV 5) (dOp mIx (dFld C_Watcher "told" (dV 0)) (dV 3)))) ((Watcher_news_p4 C_Watcher)) (dNext))
def Watcher_news_p5 (C_Watcher : Addr) : DTS := dSeq (sFld C_Watcher "state" (dV 0) (dV 1)) (
  dRet (dV 2))
def Watcher_news_p2 (C_State C_Watcher : Addr) : DTS := dSeq (dFor (diE (dCons (dFld C_Watcher "paths" (dV 0)) (dNil))) (dgTup (dgCons (dName 3) (dgCons (dName 4) (dgNil)))) ((Watcher_news_p3 C_State C_Watcher))) (
  (Watcher_news_p5 C_Watcher))
def Watcher_news_p1 (C_State C_Watcher : Addr) : DTS := dSeq (dAsg (dLst (dNil)) (dName 2)) (
  (Watcher_news_p2 C_State C_Watcher))
def t_Watcher_news (C_State C_Watcher : Addr) : DTS := dSeq (dAsg (dLst (dNil)) (dName 2)) (
  dSeq (dFor (diE (dCons (dFld C_Watcher "paths" (dV 0)) (dNil))) (dgTup (dgCons (dName 3) (dgCons (dName 4) (dgNil)))) (dSeq (dAsg (dCal (sp_value_at C_State) (dCons (dV 1) (dCons (dV 4) (dNil)))) (dName 5)) (
  dIf (dB (dOp (mEq true) (dV 5) (dOp mIx (dFld C_Watcher "told" (dV 0)) (dV 3)))) (dSeq (dDrop (dBm isL fAppend (dV 2) (dCons (dTup (dCons (dCall fListOf (dCons (dV 4) (dNil))) (dCons (dOp mIx (dFld C_Watcher "told" (dV 0)) (dV 3)) (dCons (dV 5) (dNil))))) (dNil)))) (
  dAsg (dV 5) (dgSub mSt (dFld C_Watcher "told" (dV 0)) (dV 3)))) (dNext)))) (
  dSeq (sFld C_Watcher "state" (dV 0) (dV 1)) (
  dRet (dV 2))))
theorem q__law_news : ∀ ds A R E, ds.length = 3 → sp__law_news ds A R E → t__law_news { nx := fun _ A' => R .non A', rt := R } (ds.map some ++ List.replicate (6 - ds.length) none) A := by
  rintro ds A R E - ⟨pl, tl, c, kvs, as, L, vs, rfl, hpl, ne, hI, hP, ll, htl, vl, hw, hc, hk, hR⟩
  show _law_news_p1 _ [some (.ref pl), some (.ref tl), some (.ref c), none, none, none] A
  generalize hDD : ({ nx := fun _ A' => R .non A', rt := R } : DE) = DD
  have hrt : DD.rt = R := by rw [← hDD]
  have tc : c ≠ tl := ne_oo hc htl (by simp)
  unfold _law_news_p1
  rw [dSeq_ap, dAsg_ap]
  dsimp only [dSeq, dIf, dAsg, dName, dRet, dRetN, dDrop, dNext, dB, dTru, dOp, dUn, dCall, dCons, dNil, dC, dV, dTup, dLst, dCal, dMet, dMak, dFld, DL.sFld, dBm, dgSub, dgTup, dgCons, dgNil, dAndT, dOrT, dNotT, dOr, dAnd, dNotE, dIsi, dSl, dNoP, dPart, dDNew, dNever, fInt, fMod, fAdd_int, fSub, fMul, fDiv, fPow, fI2, fI2C, fNeg, mLt, List.getElem?_cons_succ, List.getElem?_cons_zero, List.set_cons_zero, List.set_cons_succ, dMetX, dCalX, dRaise, dErr1, dXf, dIsE]
  intro p hp
  have pt : p ≠ tl := (ne_nn htl hp).symm
  have s1 : Sm [] A (up A p (.lst [])) := Sm.new hp
  have e1 : up A p (.lst []) p = some (.lst []) := up_same
  generalize up A p (.lst []) = A1 at s1 e1 ⊢
  try dsimp only [dNext, dName, List.set_cons_zero, List.set_cons_succ]
  unfold _law_news_p2
  rw [dSeq_ap, dFor_r1]
  dsimp only [dCall, dCons, dNil, dV, dC, List.getElem?_cons_succ, List.getElem?_cons_zero]
  refine len_lst (s1 _ _ (by simp) htl) ?_
  refine for_r1 (tb := _law_news_p3) (by unfold small62; omega) (fun i σ A' => ∃ x4 x5 xs, σ = [some (.ref pl), some (.ref tl), some (.ref c), some (.ref p), x4, x5] ∧ Sm [tl] A A' ∧ A' p = some (.lst xs) ∧ Snaps (woA A' [tl, p]) xs (newsT kvs ((vs.zip L).take i)) ∧ xs.length ≤ i ∧ A' tl = some (.lst (tv kvs vs L i))) ⟨none, none, [], rfl, s1.of0, e1, rfl, Nat.le_refl _, by rw [tv_zero]; exact s1 _ _ (by simp) htl⟩ ?_ ?_ (fun Q q => q)
  · rintro i σ A2 hi ⟨x4, x5, xs, rfl, s2, e2, sn, xl, t2⟩
    have hi : i < vs.length := by simpa using hi
    have hv : vs[i]? = some vs[i] := List.getElem?_eq_getElem hi
    obtain ⟨a, fs, ea, el, na, xa0⟩ := hI.at_ (i := i) (by omega)
    have xa := s2 a _ na xa0
    have ap : a ≠ p := ne_nn xa0 hp
    have eD : (as.map D.ref)[i]? = some (.ref a) := by rw [List.getElem?_map, ea]; rfl
    have hp' := hP fs (List.mem_of_getElem? el)
    have vw := vat_w hk (fs := fs) root_w
    have ow := hw vs[i] (List.getElem_mem _)
    have pl2 := s2 _ _ (by simpa using ne.symm) hpl
    try dsimp only [dNext, dName, List.set_cons_zero, List.set_cons_succ]
    unfold _law_news_p3
    rw [dSeq_ap, dAsg_ap]
    dsimp only [dSeq, dIf, dAsg, dName, dRet, dRetN, dDrop, dNext, dB, dTru, dOp, dUn, dCall, dCons, dNil, dC, dV, dTup, dLst, dCal, dMet, dMak, dFld, DL.sFld, dBm, dgSub, dgTup, dgCons, dgNil, dAndT, dOrT, dNotT, dOr, dAnd, dNotE, dIsi, dSl, dNoP, dPart, dDNew, dNever, fInt, fMod, fAdd_int, fSub, fMul, fDiv, fPow, fI2, fI2C, fNeg, mLt, List.getElem?_cons_succ, List.getElem?_cons_zero, List.set_cons_zero, List.set_cons_succ, dMetX, dCalX, dRaise, dErr1, dXf, dIsE]
    rw [show (0 : Int) + (i : Int) = (i : Int) by omega]
    refine mIx_at (k := i) pl2 eD ?_
    refine ⟨c, kvs, a, fs, rfl, s2 _ _ (by simpa using tc) hc, hk, xa, hp', fun w pv pa A3 s3 w0 ew ev ek => mIx_lst ew (d := vat kvs root fs) rfl ?_⟩
    have s23 := s2.trans s3.of0
    have t3 := s3 _ _ (by simp) t2
    have e3 := s3 _ _ (by simp) e2
    have pl3 := s3 _ _ (by simp) pl2
    have xa3 := s3 _ _ (by simp) xa
    have sn3 : Snaps (woA A3 [tl, p]) xs (newsT kvs ((vs.zip L).take i)) := snaps_mono (wo_keep fun a ds _ e => s3 _ _ (by simp) e) _ _ sn
    have ti : (tv kvs vs L i)[i]? = some vs[i] := by rw [tv_at vl hi, hv]
    refine mIx_at (k := i) t3 ti ?_
    refine ⟨_, _, plT (vat kvs root fs), plT vs[i], rfl, snap_pl _ (w18_pl vw), snap_pl _ (w18_pl ow), one_ok vw, one_ok ow, ?_⟩
    rw [rep_w18 _ vw _ ow]
    by_cases e : vat kvs root fs = vs[i]
    · rw [decide_eq_true e]
      refine ifF ?_
      refine ⟨_, _, xs, rfl, s23, e3, ?_, by omega, by rw [← tv_same vl hv el e]; exact t3⟩
      rw [news_succ vl hv el]
      unfold newT
      rw [if_pos e, List.append_nil]; exact sn3
    · rw [decide_eq_false e]
      refine ifT ?_
      unfold _law_news_p4
      rw [dSeq_ap, dDrop_ap]
      dsimp only [dSeq, dIf, dAsg, dName, dRet, dRetN, dDrop, dNext, dB, dTru, dOp, dUn, dCall, dCons, dNil, dC, dV, dTup, dLst, dCal, dMet, dMak, dFld, DL.sFld, dBm, dgSub, dgTup, dgCons, dgNil, dAndT, dOrT, dNotT, dOr, dAnd, dNotE, dIsi, dSl, dNoP, dPart, dDNew, dNever, fInt, fMod, fAdd_int, fSub, fMul, fDiv, fPow, fI2, fI2C, fNeg, mLt, List.getElem?_cons_succ, List.getElem?_cons_zero, List.set_cons_zero, List.set_cons_succ, dMetX, dCalX, dRaise, dErr1, dXf, dIsE]
      refine ⟨⟨_, e3⟩, mIx_at (k := i) pl3 eD (mIx_at (k := i) t3 ti ?_)⟩
      refine fAppend_lst e3 (by show _ < 16777216; omega) ?_
      have t4 : up A3 p (.lst (xs ++ [.tup [.ref a, vs[i], vat kvs root fs]])) tl = some (.lst (tv kvs vs L i)) := by rw [up_ne pt.symm]; exact t3
      refine mSt_at (k := i) t4 (by rw [tv_len vl]; exact hi) ?_
      rw [tv_set vl hv el]
      refine ⟨_, _, _, rfl, ?_, by rw [up_ne pt]; exact up_same, ?_, by rw [List.length_append, List.length_singleton]; omega, up_same⟩
      · exact (((s23.weak (V := [tl, p]) (by simp)).trans (Sm.put (by simp))).trans (Sm.put (by simp))).drop fun a ma => by
          simp at ma
          rcases ma with rfl | rfl
          · exact .inl (by simp)
          · exact .inr hp
      · rw [news_succ vl hv el]
        unfold newT
        rw [if_neg e]
        refine snaps_app (snaps_mono (wo_keep fun b ds nb e => ?_) _ _ sn3) ⟨_, [], rfl, ⟨_, rfl, .ref a, [vs[i], vat kvs root fs], rfl, .inl ⟨a, fs, rfl, ?_, snaps_pl _ (pth_pls hp')⟩, vs[i], [vat kvs root fs], rfl, snap_pl _ (w18_pl ow), vat kvs root fs, [], rfl, snap_pl _ (w18_pl vw), rfl⟩, rfl⟩
        · simp at nb
          rw [up_ne nb.1, up_ne nb.2]; exact e
        · unfold woA
          rw [if_neg (by simp [ap, show a ≠ tl by simpa using na]), up_ne (by simpa using na), up_ne ap]; exact xa3
  · rintro σ A2 ⟨x4, x5, xs, rfl, s2, e2, sn, xl, t2⟩
    try dsimp only [dNext, dName, List.set_cons_zero, List.set_cons_succ]
    rw [dRet_ap, hrt]
    dsimp only [dV, List.getElem?_cons_succ, List.getElem?_cons_zero]
    have zl : (vs.zip L).length = vs.length := by rw [List.length_zip]; omega
    have ez : (vs.zip L).take (vs.length : Int).toNat = vs.zip L := by rw [Int.toNat_natCast, ← zl, List.take_length]
    rw [ez] at sn
    rw [Int.toNat_natCast, tv_fin vl] at t2
    exact hR p xs A2 s2 hp e2 (snaps_mono woA_le _ _ sn) t2
section
variable {CS CW : Addr}
theorem q_Watcher_news : ∀ ds A R E, ds.length = 2 → sp_Watcher_news CS CW ds A R E → t_Watcher_news CS CW { nx := fun _ A' => R .non A', rt := R } (ds.map some ++ List.replicate (6 - ds.length) none) A := by
  rintro ds A R E - ⟨w, s0, s, d, kvs, pp, tt, as, L, vs, rfl, hw, hs, hk, hI, hP, ll, vl, hv, hR⟩
  show Watcher_news_p1 CS CW _ [some (.ref w), some (.ref s), none, none, none, none] A
  generalize hDD : ({ nx := fun _ A' => R .non A', rt := R } : DE) = DD
  have hrt : DD.rt = R := by rw [← hDD]
  have al := hI.1
  obtain ⟨wp, wt⟩ := hw.ne
  have pt := hw.2.2.2
  have vl' : vs.length ≤ L.length := by omega
  have st' : s ≠ tt := ne_oo hs.1 hw.2.2.1 (by simp)
  have dt' : d ≠ tt := ne_oo hs.2 hw.2.2.1 (by simp)
  unfold Watcher_news_p1
  rw [dSeq_ap, dAsg_ap]
  dsimp only [dSeq, dIf, dAsg, dName, dRet, dRetN, dDrop, dNext, dB, dTru, dOp, dUn, dCall, dCons, dNil, dC, dV, dTup, dLst, dCal, dMet, dMak, dFld, DL.sFld, dBm, dgSub, dgTup, dgCons, dgNil, dAndT, dOrT, dNotT, dOr, dAnd, dNotE, dIsi, dSl, dNoP, dPart, dDNew, dNever, fInt, fMod, fAdd_int, fSub, fMul, fDiv, fPow, fI2, fI2C, fNeg, mLt, List.getElem?_cons_succ, List.getElem?_cons_zero, List.set_cons_zero, List.set_cons_succ, dMetX, dCalX, dRaise, dErr1, dXf, dIsE]
  intro p hp
  have p_t : p ≠ tt := (ne_nn hw.2.2.1 hp).symm
  have p_w : p ≠ w := (ne_nn hw.1 hp).symm
  have p_p : p ≠ pp := (ne_nn hw.2.1 hp).symm
  have s1 : Sm [tt] A (up A p (.lst [])) := Sm.new hp
  have e1 : up A p (.lst []) p = some (.lst []) := up_same
  have s10 : Sm [] A (up A p (.lst [])) := Sm.new hp
  have w1' := up_at (u := .lst []) hw.1 hp
  have t1 : up A p (.lst []) tt = some (.lst vs) := up_at hw.2.2.1 hp
  generalize up A p (.lst []) = A1 at s1 e1 s10 w1' t1 ⊢
  try dsimp only [dNext, dName, List.set_cons_zero, List.set_cons_succ]
  unfold Watcher_news_p2
  rw [dSeq_ap]
  refine for_e (a := pp) (xs := as.map D.ref) (s1 _ _ (by simpa using pt) hw.2.1) (fun i σ A' => ∃ x3 x4 x5 xs, σ = [some (.ref w), some (.ref s), some (.ref p), x3, x4, x5] ∧ Sm [tt] A A' ∧ Sm [tt, p] A1 A' ∧ A' p = some (.lst xs) ∧ Recs A1 A' xs (newsT kvs ((vs.zip L).take i)) ∧ xs.length ≤ i ∧ A' tt = some (.lst (tv kvs vs L i))) ⟨none, none, none, [], rfl, s1, Sm.refl, e1, Recs.nil, Nat.le_refl _, by rw [tv_zero]; exact t1⟩ (fun i σ A' _ ⟨_, _, _, _, _, s, _⟩ => s _ _ (by simpa using pt) hw.2.1) ?_ ?_ (fun Q q => fld_at (s1 _ _ (by simpa using wt) hw.1) gPa q)
  · rintro i x σ A2 hx ⟨x3, x4, x5, xs, rfl, s2, q2, e2, rc, xl, t2⟩
    have lt := (List.getElem?_eq_some_iff.mp hx).1
    rw [List.length_map, al] at lt
    have hv' : vs[i]? = some vs[i] := List.getElem?_eq_getElem (by omega)
    obtain ⟨a, fs, ea, el, na, xa0⟩ := hI.at_ (i := i) lt
    rw [List.getElem?_map, ea] at hx
    obtain rfl : D.ref a = x := by simpa using hx
    have xa := s2 a _ na xa0
    have hp' := hP fs (List.mem_of_getElem? el)
    have vw := vat_w hk (fs := fs) root_w
    have ow := hv vs[i] (List.getElem_mem _)
    have ti : (tv kvs vs L i)[i]? = some vs[i] := by rw [tv_at vl' (by omega), hv']
    dsimp only [dgTup, dgCons, dgNil, dName, List.set_cons_zero, List.set_cons_succ]
    refine ⟨rfl, ?_⟩
    unfold Watcher_news_p3
    rw [dSeq_ap, dAsg_ap]
    dsimp only [dSeq, dIf, dAsg, dName, dRet, dRetN, dDrop, dNext, dB, dTru, dOp, dUn, dCall, dCons, dNil, dC, dV, dTup, dLst, dCal, dMet, dMak, dFld, DL.sFld, dBm, dgSub, dgTup, dgCons, dgNil, dAndT, dOrT, dNotT, dOr, dAnd, dNotE, dIsi, dSl, dNoP, dPart, dDNew, dNever, fInt, fMod, fAdd_int, fSub, fMul, fDiv, fPow, fI2, fI2C, fNeg, mLt, List.getElem?_cons_succ, List.getElem?_cons_zero, List.set_cons_zero, List.set_cons_succ, dMetX, dCalX, dRaise, dErr1, dXf, dIsE]
    refine ⟨s, d, kvs, a, fs, rfl, hs.keep s2 (by simpa using st') (by simpa using dt'), hk, xa, hp', fun A3 s3 => ?_⟩
    have s23 := s2.trans s3.of0
    have q23 := q2.trans s3.of0
    have t3 := s3 _ _ (by simp) t2
    have e3 := s3 _ _ (by simp) e2
    have xa3 := s3 _ _ (by simp) xa
    have w3 := s23 _ _ (by simpa using wt) hw.1
    have rc3 : Recs A1 A3 xs (newsT kvs ((vs.zip L).take i)) := rc.keep fun b l _ e => s3 _ _ (by simp) e
    refine fld_at w3 gTo (mIx_at (k := i) t3 ti (mEq_pl (w18_sml _ vw).1 (w18_sml _ ow).1 ?_))
    by_cases e : vat kvs root fs = vs[i]
    · rw [decide_eq_true e]
      refine ifF ?_
      refine ⟨_, _, _, xs, rfl, s23, q23, e3, ?_, by omega, by rw [← tv_same vl' hv' el e]; exact t3⟩
      rw [news_succ vl' hv' el]
      unfold newT
      rw [if_pos e, List.append_nil]; exact rc3
    · rw [decide_eq_false e]
      refine ifT ?_
      unfold Watcher_news_p4
      rw [dSeq_ap, dDrop_ap]
      dsimp only [dSeq, dIf, dAsg, dName, dRet, dRetN, dDrop, dNext, dB, dTru, dOp, dUn, dCall, dCons, dNil, dC, dV, dTup, dLst, dCal, dMet, dMak, dFld, DL.sFld, dBm, dgSub, dgTup, dgCons, dgNil, dAndT, dOrT, dNotT, dOr, dAnd, dNotE, dIsi, dSl, dNoP, dPart, dDNew, dNever, fInt, fMod, fAdd_int, fSub, fMul, fDiv, fPow, fI2, fI2C, fNeg, mLt, List.getElem?_cons_succ, List.getElem?_cons_zero, List.set_cons_zero, List.set_cons_succ, dMetX, dCalX, dRaise, dErr1, dXf, dIsE]
      refine ⟨⟨_, e3⟩, listOf_lst xa3 fun z hz => ?_⟩
      have z0 : A1 z = none := q23.noneW (fun c m => by
        simp at m
        rcases m with rfl | rfl
        · exact ⟨_, t3⟩
        · exact ⟨_, e3⟩) hz
      have zp : z ≠ p := (ne_nn e3 hz).symm
      have zt : z ≠ tt := (ne_nn t3 hz).symm
      refine fld_at (up_at w3 hz) gTo (mIx_at (k := i) (up_at t3 hz) ti ?_)
      refine fAppend_lst (up_at e3 hz) (by show _ < 16777216; omega) ?_
      have s34 : Sm [tt, p] A (up (up A3 z (.lst fs)) p (.lst (xs ++ [.tup [.ref z, vs[i], vat kvs root fs]]))) := ((s23.weak (V := [tt, p]) (by simp)).trans (Sm.new hz)).trans (Sm.put (by simp))
      have q34 : Sm [tt, p] A1 (up (up A3 z (.lst fs)) p (.lst (xs ++ [.tup [.ref z, vs[i], vat kvs root fs]]))) := (q23.trans (Sm.new hz)).trans (Sm.put (by simp))
      have e4 : up (up A3 z (.lst fs)) p (.lst (xs ++ [.tup [.ref z, vs[i], vat kvs root fs]])) p = some (.lst (xs ++ [.tup [.ref z, vs[i], vat kvs root fs]])) := up_same
      have t4 : up (up A3 z (.lst fs)) p (.lst (xs ++ [.tup [.ref z, vs[i], vat kvs root fs]])) tt = some (.lst (tv kvs vs L i)) := by rw [up_ne p_t.symm]; exact up_at t3 hz
      have w4 := s34 w _ (by simp [wt, p_w.symm]) hw.1
      have rc4 : Recs A1 (up (up A3 z (.lst fs)) p (.lst (xs ++ [.tup [.ref z, vs[i], vat kvs root fs]]))) (xs ++ [.tup [.ref z, vs[i], vat kvs root fs]]) (newsT kvs ((vs.zip L).take (i + 1))) := by
        rw [news_succ vl' hv' el]
        unfold newT
        rw [if_neg e]
        refine (Recs.keep (A := A3) rc3 fun b l b0 eb => ?_).app ⟨z, fs, vs[i], vat kvs root fs, rfl, z0, by rw [up_ne zp]; exact up_same, hp', ow, vw, rfl⟩
        by_cases bp : b = p
        · rw [bp, e1] at b0; cases b0
        · rw [up_ne bp]; exact up_at eb hz
      generalize up (up A3 z (.lst fs)) p (.lst (xs ++ [.tup [.ref z, vs[i], vat kvs root fs]])) = A4 at s34 q34 e4 t4 w4 rc4 ⊢
      refine fld_at w4 gTo ?_
      refine mSt_at (k := i) t4 (by rw [tv_len vl']; omega) ?_
      rw [tv_set vl' hv' el]
      refine ⟨_, _, _, _, rfl, ?_, q34.trans (Sm.put (by simp)), by rw [up_ne p_t]; exact e4, rc4.keep fun b l b0 eb => ?_, by rw [List.length_append, List.length_singleton]; omega, up_same⟩
      · exact (s34.trans (Sm.put (by simp))).drop fun a ma => by
          simp at ma
          rcases ma with rfl | rfl
          · exact .inl (by simp)
          · exact .inr hp
      · rw [up_ne (by rintro rfl; rw [t1] at b0; cases b0)]; exact eb
  · rintro σ A2 ⟨x3, x4, x5, xs, rfl, s2, q2, e2, rc, xl, t2⟩
    have zl : (vs.zip L).length = L.length := by rw [List.length_zip]; omega
    rw [List.length_map, al] at rc t2
    have ez : (vs.zip L).take L.length = vs.zip L := by rw [← zl, List.take_length]
    rw [ez] at rc
    rw [← vl, tv_fin vl'] at t2
    try dsimp only [dNext, dName, List.set_cons_zero, List.set_cons_succ]
    unfold Watcher_news_p5
    rw [dSeq_ap]
    dsimp only [dSeq, dIf, dAsg, dName, dRet, dRetN, dDrop, dNext, dB, dTru, dOp, dUn, dCall, dCons, dNil, dC, dV, dTup, dLst, dCal, dMet, dMak, dFld, DL.sFld, dBm, dgSub, dgTup, dgCons, dgNil, dAndT, dOrT, dNotT, dOr, dAnd, dNotE, dIsi, dSl, dNoP, dPart, dDNew, dNever, fInt, fMod, fAdd_int, fSub, fMul, fDiv, fPow, fI2, fI2C, fNeg, mLt, List.getElem?_cons_succ, List.getElem?_cons_zero, List.set_cons_zero, List.set_cons_succ, dMetX, dCalX, dRaise, dErr1, dXf, dIsE]
    have w2 := s2 _ _ (by simpa using wt) hw.1
    refine sfld_of w2 (by show (3 : Nat) < 1000; decide) ?_
    rw [hrt]
    refine hR p xs _ ((s2.weak (by simp)).trans (Sm.put (by simp))) hp (by rw [up_ne p_w]; exact e2) (Recs.less (rc.keep fun b l b0 eb => ?_) fun b b0 => (Sm.none0 s10 b0)) ⟨up_same, by rw [up_ne wp.symm]; exact s2 _ _ (by simpa using pt) hw.2.1, by rw [up_ne wt.symm]; exact t2, pt⟩
    rw [up_ne (by rintro rfl; rw [w1'] at b0; cases b0)]; exact eb
end
end LawP
set_option Elab.async false
set_option linter.all false
set_option maxRecDepth 100000
set_option maxHeartbeats 1000000
namespace LawP
open PySem L2 DL
/- law: 0 _law_script, 1 _law_box_here, 2 _law_paths_here, 3 _law_changes, 4 _law_cells_here, 5 _law_state_here, 6 _law_watcher, 7 _law_told, 8 _law_step, 9 _law_more_here, 10 _law_path, 11 _law_fresh, 12 _law_later, 13 _law_after -/
def law_p11 (C_State C_Watcher : Addr) : DTS := dSeq (dDrop (dBm isL fAppend (dV 7) (dCons (dOp mIx (dCal sp__law_walk (dCons (dV 4) (dCons (dV 10) (dNil)))) (dC (.int 2))) (dNil)))) (
  dIf (dNotT (dTru (dCal sp__law_same (dCons (dMet C_Watcher "watch" (sp_Watcher_watch C_State C_Watcher) (dV 6) (dCons (dCall fListOf (dCons (dV 10) (dNil))) (dNil))) (dCons (dOp mIx (dV 7) (dUn fNeg (dC (.int 1)))) (dNil)))))) (dRet (dC (.bl false))) (dNext))
def law_p20 : DTS := dSeq (dAsg (dV 12) (dName 5)) (
  dAsg (dV 13) (dName 4))
def law_p19 (C_State C_Watcher : Addr) : DTS := dSeq (dIf (dOrT (dNotT (dTru (dCal sp__law_same (dCons (dMet C_Watcher "news" (sp_Watcher_news C_State C_Watcher) (dV 6) (dCons (dV 12) (dNil))) (dCons (dCal sp__law_news (dCons (dV 2) (dCons (dV 7) (dCons (dV 13) (dNil))))) (dNil)))))) (dNotT (dTru (dCal sp__law_same (dCons (dMet C_Watcher "news" (sp_Watcher_news C_State C_Watcher) (dV 6) (dCons (dV 12) (dNil))) (dCons (dLst (dNil)) (dNil))))))) (dRet (dC (.bl false))) (dNext)) (
  (law_p20))
def law_p18 (C_State C_Watcher : Addr) : DTS := dSeq (dIf (dNotT (dTru (dCal (sp__law_local C_State) (dCons (dV 5) (dCons (dV 4) (dCons (dV 12) (dCons (dV 13) (dCons (dV 2) (dNil))))))))) (dRet (dC (.bl false))) (dNext)) (
  (law_p19 C_State C_Watcher))
def law_p17 (C_State C_Watcher : Addr) : DTS := dSeq (dAsg (dCal sp__law_cells (dCons (dV 3) (dNil))) (dName 13)) (
  (law_p18 C_State C_Watcher))
def law_p16 (C_State C_Watcher : Addr) : DTS := dSeq (dAsg (dCal (sp__law_state C_State) (dCons (dV 3) (dNil))) (dName 12)) (
  (law_p17 C_State C_Watcher))
def law_p15 (C_State C_Watcher : Addr) : DTS := dSeq (dAsg (dOp fAdd (dV 3) (dV 11)) (dName 3)) (
  (law_p16 C_State C_Watcher))
def law_p14 (C_State C_Watcher : Addr) : DTS := dSeq (dIf (dNotT (dTru (dCal sp__law_same (dCons (dMet C_Watcher "touched" (sp_Watcher_touched C_State C_Watcher) (dV 6) (dCons (dV 11) (dNil))) (dCons (dCal sp__law_touched (dCons (dV 2) (dCons (dCall mLen (dCons (dV 7) (dNil))) (dCons (dV 4) (dCons (dV 11) (dNil)))))) (dNil)))))) (dRet (dC (.bl false))) (dNext)) (
  (law_p15 C_State C_Watcher))
def law_p13 (C_State C_Watcher : Addr) : DTS := dSeq (dAsg (dCal sp__law_more (dCons (dV 1) (dCons (dOp fAdd (dC (.int 20)) (dOp fMul (dC (.int 10)) (dV 8))) (dNil)))) (dName 11)) (
  (law_p14 C_State C_Watcher))
def law_p12 (C_State C_Watcher : Addr) : DTS := dSeq (dIf (dNotT (dTru (dCal (sp__law_right C_State) (dCons (dV 5) (dCons (dV 4) (dCons (dV 2) (dNil))))))) (dRet (dC (.bl false))) (dNext)) (
  (law_p13 C_State C_Watcher))
def law_p10 (C_State C_Watcher : Addr) : DTS := dSeq (dFor (diL (dSl (dV 2) (dPart (dCall mLen (dCons (dV 7) (dNil)))) (dPart (dV 9)))) (dName 10) ((law_p11 C_State C_Watcher))) (
  (law_p12 C_State C_Watcher))
def law_p9 (C_State C_Watcher : Addr) : DTS := dSeq (dAsg (dIfE (dB (dOp (mLt .Lt) (dV 8) (dC (.int 3)))) (dOp fAdd (dCall mLen (dCons (dV 7) (dNil))) (dCal sp__law_draw (dCons (dV 1) (dCons (dOp fAdd (dOp fSub (dCall mLen (dCons (dV 2) (dNil))) (dCall mLen (dCons (dV 7) (dNil)))) (dC (.int 1))) (dNil))))) (dCall mLen (dCons (dV 2) (dNil)))) (dName 9)) (
  (law_p10 C_State C_Watcher))
def law_p8 (C_State C_Watcher : Addr) : DTS := dSeq (dFor (diR1 (dCons (dC (.int 4)) (dNil))) (dName 8) ((law_p9 C_State C_Watcher))) (
  dRet (dC (.bl true)))
def law_p7 (C_State C_Watcher : Addr) : DTS := dSeq (dAsg (dLst (dNil)) (dName 7)) (
  (law_p8 C_State C_Watcher))
def law_p6 (C_State C_Watcher : Addr) : DTS := dSeq (dAsg (dMak C_Watcher (sp_Watcher___init__ C_Watcher) (dCons (dV 5) (dNil))) (dName 6)) (
  (law_p7 C_State C_Watcher))
def law_p5 (C_State C_Watcher : Addr) : DTS := dSeq (dAsg (dCal (sp__law_state C_State) (dCons (dV 3) (dNil))) (dName 5)) (
  (law_p6 C_State C_Watcher))
def law_p4 (C_State C_Watcher : Addr) : DTS := dSeq (dAsg (dCal sp__law_cells (dCons (dV 3) (dNil))) (dName 4)) (
  (law_p5 C_State C_Watcher))
def law_p3 (C_State C_Watcher : Addr) : DTS := dSeq (dAsg (dOp fAdd (dCal sp__law_more (dCons (dV 1) (dCons (dC (.int 0)) (dNil)))) (dCal sp__law_more (dCons (dV 1) (dCons (dC (.int 10)) (dNil))))) (dName 3)) (
  (law_p4 C_State C_Watcher))
def law_p2 (C_State C_Watcher : Addr) : DTS := dSeq (dAsg (dCal sp__law_paths (dCons (dV 1) (dNil))) (dName 2)) (
  (law_p3 C_State C_Watcher))
def law_p1 (C_State C_Watcher : Addr) : DTS := dSeq (dAsg (dCal sp__law_box (dCons (dV 0) (dCons (dC (.int 0)) (dCons (dC (.int 40)) (dNil))))) (dName 1)) (
  (law_p2 C_State C_Watcher))
def t_law (C_State C_Watcher : Addr) : DTS := dSeq (dAsg (dCal sp__law_box (dCons (dV 0) (dCons (dC (.int 0)) (dCons (dC (.int 40)) (dNil))))) (dName 1)) (
  dSeq (dAsg (dCal sp__law_paths (dCons (dV 1) (dNil))) (dName 2)) (
  dSeq (dAsg (dOp fAdd (dCal sp__law_more (dCons (dV 1) (dCons (dC (.int 0)) (dNil)))) (dCal sp__law_more (dCons (dV 1) (dCons (dC (.int 10)) (dNil))))) (dName 3)) (
  dSeq (dAsg (dCal sp__law_cells (dCons (dV 3) (dNil))) (dName 4)) (
  dSeq (dAsg (dCal (sp__law_state C_State) (dCons (dV 3) (dNil))) (dName 5)) (
  dSeq (dAsg (dMak C_Watcher (sp_Watcher___init__ C_Watcher) (dCons (dV 5) (dNil))) (dName 6)) (
  dSeq (dAsg (dLst (dNil)) (dName 7)) (
  dSeq (dFor (diR1 (dCons (dC (.int 4)) (dNil))) (dName 8) (dSeq (dAsg (dIfE (dB (dOp (mLt .Lt) (dV 8) (dC (.int 3)))) (dOp fAdd (dCall mLen (dCons (dV 7) (dNil))) (dCal sp__law_draw (dCons (dV 1) (dCons (dOp fAdd (dOp fSub (dCall mLen (dCons (dV 2) (dNil))) (dCall mLen (dCons (dV 7) (dNil)))) (dC (.int 1))) (dNil))))) (dCall mLen (dCons (dV 2) (dNil)))) (dName 9)) (
  dSeq (dFor (diL (dSl (dV 2) (dPart (dCall mLen (dCons (dV 7) (dNil)))) (dPart (dV 9)))) (dName 10) (dSeq (dDrop (dBm isL fAppend (dV 7) (dCons (dOp mIx (dCal sp__law_walk (dCons (dV 4) (dCons (dV 10) (dNil)))) (dC (.int 2))) (dNil)))) (
  dIf (dNotT (dTru (dCal sp__law_same (dCons (dMet C_Watcher "watch" (sp_Watcher_watch C_State C_Watcher) (dV 6) (dCons (dCall fListOf (dCons (dV 10) (dNil))) (dNil))) (dCons (dOp mIx (dV 7) (dUn fNeg (dC (.int 1)))) (dNil)))))) (dRet (dC (.bl false))) (dNext)))) (
  dSeq (dIf (dNotT (dTru (dCal (sp__law_right C_State) (dCons (dV 5) (dCons (dV 4) (dCons (dV 2) (dNil))))))) (dRet (dC (.bl false))) (dNext)) (
  dSeq (dAsg (dCal sp__law_more (dCons (dV 1) (dCons (dOp fAdd (dC (.int 20)) (dOp fMul (dC (.int 10)) (dV 8))) (dNil)))) (dName 11)) (
  dSeq (dIf (dNotT (dTru (dCal sp__law_same (dCons (dMet C_Watcher "touched" (sp_Watcher_touched C_State C_Watcher) (dV 6) (dCons (dV 11) (dNil))) (dCons (dCal sp__law_touched (dCons (dV 2) (dCons (dCall mLen (dCons (dV 7) (dNil))) (dCons (dV 4) (dCons (dV 11) (dNil)))))) (dNil)))))) (dRet (dC (.bl false))) (dNext)) (
  dSeq (dAsg (dOp fAdd (dV 3) (dV 11)) (dName 3)) (
  dSeq (dAsg (dCal (sp__law_state C_State) (dCons (dV 3) (dNil))) (dName 12)) (
  dSeq (dAsg (dCal sp__law_cells (dCons (dV 3) (dNil))) (dName 13)) (
  dSeq (dIf (dNotT (dTru (dCal (sp__law_local C_State) (dCons (dV 5) (dCons (dV 4) (dCons (dV 12) (dCons (dV 13) (dCons (dV 2) (dNil))))))))) (dRet (dC (.bl false))) (dNext)) (
  dSeq (dIf (dOrT (dNotT (dTru (dCal sp__law_same (dCons (dMet C_Watcher "news" (sp_Watcher_news C_State C_Watcher) (dV 6) (dCons (dV 12) (dNil))) (dCons (dCal sp__law_news (dCons (dV 2) (dCons (dV 7) (dCons (dV 13) (dNil))))) (dNil)))))) (dNotT (dTru (dCal sp__law_same (dCons (dMet C_Watcher "news" (sp_Watcher_news C_State C_Watcher) (dV 6) (dCons (dV 12) (dNil))) (dCons (dLst (dNil)) (dNil))))))) (dRet (dC (.bl false))) (dNext)) (
  dSeq (dAsg (dV 12) (dName 5)) (
  dAsg (dV 13) (dName 4)))))))))))))) (
  dRet (dC (.bl true))))))))))
theorem cut_mid {α : Type} {xs : List α} {n m : Nat} (h1 : n ≤ m) (h2 : m ≤ xs.length) : cutD xs (some (n : Int)) (some (m : Int)) = (xs.drop n).take (m - n) := by
  unfold cutD
  rw [HT.sIx_nat, HT.sIx_nat, Nat.min_eq_left h2, Nat.min_eq_left (by omega)]
theorem zip_take {vs : List D} {L : List (List D)} : vs.zip (L.take vs.length) = vs.zip L := by
  induction vs generalizing L with
  | nil => simp
  | cons v vs ih =>
    cases L with
    | nil => simp
    | cons l L => simp [ih]
theorem sml_int {k : Nat} (h : k < 1000) : Sml (.int (k : Int)) := by
  refine ⟨rfl, ?_, by show (70 : Nat) ≤ 1000; decide⟩
  show decide (Int.natAbs (k : Int) < 18446744073709551616) = true
  exact decide_eq_true (by rw [Int.natAbs_natCast]; omega)
theorem hits_sml {kvs : List (D × D)} {ks : List D} {L : List (List D)} {n : Nat} (h : n ≤ 100) : (∀ x ∈ hitsN kvs ks L n, Sml x) ∧ T.deps (plTs (hitsN kvs ks L n)) ≤ 3 := by
  have : ∀ x ∈ hitsN kvs ks L n, ∃ k : Nat, k < 1000 ∧ x = .int (k : Int) := fun x m => by
    obtain ⟨k, mk, rfl⟩ := List.mem_map.mp m
    have := List.mem_range.mp (List.mem_filter.mp mk).1
    exact ⟨k, by omega, rfl⟩
  refine ⟨fun x m => ?_, deps_of fun x m => ?_⟩
  · obtain ⟨k, hk, rfl⟩ := this x m
    exact sml_int hk
  · obtain ⟨k, hk, rfl⟩ := this x m
    show (0 : Nat) ≤ 3
    decide
/-- what is kept -/
structure Kw (A : AH) (CS CW b dg pl r c s d w pp tt tl : Addr) (as bs : List Addr) (L : List (List D)) (xs vs : List D) : Prop where
  box : Box A b dg
  pls : A pl = some (.lst (as.map D.ref))
  ia : Inr A [b, w, pp, tt, tl] as L
  pth : ∀ fs ∈ L, Pth fs
  ll : L.length ≤ 9
  ch : A r = some (.lst xs)
  chm : ∀ c ∈ xs, Chm c
  ce : A c = some (.dic (cellsOf xs))
  st : St A CS s d (cellsOf xs)
  wt : Wtc A CW w s pp tt bs vs
  ib : Inr A [b, w, pp, tt, tl] bs (L.take vs.length)
  to : A tl = some (.lst vs)
  vl : vs.length ≤ L.length
  vw : ∀ v ∈ vs, v ∈ w18
  nd : (b ≠ pp ∧ b ≠ tt ∧ b ≠ tl) ∧ pp ≠ tl ∧ tt ≠ tl
  o1 : dg ≠ pp ∧ dg ≠ tt ∧ dg ≠ tl
  o2 : pl ≠ b ∧ pl ≠ pp ∧ pl ≠ tt ∧ pl ≠ tl
  o3 : r ≠ b ∧ r ≠ pp ∧ r ≠ tt ∧ r ≠ tl
section
variable {A A' : AH} {CS CW b dg pl r c s d w pp tt tl : Addr} {as bs bs' : List Addr} {L : List (List D)} {xs vs vs' : List D} {sc : D} {DD : DE} {x8 x9 x10 x11 x12 x13 : Option D} {i : Nat}
theorem Kw.cb (h : Kw A CS CW b dg pl r c s d w pp tt tl as bs L xs vs) : ∀ a xs, A a = some (.lst xs) → a ≠ w := fun a xs e z => by rw [z, h.wt.1] at e; cases e
/-- a change at b, w, pp, tt, tl -/
theorem Kw.mk' (h : Kw A CS CW b dg pl r c s d w pp tt tl as bs L xs vs) (k : Sm [b, w, pp, tt, tl] A A') (B' : Box A' b dg) (wt' : Wtc A' CW w s pp tt bs' vs') (to' : A' tl = some (.lst vs')) (ib' : Inr A' [b, w, pp, tt, tl] bs' (L.take vs'.length)) (vl' : vs'.length ≤ L.length) (vw' : ∀ v ∈ vs', v ∈ w18) : Kw A' CS CW b dg pl r c s d w pp tt tl as bs' L xs vs' := by
  obtain ⟨⟨_, ⟨_, eb, _⟩, _⟩, h2, h3, h4, h5, h6, h7, h8, ⟨h9, h9'⟩, ⟨hw, hp, ht, hn⟩, h11, h12, h13, h14, h15, h16, h17, h18⟩ := h
  have lw : ∀ a xs, A a = some (.lst xs) → a ≠ w := fun a xs e z => by rw [z, hw] at e; cases e
  have dl : ∀ a kvs, A a = some (.dic kvs) → a ∉ [b, w, pp, tt, tl] := fun a kvs e m => by
    simp only [List.mem_cons, List.not_mem_nil, or_false] at m
    rcases m with rfl | rfl | rfl | rfl | rfl
    · rw [eb] at e; cases e
    · rw [hw] at e; cases e
    · rw [hp] at e; cases e
    · rw [ht] at e; cases e
    · rw [h12] at e; cases e
  have sl : s ∉ [b, w, pp, tt, tl] := fun m => by
    simp only [List.mem_cons, List.not_mem_nil, or_false] at m
    rcases m with rfl | rfl | rfl | rfl | rfl
    · rw [eb] at h9; cases h9
    · exact absurd (hw.symm.trans h9) (by simp)
    · rw [hp] at h9; cases h9
    · rw [ht] at h9; cases h9
    · rw [h12] at h9; cases h9
  exact ⟨B', k _ _ (by simp [h17, lw _ _ h2]) h2, h3.keep fun a xs n e => k a _ n e, h4, h5, k _ _ (by simp [h18, lw _ _ h6]) h6, h7, k _ _ (dl _ _ h8) h8, ⟨k _ _ sl h9, k _ _ (dl _ _ h9') h9'⟩, wt', ib', to', vl', vw', h15, h16, h17, h18⟩
theorem Kw.sm (h : Kw A CS CW b dg pl r c s d w pp tt tl as bs L xs vs) (k : Sm [] A A') : Kw A' CS CW b dg pl r c s d w pp tt tl as bs L xs vs :=
  h.mk' k.of0 (h.box.keep k (by simp) (by simp)) ⟨k _ _ (by simp) h.wt.1, k _ _ (by simp) h.wt.2.1, k _ _ (by simp) h.wt.2.2.1, h.wt.2.2.2⟩ (k _ _ (by simp) h.to) (h.ib.keep fun a xs _ e => k _ _ (by simp) e) h.vl h.vw
theorem Kw.draw (h : Kw A CS CW b dg pl r c s d w pp tt tl as bs L xs vs) (k : Sm [b] A A') (B : Box A' b dg) : Kw A' CS CW b dg pl r c s d w pp tt tl as bs L xs vs := by
  obtain ⟨⟨n1, n2, n3⟩, n4, n5⟩ := h.nd
  obtain ⟨_, eb, _⟩ := h.box.bx
  have wb : w ≠ b := ne_oo h.wt.1 eb (by simp)
  exact h.mk' (k.weak (by simp)) B ⟨k _ _ (by simpa using wb) h.wt.1, k _ _ (by simpa using n1.symm) h.wt.2.1, k _ _ (by simpa using n2.symm) h.wt.2.2.1, h.wt.2.2.2⟩ (k _ _ (by simpa using n3.symm) h.to) (h.ib.keep fun a xs n e => k _ _ (by simp at n; simpa using n.1) e) h.vl h.vw
theorem Kw.kv (h : Kw A CS CW b dg pl r c s d w pp tt tl as bs L xs vs) : Kv (cellsOf xs) := Kv.of h.chm
/-- a fresh address is none of them -/
theorem Kw.fr {z : Addr} (h : Kw A CS CW b dg pl r c s d w pp tt tl as bs L xs vs) (hz : A z = none) : z ∉ [b, w, pp, tt, tl] := fun m => by
  simp only [List.mem_cons, List.not_mem_nil, or_false] at m
  rcases m with rfl | rfl | rfl | rfl | rfl
  · obtain ⟨_, e, _⟩ := h.box.bx; rw [hz] at e; cases e
  · have := h.wt.1; rw [hz] at this; cases this
  · have := h.wt.2.1; rw [hz] at this; cases this
  · have := h.wt.2.2.1; rw [hz] at this; cases this
  · have := h.to; rw [hz] at this; cases this
/-- a path is watched -/
theorem watch_ok {a : Addr} (h : Kw A CS CW b dg pl r c s d w pp tt tl as bs L xs vs) (ea : as[vs.length]? = some a)
    (nx : ∀ A' bs' vs', Sm [b, w, pp, tt, tl] A A' → Kw A' CS CW b dg pl r c s d w pp tt tl as bs' L xs vs' → vs'.length = vs.length + 1 → DD.nx [some sc, some (.ref b), some (.ref pl), some (.ref r), some (.ref c), some (.ref s), some (.ref w), some (.ref tl), x8, x9, some (.ref a), x11, x12, x13] A') :
    law_p11 CS CW DD [some sc, some (.ref b), some (.ref pl), some (.ref r), some (.ref c), some (.ref s), some (.ref w), some (.ref tl), x8, x9, some (.ref a), x11, x12, x13] A := by
  have hk := h.kv
  obtain ⟨na, fs, el, xa⟩ := h.ia.2 _ a ea
  have lt := (List.getElem?_eq_some_iff.mp el).1
  have hp := h.pth fs (List.mem_of_getElem? el)
  have ll := h.ll
  have bl := h.ib.1
  rw [List.length_take] at bl
  obtain ⟨⟨n1, n2, n3⟩, n4, n5⟩ := h.nd
  obtain ⟨wp, wt'⟩ := h.wt.ne
  have wl := h.cb _ _ h.to
  have vw' := vat_w hk (fs := fs) root_w
  unfold law_p11
  rw [dSeq_ap, dDrop_ap]
  dsimp only [dSeq, dIf, dAsg, dName, dRet, dRetN, dDrop, dNext, dB, dTru, dOp, dUn, dCall, dCons, dNil, dC, dV, dTup, dLst, dCal, dMet, dMak, dFld, DL.sFld, dBm, dgSub, dgTup, dgCons, dgNil, dAndT, dOrT, dNotT, dOr, dAnd, dNotE, dIsi, dSl, dNoP, dPart, dDNew, dNever, fInt, fMod, fAdd_int, fSub, fMul, fDiv, fPow, fI2, fI2C, fNeg, mLt, List.getElem?_cons_succ, List.getElem?_cons_zero, List.set_cons_zero, List.set_cons_succ, dMetX, dCalX, dRaise, dErr1, dXf, dIsE]
  refine ⟨⟨_, h.to⟩, ?_⟩
  refine ⟨c, _, a, fs, rfl, h.ce, hk, xa, hp, fun q pv pa A1 s1 q0 eq ev ek => mIx_lst eq (d := vat (cellsOf xs) root fs) rfl ?_⟩
  have h1 := h.sm s1
  have xa1 := s1 _ _ (by simp) xa
  refine fAppend_lst h1.to (by show _ < 16777216; omega) ?_
  have s2 : Sm [tl] A1 (up A1 tl (.lst (vs ++ [vat (cellsOf xs) root fs]))) := Sm.put (by simp)
  have t2 : up A1 tl (.lst (vs ++ [vat (cellsOf xs) root fs])) tl = some (.lst (vs ++ [vat (cellsOf xs) root fs])) := up_same
  generalize up A1 tl (.lst (vs ++ [vat (cellsOf xs) root fs])) = A2 at s2 t2 ⊢
  have kl : ∀ x ys, x ≠ tl → A1 x = some (.lst ys) → A2 x = some (.lst ys) := fun x ys n e => s2 x _ (by simpa using n) e
  have w2 : Wtc A2 CW w s pp tt bs vs := ⟨s2 _ _ (by simpa using wl.symm) h1.wt.1, kl _ _ n4 h1.wt.2.1, kl _ _ n5 h1.wt.2.2.1, h1.wt.2.2.2⟩
  have st2 : St A2 CS s d (cellsOf xs) := h1.st.keep s2 (by simpa using ne_oo h1.st.1 h1.to (by simp)) (by simpa using ne_oo h1.st.2 h1.to (by simp))
  have xa2 := kl a _ (by simp at na; exact na.2.2.2.2) xa1
  have B2 : Box A2 b dg := h1.box.keep s2 (by simpa using n3) (by simpa using h.o1.2.2)
  have ib2 : Inr A2 [b, w, pp, tt, tl] bs (L.take vs.length) := h1.ib.keep fun x ys n e => kl x ys (by simp at n; exact n.2.2.2.2) e
  refine met_of w2.1 rfl (listOf_lst xa2 fun z hz => ?_)
  have w3 : Wtc (up A2 z (.lst fs)) CW w s pp tt bs vs := ⟨up_at w2.1 hz, up_at w2.2.1 hz, up_at w2.2.2.1 hz, w2.2.2.2⟩
  have zp : z ≠ pp := (ne_nn w2.2.1 hz).symm
  refine ⟨w, s, d, cellsOf xs, pp, tt, bs, vs, z, fs, rfl, w3, st2.keep (Sm.new (W := []) hz) (by simp) (by simp), hk, up_same, hp, by omega, by omega, zp, fun z2 A4 s4 z20 ez w4 => ?_⟩
  have s24 : Sm [pp, tt] A2 A4 := (Sm.new hz).trans s4
  have t4 := s24 tl _ (by simp [n4.symm, n5.symm]) t2
  refine mIx_lst t4 (d := vat (cellsOf xs) root fs) atI_last ?_
  refine ⟨_, _, plT (vat (cellsOf xs) root fs), plT (vat (cellsOf xs) root fs), rfl, snap_pl _ (w18_pl vw'), snap_pl _ (w18_pl vw'), one_ok vw', one_ok vw', ?_⟩
  rw [decide_eq_true rfl]
  refine ifF ?_
  have z2A2 : A2 z2 = none := (Sm.new (W := []) (o := .lst fs) hz).none0 z20
  have z2A1 : A1 z2 = none := s2.noneW (fun c m => by rw [List.mem_singleton.mp m]; exact ⟨_, t2⟩) z2A2
  have z2P := h1.fr z2A1
  have tk : L.take (vs ++ [vat (cellsOf xs) root fs]).length = L.take vs.length ++ [fs] := by rw [List.length_append, List.length_singleton, List.take_add_one, el]; rfl
  have s14 : Sm [b, w, pp, tt, tl] A1 A4 := (s2.weak (by simp)).trans (s24.weak (by simp))
  refine nx A4 _ _ (s1.of0.trans s14) (h1.mk' s14 (B2.keep s24 (by simp [n1, n2]) (by simp [h.o1.1, h.o1.2.1])) w4 t4 ?_ (by rw [List.length_append, List.length_singleton]; omega) fun v m => ?_) (by rw [List.length_append, List.length_singleton])
  · rw [tk]
    exact (ib2.keep fun x ys n e => s24 x _ (by simp at n; simp [n]) e).app z2P ez
  · rcases List.mem_append.mp m with m | m
    · exact h.vw v m
    · rw [List.mem_singleton.mp m]; exact vw'
theorem newV_zip {kvs : List (D × D)} : ∀ {us : List D} {L : List (List D)}, us.length ≤ L.length → newV kvs (us.zip L) = (L.take us.length).map (vat kvs root)
  | [], L, _ => by simp [newV]
  | u :: us, [], h => by simp at h
  | u :: us, l :: L, h => by
    have ih := newV_zip (kvs := kvs) (us := us) (L := L) (by simpa using h)
    show vat kvs root l :: newV kvs (us.zip L) = vat kvs root l :: (L.take us.length).map (vat kvs root)
    rw [ih]
/-- what tells the news behind a step -/
theorem p12_ok (h : Kw A CS CW b dg pl r c s d w pp tt tl as bs L xs vs) (hl : xs.length ≤ 60) (hi : i ≤ 10)
    (nx : ∀ A' r' c' s' d' xs' vs' x9 x10 x11 x12 x13, Kw A' CS CW b dg pl r' c' s' d' w pp tt tl as bs L xs' vs' → xs'.length ≤ xs.length + 5 → vs'.length = vs.length → DD.nx [some sc, some (.ref b), some (.ref pl), some (.ref r'), some (.ref c'), some (.ref s'), some (.ref w), some (.ref tl), some (.int (i : Int)), x9, x10, x11, x12, x13] A') :
    law_p12 CS CW DD [some sc, some (.ref b), some (.ref pl), some (.ref r), some (.ref c), some (.ref s), some (.ref w), some (.ref tl), some (.int (i : Int)), x9, x10, x11, x12, x13] A := by
  have hk := h.kv
  have ll := h.ll
  have vl := h.vl
  have n9 : vs.length ≤ 9 := by omega
  have tl9 : (L.take vs.length).length = vs.length := by rw [List.length_take]; omega
  have ptk : ∀ fs ∈ L.take vs.length, Pth fs := fun fs m => h.pth fs (List.mem_of_mem_take m)
  unfold law_p12
  rw [dSeq_ap, dIf_ap]
  dsimp only [dSeq, dIf, dAsg, dName, dRet, dRetN, dDrop, dNext, dB, dTru, dOp, dUn, dCall, dCons, dNil, dC, dV, dTup, dLst, dCal, dMet, dMak, dFld, DL.sFld, dBm, dgSub, dgTup, dgCons, dgNil, dAndT, dOrT, dNotT, dOr, dAnd, dNotE, dIsi, dSl, dNoP, dPart, dDNew, dNever, fInt, fMod, fAdd_int, fSub, fMul, fDiv, fPow, fI2, fI2C, fNeg, mLt, List.getElem?_cons_succ, List.getElem?_cons_zero, List.set_cons_zero, List.set_cons_succ, dMetX, dCalX, dRaise, dErr1, dXf, dIsE]
  refine ⟨s, d, c, pl, _, as, L, rfl, h.st, h.ce, hk, h.pls, h.ia.sub (by simp), h.pth, fun A1 s1 => ?_⟩
  refine ifF ?_
  have h1 := h.sm s1
  try dsimp only [dNext, dName, List.set_cons_zero, List.set_cons_succ]
  unfold law_p13
  rw [dSeq_ap, dAsg_ap]
  dsimp only [dSeq, dIf, dAsg, dName, dRet, dRetN, dDrop, dNext, dB, dTru, dOp, dUn, dCall, dCons, dNil, dC, dV, dTup, dLst, dCal, dMet, dMak, dFld, DL.sFld, dBm, dgSub, dgTup, dgCons, dgNil, dAndT, dOrT, dNotT, dOr, dAnd, dNotE, dIsi, dSl, dNoP, dPart, dDNew, dNever, fInt, fMod, fAdd_int, fSub, fMul, fDiv, fPow, fI2, fI2C, fNeg, mLt, List.getElem?_cons_succ, List.getElem?_cons_zero, List.set_cons_zero, List.set_cons_succ, dMetX, dCalX, dRaise, dErr1, dXf, dIsE]
  refine ⟨.inl (by unfold smallI; omega), ?_⟩
  refine ⟨b, dg, _, rfl, h1.box, fun q ys A2 s2 B2 q0 eq hc yl => ?_⟩
  have h2 := h1.draw s2 B2
  try dsimp only [dNext, dName, List.set_cons_zero, List.set_cons_succ]
  unfold law_p14
  rw [dSeq_ap, dIf_ap]
  dsimp only [dSeq, dIf, dAsg, dName, dRet, dRetN, dDrop, dNext, dB, dTru, dOp, dUn, dCall, dCons, dNil, dC, dV, dTup, dLst, dCal, dMet, dMak, dFld, DL.sFld, dBm, dgSub, dgTup, dgCons, dgNil, dAndT, dOrT, dNotT, dOr, dAnd, dNotE, dIsi, dSl, dNoP, dPart, dDNew, dNever, fInt, fMod, fAdd_int, fSub, fMul, fDiv, fPow, fI2, fI2C, fNeg, mLt, List.getElem?_cons_succ, List.getElem?_cons_zero, List.set_cons_zero, List.set_cons_succ, dMetX, dCalX, dRaise, dErr1, dXf, dIsE]
  refine met_of h2.wt.1 rfl ⟨w, q, s, d, _, pp, tt, bs, vs, L.take vs.length, ys, rfl, h2.wt, h2.st, hk, h2.ib.sub (by simp), ptk, by omega, eq, hc, by omega, fun p A3 s3 p0 ep => ?_⟩
  have h3 := h2.sm s3
  refine len_lst h3.to ?_
  refine ⟨pl, vs.length, c, q, _, as, L, ys, rfl, h3.pls, h3.ia.sub (by simp), h3.pth, vl, by omega, h3.ce, hk, s3 _ _ (by simp) eq, hc, by omega, fun p' A4 s4 p0' ep' => ?_⟩
  have h4 := h3.sm s4
  rw [tl9, hits_take] at ep
  obtain ⟨m1, m2⟩ := hits_sml (kvs := cellsOf xs) (ks := ys.map ckey) (L := L) (n := vs.length) (by omega)
  have hln := hits_len (kvs := cellsOf xs) (ks := ys.map ckey) (L := L) (n := vs.length)
  refine ⟨.ref p, .ref p', .lst (plTs (hitsN (cellsOf xs) (ys.map ckey) L vs.length)), .lst (plTs (hitsN (cellsOf xs) (ys.map ckey) L vs.length)), rfl, .inl ⟨p, _, rfl, s4 _ _ (by simp) ep, snaps_pl _ (w18_pls m1)⟩, .inl ⟨p', _, rfl, ep', snaps_pl _ (w18_pls m1)⟩, lst_ok m1 (by omega) (by omega), lst_ok m1 (by omega) (by omega), ?_⟩
  rw [decide_eq_true rfl]
  refine ifF ?_
  have eq4 := (s3.trans s4) _ _ (by simp) eq
  clear ep ep' m1 m2 hln
  try dsimp only [dNext, dName, List.set_cons_zero, List.set_cons_succ]
  unfold law_p15
  rw [dSeq_ap, dAsg_ap]
  dsimp only [dSeq, dIf, dAsg, dName, dRet, dRetN, dDrop, dNext, dB, dTru, dOp, dUn, dCall, dCons, dNil, dC, dV, dTup, dLst, dCal, dMet, dMak, dFld, DL.sFld, dBm, dgSub, dgTup, dgCons, dgNil, dAndT, dOrT, dNotT, dOr, dAnd, dNotE, dIsi, dSl, dNoP, dPart, dDNew, dNever, fInt, fMod, fAdd_int, fSub, fMul, fDiv, fPow, fI2, fI2C, fNeg, mLt, List.getElem?_cons_succ, List.getElem?_cons_zero, List.set_cons_zero, List.set_cons_succ, dMetX, dCalX, dRaise, dErr1, dXf, dIsE]
  refine fAdd_lst h4.ch eq4 (by show _ ≤ 16777216; omega) fun r' hr' => ?_
  have fr' := h4.fr hr'
  have h5 := h4.sm (Sm.new (W := []) (o := .lst (xs ++ ys)) hr')
  have er5 : up A4 r' (.lst (xs ++ ys)) r' = some (.lst (xs ++ ys)) := up_same
  generalize up A4 r' (.lst (xs ++ ys)) = A5 at h5 er5 ⊢
  have chm' : ∀ c ∈ xs ++ ys, Chm c := fun c m => (List.mem_append.mp m).elim (h.chm c) (hc c)
  have len' : (xs ++ ys).length ≤ xs.length + 5 := by rw [List.length_append]; omega
  generalize xs ++ ys = xs' at er5 chm' len' ⊢
  have hk' : Kv (cellsOf xs') := Kv.of chm'
  try dsimp only [dNext, dName, List.set_cons_zero, List.set_cons_succ]
  unfold law_p16
  rw [dSeq_ap, dAsg_ap]
  dsimp only [dSeq, dIf, dAsg, dName, dRet, dRetN, dDrop, dNext, dB, dTru, dOp, dUn, dCall, dCons, dNil, dC, dV, dTup, dLst, dCal, dMet, dMak, dFld, DL.sFld, dBm, dgSub, dgTup, dgCons, dgNil, dAndT, dOrT, dNotT, dOr, dAnd, dNotE, dIsi, dSl, dNoP, dPart, dDNew, dNever, fInt, fMod, fAdd_int, fSub, fMul, fDiv, fPow, fI2, fI2C, fNeg, mLt, List.getElem?_cons_succ, List.getElem?_cons_zero, List.set_cons_zero, List.set_cons_succ, dMetX, dCalX, dRaise, dErr1, dXf, dIsE]
  refine ⟨r', xs', rfl, er5, chm', by omega, fun s' d' A6 s6 s0' d0' st6 => ?_⟩
  have h6 := h5.sm s6
  try dsimp only [dNext, dName, List.set_cons_zero, List.set_cons_succ]
  unfold law_p17
  rw [dSeq_ap, dAsg_ap]
  dsimp only [dSeq, dIf, dAsg, dName, dRet, dRetN, dDrop, dNext, dB, dTru, dOp, dUn, dCall, dCons, dNil, dC, dV, dTup, dLst, dCal, dMet, dMak, dFld, DL.sFld, dBm, dgSub, dgTup, dgCons, dgNil, dAndT, dOrT, dNotT, dOr, dAnd, dNotE, dIsi, dSl, dNoP, dPart, dDNew, dNever, fInt, fMod, fAdd_int, fSub, fMul, fDiv, fPow, fI2, fI2C, fNeg, mLt, List.getElem?_cons_succ, List.getElem?_cons_zero, List.set_cons_zero, List.set_cons_succ, dMetX, dCalX, dRaise, dErr1, dXf, dIsE]
  refine ⟨r', xs', rfl, s6 _ _ (by simp) er5, fun c m => (chm' c m).1, by omega, fun c' A7 s7 c0' ec7 => ?_⟩
  have h7 := h6.sm s7
  have st7 := st6.keep s7 (by simp) (by simp)
  have er7 := (s6.trans s7) _ _ (by simp) er5
  try dsimp only [dNext, dName, List.set_cons_zero, List.set_cons_succ]
  unfold law_p18
  rw [dSeq_ap, dIf_ap]
  dsimp only [dSeq, dIf, dAsg, dName, dRet, dRetN, dDrop, dNext, dB, dTru, dOp, dUn, dCall, dCons, dNil, dC, dV, dTup, dLst, dCal, dMet, dMak, dFld, DL.sFld, dBm, dgSub, dgTup, dgCons, dgNil, dAndT, dOrT, dNotT, dOr, dAnd, dNotE, dIsi, dSl, dNoP, dPart, dDNew, dNever, fInt, fMod, fAdd_int, fSub, fMul, fDiv, fPow, fI2, fI2C, fNeg, mLt, List.getElem?_cons_succ, List.getElem?_cons_zero, List.set_cons_zero, List.set_cons_succ, dMetX, dCalX, dRaise, dErr1, dXf, dIsE]
  refine ⟨s, d, c, s', d', c', pl, _, _, as, L, rfl, h7.st, h7.ce, hk, st7, hk', h7.pls, h7.ia.sub (by simp), h7.pth, fun A8 s8 => ?_⟩
  refine ifF ?_
  have h8 := h7.sm s8
  have st8 := st7.keep s8 (by simp) (by simp)
  have er8 := s8 _ _ (by simp) er7
  have ec8 := s8 _ _ (by simp) ec7
  clear st7 er7 ec7 st6
  have r8 := fr'
  have s8P : s' ∉ [b, w, pp, tt, tl] := h5.fr s0'
  have d8P : d' ∉ [b, w, pp, tt, tl] := h5.fr d0'
  have c8P : c' ∉ [b, w, pp, tt, tl] := h6.fr c0'
  obtain ⟨⟨n1, n2, n3⟩, n4, n5⟩ := h8.nd
  obtain ⟨wp, wt'⟩ := h8.wt.ne
  have wl := h8.cb _ _ h8.to
  have vz : ∀ z ∈ vs.zip L, z.1 ∈ w18 ∧ Pth z.2 := fun z m => ⟨h.vw _ (List.of_mem_zip m).1, h.pth _ (List.of_mem_zip m).2⟩
  obtain ⟨k1, k2, k3⟩ := newsT_small hk' vz
  have zl : (vs.zip L).length = vs.length := by rw [List.length_zip]; omega
  have nvl : (newV (cellsOf xs') (vs.zip L)).length = vs.length := by rw [newV_len, zl]
  have nvw : ∀ v ∈ newV (cellsOf xs') (vs.zip L), v ∈ w18 := fun v m => by
    obtain ⟨z, _, rfl⟩ := List.mem_map.mp m
    exact vat_w hk' root_w
  try dsimp only [dNext, dName, List.set_cons_zero, List.set_cons_succ]
  unfold law_p19
  rw [dSeq_ap, dIf_ap]
  dsimp only [dOrT, dSeq, dIf, dAsg, dName, dRet, dRetN, dDrop, dNext, dB, dTru, dOp, dUn, dCall, dCons, dNil, dC, dV, dTup, dLst, dCal, dMet, dMak, dFld, DL.sFld, dBm, dgSub, dgTup, dgCons, dgNil, dAndT, dOrT, dNotT, dOr, dAnd, dNotE, dIsi, dSl, dNoP, dPart, dDNew, dNever, fInt, fMod, fAdd_int, fSub, fMul, fDiv, fPow, fI2, fI2C, fNeg, mLt, List.getElem?_cons_succ, List.getElem?_cons_zero, List.set_cons_zero, List.set_cons_succ, dMetX, dCalX, dRaise, dErr1, dXf, dIsE]
  refine met_of h8.wt.1 rfl ⟨w, s, s', d', _, pp, tt, bs, L.take vs.length, vs, rfl, h8.wt, st8, hk', h8.ib.sub (by simp), ptk, by omega, tl9.symm, h8.vw, fun p zs A9 s9 p0 ep rc w9 => ?_⟩
  rw [zip_take] at rc w9
  have kl9 : ∀ a ys, a ≠ tt → A8 a = some (.lst ys) → A9 a = some (.lst ys) := fun a ys n e => s9 a _ (by simp [n, h8.cb _ _ e]) e
  refine ⟨pl, tl, c', _, as, L, vs, rfl, kl9 _ _ h8.o2.2.2.1 h8.pls, h8.o2.2.2.2.symm, (h8.ia.keep fun a ys n e => kl9 a ys (by simp at n; exact n.2.2.2.1) e).sub (by simp), h8.pth, by omega, kl9 _ _ n5.symm h8.to, vl, h8.vw, s9 _ _ (by simp at c8P; simp [c8P]) ec8, hk', fun p' zs' A10 s10 p0' ep' sn' t10 => ?_⟩
  have pne : p ≠ tl := (ne_nn h8.to p0).symm
  have s8A : Sm [b, w, pp, tt, tl] A8 A10 := (s9.weak (by simp)).trans (s10.weak (by simp))
  refine ⟨.ref p, .ref p', .lst (newsT (cellsOf xs') (vs.zip L)), .lst (newsT (cellsOf xs') (vs.zip L)), rfl, .inl ⟨p, zs, rfl, s10 _ _ (by simpa using pne) ep, (rc.keep fun a l a0 e => s10 a _ (by simpa using (ne_nn h8.to a0).symm) e).snap⟩, .inl ⟨p', zs', rfl, ep', sn'⟩, ⟨by show T.deps _ + 1 ≤ 60; omega, k2, by show T.szs _ + 4 ≤ 16777216; omega⟩, ⟨by show T.deps _ + 1 ≤ 60; omega, k2, by show T.szs _ + 4 ≤ 16777216; omega⟩, ?_⟩
  rw [decide_eq_true rfl]
  refine ifF ?_
  have w10 : Wtc A10 CW w s' pp tt bs (newV (cellsOf xs') (vs.zip L)) := ⟨s10 _ _ (by simpa using wl.symm) w9.1, s10 _ _ (by simpa using n4) w9.2.1, s10 _ _ (by simpa using n5) w9.2.2.1, w9.2.2.2⟩
  have st10 : St A10 CS s' d' (cellsOf xs') := st8.keep s8A s8P d8P
  have ib10 : Inr A10 [b, w, pp, tt, tl] bs (L.take vs.length) := h8.ib.keep fun a ys n e => s8A a _ n e
  refine met_of w10.1 rfl ⟨w, s', s', d', _, pp, tt, bs, L.take vs.length, _, rfl, w10, st10, hk', ib10.sub (by simp), ptk, by omega, by rw [nvl, tl9], nvw, fun p2 zs2 A11 s11 p20 ep2 rc2 w11 => ?_⟩
  intro e he
  have rz : newsT (cellsOf xs') ((newV (cellsOf xs') (vs.zip L)).zip (L.take vs.length)) = [] := by
    rw [← zip_take (vs := vs) (L := L)]
    exact news_none
  rw [rz] at rc2
  have zs0 : zs2 = [] := List.eq_nil_of_length_eq_zero rc2.1
  subst zs0
  refine ⟨.ref p2, .ref e, .lst [], .lst [], rfl, .inl ⟨p2, [], rfl, up_at ep2 he, rfl⟩, .inl ⟨e, [], rfl, up_same, rfl⟩, ⟨by decide, rfl, by decide⟩, ⟨by decide, rfl, by decide⟩, ?_⟩
  rw [decide_eq_true rfl]
  refine ifF ?_
  have nve : newV (cellsOf xs') ((newV (cellsOf xs') (vs.zip L)).zip (L.take vs.length)) = newV (cellsOf xs') (vs.zip L) := by
    rw [newV_zip (by rw [nvl, tl9]; exact Nat.le_refl _), newV_zip vl, List.length_map, tl9, List.take_take, Nat.min_self]
  rw [nve] at w11
  have s812 : Sm [b, w, pp, tt, tl] A8 (up A11 e (.lst [])) := (s8A.trans (s11.weak (by simp))).trans (Sm.new he)
  have se : Sm [] A11 (up A11 e (.lst [])) := Sm.new he
  have w12 : Wtc (up A11 e (.lst [])) CW w s' pp tt bs (newV (cellsOf xs') (vs.zip L)) := ⟨se _ _ (by simp) w11.1, se _ _ (by simp) w11.2.1, se _ _ (by simp) w11.2.2.1, w11.2.2.2⟩
  have t12 := se _ _ (by simp) (s11 tl _ (by simp [wl, n5.symm]) t10)
  have B12 : Box (up A11 e (.lst [])) b dg := by
    have bw : b ≠ w := by obtain ⟨_, eb, _⟩ := h8.box.bx; exact h8.cb _ _ eb
    have dw : dg ≠ w := by obtain ⟨_, eb⟩ := h8.box.dg; exact h8.cb _ _ eb
    refine h8.box.keep (W := [w, pp, tt, tl]) (((s9.weak (by simp)).trans (s10.weak (by simp))).trans ((s11.weak (by simp)).trans se.of0)) (by simp [bw, n1, n2, n3]) (by simp [dw, h8.o1])
  have hk12 := h8.mk' (vs' := newV (cellsOf xs') (vs.zip L)) (bs' := bs) s812 B12
  generalize up A11 e (.lst []) = A12 at s812 w12 t12 B12 ⊢
  have fin : Kw A12 CS CW b dg pl r' c' s' d' w pp tt tl as bs L xs' (newV (cellsOf xs') (vs.zip L)) := by
    refine ⟨B12, s812 _ _ (by simp [h8.o2, h8.cb _ _ h8.pls]) h8.pls, h8.ia.keep fun a ys n e => s812 a _ n e, h8.pth, h8.ll, s812 _ _ r8 er8, chm', s812 _ _ c8P ec8, st8.keep s812 s8P d8P, w12, ?_, t12, by omega, nvw, h8.nd, h8.o1, h8.o2, ?_⟩
    · rw [nvl]
      exact h8.ib.keep fun a ys n e => s812 a _ n e
    · simp at r8
      exact ⟨r8.1, r8.2.2.1, r8.2.2.2.1, r8.2.2.2.2⟩
  try dsimp only [dNext, dName, List.set_cons_zero, List.set_cons_succ]
  unfold law_p20
  rw [dSeq_ap, dAsg_ap]
  dsimp only [dSeq, dIf, dAsg, dName, dRet, dRetN, dDrop, dNext, dB, dTru, dOp, dUn, dCall, dCons, dNil, dC, dV, dTup, dLst, dCal, dMet, dMak, dFld, DL.sFld, dBm, dgSub, dgTup, dgCons, dgNil, dAndT, dOrT, dNotT, dOr, dAnd, dNotE, dIsi, dSl, dNoP, dPart, dDNew, dNever, fInt, fMod, fAdd_int, fSub, fMul, fDiv, fPow, fI2, fI2C, fNeg, mLt, List.getElem?_cons_succ, List.getElem?_cons_zero, List.set_cons_zero, List.set_cons_succ, dMetX, dCalX, dRaise, dErr1, dXf, dIsE]
  try rw [dAsg_ap]
  try dsimp only [dSeq, dIf, dAsg, dName, dRet, dRetN, dDrop, dNext, dB, dTru, dOp, dUn, dCall, dCons, dNil, dC, dV, dTup, dLst, dCal, dMet, dMak, dFld, DL.sFld, dBm, dgSub, dgTup, dgCons, dgNil, dAndT, dOrT, dNotT, dOr, dAnd, dNotE, dIsi, dSl, dNoP, dPart, dDNew, dNever, fInt, fMod, fAdd_int, fSub, fMul, fDiv, fPow, fI2, fI2C, fNeg, mLt, List.getElem?_cons_succ, List.getElem?_cons_zero, List.set_cons_zero, List.set_cons_succ, dMetX, dCalX, dRaise, dErr1, dXf, dIsE]
  exact nx A12 r' c' s' d' xs' _ _ _ _ _ _ fin len' nvl
theorem p9_ok (h : Kw A CS CW b dg pl r c s d w pp tt tl as bs L xs vs) (hl : xs.length ≤ 60) (hi : i ≤ 10)
    (nx : ∀ A' r' c' s' d' bs' xs' vs' x9 x10 x11 x12 x13, Kw A' CS CW b dg pl r' c' s' d' w pp tt tl as bs' L xs' vs' → xs'.length ≤ xs.length + 5 → DD.nx [some sc, some (.ref b), some (.ref pl), some (.ref r'), some (.ref c'), some (.ref s'), some (.ref w), some (.ref tl), some (.int (i : Int)), x9, x10, x11, x12, x13] A') :
    law_p9 CS CW DD [some sc, some (.ref b), some (.ref pl), some (.ref r), some (.ref c), some (.ref s), some (.ref w), some (.ref tl), some (.int (i : Int)), x9, x10, x11, x12, x13] A := by
  have vl := h.vl
  have ll := h.ll
  have al := h.ia.1
  have go : ∀ A1 (m : Nat), Kw A1 CS CW b dg pl r c s d w pp tt tl as bs L xs vs → vs.length ≤ m → m ≤ L.length → law_p10 CS CW DD [some sc, some (.ref b), some (.ref pl), some (.ref r), some (.ref c), some (.ref s), some (.ref w), some (.ref tl), some (.int (i : Int)), some (.int (m : Int)), x10, x11, x12, x13] A1 := by
    intro A1 m h1 m1 m2
    unfold law_p10
    rw [dSeq_ap, dFor_call]
    dsimp only [dSl, dPart, dSeq, dIf, dAsg, dName, dRet, dRetN, dDrop, dNext, dB, dTru, dOp, dUn, dCall, dCons, dNil, dC, dV, dTup, dLst, dCal, dMet, dMak, dFld, DL.sFld, dBm, dgSub, dgTup, dgCons, dgNil, dAndT, dOrT, dNotT, dOr, dAnd, dNotE, dIsi, dSl, dNoP, dPart, dDNew, dNever, fInt, fMod, fAdd_int, fSub, fMul, fDiv, fPow, fI2, fI2C, fNeg, mLt, List.getElem?_cons_succ, List.getElem?_cons_zero, List.set_cons_zero, List.set_cons_succ, dMetX, dCalX, dRaise, dErr1, dXf, dIsE]
    refine len_lst h1.to (fSl_lst h1.pls fun q hq => ?_)
    rw [cut_mid m1 (by rw [List.length_map]; omega)]
    have fr := h1.fr hq
    have h2 := h1.sm (Sm.new (W := []) (o := .lst (((as.map D.ref).drop vs.length).take (m - vs.length))) hq)
    have eq2 : up A1 q (.lst (((as.map D.ref).drop vs.length).take (m - vs.length))) q = some (.lst (((as.map D.ref).drop vs.length).take (m - vs.length))) := up_same
    generalize up A1 q (.lst (((as.map D.ref).drop vs.length).take (m - vs.length))) = A2 at h2 eq2 ⊢
    refine for_l (tb := law_p11 CS CW) eq2 (fun j σ A' => ∃ x10 bs' vs', σ = [some sc, some (.ref b), some (.ref pl), some (.ref r), some (.ref c), some (.ref s), some (.ref w), some (.ref tl), some (.int (i : Int)), some (.int (m : Int)), x10, x11, x12, x13] ∧ Kw A' CS CW b dg pl r c s d w pp tt tl as bs' L xs vs' ∧ vs'.length = vs.length + j ∧ A' q = some (.lst (((as.map D.ref).drop vs.length).take (m - vs.length)))) ⟨_, bs, vs, rfl, h2, rfl, eq2⟩ (fun j σ A' _ ⟨_, _, _, _, _, _, e⟩ => e) ?_ ?_ (fun Q q => q)
    · rintro j x σ A3 hx ⟨x10, bs', vs', rfl, h3, l3, e3⟩
      rw [List.getElem?_take] at hx
      split at hx
      · rw [List.getElem?_drop, List.getElem?_map] at hx
        obtain ⟨a, ha, rfl⟩ := Option.map_eq_some_iff.mp hx
        try dsimp only [dNext, dName, List.set_cons_zero, List.set_cons_succ]
        exact watch_ok h3 (by rw [l3]; exact ha) fun A' bs2 vs2 s' h' l' => ⟨_, bs2, vs2, rfl, h', by omega, s' _ _ fr e3⟩
      · cases hx
    · rintro σ A3 ⟨x10, bs', vs', rfl, h3, l3, e3⟩
      try dsimp only [dNext, dName, List.set_cons_zero, List.set_cons_succ]
      exact p12_ok h3 hl hi fun A' r' c' s' d' xs' vs2 x9 x10 x11 x12 x13 h' l' _ => nx A' r' c' s' d' bs' xs' vs2 x9 x10 x11 x12 x13 h' l'
  unfold law_p9
  rw [dSeq_ap, dAsg_ap]
  dsimp only [dIfE, dSeq, dIf, dAsg, dName, dRet, dRetN, dDrop, dNext, dB, dTru, dOp, dUn, dCall, dCons, dNil, dC, dV, dTup, dLst, dCal, dMet, dMak, dFld, DL.sFld, dBm, dgSub, dgTup, dgCons, dgNil, dAndT, dOrT, dNotT, dOr, dAnd, dNotE, dIsi, dSl, dNoP, dPart, dDNew, dNever, fInt, fMod, fAdd_int, fSub, fMul, fDiv, fPow, fI2, fI2C, fNeg, mLt, List.getElem?_cons_succ, List.getElem?_cons_zero, List.set_cons_zero, List.set_cons_succ, dMetX, dCalX, dRaise, dErr1, dXf, dIsE]
  refine ifB (fun _ => ?_) (fun _ => ?_)
  · refine len_lst h.to (len_lst h.pls (len_lst h.to ?_))
    rw [List.length_map, al]
    refine ⟨b, dg, _, rfl, by omega, h.box, fun v A1 v0 v1 s1 B1 => ?_⟩
    obtain ⟨m, hm⟩ : ∃ m : Nat, (vs.length : Int) + v = (m : Int) := ⟨((vs.length : Int) + v).toNat, by omega⟩
    show law_p10 CS CW DD [some sc, some (.ref b), some (.ref pl), some (.ref r), some (.ref c), some (.ref s), some (.ref w), some (.ref tl), some (.int (i : Int)), some (.int ((vs.length : Int) + v)), x10, x11, x12, x13] A1
    rw [hm]
    exact go A1 m (h.draw s1 B1) (by omega) (by omega)
  · refine len_lst h.pls ?_
    rw [List.length_map, al]
    exact go A L.length h vl (Nat.le_refl _)
end
theorem q_law {CS CW : Addr} : ∀ ds A R E, ds.length = 1 → sp_law ds A R E → t_law CS CW { nx := fun _ A' => R .non A', rt := R } (ds.map some ++ List.replicate (14 - ds.length) none) A := by
  rintro ds A R E - ⟨ns, rfl, -, hR⟩
  show law_p1 CS CW _ [some (.cl (ns.map .int)), none, none, none, none, none, none, none, none, none, none, none, none, none] A
  generalize hDD : ({ nx := fun _ A' => R .non A', rt := R } : DE) = DD
  have hrt : DD.rt = R := by rw [← hDD]
  unfold law_p1
  rw [dSeq_ap, dAsg_ap]
  dsimp only [dSeq, dIf, dAsg, dName, dRet, dRetN, dDrop, dNext, dB, dTru, dOp, dUn, dCall, dCons, dNil, dC, dV, dTup, dLst, dCal, dMet, dMak, dFld, DL.sFld, dBm, dgSub, dgTup, dgCons, dgNil, dAndT, dOrT, dNotT, dOr, dAnd, dNotE, dIsi, dSl, dNoP, dPart, dDNew, dNever, fInt, fMod, fAdd_int, fSub, fMul, fDiv, fPow, fI2, fI2C, fNeg, mLt, List.getElem?_cons_succ, List.getElem?_cons_zero, List.set_cons_zero, List.set_cons_succ, dMetX, dCalX, dRaise, dErr1, dXf, dIsE]
  refine ⟨ns, 0, 40, rfl, by decide, by decide, by decide, fun b dg A1 s1 b0 d0 B1 => ?_⟩
  try dsimp only [dNext, dName, List.set_cons_zero, List.set_cons_succ]
  unfold law_p2
  rw [dSeq_ap, dAsg_ap]
  dsimp only [dSeq, dIf, dAsg, dName, dRet, dRetN, dDrop, dNext, dB, dTru, dOp, dUn, dCall, dCons, dNil, dC, dV, dTup, dLst, dCal, dMet, dMak, dFld, DL.sFld, dBm, dgSub, dgTup, dgCons, dgNil, dAndT, dOrT, dNotT, dOr, dAnd, dNotE, dIsi, dSl, dNoP, dPart, dDNew, dNever, fInt, fMod, fAdd_int, fSub, fMul, fDiv, fPow, fI2, fI2C, fNeg, mLt, List.getElem?_cons_succ, List.getElem?_cons_zero, List.set_cons_zero, List.set_cons_succ, dMetX, dCalX, dRaise, dErr1, dXf, dIsE]
  refine ⟨b, dg, rfl, B1, fun pl as L A2 s2 B2 pl0 epl fr hI hP ll => ?_⟩
  have pb : pl ≠ b := (B1.b_ne pl0).symm
  have hI2 : Inr A2 [b] as L := ⟨hI.1, fun i a ea => by
    obtain ⟨_, l, el, xa⟩ := hI.2 i a ea
    refine ⟨fun m => ?_, l, el, xa⟩
    have := fr a (List.mem_of_getElem? ea)
    rw [List.mem_singleton.mp m] at this
    obtain ⟨_, e, _⟩ := B1.bx
    rw [this] at e; cases e⟩
  clear hI fr s1 s2 B1
  try dsimp only [dNext, dName, List.set_cons_zero, List.set_cons_succ]
  unfold law_p3
  rw [dSeq_ap, dAsg_ap]
  dsimp only [dSeq, dIf, dAsg, dName, dRet, dRetN, dDrop, dNext, dB, dTru, dOp, dUn, dCall, dCons, dNil, dC, dV, dTup, dLst, dCal, dMet, dMak, dFld, DL.sFld, dBm, dgSub, dgTup, dgCons, dgNil, dAndT, dOrT, dNotT, dOr, dAnd, dNotE, dIsi, dSl, dNoP, dPart, dDNew, dNever, fInt, fMod, fAdd_int, fSub, fMul, fDiv, fPow, fI2, fI2C, fNeg, mLt, List.getElem?_cons_succ, List.getElem?_cons_zero, List.set_cons_zero, List.set_cons_succ, dMetX, dCalX, dRaise, dErr1, dXf, dIsE]
  refine ⟨b, dg, 0, rfl, B2, fun q1 ys1 A3 s3 B3 q10 eq1 hc1 l1 => ?_⟩
  refine ⟨b, dg, 10, rfl, B3, fun q2 ys2 A4 s4 B4 q20 eq2 hc2 l2 => ?_⟩
  have q1b : q1 ≠ b := (B2.b_ne q10).symm
  refine fAdd_lst (s4 _ _ (by simpa using q1b) eq1) eq2 (by show _ ≤ 16777216; omega) fun r hr => ?_
  have s24 := s3.trans s4
  have sr : Sm [] A4 (up A4 r (.lst (ys1 ++ ys2))) := Sm.new hr
  have rb : r ≠ b := (B4.b_ne hr).symm
  have er : up A4 r (.lst (ys1 ++ ys2)) r = some (.lst (ys1 ++ ys2)) := up_same
  have B5 := B4.new (o := .lst (ys1 ++ ys2)) hr
  have epl5 := sr _ _ (by simp) (s24 _ _ (by simpa using pb) epl)
  have hI5 : Inr (up A4 r (.lst (ys1 ++ ys2))) [b] as L := (hI2.keep fun a xs n e => s24 a _ n e).keep fun a xs _ e => sr a _ (by simp) e
  generalize up A4 r (.lst (ys1 ++ ys2)) = A5 at er B5 epl5 hI5 ⊢
  have chm : ∀ c ∈ ys1 ++ ys2, Chm c := fun c m => (List.mem_append.mp m).elim (hc1 c) (hc2 c)
  have xl : (ys1 ++ ys2).length ≤ 10 := by rw [List.length_append]; omega
  generalize ys1 ++ ys2 = xs at er chm xl ⊢
  try dsimp only [dNext, dName, List.set_cons_zero, List.set_cons_succ]
  unfold law_p4
  rw [dSeq_ap, dAsg_ap]
  dsimp only [dSeq, dIf, dAsg, dName, dRet, dRetN, dDrop, dNext, dB, dTru, dOp, dUn, dCall, dCons, dNil, dC, dV, dTup, dLst, dCal, dMet, dMak, dFld, DL.sFld, dBm, dgSub, dgTup, dgCons, dgNil, dAndT, dOrT, dNotT, dOr, dAnd, dNotE, dIsi, dSl, dNoP, dPart, dDNew, dNever, fInt, fMod, fAdd_int, fSub, fMul, fDiv, fPow, fI2, fI2C, fNeg, mLt, List.getElem?_cons_succ, List.getElem?_cons_zero, List.set_cons_zero, List.set_cons_succ, dMetX, dCalX, dRaise, dErr1, dXf, dIsE]
  refine ⟨r, xs, rfl, er, fun c m => (chm c m).1, by omega, fun c A6 s6 c0 ec => ?_⟩
  try dsimp only [dNext, dName, List.set_cons_zero, List.set_cons_succ]
  unfold law_p5
  rw [dSeq_ap, dAsg_ap]
  dsimp only [dSeq, dIf, dAsg, dName, dRet, dRetN, dDrop, dNext, dB, dTru, dOp, dUn, dCall, dCons, dNil, dC, dV, dTup, dLst, dCal, dMet, dMak, dFld, DL.sFld, dBm, dgSub, dgTup, dgCons, dgNil, dAndT, dOrT, dNotT, dOr, dAnd, dNotE, dIsi, dSl, dNoP, dPart, dDNew, dNever, fInt, fMod, fAdd_int, fSub, fMul, fDiv, fPow, fI2, fI2C, fNeg, mLt, List.getElem?_cons_succ, List.getElem?_cons_zero, List.set_cons_zero, List.set_cons_succ, dMetX, dCalX, dRaise, dErr1, dXf, dIsE]
  refine ⟨r, xs, rfl, s6 _ _ (by simp) er, chm, by omega, fun s d A7 s7 s0 d0 st => ?_⟩
  have s57 := s6.trans s7
  try dsimp only [dNext, dName, List.set_cons_zero, List.set_cons_succ]
  unfold law_p6
  rw [dSeq_ap, dAsg_ap]
  dsimp only [dSeq, dIf, dAsg, dName, dRet, dRetN, dDrop, dNext, dB, dTru, dOp, dUn, dCall, dCons, dNil, dC, dV, dTup, dLst, dCal, dMet, dMak, dFld, DL.sFld, dBm, dgSub, dgTup, dgCons, dgNil, dAndT, dOrT, dNotT, dOr, dAnd, dNotE, dIsi, dSl, dNoP, dPart, dDNew, dNever, fInt, fMod, fAdd_int, fSub, fMul, fDiv, fPow, fI2, fI2C, fNeg, mLt, List.getElem?_cons_succ, List.getElem?_cons_zero, List.set_cons_zero, List.set_cons_succ, dMetX, dCalX, dRaise, dErr1, dXf, dIsE]
  intro w hw
  have sw : Sm [] A7 (up A7 w (.ins CW [])) := Sm.new hw
  refine ⟨w, s, rfl, up_same, fun pp tt A8 s8 pp0 tt0 w8 => ⟨rfl, ?_⟩⟩
  have pp7 := sw.none0 pp0
  have tt7 := sw.none0 tt0
  have s78 : Sm [w] A7 A8 := (Sm.new hw).trans s8
  have lw : ∀ a o, A7 a = some o → a ≠ w := fun a o e => ne_nn e hw
  have kp : ∀ a o, A7 a = some o → A8 a = some o := fun a o e => s78 a o (by simpa using lw a o e) e
  try dsimp only [dNext, dName, List.set_cons_zero, List.set_cons_succ]
  unfold law_p7
  rw [dSeq_ap, dAsg_ap]
  dsimp only [dSeq, dIf, dAsg, dName, dRet, dRetN, dDrop, dNext, dB, dTru, dOp, dUn, dCall, dCons, dNil, dC, dV, dTup, dLst, dCal, dMet, dMak, dFld, DL.sFld, dBm, dgSub, dgTup, dgCons, dgNil, dAndT, dOrT, dNotT, dOr, dAnd, dNotE, dIsi, dSl, dNoP, dPart, dDNew, dNever, fInt, fMod, fAdd_int, fSub, fMul, fDiv, fPow, fI2, fI2C, fNeg, mLt, List.getElem?_cons_succ, List.getElem?_cons_zero, List.set_cons_zero, List.set_cons_succ, dMetX, dCalX, dRaise, dErr1, dXf, dIsE]
  intro tl htl
  have st8 : Sm [] A8 (up A8 tl (.lst [])) := Sm.new htl
  have k9 : ∀ a o, A7 a = some o → up A8 tl (.lst []) a = some o := fun a o e => st8 _ _ (by simp) (kp a o e)
  have tl7 : A7 tl = none := by
    cases e : A7 tl with
    | none => rfl
    | some o => rw [kp _ _ e] at htl; cases htl
  have epl7 := s57 _ _ (by simp) epl5
  have er7 := s57 _ _ (by simp) er
  have B7 := B5.keep s57 (by simp) (by simp)
  have h9 : Kw (up A8 tl (.lst [])) CS CW b dg pl r c s d w pp tt tl as [] L xs [] := by
    obtain ⟨nbd, ⟨kk, eb, kk0⟩, ⟨lb, ed⟩⟩ := B7
    refine ⟨⟨nbd, ⟨kk, k9 _ _ eb, kk0⟩, ⟨lb, k9 _ _ ed⟩⟩, k9 _ _ epl7, ?_, hP, ll, k9 _ _ er7, chm, k9 _ _ (s7 _ _ (by simp) ec), ⟨k9 _ _ st.1, k9 _ _ st.2⟩, ⟨st8 _ _ (by simp) w8.1, st8 _ _ (by simp) w8.2.1, st8 _ _ (by simp) w8.2.2.1, w8.2.2.2⟩, Inr.nil, up_same, Nat.zero_le _, (fun _ m => nomatch m), ⟨⟨ne_nn eb pp7, ne_nn eb tt7, ne_nn eb tl7⟩, ne_nn w8.2.1 htl, ne_nn w8.2.2.1 htl⟩, ⟨ne_nn ed pp7, ne_nn ed tt7, ne_nn ed tl7⟩, ⟨pb, ne_nn epl7 pp7, ne_nn epl7 tt7, ne_nn epl7 tl7⟩, ⟨rb, ne_nn er7 pp7, ne_nn er7 tt7, ne_nn er7 tl7⟩⟩
    refine ⟨hI5.1, fun i a ea => ?_⟩
    obtain ⟨n, l, el, xa⟩ := hI5.2 i a ea
    have x7 := s57 _ _ (by simp) xa
    exact ⟨by simp only [List.mem_cons, List.not_mem_nil, or_false, not_or]; exact ⟨by simpa using n, lw _ _ x7, ne_nn x7 pp7, ne_nn x7 tt7, ne_nn x7 tl7⟩, l, el, k9 _ _ x7⟩
  generalize up A8 tl (.lst []) = A9 at h9 ⊢
  try dsimp only [dNext, dName, List.set_cons_zero, List.set_cons_succ]
  unfold law_p8
  rw [dSeq_ap]
  refine for_r1 (tb := law_p9 CS CW) (by unfold small62; omega) (fun i σ A' => ∃ r c s d bs xs vs x8 x9 x10 x11 x12 x13, σ = [some (.cl (ns.map .int)), some (.ref b), some (.ref pl), some (.ref r), some (.ref c), some (.ref s), some (.ref w), some (.ref tl), x8, x9, x10, x11, x12, x13] ∧ Kw A' CS CW b dg pl r c s d w pp tt tl as bs L xs vs ∧ xs.length ≤ 10 + 5 * i) ⟨r, c, s, d, [], xs, [], _, _, _, _, _, _, rfl, h9, by omega⟩ ?_ ?_ (fun Q q => q)
  · rintro i σ A2 hi ⟨r, c, s, d, bs, xs, vs, x8, x9, x10, x11, x12, x13, rfl, h6, hl⟩
    have hi : i < 4 := hi
    try dsimp only [dNext, dName, List.set_cons_zero, List.set_cons_succ]
    rw [show (0 : Int) + (i : Int) = (i : Int) by omega]
    exact p9_ok h6 (by omega) (by omega) fun A' r' c' s' d' bs' xs' vs' x9 x10 x11 x12 x13 h' l' => ⟨r', c', s', d', bs', xs', vs', _, _, _, _, _, _, rfl, h', by omega⟩
  · rintro σ A2 ⟨r, c, s, d, bs, xs, vs, x8, x9, x10, x11, x12, x13, rfl, h6, hl⟩
    try dsimp only [dNext, dName, List.set_cons_zero, List.set_cons_succ]
    rw [dRet_ap, hrt]
    exact hR _
end LawP
set_option maxHeartbeats 1000000
namespace LawP
open PySem PySem.Spec PyProof.Rows L2 DL
def top (i : Nat) : Stmt := PySem.Challenge.pw_graphtwins_k50_watches.main.body.getD i (.Pass ⟨0, 0, 0, 0⟩)
abbrev s__law_row : Stmt := top 18
abbrev s__law_cell : Stmt := top 17
abbrev s__law_box : Stmt := top 19
abbrev s__law_draw : Stmt := top 20
abbrev s__law_paths : Stmt := top 29
abbrev s__law_pick : Stmt := top 22
abbrev s__law_worth : Stmt := top 24
abbrev s__law_more : Stmt := top 32
abbrev s__law_cells : Stmt := top 25
abbrev s_State___init__ : Stmt := inClass (top 15) 0
abbrev s_is_later : Stmt := top 12
abbrev s_State_take : Stmt := inClass (top 15) 1
abbrev s__law_state : Stmt := top 26
abbrev s_Watcher___init__ : Stmt := inClass (top 10) 0
abbrev s__law_target : Stmt := top 23
abbrev s__law_walk : Stmt := top 27
abbrev s__law_same : Stmt := top 21
abbrev s_reference : Stmt := top 4
abbrev s_target_of : Stmt := top 5
abbrev s_State_value : Stmt := inClass (top 15) 2
abbrev s_follow : Stmt := top 7
abbrev s_value_at : Stmt := top 8
abbrev s_Watcher_watch : Stmt := inClass (top 10) 1
abbrev s__law_once : Stmt := top 28
abbrev s_cells_of : Stmt := top 9
abbrev s__law_right : Stmt := top 30
abbrev s__law_touched : Stmt := top 34
abbrev s_Watcher_touched : Stmt := inClass (top 10) 3
abbrev s__law_local : Stmt := top 31
abbrev s__law_news : Stmt := top 33
abbrev s_Watcher_news : Stmt := inClass (top 10) 2
abbrev s_law : Stmt := top 35
section
variable {P : Program} {w : World} {K : PySem.W.Frag} {mg : Str → Option Value} {base : Heap}
variable {C_State C_Watcher : Addr}
theorem sc__law_row : FnScope ["_law_cell_here", "_law_k", "_law_many", "_law_row_here", "_law_turn", "_law_seed"] ["_law_cell_here", "_law_k", "_law_many"] (defScope s__law_row) := ⟨rfl, rfl, rfl, by decide +kernel, rfl, by decide +kernel, by decide +kernel⟩
theorem ok__law_row {f : Addr} {fd : FuncData} (F : Fun K "_law_row" "_law_row" s__law_row f fd) (b_range : mg "range" = none) (b_len : mg "len" = none) (b_int : mg "int" = none) : FnOk P w K mg base CX0 1 f fd ["_law_cell_here", "_law_k", "_law_many"] (lSp ⟨P, w, K⟩ 3 sp__law_row) :=
  fn_ok (t := t__law_row) F sc__law_row (fun X hX hr => by
    have hu := hr.units
    have hu2 : X.A.units + 65 < cLine := by have := hr.un; omega
    have nd : (["_law_cell_here", "_law_k", "_law_many", "_law_row_here", "_law_turn", "_law_seed"] : List Str).Nodup := sc__law_row.nd
    obtain ⟨cdv, A, outer, s, H, E, rfl⟩ := hX
    exact (qs_cons (qs_set 3 nd (qe_lst qa_nil))
      (qs_cons (qs_if (qt_cmp (o_lt hu) (qe_var 0) qe_int) (qs_one (qs_set 0 nd (qe_op d_sub qe_int (qe_op d_mul qe_int (qe_var 0))))) qs_nil)
      (qs_cons (qs_if (qt_cmp (o_ge hu) (qe_var 0) (qe_op d_pow qe_int qe_int)) (qs_cons (qs_for (vs := [4]) PassesOwn.never rfl (qi_range1 b_range (qa_cons qe_int qa_nil)) (qg_name 4 nd) (qs_one (qs_if (qt_w (qw_and (qt_cmp (o_gt hu) (qe_var 0) qe_int) (qw_and1 (qt_cmp (o_lt hu) (qe_callB (o_len hu) rfl b_len (by decide +kernel) (qa_cons (qe_var 3) qa_nil)) (qe_var 2))))) (qs_cons (qs_expr (qe_append (qe_var 3) (qa_cons (qe_op d_mod (qe_callTy c_int rfl b_int (by decide +kernel) (qa_cons (qe_var 0) qa_nil)) qe_int) qa_nil)))
      (qs_one (qs_set 0 nd (qe_op d_div (qe_var 0) qe_int)))) qs_nil)))
      (qs_one (qs_ret (qe_var 3)))) qs_nil)
      (qs_cons (qs_set 5 nd (qe_op d_mod (qe_callTy c_int rfl b_int (by decide +kernel) (qa_cons (qe_op d_add (qe_op d_add (qe_op d_mul (qe_var 0) qe_int) (qe_op d_mul (qe_var 1) qe_int)) qe_int) qa_nil)) qe_int))
      (qs_cons (qs_for (vs := [4]) PassesOwn.never rfl (qi_range1 b_range (qa_cons (qe_var 2) qa_nil)) (qg_name 4 nd) (qs_cons (qs_set 5 nd (qe_op d_mod (qe_callTy c_int rfl b_int (by decide +kernel) (qa_cons (qe_op d_add (qe_op d_add (qe_op d_mul (qe_var 5) qe_int) (qe_op d_mul qe_int (qe_var 4))) qe_int) qa_nil)) qe_int))
      (qs_one (qs_expr (qe_append (qe_var 3) (qa_cons (qe_op d_mod (qe_callTy c_int rfl b_int (by decide +kernel) (qa_cons (qe_op d_div (qe_var 5) qe_int) qa_nil)) qe_int) qa_nil))))))
      (qs_one (qs_ret (qe_var 3))))))))) q__law_row
theorem sc__law_cell : FnScope ["_law_script", "_law_k"] ["_law_script", "_law_k"] (defScope s__law_cell) := ⟨rfl, rfl, rfl, by decide +kernel, rfl, by decide +kernel, by decide +kernel⟩
theorem ok__law_cell {f : Addr} {fd : FuncData} (F : Fun K "_law_cell" "_law_cell" s__law_cell f fd) (b_len : mg "len" = none) : FnOk P w K mg base CX0 1 f fd ["_law_script", "_law_k"] (lSp ⟨P, w, K⟩ 2 sp__law_cell) :=
  fn_ok (t := t__law_cell) F sc__law_cell (fun X hX hr => by
    have hu := hr.units
    have hu2 : X.A.units + 65 < cLine := by have := hr.un; omega
    have nd : (["_law_script", "_law_k"] : List Str).Nodup := sc__law_cell.nd
    obtain ⟨cdv, A, outer, s, H, E, rfl⟩ := hX
    exact (qs_cons (qs_if (qt_cmp (o_lt hu) (qe_var 1) (qe_callB (o_len hu) rfl b_len (by decide +kernel) (qa_cons (qe_var 0) qa_nil))) (qs_one (qs_ret (qe_ix (o_ix hu) (qe_var 0) (qe_var 1)))) qs_nil)
      (qs_one (qs_ret qe_int)))) q__law_cell
theorem sc__law_box : FnScope ["_law_script", "_law_first", "_law_last", "_law_row_here", "_law_k"] ["_law_script", "_law_first", "_law_last"] (defScope s__law_box) := ⟨rfl, rfl, rfl, by decide +kernel, rfl, by decide +kernel, by decide +kernel⟩
theorem ok__law_box {f : Addr} {fd : FuncData} (F : Fun K "_law_box" "_law_box" s__law_box f fd) (k__law_row : CalF P w K mg base "_law_row" 1 3 ["_law_cell_here", "_law_k", "_law_many"] sp__law_row) (k__law_cell : CalF P w K mg base "_law_cell" 1 2 ["_law_script", "_law_k"] sp__law_cell) (b_range : mg "range" = none) : FnOk P w K mg base CX0 2 f fd ["_law_script", "_law_first", "_law_last"] (lSp ⟨P, w, K⟩ 3 sp__law_box) :=
  fn_ok (t := t__law_box) F sc__law_box (fun X hX hr => by
    have hu := hr.units
    have hu2 : X.A.units + 65 < cLine := by have := hr.un; omega
    have nd : (["_law_script", "_law_first", "_law_last", "_law_row_here", "_law_k"] : List Str).Nodup := sc__law_box.nd
    obtain ⟨cdv, A, outer, s, H, E, rfl⟩ := hX
    exact (qs_cons (qs_set 3 nd (qe_lst qa_nil))
      (qs_cons (qs_for (vs := [4]) PassesOwn.never rfl (qi_range2 b_range (qa_cons (qe_var 1) (qa_cons (qe_var 2) qa_nil))) (qg_name 4 nd) (qs_one (qs_set 3 nd (qe_op d_add (qe_var 3) (qe_calF k__law_row (hr.mono (by decide)) (qa_cons (qe_calF k__law_cell (hr.mono (by decide)) (qa_cons (qe_var 0) (qa_cons (qe_var 4) qa_nil))) (qa_cons (qe_var 4) (qa_cons qe_int qa_nil))))))))
      (qs_one (qs_ret (qe_lst (qa_cons (qe_var 3) (qa_cons qe_int qa_nil)))))))) q__law_box
theorem sc__law_draw : FnScope ["_law_box_here", "_law_many", "_law_at"] ["_law_box_here", "_law_many"] (defScope s__law_draw) := ⟨rfl, rfl, rfl, by decide +kernel, rfl, by decide +kernel, by decide +kernel⟩
theorem ok__law_draw {f : Addr} {fd : FuncData} (F : Fun K "_law_draw" "_law_draw" s__law_draw f fd) (b_len : mg "len" = none) (b_int : mg "int" = none) : FnOk P w K mg base CX0 1 f fd ["_law_box_here", "_law_many"] (lSp ⟨P, w, K⟩ 2 sp__law_draw) :=
  fn_ok (t := t__law_draw) F sc__law_draw (fun X hX hr => by
    have hu := hr.units
    have hu2 : X.A.units + 65 < cLine := by have := hr.un; omega
    have nd : (["_law_box_here", "_law_many", "_law_at"] : List Str).Nodup := sc__law_draw.nd
    obtain ⟨cdv, A, outer, s, H, E, rfl⟩ := hX
    exact (qs_cons (qs_set 2 nd (qe_ix (o_ix hu) (qe_var 0) qe_int))
      (qs_cons (qs_sub (o_st hu) (qe_op d_add (qe_var 2) qe_int) (qe_var 0) qe_int)
      (qs_cons (qs_if (qt_cmp (o_lt hu) (qe_var 2) (qe_callB (o_len hu) rfl b_len (by decide +kernel) (qa_cons (qe_ix (o_ix hu) (qe_var 0) qe_int) qa_nil))) (qs_one (qs_ret (qe_op d_mod (qe_callTy c_int rfl b_int (by decide +kernel) (qa_cons (qe_ix (o_ix hu) (qe_ix (o_ix hu) (qe_var 0) qe_int) (qe_var 2)) qa_nil)) (qe_var 1)))) qs_nil)
      (qs_one (qs_ret (qe_op d_mod (qe_callTy c_int rfl b_int (by decide +kernel) (qa_cons (qe_op d_add (qe_op d_mul (qe_var 2) qe_int) qe_int) qa_nil)) (qe_var 1)))))))) q__law_draw
theorem sc__law_paths : FnScope ["_law_box_here", "_law_found", "_law_turn", "_law_path", "_law_k"] ["_law_box_here"] (defScope s__law_paths) := ⟨rfl, rfl, rfl, by decide +kernel, rfl, by decide +kernel, by decide +kernel⟩
theorem ok__law_paths {f : Addr} {fd : FuncData} (F : Fun K "_law_paths" "_law_paths" s__law_paths f fd) (k__law_draw : CalF P w K mg base "_law_draw" 1 2 ["_law_box_here", "_law_many"] sp__law_draw) (b_range : mg "range" = none) : FnOk P w K mg base CX0 2 f fd ["_law_box_here"] (lSp ⟨P, w, K⟩ 1 sp__law_paths) :=
  fn_ok (t := t__law_paths) F sc__law_paths (fun X hX hr => by
    have hu := hr.units
    have hu2 : X.A.units + 65 < cLine := by have := hr.un; omega
    have nd : (["_law_box_here", "_law_found", "_law_turn", "_law_path", "_law_k"] : List Str).Nodup := sc__law_paths.nd
    obtain ⟨cdv, A, outer, s, H, E, rfl⟩ := hX
    exact (qs_cons (qs_set 1 nd (qe_lst qa_nil))
      (qs_cons (qs_for (vs := [2]) PassesOwn.never rfl (qi_range1 b_range (qa_cons (qe_op d_add qe_int (qe_calF k__law_draw (hr.mono (by decide)) (qa_cons (qe_var 0) (qa_cons qe_int qa_nil)))) qa_nil)) (qg_name 2 nd) (qs_cons (by first | exact (qs_set 3 nd (qe_lc [("_law_k", 4)] rfl nd (qi_range1 b_range (qa_cons (qe_calF k__law_draw (hr.mono (by decide)) (qa_cons (qe_var 0) (qa_cons qe_int qa_nil))) qa_nil)) (blk_of (N := ["_law_box_here", "_law_found", "_law_turn", "_law_path", "_law_k"]) (sc := defScope s__law_paths) (by decide +kernel)) (fun s H C cl fp => (qg_name 4 nd)) (fun s H C cl fp => qts_nil) (fun s H C cl fp => (qe_ix (o_ix hu) (qe_lst (qa_cons (qe_str [110, 101, 120, 116] rfl rfl) (qa_cons (qe_str [97] rfl rfl) (qa_cons (qe_str [98] rfl rfl) (qa_cons (qe_str [110, 101, 120, 116] rfl rfl) (qa_cons (qe_str [122] rfl rfl) qa_nil)))))) (qe_calF k__law_draw (hr.mono (by decide)) (qa_cons (qe_var 0) (qa_cons qe_int qa_nil))))))) | exact (qs_setLc 3 [("_law_k", 4)] rfl nd (qi_range1 b_range (qa_cons (qe_calF k__law_draw (hr.mono (by decide)) (qa_cons (qe_var 0) (qa_cons qe_int qa_nil))) qa_nil)) (blk_of (N := ["_law_box_here", "_law_found", "_law_turn", "_law_path", "_law_k"]) (sc := defScope s__law_paths) (by decide +kernel)) (fun s H C cl fp => (qg_name 4 nd)) (fun s H C cl fp => qts_nil) (fun s H C cl fp => (qe_ix (o_ix hu) (qe_lst (qa_cons (qe_str [110, 101, 120, 116] rfl rfl) (qa_cons (qe_str [97] rfl rfl) (qa_cons (qe_str [98] rfl rfl) (qa_cons (qe_str [110, 101, 120, 116] rfl rfl) (qa_cons (qe_str [122] rfl rfl) qa_nil)))))) (qe_calF k__law_draw (hr.mono (by decide)) (qa_cons (qe_var 0) (qa_cons qe_int qa_nil))))) rfl))
      (qs_one (qs_if (qt_cmp (d_notInT hu2) (qe_var 3) (qe_var 1)) (qs_one (qs_expr (qe_append (qe_var 1) (qa_cons (qe_var 3) qa_nil)))) qs_nil))))
      (qs_one (qs_ret (qe_var 1)))))) q__law_paths
theorem sc__law_pick : FnScope ["_law_box_here", "_law_row_here"] ["_law_box_here", "_law_row_here"] (defScope s__law_pick) := ⟨rfl, rfl, rfl, by decide +kernel, rfl, by decide +kernel, by decide +kernel⟩
theorem ok__law_pick {f : Addr} {fd : FuncData} (F : Fun K "_law_pick" "_law_pick" s__law_pick f fd) (k__law_draw : CalF P w K mg base "_law_draw" 1 2 ["_law_box_here", "_law_many"] sp__law_draw) (b_int : mg "int" = none) (b_len : mg "len" = none) : FnOk P w K mg base CX0 2 f fd ["_law_box_here", "_law_row_here"] (lSp ⟨P, w, K⟩ 2 sp__law_pick) :=
  fn_ok (t := t__law_pick) F sc__law_pick (fun X hX hr => by
    have hu := hr.units
    have hu2 : X.A.units + 65 < cLine := by have := hr.un; omega
    have nd : (["_law_box_here", "_law_row_here"] : List Str).Nodup := sc__law_pick.nd
    obtain ⟨cdv, A, outer, s, H, E, rfl⟩ := hX
    exact (qs_one (qs_ret (qe_ix (o_ix hu) (qe_var 1) (qe_op d_mod (qe_callTy c_int rfl b_int (by decide +kernel) (qa_cons (qe_calF k__law_draw (hr.mono (by decide)) (qa_cons (qe_var 0) (qa_cons qe_int qa_nil))) qa_nil)) (qe_callB (o_len hu) rfl b_len (by decide +kernel) (qa_cons (qe_var 1) qa_nil))))))) q__law_pick
theorem sc__law_worth : FnScope ["_law_box_here", "_law_names", "_law_kind"] ["_law_box_here", "_law_names"] (defScope s__law_worth) := ⟨rfl, rfl, rfl, by decide +kernel, rfl, by decide +kernel, by decide +kernel⟩
theorem ok__law_worth {f : Addr} {fd : FuncData} (F : Fun K "_law_worth" "_law_worth" s__law_worth f fd) (k__law_draw : CalF P w K mg base "_law_draw" 1 2 ["_law_box_here", "_law_many"] sp__law_draw) (k__law_pick : CalF P w K mg base "_law_pick" 2 2 ["_law_box_here", "_law_row_here"] sp__law_pick) : FnOk P w K mg base CX0 3 f fd ["_law_box_here", "_law_names"] (lSp ⟨P, w, K⟩ 2 sp__law_worth) :=
  fn_ok (t := t__law_worth) F sc__law_worth (fun X hX hr => by
    have hu := hr.units
    have hu2 : X.A.units + 65 < cLine := by have := hr.un; omega
    have nd : (["_law_box_here", "_law_names", "_law_kind"] : List Str).Nodup := sc__law_worth.nd
    obtain ⟨cdv, A, outer, s, H, E, rfl⟩ := hX
    exact (qs_cons (qs_set 2 nd (qe_calF k__law_draw (hr.mono (by decide)) (qa_cons (qe_var 0) (qa_cons qe_int qa_nil))))
      (qs_cons (qs_if (qt_cmp (o_lt hu) (qe_var 2) qe_int) (qs_one (qs_ret (qe_tup (qa_cons (qe_str [114, 101, 102] rfl rfl) (qa_cons (qe_calF k__law_pick (hr.mono (by decide)) (qa_cons (qe_var 0) (qa_cons (qe_var 1) qa_nil))) qa_nil))))) qs_nil)
      (qs_cons (qs_if (qt_cmp (o_eq hu) (qe_var 2) qe_int) (qs_one (qs_ret qe_non)) qs_nil)
      (qs_cons (qs_if (qt_cmp (o_eq hu) (qe_var 2) qe_int) (qs_one (qs_ret (qe_ix (o_ix hu) (qe_lst (qa_cons (qe_str [] rfl rfl) (qa_cons (qe_str [97] rfl rfl) (qa_cons (qe_str [122, 98] rfl rfl) (qa_cons (qe_str [115, 101, 97] rfl rfl) qa_nil))))) (qe_calF k__law_draw (hr.mono (by decide)) (qa_cons (qe_var 0) (qa_cons qe_int qa_nil)))))) qs_nil)
      (qs_one (qs_ret (qe_op d_sub (qe_calF k__law_draw (hr.mono (by decide)) (qa_cons (qe_var 0) (qa_cons qe_int qa_nil))) qe_int)))))))) q__law_worth
theorem sc__law_more : FnScope ["_law_box_here", "_law_clock", "_law_names", "_law_found", "_law_turn", "_law_value"] ["_law_box_here", "_law_clock"] (defScope s__law_more) := ⟨rfl, rfl, rfl, by decide +kernel, rfl, by decide +kernel, by decide +kernel⟩
theorem ok__law_more {f : Addr} {fd : FuncData} (F : Fun K "_law_more" "_law_more" s__law_more f fd) (k__law_draw : CalF P w K mg base "_law_draw" 1 2 ["_law_box_here", "_law_many"] sp__law_draw) (k__law_worth : CalF P w K mg base "_law_worth" 3 2 ["_law_box_here", "_law_names"] sp__law_worth) (k__law_pick : CalF P w K mg base "_law_pick" 2 2 ["_law_box_here", "_law_row_here"] sp__law_pick) (b_range : mg "range" = none) : FnOk P w K mg base CX0 4 f fd ["_law_box_here", "_law_clock"] (lSp ⟨P, w, K⟩ 2 sp__law_more) :=
  fn_ok (t := t__law_more) F sc__law_more (fun X hX hr => by
    have hu := hr.units
    have hu2 : X.A.units + 65 < cLine := by have := hr.un; omega
    have nd : (["_law_box_here", "_law_clock", "_law_names", "_law_found", "_law_turn", "_law_value"] : List Str).Nodup := sc__law_more.nd
    obtain ⟨cdv, A, outer, s, H, E, rfl⟩ := hX
    exact (qs_cons (qs_set 2 nd (qe_lst (qa_cons (qe_tup (qa_cons qe_int (qa_cons qe_int qa_nil))) (qa_cons (qe_tup (qa_cons qe_int (qa_cons qe_int qa_nil))) (qa_cons (qe_tup (qa_cons qe_int (qa_cons qe_int qa_nil))) (qa_cons (qe_tup (qa_cons qe_int (qa_cons qe_int qa_nil))) qa_nil))))))
      (qs_cons (qs_set 3 nd (qe_lst qa_nil))
      (qs_cons (qs_for (vs := [4]) PassesOwn.never rfl (qi_range1 b_range (qa_cons (qe_op d_add qe_int (qe_calF k__law_draw (hr.mono (by decide)) (qa_cons (qe_var 0) (qa_cons qe_int qa_nil)))) qa_nil)) (qg_name 4 nd) (qs_cons (qs_set 5 nd (qe_calF k__law_worth (hr.mono (by decide)) (qa_cons (qe_var 0) (qa_cons (qe_var 2) qa_nil))))
      (qs_cons (qs_if (qt_cmp (o_eq hu) (qe_calF k__law_draw (hr.mono (by decide)) (qa_cons (qe_var 0) (qa_cons qe_int qa_nil))) qe_int) (qs_one (qs_set 5 nd (qe_tup (qa_cons (qe_str [114, 101, 102] rfl rfl) (qa_cons (qe_calF k__law_pick (hr.mono (by decide)) (qa_cons (qe_var 0) (qa_cons (qe_var 2) qa_nil))) qa_nil))))) qs_nil)
      (qs_one (qs_expr (qe_append (qe_var 3) (qa_cons (qe_tup (qa_cons (qe_tup (qa_cons (qe_op d_add (qe_op d_add (qe_var 1) qe_int) (qe_var 4)) (qa_cons (qe_calF k__law_draw (hr.mono (by decide)) (qa_cons (qe_var 0) (qa_cons qe_int qa_nil))) qa_nil))) (qa_cons (qe_calF k__law_pick (hr.mono (by decide)) (qa_cons (qe_var 0) (qa_cons (qe_var 2) qa_nil))) (qa_cons (qe_ix (o_ix hu) (qe_lst (qa_cons (qe_str [110, 101, 120, 116] rfl rfl) (qa_cons (qe_str [97] rfl rfl) (qa_cons (qe_str [98] rfl rfl) (qa_cons (qe_str [110, 101, 120, 116] rfl rfl) qa_nil))))) (qe_calF k__law_draw (hr.mono (by decide)) (qa_cons (qe_var 0) (qa_cons qe_int qa_nil)))) (qa_cons (qe_var 5) qa_nil))))) qa_nil)))))))
      (qs_one (qs_ret (qe_var 3))))))) q__law_more
theorem sc__law_cells : FnScope ["_law_changes", "_law_cells_here", "_law_change", "_law_key"] ["_law_changes"] (defScope s__law_cells) := ⟨rfl, rfl, rfl, by decide +kernel, rfl, by decide +kernel, by decide +kernel⟩
theorem ok__law_cells {f : Addr} {fd : FuncData} (F : Fun K "_law_cells" "_law_cells" s__law_cells f fd) : FnOk P w K mg base CX0 1 f fd ["_law_changes"] (lSp ⟨P, w, K⟩ 1 sp__law_cells) :=
  fn_ok (t := t__law_cells) F sc__law_cells (fun X hX hr => by
    have hu := hr.units
    have hu2 : X.A.units + 65 < cLine := by have := hr.un; omega
    have nd : (["_law_changes", "_law_cells_here", "_law_change", "_law_key"] : List Str).Nodup := sc__law_cells.nd
    obtain ⟨cdv, A, outer, s, H, E, rfl⟩ := hX
    exact (qs_cons (qs_set 1 nd qe_dnew)
      (qs_cons (qs_for (vs := [2]) PassesOwn.never rfl (qi_list (qe_var 0)) (qg_name 2 nd) (qs_cons (qs_set 3 nd (qe_tup (qa_cons (qe_ix (o_ix hu) (qe_var 2) qe_int) (qa_cons (qe_ix (o_ix hu) (qe_var 2) qe_int) qa_nil))))
      (qs_one (qs_if (qt_w (qw_or (qt_cmp (o_notin hu2) (qe_var 3) (qe_var 1)) (qw_or1 (qt_cmp (o_gt hu) (qe_ix (o_ix hu) (qe_var 2) qe_int) (qe_ix (o_ix hu) (qe_ix (o_ix hu) (qe_var 1) (qe_var 3)) qe_int))))) (qs_one (qs_sub (o_st hu) (qe_tup (qa_cons (qe_ix (o_ix hu) (qe_var 2) qe_int) (qa_cons (qe_ix (o_ix hu) (qe_var 2) qe_int) qa_nil))) (qe_var 1) (qe_var 3))) qs_nil))))
      (qs_one (qs_ret (qe_var 1)))))) q__law_cells
theorem sc_State___init__ : FnScope ["self"] ["self"] (defScope s_State___init__) := ⟨rfl, rfl, rfl, by decide +kernel, rfl, by decide +kernel, by decide +kernel⟩
theorem ok_State___init__ {f : Addr} {fd : FuncData} (F : Fun K "__init__" "State.__init__" s_State___init__ f fd) (c_State : Cls K C_State) (n_State_cells : NoAttr K C_State (PySem.Str.ofString "cells")) : FnOk P w K mg base CX0 1 f fd ["self"] (lSp ⟨P, w, K⟩ 1 (sp_State___init__ C_State)) :=
  fn_ok (t := t_State___init__ C_State) F sc_State___init__ (fun X hX hr => by
    have hu := hr.units
    have hu2 : X.A.units + 65 < cLine := by have := hr.un; omega
    have nd : (["self"] : List Str).Nodup := sc_State___init__.nd
    obtain ⟨cdv, A, outer, s, H, E, rfl⟩ := hX
    exact (qs_one (qs_fld "cells" c_State n_State_cells (qe_var 0) qe_dnew))) q_State___init__
theorem sc_is_later : FnScope ["stamp", "other"] ["stamp", "other"] (defScope s_is_later) := ⟨rfl, rfl, rfl, by decide +kernel, rfl, by decide +kernel, by decide +kernel⟩
theorem ok_is_later {f : Addr} {fd : FuncData} (F : Fun K "is_later" "is_later" s_is_later f fd) : FnOk P w K mg base CX0 1 f fd ["stamp", "other"] (lSp ⟨P, w, K⟩ 2 sp_is_later) :=
  fn_ok (t := t_is_later) F sc_is_later (fun X hX hr => by
    have hu := hr.units
    have hu2 : X.A.units + 65 < cLine := by have := hr.un; omega
    have nd : (["stamp", "other"] : List Str).Nodup := sc_is_later.nd
    obtain ⟨cdv, A, outer, s, H, E, rfl⟩ := hX
    exact (qs_one (qs_ret (qe_or (qe_cmp d_is (qe_var 1) qe_non) (qe_one (qe_cmp (o_gt hu) (qe_var 0) (qe_var 1))))))) q_is_later
theorem sc_State_take : FnScope ["self", "change", "stamp", "name", "field", "value", "old"] ["self", "change"] (defScope s_State_take) := ⟨rfl, rfl, rfl, by decide +kernel, rfl, by decide +kernel, by decide +kernel⟩
theorem ok_State_take {f : Addr} {fd : FuncData} (F : Fun K "take" "State.take" s_State_take f fd) (c_State : Cls K C_State) (n_State_cells : NoAttr K C_State (PySem.Str.ofString "cells")) (k_is_later : CalF P w K mg base "is_later" 1 2 ["stamp", "other"] sp_is_later) : FnOk P w K mg base CX0 2 f fd ["self", "change"] (lSp ⟨P, w, K⟩ 2 (sp_State_take C_State)) :=
  fn_ok (t := t_State_take C_State) F sc_State_take (fun X hX hr => by
    have hu := hr.units
    have hu2 : X.A.units + 65 < cLine := by have := hr.un; omega
    have nd : (["self", "change", "stamp", "name", "field", "value", "old"] : List Str).Nodup := sc_State_take.nd
    obtain ⟨cdv, A, outer, s, H, E, rfl⟩ := hX
    exact (qs_cons (qs_asg (vs := [2, 3, 4, 5]) (qe_var 1) (qg_tup rfl (qgs_cons (qg_name 2 nd) (qgs_cons (qg_name 3 nd) (qgs_cons (qg_name 4 nd) (qgs_cons (qg_name 5 nd) qgs_nil)))) (len_name (len_name (len_name (len_name len_nil))))))
      (qs_cons (qs_set 6 nd (qe_dget hu (qe_fld "cells" c_State n_State_cells (qe_var 0)) (qa_cons (qe_tup (qa_cons (qe_var 3) (qa_cons (qe_var 4) qa_nil))) qa_nil)))
      (qs_cons (qs_if (qt_w (qw_and (qt_cmp d_isnot (qe_var 6) qe_non) (qw_and1 (qt_not (qt_truth (qe_calF k_is_later (hr.mono (by decide)) (qa_cons (qe_var 2) (qa_cons (qe_ix (o_ix hu) (qe_var 6) qe_int) qa_nil)))))))) (qs_one (qs_ret qe_bl)) qs_nil)
      (qs_cons (qs_sub (o_st hu) (qe_tup (qa_cons (qe_var 2) (qa_cons (qe_var 5) qa_nil))) (qe_fld "cells" c_State n_State_cells (qe_var 0)) (qe_tup (qa_cons (qe_var 3) (qa_cons (qe_var 4) qa_nil))))
      (qs_one (qs_ret qe_bl))))))) q_State_take
theorem sc__law_state : FnScope ["_law_changes", "_law_state_here", "_law_change"] ["_law_changes"] (defScope s__law_state) := ⟨rfl, rfl, rfl, by decide +kernel, rfl, by decide +kernel, by decide +kernel⟩
theorem ok__law_state {f : Addr} {fd : FuncData} (F : Fun K "_law_state" "_law_state" s__law_state f fd) (k_State___init__ : MakF P w K mg base C_State "State" 1 1 ["self"] (sp_State___init__ C_State)) (k_State_take : MetF P w K mg base C_State "take" 2 2 ["self", "change"] (sp_State_take C_State)) : FnOk P w K mg base CX0 3 f fd ["_law_changes"] (lSp ⟨P, w, K⟩ 1 (sp__law_state C_State)) :=
  fn_ok (t := t__law_state C_State) F sc__law_state (fun X hX hr => by
    have hu := hr.units
    have hu2 : X.A.units + 65 < cLine := by have := hr.un; omega
    have nd : (["_law_changes", "_law_state_here", "_law_change"] : List Str).Nodup := sc__law_state.nd
    obtain ⟨cdv, A, outer, s, H, E, rfl⟩ := hX
    exact (qs_cons (qs_set 1 nd (qe_makF0 k_State___init__ (hr.mono (by decide))))
      (qs_cons (qs_for (vs := [2]) PassesOwn.never rfl (qi_list (qe_var 0)) (qg_name 2 nd) (qs_one (qs_expr (qe_metF "take" k_State_take (hr.mono (by decide)) (qe_var 1) (qa_cons (qe_var 2) qa_nil)))))
      (qs_one (qs_ret (qe_var 1)))))) q__law_state
theorem sc_Watcher___init__ : FnScope ["self", "state"] ["self", "state"] (defScope s_Watcher___init__) := ⟨rfl, rfl, rfl, by decide +kernel, rfl, by decide +kernel, by decide +kernel⟩
theorem ok_Watcher___init__ {f : Addr} {fd : FuncData} (F : Fun K "__init__" "Watcher.__init__" s_Watcher___init__ f fd) (c_Watcher : Cls K C_Watcher) (n_Watcher_state : NoAttr K C_Watcher (PySem.Str.ofString "state")) (n_Watcher_paths : NoAttr K C_Watcher (PySem.Str.ofString "paths")) (n_Watcher_told : NoAttr K C_Watcher (PySem.Str.ofString "told")) : FnOk P w K mg base CX0 1 f fd ["self", "state"] (lSp ⟨P, w, K⟩ 2 (sp_Watcher___init__ C_Watcher)) :=
  fn_ok (t := t_Watcher___init__ C_Watcher) F sc_Watcher___init__ (fun X hX hr => by
    have hu := hr.units
    have hu2 : X.A.units + 65 < cLine := by have := hr.un; omega
    have nd : (["self", "state"] : List Str).Nodup := sc_Watcher___init__.nd
    obtain ⟨cdv, A, outer, s, H, E, rfl⟩ := hX
    exact (qs_cons (qs_fld "state" c_Watcher n_Watcher_state (qe_var 0) (qe_var 1))
      (qs_cons (qs_fld "paths" c_Watcher n_Watcher_paths (qe_var 0) (qe_lst qa_nil))
      (qs_one (qs_fld "told" c_Watcher n_Watcher_told (qe_var 0) (qe_lst qa_nil)))))) q_Watcher___init__
theorem sc__law_target : FnScope ["_law_value"] ["_law_value"] (defScope s__law_target) := ⟨rfl, rfl, rfl, by decide +kernel, rfl, by decide +kernel, by decide +kernel⟩
theorem ok__law_target {f : Addr} {fd : FuncData} (F : Fun K "_law_target" "_law_target" s__law_target f fd) (b_isinstance : mg "isinstance" = none) (b_tuple : mg "tuple" = none) : FnOk P w K mg base CX0 1 f fd ["_law_value"] (lSp ⟨P, w, K⟩ 1 sp__law_target) :=
  fn_ok (t := t__law_target) F sc__law_target (fun X hX hr => by
    have hu := hr.units
    have hu2 : X.A.units + 65 < cLine := by have := hr.un; omega
    have nd : (["_law_value"] : List Str).Nodup := sc__law_target.nd
    obtain ⟨cdv, A, outer, s, H, E, rfl⟩ := hX
    exact (qs_cons (qs_if (qt_truth (qe_isi (qe_var 0) okT_tuple rfl b_isinstance rfl b_tuple (by decide +kernel))) (qs_one (qs_ret (qe_ix (o_ix hu) (qe_var 0) qe_int))) qs_nil)
      (qs_one (qs_ret qe_non)))) q__law_target
theorem sc__law_walk : FnScope ["_law_cells_here", "_law_path", "_law_values", "_law_asked", "_law_field", "_law_key", "_law_value"] ["_law_cells_here", "_law_path"] (defScope s__law_walk) := ⟨rfl, rfl, rfl, by decide +kernel, rfl, by decide +kernel, by decide +kernel⟩
theorem ok__law_walk {f : Addr} {fd : FuncData} (F : Fun K "_law_walk" "_law_walk" s__law_walk f fd) (k__law_target : CalF P w K mg base "_law_target" 1 1 ["_law_value"] sp__law_target) : FnOk P w K mg base CX0 2 f fd ["_law_cells_here", "_law_path"] (lSp ⟨P, w, K⟩ 2 sp__law_walk) :=
  fn_ok (t := t__law_walk) F sc__law_walk (fun X hX hr => by
    have hu := hr.units
    have hu2 : X.A.units + 65 < cLine := by have := hr.un; omega
    have nd : (["_law_cells_here", "_law_path", "_law_values", "_law_asked", "_law_field", "_law_key", "_law_value"] : List Str).Nodup := sc__law_walk.nd
    obtain ⟨cdv, A, outer, s, H, E, rfl⟩ := hX
    exact (qs_cons (qs_set 2 nd (qe_lst (qa_cons (qe_tup (qa_cons (qe_str [114, 101, 102] rfl rfl) (qa_cons (qe_tup (qa_cons qe_int (qa_cons qe_int qa_nil))) qa_nil))) qa_nil)))
      (qs_cons (qs_set 3 nd (qe_lst qa_nil))
      (qs_cons (qs_for (vs := [4]) PassesOwn.never rfl (qi_list (qe_var 1)) (qg_name 4 nd) (qs_cons (qs_if (qt_cmp d_is (qe_calF k__law_target (hr.mono (by decide)) (qa_cons (qe_ix (o_ix hu) (qe_var 2) (qe_un d_neg qe_int)) qa_nil)) qe_non) (qs_one (qs_ret (qe_lst (qa_cons (qe_var 2) (qa_cons (qe_var 3) (qa_cons qe_non qa_nil)))))) qs_nil)
      (qs_cons (qs_set 5 nd (qe_tup (qa_cons (qe_ix (o_ix hu) (qe_ix (o_ix hu) (qe_var 2) (qe_un d_neg qe_int)) qe_int) (qa_cons (qe_var 4) qa_nil))))
      (qs_cons (qs_if (qt_cmp (o_notin hu2) (qe_var 5) (qe_var 3)) (qs_one (qs_expr (qe_append (qe_var 3) (qa_cons (qe_var 5) qa_nil)))) qs_nil)
      (qs_cons (qs_set 6 nd qe_non)
      (qs_cons (qs_if (qt_cmp (o_in hu2) (qe_var 5) (qe_var 0)) (qs_one (qs_set 6 nd (qe_ix (o_ix hu) (qe_ix (o_ix hu) (qe_var 0) (qe_var 5)) qe_int))) qs_nil)
      (qs_one (qs_expr (qe_append (qe_var 2) (qa_cons (qe_var 6) qa_nil))))))))))
      (qs_one (qs_ret (qe_lst (qa_cons (qe_var 2) (qa_cons (qe_var 3) (qa_cons (qe_ix (o_ix hu) (qe_var 2) (qe_un d_neg qe_int)) qa_nil)))))))))) q__law_walk
theorem sc__law_same : FnScope ["_law_one", "_law_other"] ["_law_one", "_law_other"] (defScope s__law_same) := ⟨rfl, rfl, rfl, by decide +kernel, rfl, by decide +kernel, by decide +kernel⟩
theorem ok__law_same {f : Addr} {fd : FuncData} (F : Fun K "_law_same" "_law_same" s__law_same f fd) (b_repr : mg "repr" = none) : FnG P w K mg base 1 f fd ["_law_one", "_law_other"] (lSp ⟨P, w, K⟩ 2 sp__law_same) :=
  fn_okG (t := t__law_same) F sc__law_same (fun X hX hr => by
    have hu := hr.units
    have hu2 : X.A.units + 65 < cLine := by have := hr.un; omega
    have nd : (["_law_one", "_law_other"] : List Str).Nodup := sc__law_same.nd
    obtain ⟨cdv, A, outer, s, H, E, gd, rfl⟩ := hX
    exact (qs_one (qs_ret (qe_cmp (o_eq hu) (qe_callB (c_repr gd hu) rfl b_repr (by decide +kernel) (qa_cons (qe_var 0) qa_nil)) (qe_callB (c_repr gd hu) rfl b_repr (by decide +kernel) (qa_cons (qe_var 1) qa_nil)))))) q__law_same
theorem sc_reference : FnScope ["name"] ["name"] (defScope s_reference) := ⟨rfl, rfl, rfl, by decide +kernel, rfl, by decide +kernel, by decide +kernel⟩
theorem ok_reference {f : Addr} {fd : FuncData} (F : Fun K "reference" "reference" s_reference f fd) (g_REF : GlobD K mg "REF" (.str [114, 101, 102])) : FnOk P w K mg base CX0 1 f fd ["name"] (lSp ⟨P, w, K⟩ 1 sp_reference) :=
  fn_ok (t := t_reference) F sc_reference (fun X hX hr => by
    have hu := hr.units
    have hu2 : X.A.units + 65 < cLine := by have := hr.un; omega
    have nd : (["name"] : List Str).Nodup := sc_reference.nd
    obtain ⟨cdv, A, outer, s, H, E, rfl⟩ := hX
    exact (qs_one (qs_ret (qe_tup (qa_cons (qe_glob g_REF) (qa_cons (qe_var 0) qa_nil)))))) q_reference
theorem sc_target_of : FnScope ["value"] ["value"] (defScope s_target_of) := ⟨rfl, rfl, rfl, by decide +kernel, rfl, by decide +kernel, by decide +kernel⟩
theorem ok_target_of {f : Addr} {fd : FuncData} (F : Fun K "target_of" "target_of" s_target_of f fd) (b_isinstance : mg "isinstance" = none) (b_tuple : mg "tuple" = none) : FnOk P w K mg base CX0 1 f fd ["value"] (lSp ⟨P, w, K⟩ 1 sp_target_of) :=
  fn_ok (t := t_target_of) F sc_target_of (fun X hX hr => by
    have hu := hr.units
    have hu2 : X.A.units + 65 < cLine := by have := hr.un; omega
    have nd : (["value"] : List Str).Nodup := sc_target_of.nd
    obtain ⟨cdv, A, outer, s, H, E, rfl⟩ := hX
    exact (qs_cons (qs_if (qt_truth (qe_isi (qe_var 0) okT_tuple rfl b_isinstance rfl b_tuple (by decide +kernel))) (qs_one (qs_ret (qe_ix (o_ix hu) (qe_var 0) qe_int))) qs_nil)
      (qs_one (qs_ret qe_non)))) q_target_of
theorem sc_State_value : FnScope ["self", "name", "field", "cell"] ["self", "name", "field"] (defScope s_State_value) := ⟨rfl, rfl, rfl, by decide +kernel, rfl, by decide +kernel, by decide +kernel⟩
theorem ok_State_value {f : Addr} {fd : FuncData} (F : Fun K "value" "State.value" s_State_value f fd) (c_State : Cls K C_State) (n_State_cells : NoAttr K C_State (PySem.Str.ofString "cells")) : FnOk P w K mg base CX0 1 f fd ["self", "name", "field"] (lSp ⟨P, w, K⟩ 3 (sp_State_value C_State)) :=
  fn_ok (t := t_State_value C_State) F sc_State_value (fun X hX hr => by
    have hu := hr.units
    have hu2 : X.A.units + 65 < cLine := by have := hr.un; omega
    have nd : (["self", "name", "field", "cell"] : List Str).Nodup := sc_State_value.nd
    obtain ⟨cdv, A, outer, s, H, E, rfl⟩ := hX
    exact (qs_cons (qs_set 3 nd (qe_dget hu (qe_fld "cells" c_State n_State_cells (qe_var 0)) (qa_cons (qe_tup (qa_cons (qe_var 1) (qa_cons (qe_var 2) qa_nil))) qa_nil)))
      (qs_cons (qs_if (qt_cmp d_is (qe_var 3) qe_non) (qs_one (qs_ret qe_non)) qs_nil)
      (qs_one (qs_ret (qe_ix (o_ix hu) (qe_var 3) qe_int)))))) q_State_value
theorem sc_follow : FnScope ["state", "path", "found", "field", "name"] ["state", "path"] (defScope s_follow) := ⟨rfl, rfl, rfl, by decide +kernel, rfl, by decide +kernel, by decide +kernel⟩
theorem ok_follow {f : Addr} {fd : FuncData} (F : Fun K "follow" "follow" s_follow f fd) (k_reference : CalF P w K mg base "reference" 1 1 ["name"] sp_reference) (k_target_of : CalF P w K mg base "target_of" 1 1 ["value"] sp_target_of) (k_State_value : MetF P w K mg base C_State "value" 1 3 ["self", "name", "field"] (sp_State_value C_State)) (g_ROOT : GlobD K mg "ROOT" (.tup [.int 0, .int 0])) : FnOk P w K mg base CX0 2 f fd ["state", "path"] (lSp ⟨P, w, K⟩ 2 (sp_follow C_State)) :=
  fn_ok (t := t_follow C_State) F sc_follow (fun X hX hr => by
    have hu := hr.units
    have hu2 : X.A.units + 65 < cLine := by have := hr.un; omega
    have nd : (["state", "path", "found", "field", "name"] : List Str).Nodup := sc_follow.nd
    obtain ⟨cdv, A, outer, s, H, E, rfl⟩ := hX
    exact (qs_cons (qs_set 2 nd (qe_lst (qa_cons (qe_calF k_reference (hr.mono (by decide)) (qa_cons (qe_glob g_ROOT) qa_nil)) qa_nil)))
      (qs_cons (qs_for (vs := [3]) PassesOwn.never rfl (qi_list (qe_var 1)) (qg_name 3 nd) (qs_cons (qs_set 4 nd (qe_calF k_target_of (hr.mono (by decide)) (qa_cons (qe_ix (o_ix hu) (qe_var 2) (qe_un d_neg qe_int)) qa_nil)))
      (qs_cons (qs_if (qt_cmp d_is (qe_var 4) qe_non) (qs_one (qs_ret (qe_var 2))) qs_nil)
      (qs_one (qs_expr (qe_append (qe_var 2) (qa_cons (qe_metF "value" k_State_value (hr.mono (by decide)) (qe_var 0) (qa_cons (qe_var 4) (qa_cons (qe_var 3) qa_nil))) qa_nil)))))))
      (qs_one (qs_ret (qe_var 2)))))) q_follow
theorem sc_value_at : FnScope ["state", "path", "found"] ["state", "path"] (defScope s_value_at) := ⟨rfl, rfl, rfl, by decide +kernel, rfl, by decide +kernel, by decide +kernel⟩
theorem ok_value_at {f : Addr} {fd : FuncData} (F : Fun K "value_at" "value_at" s_value_at f fd) (k_follow : CalF P w K mg base "follow" 2 2 ["state", "path"] (sp_follow C_State)) (b_len : mg "len" = none) : FnOk P w K mg base CX0 3 f fd ["state", "path"] (lSp ⟨P, w, K⟩ 2 (sp_value_at C_State)) :=
  fn_ok (t := t_value_at C_State) F sc_value_at (fun X hX hr => by
    have hu := hr.units
    have hu2 : X.A.units + 65 < cLine := by have := hr.un; omega
    have nd : (["state", "path", "found"] : List Str).Nodup := sc_value_at.nd
    obtain ⟨cdv, A, outer, s, H, E, rfl⟩ := hX
    exact (qs_cons (qs_set 2 nd (qe_calF k_follow (hr.mono (by decide)) (qa_cons (qe_var 0) (qa_cons (qe_var 1) qa_nil))))
      (qs_cons (qs_if (qt_cmp (o_le hu) (qe_callB (o_len hu) rfl b_len (by decide +kernel) (qa_cons (qe_var 2) qa_nil)) (qe_callB (o_len hu) rfl b_len (by decide +kernel) (qa_cons (qe_var 1) qa_nil))) (qs_one (qs_ret qe_non)) qs_nil)
      (qs_one (qs_ret (qe_ix (o_ix hu) (qe_var 2) (qe_un d_neg qe_int))))))) q_value_at
theorem sc_Watcher_watch : FnScope ["self", "path"] ["self", "path"] (defScope s_Watcher_watch) := ⟨rfl, rfl, rfl, by decide +kernel, rfl, by decide +kernel, by decide +kernel⟩
theorem ok_Watcher_watch {f : Addr} {fd : FuncData} (F : Fun K "watch" "Watcher.watch" s_Watcher_watch f fd) (c_Watcher : Cls K C_Watcher) (n_Watcher_paths : NoAttr K C_Watcher (PySem.Str.ofString "paths")) (n_Watcher_told : NoAttr K C_Watcher (PySem.Str.ofString "told")) (n_Watcher_state : NoAttr K C_Watcher (PySem.Str.ofString "state")) (k_value_at : CalF P w K mg base "value_at" 3 2 ["state", "path"] (sp_value_at C_State)) (b_list : mg "list" = none) : FnOk P w K mg base CX0 4 f fd ["self", "path"] (lSp ⟨P, w, K⟩ 2 (sp_Watcher_watch C_State C_Watcher)) :=
  fn_ok (t := t_Watcher_watch C_State C_Watcher) F sc_Watcher_watch (fun X hX hr => by
    have hu := hr.units
    have hu2 : X.A.units + 65 < cLine := by have := hr.un; omega
    have nd : (["self", "path"] : List Str).Nodup := sc_Watcher_watch.nd
    obtain ⟨cdv, A, outer, s, H, E, rfl⟩ := hX
    exact (qs_cons (qs_expr (qe_append (qe_fld "paths" c_Watcher n_Watcher_paths (qe_var 0)) (qa_cons (qe_callTy c_listOf rfl b_list (by decide +kernel) (qa_cons (qe_var 1) qa_nil)) qa_nil)))
      (qs_cons (qs_expr (qe_append (qe_fld "told" c_Watcher n_Watcher_told (qe_var 0)) (qa_cons (qe_calF k_value_at (hr.mono (by decide)) (qa_cons (qe_fld "state" c_Watcher n_Watcher_state (qe_var 0)) (qa_cons (qe_var 1) qa_nil))) qa_nil)))
      (qs_one (qs_ret (qe_ix (o_ix hu) (qe_fld "told" c_Watcher n_Watcher_told (qe_var 0)) (qe_un d_neg qe_int))))))) q_Watcher_watch
theorem sc__law_once : FnScope ["_law_rows", "_law_found", "_law_row_here"] ["_law_rows"] (defScope s__law_once) := ⟨rfl, rfl, rfl, by decide +kernel, rfl, by decide +kernel, by decide +kernel⟩
theorem ok__law_once {f : Addr} {fd : FuncData} (F : Fun K "_law_once" "_law_once" s__law_once f fd) : FnOk P w K mg base CX0 1 f fd ["_law_rows"] (lSp ⟨P, w, K⟩ 1 sp__law_once) :=
  fn_ok (t := t__law_once) F sc__law_once (fun X hX hr => by
    have hu := hr.units
    have hu2 : X.A.units + 65 < cLine := by have := hr.un; omega
    have nd : (["_law_rows", "_law_found", "_law_row_here"] : List Str).Nodup := sc__law_once.nd
    obtain ⟨cdv, A, outer, s, H, E, rfl⟩ := hX
    exact (qs_cons (qs_set 1 nd (qe_lst qa_nil))
      (qs_cons (qs_for (vs := [2]) PassesOwn.never rfl (qi_list (qe_var 0)) (qg_name 2 nd) (qs_one (qs_if (qt_cmp (o_notin hu2) (qe_var 2) (qe_var 1)) (qs_one (qs_expr (qe_append (qe_var 1) (qa_cons (qe_var 2) qa_nil)))) qs_nil)))
      (qs_one (qs_ret (qe_var 1)))))) q__law_once
theorem sc_cells_of : FnScope ["state", "path", "found", "values", "place", "field"] ["state", "path"] (defScope s_cells_of) := ⟨rfl, rfl, rfl, by decide +kernel, rfl, by decide +kernel, by decide +kernel⟩
theorem ok_cells_of {f : Addr} {fd : FuncData} (F : Fun K "cells_of" "cells_of" s_cells_of f fd) (k_follow : CalF P w K mg base "follow" 2 2 ["state", "path"] (sp_follow C_State)) (k_target_of : CalF P w K mg base "target_of" 1 1 ["value"] sp_target_of) (b_enumerate : mg "enumerate" = none) (b_len : mg "len" = none) : FnOk P w K mg base CX0 3 f fd ["state", "path"] (lSp ⟨P, w, K⟩ 2 (sp_cells_of C_State)) :=
  fn_ok (t := t_cells_of C_State) F sc_cells_of (fun X hX hr => by
    have hu := hr.units
    have hu2 : X.A.units + 65 < cLine := by have := hr.un; omega
    have nd : (["state", "path", "found", "values", "place", "field"] : List Str).Nodup := sc_cells_of.nd
    obtain ⟨cdv, A, outer, s, H, E, rfl⟩ := hX
    exact (qs_cons (qs_set 2 nd (qe_lst qa_nil))
      (qs_cons (qs_set 3 nd (qe_calF k_follow (hr.mono (by decide)) (qa_cons (qe_var 0) (qa_cons (qe_var 1) qa_nil))))
      (qs_cons (qs_for (vs := [4, 5]) PassesOwn.never rfl (qi_enum b_enumerate (qa_cons (qe_var 1) qa_nil)) (qg_tup rfl (qgs_cons (qg_name 4 nd) (qgs_cons (qg_name 5 nd) qgs_nil)) (len_name (len_name len_nil))) (qs_one (qs_if (qt_w (qw_and (qt_cmp (o_lt hu) (qe_var 4) (qe_callB (o_len hu) rfl b_len (by decide +kernel) (qa_cons (qe_var 3) qa_nil))) (qw_and1 (qt_cmp d_isnot (qe_calF k_target_of (hr.mono (by decide)) (qa_cons (qe_ix (o_ix hu) (qe_var 3) (qe_var 4)) qa_nil)) qe_non)))) (qs_one (qs_expr (qe_append (qe_var 2) (qa_cons (qe_tup (qa_cons (qe_calF k_target_of (hr.mono (by decide)) (qa_cons (qe_ix (o_ix hu) (qe_var 3) (qe_var 4)) qa_nil)) (qa_cons (qe_var 5) qa_nil))) qa_nil)))) qs_nil)))
      (qs_one (qs_ret (qe_var 2))))))) q_cells_of
theorem sc__law_right : FnScope ["_law_state_here", "_law_cells_here", "_law_paths_here", "_law_path", "_law_values", "_law_asked", "_law_value", "_law_kept"] ["_law_state_here", "_law_cells_here", "_law_paths_here"] (defScope s__law_right) := ⟨rfl, rfl, rfl, by decide +kernel, rfl, by decide +kernel, by decide +kernel⟩
theorem ok__law_right {f : Addr} {fd : FuncData} (F : Fun K "_law_right" "_law_right" s__law_right f fd) (k__law_walk : CalF P w K mg base "_law_walk" 2 2 ["_law_cells_here", "_law_path"] sp__law_walk) (k__law_same : CalG P w K mg base "_law_same" 1 2 ["_law_one", "_law_other"] sp__law_same) (k_follow : CalF P w K mg base "follow" 2 2 ["state", "path"] (sp_follow C_State)) (k_value_at : CalF P w K mg base "value_at" 3 2 ["state", "path"] (sp_value_at C_State)) (k__law_once : CalF P w K mg base "_law_once" 1 1 ["_law_rows"] sp__law_once) (k_cells_of : CalF P w K mg base "cells_of" 3 2 ["state", "path"] (sp_cells_of C_State)) (b_list : mg "list" = none) : FnG P w K mg base 4 f fd ["_law_state_here", "_law_cells_here", "_law_paths_here"] (lSp ⟨P, w, K⟩ 3 (sp__law_right C_State)) :=
  fn_okG (t := t__law_right C_State) F sc__law_right (fun X hX hr => by
    have hu := hr.units
    have hu2 : X.A.units + 65 < cLine := by have := hr.un; omega
    have nd : (["_law_state_here", "_law_cells_here", "_law_paths_here", "_law_path", "_law_values", "_law_asked", "_law_value", "_law_kept"] : List Str).Nodup := sc__law_right.nd
    obtain ⟨cdv, A, outer, s, H, E, gd, rfl⟩ := hX
    exact (qs_cons (qs_for (vs := [3]) PassesOwn.never rfl (qi_list (qe_var 2)) (qg_name 3 nd) (qs_cons (qs_asg (vs := [4, 5, 6]) (qe_calF k__law_walk (hr.mono (by decide)) (qa_cons (qe_var 1) (qa_cons (qe_var 3) qa_nil))) (qg_lst rfl (qgs_cons (qg_name 4 nd) (qgs_cons (qg_name 5 nd) (qgs_cons (qg_name 6 nd) qgs_nil))) (len_name (len_name (len_name len_nil)))))
      (qs_cons (qs_set 7 nd (qe_callTy c_listOf rfl b_list (by decide +kernel) (qa_cons (qe_var 3) qa_nil)))
      (qs_cons (qs_if (qt_w (qw_or (qt_not (qt_truth (qe_calG k__law_same gd (hr.mono (by decide)) (qa_cons (qe_calF k_follow (hr.mono (by decide)) (qa_cons (qe_var 0) (qa_cons (qe_var 3) qa_nil))) (qa_cons (qe_var 4) qa_nil))))) (qw_or (qt_not (qt_truth (qe_calG k__law_same gd (hr.mono (by decide)) (qa_cons (qe_calF k_value_at (hr.mono (by decide)) (qa_cons (qe_var 0) (qa_cons (qe_var 3) qa_nil))) (qa_cons (qe_var 6) qa_nil))))) (qw_or1 (qt_cmp (o_ne hu) (qe_var 3) (qe_var 7)))))) (qs_one (qs_ret qe_bl)) qs_nil)
      (qs_one (qs_if (qt_not (qt_truth (qe_calG k__law_same gd (hr.mono (by decide)) (qa_cons (qe_calF k__law_once (hr.mono (by decide)) (qa_cons (qe_calF k_cells_of (hr.mono (by decide)) (qa_cons (qe_var 0) (qa_cons (qe_var 3) qa_nil))) qa_nil)) (qa_cons (qe_var 5) qa_nil))))) (qs_one (qs_ret qe_bl)) qs_nil))))))
      (qs_one (qs_ret qe_bl)))) q__law_right
theorem sc__law_touched : FnScope ["_law_paths_here", "_law_many", "_law_cells_here", "_law_changes", "_law_keys", "_law_found", "_law_k", "_law_change", "_law_key"] ["_law_paths_here", "_law_many", "_law_cells_here", "_law_changes"] (defScope s__law_touched) := ⟨rfl, rfl, rfl, by decide +kernel, rfl, by decide +kernel, by decide +kernel⟩
theorem ok__law_touched {f : Addr} {fd : FuncData} (F : Fun K "_law_touched" "_law_touched" s__law_touched f fd) (k__law_walk : CalF P w K mg base "_law_walk" 2 2 ["_law_cells_here", "_law_path"] sp__law_walk) (b_range : mg "range" = none) : FnOk P w K mg base CX0 3 f fd ["_law_paths_here", "_law_many", "_law_cells_here", "_law_changes"] (lSp ⟨P, w, K⟩ 4 sp__law_touched) :=
  fn_ok (t := t__law_touched) F sc__law_touched (fun X hX hr => by
    have hu := hr.units
    have hu2 : X.A.units + 65 < cLine := by have := hr.un; omega
    have nd : (["_law_paths_here", "_law_many", "_law_cells_here", "_law_changes", "_law_keys", "_law_found", "_law_k", "_law_change", "_law_key"] : List Str).Nodup := sc__law_touched.nd
    obtain ⟨cdv, A, outer, s, H, E, rfl⟩ := hX
    exact (qs_cons (by first | exact (qs_set 4 nd (qe_lc [("_law_change", 7)] rfl nd (qi_list (qe_var 3)) (blk_of (N := ["_law_paths_here", "_law_many", "_law_cells_here", "_law_changes", "_law_keys", "_law_found", "_law_k", "_law_change", "_law_key"]) (sc := defScope s__law_touched) (by decide +kernel)) (fun s H C cl fp => (qg_name 7 nd)) (fun s H C cl fp => qts_nil) (fun s H C cl fp => (qe_slice (qe_var 7) (qo_some qe_int) (qo_some qe_int))))) | exact (qs_setLc 4 [("_law_change", 7)] rfl nd (qi_list (qe_var 3)) (blk_of (N := ["_law_paths_here", "_law_many", "_law_cells_here", "_law_changes", "_law_keys", "_law_found", "_law_k", "_law_change", "_law_key"]) (sc := defScope s__law_touched) (by decide +kernel)) (fun s H C cl fp => (qg_name 7 nd)) (fun s H C cl fp => qts_nil) (fun s H C cl fp => (qe_slice (qe_var 7) (qo_some qe_int) (qo_some qe_int))) rfl))
      (qs_cons (qs_set 5 nd (qe_lst qa_nil))
      (qs_cons (qs_for (vs := [6]) PassesOwn.never rfl (qi_range1 b_range (qa_cons (qe_var 1) qa_nil)) (qg_name 6 nd) (qs_one (qs_if (qt_truth (qe_lc [("_law_key", 8)] rfl nd (qi_list (qe_ix (o_ix hu) (qe_calF k__law_walk (hr.mono (by decide)) (qa_cons (qe_var 2) (qa_cons (qe_ix (o_ix hu) (qe_var 0) (qe_var 6)) qa_nil))) qe_int)) (blk_of (N := ["_law_paths_here", "_law_many", "_law_cells_here", "_law_changes", "_law_keys", "_law_found", "_law_k", "_law_change", "_law_key"]) (sc := defScope s__law_touched) (by decide +kernel)) (fun s H C cl fp => (qg_name 8 nd)) (fun s H C cl fp => (qts_one (qt_cmp (o_in hu2) (qe_var 8) (qe_var 4)))) (fun s H C cl fp => (qe_var 8)))) (qs_one (qs_expr (qe_append (qe_var 5) (qa_cons (qe_var 6) qa_nil)))) qs_nil)))
      (qs_one (qs_ret (qe_var 5))))))) q__law_touched
theorem sc_Watcher_touched : FnScope ["self", "changes", "cells", "found", "place", "path", "change", "cell"] ["self", "changes"] (defScope s_Watcher_touched) := ⟨rfl, rfl, rfl, by decide +kernel, rfl, by decide +kernel, by decide +kernel⟩
theorem ok_Watcher_touched {f : Addr} {fd : FuncData} (F : Fun K "touched" "Watcher.touched" s_Watcher_touched f fd) (c_Watcher : Cls K C_Watcher) (n_Watcher_paths : NoAttr K C_Watcher (PySem.Str.ofString "paths")) (n_Watcher_state : NoAttr K C_Watcher (PySem.Str.ofString "state")) (k_cells_of : CalF P w K mg base "cells_of" 3 2 ["state", "path"] (sp_cells_of C_State)) (b_enumerate : mg "enumerate" = none) : FnOk P w K mg base CX0 4 f fd ["self", "changes"] (lSp ⟨P, w, K⟩ 2 (sp_Watcher_touched C_State C_Watcher)) :=
  fn_ok (t := t_Watcher_touched C_State C_Watcher) F sc_Watcher_touched (fun X hX hr => by
    have hu := hr.units
    have hu2 : X.A.units + 65 < cLine := by have := hr.un; omega
    have nd : (["self", "changes", "cells", "found", "place", "path", "change", "cell"] : List Str).Nodup := sc_Watcher_touched.nd
    obtain ⟨cdv, A, outer, s, H, E, rfl⟩ := hX
    exact (qs_cons (by first | exact (qs_set 2 nd (qe_lc [("change", 6)] rfl nd (qi_list (qe_var 1)) (blk_of (N := ["self", "changes", "cells", "found", "place", "path", "change", "cell"]) (sc := defScope s_Watcher_touched) (by decide +kernel)) (fun s H C cl fp => (qg_name 6 nd)) (fun s H C cl fp => qts_nil) (fun s H C cl fp => (qe_tup (qa_cons (qe_ix (o_ix hu) (qe_var 6) qe_int) (qa_cons (qe_ix (o_ix hu) (qe_var 6) qe_int) qa_nil)))))) | exact (qs_setLc 2 [("change", 6)] rfl nd (qi_list (qe_var 1)) (blk_of (N := ["self", "changes", "cells", "found", "place", "path", "change", "cell"]) (sc := defScope s_Watcher_touched) (by decide +kernel)) (fun s H C cl fp => (qg_name 6 nd)) (fun s H C cl fp => qts_nil) (fun s H C cl fp => (qe_tup (qa_cons (qe_ix (o_ix hu) (qe_var 6) qe_int) (qa_cons (qe_ix (o_ix hu) (qe_var 6) qe_int) qa_nil)))) rfl))
      (qs_cons (qs_set 3 nd (qe_lst qa_nil))
      (qs_cons (qs_for (vs := [4, 5]) PassesOwn.never rfl (qi_enum b_enumerate (qa_cons (qe_fld "paths" c_Watcher n_Watcher_paths (qe_var 0)) qa_nil)) (qg_tup rfl (qgs_cons (qg_name 4 nd) (qgs_cons (qg_name 5 nd) qgs_nil)) (len_name (len_name len_nil))) (qs_one (qs_if (qt_truth (qe_lc [("cell", 7)] rfl nd (qi_list (qe_calF k_cells_of (hr.mono (by decide)) (qa_cons (qe_fld "state" c_Watcher n_Watcher_state (qe_var 0)) (qa_cons (qe_var 5) qa_nil)))) (blk_of (N := ["self", "changes", "cells", "found", "place", "path", "change", "cell"]) (sc := defScope s_Watcher_touched) (by decide +kernel)) (fun s H C cl fp => (qg_name 7 nd)) (fun s H C cl fp => (qts_one (qt_cmp (o_in hu2) (qe_var 7) (qe_var 2)))) (fun s H C cl fp => (qe_var 7)))) (qs_one (qs_expr (qe_append (qe_var 3) (qa_cons (qe_var 4) qa_nil)))) qs_nil)))
      (qs_one (qs_ret (qe_var 3))))))) q_Watcher_touched
theorem sc__law_local : FnScope ["_law_state_here", "_law_cells_here", "_law_later", "_law_after", "_law_paths_here", "_law_path", "_law_asked", "_law_moved", "_law_key"] ["_law_state_here", "_law_cells_here", "_law_later", "_law_after", "_law_paths_here"] (defScope s__law_local) := ⟨rfl, rfl, rfl, by decide +kernel, rfl, by decide +kernel, by decide +kernel⟩
theorem ok__law_local {f : Addr} {fd : FuncData} (F : Fun K "_law_local" "_law_local" s__law_local f fd) (k__law_walk : CalF P w K mg base "_law_walk" 2 2 ["_law_cells_here", "_law_path"] sp__law_walk) (k__law_same : CalG P w K mg base "_law_same" 1 2 ["_law_one", "_law_other"] sp__law_same) (k_value_at : CalF P w K mg base "value_at" 3 2 ["state", "path"] (sp_value_at C_State)) (k_State_value : MetF P w K mg base C_State "value" 1 3 ["self", "name", "field"] (sp_State_value C_State)) : FnG P w K mg base 4 f fd ["_law_state_here", "_law_cells_here", "_law_later", "_law_after", "_law_paths_here"] (lSp ⟨P, w, K⟩ 5 (sp__law_local C_State)) :=
  fn_okG (t := t__law_local C_State) F sc__law_local (fun X hX hr => by
    have hu := hr.units
    have hu2 : X.A.units + 65 < cLine := by have := hr.un; omega
    have nd : (["_law_state_here", "_law_cells_here", "_law_later", "_law_after", "_law_paths_here", "_law_path", "_law_asked", "_law_moved", "_law_key"] : List Str).Nodup := sc__law_local.nd
    obtain ⟨cdv, A, outer, s, H, E, gd, rfl⟩ := hX
    exact (qs_cons (qs_for (vs := [5]) PassesOwn.never rfl (qi_list (qe_var 4)) (qg_name 5 nd) (qs_cons (qs_set 6 nd (qe_ix (o_ix hu) (qe_calF k__law_walk (hr.mono (by decide)) (qa_cons (qe_var 1) (qa_cons (qe_var 5) qa_nil))) qe_int))
      (qs_cons (by first | exact (qs_set 7 nd (qe_lc [("_law_key", 8)] rfl nd (qi_list (qe_var 6)) (blk_of (N := ["_law_state_here", "_law_cells_here", "_law_later", "_law_after", "_law_paths_here", "_law_path", "_law_asked", "_law_moved", "_law_key"]) (sc := defScope s__law_local) (by decide +kernel)) (fun s H C cl fp => (qg_name 8 nd)) (fun s H C cl fp => (qts_one (qt_not (qt_truth (qe_calG k__law_same gd (hr.mono (by decide)) (qa_cons (qe_metF "value" k_State_value (hr.mono (by decide)) (qe_var 0) (qa_cons (qe_ix (o_ix hu) (qe_var 8) qe_int) (qa_cons (qe_ix (o_ix hu) (qe_var 8) qe_int) qa_nil))) (qa_cons (qe_metF "value" k_State_value (hr.mono (by decide)) (qe_var 2) (qa_cons (qe_ix (o_ix hu) (qe_var 8) qe_int) (qa_cons (qe_ix (o_ix hu) (qe_var 8) qe_int) qa_nil))) qa_nil))))))) (fun s H C cl fp => (qe_var 8)))) | exact (qs_setLc 7 [("_law_key", 8)] rfl nd (qi_list (qe_var 6)) (blk_of (N := ["_law_state_here", "_law_cells_here", "_law_later", "_law_after", "_law_paths_here", "_law_path", "_law_asked", "_law_moved", "_law_key"]) (sc := defScope s__law_local) (by decide +kernel)) (fun s H C cl fp => (qg_name 8 nd)) (fun s H C cl fp => (qts_one (qt_not (qt_truth (qe_calG k__law_same gd (hr.mono (by decide)) (qa_cons (qe_metF "value" k_State_value (hr.mono (by decide)) (qe_var 0) (qa_cons (qe_ix (o_ix hu) (qe_var 8) qe_int) (qa_cons (qe_ix (o_ix hu) (qe_var 8) qe_int) qa_nil))) (qa_cons (qe_metF "value" k_State_value (hr.mono (by decide)) (qe_var 2) (qa_cons (qe_ix (o_ix hu) (qe_var 8) qe_int) (qa_cons (qe_ix (o_ix hu) (qe_var 8) qe_int) qa_nil))) qa_nil))))))) (fun s H C cl fp => (qe_var 8)) rfl))
      (qs_one (qs_if (qt_w (qw_and (qt_cmp (o_eq hu) (qe_var 7) (qe_lst qa_nil)) (qw_and1 (qt_not (qt_truth (qe_calG k__law_same gd (hr.mono (by decide)) (qa_cons (qe_calF k_value_at (hr.mono (by decide)) (qa_cons (qe_var 2) (qa_cons (qe_var 5) qa_nil))) (qa_cons (qe_calF k_value_at (hr.mono (by decide)) (qa_cons (qe_var 0) (qa_cons (qe_var 5) qa_nil))) qa_nil)))))))) (qs_one (qs_ret qe_bl)) qs_nil)))))
      (qs_one (qs_ret qe_bl)))) q__law_local
theorem sc__law_news : FnScope ["_law_paths_here", "_law_told", "_law_cells_here", "_law_found", "_law_k", "_law_value"] ["_law_paths_here", "_law_told", "_law_cells_here"] (defScope s__law_news) := ⟨rfl, rfl, rfl, by decide +kernel, rfl, by decide +kernel, by decide +kernel⟩
theorem ok__law_news {f : Addr} {fd : FuncData} (F : Fun K "_law_news" "_law_news" s__law_news f fd) (k__law_walk : CalF P w K mg base "_law_walk" 2 2 ["_law_cells_here", "_law_path"] sp__law_walk) (k__law_same : CalG P w K mg base "_law_same" 1 2 ["_law_one", "_law_other"] sp__law_same) (b_range : mg "range" = none) (b_len : mg "len" = none) : FnG P w K mg base 3 f fd ["_law_paths_here", "_law_told", "_law_cells_here"] (lSp ⟨P, w, K⟩ 3 sp__law_news) :=
  fn_okG (t := t__law_news) F sc__law_news (fun X hX hr => by
    have hu := hr.units
    have hu2 : X.A.units + 65 < cLine := by have := hr.un; omega
    have nd : (["_law_paths_here", "_law_told", "_law_cells_here", "_law_found", "_law_k", "_law_value"] : List Str).Nodup := sc__law_news.nd
    obtain ⟨cdv, A, outer, s, H, E, gd, rfl⟩ := hX
    exact (qs_cons (qs_set 3 nd (qe_lst qa_nil))
      (qs_cons (qs_for (vs := [4]) PassesOwn.never rfl (qi_range1 b_range (qa_cons (qe_callB (o_len hu) rfl b_len (by decide +kernel) (qa_cons (qe_var 1) qa_nil)) qa_nil)) (qg_name 4 nd) (qs_cons (qs_set 5 nd (qe_ix (o_ix hu) (qe_calF k__law_walk (hr.mono (by decide)) (qa_cons (qe_var 2) (qa_cons (qe_ix (o_ix hu) (qe_var 0) (qe_var 4)) qa_nil))) qe_int))
      (qs_one (qs_if (qt_not (qt_truth (qe_calG k__law_same gd (hr.mono (by decide)) (qa_cons (qe_var 5) (qa_cons (qe_ix (o_ix hu) (qe_var 1) (qe_var 4)) qa_nil))))) (qs_cons (qs_expr (qe_append (qe_var 3) (qa_cons (qe_tup (qa_cons (qe_ix (o_ix hu) (qe_var 0) (qe_var 4)) (qa_cons (qe_ix (o_ix hu) (qe_var 1) (qe_var 4)) (qa_cons (qe_var 5) qa_nil)))) qa_nil)))
      (qs_one (qs_sub (o_st hu) (qe_var 5) (qe_var 1) (qe_var 4)))) qs_nil))))
      (qs_one (qs_ret (qe_var 3)))))) q__law_news
theorem sc_Watcher_news : FnScope ["self", "state", "found", "place", "path", "value"] ["self", "state"] (defScope s_Watcher_news) := ⟨rfl, rfl, rfl, by decide +kernel, rfl, by decide +kernel, by decide +kernel⟩
theorem ok_Watcher_news {f : Addr} {fd : FuncData} (F : Fun K "news" "Watcher.news" s_Watcher_news f fd) (c_Watcher : Cls K C_Watcher) (n_Watcher_paths : NoAttr K C_Watcher (PySem.Str.ofString "paths")) (n_Watcher_told : NoAttr K C_Watcher (PySem.Str.ofString "told")) (n_Watcher_state : NoAttr K C_Watcher (PySem.Str.ofString "state")) (k_value_at : CalF P w K mg base "value_at" 3 2 ["state", "path"] (sp_value_at C_State)) (b_enumerate : mg "enumerate" = none) (b_list : mg "list" = none) : FnOk P w K mg base CX0 4 f fd ["self", "state"] (lSp ⟨P, w, K⟩ 2 (sp_Watcher_news C_State C_Watcher)) :=
  fn_ok (t := t_Watcher_news C_State C_Watcher) F sc_Watcher_news (fun X hX hr => by
    have hu := hr.units
    have hu2 : X.A.units + 65 < cLine := by have := hr.un; omega
    have nd : (["self", "state", "found", "place", "path", "value"] : List Str).Nodup := sc_Watcher_news.nd
    obtain ⟨cdv, A, outer, s, H, E, rfl⟩ := hX
    exact (qs_cons (qs_set 2 nd (qe_lst qa_nil))
      (qs_cons (qs_for (vs := [3, 4]) PassesOwn.never rfl (qi_enum b_enumerate (qa_cons (qe_fld "paths" c_Watcher n_Watcher_paths (qe_var 0)) qa_nil)) (qg_tup rfl (qgs_cons (qg_name 3 nd) (qgs_cons (qg_name 4 nd) qgs_nil)) (len_name (len_name len_nil))) (qs_cons (qs_set 5 nd (qe_calF k_value_at (hr.mono (by decide)) (qa_cons (qe_var 1) (qa_cons (qe_var 4) qa_nil))))
      (qs_one (qs_if (qt_cmp (o_ne hu) (qe_var 5) (qe_ix (o_ix hu) (qe_fld "told" c_Watcher n_Watcher_told (qe_var 0)) (qe_var 3))) (qs_cons (qs_expr (qe_append (qe_var 2) (qa_cons (qe_tup (qa_cons (qe_callTy c_listOf rfl b_list (by decide +kernel) (qa_cons (qe_var 4) qa_nil)) (qa_cons (qe_ix (o_ix hu) (qe_fld "told" c_Watcher n_Watcher_told (qe_var 0)) (qe_var 3)) (qa_cons (qe_var 5) qa_nil)))) qa_nil)))
      (qs_one (qs_sub (o_st hu) (qe_var 5) (qe_fld "told" c_Watcher n_Watcher_told (qe_var 0)) (qe_var 3)))) qs_nil))))
      (qs_cons (qs_fld "state" c_Watcher n_Watcher_state (qe_var 0) (qe_var 1))
      (qs_one (qs_ret (qe_var 2))))))) q_Watcher_news
theorem sc_law : FnScope ["_law_script", "_law_box_here", "_law_paths_here", "_law_changes", "_law_cells_here", "_law_state_here", "_law_watcher", "_law_told", "_law_step", "_law_more_here", "_law_path", "_law_fresh", "_law_later", "_law_after"] ["_law_script"] (defScope s_law) := ⟨rfl, rfl, rfl, by decide +kernel, rfl, by decide +kernel, by decide +kernel⟩
theorem ok_law {f : Addr} {fd : FuncData} (F : Fun K "law" "law" s_law f fd) (k__law_box : CalF P w K mg base "_law_box" 2 3 ["_law_script", "_law_first", "_law_last"] sp__law_box) (k__law_paths : CalF P w K mg base "_law_paths" 2 1 ["_law_box_here"] sp__law_paths) (k__law_more : CalF P w K mg base "_law_more" 4 2 ["_law_box_here", "_law_clock"] sp__law_more) (k__law_cells : CalF P w K mg base "_law_cells" 1 1 ["_law_changes"] sp__law_cells) (k__law_state : CalF P w K mg base "_law_state" 3 1 ["_law_changes"] (sp__law_state C_State)) (k__law_draw : CalF P w K mg base "_law_draw" 1 2 ["_law_box_here", "_law_many"] sp__law_draw) (k__law_walk : CalF P w K mg base "_law_walk" 2 2 ["_law_cells_here", "_law_path"] sp__law_walk) (k__law_same : CalG P w K mg base "_law_same" 1 2 ["_law_one", "_law_other"] sp__law_same) (k__law_right : CalG P w K mg base "_law_right" 4 3 ["_law_state_here", "_law_cells_here", "_law_paths_here"] (sp__law_right C_State)) (k__law_touched : CalF P w K mg base "_law_touched" 3 4 ["_law_paths_here", "_law_many", "_law_cells_here", "_law_changes"] sp__law_touched) (k__law_local : CalG P w K mg base "_law_local" 4 5 ["_law_state_here", "_law_cells_here", "_law_later", "_law_after", "_law_paths_here"] (sp__law_local C_State)) (k__law_news : CalG P w K mg base "_law_news" 3 3 ["_law_paths_here", "_law_told", "_law_cells_here"] sp__law_news) (k_Watcher___init__ : MakF P w K mg base C_Watcher "Watcher" 1 2 ["self", "state"] (sp_Watcher___init__ C_Watcher)) (k_Watcher_watch : MetF P w K mg base C_Watcher "watch" 4 2 ["self", "path"] (sp_Watcher_watch C_State C_Watcher)) (k_Watcher_touched : MetF P w K mg base C_Watcher "touched" 4 2 ["self", "changes"] (sp_Watcher_touched C_State C_Watcher)) (k_Watcher_news : MetF P w K mg base C_Watcher "news" 4 2 ["self", "state"] (sp_Watcher_news C_State C_Watcher)) (b_range : mg "range" = none) (b_len : mg "len" = none) (b_list : mg "list" = none) : FnG P w K mg base 5 f fd ["_law_script"] (lSp ⟨P, w, K⟩ 1 sp_law) :=
  fn_okG (t := t_law C_State C_Watcher) F sc_law (fun X hX hr => by
    have hu := hr.units
    have hu2 : X.A.units + 65 < cLine := by have := hr.un; omega
    have nd : (["_law_script", "_law_box_here", "_law_paths_here", "_law_changes", "_law_cells_here", "_law_state_here", "_law_watcher", "_law_told", "_law_step", "_law_more_here", "_law_path", "_law_fresh", "_law_later", "_law_after"] : List Str).Nodup := sc_law.nd
    obtain ⟨cdv, A, outer, s, H, E, gd, rfl⟩ := hX
    exact (qs_cons (qs_set 1 nd (qe_calF k__law_box (hr.mono (by decide)) (qa_cons (qe_var 0) (qa_cons qe_int (qa_cons qe_int qa_nil)))))
      (qs_cons (qs_set 2 nd (qe_calF k__law_paths (hr.mono (by decide)) (qa_cons (qe_var 1) qa_nil)))
      (qs_cons (qs_set 3 nd (qe_op d_add (qe_calF k__law_more (hr.mono (by decide)) (qa_cons (qe_var 1) (qa_cons qe_int qa_nil))) (qe_calF k__law_more (hr.mono (by decide)) (qa_cons (qe_var 1) (qa_cons qe_int qa_nil)))))
      (qs_cons (qs_set 4 nd (qe_calF k__law_cells (hr.mono (by decide)) (qa_cons (qe_var 3) qa_nil)))
      (qs_cons (qs_set 5 nd (qe_calF k__law_state (hr.mono (by decide)) (qa_cons (qe_var 3) qa_nil)))
      (qs_cons (qs_set 6 nd (qe_makF k_Watcher___init__ (hr.mono (by decide)) (qa_cons (qe_var 5) qa_nil)))
      (qs_cons (qs_set 7 nd (qe_lst qa_nil))
      (qs_cons (qs_for (vs := [8]) PassesOwn.never rfl (qi_range1 b_range (qa_cons qe_int qa_nil)) (qg_name 8 nd) (qs_cons (qs_set 9 nd (qe_if (qt_cmp (o_lt hu) (qe_var 8) qe_int) (qe_op d_add (qe_callB (o_len hu) rfl b_len (by decide +kernel) (qa_cons (qe_var 7) qa_nil)) (qe_calF k__law_draw (hr.mono (by decide)) (qa_cons (qe_var 1) (qa_cons (qe_op d_add (qe_op d_sub (qe_callB (o_len hu) rfl b_len (by decide +kernel) (qa_cons (qe_var 2) qa_nil)) (qe_callB (o_len hu) rfl b_len (by decide +kernel) (qa_cons (qe_var 7) qa_nil))) qe_int) qa_nil)))) (qe_callB (o_len hu) rfl b_len (by decide +kernel) (qa_cons (qe_var 2) qa_nil))))
      (qs_cons (qs_for (vs := [10]) PassesOwn.never rfl (qi_list (qe_slice (qe_var 2) (qo_some (qe_callB (o_len hu) rfl b_len (by decide +kernel) (qa_cons (qe_var 7) qa_nil))) (qo_some (qe_var 9)))) (qg_name 10 nd) (qs_cons (qs_expr (qe_append (qe_var 7) (qa_cons (qe_ix (o_ix hu) (qe_calF k__law_walk (hr.mono (by decide)) (qa_cons (qe_var 4) (qa_cons (qe_var 10) qa_nil))) qe_int) qa_nil)))
      (qs_one (qs_if (qt_not (qt_truth (qe_calG k__law_same gd (hr.mono (by decide)) (qa_cons (qe_metF "watch" k_Watcher_watch (hr.mono (by decide)) (qe_var 6) (qa_cons (qe_callTy c_listOf rfl b_list (by decide +kernel) (qa_cons (qe_var 10) qa_nil)) qa_nil)) (qa_cons (qe_ix (o_ix hu) (qe_var 7) (qe_un d_neg qe_int)) qa_nil))))) (qs_one (qs_ret qe_bl)) qs_nil))))
      (qs_cons (qs_if (qt_not (qt_truth (qe_calG k__law_right gd (hr.mono (by decide)) (qa_cons (qe_var 5) (qa_cons (qe_var 4) (qa_cons (qe_var 2) qa_nil)))))) (qs_one (qs_ret qe_bl)) qs_nil)
      (qs_cons (qs_set 11 nd (qe_calF k__law_more (hr.mono (by decide)) (qa_cons (qe_var 1) (qa_cons (qe_op d_add qe_int (qe_op d_mul qe_int (qe_var 8))) qa_nil))))
      (qs_cons (qs_if (qt_not (qt_truth (qe_calG k__law_same gd (hr.mono (by decide)) (qa_cons (qe_metF "touched" k_Watcher_touched (hr.mono (by decide)) (qe_var 6) (qa_cons (qe_var 11) qa_nil)) (qa_cons (qe_calF k__law_touched (hr.mono (by decide)) (qa_cons (qe_var 2) (qa_cons (qe_callB (o_len hu) rfl b_len (by decide +kernel) (qa_cons (qe_var 7) qa_nil)) (qa_cons (qe_var 4) (qa_cons (qe_var 11) qa_nil))))) qa_nil))))) (qs_one (qs_ret qe_bl)) qs_nil)
      (qs_cons (qs_set 3 nd (qe_op d_add (qe_var 3) (qe_var 11)))
      (qs_cons (qs_set 12 nd (qe_calF k__law_state (hr.mono (by decide)) (qa_cons (qe_var 3) qa_nil)))
      (qs_cons (qs_set 13 nd (qe_calF k__law_cells (hr.mono (by decide)) (qa_cons (qe_var 3) qa_nil)))
      (qs_cons (qs_if (qt_not (qt_truth (qe_calG k__law_local gd (hr.mono (by decide)) (qa_cons (qe_var 5) (qa_cons (qe_var 4) (qa_cons (qe_var 12) (qa_cons (qe_var 13) (qa_cons (qe_var 2) qa_nil)))))))) (qs_one (qs_ret qe_bl)) qs_nil)
      (qs_cons (qs_if (qt_w (qw_or (qt_not (qt_truth (qe_calG k__law_same gd (hr.mono (by decide)) (qa_cons (qe_metF "news" k_Watcher_news (hr.mono (by decide)) (qe_var 6) (qa_cons (qe_var 12) qa_nil)) (qa_cons (qe_calG k__law_news gd (hr.mono (by decide)) (qa_cons (qe_var 2) (qa_cons (qe_var 7) (qa_cons (qe_var 13) qa_nil)))) qa_nil))))) (qw_or1 (qt_not (qt_truth (qe_calG k__law_same gd (hr.mono (by decide)) (qa_cons (qe_metF "news" k_Watcher_news (hr.mono (by decide)) (qe_var 6) (qa_cons (qe_var 12) qa_nil)) (qa_cons (qe_lst qa_nil) qa_nil)))))))) (qs_one (qs_ret qe_bl)) qs_nil)
      (qs_cons (qs_set 5 nd (qe_var 12))
      (qs_one (qs_set 4 nd (qe_var 13)))))))))))))))
      (qs_one (qs_ret qe_bl))))))))))) q_law
end
theorem all_mk {l : PySem.W.OpenLaw} {w : World} {K : PySem.W.Frag} {h : Heap} {mg : Str → Option Value} {fa C_State C_Watcher f__law_row f__law_cell f__law_box f__law_draw f__law_paths f__law_pick f__law_worth f__law_more f__law_cells f_State___init__ f_is_later f_State_take f__law_state f_Watcher___init__ f__law_target f__law_walk f__law_same f_reference f_target_of f_State_value f_follow f_value_at f_Watcher_watch f__law_once f_cells_of f__law_right f__law_touched f_Watcher_touched f__law_local f__law_news f_Watcher_news f_law : Addr} (X : K.In h) (G : h.Ns mainGlobals mg) (hfa : mg "law" = some (.ref fa))
    {tg_REF tk0_ROOT tk1_ROOT : _}
    {ga_ROOT : Addr} {gd_ROOT : Option Addr} {gn_ROOT : Nat} {gs_ROOT : Array (Option Value)}
    {oc__law_row kV__law_row dc__law_row pm__law_row cd__law_row ct__law_row : Value} {od__law_row an__law_row : Option Addr} {sl__law_row : Array (Option Value)}
    {oc__law_cell kV__law_cell dc__law_cell pm__law_cell cd__law_cell ct__law_cell : Value} {od__law_cell an__law_cell : Option Addr} {sl__law_cell : Array (Option Value)}
    {oc__law_box kV__law_box dc__law_box pm__law_box cd__law_box ct__law_box : Value} {od__law_box an__law_box : Option Addr} {sl__law_box : Array (Option Value)}
    {oc__law_draw kV__law_draw dc__law_draw pm__law_draw cd__law_draw ct__law_draw : Value} {od__law_draw an__law_draw : Option Addr} {sl__law_draw : Array (Option Value)}
    {oc__law_paths kV__law_paths dc__law_paths pm__law_paths cd__law_paths ct__law_paths : Value} {od__law_paths an__law_paths : Option Addr} {sl__law_paths : Array (Option Value)}
    {oc__law_pick kV__law_pick dc__law_pick pm__law_pick cd__law_pick ct__law_pick : Value} {od__law_pick an__law_pick : Option Addr} {sl__law_pick : Array (Option Value)}
    {oc__law_worth kV__law_worth dc__law_worth pm__law_worth cd__law_worth ct__law_worth : Value} {od__law_worth an__law_worth : Option Addr} {sl__law_worth : Array (Option Value)}
    {oc__law_more kV__law_more dc__law_more pm__law_more cd__law_more ct__law_more : Value} {od__law_more an__law_more : Option Addr} {sl__law_more : Array (Option Value)}
    {oc__law_cells kV__law_cells dc__law_cells pm__law_cells cd__law_cells ct__law_cells : Value} {od__law_cells an__law_cells : Option Addr} {sl__law_cells : Array (Option Value)}
    {oc_State___init__ kV_State___init__ dc_State___init__ pm_State___init__ cd_State___init__ ct_State___init__ : Value} {od_State___init__ an_State___init__ : Option Addr} {sl_State___init__ : Array (Option Value)}
    {oc_is_later kV_is_later dc_is_later pm_is_later cd_is_later ct_is_later : Value} {od_is_later an_is_later : Option Addr} {sl_is_later : Array (Option Value)}
    {oc_State_take kV_State_take dc_State_take pm_State_take cd_State_take ct_State_take : Value} {od_State_take an_State_take : Option Addr} {sl_State_take : Array (Option Value)}
    {oc__law_state kV__law_state dc__law_state pm__law_state cd__law_state ct__law_state : Value} {od__law_state an__law_state : Option Addr} {sl__law_state : Array (Option Value)}
    {oc_Watcher___init__ kV_Watcher___init__ dc_Watcher___init__ pm_Watcher___init__ cd_Watcher___init__ ct_Watcher___init__ : Value} {od_Watcher___init__ an_Watcher___init__ : Option Addr} {sl_Watcher___init__ : Array (Option Value)}
    {oc__law_target kV__law_target dc__law_target pm__law_target cd__law_target ct__law_target : Value} {od__law_target an__law_target : Option Addr} {sl__law_target : Array (Option Value)}
    {oc__law_walk kV__law_walk dc__law_walk pm__law_walk cd__law_walk ct__law_walk : Value} {od__law_walk an__law_walk : Option Addr} {sl__law_walk : Array (Option Value)}
    {oc__law_same kV__law_same dc__law_same pm__law_same cd__law_same ct__law_same : Value} {od__law_same an__law_same : Option Addr} {sl__law_same : Array (Option Value)}
    {oc_reference kV_reference dc_reference pm_reference cd_reference ct_reference : Value} {od_reference an_reference : Option Addr} {sl_reference : Array (Option Value)}
    {oc_target_of kV_target_of dc_target_of pm_target_of cd_target_of ct_target_of : Value} {od_target_of an_target_of : Option Addr} {sl_target_of : Array (Option Value)}
    {oc_State_value kV_State_value dc_State_value pm_State_value cd_State_value ct_State_value : Value} {od_State_value an_State_value : Option Addr} {sl_State_value : Array (Option Value)}
    {oc_follow kV_follow dc_follow pm_follow cd_follow ct_follow : Value} {od_follow an_follow : Option Addr} {sl_follow : Array (Option Value)}
    {oc_value_at kV_value_at dc_value_at pm_value_at cd_value_at ct_value_at : Value} {od_value_at an_value_at : Option Addr} {sl_value_at : Array (Option Value)}
    {oc_Watcher_watch kV_Watcher_watch dc_Watcher_watch pm_Watcher_watch cd_Watcher_watch ct_Watcher_watch : Value} {od_Watcher_watch an_Watcher_watch : Option Addr} {sl_Watcher_watch : Array (Option Value)}
    {oc__law_once kV__law_once dc__law_once pm__law_once cd__law_once ct__law_once : Value} {od__law_once an__law_once : Option Addr} {sl__law_once : Array (Option Value)}
    {oc_cells_of kV_cells_of dc_cells_of pm_cells_of cd_cells_of ct_cells_of : Value} {od_cells_of an_cells_of : Option Addr} {sl_cells_of : Array (Option Value)}
    {oc__law_right kV__law_right dc__law_right pm__law_right cd__law_right ct__law_right : Value} {od__law_right an__law_right : Option Addr} {sl__law_right : Array (Option Value)}
    {oc__law_touched kV__law_touched dc__law_touched pm__law_touched cd__law_touched ct__law_touched : Value} {od__law_touched an__law_touched : Option Addr} {sl__law_touched : Array (Option Value)}
    {oc_Watcher_touched kV_Watcher_touched dc_Watcher_touched pm_Watcher_touched cd_Watcher_touched ct_Watcher_touched : Value} {od_Watcher_touched an_Watcher_touched : Option Addr} {sl_Watcher_touched : Array (Option Value)}
    {oc__law_local kV__law_local dc__law_local pm__law_local cd__law_local ct__law_local : Value} {od__law_local an__law_local : Option Addr} {sl__law_local : Array (Option Value)}
    {oc__law_news kV__law_news dc__law_news pm__law_news cd__law_news ct__law_news : Value} {od__law_news an__law_news : Option Addr} {sl__law_news : Array (Option Value)}
    {oc_Watcher_news kV_Watcher_news dc_Watcher_news pm_Watcher_news cd_Watcher_news ct_Watcher_news : Value} {od_Watcher_news an_Watcher_news : Option Addr} {sl_Watcher_news : Array (Option Value)}
    {oc_law kV_law dc_law pm_law cd_law ct_law : Value} {od_law an_law : Option Addr} {sl_law : Array (Option Value)}
    (aC_State : PySem.W.nsIn K mainGlobals "State" = some (some (.ref C_State)))
    (pg_State : PySem.W.plainGet K C_State Str.empty = true)
    (hd_State : PySem.W.hasDictIn K C_State = true)
    (po_State : PySem.W.plainOver K C_State = true)
    (sa_State : PySem.W.findIn K (.ref C_State) "__setattr__" = some (some (.builtin "object.__setattr__")))
    (mk_State : PySem.W.makesIn K C_State = true)
    (kc_State : PySem.W.keepIn K (.ref C_State) = true)
    (aC_Watcher : PySem.W.nsIn K mainGlobals "Watcher" = some (some (.ref C_Watcher)))
    (pg_Watcher : PySem.W.plainGet K C_Watcher Str.empty = true)
    (hd_Watcher : PySem.W.hasDictIn K C_Watcher = true)
    (po_Watcher : PySem.W.plainOver K C_Watcher = true)
    (sa_Watcher : PySem.W.findIn K (.ref C_Watcher) "__setattr__" = some (some (.builtin "object.__setattr__")))
    (mk_Watcher : PySem.W.makesIn K C_Watcher = true)
    (kc_Watcher : PySem.W.keepIn K (.ref C_Watcher) = true)
    (n_State_cells : PySem.W.findIn K (.ref C_State) (PySem.Str.ofString "cells") = some none)
    (n_Watcher_paths : PySem.W.findIn K (.ref C_Watcher) (PySem.Str.ofString "paths") = some none)
    (n_Watcher_state : PySem.W.findIn K (.ref C_Watcher) (PySem.Str.ofString "state") = some none)
    (n_Watcher_told : PySem.W.findIn K (.ref C_Watcher) (PySem.Str.ofString "told") = some none)
    (z_enumerate : PySem.W.nsIn K mainGlobals "enumerate" = some none)
    (z_int : PySem.W.nsIn K mainGlobals "int" = some none)
    (z_isinstance : PySem.W.nsIn K mainGlobals "isinstance" = some none)
    (z_len : PySem.W.nsIn K mainGlobals "len" = some none)
    (z_list : PySem.W.nsIn K mainGlobals "list" = some none)
    (z_range : PySem.W.nsIn K mainGlobals "range" = some none)
    (z_repr : PySem.W.nsIn K mainGlobals "repr" = some none)
    (z_tuple : PySem.W.nsIn K mainGlobals "tuple" = some none)
    (w_REF : PySem.W.nsIn K mainGlobals "REF" = some (some (.str ⟨([114, 101, 102] : List Nat).toArray⟩ tg_REF)))
    (w_ROOT : PySem.W.nsIn K mainGlobals "ROOT" = some (some (.ref ga_ROOT)))
    (wl_ROOT : K.lookup ga_ROOT = some ⟨.type "tuple", gd_ROOT, .seq #[.int 0 tk0_ROOT, .int 0 tk1_ROOT] gn_ROOT, gs_ROOT⟩)
    (a__law_row : PySem.W.nsIn K mainGlobals "_law_row" = some (some (.ref f__law_row)))
    (l__law_row : K.lookup f__law_row = some ⟨oc__law_row, od__law_row, .func (PySem.W.fnOf "_law_row" "_law_row" (defArgs s__law_row) (defBody s__law_row) (defScope s__law_row) .none kV__law_row dc__law_row pm__law_row an__law_row cd__law_row ct__law_row), sl__law_row⟩)
    (c__law_row : PySem.W.codeIn K cd__law_row "_law_row" = true)
    (k__law_row : PySem.W.keepIn K (.ref f__law_row) = true)
    (a__law_cell : PySem.W.nsIn K mainGlobals "_law_cell" = some (some (.ref f__law_cell)))
    (l__law_cell : K.lookup f__law_cell = some ⟨oc__law_cell, od__law_cell, .func (PySem.W.fnOf "_law_cell" "_law_cell" (defArgs s__law_cell) (defBody s__law_cell) (defScope s__law_cell) .none kV__law_cell dc__law_cell pm__law_cell an__law_cell cd__law_cell ct__law_cell), sl__law_cell⟩)
    (c__law_cell : PySem.W.codeIn K cd__law_cell "_law_cell" = true)
    (k__law_cell : PySem.W.keepIn K (.ref f__law_cell) = true)
    (a__law_box : PySem.W.nsIn K mainGlobals "_law_box" = some (some (.ref f__law_box)))
    (l__law_box : K.lookup f__law_box = some ⟨oc__law_box, od__law_box, .func (PySem.W.fnOf "_law_box" "_law_box" (defArgs s__law_box) (defBody s__law_box) (defScope s__law_box) .none kV__law_box dc__law_box pm__law_box an__law_box cd__law_box ct__law_box), sl__law_box⟩)
    (c__law_box : PySem.W.codeIn K cd__law_box "_law_box" = true)
    (k__law_box : PySem.W.keepIn K (.ref f__law_box) = true)
    (a__law_draw : PySem.W.nsIn K mainGlobals "_law_draw" = some (some (.ref f__law_draw)))
    (l__law_draw : K.lookup f__law_draw = some ⟨oc__law_draw, od__law_draw, .func (PySem.W.fnOf "_law_draw" "_law_draw" (defArgs s__law_draw) (defBody s__law_draw) (defScope s__law_draw) .none kV__law_draw dc__law_draw pm__law_draw an__law_draw cd__law_draw ct__law_draw), sl__law_draw⟩)
    (c__law_draw : PySem.W.codeIn K cd__law_draw "_law_draw" = true)
    (k__law_draw : PySem.W.keepIn K (.ref f__law_draw) = true)
    (a__law_paths : PySem.W.nsIn K mainGlobals "_law_paths" = some (some (.ref f__law_paths)))
    (l__law_paths : K.lookup f__law_paths = some ⟨oc__law_paths, od__law_paths, .func (PySem.W.fnOf "_law_paths" "_law_paths" (defArgs s__law_paths) (defBody s__law_paths) (defScope s__law_paths) .none kV__law_paths dc__law_paths pm__law_paths an__law_paths cd__law_paths ct__law_paths), sl__law_paths⟩)
    (c__law_paths : PySem.W.codeIn K cd__law_paths "_law_paths" = true)
    (k__law_paths : PySem.W.keepIn K (.ref f__law_paths) = true)
    (a__law_pick : PySem.W.nsIn K mainGlobals "_law_pick" = some (some (.ref f__law_pick)))
    (l__law_pick : K.lookup f__law_pick = some ⟨oc__law_pick, od__law_pick, .func (PySem.W.fnOf "_law_pick" "_law_pick" (defArgs s__law_pick) (defBody s__law_pick) (defScope s__law_pick) .none kV__law_pick dc__law_pick pm__law_pick an__law_pick cd__law_pick ct__law_pick), sl__law_pick⟩)
    (c__law_pick : PySem.W.codeIn K cd__law_pick "_law_pick" = true)
    (k__law_pick : PySem.W.keepIn K (.ref f__law_pick) = true)
    (a__law_worth : PySem.W.nsIn K mainGlobals "_law_worth" = some (some (.ref f__law_worth)))
    (l__law_worth : K.lookup f__law_worth = some ⟨oc__law_worth, od__law_worth, .func (PySem.W.fnOf "_law_worth" "_law_worth" (defArgs s__law_worth) (defBody s__law_worth) (defScope s__law_worth) .none kV__law_worth dc__law_worth pm__law_worth an__law_worth cd__law_worth ct__law_worth), sl__law_worth⟩)
    (c__law_worth : PySem.W.codeIn K cd__law_worth "_law_worth" = true)
    (k__law_worth : PySem.W.keepIn K (.ref f__law_worth) = true)
    (a__law_more : PySem.W.nsIn K mainGlobals "_law_more" = some (some (.ref f__law_more)))
    (l__law_more : K.lookup f__law_more = some ⟨oc__law_more, od__law_more, .func (PySem.W.fnOf "_law_more" "_law_more" (defArgs s__law_more) (defBody s__law_more) (defScope s__law_more) .none kV__law_more dc__law_more pm__law_more an__law_more cd__law_more ct__law_more), sl__law_more⟩)
    (c__law_more : PySem.W.codeIn K cd__law_more "_law_more" = true)
    (k__law_more : PySem.W.keepIn K (.ref f__law_more) = true)
    (a__law_cells : PySem.W.nsIn K mainGlobals "_law_cells" = some (some (.ref f__law_cells)))
    (l__law_cells : K.lookup f__law_cells = some ⟨oc__law_cells, od__law_cells, .func (PySem.W.fnOf "_law_cells" "_law_cells" (defArgs s__law_cells) (defBody s__law_cells) (defScope s__law_cells) .none kV__law_cells dc__law_cells pm__law_cells an__law_cells cd__law_cells ct__law_cells), sl__law_cells⟩)
    (c__law_cells : PySem.W.codeIn K cd__law_cells "_law_cells" = true)
    (k__law_cells : PySem.W.keepIn K (.ref f__law_cells) = true)
    (a_State___init__ : PySem.W.findIn K (.ref C_State) "__init__" = some (some (.ref f_State___init__)))
    (i_State___init__ : PySem.W.isFn K (.ref f_State___init__) = true)
    (l_State___init__ : K.lookup f_State___init__ = some ⟨oc_State___init__, od_State___init__, .func (PySem.W.fnOf "__init__" "State.__init__" (defArgs s_State___init__) (defBody s_State___init__) (defScope s_State___init__) .none kV_State___init__ dc_State___init__ pm_State___init__ an_State___init__ cd_State___init__ ct_State___init__), sl_State___init__⟩)
    (c_State___init__ : PySem.W.codeIn K cd_State___init__ "State.__init__" = true)
    (k_State___init__ : PySem.W.keepIn K (.ref f_State___init__) = true)
    (a_is_later : PySem.W.nsIn K mainGlobals "is_later" = some (some (.ref f_is_later)))
    (l_is_later : K.lookup f_is_later = some ⟨oc_is_later, od_is_later, .func (PySem.W.fnOf "is_later" "is_later" (defArgs s_is_later) (defBody s_is_later) (defScope s_is_later) .none kV_is_later dc_is_later pm_is_later an_is_later cd_is_later ct_is_later), sl_is_later⟩)
    (c_is_later : PySem.W.codeIn K cd_is_later "is_later" = true)
    (k_is_later : PySem.W.keepIn K (.ref f_is_later) = true)
    (a_State_take : PySem.W.findIn K (.ref C_State) "take" = some (some (.ref f_State_take)))
    (i_State_take : PySem.W.isFn K (.ref f_State_take) = true)
    (l_State_take : K.lookup f_State_take = some ⟨oc_State_take, od_State_take, .func (PySem.W.fnOf "take" "State.take" (defArgs s_State_take) (defBody s_State_take) (defScope s_State_take) .none kV_State_take dc_State_take pm_State_take an_State_take cd_State_take ct_State_take), sl_State_take⟩)
    (c_State_take : PySem.W.codeIn K cd_State_take "State.take" = true)
    (k_State_take : PySem.W.keepIn K (.ref f_State_take) = true)
    (a__law_state : PySem.W.nsIn K mainGlobals "_law_state" = some (some (.ref f__law_state)))
    (l__law_state : K.lookup f__law_state = some ⟨oc__law_state, od__law_state, .func (PySem.W.fnOf "_law_state" "_law_state" (defArgs s__law_state) (defBody s__law_state) (defScope s__law_state) .none kV__law_state dc__law_state pm__law_state an__law_state cd__law_state ct__law_state), sl__law_state⟩)
    (c__law_state : PySem.W.codeIn K cd__law_state "_law_state" = true)
    (k__law_state : PySem.W.keepIn K (.ref f__law_state) = true)
    (a_Watcher___init__ : PySem.W.findIn K (.ref C_Watcher) "__init__" = some (some (.ref f_Watcher___init__)))
    (i_Watcher___init__ : PySem.W.isFn K (.ref f_Watcher___init__) = true)
    (l_Watcher___init__ : K.lookup f_Watcher___init__ = some ⟨oc_Watcher___init__, od_Watcher___init__, .func (PySem.W.fnOf "__init__" "Watcher.__init__" (defArgs s_Watcher___init__) (defBody s_Watcher___init__) (defScope s_Watcher___init__) .none kV_Watcher___init__ dc_Watcher___init__ pm_Watcher___init__ an_Watcher___init__ cd_Watcher___init__ ct_Watcher___init__), sl_Watcher___init__⟩)
    (c_Watcher___init__ : PySem.W.codeIn K cd_Watcher___init__ "Watcher.__init__" = true)
    (k_Watcher___init__ : PySem.W.keepIn K (.ref f_Watcher___init__) = true)
    (a__law_target : PySem.W.nsIn K mainGlobals "_law_target" = some (some (.ref f__law_target)))
    (l__law_target : K.lookup f__law_target = some ⟨oc__law_target, od__law_target, .func (PySem.W.fnOf "_law_target" "_law_target" (defArgs s__law_target) (defBody s__law_target) (defScope s__law_target) .none kV__law_target dc__law_target pm__law_target an__law_target cd__law_target ct__law_target), sl__law_target⟩)
    (c__law_target : PySem.W.codeIn K cd__law_target "_law_target" = true)
    (k__law_target : PySem.W.keepIn K (.ref f__law_target) = true)
    (a__law_walk : PySem.W.nsIn K mainGlobals "_law_walk" = some (some (.ref f__law_walk)))
    (l__law_walk : K.lookup f__law_walk = some ⟨oc__law_walk, od__law_walk, .func (PySem.W.fnOf "_law_walk" "_law_walk" (defArgs s__law_walk) (defBody s__law_walk) (defScope s__law_walk) .none kV__law_walk dc__law_walk pm__law_walk an__law_walk cd__law_walk ct__law_walk), sl__law_walk⟩)
    (c__law_walk : PySem.W.codeIn K cd__law_walk "_law_walk" = true)
    (k__law_walk : PySem.W.keepIn K (.ref f__law_walk) = true)
    (a__law_same : PySem.W.nsIn K mainGlobals "_law_same" = some (some (.ref f__law_same)))
    (l__law_same : K.lookup f__law_same = some ⟨oc__law_same, od__law_same, .func (PySem.W.fnOf "_law_same" "_law_same" (defArgs s__law_same) (defBody s__law_same) (defScope s__law_same) .none kV__law_same dc__law_same pm__law_same an__law_same cd__law_same ct__law_same), sl__law_same⟩)
    (c__law_same : PySem.W.codeIn K cd__law_same "_law_same" = true)
    (k__law_same : PySem.W.keepIn K (.ref f__law_same) = true)
    (a_reference : PySem.W.nsIn K mainGlobals "reference" = some (some (.ref f_reference)))
    (l_reference : K.lookup f_reference = some ⟨oc_reference, od_reference, .func (PySem.W.fnOf "reference" "reference" (defArgs s_reference) (defBody s_reference) (defScope s_reference) .none kV_reference dc_reference pm_reference an_reference cd_reference ct_reference), sl_reference⟩)
    (c_reference : PySem.W.codeIn K cd_reference "reference" = true)
    (k_reference : PySem.W.keepIn K (.ref f_reference) = true)
    (a_target_of : PySem.W.nsIn K mainGlobals "target_of" = some (some (.ref f_target_of)))
    (l_target_of : K.lookup f_target_of = some ⟨oc_target_of, od_target_of, .func (PySem.W.fnOf "target_of" "target_of" (defArgs s_target_of) (defBody s_target_of) (defScope s_target_of) .none kV_target_of dc_target_of pm_target_of an_target_of cd_target_of ct_target_of), sl_target_of⟩)
    (c_target_of : PySem.W.codeIn K cd_target_of "target_of" = true)
    (k_target_of : PySem.W.keepIn K (.ref f_target_of) = true)
    (a_State_value : PySem.W.findIn K (.ref C_State) "value" = some (some (.ref f_State_value)))
    (i_State_value : PySem.W.isFn K (.ref f_State_value) = true)
    (l_State_value : K.lookup f_State_value = some ⟨oc_State_value, od_State_value, .func (PySem.W.fnOf "value" "State.value" (defArgs s_State_value) (defBody s_State_value) (defScope s_State_value) .none kV_State_value dc_State_value pm_State_value an_State_value cd_State_value ct_State_value), sl_State_value⟩)
    (c_State_value : PySem.W.codeIn K cd_State_value "State.value" = true)
    (k_State_value : PySem.W.keepIn K (.ref f_State_value) = true)
    (a_follow : PySem.W.nsIn K mainGlobals "follow" = some (some (.ref f_follow)))
    (l_follow : K.lookup f_follow = some ⟨oc_follow, od_follow, .func (PySem.W.fnOf "follow" "follow" (defArgs s_follow) (defBody s_follow) (defScope s_follow) .none kV_follow dc_follow pm_follow an_follow cd_follow ct_follow), sl_follow⟩)
    (c_follow : PySem.W.codeIn K cd_follow "follow" = true)
    (k_follow : PySem.W.keepIn K (.ref f_follow) = true)
    (a_value_at : PySem.W.nsIn K mainGlobals "value_at" = some (some (.ref f_value_at)))
    (l_value_at : K.lookup f_value_at = some ⟨oc_value_at, od_value_at, .func (PySem.W.fnOf "value_at" "value_at" (defArgs s_value_at) (defBody s_value_at) (defScope s_value_at) .none kV_value_at dc_value_at pm_value_at an_value_at cd_value_at ct_value_at), sl_value_at⟩)
    (c_value_at : PySem.W.codeIn K cd_value_at "value_at" = true)
    (k_value_at : PySem.W.keepIn K (.ref f_value_at) = true)
    (a_Watcher_watch : PySem.W.findIn K (.ref C_Watcher) "watch" = some (some (.ref f_Watcher_watch)))
    (i_Watcher_watch : PySem.W.isFn K (.ref f_Watcher_watch) = true)
    (l_Watcher_watch : K.lookup f_Watcher_watch = some ⟨oc_Watcher_watch, od_Watcher_watch, .func (PySem.W.fnOf "watch" "Watcher.watch" (defArgs s_Watcher_watch) (defBody s_Watcher_watch) (defScope s_Watcher_watch) .none kV_Watcher_watch dc_Watcher_watch pm_Watcher_watch an_Watcher_watch cd_Watcher_watch ct_Watcher_watch), sl_Watcher_watch⟩)
    (c_Watcher_watch : PySem.W.codeIn K cd_Watcher_watch "Watcher.watch" = true)
    (k_Watcher_watch : PySem.W.keepIn K (.ref f_Watcher_watch) = true)
    (a__law_once : PySem.W.nsIn K mainGlobals "_law_once" = some (some (.ref f__law_once)))
    (l__law_once : K.lookup f__law_once = some ⟨oc__law_once, od__law_once, .func (PySem.W.fnOf "_law_once" "_law_once" (defArgs s__law_once) (defBody s__law_once) (defScope s__law_once) .none kV__law_once dc__law_once pm__law_once an__law_once cd__law_once ct__law_once), sl__law_once⟩)
    (c__law_once : PySem.W.codeIn K cd__law_once "_law_once" = true)
    (k__law_once : PySem.W.keepIn K (.ref f__law_once) = true)
    (a_cells_of : PySem.W.nsIn K mainGlobals "cells_of" = some (some (.ref f_cells_of)))
    (l_cells_of : K.lookup f_cells_of = some ⟨oc_cells_of, od_cells_of, .func (PySem.W.fnOf "cells_of" "cells_of" (defArgs s_cells_of) (defBody s_cells_of) (defScope s_cells_of) .none kV_cells_of dc_cells_of pm_cells_of an_cells_of cd_cells_of ct_cells_of), sl_cells_of⟩)
    (c_cells_of : PySem.W.codeIn K cd_cells_of "cells_of" = true)
    (k_cells_of : PySem.W.keepIn K (.ref f_cells_of) = true)
    (a__law_right : PySem.W.nsIn K mainGlobals "_law_right" = some (some (.ref f__law_right)))
    (l__law_right : K.lookup f__law_right = some ⟨oc__law_right, od__law_right, .func (PySem.W.fnOf "_law_right" "_law_right" (defArgs s__law_right) (defBody s__law_right) (defScope s__law_right) .none kV__law_right dc__law_right pm__law_right an__law_right cd__law_right ct__law_right), sl__law_right⟩)
    (c__law_right : PySem.W.codeIn K cd__law_right "_law_right" = true)
    (k__law_right : PySem.W.keepIn K (.ref f__law_right) = true)
    (a__law_touched : PySem.W.nsIn K mainGlobals "_law_touched" = some (some (.ref f__law_touched)))
    (l__law_touched : K.lookup f__law_touched = some ⟨oc__law_touched, od__law_touched, .func (PySem.W.fnOf "_law_touched" "_law_touched" (defArgs s__law_touched) (defBody s__law_touched) (defScope s__law_touched) .none kV__law_touched dc__law_touched pm__law_touched an__law_touched cd__law_touched ct__law_touched), sl__law_touched⟩)
    (c__law_touched : PySem.W.codeIn K cd__law_touched "_law_touched" = true)
    (k__law_touched : PySem.W.keepIn K (.ref f__law_touched) = true)
    (a_Watcher_touched : PySem.W.findIn K (.ref C_Watcher) "touched" = some (some (.ref f_Watcher_touched)))
    (i_Watcher_touched : PySem.W.isFn K (.ref f_Watcher_touched) = true)
    (l_Watcher_touched : K.lookup f_Watcher_touched = some ⟨oc_Watcher_touched, od_Watcher_touched, .func (PySem.W.fnOf "touched" "Watcher.touched" (defArgs s_Watcher_touched) (defBody s_Watcher_touched) (defScope s_Watcher_touched) .none kV_Watcher_touched dc_Watcher_touched pm_Watcher_touched an_Watcher_touched cd_Watcher_touched ct_Watcher_touched), sl_Watcher_touched⟩)
    (c_Watcher_touched : PySem.W.codeIn K cd_Watcher_touched "Watcher.touched" = true)
    (k_Watcher_touched : PySem.W.keepIn K (.ref f_Watcher_touched) = true)
    (a__law_local : PySem.W.nsIn K mainGlobals "_law_local" = some (some (.ref f__law_local)))
    (l__law_local : K.lookup f__law_local = some ⟨oc__law_local, od__law_local, .func (PySem.W.fnOf "_law_local" "_law_local" (defArgs s__law_local) (defBody s__law_local) (defScope s__law_local) .none kV__law_local dc__law_local pm__law_local an__law_local cd__law_local ct__law_local), sl__law_local⟩)
    (c__law_local : PySem.W.codeIn K cd__law_local "_law_local" = true)
    (k__law_local : PySem.W.keepIn K (.ref f__law_local) = true)
    (a__law_news : PySem.W.nsIn K mainGlobals "_law_news" = some (some (.ref f__law_news)))
    (l__law_news : K.lookup f__law_news = some ⟨oc__law_news, od__law_news, .func (PySem.W.fnOf "_law_news" "_law_news" (defArgs s__law_news) (defBody s__law_news) (defScope s__law_news) .none kV__law_news dc__law_news pm__law_news an__law_news cd__law_news ct__law_news), sl__law_news⟩)
    (c__law_news : PySem.W.codeIn K cd__law_news "_law_news" = true)
    (k__law_news : PySem.W.keepIn K (.ref f__law_news) = true)
    (a_Watcher_news : PySem.W.findIn K (.ref C_Watcher) "news" = some (some (.ref f_Watcher_news)))
    (i_Watcher_news : PySem.W.isFn K (.ref f_Watcher_news) = true)
    (l_Watcher_news : K.lookup f_Watcher_news = some ⟨oc_Watcher_news, od_Watcher_news, .func (PySem.W.fnOf "news" "Watcher.news" (defArgs s_Watcher_news) (defBody s_Watcher_news) (defScope s_Watcher_news) .none kV_Watcher_news dc_Watcher_news pm_Watcher_news an_Watcher_news cd_Watcher_news ct_Watcher_news), sl_Watcher_news⟩)
    (c_Watcher_news : PySem.W.codeIn K cd_Watcher_news "Watcher.news" = true)
    (k_Watcher_news : PySem.W.keepIn K (.ref f_Watcher_news) = true)
    (a_law : PySem.W.nsIn K mainGlobals "law" = some (some (.ref f_law)))
    (l_law : K.lookup f_law = some ⟨oc_law, od_law, .func (PySem.W.fnOf "law" "law" (defArgs s_law) (defBody s_law) (defScope s_law) .none kV_law dc_law pm_law an_law cd_law ct_law), sl_law⟩)
    (c_law : PySem.W.codeIn K cd_law "law" = true)
    (k_law : PySem.W.keepIn K (.ref f_law) = true)
    : ∃ fd : FuncData, (∀ (s : Shared) (v : Value), BindsTo s fd ⟨[v], []⟩ [("_law_script", v)]) ∧ ∀ base : Heap, K.In base → base.Ns mainGlobals mg → FnG l.prog w K mg base 5 fa fd ["_law_script"] (lSp ⟨l.prog, w, K⟩ 1 sp_law) := by
  have e := hfa.symm.trans (PySem.W.mg_of X G a_law)
  cases e
  have c_State : Cls K C_State := ⟨pg_State, hd_State, po_State, sa_State⟩
  have c_Watcher : Cls K C_Watcher := ⟨pg_Watcher, hd_Watcher, po_Watcher, sa_Watcher⟩
  have b_enumerate : mg "enumerate" = none := PySem.W.mg_none_of X G z_enumerate
  have b_int : mg "int" = none := PySem.W.mg_none_of X G z_int
  have b_isinstance : mg "isinstance" = none := PySem.W.mg_none_of X G z_isinstance
  have b_len : mg "len" = none := PySem.W.mg_none_of X G z_len
  have b_list : mg "list" = none := PySem.W.mg_none_of X G z_list
  have b_range : mg "range" = none := PySem.W.mg_none_of X G z_range
  have b_repr : mg "repr" = none := PySem.W.mg_none_of X G z_repr
  have b_tuple : mg "tuple" = none := PySem.W.mg_none_of X G z_tuple
  have g_REF : GlobD K mg "REF" (.str [114, 101, 102]) := ⟨_, .str ⟨([114, 101, 102] : List Nat).toArray⟩, PySem.W.mg_of X G w_REF, ⟨_, rfl⟩, fun H => ⟨rfl, by decide⟩⟩
  have g_ROOT : GlobD K mg "ROOT" (.tup [.int 0, .int 0]) := globT (vs := [.int 0, .int 0]) (PySem.W.mg_of X G w_ROOT) wl_ROOT (by show 2 ≤ PySem.sizeLine; decide) (.cons ⟨_, rfl⟩ (.cons ⟨_, rfl⟩ .nil)) (fun H => ⟨_, _, rfl, rfl, ⟨_, _, rfl, rfl, rfl⟩⟩)
  have F__law_row := fun_mk (st := s__law_row) l__law_row c__law_row k__law_row
  have B__law_row := F__law_row.binds (ps := ["_law_cell_here", "_law_k", "_law_many"]) fun _ _ _ _ _ _ us hl => match us, hl with | [_, _, _], _ => rfl
  have F__law_cell := fun_mk (st := s__law_cell) l__law_cell c__law_cell k__law_cell
  have B__law_cell := F__law_cell.binds (ps := ["_law_script", "_law_k"]) fun _ _ _ _ _ _ us hl => match us, hl with | [_, _], _ => rfl
  have F__law_box := fun_mk (st := s__law_box) l__law_box c__law_box k__law_box
  have B__law_box := F__law_box.binds (ps := ["_law_script", "_law_first", "_law_last"]) fun _ _ _ _ _ _ us hl => match us, hl with | [_, _, _], _ => rfl
  have F__law_draw := fun_mk (st := s__law_draw) l__law_draw c__law_draw k__law_draw
  have B__law_draw := F__law_draw.binds (ps := ["_law_box_here", "_law_many"]) fun _ _ _ _ _ _ us hl => match us, hl with | [_, _], _ => rfl
  have F__law_paths := fun_mk (st := s__law_paths) l__law_paths c__law_paths k__law_paths
  have B__law_paths := F__law_paths.binds (ps := ["_law_box_here"]) fun _ _ _ _ _ _ us hl => match us, hl with | [_], _ => rfl
  have F__law_pick := fun_mk (st := s__law_pick) l__law_pick c__law_pick k__law_pick
  have B__law_pick := F__law_pick.binds (ps := ["_law_box_here", "_law_row_here"]) fun _ _ _ _ _ _ us hl => match us, hl with | [_, _], _ => rfl
  have F__law_worth := fun_mk (st := s__law_worth) l__law_worth c__law_worth k__law_worth
  have B__law_worth := F__law_worth.binds (ps := ["_law_box_here", "_law_names"]) fun _ _ _ _ _ _ us hl => match us, hl with | [_, _], _ => rfl
  have F__law_more := fun_mk (st := s__law_more) l__law_more c__law_more k__law_more
  have B__law_more := F__law_more.binds (ps := ["_law_box_here", "_law_clock"]) fun _ _ _ _ _ _ us hl => match us, hl with | [_, _], _ => rfl
  have F__law_cells := fun_mk (st := s__law_cells) l__law_cells c__law_cells k__law_cells
  have B__law_cells := F__law_cells.binds (ps := ["_law_changes"]) fun _ _ _ _ _ _ us hl => match us, hl with | [_], _ => rfl
  have F_State___init__ := fun_mk (st := s_State___init__) l_State___init__ c_State___init__ k_State___init__
  have B_State___init__ := F_State___init__.binds (ps := ["self"]) fun _ _ _ _ _ _ us hl => match us, hl with | [_], _ => rfl
  have F_is_later := fun_mk (st := s_is_later) l_is_later c_is_later k_is_later
  have B_is_later := F_is_later.binds (ps := ["stamp", "other"]) fun _ _ _ _ _ _ us hl => match us, hl with | [_, _], _ => rfl
  have F_State_take := fun_mk (st := s_State_take) l_State_take c_State_take k_State_take
  have B_State_take := F_State_take.binds (ps := ["self", "change"]) fun _ _ _ _ _ _ us hl => match us, hl with | [_, _], _ => rfl
  have F__law_state := fun_mk (st := s__law_state) l__law_state c__law_state k__law_state
  have B__law_state := F__law_state.binds (ps := ["_law_changes"]) fun _ _ _ _ _ _ us hl => match us, hl with | [_], _ => rfl
  have F_Watcher___init__ := fun_mk (st := s_Watcher___init__) l_Watcher___init__ c_Watcher___init__ k_Watcher___init__
  have B_Watcher___init__ := F_Watcher___init__.binds (ps := ["self", "state"]) fun _ _ _ _ _ _ us hl => match us, hl with | [_, _], _ => rfl
  have F__law_target := fun_mk (st := s__law_target) l__law_target c__law_target k__law_target
  have B__law_target := F__law_target.binds (ps := ["_law_value"]) fun _ _ _ _ _ _ us hl => match us, hl with | [_], _ => rfl
  have F__law_walk := fun_mk (st := s__law_walk) l__law_walk c__law_walk k__law_walk
  have B__law_walk := F__law_walk.binds (ps := ["_law_cells_here", "_law_path"]) fun _ _ _ _ _ _ us hl => match us, hl with | [_, _], _ => rfl
  have F__law_same := fun_mk (st := s__law_same) l__law_same c__law_same k__law_same
  have B__law_same := F__law_same.binds (ps := ["_law_one", "_law_other"]) fun _ _ _ _ _ _ us hl => match us, hl with | [_, _], _ => rfl
  have F_reference := fun_mk (st := s_reference) l_reference c_reference k_reference
  have B_reference := F_reference.binds (ps := ["name"]) fun _ _ _ _ _ _ us hl => match us, hl with | [_], _ => rfl
  have F_target_of := fun_mk (st := s_target_of) l_target_of c_target_of k_target_of
  have B_target_of := F_target_of.binds (ps := ["value"]) fun _ _ _ _ _ _ us hl => match us, hl with | [_], _ => rfl
  have F_State_value := fun_mk (st := s_State_value) l_State_value c_State_value k_State_value
  have B_State_value := F_State_value.binds (ps := ["self", "name", "field"]) fun _ _ _ _ _ _ us hl => match us, hl with | [_, _, _], _ => rfl
  have F_follow := fun_mk (st := s_follow) l_follow c_follow k_follow
  have B_follow := F_follow.binds (ps := ["state", "path"]) fun _ _ _ _ _ _ us hl => match us, hl with | [_, _], _ => rfl
  have F_value_at := fun_mk (st := s_value_at) l_value_at c_value_at k_value_at
  have B_value_at := F_value_at.binds (ps := ["state", "path"]) fun _ _ _ _ _ _ us hl => match us, hl with | [_, _], _ => rfl
  have F_Watcher_watch := fun_mk (st := s_Watcher_watch) l_Watcher_watch c_Watcher_watch k_Watcher_watch
  have B_Watcher_watch := F_Watcher_watch.binds (ps := ["self", "path"]) fun _ _ _ _ _ _ us hl => match us, hl with | [_, _], _ => rfl
  have F__law_once := fun_mk (st := s__law_once) l__law_once c__law_once k__law_once
  have B__law_once := F__law_once.binds (ps := ["_law_rows"]) fun _ _ _ _ _ _ us hl => match us, hl with | [_], _ => rfl
  have F_cells_of := fun_mk (st := s_cells_of) l_cells_of c_cells_of k_cells_of
  have B_cells_of := F_cells_of.binds (ps := ["state", "path"]) fun _ _ _ _ _ _ us hl => match us, hl with | [_, _], _ => rfl
  have F__law_right := fun_mk (st := s__law_right) l__law_right c__law_right k__law_right
  have B__law_right := F__law_right.binds (ps := ["_law_state_here", "_law_cells_here", "_law_paths_here"]) fun _ _ _ _ _ _ us hl => match us, hl with | [_, _, _], _ => rfl
  have F__law_touched := fun_mk (st := s__law_touched) l__law_touched c__law_touched k__law_touched
  have B__law_touched := F__law_touched.binds (ps := ["_law_paths_here", "_law_many", "_law_cells_here", "_law_changes"]) fun _ _ _ _ _ _ us hl => match us, hl with | [_, _, _, _], _ => rfl
  have F_Watcher_touched := fun_mk (st := s_Watcher_touched) l_Watcher_touched c_Watcher_touched k_Watcher_touched
  have B_Watcher_touched := F_Watcher_touched.binds (ps := ["self", "changes"]) fun _ _ _ _ _ _ us hl => match us, hl with | [_, _], _ => rfl
  have F__law_local := fun_mk (st := s__law_local) l__law_local c__law_local k__law_local
  have B__law_local := F__law_local.binds (ps := ["_law_state_here", "_law_cells_here", "_law_later", "_law_after", "_law_paths_here"]) fun _ _ _ _ _ _ us hl => match us, hl with | [_, _, _, _, _], _ => rfl
  have F__law_news := fun_mk (st := s__law_news) l__law_news c__law_news k__law_news
  have B__law_news := F__law_news.binds (ps := ["_law_paths_here", "_law_told", "_law_cells_here"]) fun _ _ _ _ _ _ us hl => match us, hl with | [_, _, _], _ => rfl
  have F_Watcher_news := fun_mk (st := s_Watcher_news) l_Watcher_news c_Watcher_news k_Watcher_news
  have B_Watcher_news := F_Watcher_news.binds (ps := ["self", "state"]) fun _ _ _ _ _ _ us hl => match us, hl with | [_, _], _ => rfl
  have F_law := fun_mk (st := s_law) l_law c_law k_law
  have B_law := F_law.binds (ps := ["_law_script"]) fun _ _ _ _ _ _ us hl => match us, hl with | [_], _ => rfl
  have K__law_row : ∀ base : Heap, CalF l.prog w K mg base "_law_row" 1 3 ["_law_cell_here", "_law_k", "_law_many"] sp__law_row := fun base => ⟨f__law_row, _, ok__law_row F__law_row b_range b_len b_int, PySem.W.mg_of X G a__law_row, k__law_row, B__law_row⟩
  have K__law_cell : ∀ base : Heap, CalF l.prog w K mg base "_law_cell" 1 2 ["_law_script", "_law_k"] sp__law_cell := fun base => ⟨f__law_cell, _, ok__law_cell F__law_cell b_len, PySem.W.mg_of X G a__law_cell, k__law_cell, B__law_cell⟩
  have K__law_box : ∀ base : Heap, CalF l.prog w K mg base "_law_box" 2 3 ["_law_script", "_law_first", "_law_last"] sp__law_box := fun base => ⟨f__law_box, _, ok__law_box F__law_box (K__law_row base) (K__law_cell base) b_range, PySem.W.mg_of X G a__law_box, k__law_box, B__law_box⟩
  have K__law_draw : ∀ base : Heap, CalF l.prog w K mg base "_law_draw" 1 2 ["_law_box_here", "_law_many"] sp__law_draw := fun base => ⟨f__law_draw, _, ok__law_draw F__law_draw b_len b_int, PySem.W.mg_of X G a__law_draw, k__law_draw, B__law_draw⟩
  have K__law_paths : ∀ base : Heap, CalF l.prog w K mg base "_law_paths" 2 1 ["_law_box_here"] sp__law_paths := fun base => ⟨f__law_paths, _, ok__law_paths F__law_paths (K__law_draw base) b_range, PySem.W.mg_of X G a__law_paths, k__law_paths, B__law_paths⟩
  have K__law_pick : ∀ base : Heap, CalF l.prog w K mg base "_law_pick" 2 2 ["_law_box_here", "_law_row_here"] sp__law_pick := fun base => ⟨f__law_pick, _, ok__law_pick F__law_pick (K__law_draw base) b_int b_len, PySem.W.mg_of X G a__law_pick, k__law_pick, B__law_pick⟩
  have K__law_worth : ∀ base : Heap, CalF l.prog w K mg base "_law_worth" 3 2 ["_law_box_here", "_law_names"] sp__law_worth := fun base => ⟨f__law_worth, _, ok__law_worth F__law_worth (K__law_draw base) (K__law_pick base), PySem.W.mg_of X G a__law_worth, k__law_worth, B__law_worth⟩
  have K__law_more : ∀ base : Heap, CalF l.prog w K mg base "_law_more" 4 2 ["_law_box_here", "_law_clock"] sp__law_more := fun base => ⟨f__law_more, _, ok__law_more F__law_more (K__law_draw base) (K__law_worth base) (K__law_pick base) b_range, PySem.W.mg_of X G a__law_more, k__law_more, B__law_more⟩
  have K__law_cells : ∀ base : Heap, CalF l.prog w K mg base "_law_cells" 1 1 ["_law_changes"] sp__law_cells := fun base => ⟨f__law_cells, _, ok__law_cells F__law_cells, PySem.W.mg_of X G a__law_cells, k__law_cells, B__law_cells⟩
  have M_State___init__ : ∀ base : Heap, MakF l.prog w K mg base C_State "State" 1 1 ["self"] (sp_State___init__ C_State) := fun base => ⟨f_State___init__, _, ⟨mk_State, a_State___init__, i_State___init__, kc_State⟩, ok_State___init__ F_State___init__ c_State n_State_cells, PySem.W.mg_of X G aC_State, B_State___init__⟩
  have K_is_later : ∀ base : Heap, CalF l.prog w K mg base "is_later" 1 2 ["stamp", "other"] sp_is_later := fun base => ⟨f_is_later, _, ok_is_later F_is_later, PySem.W.mg_of X G a_is_later, k_is_later, B_is_later⟩
  have K_State_take : ∀ base : Heap, MetF l.prog w K mg base C_State "take" 2 2 ["self", "change"] (sp_State_take C_State) := fun base => ⟨f_State_take, _, c_State, ⟨a_State_take, i_State_take, k_State_take⟩, ok_State_take F_State_take c_State n_State_cells (K_is_later base), B_State_take⟩
  have K__law_state : ∀ base : Heap, CalF l.prog w K mg base "_law_state" 3 1 ["_law_changes"] (sp__law_state C_State) := fun base => ⟨f__law_state, _, ok__law_state F__law_state (M_State___init__ base) (K_State_take base), PySem.W.mg_of X G a__law_state, k__law_state, B__law_state⟩
  have M_Watcher___init__ : ∀ base : Heap, MakF l.prog w K mg base C_Watcher "Watcher" 1 2 ["self", "state"] (sp_Watcher___init__ C_Watcher) := fun base => ⟨f_Watcher___init__, _, ⟨mk_Watcher, a_Watcher___init__, i_Watcher___init__, kc_Watcher⟩, ok_Watcher___init__ F_Watcher___init__ c_Watcher n_Watcher_state n_Watcher_paths n_Watcher_told, PySem.W.mg_of X G aC_Watcher, B_Watcher___init__⟩
  have K__law_target : ∀ base : Heap, CalF l.prog w K mg base "_law_target" 1 1 ["_law_value"] sp__law_target := fun base => ⟨f__law_target, _, ok__law_target F__law_target b_isinstance b_tuple, PySem.W.mg_of X G a__law_target, k__law_target, B__law_target⟩
  have K__law_walk : ∀ base : Heap, CalF l.prog w K mg base "_law_walk" 2 2 ["_law_cells_here", "_law_path"] sp__law_walk := fun base => ⟨f__law_walk, _, ok__law_walk F__law_walk (K__law_target base), PySem.W.mg_of X G a__law_walk, k__law_walk, B__law_walk⟩
  have K__law_same : ∀ base : Heap, CalG l.prog w K mg base "_law_same" 1 2 ["_law_one", "_law_other"] sp__law_same := fun base => ⟨f__law_same, _, ok__law_same F__law_same b_repr, PySem.W.mg_of X G a__law_same, k__law_same, B__law_same⟩
  have K_reference : ∀ base : Heap, CalF l.prog w K mg base "reference" 1 1 ["name"] sp_reference := fun base => ⟨f_reference, _, ok_reference F_reference g_REF, PySem.W.mg_of X G a_reference, k_reference, B_reference⟩
  have K_target_of : ∀ base : Heap, CalF l.prog w K mg base "target_of" 1 1 ["value"] sp_target_of := fun base => ⟨f_target_of, _, ok_target_of F_target_of b_isinstance b_tuple, PySem.W.mg_of X G a_target_of, k_target_of, B_target_of⟩
  have K_State_value : ∀ base : Heap, MetF l.prog w K mg base C_State "value" 1 3 ["self", "name", "field"] (sp_State_value C_State) := fun base => ⟨f_State_value, _, c_State, ⟨a_State_value, i_State_value, k_State_value⟩, ok_State_value F_State_value c_State n_State_cells, B_State_value⟩
  have K_follow : ∀ base : Heap, CalF l.prog w K mg base "follow" 2 2 ["state", "path"] (sp_follow C_State) := fun base => ⟨f_follow, _, ok_follow F_follow (K_reference base) (K_target_of base) (K_State_value base) g_ROOT, PySem.W.mg_of X G a_follow, k_follow, B_follow⟩
  have K_value_at : ∀ base : Heap, CalF l.prog w K mg base "value_at" 3 2 ["state", "path"] (sp_value_at C_State) := fun base => ⟨f_value_at, _, ok_value_at F_value_at (K_follow base) b_len, PySem.W.mg_of X G a_value_at, k_value_at, B_value_at⟩
  have K_Watcher_watch : ∀ base : Heap, MetF l.prog w K mg base C_Watcher "watch" 4 2 ["self", "path"] (sp_Watcher_watch C_State C_Watcher) := fun base => ⟨f_Watcher_watch, _, c_Watcher, ⟨a_Watcher_watch, i_Watcher_watch, k_Watcher_watch⟩, ok_Watcher_watch F_Watcher_watch c_Watcher n_Watcher_paths n_Watcher_told n_Watcher_state (K_value_at base) b_list, B_Watcher_watch⟩
  have K__law_once : ∀ base : Heap, CalF l.prog w K mg base "_law_once" 1 1 ["_law_rows"] sp__law_once := fun base => ⟨f__law_once, _, ok__law_once F__law_once, PySem.W.mg_of X G a__law_once, k__law_once, B__law_once⟩
  have K_cells_of : ∀ base : Heap, CalF l.prog w K mg base "cells_of" 3 2 ["state", "path"] (sp_cells_of C_State) := fun base => ⟨f_cells_of, _, ok_cells_of F_cells_of (K_follow base) (K_target_of base) b_enumerate b_len, PySem.W.mg_of X G a_cells_of, k_cells_of, B_cells_of⟩
  have K__law_right : ∀ base : Heap, CalG l.prog w K mg base "_law_right" 4 3 ["_law_state_here", "_law_cells_here", "_law_paths_here"] (sp__law_right C_State) := fun base => ⟨f__law_right, _, ok__law_right F__law_right (K__law_walk base) (K__law_same base) (K_follow base) (K_value_at base) (K__law_once base) (K_cells_of base) b_list, PySem.W.mg_of X G a__law_right, k__law_right, B__law_right⟩
  have K__law_touched : ∀ base : Heap, CalF l.prog w K mg base "_law_touched" 3 4 ["_law_paths_here", "_law_many", "_law_cells_here", "_law_changes"] sp__law_touched := fun base => ⟨f__law_touched, _, ok__law_touched F__law_touched (K__law_walk base) b_range, PySem.W.mg_of X G a__law_touched, k__law_touched, B__law_touched⟩
  have K_Watcher_touched : ∀ base : Heap, MetF l.prog w K mg base C_Watcher "touched" 4 2 ["self", "changes"] (sp_Watcher_touched C_State C_Watcher) := fun base => ⟨f_Watcher_touched, _, c_Watcher, ⟨a_Watcher_touched, i_Watcher_touched, k_Watcher_touched⟩, ok_Watcher_touched F_Watcher_touched c_Watcher n_Watcher_paths n_Watcher_state (K_cells_of base) b_enumerate, B_Watcher_touched⟩
  have K__law_local : ∀ base : Heap, CalG l.prog w K mg base "_law_local" 4 5 ["_law_state_here", "_law_cells_here", "_law_later", "_law_after", "_law_paths_here"] (sp__law_local C_State) := fun base => ⟨f__law_local, _, ok__law_local F__law_local (K__law_walk base) (K__law_same base) (K_value_at base) (K_State_value base), PySem.W.mg_of X G a__law_local, k__law_local, B__law_local⟩
  have K__law_news : ∀ base : Heap, CalG l.prog w K mg base "_law_news" 3 3 ["_law_paths_here", "_law_told", "_law_cells_here"] sp__law_news := fun base => ⟨f__law_news, _, ok__law_news F__law_news (K__law_walk base) (K__law_same base) b_range b_len, PySem.W.mg_of X G a__law_news, k__law_news, B__law_news⟩
  have K_Watcher_news : ∀ base : Heap, MetF l.prog w K mg base C_Watcher "news" 4 2 ["self", "state"] (sp_Watcher_news C_State C_Watcher) := fun base => ⟨f_Watcher_news, _, c_Watcher, ⟨a_Watcher_news, i_Watcher_news, k_Watcher_news⟩, ok_Watcher_news F_Watcher_news c_Watcher n_Watcher_paths n_Watcher_told n_Watcher_state (K_value_at base) b_enumerate b_list, B_Watcher_news⟩
  exact ⟨PySem.W.fnOf "law" "law" (defArgs s_law) (defBody s_law) (defScope s_law) .none kV_law dc_law pm_law an_law cd_law ct_law, fun s v => .of_eq rfl, fun base _ _ => ok_law F_law (K__law_box base) (K__law_paths base) (K__law_more base) (K__law_cells base) (K__law_state base) (K__law_draw base) (K__law_walk base) (K__law_same base) (K__law_right base) (K__law_touched base) (K__law_local base) (K__law_news base) (M_Watcher___init__ base) (K_Watcher_watch base) (K_Watcher_touched base) (K_Watcher_news base) b_range b_len b_list⟩
theorem walk {l : PySem.W.OpenLaw} {q : Program} {loose : List Str} {XP : (Str → Option Value) → Heap → Prop} {YP : World → Heap → Prop} {d : DefRec} {K : Params → PySem.W.Frag} (hn : l.most = some 63) (hdf : d.params.defaults = [])
    (hY : ∀ (w : World) (h : Heap), YP w h → (K w.params).In h)
    (F : ∀ (w : World) (mg : Str → Option Value) (fa : Addr) (h : Heap), (K w.params).In h → h.Ns mainGlobals mg → mg d.name = some (.ref fa) →
      ∃ fd : FuncData, (∀ (s : Shared) (u : Value), BindsTo s fd ⟨[u], []⟩ [("_law_script", u)]) ∧ ∀ base : Heap, (K w.params).In base → base.Ns mainGlobals mg → FnG l.prog w (K w.params) mg base 5 fa fd ["_law_script"] (lSp ⟨l.prog, w, K w.params⟩ 1 sp_law)) :
    PySem.W.WalkO q loose XP YP l.row.toRowW d [] (fun f vs => PySem.call f vs) :=
  DL.walk_g (n := 63) (k := 5) (x := "_law_script") (sp := fun w => lSp ⟨l.prog, w, K w.params⟩ 1 sp_law) hn (by decide) hdf ⟨rfl, by decide, by decide⟩ hY F fun w H a ns hl hO hS => law_sp hl hO hS
end LawP
open PySem PySem.W PyProof.Rows
set_option maxRecDepth 100000 in
set_option maxHeartbeats 0 in
theorem PySem.Challenge.cw_graphtwins_k50_watches_holds : PySem.Challenge.rw_graphtwins_k50_watches.Holds := by
  w_on; o_law; k_head; (case hw => w_witness2)
  k_fill
  refine LawP.walk (l := PySem.Challenge.rw_graphtwins_k50_watches) rfl rfl (fun w h Y => PySem.W.kIn_of Y) ?F
  case F =>
    intro w mg fa h KX G hmg
    refine' LawP.all_mk KX G hmg ?aC_State ?pg_State ?hd_State ?po_State ?sa_State ?mk_State ?kc_State ?aC_Watcher ?pg_Watcher ?hd_Watcher ?po_Watcher ?sa_Watcher ?mk_Watcher ?kc_Watcher ?n_State_cells ?n_Watcher_paths ?n_Watcher_state ?n_Watcher_told ?z_enumerate ?z_int ?z_isinstance ?z_len ?z_list ?z_range ?z_repr ?z_tuple ?w_REF ?w_ROOT ?wl_ROOT ?a__law_row ?l__law_row ?c__law_row ?k__law_row ?a__law_cell ?l__law_cell ?c__law_cell ?k__law_cell ?a__law_box ?l__law_box ?c__law_box ?k__law_box ?a__law_draw ?l__law_draw ?c__law_draw ?k__law_draw ?a__law_paths ?l__law_paths ?c__law_paths ?k__law_paths ?a__law_pick ?l__law_pick ?c__law_pick ?k__law_pick ?a__law_worth ?l__law_worth ?c__law_worth ?k__law_worth ?a__law_more ?l__law_more ?c__law_more ?k__law_more ?a__law_cells ?l__law_cells ?c__law_cells ?k__law_cells ?a_State___init__ ?i_State___init__ ?l_State___init__ ?c_State___init__ ?k_State___init__ ?a_is_later ?l_is_later ?c_is_later ?k_is_later ?a_State_take ?i_State_take ?l_State_take ?c_State_take ?k_State_take ?a__law_state ?l__law_state ?c__law_state ?k__law_state ?a_Watcher___init__ ?i_Watcher___init__ ?l_Watcher___init__ ?c_Watcher___init__ ?k_Watcher___init__ ?a__law_target ?l__law_target ?c__law_target ?k__law_target ?a__law_walk ?l__law_walk ?c__law_walk ?k__law_walk ?a__law_same ?l__law_same ?c__law_same ?k__law_same ?a_reference ?l_reference ?c_reference ?k_reference ?a_target_of ?l_target_of ?c_target_of ?k_target_of ?a_State_value ?i_State_value ?l_State_value ?c_State_value ?k_State_value ?a_follow ?l_follow ?c_follow ?k_follow ?a_value_at ?l_value_at ?c_value_at ?k_value_at ?a_Watcher_watch ?i_Watcher_watch ?l_Watcher_watch ?c_Watcher_watch ?k_Watcher_watch ?a__law_once ?l__law_once ?c__law_once ?k__law_once ?a_cells_of ?l_cells_of ?c_cells_of ?k_cells_of ?a__law_right ?l__law_right ?c__law_right ?k__law_right ?a__law_touched ?l__law_touched ?c__law_touched ?k__law_touched ?a_Watcher_touched ?i_Watcher_touched ?l_Watcher_touched ?c_Watcher_touched ?k_Watcher_touched ?a__law_local ?l__law_local ?c__law_local ?k__law_local ?a__law_news ?l__law_news ?c__law_news ?k__law_news ?a_Watcher_news ?i_Watcher_news ?l_Watcher_news ?c_Watcher_news ?k_Watcher_news ?a_law ?l_law ?c_law ?k_law
    (case aC_State => k_is)
    (case pg_State => k_is)
    (case hd_State => k_is)
    (case po_State => k_is)
    (case sa_State => k_is)
    (case mk_State => k_is)
    (case kc_State => k_is)
    (case aC_Watcher => k_is)
    (case pg_Watcher => k_is)
    (case hd_Watcher => k_is)
    (case po_Watcher => k_is)
    (case sa_Watcher => k_is)
    (case mk_Watcher => k_is)
    (case kc_Watcher => k_is)
    (case n_State_cells => k_is)
    (case n_Watcher_paths => k_is)
    (case n_Watcher_state => k_is)
    (case n_Watcher_told => k_is)
    (case z_enumerate => k_is)
    (case z_int => k_is)
    (case z_isinstance => k_is)
    (case z_len => k_is)
    (case z_list => k_is)
    (case z_range => k_is)
    (case z_repr => k_is)
    (case z_tuple => k_is)
    (case w_REF => k_is)
    (case w_ROOT => k_is)
    (case wl_ROOT => k_is)
    (case a__law_row => k_is)
    (case l__law_row => k_is)
    (case c__law_row => k_is)
    (case k__law_row => k_is)
    (case a__law_cell => k_is)
    (case l__law_cell => k_is)
    (case c__law_cell => k_is)
    (case k__law_cell => k_is)
    (case a__law_box => k_is)
    (case l__law_box => k_is)
    (case c__law_box => k_is)
    (case k__law_box => k_is)
    (case a__law_draw => k_is)
    (case l__law_draw => k_is)
    (case c__law_draw => k_is)
    (case k__law_draw => k_is)
    (case a__law_paths => k_is)
    (case l__law_paths => k_is)
    (case c__law_paths => k_is)
    (case k__law_paths => k_is)
    (case a__law_pick => k_is)
    (case l__law_pick => k_is)
    (case c__law_pick => k_is)
    (case k__law_pick => k_is)
    (case a__law_worth => k_is)
    (case l__law_worth => k_is)
    (case c__law_worth => k_is)
    (case k__law_worth => k_is)
    (case a__law_more => k_is)
    (case l__law_more => k_is)
    (case c__law_more => k_is)
    (case k__law_more => k_is)
    (case a__law_cells => k_is)
    (case l__law_cells => k_is)
    (case c__law_cells => k_is)
    (case k__law_cells => k_is)
    (case a_State___init__ => k_is)
    (case i_State___init__ => k_is)
    (case l_State___init__ => k_is)
    (case c_State___init__ => k_is)
    (case k_State___init__ => k_is)
    (case a_is_later => k_is)
    (case l_is_later => k_is)
    (case c_is_later => k_is)
    (case k_is_later => k_is)
    (case a_State_take => k_is)
    (case i_State_take => k_is)
    (case l_State_take => k_is)
    (case c_State_take => k_is)
    (case k_State_take => k_is)
    (case a__law_state => k_is)
    (case l__law_state => k_is)
    (case c__law_state => k_is)
    (case k__law_state => k_is)
    (case a_Watcher___init__ => k_is)
    (case i_Watcher___init__ => k_is)
    (case l_Watcher___init__ => k_is)
    (case c_Watcher___init__ => k_is)
    (case k_Watcher___init__ => k_is)
    (case a__law_target => k_is)
    (case l__law_target => k_is)
    (case c__law_target => k_is)
    (case k__law_target => k_is)
    (case a__law_walk => k_is)
    (case l__law_walk => k_is)
    (case c__law_walk => k_is)
    (case k__law_walk => k_is)
    (case a__law_same => k_is)
    (case l__law_same => k_is)
    (case c__law_same => k_is)
    (case k__law_same => k_is)
    (case a_reference => k_is)
    (case l_reference => k_is)
    (case c_reference => k_is)
    (case k_reference => k_is)
    (case a_target_of => k_is)
    (case l_target_of => k_is)
    (case c_target_of => k_is)
    (case k_target_of => k_is)
    (case a_State_value => k_is)
    (case i_State_value => k_is)
    (case l_State_value => k_is)
    (case c_State_value => k_is)
    (case k_State_value => k_is)
    (case a_follow => k_is)
    (case l_follow => k_is)
    (case c_follow => k_is)
    (case k_follow => k_is)
    (case a_value_at => k_is)
    (case l_value_at => k_is)
    (case c_value_at => k_is)
    (case k_value_at => k_is)
    (case a_Watcher_watch => k_is)
    (case i_Watcher_watch => k_is)
    (case l_Watcher_watch => k_is)
    (case c_Watcher_watch => k_is)
    (case k_Watcher_watch => k_is)
    (case a__law_once => k_is)
    (case l__law_once => k_is)
    (case c__law_once => k_is)
    (case k__law_once => k_is)
    (case a_cells_of => k_is)
    (case l_cells_of => k_is)
    (case c_cells_of => k_is)
    (case k_cells_of => k_is)
    (case a__law_right => k_is)
    (case l__law_right => k_is)
    (case c__law_right => k_is)
    (case k__law_right => k_is)
    (case a__law_touched => k_is)
    (case l__law_touched => k_is)
    (case c__law_touched => k_is)
    (case k__law_touched => k_is)
    (case a_Watcher_touched => k_is)
    (case i_Watcher_touched => k_is)
    (case l_Watcher_touched => k_is)
    (case c_Watcher_touched => k_is)
    (case k_Watcher_touched => k_is)
    (case a__law_local => k_is)
    (case l__law_local => k_is)
    (case c__law_local => k_is)
    (case k__law_local => k_is)
    (case a__law_news => k_is)
    (case l__law_news => k_is)
    (case c__law_news => k_is)
    (case k__law_news => k_is)
    (case a_Watcher_news => k_is)
    (case i_Watcher_news => k_is)
    (case l_Watcher_news => k_is)
    (case c_Watcher_news => k_is)
    (case k_Watcher_news => k_is)
    (case a_law => k_is)
    (case l_law => k_is)
    (case c_law => k_is)
    (case k_law => k_is)
