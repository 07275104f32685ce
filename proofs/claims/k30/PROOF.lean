import PyProof.Rows.All
import Wide.All
import OpenK.AllK
import Wide.FinOn
import HandS.Lambda
import HandS.ForMost
import HandS.Star
import HandS.Wide
import HandS.Gcd
import HandS.DictComp
import HandS.IsInst
import HandS.Zip
import HandS.Style
import HandS.Property
import HandS.Deep
import HandS.TupSets
import HandS.Keys
import KE.KMathG
import HandS.Defaults
import PyProof.Rows.Walk
import KE.SortData
import HandS.ExcInit
import HandS.ExcField
import HandS.ExcIs
import HandS.WordsExc
import HandS.ExcOwn
import HandS.ExcCtx
import KE.KExcIs
import KE.GoesMore
import HandS.EndTab
import KE.KSortKey
import HandS.EndBits
import KE.KNest
import HandS.Conv
import HandS.HotCalls
import PyProof.Seq
import HandS.FStr
import HandS.Text
import HandS.Iter
import HandS.Codes
import PyProof.StrBlock2
import HandS.MakeKw
import HandS.OwnEq
import HandS.Replace
import HandS.Strs
import HandS.Dict
import HandS.MakeKwOnly
import HandS.More
import KE.KRevSl
import KE.GoesEnum
import HandS.TupAny
import HandS.Records
import HandS.DeepEq
import HandS.ListItems
import HandS.Remove
import KE.DataFind
import KE.KIndexOf
import KE.KDictList
import PyProof.ExcBaseAll.LookupError
import PyProof.ExcBaseAll.RuntimeError
import KE.KExcInit
import PySem.Challenge.RW_bandheld_k30_whole_bags
set_option Elab.async false
set_option linter.all false
set_option maxRecDepth 100000
/-! L3: a layer over HandS: tuples and never-changed lists are values; memory holds only what may change. -/
namespace L3
open PySem L2
inductive D where
  | non | bl (b : Bool) | int (i : Int) | str (x : Str) | tup (ds : List D) | lst (ds : List D) | ref (a : Addr)
/-- what grows: the facts that never cease (tuples, lists that are never changed) -/
def Sub (G G' : Hp) : Prop := ∀ a o, G a = some o → G' a = some o
theorem Sub.refl (G : Hp) : Sub G G := fun _ _ h => h
theorem Sub.trans {G G1 G2 : Hp} (a : Sub G G1) (b : Sub G1 G2) : Sub G G2 := fun x o h => b x o (a x o h)
theorem Sub.new {G : Hp} {p : Addr} {o : HO} (h : G p = none) : Sub G (upd G p o) := fun a u e => by
  rw [upd_ne (ne_of_none e h)]; exact e
theorem Sub.rd {G G' : Hp} (e : Sub G G') {a : Addr} {u : HO} (h : Rd G a u) : Rd G' a u := by
  rcases h with h | ⟨o, h⟩
  · exact .inl (e a _ h)
  · exact .inr ⟨o, e a _ h⟩
theorem Sub.l {K : PySem.W.Frag} {G G' : Hp} (e : Sub G G') {a : Addr} {xs : List V} (h : SqL K G a xs) : SqL K G' a xs := by
  rcases h with h | h
  · exact .inl (e.rd h)
  · exact .inr h
theorem Sub.t {K : PySem.W.Frag} {G G' : Hp} (e : Sub G G') {a : Addr} {xs : List V} (h : SqT K G a xs) : SqT K G' a xs := by
  rcases h with h | h
  · exact .inl (e.rd h)
  · exact .inr h
section
variable (K : PySem.W.Frag) (G : Hp)
mutual
/-- the value of V that a datum stands for -/
def RV : D → V → Prop
  | .non, v => v = .non
  | .bl b, v => v = .bl b
  | .int i, v => v = .int i
  | .str x, v => v = .str x
  | .ref a, v => v = .ref a
  | .tup ds, v => ∃ a xs, v = .ref a ∧ SqT K G a xs ∧ RVs ds xs
  | .lst ds, v => ∃ a xs, v = .ref a ∧ SqL K G a xs ∧ RVs ds xs
def RVs : List D → List V → Prop
  | [], xs => xs = []
  | d :: ds, xs => ∃ x r, xs = x :: r ∧ RV d x ∧ RVs ds r
end
end
section
variable {K : PySem.W.Frag} {G G' : Hp}
mutual
theorem RV.mono (e : Sub G G') : ∀ (d : D) {v : V}, RV K G d v → RV K G' d v
  | .non, _, h => h
  | .bl _, _, h => h
  | .int _, _, h => h
  | .str _, _, h => h
  | .ref _, _, h => h
  | .tup ds, _, ⟨a, xs, h1, h2, h3⟩ => ⟨a, xs, h1, e.t h2, RVs.mono e ds h3⟩
  | .lst ds, _, ⟨a, xs, h1, h2, h3⟩ => ⟨a, xs, h1, e.l h2, RVs.mono e ds h3⟩
theorem RVs.mono (e : Sub G G') : ∀ (ds : List D) {xs : List V}, RVs K G ds xs → RVs K G' ds xs
  | [], _, h => h
  | d :: ds, _, ⟨x, r, h1, h2, h3⟩ => ⟨x, r, h1, RV.mono e d h2, RVs.mono e ds h3⟩
end
theorem RVs.length : ∀ {ds : List D} {xs : List V}, RVs K G ds xs → ds.length = xs.length
  | [], _, h => by rw [show _ = [] from h]; rfl
  | d :: ds, _, ⟨x, r, h1, h2, h3⟩ => by rw [h1, List.length_cons, List.length_cons, RVs.length h3]
theorem RVs.nil : RVs K G [] [] := rfl
theorem RVs.cons {d : D} {ds : List D} {x : V} {xs : List V} (h : RV K G d x) (t : RVs K G ds xs) : RVs K G (d :: ds) (x :: xs) := ⟨x, xs, rfl, h, t⟩
theorem RVs.get : ∀ {ds : List D} {xs : List V} {i : Nat} {d : D}, RVs K G ds xs → ds[i]? = some d → ∃ x, xs[i]? = some x ∧ RV K G d x
  | [], _, _, _, _, e => by simp at e
  | _ :: _, _, 0, d, ⟨x, r, h1, h2, h3⟩, e => by
    have e : _ = d := Option.some.inj e
    subst e; subst h1
    exact ⟨x, rfl, h2⟩
  | _ :: _, _, i + 1, d, ⟨x, r, h1, h2, h3⟩, e => by
    subst h1
    exact RVs.get (i := i) h3 e
theorem RVs.getV : ∀ {ds : List D} {xs : List V} {i : Nat} {x : V}, RVs K G ds xs → xs[i]? = some x → ∃ d, ds[i]? = some d ∧ RV K G d x
  | [], _, _, _, h, e => by rw [show _ = [] from h] at e; simp at e
  | d :: _, _, 0, y, ⟨x, r, h1, h2, h3⟩, e => by
    subst h1
    have e : x = y := Option.some.inj e
    subst e
    exact ⟨d, rfl, h2⟩
  | _ :: _, _, i + 1, _, ⟨x, r, h1, h2, h3⟩, e => by
    subst h1
    exact RVs.getV (i := i) h3 e
theorem RVs.append : ∀ {ds es : List D} {xs ys : List V}, RVs K G ds xs → RVs K G es ys → RVs K G (ds ++ es) (xs ++ ys)
  | [], _, _, _, h, t => by rw [show _ = [] from h]; exact t
  | _ :: _, _, _, _, ⟨x, r, h1, h2, h3⟩, t => by subst h1; exact ⟨x, _, rfl, h2, RVs.append h3 t⟩
theorem RVs.one {d : D} {x : V} (h : RV K G d x) : RVs K G [d] [x] := RVs.cons h RVs.nil
theorem RVs.take : ∀ {ds : List D} {xs : List V} (n : Nat), RVs K G ds xs → RVs K G (ds.take n) (xs.take n)
  | _, _, 0, _ => rfl
  | [], _, _ + 1, h => by rw [show _ = [] from h]; rfl
  | _ :: _, _, n + 1, ⟨x, r, h1, h2, h3⟩ => by subst h1; exact ⟨x, _, rfl, h2, RVs.take n h3⟩
theorem RVs.drop : ∀ {ds : List D} {xs : List V} (n : Nat), RVs K G ds xs → RVs K G (ds.drop n) (xs.drop n)
  | _, _, 0, h => h
  | [], _, _ + 1, h => by rw [show _ = [] from h]; rfl
  | _ :: _, _, n + 1, ⟨x, r, h1, h2, h3⟩ => by subst h1; exact RVs.drop n h3
theorem RVs.set {d : D} {x : V} (r : RV K G d x) : ∀ {ds : List D} {xs : List V} (i : Nat), RVs K G ds xs → RVs K G (ds.set i d) (xs.set i x)
  | [], _, _, h => by rw [show _ = [] from h]; rfl
  | _ :: _, _, 0, ⟨y, q, h1, h2, h3⟩ => by subst h1; exact ⟨x, _, rfl, r, h3⟩
  | _ :: _, _, i + 1, ⟨y, q, h1, h2, h3⟩ => by subst h1; exact ⟨y, _, rfl, h2, RVs.set r i h3⟩
theorem RVs.reverse : ∀ {ds : List D} {xs : List V}, RVs K G ds xs → RVs K G ds.reverse xs.reverse
  | [], _, h => by rw [show _ = [] from h]; rfl
  | d :: ds, _, ⟨x, r, h1, h2, h3⟩ => by
    subst h1
    rw [List.reverse_cons, List.reverse_cons]
    exact RVs.append (RVs.reverse h3) (RVs.one h2)
theorem RVs.eraseIdx : ∀ {ds : List D} {xs : List V} (i : Nat), RVs K G ds xs → RVs K G (ds.eraseIdx i) (xs.eraseIdx i)
  | [], _, _, h => by rw [show _ = [] from h]; rfl
  | _ :: _, _, 0, ⟨y, q, h1, h2, h3⟩ => by subst h1; exact h3
  | _ :: _, _, i + 1, ⟨y, q, h1, h2, h3⟩ => by subst h1; exact ⟨y, _, rfl, h2, RVs.eraseIdx i h3⟩
theorem RVs.ints : ∀ {ns : List Int} {xs : List V}, RVs K G (ns.map D.int) xs → xs = ns.map V.int
  | [], _, h => h
  | n :: ns, _, ⟨x, r, h1, h2, h3⟩ => by
    subst h1
    rw [show x = V.int n from h2, RVs.ints h3]; rfl
theorem RVs.of_ints : ∀ (ns : List Int), RVs K G (ns.map D.int) (ns.map V.int)
  | [] => rfl
  | n :: ns => ⟨_, _, rfl, rfl, RVs.of_ints ns⟩
theorem RVs.bls : ∀ {ns : List Bool} {xs : List V}, RVs K G (ns.map D.bl) xs → xs = ns.map V.bl
  | [], _, h => h
  | n :: ns, _, ⟨x, r, h1, h2, h3⟩ => by
    subst h1
    rw [show x = V.bl n from h2, RVs.bls h3]; rfl
end
/-- what may change, as it stands at an address -/
inductive AO where
  | lst (ds : List D)
  | dK (kvs : List (Key × D))
  | dT (kvs : List (List Key × D))
  | ins (C : Addr) (fs : List (Str × D))
  /-- a list of which just P is known -/
  | any (P : List D → Prop)
  /-- a dict that is walked -/
  | fz (kvs : List (Key × D))
  | fzT (kvs : List (List Key × D))
  /-- the fields of an exception that was made -/
  | xd (fs : List (Str × D))
  /-- a def's table of code objects, each of the name q -/
  | tab (q : Str)
section
variable (K : PySem.W.Frag) (G : Hp)
/-- pairs of the same keys -/
def RKs {κ : Type} : List (κ × D) → List (κ × V) → Prop
  | [], xs => xs = []
  | p :: ds, xs => ∃ x r, xs = (p.1, x) :: r ∧ RV K G p.2 x ∧ RKs ds r
def RO : AO → HO → Prop
  | .lst ds, u => ∃ xs, u = .lst xs ∧ RVs K G ds xs
  | .any P, u => ∃ ds xs, P ds ∧ u = .lst xs ∧ RVs K G ds xs
  | .dK ks, u => ∃ xs, u = .dK xs ∧ RKs K G ks xs
  | .dT ks, u => ∃ xs, u = .dT xs ∧ RKs K G ks xs
  | .ins C fs, u => ∃ dx xs, u = .ins C dx xs ∧ RKs K G fs xs
  | .fz ks, u => ∃ o xs, u = .frz o (.dK xs) ∧ RKs K G ks xs
  | .fzT ks, u => ∃ o xs, u = .frz o (.dT xs) ∧ RKs K G ks xs
  | .xd fs, u => ∃ xs, u = .xd xs ∧ RKs K G fs xs
  | .tab q, u => ∃ ps : Array Value, u = .tbl ps ∧ TriplesOk ps.toList ∧ ∀ (pos : Pos) (cv : Value), codeAmong pos ps.toList = some cv → ∃ c, cv = .ref c ∧ G c = some (LamX.CodeO c q)
end
section
variable {K : PySem.W.Frag} {G G' : Hp} {κ : Type}
theorem RKs.mono (e : Sub G G') : ∀ {ds : List (κ × D)} {xs : List (κ × V)}, RKs K G ds xs → RKs K G' ds xs
  | [], _, h => h
  | p :: ds, _, ⟨x, r, h1, h2, h3⟩ => ⟨x, r, h1, RV.mono e _ h2, RKs.mono e h3⟩
theorem RO.mono (e : Sub G G') : ∀ {o : AO} {u : HO}, RO K G o u → RO K G' o u
  | .lst ds, _, ⟨xs, h1, h2⟩ => ⟨xs, h1, RVs.mono e _ h2⟩
  | .any P, _, ⟨ds, xs, h0, h1, h2⟩ => ⟨ds, xs, h0, h1, RVs.mono e _ h2⟩
  | .dK ds, _, ⟨xs, h1, h2⟩ => ⟨xs, h1, RKs.mono e h2⟩
  | .dT ds, _, ⟨xs, h1, h2⟩ => ⟨xs, h1, RKs.mono e h2⟩
  | .ins C fs, _, ⟨dx, xs, h1, h2⟩ => ⟨dx, xs, h1, RKs.mono e h2⟩
  | .fz ds, _, ⟨o, xs, h1, h2⟩ => ⟨o, xs, h1, RKs.mono e h2⟩
  | .fzT ds, _, ⟨o, xs, h1, h2⟩ => ⟨o, xs, h1, RKs.mono e h2⟩
  | .xd ds, _, ⟨xs, h1, h2⟩ => ⟨xs, h1, RKs.mono e h2⟩
  | .tab q, _, ⟨ps, h1, h2, h3⟩ => ⟨ps, h1, h2, fun pos cv h => let ⟨c, e1, e2⟩ := h3 pos cv h; ⟨c, e1, e c _ e2⟩⟩
theorem RKs.length : ∀ {ds : List (κ × D)} {xs : List (κ × V)}, RKs K G ds xs → ds.length = xs.length
  | [], _, h => by rw [show _ = [] from h]; rfl
  | _ :: _, _, ⟨x, r, h1, h2, h3⟩ => by rw [h1, List.length_cons, List.length_cons, RKs.length h3]
theorem RKs.append : ∀ {ds es : List (κ × D)} {xs ys : List (κ × V)}, RKs K G ds xs → RKs K G es ys → RKs K G (ds ++ es) (xs ++ ys)
  | [], _, _, _, h, t => by rw [show _ = [] from h]; exact t
  | _ :: _, _, _, _, ⟨x, r, h1, h2, h3⟩, t => by subst h1; exact ⟨x, _, rfl, h2, RKs.append h3 t⟩
end
/-! ### dicts and fields by keys -/
section
variable {κ : Type} [DecidableEq κ]
def valD (kvs : List (κ × D)) (k : κ) : Option D := (kvs.find? fun kv => decide (kv.1 = k)).map (·.2)
def putD (kvs : List (κ × D)) (k : κ) (v : D) : List (κ × D) :=
  if (kvs.any fun kv => decide (kv.1 = k)) = true then kvs.map (fun kv => if kv.1 = k then (kv.1, v) else kv) else kvs ++ [(k, v)]
def dropD (kvs : List (κ × D)) (k : κ) : List (κ × D) := kvs.filter fun kv => decide (kv.1 ≠ k)
end
def RVo (K : PySem.W.Frag) (G : Hp) : Option D → Option V → Prop
  | some d, some v => RV K G d v
  | none, none => True
  | _, _ => False
section
variable {K : PySem.W.Frag} {G : Hp} {κ : Type} [DecidableEq κ]
theorem RKs.val (k : κ) : ∀ {ds : List (κ × D)} {xs : List (κ × V)}, RKs K G ds xs → RVo K G (valD ds k) (valV xs k)
  | [], _, h => by rw [show _ = [] from h]; trivial
  | p :: ds, _, ⟨x, r, h1, h2, h3⟩ => by
    subst h1
    have ih := RKs.val k h3
    by_cases e : p.1 = k
    · unfold valD valV
      rw [List.find?_cons_of_pos (by simp [e]), List.find?_cons_of_pos (by simp [e])]
      exact h2
    · unfold valD valV at ih ⊢
      rw [List.find?_cons_of_neg (by simp [e]), List.find?_cons_of_neg (by simp [e])]
      exact ih
theorem RVo.some {d : D} {o : Option V} (h : RVo K G (some d) o) : ∃ v, o = some v ∧ RV K G d v := by
  cases o with
  | none => exact h.elim
  | some v => exact ⟨v, rfl, h⟩
theorem RVo.none {o : Option V} (h : RVo K G none o) : o = none := by
  cases o with
  | none => rfl
  | some v => exact h.elim
theorem RVo.isSome {o : Option V} {d : Option D} (h : RVo K G d o) : d.isSome = o.isSome := by
  cases o <;> cases d <;> first | rfl | exact h.elim
theorem RKs.any (f : κ → Bool) : ∀ {ds : List (κ × D)} {xs : List (κ × V)}, RKs K G ds xs → (ds.any fun kv => f kv.1) = (xs.any fun kv => f kv.1)
  | [], _, h => by rw [show _ = [] from h]; rfl
  | p :: ds, _, ⟨x, r, h1, h2, h3⟩ => by
    subst h1
    rw [List.any_cons, List.any_cons, RKs.any f h3]
theorem RKs.rep (k : κ) {d : D} {v : V} (r : RV K G d v) : ∀ {ds : List (κ × D)} {xs : List (κ × V)}, RKs K G ds xs → RKs K G (ds.map fun kv => if kv.1 = k then (kv.1, d) else kv) (xs.map fun kv => if kv.1 = k then (kv.1, v) else kv)
  | [], _, h => by rw [show _ = [] from h]; rfl
  | p :: ds, _, ⟨x, q, h1, h2, h3⟩ => by
    subst h1
    have ih := RKs.rep k r h3
    rw [List.map_cons, List.map_cons]
    by_cases e : p.1 = k
    · rw [if_pos e, if_pos e]; exact ⟨v, _, rfl, r, ih⟩
    · rw [if_neg e, if_neg e]; exact ⟨x, _, rfl, h2, ih⟩
theorem RKs.put (k : κ) {d : D} {v : V} (r : RV K G d v) {ds : List (κ × D)} {xs : List (κ × V)} (h : RKs K G ds xs) : RKs K G (putD ds k d) (putK xs k v) := by
  unfold putD putK
  rw [RKs.any (fun z => decide (z = k)) h]
  split
  · exact RKs.rep k r h
  · exact RKs.append h ⟨v, [], rfl, r, rfl⟩
theorem RKs.drop (k : κ) : ∀ {ds : List (κ × D)} {xs : List (κ × V)}, RKs K G ds xs → RKs K G (dropD ds k) (dropK xs k)
  | [], _, h => by rw [show _ = [] from h]; rfl
  | p :: ds, _, ⟨x, q, h1, h2, h3⟩ => by
    subst h1
    have ih := RKs.drop k h3
    unfold dropD dropK at ih ⊢
    by_cases e : p.1 = k
    · rw [List.filter_cons_of_neg (by simp [e]), List.filter_cons_of_neg (by simp [e])]; exact ih
    · rw [List.filter_cons_of_pos (by simp [e]), List.filter_cons_of_pos (by simp [e])]
      exact ⟨x, _, rfl, h2, ih⟩
end
/-- fields -/
def putFD (f : Str) (v : D) : List (Str × D) → List (Str × D)
  | [] => [(f, v)]
  | (g, x) :: r => if g = f then (g, v) :: r else (g, x) :: putFD f v r
theorem RKs.putF {K : PySem.W.Frag} {G : Hp} {f : Str} {d : D} {v : V} (r : RV K G d v) : ∀ {ds : List (Str × D)} {xs : List (Str × V)}, RKs K G ds xs → RKs K G (putFD f d ds) (putF f v xs)
  | [], _, h => by rw [show _ = [] from h]; exact ⟨v, [], rfl, r, rfl⟩
  | p :: ds, _, ⟨x, q, h1, h2, h3⟩ => by
    subst h1
    have ih := RKs.putF r h3 (f := f)
    obtain ⟨g, y⟩ := p
    unfold putFD L2.putF
    by_cases e : g = f
    · rw [if_pos e, if_pos e]; exact ⟨v, _, rfl, r, h3⟩
    · rw [if_neg e, if_neg e]; exact ⟨x, _, rfl, h2, ih⟩
theorem RKs.lookup {K : PySem.W.Frag} {G : Hp} (f : Str) : ∀ {ds : List (Str × D)} {xs : List (Str × V)}, RKs K G ds xs → RVo K G (ds.lookup f) (xs.lookup f)
  | [], _, h => by rw [show _ = [] from h]; trivial
  | p :: ds, _, ⟨x, q, h1, h2, h3⟩ => by
    subst h1
    have ih := RKs.lookup f h3
    obtain ⟨g, y⟩ := p
    rw [List.lookup_cons, List.lookup_cons]
    show RVo K G (match f == g with | true => some y | false => List.lookup f ds) (match f == g with | true => some x | false => List.lookup f q)
    cases f == g with
    | true => exact h2
    | false => exact ih
/-! ### the state -/
abbrev Mem := Addr → Option AO
abbrev DSt := List (Option D)
def mset (m : Mem) (a : Addr) (o : AO) : Mem := fun b => if b = a then some o else m b
def mdel (m : Mem) (a : Addr) : Mem := fun b => if b = a then none else m b
theorem mset_same {m : Mem} {a : Addr} {o : AO} : mset m a o a = some o := if_pos rfl
theorem mset_ne {m : Mem} {a b : Addr} {o : AO} (h : b ≠ a) : mset m a o b = m b := if_neg h
theorem mset_mset {m : Mem} {a : Addr} {o u : AO} : mset (mset m a o) a u = mset m a u := by
  funext b; unfold mset; split <;> rfl
theorem mdel_same {m : Mem} {a : Addr} : mdel m a a = none := if_pos rfl
theorem mdel_ne {m : Mem} {a b : Addr} (h : b ≠ a) : mdel m a b = m b := if_neg h
theorem mdel_mset {m : Mem} {a : Addr} {o : AO} (h : m a = none) : mdel (mset m a o) a = m := by
  funext b; unfold mdel mset; split
  · rename_i e; rw [e, h]
  · rfl
theorem mne {m : Mem} {a b : Addr} {o : AO} (h : m a = some o) (h' : m b = none) : a ≠ b := by
  intro e; subst e; rw [h] at h'; cases h'
/-- what is walked stands among the facts; what may change does not -/
def GC (o : AO) (g h : Option HO) : Prop := match o with
  | .fz _ => g = h
  | .fzT _ => g = h
  | _ => g = none
def NF (o : AO) : Prop := match o with
  | .fz _ => False
  | .fzT _ => False
  | _ => True
theorem GC.none_ {o : AO} {g h : Option HO} (n : NF o) (c : GC o g h) : g = none := by cases o <;> first | exact c | exact n.elim
theorem NF.gc {o : AO} {h : Option HO} (n : NF o) : GC o none h := by cases o <;> first | exact rfl | exact n.elim
structure RelM (K : PySem.W.Frag) (m : Mem) (G H : Hp) : Prop where
  sub : Sub G H
  mem : ∀ a o, m a = some o → GC o (G a) (H a) ∧ ∃ u, H a = some u ∧ RO K G o u
structure RelS (K : PySem.W.Frag) (s : DSt) (G : Hp) (σ : St) : Prop where
  len : s.length = σ.length
  loc : ∀ (i : Nat) (d : D), s[i]? = some (some d) → ∃ v, σ[i]? = some (some v) ∧ RV K G d v
section
variable {K : PySem.W.Frag} {s : DSt} {m m' : Mem} {G G' H H' : Hp} {σ : St} {a p : Addr} {o : AO} {u : HO} {d : D} {v : V}
theorem RelS.mono (r : RelS K s G σ) (e : Sub G G') : RelS K s G' σ := ⟨r.len, fun i d h => let ⟨v, h1, h2⟩ := r.loc i d h; ⟨v, h1, RV.mono e d h2⟩⟩
theorem RelS.set (r : RelS K s G σ) (i : Nat) (h : RV K G d v) : RelS K (s.set i (some d)) G (σ.set i (some v)) := by
  refine ⟨by rw [List.length_set, List.length_set]; exact r.len, fun j e hj => ?_⟩
  rw [List.getElem?_set] at hj
  rw [List.getElem?_set]
  split at hj
  · rename_i e1
    subst e1
    split at hj
    · rename_i h2
      have hj : d = e := Option.some.inj (Option.some.inj hj)
      subst hj
      rw [if_pos rfl, if_pos (by rw [← r.len]; exact h2)]
      exact ⟨v, rfl, h⟩
    · cases hj
  · rename_i e1
    rw [if_neg e1]
    exact r.loc j e hj
/-- a thing that may change is laid -/
theorem RelM.new (r : RelM K m G H) (hp : H p = none) (h : RO K G o u) (n : NF o := by exact trivial) : RelM K (mset m p o) G (upd H p u) := by
  have gp : G p = none := by
    cases e : G p with
    | none => rfl
    | some w => have := r.sub p w e; rw [hp] at this; cases this
  refine ⟨fun a w e => by rw [upd_ne (ne_of_none e gp)]; exact r.sub a w e, fun a w e => ?_⟩
  by_cases ha : a = p
  · subst ha
    rw [mset_same] at e; cases e
    rw [gp]
    exact ⟨n.gc, u, upd_same, h⟩
  · rw [mset_ne ha] at e
    obtain ⟨h1, w', h2, h3⟩ := r.mem a w e
    exact ⟨by rw [upd_ne ha]; exact h1, w', by rw [upd_ne ha]; exact h2, h3⟩
/-- a fact that never ceases is laid -/
theorem RelM.lay (r : RelM K m G H) (hp : H p = none) : RelM K m (upd G p u) (upd H p u) ∧ Sub G (upd G p u) := by
  have gp : G p = none := by
    cases e : G p with
    | none => rfl
    | some w => have := r.sub p w e; rw [hp] at this; cases this
  have s1 : Sub G (upd G p u) := Sub.new gp
  refine ⟨⟨fun a w e => ?_, fun a w e => ?_⟩, s1⟩
  · by_cases ha : a = p
    · subst ha; rw [upd_same] at e ⊢; exact e
    · rw [upd_ne ha] at e ⊢; exact r.sub a w e
  · obtain ⟨h1, w', h2, h3⟩ := r.mem a w e
    have ha : a ≠ p := ne_of_none h2 hp
    exact ⟨by rw [upd_ne ha, upd_ne ha]; exact h1, w', by rw [upd_ne ha]; exact h2, h3.mono s1⟩
/-- what may change is changed -/
theorem RelM.put (r : RelM K m G H) {o' : AO} (hm : m a = some o') (h : RO K G o u) (n : NF o := by exact trivial) (n' : NF o' := by exact trivial) : RelM K (mset m a o) G (upd H a u) := by
  obtain ⟨g, _⟩ := r.mem a o' hm
  have g := g.none_ n'
  refine ⟨fun b w e => by rw [upd_ne (fun z => by subst z; rw [g] at e; cases e)]; exact r.sub b w e, fun b w e => ?_⟩
  by_cases hb : b = a
  · subst hb
    rw [mset_same] at e; cases e
    rw [g]
    exact ⟨n.gc, u, upd_same, h⟩
  · rw [mset_ne hb] at e
    obtain ⟨h1, w', h2, h3⟩ := r.mem b w e
    exact ⟨by rw [upd_ne hb]; exact h1, w', by rw [upd_ne hb]; exact h2, h3⟩
theorem RelM.free (r : RelM K m G H) (hp : H p = none) : m p = none := by
  cases e : m p with
  | none => rfl
  | some o => obtain ⟨_, u, h, _⟩ := r.mem p o e; rw [hp] at h; cases h
/-- an untracked change of the heap at new places (a dict of an instance) -/
theorem RelM.frame (r : RelM K m G H) (h : ∀ a o, H a = some o → H' a = some o) : RelM K m G H' :=
  ⟨fun a o e => h a o (r.sub a o e), fun a o e => let ⟨h1, u, h2, h3⟩ := r.mem a o e; ⟨by rw [h2] at h1; rw [h a u h2]; exact h1, u, h a u h2, h3⟩⟩
/-- a list that is never changed any more -/
theorem RelM.freeze {ds : List D} (r : RelM K m G H) (hm : m a = some (.lst ds)) : ∃ G', Sub G G' ∧ RelM K (mdel m a) G' H ∧ RV K G' (.lst ds) (.ref a) := by
  obtain ⟨g, u, hu, xs, rfl, h⟩ := r.mem a _ hm
  have s1 : Sub G (upd G a (.lst xs)) := Sub.new g
  refine ⟨upd G a (.lst xs), s1, ⟨fun b w e => ?_, fun b w e => ?_⟩, a, xs, rfl, .inl (.inl upd_same), RVs.mono s1 _ h⟩
  · by_cases hb : b = a
    · subst hb; rw [upd_same] at e; rw [hu]; exact e
    · rw [upd_ne hb] at e; exact r.sub b w e
  · by_cases hb : b = a
    · subst hb; rw [mdel_same] at e; cases e
    · rw [mdel_ne hb] at e
      obtain ⟨h1, w', h2, h3⟩ := r.mem b w e
      exact ⟨by rw [upd_ne hb]; exact h1, w', h2, h3.mono s1⟩
end
def unl (G : Hp) (a : Addr) : Hp := fun b => if b = a then none else G b
theorem unl_ne {G : Hp} {a b : Addr} (h : b ≠ a) : unl G a b = G b := if_neg h
theorem unl_same {G : Hp} {a : Addr} : unl G a a = none := if_pos rfl
-- what is walked: no fact about tuples and lists hangs on it
mutual
theorem RV.unfz {K : PySem.W.Frag} {G : Hp} {a : Addr} {od : Obj} {w : HO} (h : G a = some (.frz od w)) (hw : ∀ xs, w ≠ .tup xs ∧ w ≠ .lst xs) : ∀ (d : D) {v : V}, RV K G d v → RV K (unl G a) d v
  | .non, _, h => h
  | .bl _, _, h => h
  | .int _, _, h => h
  | .str _, _, h => h
  | .ref _, _, h => h
  | .tup ds, _, ⟨b, xs, h1, h2, h3⟩ => ⟨b, xs, h1, by
      rcases h2 with (h2 | ⟨o, h2⟩) | h2
      · exact .inl (.inl (by rw [unl_ne (fun z => by subst z; rw [h] at h2; cases h2)]; exact h2))
      · exact .inl (.inr ⟨o, by rw [unl_ne (fun z => by subst z; rw [h] at h2; cases h2; exact (hw xs).1 rfl)]; exact h2⟩)
      · exact .inr h2, RVs.unfz h hw ds h3⟩
  | .lst ds, _, ⟨b, xs, h1, h2, h3⟩ => ⟨b, xs, h1, by
      rcases h2 with (h2 | ⟨o, h2⟩) | h2
      · exact .inl (.inl (by rw [unl_ne (fun z => by subst z; rw [h] at h2; cases h2)]; exact h2))
      · exact .inl (.inr ⟨o, by rw [unl_ne (fun z => by subst z; rw [h] at h2; cases h2; exact (hw xs).2 rfl)]; exact h2⟩)
      · exact .inr h2, RVs.unfz h hw ds h3⟩
theorem RVs.unfz {K : PySem.W.Frag} {G : Hp} {a : Addr} {od : Obj} {w : HO} (h : G a = some (.frz od w)) (hw : ∀ xs, w ≠ .tup xs ∧ w ≠ .lst xs) : ∀ (ds : List D) {vs : List V}, RVs K G ds vs → RVs K (unl G a) ds vs
  | [], _, h => h
  | d :: ds, _, ⟨x, r, h1, h2, h3⟩ => ⟨x, r, h1, RV.unfz h hw d h2, RVs.unfz h hw ds h3⟩
end
theorem RKs.unfz {K : PySem.W.Frag} {G : Hp} {a : Addr} {od : Obj} {w : HO} {κ : Type} (h : G a = some (.frz od w)) (hw : ∀ xs, w ≠ .tup xs ∧ w ≠ .lst xs) : ∀ {ds : List (κ × D)} {vs : List (κ × V)}, RKs K G ds vs → RKs K (unl G a) ds vs
  | [], _, h => h
  | p :: ds, _, ⟨x, r, h1, h2, h3⟩ => ⟨x, r, h1, RV.unfz h hw _ h2, RKs.unfz h hw h3⟩
theorem RO.unfz {K : PySem.W.Frag} {G : Hp} {a : Addr} {od : Obj} {w : HO} (h : G a = some (.frz od w)) (hw : ∀ xs, w ≠ .tup xs ∧ w ≠ .lst xs) : ∀ {o : AO} {u : HO}, RO K G o u → RO K (unl G a) o u
  | .lst ds, _, ⟨xs, h1, h2⟩ => ⟨xs, h1, RVs.unfz h hw _ h2⟩
  | .any P, _, ⟨ds, xs, h0, h1, h2⟩ => ⟨ds, xs, h0, h1, RVs.unfz h hw _ h2⟩
  | .dK ds, _, ⟨xs, h1, h2⟩ => ⟨xs, h1, RKs.unfz h hw h2⟩
  | .dT ds, _, ⟨xs, h1, h2⟩ => ⟨xs, h1, RKs.unfz h hw h2⟩
  | .ins C fs, _, ⟨dx, xs, h1, h2⟩ => ⟨dx, xs, h1, RKs.unfz h hw h2⟩
  | .fz ds, _, ⟨o, xs, h1, h2⟩ => ⟨o, xs, h1, RKs.unfz h hw h2⟩
  | .fzT ds, _, ⟨o, xs, h1, h2⟩ => ⟨o, xs, h1, RKs.unfz h hw h2⟩
  | .xd ds, _, ⟨xs, h1, h2⟩ => ⟨xs, h1, RKs.unfz h hw h2⟩
  | .tab q, _, ⟨ps, h1, h2, h3⟩ => ⟨ps, h1, h2, fun pos cv z => let ⟨c, e1, e2⟩ := h3 pos cv z; ⟨c, e1, by rw [unl_ne (fun z => by subst z; rw [h] at e2; unfold LamX.CodeO at e2; cases e2)]; exact e2⟩⟩
/-- a dict is locked for a walk -/
theorem RelM.lock {K : PySem.W.Frag} {m : Mem} {G H : Hp} {a : Addr} {ks : List (Key × D)} {xs : List (Key × V)} (r : RelM K m G H) (hm : m a = some (.dK ks)) (hH : H a = some (.dK xs)) (od : Obj) :
    RelM K (mset m a (.fz ks)) (upd G a (.frz od (.dK xs))) (upd H a (.frz od (.dK xs))) ∧ Sub G (upd G a (.frz od (.dK xs))) := by
  obtain ⟨g, u, hu, ys, rfl, hr⟩ := r.mem a _ hm
  rw [hH] at hu; cases hu
  have s1 : Sub G (upd G a (.frz od (.dK xs))) := Sub.new g
  refine ⟨⟨fun b w e => ?_, fun b w e => ?_⟩, s1⟩
  · by_cases hb : b = a
    · subst hb; rw [upd_same] at e ⊢; exact e
    · rw [upd_ne hb] at e ⊢; exact r.sub b w e
  · by_cases hb : b = a
    · subst hb
      rw [mset_same] at e; cases e
      exact ⟨by rw [upd_same, upd_same]; rfl, _, upd_same, od, xs, rfl, RKs.mono s1 hr⟩
    · rw [mset_ne hb] at e
      obtain ⟨h1, w', h2, h3⟩ := r.mem b w e
      exact ⟨by rw [upd_ne hb, upd_ne hb]; exact h1, w', by rw [upd_ne hb]; exact h2, h3.mono s1⟩
/-- .. and unlocked behind it -/
theorem RelM.unlock {K : PySem.W.Frag} {m : Mem} {G0 G H : Hp} {a : Addr} {ks : List (Key × D)} {xs : List (Key × V)} {od : Obj} (r : RelM K m G H) (g0 : G0 a = none) (hs : Sub (upd G0 a (.frz od (.dK xs))) G) (hk : RKs K G0 ks xs) :
    H a = some (.frz od (.dK xs)) ∧ Sub G0 (unl G a) ∧ RelM K (mset m a (.dK ks)) (unl G a) (upd H a (.dK xs)) := by
  have ga : G a = some (.frz od (.dK xs)) := hs a _ upd_same
  have s0 : Sub G0 (unl G a) := fun b w e => by
    have hb : b ≠ a := fun z => by subst z; rw [g0] at e; cases e
    rw [unl_ne hb]
    exact hs b w (by rw [upd_ne hb]; exact e)
  have hw : ∀ ys, (HO.dK xs) ≠ .tup ys ∧ (HO.dK xs) ≠ .lst ys := fun ys => ⟨(fun z => by cases z), fun z => by cases z⟩
  refine ⟨r.sub a _ ga, s0, ⟨fun b w e => ?_, fun b w e => ?_⟩⟩
  · by_cases hb : b = a
    · rw [hb, unl_same] at e; cases e
    · rw [unl_ne hb] at e; rw [upd_ne hb]; exact r.sub b w e
  · by_cases hb : b = a
    · subst hb
      rw [mset_same] at e; cases e
      exact ⟨unl_same, _, upd_same, xs, rfl, RKs.mono s0 hk⟩
    · rw [mset_ne hb] at e
      obtain ⟨h1, w', h2, h3⟩ := r.mem b w e
      refine ⟨?_, w', by rw [upd_ne hb]; exact h2, RO.unfz ga hw h3⟩
      rw [unl_ne hb, upd_ne hb]
      exact h1
/-- m' tells less than m -/
def ALe : AO → AO → Prop
  | .lst ds, .any P => P ds
  | .any P, .any P' => ∀ ds, P ds → P' ds
  | o, o' => o = o'
def MLe (m m' : Mem) : Prop := ∀ a o', m' a = some o' → ∃ o, m a = some o ∧ (o = o' ∨ (∃ ds P, o = .lst ds ∧ o' = .any P ∧ P ds) ∨ ∃ P P', o = .any P ∧ o' = .any P' ∧ ∀ ds, P ds → P' ds)
theorem MLe.refl (m : Mem) : MLe m m := fun _ o h => ⟨o, h, .inl rfl⟩
theorem RelM.le {K : PySem.W.Frag} {m m' : Mem} {G H : Hp} (r : RelM K m G H) (h : MLe m m') : RelM K m' G H := ⟨r.sub, fun a o e => by
  obtain ⟨o', h1, h2⟩ := h a o e
  obtain ⟨g, u, hu, ho⟩ := r.mem a o' h1
  rcases h2 with rfl | ⟨ds, P, rfl, rfl, p⟩ | ⟨P, P', rfl, rfl, p⟩
  · exact ⟨g, u, hu, ho⟩
  · obtain ⟨xs, e1, e2⟩ := ho; exact ⟨g, u, hu, ds, xs, p, e1, e2⟩
  · obtain ⟨ds, xs, p0, e1, e2⟩ := ho; exact ⟨g, u, hu, ds, xs, p ds p0, e1, e2⟩⟩
theorem MLe.close {m : Mem} {a : Addr} {ds : List D} {P : List D → Prop} (hm : m a = some (.any P)) (p : P ds) : MLe (mset m a (.lst ds)) m := fun b o h => by
  by_cases hb : b = a
  · subst hb
    rw [hm] at h; cases h
    exact ⟨_, mset_same, .inr (.inl ⟨ds, P, rfl, rfl, p⟩)⟩
  · exact ⟨o, by rw [mset_ne hb]; exact h, .inl rfl⟩
theorem MLe.drop {m : Mem} {a : Addr} {o : AO} (hm : m a = none) : MLe (mset m a o) m := fun b u h => ⟨u, by rw [mset_ne (mne h hm)]; exact h, .inl rfl⟩
end L3
namespace L3
open PySem L2
/-! ### readings over data -/
abbrev DK := D → Mem → Prop
abbrev QE := DSt → Mem → DK → Prop
abbrev QT := DSt → Mem → (Bool → Mem → Prop) → Prop
abbrev QA := DSt → Mem → (List D → Mem → Prop) → Prop
/-- what is wanted of an exception: its class, its own fields -/
abbrev DX := Value → List (Str × D) → Mem → Prop
structure DE where
  nx : DSt → Mem → Prop
  rt : DK
  bk : DSt → Mem → Prop
  ct : DSt → Mem → Prop
abbrev QS := DE → DSt → Mem → Prop
abbrev LSp := List D → Mem → DK → Prop
abbrev LSpX := List D → Mem → DK → DX → Prop
section
variable (K : PySem.W.Frag)
def KQ (G : Hp) (Φ : DK) (Q : VK) : Prop := ∀ G' d m' v H', Sub G G' → RelM K m' G' H' → RV K G' d v → Φ d m' → Q v H'
def KB (G : Hp) (Φ : Bool → Mem → Prop) (Q : Bool → Hp → Prop) : Prop := ∀ G' b m' H', Sub G G' → RelM K m' G' H' → Φ b m' → Q b H'
def KA (G : Hp) (Φ : List D → Mem → Prop) (Q : List V → Hp → Prop) : Prop := ∀ G' ds m' vs H', Sub G G' → RelM K m' G' H' → RVs K G' ds vs → Φ ds m' → Q vs H'
def KS (G : Hp) (Φ : DSt → Mem → Prop) (Q : St → Hp → Prop) : Prop := ∀ G' s' m' σ' H', Sub G G' → RelM K m' G' H' → RelS K s' G' σ' → Φ s' m' → Q σ' H'
def KX (G : Hp) (Ψ : DX) (E : XK) : Prop := ∀ G' cls fs m' od H', Sub G G' → RelM K m' G' H' → ((od = none ∧ fs = []) ∨ ∃ d xs, od = some d ∧ H' d = some (.xd xs) ∧ RKs K G' fs xs) → Ψ cls fs m' → E cls od H'
def liftE (q : QE) : TE := fun σ H Q => ∃ G s m Φ, RelM K m G H ∧ RelS K s G σ ∧ q s m Φ ∧ KQ K G Φ Q
def liftT (q : QT) : TT := fun σ H Q => ∃ G s m Φ, RelM K m G H ∧ RelS K s G σ ∧ q s m Φ ∧ KB K G Φ Q
def liftA (q : QA) : TA := fun σ H Q => ∃ G s m Φ, RelM K m G H ∧ RelS K s G σ ∧ q s m Φ ∧ KA K G Φ Q
def liftS (q : QS) : TS := fun D σ H => ∃ (G : Hp) (s : DSt) (m : Mem) (E : DE), RelM K m G H ∧ RelS K s G σ ∧ q E s m ∧ KS K G E.nx D.nx ∧ KQ K G E.rt D.rt ∧ KS K G E.bk D.bk ∧ KS K G E.ct D.ct
def liftSp (sp : LSp) : Sp := fun vs H Q _ => ∃ G m ds Φ, RelM K m G H ∧ RVs K G ds vs ∧ sp ds m Φ ∧ KQ K G Φ Q
def liftSpX (sp : LSpX) : Sp := fun vs H Q E => ∃ G m ds Φ Ψ, RelM K m G H ∧ RVs K G ds vs ∧ sp ds m Φ Ψ ∧ KQ K G Φ Q ∧ KX K G Ψ E
def liftR (q : D → D → Mem → DK → Prop) : R2 := fun x y H Q => ∃ G m dx dy Φ, RelM K m G H ∧ RV K G dx x ∧ RV K G dy y ∧ q dx dy m Φ ∧ KQ K G Φ Q
def liftU (q : D → Mem → DK → Prop) : V → Hp → VK → Prop := fun x H Q => ∃ G m dx Φ, RelM K m G H ∧ RV K G dx x ∧ q dx m Φ ∧ KQ K G Φ Q
def liftTr (q : D → Mem → (Bool → Mem → Prop) → Prop) : V → Hp → (Bool → Hp → Prop) → Prop := fun x H Q => ∃ G m dx Φ, RelM K m G H ∧ RV K G dx x ∧ q dx m Φ ∧ KB K G Φ Q
def liftC (q : LSp) : List V → Hp → VK → Prop := fun vs H Q => ∃ G m ds Φ, RelM K m G H ∧ RVs K G ds vs ∧ q ds m Φ ∧ KQ K G Φ Q
def liftMt (q : D → LSp) : V → List V → Hp → VK → Prop := fun x vs H Q => ∃ G m dx ds Φ, RelM K m G H ∧ RV K G dx x ∧ RVs K G ds vs ∧ q dx ds m Φ ∧ KQ K G Φ Q
end
section
variable {K : PySem.W.Frag} {G G' : Hp}
theorem KQ.mono {Φ : DK} {Q : VK} (k : KQ K G Φ Q) (e : Sub G G') : KQ K G' Φ Q := fun G2 d m v H e2 => k G2 d m v H (e.trans e2)
theorem KB.mono {Φ : Bool → Mem → Prop} {Q : Bool → Hp → Prop} (k : KB K G Φ Q) (e : Sub G G') : KB K G' Φ Q := fun G2 d m H e2 => k G2 d m H (e.trans e2)
theorem KS.mono {Φ : DSt → Mem → Prop} {Q : St → Hp → Prop} (k : KS K G Φ Q) (e : Sub G G') : KS K G' Φ Q := fun G2 d m v H e2 => k G2 d m v H (e.trans e2)
end
/-! ### consequence -/
section
variable {X : Cx}
theorem pe_imp {e : Expr} {t t' : TE} (h : PE X e t) (i : ∀ σ H Q, t' σ H Q → t σ H Q) : PE X e t' := ⟨fun pins s σ H Q I w => h.run pins s σ H Q I (i σ H Q w)⟩
theorem pt_imp {e : Expr} {t t' : TT} (h : PT X e t) (i : ∀ σ H Q, t' σ H Q → t σ H Q) : PT X e t' := ⟨fun pins s σ H Q I w => h.run pins s σ H Q I (i σ H Q w)⟩
theorem pw_imp {e : Expr} {t t' : TT} (h : PW X e t) (i : ∀ σ H Q, t' σ H Q → t σ H Q) : PW X e t' := ⟨fun wh pins s σ H Q I w => h.run wh pins s σ H Q I (i σ H Q w)⟩
theorem pa_imp {e : List Expr} {t t' : TA} (h : PA X e t) (i : ∀ σ H Q, t' σ H Q → t σ H Q) : PA X e t' := ⟨fun pos pins s σ H Q I w => h.run pos pins s σ H Q I (i σ H Q w)⟩
theorem ps_imp {e : Stmt} {t t' : TS} (h : PS X e t) (i : ∀ D σ H, t' D σ H → t D σ H) : PS X e t' := ⟨fun pins s σ H D I w => h.run pins s σ H D I (i D σ H w)⟩
theorem pss_imp {e : List Stmt} {t t' : TS} (h : PSs X e t) (i : ∀ D σ H, t' D σ H → t D σ H) : PSs X e t' := ⟨fun pins s σ H D I w => h.run pins s σ H D I (i D σ H w)⟩
theorem op_imp {f : Value → Value → Sem Value} {r r' : R2} (h : OpR X f r) (i : ∀ x y H Q, r' x y H Q → r x y H Q) : OpR X f r' := fun pins s σ H x y v u Q I rx ry w => h pins s σ H x y v u Q I rx ry (i x y H Q w)
theorem call_imp {f : Value} {r r' : List V → Hp → VK → Prop} (h : CallR X f r) (i : ∀ x H Q, r' x H Q → r x H Q) : CallR X f r' := fun pins s σ H x u Q I rx w => h pins s σ H x u Q I rx (i x H Q w)
theorem ix_imp {r r' : R2} (h : IxR X r) (i : ∀ x y H Q, r' x y H Q → r x y H Q) : IxR X r' := fun value slice pins s σ H x y v u Q I rx ry w => h value slice pins s σ H x y v u Q I rx ry (i x y H Q w)
theorem mt_imp {id : String} {r r' : V → List V → Hp → VK → Prop} (h : MtR X id r) (i : ∀ x xs H Q, r' x xs H Q → r x xs H Q) : MtR X id r' := fun pins s σ H x xs v us Q I rx ry w => h pins s σ H x xs v us Q I rx ry (i x xs H Q w)
end
/-! ### names and constants -/
def look : DSt → Nat → Option D
  | [], _ => none
  | x :: _, 0 => x
  | _ :: r, n + 1 => look r n
theorem look_get : ∀ {s : DSt} {i : Nat} {d : D}, look s i = some d → s[i]? = some (some d)
  | [], _, _, h => by cases h
  | x :: _, 0, d, h => by rw [show x = some d from h]; rfl
  | _ :: r, n + 1, d, h => by
    have := look_get (s := r) (i := n) h
    simpa using this
def qVar (i : Nat) : QE := fun s m Φ => match look s i with | some d => Φ d m | none => False
def qC (d : D) : QE := fun _ m Φ => Φ d m
section
variable {X : Cx}
theorem de_var {e : Expr} {i : Nat} (h : PE X e (tVar i)) : PE X e (liftE X.K (qVar i)) := pe_imp h fun σ H Q ⟨G, s, m, Φ, r, rs, q, k⟩ => by
  unfold qVar at q
  cases e : look s i with
  | none => rw [e] at q; exact q.elim
  | some d =>
    rw [e] at q
    obtain ⟨v, h1, h2⟩ := rs.loc i d (look_get e)
    exact ⟨v, h1, k G d m v H (Sub.refl G) r h2 q⟩
/-- the name that stands in the i-th slot -/
theorem dv (i : Nat) {x : Str} {pos : Pos} (hN : X.N[i]? = some x := by rfl) (hv : Vis X.env.scope x := by first | exact Or.inl rfl | exact Or.inr (Or.inl rfl) | exact Or.inr (Or.inr rfl)) (hd : (x == ("__debug__" : Str)) = false := by decide)
    (hcd : (x == ("__classdict__" : Str)) = false := by decide) : PE X (.Name x pos) (liftE X.K (qVar i)) := de_var (pe_var hN hv hd hcd)
theorem de_c {e : Expr} {v : V} (d : D) (h : PE X e (tC v)) (r : ∀ G, RV X.K G d v) : PE X e (liftE X.K (qC d)) := pe_imp h fun σ H Q ⟨G, s, m, Φ, rm, rs, q, k⟩ => k G d m v H (Sub.refl G) rm (r G) q
theorem de_int {i j pos} : PE X (.Constant (.int i) j pos) (liftE X.K (qC (.int i))) := de_c _ pe_int fun _ => rfl
theorem de_bl {i j pos} : PE X (.Constant (.bool i) j pos) (liftE X.K (qC (.bl i))) := de_c _ pe_bl fun _ => rfl
theorem de_non {j pos} : PE X (.Constant .none j pos) (liftE X.K (qC .non)) := de_c _ pe_non fun _ => rfl
theorem de_str {i j pos} : PE X (.Constant (.str i) j pos) (liftE X.K (qC (.str i))) := de_c _ pe_str fun _ => rfl
end
/-! ### two-place operations -/
def qOp (r : D → D → Mem → DK → Prop) (qa qb : QE) : QE := fun s m Φ => qa s m fun x m1 => qb s m1 fun y m2 => r x y m2 Φ
section
variable {X : Cx} {a b c : Expr} {qa qb qc : QE} {pos : Pos}
theorem lift_op {K : PySem.W.Frag} {r : D → D → Mem → DK → Prop} : ∀ σ H Q, liftE K (qOp r qa qb) σ H Q → tOp (liftR K r) (liftE K qa) (liftE K qb) σ H Q := fun σ H Q ⟨G, s, m, Φ, rm, rs, q, k⟩ =>
  ⟨G, s, m, _, rm, rs, q, fun G1 x m1 v H1 e1 r1 rx q1 => ⟨G1, s, m1, _, r1, rs.mono e1, q1, fun G2 y m2 u H2 e2 r2 ry q2 => ⟨G2, m2, x, y, Φ, r2, RV.mono e2 x rx, ry, q2, k.mono (e1.trans e2)⟩⟩⟩
theorem de_op {op : Operator} {r : D → D → Mem → DK → Prop} (ho : OpR X (binaryOp op) (liftR X.K r)) (ha : PE X a (liftE X.K qa)) (hb : PE X b (liftE X.K qb)) : PE X (.BinOp a op b pos) (liftE X.K (qOp r qa qb)) := pe_imp (pe_op ho ha hb) lift_op
theorem de_cmp {op : CmpOp} {r : D → D → Mem → DK → Prop} (ho : OpR X (compareOp op) (liftR X.K r)) (ha : PE X a (liftE X.K qa)) (hb : PE X b (liftE X.K qb)) (hm : behindInMarks op b = false) : PE X (.Compare a [op] [b] pos) (liftE X.K (qOp r qa qb)) := pe_imp (pe_cmpR ho ha hb hm) lift_op
/-- a value that is a bool, as a test -/
def qB (q : QE) : QT := fun s m Φ => q s m fun d m1 => match d with | .bl b => Φ b m1 | _ => False
theorem lift_B {K : PySem.W.Frag} : ∀ σ H Q, liftT K (qB qa) σ H Q → tB (liftE K qa) σ H Q := fun σ H Q ⟨G, s, m, Φ, rm, rs, q, k⟩ =>
  ⟨G, s, m, _, rm, rs, q, fun G1 x m1 v H1 e1 r1 rx q1 => by
    cases x with
    | bl b => exact ⟨b, rx, k G1 b m1 H1 e1 r1 q1⟩
    | _ => exact q1.elim⟩
theorem dt_cmp {op : CmpOp} {r : D → D → Mem → DK → Prop} (ho : OpR X (compareOp op) (liftR X.K r)) (ha : PE X a (liftE X.K qa)) (hb : PE X b (liftE X.K qb)) (hm : behindInMarks op b = false) : PT X (.Compare a [op] [b] pos) (liftT X.K (qB (qOp r qa qb))) :=
  pt_imp (pt_cmpR ho ha hb hm) fun σ H Q h => by
    obtain ⟨G, s, m, Φ, rm, rs, q, k⟩ := lift_B (K := X.K) σ H Q h
    exact lift_op σ H _ ⟨G, s, m, Φ, rm, rs, q, k⟩
theorem dt_val {e : Expr} {qe : QE} (h : PE X e (liftE X.K qe)) (he : ∀ whole, isTrue e X.env whole = (do let v ← whole; standAt e.pos; holding [v] (truthy v)) := by intro _; rfl) : PT X e (liftT X.K (qB qe)) := pt_imp (pt_val h he) lift_B
/-- a branch on a known bool -/
@[irreducible] def qIf (c : Bool) (A B : Prop) : Prop := if c = true then A else B
theorem qif {c : Bool} {A B : Prop} (h1 : c = true → A) (h2 : c = false → B) : qIf c A B := by
  unfold qIf; split
  · rename_i h; exact h1 h
  · rename_i h; exact h2 (by simpa using h)
theorem qif_t {c : Bool} {A B : Prop} (h : c = true) (a : A) : qIf c A B := qif (fun _ => a) (fun z => by rw [h] at z; cases z)
theorem qif_f {c : Bool} {A B : Prop} (h : c = false) (b : B) : qIf c A B := qif (fun z => by rw [h] at z; cases z) (fun _ => b)
theorem qif_e {c : Bool} {A B : Prop} (h : qIf c A B) : if c = true then A else B := by unfold qIf at h; exact h
/-- a op1 b op2 c -/
def qChain (r r' : D → D → Mem → DK → Prop) (qa qb qc : QE) : QE := fun s m Φ => qa s m fun x m1 => qb s m1 fun y m2 => r x y m2 fun z m3 => match z with
  | .bl c => qIf c (qc s m3 fun w m4 => r' y w m4 Φ) (Φ (.bl false) m3)
  | _ => False
end
/-! ### truth -/
def truD (d : D) (m : Mem) (Φ : Bool → Mem → Prop) : Prop := match d with
  | .non => Φ false m
  | .bl b => Φ b m
  | .int i => Φ (i != 0) m
  | .str y => y.length ≤ sizeLine ∧ Φ ((y.length : Int) != 0) m
  | .tup ds => Φ (!ds.isEmpty) m
  | .lst ds => Φ (!ds.isEmpty) m
  | .ref a => (∃ ds, m a = some (.lst ds) ∧ Φ (!ds.isEmpty) m) ∨ ∃ ks, m a = some (.dK ks) ∧ Φ (!ks.isEmpty) m
def qTru (q : QE) : QT := fun s m Φ => q s m fun d m1 => truD d m1 Φ
section
variable {X : Cx} {a b : Expr} {qa qb : QE} {ta tb : QT} {pos : Pos} {rest : List Expr}
/-- and, or, not as tests -/
def qAnd (t u : QT) : QT := fun s m Φ => t s m fun c m1 => qIf c (u s m1 Φ) (Φ false m1)
def qOr (t u : QT) : QT := fun s m Φ => t s m fun c m1 => qIf c (Φ true m1) (u s m1 Φ)
def qNot (t : QT) : QT := fun s m Φ => t s m fun c m1 => Φ (!c) m1
theorem dw_and1 (ha : PT X a (liftT X.K ta)) : PW X (.BoolOp .And [a] pos) (liftT X.K ta) := pw_and1 ha
theorem dw_or1 (ha : PT X a (liftT X.K ta)) : PW X (.BoolOp .Or [a] pos) (liftT X.K ta) := pw_or1 ha
theorem dw_and (ha : PT X a (liftT X.K ta)) (hb : PW X (.BoolOp .And (b :: rest) pos) (liftT X.K tb)) : PW X (.BoolOp .And (a :: b :: rest) pos) (liftT X.K (qAnd ta tb)) :=
  pw_imp (pw_and ha hb) fun σ H Q ⟨G, s, m, Φ, rm, rs, q, k⟩ => ⟨G, s, m, _, rm, rs, q, fun G1 c m1 H1 e1 r1 q1 => by
    have q1 := qif_e q1
    dsimp only
    cases c with
    | true => rw [if_pos rfl] at q1 ⊢; exact ⟨G1, s, m1, Φ, r1, rs.mono e1, q1, k.mono e1⟩
    | false => rw [if_neg Bool.false_ne_true] at q1 ⊢; exact k G1 false m1 H1 e1 r1 q1⟩
theorem dw_or (ha : PT X a (liftT X.K ta)) (hb : PW X (.BoolOp .Or (b :: rest) pos) (liftT X.K tb)) : PW X (.BoolOp .Or (a :: b :: rest) pos) (liftT X.K (qOr ta tb)) :=
  pw_imp (pw_or ha hb) fun σ H Q ⟨G, s, m, Φ, rm, rs, q, k⟩ => ⟨G, s, m, _, rm, rs, q, fun G1 c m1 H1 e1 r1 q1 => by
    have q1 := qif_e q1
    dsimp only
    cases c with
    | false => rw [if_neg Bool.false_ne_true] at q1 ⊢; exact ⟨G1, s, m1, Φ, r1, rs.mono e1, q1, k.mono e1⟩
    | true => rw [if_pos rfl] at q1 ⊢; exact k G1 true m1 H1 e1 r1 q1⟩
theorem dt_not (ha : PT X a (liftT X.K ta)) : PT X (.UnaryOp .Not a pos) (liftT X.K (qNot ta)) :=
  pt_imp (pt_not ha) fun σ H Q ⟨G, s, m, Φ, rm, rs, q, k⟩ => ⟨G, s, m, _, rm, rs, q, fun G1 c m1 H1 e1 r1 q1 => k G1 _ m1 H1 e1 r1 q1⟩
/-- .. as values that are bools -/
def qAndV (qa qb : QE) : QE := fun s m Φ => qa s m fun x m1 => match x with | .bl c => qIf c (qb s m1 Φ) (Φ (.bl false) m1) | _ => False
def qOrV (qa qb : QE) : QE := fun s m Φ => qa s m fun x m1 => match x with | .bl c => qIf c (Φ (.bl true) m1) (qb s m1 Φ) | _ => False
def qNotV (qa : QE) : QE := fun s m Φ => qa s m fun x m1 => match x with | .bl c => Φ (.bl (!c)) m1 | _ => False
theorem de_one {op} (h : PE X a (liftE X.K qa)) : PE X (.BoolOp op [a] pos) (liftE X.K qa) := pe_one h
theorem de_and (ha : PE X a (liftE X.K qa)) (hb : PE X (.BoolOp .And (b :: rest) pos) (liftE X.K qb)) : PE X (.BoolOp .And (a :: b :: rest) pos) (liftE X.K (qAndV qa qb)) :=
  pe_imp (pe_and ha hb) fun σ H Q ⟨G, s, m, Φ, rm, rs, q, k⟩ => ⟨G, s, m, _, rm, rs, q, fun G1 x m1 v H1 e1 r1 rx q1 => by
    cases x with
    | bl c =>
      obtain rfl : v = .bl c := rx
      have q1 := qif_e q1
      refine ⟨c, rfl, ?_⟩
      cases c with
      | true => rw [if_pos rfl] at q1 ⊢; exact ⟨G1, s, m1, Φ, r1, rs.mono e1, q1, k.mono e1⟩
      | false => rw [if_neg Bool.false_ne_true] at q1 ⊢; exact k G1 (.bl _) m1 _ H1 e1 r1 rfl q1
    | _ => exact q1.elim⟩
theorem de_not (ha : PE X a (liftE X.K qa)) : PE X (.UnaryOp .Not a pos) (liftE X.K (qNotV qa)) :=
  pe_imp (pe_not ha) fun σ H Q ⟨G, s, m, Φ, rm, rs, q, k⟩ => ⟨G, s, m, _, rm, rs, q, fun G1 x m1 v H1 e1 r1 rx q1 => by
    cases x with
    | bl c => exact ⟨c, rx, k G1 (.bl _) m1 _ H1 e1 r1 rfl q1⟩
    | _ => exact q1.elim⟩
/-- a if t else b -/
def qIfE (t : QT) (qa qb : QE) : QE := fun s m Φ => t s m fun c m1 => qIf c (qa s m1 Φ) (qb s m1 Φ)
theorem de_if {c : Expr} (hc : PT X c (liftT X.K ta)) (ha : PE X a (liftE X.K qa)) (hb : PE X b (liftE X.K qb)) : PE X (.IfExp c a b pos) (liftE X.K (qIfE ta qa qb)) :=
  pe_imp (pe_ifExp hc ha hb) fun σ H Q ⟨G, s, m, Φ, rm, rs, q, k⟩ => ⟨G, s, m, _, rm, rs, q, fun G1 c m1 H1 e1 r1 q1 => by
    have q1 := qif_e q1
    dsimp only
    cases c with
    | true => rw [if_pos rfl] at q1 ⊢; exact ⟨G1, s, m1, Φ, r1, rs.mono e1, q1, k.mono e1⟩
    | false => rw [if_neg Bool.false_ne_true] at q1 ⊢; exact ⟨G1, s, m1, Φ, r1, rs.mono e1, q1, k.mono e1⟩⟩
end
/-! ### argument lists, displays -/
def qNil : QA := fun _ m Φ => Φ [] m
def qCons (qa : QE) (qr : QA) : QA := fun s m Φ => qa s m fun x m1 => qr s m1 fun xs m2 => Φ (x :: xs) m2
def qTup (qa : QA) : QE := fun s m Φ => qa s m fun ds m1 => ds.length ≤ sizeLine ∧ Φ (.tup ds) m1
/-- a list display: one that will not be changed | one that may be -/
def qLstF (qa : QA) : QE := fun s m Φ => qa s m fun ds m1 => ds.length ≤ sizeLine ∧ Φ (.lst ds) m1
def qLstM (qa : QA) : QE := fun s m Φ => qa s m fun ds m1 => ds.length ≤ sizeLine ∧ ∀ p, m1 p = none → Φ (.ref p) (mset m1 p (.lst ds))
section
variable {X : Cx} {e : Expr} {es : List Expr} {qe : QE} {qa : QA} {pos : Pos}
theorem da_nil : PA X [] (liftA X.K qNil) := pa_imp pa_nil fun σ H Q ⟨G, s, m, Φ, rm, rs, q, k⟩ => k G [] m [] H (Sub.refl G) rm rfl q
theorem da_cons (ha : PE X e (liftE X.K qe)) (hr : PA X es (liftA X.K qa)) (hs : starEach (e :: es) X.env = (false, eval e X.env) :: starEach es X.env := by rfl) : PA X (e :: es) (liftA X.K (qCons qe qa)) :=
  pa_imp (pa_cons ha hr hs) fun σ H Q ⟨G, s, m, Φ, rm, rs, q, k⟩ => ⟨G, s, m, _, rm, rs, q, fun G1 x m1 v H1 e1 r1 rx q1 => ⟨G1, s, m1, _, r1, rs.mono e1, q1, fun G2 xs m2 vs H2 e2 r2 rxs q2 =>
    k G2 _ m2 _ H2 (e1.trans e2) r2 (RVs.cons (RV.mono e2 x rx) rxs) q2⟩⟩
theorem lift_tup {K : PySem.W.Frag} {G H : Hp} {m : Mem} {ds : List D} {vs : List V} {Φ : DK} {Q : VK} (rm : RelM K m G H) (r : RVs K G ds vs) (q : Φ (.tup ds) m) (k : KQ K G Φ Q) : ∀ p, H p = none → Q (.ref p) (upd H p (.tup vs)) := fun p hp => by
  obtain ⟨r1, e1⟩ := rm.lay (u := .tup vs) hp
  exact k _ (.tup ds) m _ _ e1 r1 ⟨p, vs, rfl, .inl (.inl upd_same), RVs.mono e1 _ r⟩ q
theorem lift_lstF {K : PySem.W.Frag} {G H : Hp} {m : Mem} {ds : List D} {vs : List V} {Φ : DK} {Q : VK} (rm : RelM K m G H) (r : RVs K G ds vs) (q : Φ (.lst ds) m) (k : KQ K G Φ Q) : ∀ p, H p = none → Q (.ref p) (upd H p (.lst vs)) := fun p hp => by
  obtain ⟨r1, e1⟩ := rm.lay (u := .lst vs) hp
  exact k _ (.lst ds) m _ _ e1 r1 ⟨p, vs, rfl, .inl (.inl upd_same), RVs.mono e1 _ r⟩ q
theorem lift_lstM {K : PySem.W.Frag} {G H : Hp} {m : Mem} {ds : List D} {vs : List V} {Φ : DK} {Q : VK} (rm : RelM K m G H) (r : RVs K G ds vs) (q : ∀ p, m p = none → Φ (.ref p) (mset m p (.lst ds))) (k : KQ K G Φ Q) : ∀ p, H p = none → Q (.ref p) (upd H p (.lst vs)) := fun p hp =>
  k G (.ref p) _ _ _ (Sub.refl G) (rm.new (o := .lst ds) hp ⟨vs, rfl, r⟩) rfl (q p (rm.free hp))
theorem de_tup {x1} (h : PA X es (liftA X.K qa)) : PE X (.Tuple es x1 pos) (liftE X.K (qTup qa)) :=
  pe_imp (pe_tup h) fun σ H Q ⟨G, s, m, Φ, rm, rs, q, k⟩ => ⟨G, s, m, _, rm, rs, q, fun G1 ds m1 vs H1 e1 r1 rd q1 => ⟨by rw [← rd.length]; exact q1.1, lift_tup r1 rd q1.2 (k.mono e1)⟩⟩
theorem de_lstF (h : PA X es (liftA X.K qa)) : PE X (.List es pos) (liftE X.K (qLstF qa)) :=
  pe_imp (pe_lst h) fun σ H Q ⟨G, s, m, Φ, rm, rs, q, k⟩ => ⟨G, s, m, _, rm, rs, q, fun G1 ds m1 vs H1 e1 r1 rd q1 => ⟨by rw [← rd.length]; exact q1.1, lift_lstF r1 rd q1.2 (k.mono e1)⟩⟩
theorem de_lstM (h : PA X es (liftA X.K qa)) : PE X (.List es pos) (liftE X.K (qLstM qa)) :=
  pe_imp (pe_lst h) fun σ H Q ⟨G, s, m, Φ, rm, rs, q, k⟩ => ⟨G, s, m, _, rm, rs, q, fun G1 ds m1 vs H1 e1 r1 rd q1 => ⟨by rw [← rd.length]; exact q1.1, lift_lstM r1 rd q1.2 (k.mono e1)⟩⟩
/-- {} -/
def qDNewK : QE := fun _ m Φ => ∀ p, m p = none → Φ (.ref p) (mset m p (.dK []))
def qDNewT : QE := fun _ m Φ => ∀ p, m p = none → Φ (.ref p) (mset m p (.dT []))
theorem de_dnewK : PE X (.Dict [] [] pos) (liftE X.K qDNewK) := pe_imp pe_dnewK fun σ H Q ⟨G, s, m, Φ, rm, rs, q, k⟩ p hp => k G (.ref p) _ _ _ (Sub.refl G) (rm.new (o := .dK []) hp ⟨[], rfl, rfl⟩) rfl (q p (rm.free hp))
end
/-- a list that was just made, taken as one that never changes -/
def qFreeze (qe : QE) : QE := fun s m Φ => qe s m fun d m1 => match d with
  | .ref a => ∃ ds, m1 a = some (.lst ds) ∧ Φ (.lst ds) (mdel m1 a)
  | _ => False
theorem de_freeze {X : Cx} {e : Expr} {qe : QE} (h : PE X e (liftE X.K qe)) : PE X e (liftE X.K (qFreeze qe)) :=
  pe_imp h fun σ H Q ⟨G, s, m, Φ, rm, rs, q, k⟩ => ⟨G, s, m, _, rm, rs, q, fun G1 d m1 v H1 e1 r1 rd q1 => by
    cases d with
    | ref a =>
      obtain rfl : v = .ref a := rd
      obtain ⟨ds, hm, q1⟩ := q1
      obtain ⟨G2, e2, r2, rv⟩ := r1.freeze hm
      exact k G2 _ _ _ H1 (e1.trans e2) r2 rv q1
    | _ => exact q1.elim⟩
/-! ### defs and calls -/
/-- f(..), its promise sp; dds: the defaults -/
def qCall (sp : LSp) (qa : QA) : QE := fun s m Φ => qa s m fun ds m1 => sp ds m1 Φ
def FnD (P : Program) (w : World) (K : PySem.W.Frag) (mg : Str → Option Value) (base : Heap) (k : Nat) (f : Addr) (sp : LSp) : Prop := FnR P w K mg base CX0 k f (liftSp K sp)
section
variable {X : Cx} {k : Nat} {f : Addr} {sp : Sp} {E : XK} {x : Str} {p pos : Pos} {e : Expr} {es : List Expr} {t : TA} {CX : CXT}
theorem pe_callR (F : FnR X.prog X.w X.K X.mg X.base CX k f sp) (hr : Room k X.A) (hg : Gl X x) (hm : X.mg x = some (.ref f)) (hk : PySem.W.keepIn X.K (.ref f) = true) (hx : Passes CX X E)
    (ha : PA X (e :: es) t) (hdb : (x == ("__debug__" : Str)) = false := by decide) (he : starEach (e :: es) X.env = (false, eval e X.env) :: starEach es X.env := by rfl) (hpl : (backTo pos (starEach es X.env)).any (·.1) = false := by rfl) :
    PE X (.Call (.Name x p) (e :: es) [] pos) (fun σ H Q => t σ H fun vs H1 => sp vs H1 Q E) := by
  refine ⟨fun pins s σ H Q I h => ?_⟩
  refine wpAny_Call_Name_kw (ld_glob I hg hm ?_ hdb)
  refine PySem.W.callWith_K (h₀ := X.base) I.ok.mod.kin hk (thn (ha.run pos pins s σ H _ I h) fun us s1 ⟨vs, H1, I1, r, q⟩ => ⟨I1.kIn, ?_⟩) he hpl
  exact wpAny_call (run_fnR F hr hx I1 r q)
theorem lift_call {K : PySem.W.Frag} {qa : QA} {sp : LSp} : ∀ σ H Q, liftE K (qCall sp qa) σ H Q → liftA K qa σ H fun vs H1 => liftSp K sp vs H1 Q E0 := fun σ H Q ⟨G, s, m, Φ, rm, rs, q, k⟩ =>
  ⟨G, s, m, _, rm, rs, q, fun G1 ds m1 vs H1 e1 r1 rd q1 => ⟨G1, m1, ds, Φ, r1, rd, q1, k.mono e1⟩⟩
theorem de_call {sp : LSp} {qa : QA} (F : FnD X.prog X.w X.K X.mg X.base k f sp) (hr : Room k X.A) (hg : Gl X x) (hm : X.mg x = some (.ref f)) (hk : PySem.W.keepIn X.K (.ref f) = true)
    (ha : PA X (e :: es) (liftA X.K qa)) (hdb : (x == ("__debug__" : Str)) = false := by decide) (he : starEach (e :: es) X.env = (false, eval e X.env) :: starEach es X.env := by rfl) (hpl : (backTo pos (starEach es X.env)).any (·.1) = false := by rfl) :
    PE X (.Call (.Name x p) (e :: es) [] pos) (liftE X.K (qCall sp qa)) := pe_imp (pe_callR F hr hg hm hk pass0 ha hdb he hpl) lift_call
/-- the items of a list or a tuple -/
def itemsQ (d : D) (m : Mem) (R : List D → Prop) : Prop := match d with
  | .tup ds => R ds
  | .lst ds => R ds
  | .ref a => ∃ ds, m a = some (.lst ds) ∧ R ds
  | _ => False
theorem items_lift {K : PySem.W.Frag} {d : D} {v : V} {m : Mem} {G H : Hp} {R : List D → Prop} (rm : RelM K m G H) (rv : RV K G d v) (h : itemsQ d m R) : ∃ a ds xs, v = .ref a ∧ (SqT K H a xs ∨ SqL K H a xs) ∧ RVs K G ds xs ∧ R ds := by
  cases d with
  | tup ds => obtain ⟨a, xs, rfl, h1, h2⟩ := rv; exact ⟨a, ds, xs, rfl, .inl (rm.sub.t h1), h2, h⟩
  | lst ds => obtain ⟨a, xs, rfl, h1, h2⟩ := rv; exact ⟨a, ds, xs, rfl, .inr (rm.sub.l h1), h2, h⟩
  | ref a =>
    obtain rfl : v = .ref a := rv
    obtain ⟨ds, hm, h⟩ := h
    obtain ⟨_, u, hu, xs, rfl, h2⟩ := rm.mem a _ hm
    exact ⟨a, ds, xs, rfl, .inr (.inl (.inl hu)), h2, h⟩
  | _ => exact h.elim
/-- f(*y) -/
def qCallS1 (sp : LSp) (qe : QE) : QE := fun s m Φ => qe s m fun d m1 => itemsQ d m1 fun ds => sp ds m1 Φ
def qStar (qe : QE) (qr : QA) : QA := fun s m Φ => qe s m fun d m1 => itemsQ d m1 fun ds => qr s m1 fun es m2 => Φ (ds ++ es) m2
end
/-- a def keeps its promise: its body, from the parameters' data -/
def begin_ (n : Nat) (ds : List D) : DSt := ds.map some ++ List.replicate (n - ds.length) none
theorem relS_start {K : PySem.W.Frag} {G : Hp} {N : List Str} : ∀ {ds : List D} {vs : List V}, RVs K G ds vs → RelS K (begin_ N.length ds) G (L2.start N vs) := fun {ds vs} r => by
  have hl := r.length
  refine ⟨by simp [begin_, L2.start, hl], fun i d h => ?_⟩
  unfold begin_ at h
  unfold L2.start
  by_cases hi : i < ds.length
  · rw [List.getElem?_append_left (by simpa using hi), List.getElem?_map] at h
    cases e : ds[i]? with
    | none => rw [e] at h; cases h
    | some d' =>
      rw [e] at h
      have h : d' = d := Option.some.inj (Option.some.inj h)
      subst h
      obtain ⟨v, h1, h2⟩ := r.get e
      exact ⟨v, by rw [List.getElem?_append_left (by rw [List.length_map, ← hl]; exact hi), List.getElem?_map, h1]; rfl, h2⟩
  · rw [List.getElem?_append_right (by simpa using hi)] at h
    rw [List.getElem?_replicate] at h
    split at h <;> cases h
def bodyE (Φ : DK) : DE := { nx := fun _ m => Φ .non m, rt := Φ, bk := fun _ _ => False, ct := fun _ _ => False }
section
variable {P : Program} {w : World} {K : PySem.W.Frag} {mg : Str → Option Value} {base : Heap}
end
end L3
/-! L3v: two lists joined, whichever they are -/
namespace L3
open PySem PySem.Spec PyProof.Rows L2
def rCatQ (K : PySem.W.Frag) : R2 := fun x y H Q => ∃ l b xs zs, x = .ref l ∧ y = .ref b ∧ SqL K H l xs ∧ SqL K H b zs ∧ xs.length + zs.length ≤ sizeLine ∧ ∀ p, H p = none → Q (.ref p) (upd H p (.lst (xs ++ zs)))
theorem op_catQ {X : Cx} : OpR X (binaryOp .Add) (rCatQ X.K) := by
  intro pins s σ H x y v u Q I rx ry h
  obtain ⟨l, b, xs, zs, rfl, rfl, hH, hB, hz, q⟩ := h
  cases rx
  cases ry
  obtain ⟨its, r, p1, _⟩ := I.list hH
  obtain ⟨its2, r2, p2, _⟩ := I.list hB
  have e1 := r.length
  have e2 := r2.length
  obtain ⟨⟨cls, dd, data, sl⟩, n, ho, hc, _, hd⟩ := p1
  obtain ⟨⟨cls2, dd2, data2, sl2⟩, n2, ho2, hc2, _, hd2⟩ := p2
  simp only at hc hd hc2 hd2
  subst hc hd hc2 hd2
  have ea : its.toArray ++ its2.toArray = (its ++ its2).toArray := by simp
  refine concat_meets ⟨_, ho, rfl⟩ ⟨_, ho2, rfl⟩ noFill_list_add seq_list_add PySem.F.slot_list_add PySem.F.entry_list_add (PySem.F.args_list_add_2 _ _) (list_addW l b its.toArray its2.toArray n n2 dd dd2 sl sl2 (by rw [List.size_toArray, List.size_toArray]; omega)) ⟨ho, ho2, ?_⟩
  rw [ea]
  exact ⟨.ref _, _, I.lnew (t' := s.toks) (r.append r2) (by rw [List.length_append]; omega), rfl, q _ I.fresh⟩
end L3
namespace L3
open PySem L2
/-! ### ints -/
def qI0 (g : Int → Int → D) : D → D → Mem → DK → Prop := fun x y m Φ => match x, y with | .int i, .int j => Φ (g i j) m | _, _ => False
def qIC (C : Int → Int → Prop) (g : Int → Int → D) : D → D → Mem → DK → Prop := fun x y m Φ => match x, y with | .int i, .int j => C i j ∧ Φ (g i j) m | _, _ => False
section
variable {X : Cx}
theorem do_I0 {f : Value → Value → Sem Value} {g : Int → Int → V} (g' : Int → Int → D) (h : OpR X f (rI0 g)) (r : ∀ G i j, RV X.K G (g' i j) (g i j)) : OpR X f (liftR X.K (qI0 g')) := op_imp h fun x y H Q ⟨G, m, dx, dy, Φ, rm, rx, ry, q, k⟩ => by
  cases dx with
  | int i => cases dy with
    | int j => exact ⟨i, j, rx, ry, k G _ m _ H (Sub.refl G) rm (r G i j) q⟩
    | _ => exact q.elim
  | _ => exact q.elim
theorem do_IC {f : Value → Value → Sem Value} {C : Int → Int → Prop} {g : Int → Int → V} (g' : Int → Int → D) (h : OpR X f (rI C g)) (r : ∀ G i j, RV X.K G (g' i j) (g i j)) : OpR X f (liftR X.K (qIC C g')) := op_imp h fun x y H Q ⟨G, m, dx, dy, Φ, rm, rx, ry, q, k⟩ => by
  cases dx with
  | int i => cases dy with
    | int j => exact ⟨i, j, rx, ry, q.1, k G _ m _ H (Sub.refl G) rm (r G i j) q.2⟩
    | _ => exact q.elim
  | _ => exact q.elim
theorem do_sub : OpR X (binaryOp .Sub) (liftR X.K (qI0 fun i j => .int (i - j))) := do_I0 _ op_sub fun _ _ _ => rfl
def CM (i j : Int) : Prop := CMul i j ∨ CMulW i j
theorem do_mul : OpR X (binaryOp .Mult) (liftR X.K (qIC CM fun i j => .int (i * j))) := do_IC _ (C := CM) (g := fun i j => .int (i * j)) (op_imp (OpR.or op_mul op_mulW) fun x y H Q ⟨i, j, h1, h2, c, q⟩ => c.elim (fun c => .inl ⟨i, j, h1, h2, c, q⟩) fun c => .inr ⟨i, j, h1, h2, c, q⟩) fun _ _ _ => rfl
theorem do_fdiv : OpR X (binaryOp .FloorDiv) (liftR X.K (qIC CDivW fun i j => .int (i / j))) := do_IC _ op_fdivW fun _ _ _ => rfl
theorem do_mod : OpR X (binaryOp .Mod) (liftR X.K (qIC (fun _ j => 0 < j) fun i j => .int (i % j))) := do_IC _ op_mod fun _ _ _ => rfl
theorem do_pow : OpR X (binaryOp .Pow) (liftR X.K (qIC CPow fun i j => .int (i ^ j.toNat))) := do_IC _ op_pow fun _ _ _ => rfl
theorem do_lt : OpR X (compareOp .Lt) (liftR X.K (qI0 fun i j => .bl (decide (i < j)))) := do_I0 _ op_lt fun _ _ _ => rfl
theorem do_le : OpR X (compareOp .LtE) (liftR X.K (qI0 fun i j => .bl (decide (i ≤ j)))) := do_I0 _ op_le fun _ _ _ => rfl
theorem do_gt : OpR X (compareOp .Gt) (liftR X.K (qI0 fun i j => .bl (decide (j < i)))) := do_I0 _ op_gt fun _ _ _ => rfl
theorem do_ge : OpR X (compareOp .GtE) (liftR X.K (qI0 fun i j => .bl (decide (j ≤ i)))) := do_I0 _ op_ge fun _ _ _ => rfl
/-- +: ints, texts, lists (a new list that may change) -/
def qAdd : D → D → Mem → DK → Prop := fun x y m Φ => match x, y with
  | .int i, .int j => Φ (.int (i + j)) m
  | .str i, .str j => i.length + j.length ≤ sizeLine ∧ Φ (.str (i ++ j)) m
  | .ref a, .ref b => ∃ xs ys, m a = some (.lst xs) ∧ m b = some (.lst ys) ∧ xs.length + ys.length ≤ sizeLine ∧ ∀ p, m p = none → Φ (.ref p) (mset m p (.lst (xs ++ ys)))
  | .lst xs, .lst ys => xs.length + ys.length ≤ sizeLine ∧ Φ (.lst (xs ++ ys)) m
  | .ref a, .lst ys => ∃ xs, m a = some (.lst xs) ∧ xs.length + ys.length ≤ sizeLine ∧ Φ (.lst (xs ++ ys)) m
  | .lst xs, .ref b => ∃ ys, m b = some (.lst ys) ∧ xs.length + ys.length ≤ sizeLine ∧ Φ (.lst (xs ++ ys)) m
  | _, _ => False
theorem add_lift {f : Value → Value → Sem Value} (h1 : OpR X f (rI0 fun i j => .int (i + j))) (h2 : OpR X f (fun x y H Q => ∃ i j, x = .str i ∧ y = .str j ∧ i.length + j.length ≤ sizeLine ∧ Q (.str (i ++ j)) H)) (h3 : OpR X f (rCatQ X.K)) :
    OpR X f (liftR X.K qAdd) := op_imp (OpR.or h1 (OpR.or h2 h3)) fun x y H Q ⟨G, m, dx, dy, Φ, rm, rx, ry, q, k⟩ => by
  cases dx with
  | int i => cases dy with
    | int j => exact .inl ⟨i, j, rx, ry, k G (.int _) m _ H (Sub.refl G) rm rfl q⟩
    | _ => exact q.elim
  | str i => cases dy with
    | str j => exact .inr (.inl ⟨i, j, rx, ry, q.1, k G (.str _) m _ H (Sub.refl G) rm rfl q.2⟩)
    | _ => exact q.elim
  | ref a => cases dy with
    | ref b =>
      obtain ⟨xs, ys, hx, hy, hl, q⟩ := q
      obtain ⟨_, u, hu, vs, rfl, r1⟩ := rm.mem a _ hx
      obtain ⟨_, u', hu', ws, rfl, r2⟩ := rm.mem b _ hy
      exact .inr (.inr ⟨a, b, vs, ws, rx, ry, .inl (.inl hu), .inl (.inl hu'), by rw [← r1.length, ← r2.length]; exact hl, lift_lstM rm (r1.append r2) q k⟩)
    | lst ys =>
      obtain ⟨xs, hx, hl, q⟩ := q
      obtain ⟨_, u, hu, vs, rfl, r1⟩ := rm.mem a _ hx
      obtain ⟨b, ws, rfl, h1, r2⟩ := ry
      exact .inr (.inr ⟨a, b, vs, ws, rx, rfl, .inl (.inl hu), rm.sub.l h1, by rw [← r1.length, ← r2.length]; exact hl, lift_lstF rm (r1.append r2) q k⟩)
    | _ => exact q.elim
  | lst xs => cases dy with
    | lst ys =>
      obtain ⟨a, vs, rfl, h0, r1⟩ := rx
      obtain ⟨b, ws, rfl, h1, r2⟩ := ry
      exact .inr (.inr ⟨a, b, vs, ws, rfl, rfl, rm.sub.l h0, rm.sub.l h1, by rw [← r1.length, ← r2.length]; exact q.1, lift_lstF rm (r1.append r2) q.2 k⟩)
    | ref b =>
      obtain ⟨ys, hx, hl, q⟩ := q
      obtain ⟨a, vs, rfl, h0, r1⟩ := rx
      obtain ⟨_, u, hu, ws, rfl, r2⟩ := rm.mem b _ hx
      exact .inr (.inr ⟨a, b, vs, ws, rfl, ry, rm.sub.l h0, .inl (.inl hu), by rw [← r1.length, ← r2.length]; exact hl, lift_lstF rm (r1.append r2) q k⟩)
    | _ => exact q.elim
  | _ => exact q.elim
theorem do_add : OpR X (binaryOp .Add) (liftR X.K qAdd) := add_lift op_add op_add_str op_catQ
def qIAdd : D → D → Mem → DK → Prop := fun x y m Φ => match x, y with
  | .int i, .int j => Φ (.int (i + j)) m
  | .str i, .str j => i.length + j.length ≤ sizeLine ∧ Φ (.str (i ++ j)) m
  | _, _ => False
/-- -e -/
def qNeg (qa : QE) : QE := fun s m Φ => qa s m fun x m1 => match x with | .int i => Φ (.int (-i)) m1 | _ => False
theorem de_neg {a : Expr} {qa : QE} {pos : Pos} (ha : PE X a (liftE X.K qa)) : PE X (.UnaryOp .USub a pos) (liftE X.K (qNeg qa)) := pe_imp (pe_un un_neg ha) fun σ H Q ⟨G, s, m, Φ, rm, rs, q, k⟩ => ⟨G, s, m, _, rm, rs, q, fun G1 x m1 v H1 e1 r1 rx q1 => by
  cases x with
  | int i => exact ⟨i, rx, k G1 (.int (-i)) m1 _ H1 e1 r1 rfl q1⟩
  | _ => exact q1.elim⟩
end
/-! ### data as a whole -/
mutual
def toPy : D → Option PyData
  | .non => some .none
  | .bl b => some (.bool b)
  | .int i => some (.int i)
  | .str x => some (.str x)
  | .tup ds => (toPys ds).map .tuple
  | .lst ds => (toPys ds).map .list
  | .ref _ => none
def toPys : List D → Option (List PyData)
  | [] => some []
  | d :: ds => match toPy d, toPys ds with
    | some p, some ps => some (p :: ps)
    | _, _ => none
end
section
variable {K : PySem.W.Frag} {G H : Hp}
mutual
theorem RV.dp (e : Sub G H) : ∀ (d : D) {v : V} {p : PyData}, RV K G d v → toPy d = some p → Dp K H v p
  | .non, v, p, h, t => by
    obtain rfl : v = .non := h
    obtain rfl : PyData.none = p := Option.some.inj t
    exact .non
  | .bl b, v, p, h, t => by
    obtain rfl : v = .bl b := h
    obtain rfl : PyData.bool b = p := Option.some.inj t
    exact .bl b
  | .int b, v, p, h, t => by
    obtain rfl : v = .int b := h
    obtain rfl : PyData.int b = p := Option.some.inj t
    exact .int b
  | .str b, v, p, h, t => by
    obtain rfl : v = .str b := h
    obtain rfl : PyData.str b = p := Option.some.inj t
    exact .str b
  | .ref _, v, p, h, t => by cases t
  | .tup ds, v, p, ⟨a, xs, h1, h2, h3⟩, t => by
    subst h1
    rw [toPy] at t
    cases e1 : toPys ds with
    | none => rw [e1] at t; cases t
    | some ps =>
      rw [e1] at t
      obtain rfl : PyData.tuple ps = p := Option.some.inj t
      exact .tup (e.t h2) (RVs.dp e ds h3 e1)
  | .lst ds, v, p, ⟨a, xs, h1, h2, h3⟩, t => by
    subst h1
    rw [toPy] at t
    cases e1 : toPys ds with
    | none => rw [e1] at t; cases t
    | some ps =>
      rw [e1] at t
      obtain rfl : PyData.list ps = p := Option.some.inj t
      exact .lst (e.l h2) (RVs.dp e ds h3 e1)
theorem RVs.dp (e : Sub G H) : ∀ (ds : List D) {vs : List V} {ps : List PyData}, RVs K G ds vs → toPys ds = some ps → DpAll K H vs ps
  | [], vs, ps, h, t => by
    rw [show vs = [] from h]
    obtain rfl : [] = ps := Option.some.inj t
    exact .nil
  | d :: ds, vs, ps, ⟨x, r, h1, h2, h3⟩, t => by
    subst h1
    rw [toPys] at t
    cases e1 : toPy d with
    | none => rw [e1] at t; cases t
    | some p =>
      cases e2 : toPys ds with
      | none => rw [e1, e2] at t; cases t
      | some qs =>
        rw [e1, e2] at t
        obtain rfl : p :: qs = ps := Option.some.inj t
        exact .cons (RV.dp e d h2 e1) (RVs.dp e ds h3 e2)
end
/-- the data at d, a changing list's items read off the memory -/
def pyOf (m : Mem) (d : D) (p : PyData) : Prop := toPy d = some p ∨ ∃ a ds ps, d = .ref a ∧ m a = some (.lst ds) ∧ toPys ds = some ps ∧ p = .list ps
theorem py_lift {m : Mem} {d : D} {v : V} {p : PyData} (rm : RelM K m G H) (rv : RV K G d v) (h : pyOf m d p) : Dp K H v p := by
  rcases h with h | ⟨a, ds, ps, rfl, hm, h, rfl⟩
  · exact RV.dp rm.sub d rv h
  · obtain rfl : v = .ref a := rv
    obtain ⟨_, u, hu, xs, rfl, h2⟩ := rm.mem a _ hm
    exact .lst (.inl (.inl hu)) (RVs.dp rm.sub ds h2 h)
end
def qEq : D → D → Mem → DK → Prop := fun x y m Φ => ∃ p q, pyOf m x p ∧ pyOf m y q ∧ SeqAt.shaped p = true ∧ SeqAt.shaped q = true ∧ Φ (.bl (PyData.eqv p q)) m
def qNe : D → D → Mem → DK → Prop := fun x y m Φ => ∃ p q, pyOf m x p ∧ pyOf m y q ∧ SeqAt.shaped p = true ∧ SeqAt.shaped q = true ∧ Φ (.bl (!PyData.eqv p q)) m
/-- x in a list (or a tuple of flat items) -/
def qIn : D → D → Mem → DK → Prop := fun x y m Φ => ∃ p qs, toPy x = some p ∧ pyOf m y (.list qs) ∧ SeqAt.shaped p = true ∧ SeqAt.shaped (.list qs) = true ∧ Φ (.bl (qs.any fun z => PyData.eqv z p)) m
def qNotIn : D → D → Mem → DK → Prop := fun x y m Φ => ∃ p qs, toPy x = some p ∧ pyOf m y (.list qs) ∧ SeqAt.shaped p = true ∧ SeqAt.shaped (.list qs) = true ∧ Φ (.bl (!(qs.any fun z => PyData.eqv z p))) m
/-- is None -/
def isNonD : D → Bool | .non => true | _ => false
def qIsN : D → D → Mem → DK → Prop := fun x y m Φ => match y with | .non => Φ (.bl (isNonD x)) m | _ => False
def qNotN : D → D → Mem → DK → Prop := fun x y m Φ => match y with | .non => Φ (.bl (!isNonD x)) m | _ => False
theorem RV.isNon {K : PySem.W.Frag} {G : Hp} {d : D} {v : V} (h : RV K G d v) : decide (v = .non) = isNonD d := by
  cases d with
  | non => obtain rfl : v = .non := h; rfl
  | tup ds => obtain ⟨a, xs, rfl, _⟩ := h; rfl
  | lst ds => obtain ⟨a, xs, rfl, _⟩ := h; rfl
  | bl b => obtain rfl : v = .bl b := h; rfl
  | int b => obtain rfl : v = .int b := h; rfl
  | str b => obtain rfl : v = .str b := h; rfl
  | ref b => obtain rfl : v = .ref b := h; rfl
section
variable {X : Cx}
theorem do_eq (hu : X.A.units + 64 < cLine) : OpR X (compareOp .Eq) (liftR X.K qEq) := op_imp (op_eqD hu) fun x y H Q ⟨G, m, dx, dy, Φ, rm, rx, ry, ⟨p, q, h1, h2, s1, s2, h⟩, k⟩ =>
  ⟨p, q, py_lift rm rx h1, py_lift rm ry h2, s1, s2, k G (.bl _) m _ H (Sub.refl G) rm rfl h⟩
theorem do_ne (hu : X.A.units + 64 < cLine) : OpR X (compareOp .NotEq) (liftR X.K qNe) := op_imp (op_neD hu) fun x y H Q ⟨G, m, dx, dy, Φ, rm, rx, ry, ⟨p, q, h1, h2, s1, s2, h⟩, k⟩ =>
  ⟨p, q, py_lift rm rx h1, py_lift rm ry h2, s1, s2, k G (.bl _) m _ H (Sub.refl G) rm rfl h⟩
theorem do_isN : OpR X (compareOp .Is) (liftR X.K qIsN) := op_imp op_isN fun x y H Q ⟨G, m, dx, dy, Φ, rm, rx, ry, h, k⟩ => by
  cases dy with
  | non => exact ⟨ry, by rw [rx.isNon]; exact k G (.bl _) m _ H (Sub.refl G) rm rfl h⟩
  | _ => exact h.elim
end
/-! ### subscripts -/
/-- xs[i] of a list, a tuple, a text -/
def qIx : D → D → Mem → DK → Prop := fun x y m Φ => match x, y with
  | .tup ds, .int i => ∃ d, atI ds i = some d ∧ Φ d m
  | .lst ds, .int i => ∃ d, atI ds i = some d ∧ Φ d m
  | .ref a, .int i => ∃ ds d, m a = some (.lst ds) ∧ atI ds i = some d ∧ Φ d m
  | .str z, .int i => ∃ c, z.length ≤ sizeLine ∧ atI z.cps.toList i = some c ∧ Φ (.str ⟨#[c]⟩) m
  | _, _ => False
theorem RVs.atI {K : PySem.W.Frag} {G : Hp} {ds : List D} {xs : List V} {i : Int} {d : D} (r : RVs K G ds xs) (h : L2.atI ds i = some d) : ∃ v, L2.atI xs i = some v ∧ RV K G d v := by
  unfold L2.atI at h ⊢
  rw [← r.length]
  cases e : ixN ds.length i with
  | none => rw [e] at h; cases h
  | some j =>
    rw [e] at h
    obtain ⟨v, h1, h2⟩ := r.get (i := j) (d := d) h
    exact ⟨v, h1, h2⟩
section
variable {X : Cx} {a b : Expr} {qa qb : QE} {pos : Pos}
theorem ix_lift {K : PySem.W.Frag} {x y : V} {H : Hp} {Q : VK} (h : liftR K qIx x y H Q) : rIx K x y H Q := by
  obtain ⟨G, m, dx, dy, Φ, rm, rx, ry, q, k⟩ := h
  cases dx with
  | tup ds => cases dy with
    | int i =>
      obtain ⟨d, h1, h2⟩ := q
      obtain ⟨p, xs, rfl, e1, e2⟩ := rx
      obtain ⟨v, e3, e4⟩ := e2.atI h1
      exact .inr (.inl ⟨p, xs, i, v, rfl, ry, rm.sub.t e1, e3, k G d m v H (Sub.refl G) rm e4 h2⟩)
    | _ => exact q.elim
  | lst ds => cases dy with
    | int i =>
      obtain ⟨d, h1, h2⟩ := q
      obtain ⟨p, xs, rfl, e1, e2⟩ := rx
      obtain ⟨v, e3, e4⟩ := e2.atI h1
      exact .inl ⟨p, xs, i, v, rfl, ry, rm.sub.l e1, e3, k G d m v H (Sub.refl G) rm e4 h2⟩
    | _ => exact q.elim
  | ref p => cases dy with
    | int i =>
      obtain ⟨ds, d, hm, h1, h2⟩ := q
      obtain rfl : x = .ref p := rx
      obtain ⟨_, u, hu, xs, rfl, e2⟩ := rm.mem p _ hm
      obtain ⟨v, e3, e4⟩ := e2.atI h1
      exact .inl ⟨p, xs, i, v, rfl, ry, .inl (.inl hu), e3, k G d m v H (Sub.refl G) rm e4 h2⟩
    | _ => exact q.elim
  | str z => cases dy with
    | int i =>
      obtain ⟨c, h0, h1, h2⟩ := q
      exact .inr (.inr ⟨z, i, c, rx, ry, h0, h1, k G (.str _) m _ H (Sub.refl G) rm rfl h2⟩)
    | _ => exact q.elim
  | _ => exact q.elim
/-- a key -/
def keyD : D → Option Key
  | .int i => some (.inl i)
  | .str x => some (.inr x)
  | _ => none
def keysD : List D → Option (List Key)
  | [] => some []
  | d :: ds => match keyD d, keysD ds with
    | some k, some ks => some (k :: ks)
    | _, _ => none
theorem RV.key {K : PySem.W.Frag} {G : Hp} {d : D} {v : V} {k : Key} (r : RV K G d v) (h : keyD d = some k) : v = kV k := by
  cases d <;> first | (cases h; exact r) | cases h
/-- what a dict at a holds at y -/
def dGet (m : Mem) (a : Addr) (y : D) (o : Option D) : Prop := ∃ ks k, (m a = some (.dK ks) ∨ m a = some (.fz ks)) ∧ keyD y = some k ∧ o = valD ks k
theorem dget_lift {K : PySem.W.Frag} {G H : Hp} {m : Mem} {a : Addr} {y : D} {v : V} {o : Option D} (rm : RelM K m G H) (ry : RV K G y v) (g : dGet m a y o) : ∃ o', DGet H a v o' ∧ RVo K G o o' := by
  obtain ⟨ks, k, hm, hk, rfl⟩ := g
  have ev := ry.key hk
  rcases hm with hm | hm
  · obtain ⟨_, u, hu, xs, rfl, r⟩ := rm.mem a _ hm
    exact ⟨valV xs k, .inl ⟨xs, k, .inl hu, ev, rfl⟩, r.val k⟩
  · obtain ⟨_, u, hu, ob, xs, rfl, r⟩ := rm.mem a _ hm
    exact ⟨valV xs k, .inl ⟨xs, k, .inr ⟨ob, hu⟩, ev, rfl⟩, r.val k⟩
/-- d[y] -/
def qDGet (qd qy : QE) : QE := fun s m Φ => qd s m fun x m1 => qy s m1 fun y m2 => match x with
  | .ref a => ∃ d, dGet m2 a y (some d) ∧ Φ d m2
  | _ => False
/-- y in d -/
def qDIn (neg : Bool) (qy qd : QE) : QE := fun s m Φ => qy s m fun y m1 => qd s m1 fun x m2 => match x with
  | .ref a => ∃ o, dGet m2 a y o ∧ Φ (.bl (if neg then !o.isSome else o.isSome)) m2
  | _ => False
theorem isD_lift {K : PySem.W.Frag} {G H : Hp} {m : Mem} {a : Addr} (rm : RelM K m G H) (h : ∃ ks, m a = some (.dK ks) ∨ m a = some (.fz ks)) : IsD H a := by
  obtain ⟨ks, hm | hm⟩ := h
  · obtain ⟨_, u, hu, xs, rfl, r⟩ := rm.mem a _ hm
    exact .inl ⟨xs, .inl hu⟩
  · obtain ⟨_, u, hu, ob, xs, rfl, r⟩ := rm.mem a _ hm
    exact .inl ⟨xs, .inr ⟨ob, hu⟩⟩
/-- d.get(y), d.get(y, z) -/
def qDGet1 (qd qy : QE) : QE := fun s m Φ => qd s m fun x m1 => match x with
  | .ref a => (∃ ks, m1 a = some (.dK ks) ∨ m1 a = some (.fz ks)) ∧ qy s m1 fun y m2 => ∃ o, dGet m2 a y o ∧ Φ (o.getD .non) m2
  | _ => False
def qDGet2 (qd qy qz : QE) : QE := fun s m Φ => qd s m fun x m1 => match x with
  | .ref a => (∃ ks, m1 a = some (.dK ks) ∨ m1 a = some (.fz ks)) ∧ qy s m1 fun y m2 => qz s m2 fun z m3 => ∃ o, dGet m3 a y o ∧ Φ (o.getD z) m3
  | _ => False
/-- d.pop(k), there -/
def qDPop1 (qd qy : QE) : QE := fun s m Φ => qd s m fun x m1 => match x with
  | .ref a => (∃ ks, m1 a = some (.dK ks) ∨ m1 a = some (.fz ks)) ∧ qy s m1 fun y m2 => ∃ ks k d, m2 a = some (.dK ks) ∧ keyD y = some k ∧ valD ks k = some d ∧ Φ d (mset m2 a (.dK (dropD ks k)))
  | _ => False
theorem de_dpop1 {apos cpos : Pos} (ho : PE X a (liftE X.K qa)) (he : PE X b (liftE X.K qb)) (m : M1 X a "pop" apos b cpos := by exact ⟨rfl, rfl, rfl, rfl⟩) : PE X (.Call (.Attribute a "pop" apos) [b] [] cpos) (liftE X.K (qDPop1 qa qb)) :=
  pe_imp (pe_dpop1 ho he m) fun σ H Q ⟨G, s, m, Φ, rm, rs, q, k⟩ => ⟨G, s, m, _, rm, rs, q, fun G1 x m1 v H1 e1 r1 rx q1 => by
    cases x with
    | ref p =>
      obtain rfl : v = .ref p := rx
      obtain ⟨hd, q1⟩ := q1
      exact ⟨p, rfl, isD_lift r1 hd, G1, s, m1, _, r1, rs.mono e1, q1, fun G2 y m2 u H2 e2 r2 ry ⟨ks, j, d, hm, hk, hv, q2⟩ => by
        obtain ⟨_, w, hw, xs, rfl, r⟩ := r2.mem p _ hm
        have ro := r.val j
        rw [hv] at ro
        obtain ⟨w', e3, rw'⟩ := ro.some
        exact ⟨xs, j, w', hw, ry.key hk, e3, k G2 d _ w' _ (e1.trans e2) (r2.put (o := .dK (dropD ks j)) hm ⟨_, rfl, r.drop j⟩) rw' q2⟩⟩
    | _ => exact q1.elim⟩
/-! ### slices -/
abbrev QO := DSt → Mem → (Option Int → Mem → Prop) → Prop
def KO (K : PySem.W.Frag) (G : Hp) (Φ : Option Int → Mem → Prop) (Q : Option Int → Hp → Prop) : Prop := ∀ G' o m' H', Sub G G' → RelM K m' G' H' → Φ o m' → Q o H'
def liftO (K : PySem.W.Frag) (q : QO) : TO := fun σ H Q => ∃ G s m Φ, RelM K m G H ∧ RelS K s G σ ∧ q s m Φ ∧ KO K G Φ Q
def qNoPart : QO := fun _ m Φ => Φ none m
def qPart (q : QE) : QO := fun s m Φ => q s m fun x m1 => match x with | .int i => Φ (some i) m1 | _ => False
theorem po_imp {e : Option Expr} {t t' : TO} (h : PO X e t) (i : ∀ σ H Q, t' σ H Q → t σ H Q) : PO X e t' := ⟨fun pins s σ H Q I w => h.run pins s σ H Q I (i σ H Q w)⟩
theorem do_none : PO X none (liftO X.K qNoPart) := po_imp po_none fun σ H Q ⟨G, s, m, Φ, rm, rs, q, k⟩ => k G none m H (Sub.refl G) rm q
theorem do_some {e : Expr} {qe : QE} (h : PE X e (liftE X.K qe)) : PO X (some e) (liftO X.K (qPart qe)) := po_imp (po_some h) fun σ H Q ⟨G, s, m, Φ, rm, rs, q, k⟩ => ⟨G, s, m, _, rm, rs, q, fun G1 x m1 v H1 e1 r1 rx q1 => by
  cases x with
  | int i => exact ⟨i, rx, k G1 (some i) m1 H1 e1 r1 q1⟩
  | _ => exact q1.elim⟩
def cutD (xs : List D) (lo hi : Option Int) : List D := (xs.drop (HT.sIx xs.length 0 lo)).take (HT.sIx xs.length xs.length hi - HT.sIx xs.length 0 lo)
theorem RVs.cut {K : PySem.W.Frag} {G : Hp} {ds : List D} {xs : List V} (r : RVs K G ds xs) (lo hi : Option Int) : RVs K G (cutD ds lo hi) (cutV xs lo hi) := by
  unfold cutD cutV
  rw [r.length]
  exact (r.drop _).take _
/-- xs[lo:hi] of a list: a new list, taken as one that never changes -/
def qSlL (qe : QE) (ql qh : QO) : QE := fun s m Φ => qe s m fun x m1 => ql s m1 fun l m2 => qh s m2 fun u m3 => match x with
  | .lst ds => Φ (.lst (cutD ds l u)) m3
  | .ref a => ∃ ds, m3 a = some (.lst ds) ∧ Φ (.lst (cutD ds l u)) m3
  | _ => False
theorem de_slL {e : Expr} {qe : QE} {ql qh : QO} {lo hi : Option Expr} {p2 : Pos} (he : PE X e (liftE X.K qe)) (hl : PO X lo (liftO X.K ql)) (hu : PO X hi (liftO X.K qh)) : PE X (.Subscript e (.Slice lo hi none p2) pos) (liftE X.K (qSlL qe ql qh)) :=
  pe_imp (pe_slice sl_list he hl hu) fun σ H Q ⟨G, s, m, Φ, rm, rs, q, k⟩ => ⟨G, s, m, _, rm, rs, q, fun G1 x m1 v H1 e1 r1 rx q1 => ⟨G1, s, m1, _, r1, rs.mono e1, q1, fun G2 l m2 H2 e2 r2 q2 => ⟨G2, s, m2, _, r2, rs.mono (e1.trans e2), q2, fun G3 u m3 H3 e3 r3 q3 => by
    cases x with
    | lst ds =>
      obtain ⟨a, xs, rfl, h1, h2⟩ := rx
      exact ⟨a, xs, rfl, r3.sub.l ((e2.trans e3).l h1), lift_lstF r3 (RVs.mono (e2.trans e3) _ (h2.cut l u)) q3 (k.mono ((e1.trans e2).trans e3))⟩
    | ref a =>
      obtain rfl : v = .ref a := rx
      obtain ⟨ds, hm, q3⟩ := q3
      obtain ⟨_, w, hw, xs, rfl, h2⟩ := r3.mem a _ hm
      exact ⟨a, xs, rfl, .inl (.inl hw), lift_lstF r3 (h2.cut l u) q3 (k.mono ((e1.trans e2).trans e3))⟩
    | _ => exact q3.elim⟩⟩⟩
/-- t[lo:hi], not the whole -/
def qSlT (qe : QE) (ql qh : QO) : QE := fun s m Φ => qe s m fun x m1 => ql s m1 fun l m2 => qh s m2 fun u m3 => match x with
  | .tup ds => ¬ (HT.sIx ds.length 0 l = 0 ∧ HT.sIx ds.length ds.length u = ds.length) ∧ Φ (.tup (cutD ds l u)) m3
  | _ => False
end
/-! ### calls of built-ins -/
def qCB (r : LSp) (qa : QA) : QE := fun s m Φ => qa s m fun ds m1 => r ds m1 Φ
section
variable {X : Cx} {x : Str} {p pos : Pos} {e : Expr} {es : List Expr} {qa : QA} {id T : String} {r : LSp}
theorem lift_CB {K : PySem.W.Frag} : ∀ σ H Q, liftE K (qCB r qa) σ H Q → tCB (liftC K r) (liftA K qa) σ H Q := fun σ H Q ⟨G, s, m, Φ, rm, rs, q, k⟩ =>
  ⟨G, s, m, _, rm, rs, q, fun G1 ds m1 vs H1 e1 r1 rd q1 => ⟨G1, m1, ds, Φ, r1, rd, q1, k.mono e1⟩⟩
theorem de_callB (hc : CallR X (.builtin id) (liftC X.K r)) (hg : Gl X x) (hm : X.mg x = none) (hv : bootBuiltins x = some (.builtin id)) (ha : PA X (e :: es) (liftA X.K qa)) (hn : x ≠ "__name__" := by decide) (hdb : (x == ("__debug__" : Str)) = false := by decide)
    (he : starEach (e :: es) X.env = (false, eval e X.env) :: starEach es X.env := by rfl) (hpl : (backTo pos (starEach es X.env)).any (·.1) = false := by rfl) : PE X (.Call (.Name x p) (e :: es) [] pos) (liftE X.K (qCB r qa)) := pe_imp (pe_callB hc hg hm hv ha hn hdb he hpl) lift_CB
theorem de_callTy (hc : CallR X (.type T) (liftC X.K r)) (hg : Gl X x) (hm : X.mg x = none) (hv : bootBuiltins x = some (.type T)) (ha : PA X (e :: es) (liftA X.K qa)) (hn : x ≠ "__name__" := by decide) (hdb : (x == ("__debug__" : Str)) = false := by decide)
    (he : starEach (e :: es) X.env = (false, eval e X.env) :: starEach es X.env := by rfl) (hpl : (backTo pos (starEach es X.env)).any (·.1) = false := by rfl) : PE X (.Call (.Name x p) (e :: es) [] pos) (liftE X.K (qCB r qa)) := pe_imp (pe_callTy hc hg hm hv ha hn hdb he hpl) lift_CB
theorem rv1 {K : PySem.W.Frag} {G : Hp} {a : D} {vs : List V} (h : RVs K G [a] vs) : ∃ v, vs = [v] ∧ RV K G a v := by
  obtain ⟨x, r, rfl, h2, h3⟩ := h
  exact ⟨x, by rw [show r = [] from h3], h2⟩
theorem rv2 {K : PySem.W.Frag} {G : Hp} {a b : D} {vs : List V} (h : RVs K G [a, b] vs) : ∃ v u, vs = [v, u] ∧ RV K G a v ∧ RV K G b u := by
  obtain ⟨x, r, rfl, h2, h3⟩ := h
  obtain ⟨u, rfl, h4⟩ := rv1 h3
  exact ⟨x, u, rfl, h2, h4⟩
/-- int(x) of an int -/
def bInt : LSp := fun ds m Φ => match ds with | [.int i] => Φ (.int i) m | [.bl b] => Φ (.int (if b then 1 else 0)) m | _ => False
theorem db_int : CallR X (.type "int") (liftC X.K bInt) := call_imp call_int1 fun vs H Q ⟨G, m, ds, Φ, rm, rd, q, k⟩ => by
  unfold bInt at q
  split at q
  · rename_i i
    obtain ⟨v, rfl, h⟩ := rv1 rd
    obtain rfl : v = .int i := h
    exact .inl ⟨i, rfl, k G (.int i) m _ H (Sub.refl G) rm rfl q⟩
  · rename_i i
    obtain ⟨v, rfl, h⟩ := rv1 rd
    obtain rfl : v = .bl i := h
    exact .inr ⟨i, rfl, k G (.int _) m _ H (Sub.refl G) rm rfl q⟩
  · exact q.elim
/-- len -/
def bLen : LSp := fun ds m Φ => match ds with
  | [.tup xs] => Φ (.int xs.length) m
  | [.lst xs] => Φ (.int xs.length) m
  | [.str z] => z.length ≤ sizeLine ∧ Φ (.int z.length) m
  | [.ref a] => (∃ xs, m a = some (.lst xs) ∧ Φ (.int xs.length) m) ∨ ∃ ks, m a = some (.dK ks) ∧ Φ (.int ks.length) m
  | _ => False
theorem db_len : CallR X (.builtin "len") (liftC X.K bLen) := call_imp (CallR.or call_len_seq (CallR.or call_len_str call_lenD)) fun vs H Q ⟨G, m, ds, Φ, rm, rd, q, k⟩ => by
  unfold bLen at q
  split at q
  · obtain ⟨v, rfl, a, xs, rfl, h1, h2⟩ := rv1 rd
    exact .inl ⟨a, xs, rfl, .inr (rm.sub.t h1), k G (.int _) m _ H (Sub.refl G) rm (by rw [h2.length]; rfl) q⟩
  · obtain ⟨v, rfl, a, xs, rfl, h1, h2⟩ := rv1 rd
    exact .inl ⟨a, xs, rfl, .inl (rm.sub.l h1), k G (.int _) m _ H (Sub.refl G) rm (by rw [h2.length]; rfl) q⟩
  · rename_i z
    obtain ⟨v, rfl, h⟩ := rv1 rd
    obtain rfl : v = .str z := h
    exact .inr (.inl ⟨z, rfl, q.1, k G (.int _) m _ H (Sub.refl G) rm rfl q.2⟩)
  · rename_i a
    obtain ⟨v, rfl, h⟩ := rv1 rd
    obtain rfl : v = .ref a := h
    rcases q with ⟨xs, hm, q⟩ | ⟨ks, hm, q⟩
    · obtain ⟨_, w, hw, ys, rfl, h2⟩ := rm.mem a _ hm
      exact .inl ⟨a, ys, rfl, .inl (.inl (.inl hw)), k G (.int _) m _ H (Sub.refl G) rm (by rw [h2.length]; rfl) q⟩
    · obtain ⟨_, w, hw, ys, rfl, h2⟩ := rm.mem a _ hm
      exact .inr (.inr ⟨a, ys, rfl, hw, k G (.int _) m _ H (Sub.refl G) rm (by rw [h2.length]; rfl) q⟩)
  · exact q.elim
/-- list(xs): a new list that may change -/
def bList : LSp := fun ds m Φ => match ds with
  | [d] => itemsQ d m fun xs => ∀ p, m p = none → Φ (.ref p) (mset m p (.lst xs))
  | _ => False
theorem db_list : CallR X (.type "list") (liftC X.K bList) := call_imp call_list_of fun vs H Q ⟨G, m, ds, Φ, rm, rd, q, k⟩ => by
  unfold bList at q
  split at q
  · obtain ⟨v, rfl, h⟩ := rv1 rd
    obtain ⟨a, xs, ys, rfl, h1, h2, h3⟩ := items_lift rm h q
    exact ⟨a, ys, rfl, h1.symm, lift_lstM rm h2 h3 k⟩
  · exact q.elim
/-- tuple(xs) -/
def bTuple : LSp := fun ds m Φ => match ds with
  | [.tup xs] => Φ (.tup xs) m
  | [.lst xs] => Φ (.tup xs) m
  | [.ref a] => ∃ xs, m a = some (.lst xs) ∧ Φ (.tup xs) m
  | _ => False
/-- the items of a list -/
def itemsL (d : D) (m : Mem) (R : List D → Prop) : Prop := match d with
  | .lst ds => R ds
  | .ref a => ∃ ds, m a = some (.lst ds) ∧ R ds
  | _ => False
theorem itemsL_lift {K : PySem.W.Frag} {d : D} {v : V} {m : Mem} {G H : Hp} {R : List D → Prop} (rm : RelM K m G H) (rv : RV K G d v) (h : itemsL d m R) : ∃ a ds xs, v = .ref a ∧ SqL K H a xs ∧ RVs K G ds xs ∧ R ds := by
  cases d with
  | lst ds => obtain ⟨a, xs, rfl, h1, h2⟩ := rv; exact ⟨a, ds, xs, rfl, rm.sub.l h1, h2, h⟩
  | ref a =>
    obtain rfl : v = .ref a := rv
    obtain ⟨ds, hm, h⟩ := h
    obtain ⟨_, u, hu, xs, rfl, h2⟩ := rm.mem a _ hm
    exact ⟨a, ds, xs, rfl, .inl (.inl hu), h2, h⟩
  | _ => exact h.elim
/-- sum, all, any of lists of ints, of bools -/
def bSum : LSp := fun ds m Φ => match ds with
  | [d] => itemsL d m fun xs => ∃ ns : List Int, xs = ns.map D.int ∧ Φ (.int ns.sum) m
  | _ => False
def bAll : LSp := fun ds m Φ => match ds with
  | [d] => itemsL d m fun xs => ∃ bs : List Bool, xs = bs.map D.bl ∧ Φ (.bl (bs.all _root_.id)) m
  | _ => False
def bAny : LSp := fun ds m Φ => match ds with
  | [d] => itemsL d m fun xs => ∃ bs : List Bool, xs = bs.map D.bl ∧ Φ (.bl (bs.any _root_.id)) m
  | _ => False
theorem db_all (hc : X.calm = true) : CallR X (.builtin "all") (liftC X.K bAll) := call_imp (cr_all hc) fun vs H Q ⟨G, m, ds, Φ, rm, rd, q, k⟩ => by
  unfold bAll at q
  split at q
  · obtain ⟨v, rfl, h⟩ := rv1 rd
    obtain ⟨a, xs, ys, rfl, h1, h2, ns, rfl, h3⟩ := itemsL_lift rm h q
    have e := h2.bls
    subst e
    exact ⟨a, ns, rfl, h1, k G (.bl _) m _ H (Sub.refl G) rm rfl h3⟩
  · exact q.elim
def bMax2 : LSp := fun ds m Φ => match ds with | [.int i, .int j] => Φ (.int (if j > i then j else i)) m | _ => False
def bMin2 : LSp := fun ds m Φ => match ds with | [.int i, .int j] => Φ (.int (if j < i then j else i)) m | _ => False
def bGcd : LSp := fun ds m Φ => match ds with | [.int i, .int j] => Φ (.int ((Nat.gcd i.natAbs j.natAbs : Nat) : Int)) m | _ => False
/-- dict(d): a copy -/
def bDict : LSp := fun ds m Φ => match ds with
  | [.ref a] => ∃ ks, (m a = some (.dK ks) ∨ m a = some (.fz ks)) ∧ ∀ p, m p = none → Φ (.ref p) (mset m p (.dK ks))
  | _ => False
theorem db_dict : CallR X (.type "dict") (liftC X.K bDict) := by
  intro pins s σ H xs us Q I r h
  obtain ⟨G, m, ds, Φ, rm, rd, q, k⟩ := h
  unfold bDict at q
  split at q
  · rename_i a
    obtain ⟨v, rfl, h⟩ := rv1 rd
    obtain rfl : v = .ref a := h
    obtain ⟨u, rfl, ru⟩ := vals1 r
    cases ru
    obtain ⟨ks, hm, q⟩ := q
    obtain ⟨ys, hr, h2⟩ : ∃ ys, Rd H a (.dK ys) ∧ RKs X.K G ks ys := by
      rcases hm with hm | hm
      · obtain ⟨_, w, hw, ys, rfl, h2⟩ := rm.mem a _ hm
        exact ⟨ys, .inl hw, h2⟩
      · obtain ⟨_, w, hw, ob, ys, rfl, h2⟩ := rm.mem a _ hm
        exact ⟨ys, .inr ⟨ob, hw⟩, h2⟩
    exact d_copyOf I hr fun p s' hp I' => ⟨.ref p, _, I', rfl, k G (.ref p) _ _ _ (Sub.refl G) (rm.new (o := .dK ks) hp ⟨ys, rfl, h2⟩) rfl (q p (rm.free hp))⟩
  · exact q.elim
/-! ### isinstance -/
/-- the type's name of a datum that is no instance -/
def tyN (d : D) (m : Mem) : String → Prop := fun T => match d with
  | .non => T = "NoneType"
  | .bl _ => T = "bool"
  | .int _ => T = "int"
  | .str _ => T = "str"
  | .tup _ => T = "tuple"
  | .lst _ => T = "list"
  | .ref a => (T = "list" ∧ ∃ ds, m a = some (.lst ds)) ∨ (T = "dict" ∧ ∃ ks, m a = some (.dK ks))
theorem SqL.ty {K : PySem.W.Frag} {H : Hp} {a : Addr} {xs : List V} (h : SqL K H a xs) : TyX K H (.ref a) (.type "list") := by
  rcases h with (h | ⟨o, h⟩) | ⟨o, its, n, h1, h2, _⟩
  · exact .base (.lst h)
  · exact .base (.frz h)
  · exact .kList h1 h2
theorem SqT.ty {K : PySem.W.Frag} {H : Hp} {a : Addr} {xs : List V} (h : SqT K H a xs) : TyX K H (.ref a) (.type "tuple") := by
  rcases h with (h | ⟨o, h⟩) | ⟨o, its, n, h1, h2, _⟩
  · exact .base (.tup h)
  · exact .fTuple h
  · exact .kTuple h1 h2
theorem tyN_lift {K : PySem.W.Frag} {d : D} {v : V} {m : Mem} {G H : Hp} {T : String} (rm : RelM K m G H) (rv : RV K G d v) (h : tyN d m T) : TyX K H v (.type T) := by
  cases d with
  | non => obtain rfl : v = .non := rv; obtain rfl : T = _ := h; exact .base .non
  | bl b => obtain rfl : v = .bl b := rv; obtain rfl : T = _ := h; exact .base (.bl b)
  | int b => obtain rfl : v = .int b := rv; obtain rfl : T = _ := h; exact .base (.int b)
  | str b => obtain rfl : v = .str b := rv; obtain rfl : T = _ := h; exact .base (.str b)
  | tup ds => obtain ⟨a, xs, rfl, h1, h2⟩ := rv; obtain rfl : T = _ := h; exact SqT.ty (rm.sub.t h1)
  | lst ds => obtain ⟨a, xs, rfl, h1, h2⟩ := rv; obtain rfl : T = _ := h; exact SqL.ty (rm.sub.l h1)
  | ref a =>
    obtain rfl : v = .ref a := rv
    rcases h with ⟨rfl, ds, hm⟩ | ⟨rfl, ks, hm⟩
    · obtain ⟨_, w, hw, ys, rfl, h2⟩ := rm.mem a _ hm
      exact .base (.lst hw)
    · obtain ⟨_, w, hw, ys, rfl, h2⟩ := rm.mem a _ hm
      exact .base (.dK hw)
/-- isinstance(x, T), T a built-in type | a written tuple of such -/
def qIsi (T : String) (qa : QE) : QE := fun s m Φ => qa s m fun x m1 => ∃ t b, tyN x m1 t ∧ kitB t T = some b ∧ Φ (.bl b) m1
theorem de_isi {T : String} {a : Expr} {qa : QE} {tn : Str} {p2 : Pos} (hg : Gl X "isinstance") (hm : X.mg "isinstance" = none) (ha : PE X a (liftE X.K qa)) (hT : PE X (.Name tn p2) (tC (.ty T)))
    (he : starEach (a :: [.Name tn p2]) X.env = (false, eval a X.env) :: starEach [.Name tn p2] X.env := by rfl) (he2 : starEach (.Name tn p2 :: []) X.env = (false, eval (.Name tn p2) X.env) :: starEach [] X.env := by rfl) (hpl : (backTo pos (starEach [.Name tn p2] X.env)).any (·.1) = false := by rfl) :
    PE X (.Call (.Name "isinstance" p) [a, .Name tn p2] [] pos) (liftE X.K (qIsi T qa)) :=
  pe_imp (pe_callB call_isi hg hm (by decide +kernel) (pa_cons ha (pa_cons hT pa_nil he2) he) (by decide) (by decide) he hpl) fun σ H Q ⟨G, s, m, Φ, rm, rs, q, k⟩ => ⟨G, s, m, _, rm, rs, q, fun G1 x m1 v H1 e1 r1 rx ⟨t, b, ht, hb, q1⟩ =>
    ⟨v, .ty T, .type t, .type T, b, rfl, .ty T, tyN_lift r1 rx ht, kit_ty hb, k G1 (.bl b) m1 _ H1 e1 r1 rfl q1⟩⟩
def kitBs (t : String) : List String → Option Bool
  | [] => some false
  | T :: Ts => match kitB t T with
    | some true => some true
    | some false => kitBs t Ts
    | none => none
theorem kitBs_ok {K : PySem.W.Frag} {t : String} : ∀ {Ts : List String} {b : Bool}, kitBs t Ts = some b → PySem.W.kitAny K (.type t) (Ts.map Value.type) = some b
  | [], b, h => by
    obtain rfl : false = b := Option.some.inj h
    exact kitAny_nil
  | T :: Ts, b, h => by
    rw [kitBs] at h
    cases e : kitB t T with
    | none => rw [e] at h; cases h
    | some c =>
      rw [e] at h
      cases c with
      | true =>
        obtain rfl : true = b := Option.some.inj h
        exact kitAny_cons (kit_ty e) (fun z => by cases z) (fun _ => rfl)
      | false => exact kitAny_cons (kit_ty e) (fun _ => kitBs_ok h) (fun z => by cases z)
def qIsiT (Ts : List String) (qa : QE) : QE := fun s m Φ => qa s m fun x m1 => ∃ t b, tyN x m1 t ∧ kitBs t Ts = some b ∧ Φ (.bl b) m1
theorem de_isi2 {T U : String} {a : Expr} {qa : QE} {tn un : Str} {p2 p3 p4 : Pos} {x1} (hg : Gl X "isinstance") (hm : X.mg "isinstance" = none) (ha : PE X a (liftE X.K qa)) (hT : PE X (.Name tn p2) (tC (.ty T))) (hU : PE X (.Name un p3) (tC (.ty U)))
    (he : starEach (a :: [.Tuple [.Name tn p2, .Name un p3] x1 p4]) X.env = (false, eval a X.env) :: starEach [.Tuple [.Name tn p2, .Name un p3] x1 p4] X.env := by rfl)
    (he2 : starEach (.Tuple [.Name tn p2, .Name un p3] x1 p4 :: []) X.env = (false, eval (.Tuple [.Name tn p2, .Name un p3] x1 p4) X.env) :: starEach [] X.env := by rfl)
    (he3 : starEach (.Name tn p2 :: [.Name un p3]) X.env = (false, eval (.Name tn p2) X.env) :: starEach [.Name un p3] X.env := by rfl) (he4 : starEach (.Name un p3 :: []) X.env = (false, eval (.Name un p3) X.env) :: starEach [] X.env := by rfl)
    (hpl : (backTo pos (starEach [.Tuple [.Name tn p2, .Name un p3] x1 p4] X.env)).any (·.1) = false := by rfl) :
    PE X (.Call (.Name "isinstance" p) [a, .Tuple [.Name tn p2, .Name un p3] x1 p4] [] pos) (liftE X.K (qIsiT [T, U] qa)) :=
  pe_imp (pe_callB call_isiT hg hm (by decide +kernel) (pa_cons ha (pa_cons (pe_tup (pa_cons hT (pa_cons hU pa_nil he4) he3)) pa_nil he2) he) (by decide) (by decide) he hpl) fun σ H Q ⟨G, s, m, Φ, rm, rs, q, k⟩ => ⟨G, s, m, _, rm, rs, q, fun G1 x m1 v H1 e1 r1 rx ⟨t, b, ht, hb, q1⟩ =>
    ⟨by show 2 ≤ sizeLine; decide, fun tp htp => ⟨v, tp, [.ty T, .ty U], .type t, [.type T, .type U], b, rfl, upd_same, .cons (.ty T) (.cons (.ty U) .nil), tyN_lift (RelM.frame r1 fun a o z => by rw [upd_ne (ne_of_none z htp)]; exact z) rx ht, kitBs_ok (Ts := [T, U]) hb,
      k G1 (.bl b) m1 _ _ e1 (RelM.frame r1 fun a o z => by rw [upd_ne (ne_of_none z htp)]; exact z) rfl q1⟩⟩⟩
end
end L3
namespace L3
open PySem L2
/-! ### instances -/
section
variable {X : Cx} {e o : Expr} {es : List Expr} {qe qo qv : QE} {qa : QA} {f m : Str} {pos apos pos' tpos : Pos} {C g : Addr} {k : Nat}
/-- e.f of an instance of the class at C -/
def qFld (C : Addr) (f : Str) (qe : QE) : QE := fun s m Φ => qe s m fun x m1 => match x with
  | .ref a => ∃ fs d, m1 a = some (.ins C fs) ∧ fs.lookup f = some d ∧ Φ d m1
  | _ => False
theorem de_fld (c : Cls X.K C) (n : NoAttr X.K C f) (he : PE X e (liftE X.K qe)) (hb : attributeBase e f X.env (eval e X.env) = eval e X.env := by rfl) : PE X (.Attribute e f pos) (liftE X.K (qFld C f qe)) :=
  pe_imp (pe_fld he hb) fun σ H Q ⟨G, s, m, Φ, rm, rs, q, k⟩ => ⟨G, s, m, _, rm, rs, q, fun G1 x m1 v H1 e1 r1 rx q1 => by
    cases x with
    | ref a =>
      obtain rfl : v = .ref a := rx
      obtain ⟨fs, d, hm, hl, q1⟩ := q1
      obtain ⟨_, w, hw, dx, xs, rfl, r⟩ := r1.mem a _ hm
      have rl := r.lookup f
      rw [hl] at rl
      obtain ⟨u, h1, h2⟩ := rl.some
      exact ⟨a, C, dx, xs, u, rfl, hw, c, n, h1, k G1 d m1 u H1 e1 r1 h2 q1⟩
    | _ => exact q1.elim⟩
/-- e.f = v -/
def sSetF (C : Addr) (f : Str) (qo qv : QE) : QS := fun E s m => qv s m fun y m1 => qo s m1 fun x m2 => match x with
  | .ref a => ∃ fs, m2 a = some (.ins C fs) ∧ fs.length < 1000 ∧ E.nx s (mset m2 a (.ins C (putFD f y fs)))
  | _ => False
theorem ds_setF {value : Expr} (c : Cls X.K C) (n : NoAttr X.K C f) (ho : PE X o (liftE X.K qo)) (hv : PE X value (liftE X.K qv)) (hs : swapsWith value (some (.Attribute o f pos')) pos.line X.env = pure false := by rfl) : PS X (.Assign [.Attribute o f pos'] value pos) (liftS X.K (sSetF C f qo qv)) :=
  ps_imp (ps_fld ho hv hs) fun D σ H ⟨G, s, m, E, rm, rs, q, kn, kr, kb, kc⟩ => ⟨G, s, m, _, rm, rs, q, fun G1 y m1 u H1 e1 r1 ry q1 => ⟨G1, s, m1, _, r1, rs.mono e1, q1, fun G2 x m2 v H2 e2 r2 rx q2 => by
    cases x with
    | ref a =>
      obtain rfl : v = .ref a := rx
      obtain ⟨fs, hm, hl, q2⟩ := q2
      obtain ⟨_, w, hw, dx, xs, rfl, r⟩ := r2.mem a _ hm
      exact ⟨a, C, dx, xs, rfl, hw, c, n, by rw [← r.length]; exact hl, kn G2 s _ σ _ (e1.trans e2) (r2.put (o := .ins C (putFD f y fs)) hm ⟨dx, _, rfl, RKs.putF (RV.mono e2 y ry) r⟩) (rs.mono (e1.trans e2)) q2⟩
    | _ => exact q2.elim⟩⟩
/-- o.m(..) -/
def qMeth (C : Addr) (m : Str) (sp : LSp) (qo : QE) (qa : QA) : QE := fun s mm Φ => qo s mm fun x m1 => match x with
  | .ref a => ∃ fs, m1 a = some (.ins C fs) ∧ fs.lookup m = none ∧ qa s m1 fun ds m2 => sp (x :: ds) m2 Φ
  | _ => False
end
section
variable {X : Cx} {CX : CXT} {k : Nat} {f C : Addr} {sp : Sp} {E : XK} {m x : Str} {pos apos p : Pos} {e o : Expr} {es : List Expr} {ta : TE} {t : TA}
theorem pe_methR {pl : Sem Bool} (he : PE X o ta) (c : Cls X.K C) (hm : Meth X.K C m f) (F : FnR X.prog X.w X.K X.mg X.base CX k f sp) (hr : Room k X.A) (hx : Passes CX X E) (ha : PA X (e :: es) t)
    (hst : starEach (e :: es) X.env = (false, eval e X.env) :: starEach es X.env := by rfl) (hpl : (backTo pos (starEach es X.env)).any (·.1) = false := by rfl)
    (ht : eval (.Call (.Attribute o m apos) (e :: es) [] pos) X.env = (do
      let ov ← eval o X.env
      standAt apos.atName
      let (f, first) ← holding [ov] (getMethod ov m pl)
      callWith pos f first (backTo pos (starEach (e :: es) X.env)) (backToKw pos (keywordEach [] X.env))) := by rfl) :
    PE X (.Call (.Attribute o m apos) (e :: es) [] pos) (fun σ H Q => ta σ H fun x H1 => ∃ a dx fs, x = .ref a ∧ H1 a = some (.ins C dx fs) ∧ fs.lookup m = none ∧ t σ H1 fun vs H2 => sp (x :: vs) H2 Q E) := by
  refine ⟨fun pins s σ H Q I h => ?_⟩
  refine PySem.W.methodCall_KW (pl := pl) (thn (he.run pins s σ H _ I h) fun u s1 ⟨x, H1, I1, rx, a, dx, fs, ex, ea, l, q⟩ => ?_) ht
  subst ex
  obtain rfl : u = Value.ref a := rx
  refine getmeth_ok I1 ea c hm l ?_
  refine PySem.W.callWith_K (first := [.ref a]) (h₀ := X.base) I.ok.mod.kin hm.kp (thn (ha.run pos pins s1 σ H1 _ I1 q) fun us s2 ⟨vs, H2, I2, r, q2⟩ => ⟨I2.kIn, ?_⟩) hst hpl
  exact wpAny_call (run_fnR (us := .ref a :: us) (vs := .ref a :: vs) F hr hx I2 (.cons rfl r) q2)
theorem pe_meth0R {pl : Sem Bool} (he : PE X o ta) (c : Cls X.K C) (hm : Meth X.K C m f) (F : FnR X.prog X.w X.K X.mg X.base CX k f sp) (hr : Room k X.A) (hx : Passes CX X E)
    (ht : eval (.Call (.Attribute o m apos) [] [] pos) X.env = (do
      let ov ← eval o X.env
      standAt apos.atName
      let (f, first) ← holding [ov] (getMethod ov m pl)
      callWith pos f first (backTo pos (starEach [] X.env)) (backToKw pos (keywordEach [] X.env))) := by rfl) :
    PE X (.Call (.Attribute o m apos) [] [] pos) (fun σ H Q => ta σ H fun x H1 => ∃ a dx fs, x = .ref a ∧ H1 a = some (.ins C dx fs) ∧ fs.lookup m = none ∧ sp [x] H1 Q E) := by
  refine ⟨fun pins s σ H Q I h => ?_⟩
  refine PySem.W.methodCall_KW (pl := pl) (thn (he.run pins s σ H _ I h) fun u s1 ⟨x, H1, I1, rx, a, dx, fs, ex, ea, l, q⟩ => ?_) ht
  subst ex
  obtain rfl : u = Value.ref a := rx
  refine getmeth_ok I1 ea c hm l ?_
  exact PySem.W.callWith_K0 (first := [.ref a]) I1.kIn hm.kp (wpAny_call (run_fnR (us := [.ref a]) (vs := [.ref a]) F hr hx I1 (.cons rfl .nil) q))
theorem pe_make0R (M : Mk X.K C f) (F : FnR X.prog X.w X.K X.mg X.base CX k f sp) (hr : Room (k + 1) X.A) (hg : Gl X x) (hm : X.mg x = some (.ref C)) (hx : Passes CX X E)
    (hdb : (x == ("__debug__" : Str)) = false := by decide) : PE X (.Call (.Name x p) [] [] pos) (StX.tMakeR C sp E tNil) := by
  refine ⟨fun pins s σ H Q I h => ?_⟩
  refine wpAny_Call_Name_kw (ld_glob I hg hm ?_ hdb)
  exact PySem.W.callWith_K0 I.kIn M.kp (StX.run_makeR M F hr hx I .nil h)
end
section
variable {X : Cx} {k : Nat} {f C : Addr} {sp : LSp} {m x : Str} {pos apos p : Pos} {e o : Expr} {es : List Expr} {qo qe : QE} {qa : QA}
theorem de_meth {pl : Sem Bool} (he : PE X o (liftE X.K qo)) (c : Cls X.K C) (hm : Meth X.K C m f) (F : FnD X.prog X.w X.K X.mg X.base k f sp) (hr : Room k X.A) (ha : PA X (e :: es) (liftA X.K qa))
    (hst : starEach (e :: es) X.env = (false, eval e X.env) :: starEach es X.env := by rfl) (hpl : (backTo pos (starEach es X.env)).any (·.1) = false := by rfl)
    (ht : eval (.Call (.Attribute o m apos) (e :: es) [] pos) X.env = (do
      let ov ← eval o X.env
      standAt apos.atName
      let (f, first) ← holding [ov] (getMethod ov m pl)
      callWith pos f first (backTo pos (starEach (e :: es) X.env)) (backToKw pos (keywordEach [] X.env))) := by rfl) :
    PE X (.Call (.Attribute o m apos) (e :: es) [] pos) (liftE X.K (qMeth C m sp qo qa)) :=
  pe_imp (pe_methR he c hm F hr pass0 ha hst hpl ht) fun σ H Q ⟨G, s, mm, Φ, rm, rs, q, k⟩ => ⟨G, s, mm, _, rm, rs, q, fun G1 d m1 v H1 e1 r1 rd q1 => by
    cases d with
    | ref a =>
      obtain rfl : v = .ref a := rd
      obtain ⟨fs, hm', hl, q1⟩ := q1
      obtain ⟨_, w, hw, dx, xs, rfl, r⟩ := r1.mem a _ hm'
      have rl := r.lookup m
      rw [hl] at rl
      exact ⟨a, dx, xs, rfl, hw, rl.none, G1, s, m1, _, r1, rs.mono e1, q1, fun G2 ds m2 vs H2 e2 r2 rds q2 => ⟨G2, m2, _, Φ, r2, RVs.cons (show RV X.K G2 (.ref a) (.ref a) from rfl) rds, q2, k.mono (e1.trans e2)⟩⟩
    | _ => exact q1.elim⟩
theorem de_meth0 {pl : Sem Bool} (he : PE X o (liftE X.K qo)) (c : Cls X.K C) (hm : Meth X.K C m f) (F : FnD X.prog X.w X.K X.mg X.base k f sp) (hr : Room k X.A)
    (ht : eval (.Call (.Attribute o m apos) [] [] pos) X.env = (do
      let ov ← eval o X.env
      standAt apos.atName
      let (f, first) ← holding [ov] (getMethod ov m pl)
      callWith pos f first (backTo pos (starEach [] X.env)) (backToKw pos (keywordEach [] X.env))) := by rfl) :
    PE X (.Call (.Attribute o m apos) [] [] pos) (liftE X.K (qMeth C m sp qo qNil)) :=
  pe_imp (pe_meth0R he c hm F hr pass0 ht) fun σ H Q ⟨G, s, mm, Φ, rm, rs, q, k⟩ => ⟨G, s, mm, _, rm, rs, q, fun G1 d m1 v H1 e1 r1 rd q1 => by
    cases d with
    | ref a =>
      obtain rfl : v = .ref a := rd
      obtain ⟨fs, hm', hl, q1⟩ := q1
      obtain ⟨_, w, hw, dx, xs, rfl, r⟩ := r1.mem a _ hm'
      have rl := r.lookup m
      rw [hl] at rl
      exact ⟨a, dx, xs, rfl, hw, rl.none, G1, m1, [.ref a], Φ, r1, RVs.one (show RV X.K G1 (.ref a) (.ref a) from rfl), q1, k.mono e1⟩
    | _ => exact q1.elim⟩
/-- C(..) -/
def qMake (C : Addr) (sp : LSp) (qa : QA) : QE := fun s m Φ => qa s m fun ds m1 => ∀ a, m1 a = none → sp (.ref a :: ds) (mset m1 a (.ins C [])) fun d m2 => match d with | .non => Φ (.ref a) m2 | _ => False
theorem lift_make {K : PySem.W.Frag} {G H : Hp} {mm : Mem} {ds : List D} {vs : List V} {Φ : DK} {Q : VK} (rm : RelM K mm G H) (rd : RVs K G ds vs) (k : KQ K G Φ Q) (q : ∀ a, mm a = none → sp (.ref a :: ds) (mset mm a (.ins C [])) fun d m2 => match d with | .non => Φ (.ref a) m2 | _ => False) :
    ∀ x dx, H x = Option.none → H dx = Option.none → dx ≠ x → liftSp K sp (V.ref x :: vs) (upd (upd H dx (.own x)) x (.ins C dx [])) (fun v H2 => v = .non ∧ Q (.ref x) H2) E0 := fun x dx hx hdx hne => by
  have r1 : RelM K mm G (upd H dx (.own x)) := rm.frame fun a o z => by rw [upd_ne (ne_of_none z hdx)]; exact z
  have hx' : upd H dx (.own x) x = none := by rw [upd_ne hne.symm]; exact hx
  refine ⟨G, _, _, _, r1.new (o := .ins C []) (u := .ins C dx []) hx' ⟨dx, [], rfl, rfl⟩, RVs.cons (show RV K G (.ref x) (.ref x) from rfl) rd, q x (rm.free hx), fun G2 d m2 v H2 e2 r2 rv q2 => ?_⟩
  cases d with
  | non => exact ⟨rv, k G2 (.ref x) m2 _ H2 e2 r2 rfl q2⟩
  | _ => exact q2.elim
theorem de_make0 (M : Mk X.K C f) (F : FnD X.prog X.w X.K X.mg X.base k f sp) (hr : Room (k + 1) X.A) (hg : Gl X x) (hm : X.mg x = some (.ref C)) (hdb : (x == ("__debug__" : Str)) = false := by decide) :
    PE X (.Call (.Name x p) [] [] pos) (liftE X.K (qMake C sp qNil)) :=
  pe_imp (pe_make0R M F hr hg hm pass0 hdb) fun σ H Q ⟨G, s, mm, Φ, rm, rs, q, k⟩ => lift_make rm (show RVs X.K G [] [] from rfl) k q
/-- e.f, a property whose getter keeps the promise -/
def qProp (C : Addr) (sp : LSp) (qe : QE) : QE := fun s m Φ => qe s m fun x m1 => match x with
  | .ref a => (∃ fs, m1 a = some (.ins C fs)) ∧ sp [x] m1 Φ
  | _ => False
end
/-! ### methods of built-in types -/
def tyD (T : String) (x : D) (m : Mem) : Prop := match x with
  | .str _ => T = "str"
  | .lst _ => T = "list"
  | .ref a => (T = "list" ∧ ∃ ds, m a = some (.lst ds)) ∨ (T = "dict" ∧ ∃ ks, m a = some (.dK ks))
  | _ => False
theorem tyD_lift {K : PySem.W.Frag} {T : String} {x : D} {v : V} {m : Mem} {G H : Hp} (rm : RelM K m G H) (rx : RV K G x v) (h : tyD T x m) : tyV K T v H := by
  cases x with
  | str z => obtain rfl : v = .str z := rx; exact h
  | lst ds => obtain ⟨a, xs, rfl, h1, h2⟩ := rx; exact .inl ⟨h, xs, rm.sub.l h1⟩
  | ref a =>
    obtain rfl : v = .ref a := rx
    rcases h with ⟨rfl, ds, hm⟩ | ⟨rfl, ks, hm⟩
    · obtain ⟨_, w, hw, ys, rfl, h2⟩ := rm.mem a _ hm
      exact .inl ⟨rfl, ys, .inl (.inl hw)⟩
    · obtain ⟨_, w, hw, ys, rfl, h2⟩ := rm.mem a _ hm
      exact .inr (.inr (.inl ⟨rfl, .inl ⟨ys, hw⟩⟩))
  | _ => exact h.elim
def qBM (T : String) (r : D → LSp) (qo : QE) (qa : QA) : QE := fun s m Φ => qo s m fun x m1 => tyD T x m1 ∧ qa s m1 fun ds m2 => r x ds m2 Φ
section
variable {X : Cx} {o e : Expr} {es : List Expr} {qo : QE} {qa : QA} {name : Str} {apos cpos : Pos} {T id : String} {r : D → LSp}
theorem de_bm (pa : PlainAttrs T) (slot : Slot T name id) (hty : typeOf (.builtin id) = pure (.type "method_descriptor")) (hm : MtR X id (liftMt X.K r)) (ho : PE X o (liftE X.K qo)) (ha : PA X (e :: es) (liftA X.K qa))
    (hbase : attributeBase o name X.env (eval o X.env) = eval o X.env := by rfl)
    (hfew : ((backTo cpos (starEach (e :: es) X.env)).all (fun x => !x.1) && (backToKw cpos (keywordEach [] X.env)).all (fun x => x.1.isSome)
      && decide ((e :: es).length + ([] : List Keyword).length + (if ([] : List Keyword).isEmpty then 0 else 1) < 30)) = true := by rfl)
    (hline : (apos.endLine == cpos.line) = true := by rfl) (hs : starEach (e :: es) X.env = (false, eval e X.env) :: starEach es X.env := by rfl) (hplain : (backTo cpos (starEach es X.env)).any (·.1) = false := by rfl) :
    PE X (.Call (.Attribute o name apos) (e :: es) [] cpos) (liftE X.K (qBM T r qo qa)) :=
  pe_imp (pe_bm pa slot hty hm ho ha hbase hfew hline hs hplain) fun σ H Q ⟨G, s, mm, Φ, rm, rs, q, k⟩ => ⟨G, s, mm, _, rm, rs, q, fun G1 x m1 v H1 e1 r1 rx ⟨ht, q1⟩ =>
    ⟨tyD_lift r1 rx ht, G1, s, m1, _, r1, rs.mono e1, q1, fun G2 ds m2 vs H2 e2 r2 rd q2 => ⟨G2, m2, x, ds, Φ, r2, RV.mono e2 x rx, rd, q2, k.mono (e1.trans e2)⟩⟩⟩
theorem de_bm0 (pa : PlainAttrs T) (slot : Slot T name id) (hty : typeOf (.builtin id) = pure (.type "method_descriptor")) (hm : MtR X id (liftMt X.K r)) (ho : PE X o (liftE X.K qo)) (hbase : attributeBase o name X.env (eval o X.env) = eval o X.env := by rfl) (hline : (apos.endLine == cpos.line) = true := by rfl) :
    PE X (.Call (.Attribute o name apos) [] [] cpos) (liftE X.K (qBM T r qo qNil)) :=
  pe_imp (pe_bm0 pa slot hty hm ho hbase hline) fun σ H Q ⟨G, s, mm, Φ, rm, rs, q, k⟩ => ⟨G, s, mm, _, rm, rs, q, fun G1 x m1 v H1 e1 r1 rx ⟨ht, q1⟩ =>
    ⟨tyD_lift r1 rx ht, G1, m1, x, [], Φ, r1, rx, rfl, q1, k.mono e1⟩⟩
/-- a method of a list that may change: with its arguments, the list's items; the value and the items behind -/
def mtL (g : List D → List D → (D → List D → Prop) → Prop) : D → LSp := fun x ds m Φ => match x with
  | .ref a => ∃ xs, m a = some (.lst xs) ∧ g ds xs fun d ys => Φ d (mset m a (.lst ys))
  | _ => False
def gAppend : List D → List D → (D → List D → Prop) → Prop := fun ds xs R => match ds with | [y] => xs.length < sizeLine ∧ R .non (xs ++ [y]) | _ => False
theorem dm_append : MtR X "list.append" (liftMt X.K (mtL gAppend)) := mt_imp mt_append fun x vs H Q ⟨G, m, dx, ds, Φ, rm, rx, rd, q, k⟩ => by
  cases dx with
  | ref a =>
    obtain rfl : x = .ref a := rx
    obtain ⟨xs, hm, q⟩ := q
    unfold gAppend at q
    split at q
    · obtain ⟨v, rfl, hv⟩ := rv1 rd
      obtain ⟨_, w, hw, ys, rfl, h2⟩ := rm.mem a _ hm
      exact ⟨a, ys, v, rfl, rfl, hw, by rw [← h2.length]; exact q.1, k G .non _ _ _ (Sub.refl G) (rm.put (o := .lst _) hm ⟨_, rfl, h2.append (RVs.one hv)⟩) rfl q.2⟩
    · exact q.elim
  | _ => exact q.elim
def gInsert : List D → List D → (D → List D → Prop) → Prop := fun ds xs R => match ds with | [.int i, y] => xs.length < sizeLine ∧ 0 ≤ i ∧ i < 2 ^ 63 ∧ R .non (xs.take i.toNat ++ [y] ++ xs.drop i.toNat) | _ => False
theorem dm_insert : MtR X "list.insert" (liftMt X.K (mtL gInsert)) := mt_imp mt_insert fun x vs H Q ⟨G, m, dx, ds, Φ, rm, rx, rd, q, k⟩ => by
  cases dx with
  | ref a =>
    obtain rfl : x = .ref a := rx
    obtain ⟨xs, hm, q⟩ := q
    unfold gInsert at q
    split at q
    · rename_i i y
      obtain ⟨v, u, rfl, hv, hu⟩ := rv2 rd
      obtain rfl : v = .int i := hv
      obtain ⟨_, w, hw, ys, rfl, h2⟩ := rm.mem a _ hm
      exact ⟨a, ys, i, u, rfl, rfl, hw, by rw [← h2.length]; exact q.1, q.2.1, q.2.2.1, k G .non _ _ _ (Sub.refl G) (rm.put (o := .lst _) hm ⟨_, rfl, ((h2.take _).append (RVs.one hu)).append (h2.drop _)⟩) rfl q.2.2.2⟩
    · exact q.elim
  | _ => exact q.elim
def gPop : List D → List D → (D → List D → Prop) → Prop := fun ds xs R => match ds with | [] => ∃ y, xs[xs.length - 1]? = some y ∧ R y xs.dropLast | _ => False
def gPopAt : List D → List D → (D → List D → Prop) → Prop := fun ds xs R => match ds with | [.int i] => ∃ k y, -(2 ^ 63) ≤ i ∧ i < 2 ^ 63 ∧ seqIndex? i xs.length = some k ∧ xs[k]? = some y ∧ R y (xs.eraseIdx k) | _ => False
def gReverse : List D → List D → (D → List D → Prop) → Prop := fun ds xs R => match ds with | [] => R .non xs.reverse | _ => False
theorem dm_reverse : MtR X "list.reverse" (liftMt X.K (mtL gReverse)) := mt_imp mt_reverse fun x vs H Q ⟨G, m, dx, ds, Φ, rm, rx, rd, q, k⟩ => by
  cases dx with
  | ref a =>
    obtain rfl : x = .ref a := rx
    obtain ⟨xs, hm, q⟩ := q
    unfold gReverse at q
    split at q
    · obtain ⟨_, w, hw, ys, rfl, h2⟩ := rm.mem a _ hm
      exact ⟨a, ys, rfl, rd, hw, k G .non _ _ _ (Sub.refl G) (rm.put (o := .lst _) hm ⟨_, rfl, h2.reverse⟩) rfl q⟩
    · exact q.elim
  | _ => exact q.elim
def gClear : List D → List D → (D → List D → Prop) → Prop := fun ds xs R => match ds with | [] => R .non [] | _ => False
theorem dm_clear : MtR X "list.clear" (liftMt X.K (mtL gClear)) := mt_imp mt_clear fun x vs H Q ⟨G, m, dx, ds, Φ, rm, rx, rd, q, k⟩ => by
  cases dx with
  | ref a =>
    obtain rfl : x = .ref a := rx
    obtain ⟨xs, hm, q⟩ := q
    unfold gClear at q
    split at q
    · obtain ⟨_, w, hw, ys, rfl, h2⟩ := rm.mem a _ hm
      exact ⟨a, ys, rfl, rd, hw, k G .non _ _ _ (Sub.refl G) (rm.put (o := .lst []) hm ⟨[], rfl, rfl⟩) rfl q⟩
    · exact q.elim
  | _ => exact q.elim
/-- xs.extend(ys), ys a list that may change -/
def mExtend : D → LSp := fun x ds m Φ => match x, ds with
  | .ref a, [.ref b] => ∃ xs ys, m a = some (.lst xs) ∧ m b = some (.lst ys) ∧ xs.length + ys.length ≤ sizeLine ∧ Φ .non (mset m a (.lst (xs ++ ys)))
  | _, _ => False
end
end L3
/-! L3u: unpacking a list -/
namespace L3
open PySem PySem.Spec PyProof.Rows L2
section
variable {prog : Program} {w : World} {A : Around} {E : Value → Shared → Prop} {s : Shared}
theorem draw_list {it l : Addr} {items : Array Value} (hne : l ≠ it) : ∀ (n i : Nat) (s : Shared) (Q : List Value → Shared → Prop), s.heap.IsListIter it l i → PlainL s.heap l items → i + n ≤ items.size →
    (∀ h', h'.IsListIter it l (i + n) → Heap.SameBut it s.heap h' → Q ((items.toList.drop i).take n) { s with heap := h' }) → wpAny (model prog w) A (draw (.ref it) n) Q E s
  | 0, i, s, Q, hit, _, _, hQ => by
    show wpAny _ _ (pure []) Q E s
    exact wpAny_pure (by simpa using hQ s.heap hit (Heap.SameBut.refl ..))
  | n + 1, i, s, Q, hit, ht, hle, hQ => by
    have hlt : i < items.size := by omega
    show wpAny _ _ (pyNext (.ref it) >>= _) Q E s
    refine wpAny_bind (wpAny_pyNext_list_item hit ht.isList (x := items[i]) (by simp [hlt]) fun h₁ hit₁ hs₁ => ?_)
    refine wpAny_bind (wpAny_holding (draw_list hne n (i + 1) _ _ hit₁ (ht.extBut hs₁.extBut hne) (by omega) fun h₂ hit₂ hs₂ => wpAny_pure ?_))
    have hd : items.toList.drop i = items[i] :: items.toList.drop (i + 1) := by simp [List.drop_eq_getElem_cons, hlt]
    have := hQ h₂ (by rw [show i + (n + 1) = i + 1 + n by omega]; exact hit₂) (hs₁.trans hs₂)
    rw [hd, List.take_succ_cons] at this
    exact this
theorem unpackItems_list {l : Addr} {items : Array Value} {Q : List Value → Shared → Prop} (hh : A.handled = none) (ht : PlainL s.heap l items)
    (hQ : ∀ h', Heap.ExtBut s.heap.objs.size s.heap h' → Q items.toList { s with heap := h' }) : wpAny (model prog w) A (unpackItems (.ref l) items.size none) Q E s := by
  have hlt : l ≠ s.heap.objs.size := by obtain ⟨o, n, ho, _⟩ := ht; exact Nat.ne_of_lt (Heap.lt_size ho)
  unfold unpackItems
  refine wpAny_bind ?_
  · unfold notIterableAtAll
    refine wpAny_bind (wpAny_specialOf ht.isList.typeIs slot_list_iter.lookup ?_)
    refine wpAny_pure ?_
    simp only [Bool.false_eq_true, if_false]
    refine wpAny_bind (wpAny_holding (wpAny_pyIter_list ht.isList ?_))
    have ht0 : PlainL (s.heap.push { cls := .type "list_iterator", data := .fields #[.ref l, .int 0 0] }) l items := ht.keeps fun b o e => Heap.get?_push_of_some _ e
    refine wpAny_bind (wpAny_holding (draw_list hlt items.size 0 _ _ ⟨_, Heap.get?_push_size _ rfl, rfl, rfl⟩ ht0 (by omega) fun h₁ hit₁ hs₁ => ?_))
    have hall : List.take items.size (List.drop 0 items.toList) = items.toList := by
      rw [List.drop_zero]; exact List.take_of_length_le (by simp)
    rw [hall]
    rw [if_neg (by simp)]
    have ht₁ : PlainL h₁ l items := ht0.extBut hs₁.extBut hlt
    refine wpAny_bind (wpAny_holding (wpAny_pyNext_list_end hh hit₁ ht₁.isList (by simp) fun h₂ he₂ => ?_))
    simp only [Option.isSome_none, Bool.false_eq_true, if_false]
    refine wpAny_pure (hQ h₂ fun b o hb e => he₂ b o hb (hs₁.extBut b o hb (Heap.get?_push_of_some _ e)))
theorem assign_Tuple_list {env : Env} {elts : List Expr} {x1} {pos : Pos} {l : Addr} {items : Array Value} {Q : Unit → Shared → Prop} (hh : A.handled = none) (ht : PlainL s.heap l items)
    (hn : (assignEach elts env).length = items.size) (hstar : (assignEach elts env).findIdx? (·.1) = none)
    (h : ∀ h', Heap.ExtBut s.heap.objs.size s.heap h' → wpAny (model prog w) A (assignInOrder ((assignEach elts env).map (·.2)) items.toList) Q E { s with heap := h' }) :
    wpAny (model prog w) A (assign (.Tuple elts x1 pos) env (.ref l)) Q E s := by
  rw [assign_Tuple]
  refine wpAny_bind (wpAny_standAt ?_)
  unfold unpack
  rw [hn, hstar]
  exact wpAny_bind (wpAny_holding (unpackItems_list hh ht h))
end
/-- a, b = xs of a tuple or of a list -/
def gSeqT (K : PySem.W.Frag) (n : Nat) (t : TGs) : TG := fun v σ H Q => ∃ a xs, v = .ref a ∧ (SqT K H a xs ∨ SqL K H a xs) ∧ xs.length = n ∧ t xs σ H Q
section
variable {X : Cx} {pos : Pos}
theorem pg_seq {es : List Expr} {k : Nat} {t : TGs} {n : Nat} (hc : X.calm = true) (h : PGs X es t)
    (hn : (assignEach es X.env).length = n := by rfl) (hst : (assignEach es X.env).findIdx? (·.1) = none := by rfl) : PG X (.Tuple es k pos) (gSeqT X.K n t) := by
  refine ⟨fun pins s σ H v u Q I r hw => ?_⟩
  obtain ⟨a, xs, e1, hq, hl, hw⟩ := hw
  subst e1
  cases r
  rcases hq with hq | hq
  · obtain ⟨its, rv, ht, hz⟩ := I.tuple hq
    refine assign_Tuple_tuple (I.ok.hd hc) ht (by simp [hn, ← hl, rv.length]) hst fun h' hx => ?_
    have I1 : Inv X pins σ H { s with heap := h' } := I.kept (t' := s.toks) fun b o e => hx b o (Nat.ne_of_lt (Heap.lt_size e)) e
    exact h.run pins _ σ H xs _ Q I1 (by simpa using rv) hw
  · obtain ⟨its, rv, ht, hz⟩ := I.list hq
    refine assign_Tuple_list (I.ok.hd hc) ht (by simp [hn, ← hl, rv.length]) hst fun h' hx => ?_
    have I1 : Inv X pins σ H { s with heap := h' } := I.kept (t' := s.toks) fun b o e => hx b o (Nat.ne_of_lt (Heap.lt_size e)) e
    exact h.run pins _ σ H xs _ Q I1 (by simpa using rv) hw
end
end L3
namespace L3
open PySem L2
/-! ### targets -/
inductive Pat where
  | nm (i : Nat)
  | tp (ps : List Pat)
section
variable (K : PySem.W.Frag)
mutual
/-- the layer's own reading of a target -/
def tgOf : Pat → TG
  | .nm i => gName i
  | .tp ps => gSeqT K ps.length (tgsOf ps)
def tgsOf : List Pat → TGs
  | [] => gNil
  | p :: ps => gCons (tgOf p) (tgsOf ps)
end
end
mutual
/-- the slots behind the store of a datum -/
def asg : Pat → D → DSt → Option DSt
  | .nm i, d, s => some (s.set i (some d))
  | .tp ps, d, s => match d with
    | .tup ds => asgs ps ds s
    | .lst ds => asgs ps ds s
    | _ => none
def asgs : List Pat → List D → DSt → Option DSt
  | [], [], s => some s
  | p :: ps, d :: ds, s => match asg p d s with
    | some s1 => asgs ps ds s1
    | none => none
  | _, _, _ => none
end
mutual
def slots : Pat → List Nat
  | .nm i => [i]
  | .tp ps => slotss ps
def slotss : List Pat → List Nat
  | [] => []
  | p :: ps => slots p ++ slotss ps
end
theorem wipe_set {σ : St} {i : Nat} {x : Option V} : ∀ {vs : List Nat}, i ∈ vs → wipe (σ.set i x) vs = wipe σ vs
  | v :: vs, h => by
    show (wipe (σ.set i x) vs).set v none = (wipe σ vs).set v none
    by_cases hv : i ∈ vs
    · rw [wipe_set hv]
    · have e : i = v := by
        rcases List.mem_cons.mp h with h | h
        · exact h
        · exact absurd h hv
      subst e
      have q : ∀ (us : List Nat), i ∉ us → wipe (σ.set i x) us = (wipe σ us).set i x := by
        intro us
        induction us with
        | nil => intro _; rfl
        | cons u us ih =>
          intro hu
          show (wipe (σ.set i x) us).set u none = ((wipe σ us).set u none).set i x
          rw [ih (fun z => hu (List.mem_cons_of_mem _ z)), List.set_comm _ _ (fun z => hu (by rw [z]; exact List.mem_cons_self))]
      rw [q vs hv, List.set_set]
theorem asgs_len : ∀ {ps : List Pat} {ds : List D} {s s2 : DSt}, asgs ps ds s = some s2 → ds.length = ps.length
  | [], [], _, _, _ => rfl
  | [], _ :: _, _, _, h => by simp [asgs] at h
  | _ :: _, [], _, _, h => by simp [asgs] at h
  | p :: ps, d :: ds, s, s2, h => by
    rw [asgs] at h
    cases e : asg p d s with
    | none => rw [e] at h; cases h
    | some s1 => rw [e] at h; rw [List.length_cons, List.length_cons, asgs_len h]
section
variable {K : PySem.W.Frag} {G H : Hp}
mutual
theorem asg_run (e : Sub G H) : ∀ (p : Pat) {d : D} {v : V} {s s2 : DSt} {σ : St}, RV K G d v → RelS K s G σ → asg p d s = some s2 →
    ∃ σ2, RelS K s2 G σ2 ∧ (∀ Q : St → Hp → Prop, Q σ2 H → tgOf K p v σ H Q) ∧ ∀ vs : List Nat, (∀ i ∈ slots p, i ∈ vs) → wipe σ2 vs = wipe σ vs
  | .nm i, d, v, s, s2, σ, rv, rs, h => by
    obtain rfl : s.set i (some d) = s2 := Option.some.inj h
    exact ⟨σ.set i (some v), rs.set i rv, fun Q q => q, fun vs hv => wipe_set (hv i (by simp [slots]))⟩
  | .tp ps, d, v, s, s2, σ, rv, rs, h => by
    cases d with
    | tup ds =>
      obtain ⟨a, xs, rfl, h1, h2⟩ := rv
      have h' : asgs ps ds s = some s2 := h
      obtain ⟨σ2, r2, run, w⟩ := asgs_run e ps h2 rs h'
      exact ⟨σ2, r2, fun Q q => ⟨a, xs, rfl, .inl (e.t h1), by rw [← h2.length]; exact asgs_len h', run Q q⟩, w⟩
    | lst ds =>
      obtain ⟨a, xs, rfl, h1, h2⟩ := rv
      have h' : asgs ps ds s = some s2 := h
      obtain ⟨σ2, r2, run, w⟩ := asgs_run e ps h2 rs h'
      exact ⟨σ2, r2, fun Q q => ⟨a, xs, rfl, .inr (e.l h1), by rw [← h2.length]; exact asgs_len h', run Q q⟩, w⟩
    | _ => cases h
theorem asgs_run (e : Sub G H) : ∀ (ps : List Pat) {ds : List D} {xs : List V} {s s2 : DSt} {σ : St}, RVs K G ds xs → RelS K s G σ → asgs ps ds s = some s2 →
    ∃ σ2, RelS K s2 G σ2 ∧ (∀ Q : St → Hp → Prop, Q σ2 H → tgsOf K ps xs σ H Q) ∧ ∀ vs : List Nat, (∀ i ∈ slotss ps, i ∈ vs) → wipe σ2 vs = wipe σ vs
  | [], ds, xs, s, s2, σ, rv, rs, h => by
    cases ds with
    | nil =>
      obtain rfl : s = s2 := Option.some.inj h
      exact ⟨σ, rs, fun Q q => ⟨rv, q⟩, fun _ _ => rfl⟩
    | cons d ds => simp [asgs] at h
  | p :: ps, ds, xs, s, s2, σ, rv, rs, h => by
    cases ds with
    | nil => simp [asgs] at h
    | cons d ds =>
      obtain ⟨x, r, rfl, h2, h3⟩ := rv
      rw [asgs] at h
      cases e1 : asg p d s with
      | none => rw [e1] at h; cases h
      | some s1 =>
        rw [e1] at h
        obtain ⟨σ1, r1, run1, w1⟩ := asg_run e p h2 rs e1
        obtain ⟨σ2, r2, run2, w2⟩ := asgs_run e ps h3 r1 h
        exact ⟨σ2, r2, fun Q q => ⟨x, r, rfl, run1 _ (run2 Q q)⟩, fun vs hv => (w2 vs fun i hi => hv i (by simp [slotss, hi])).trans (w1 vs fun i hi => hv i (by simp [slotss, hi]))⟩
end
end
section
variable {X : Cx} {pos : Pos}
theorem pt_nm (i : Nat) {x : Str} (hN : X.N.Nodup) (hi : X.N[i]? = some x := by rfl) (hx : Loc X.env.scope x := by first | exact Or.inl rfl | exact Or.inr rfl) (hf : X.fn x = true ∨ X.env.scope.names.lookup x = some .local := by first | exact .inr rfl | exact .inl rfl | assumption) : PG X (.Name x pos) (tgOf X.K (.nm i)) := pg_name hN hi hx hf
theorem pt_tp {es : List Expr} {k : Nat} {ps : List Pat} (hc : X.calm = true) (h : PGs X es (tgsOf X.K ps)) (hn : (assignEach es X.env).length = ps.length := by rfl) (hst : (assignEach es X.env).findIdx? (·.1) = none := by rfl) : PG X (.Tuple es k pos) (tgOf X.K (.tp ps)) := pg_seq hc h hn hst
theorem pts_nl : PGs X [] (tgsOf X.K []) := pgs_nil
theorem pts_cn {e : Expr} {es : List Expr} {p : Pat} {ps : List Pat} (h1 : PG X e (tgOf X.K p)) (h2 : PGs X es (tgsOf X.K ps)) (hs : (assignEach (e :: es) X.env).map (·.2) = assign e X.env :: (assignEach es X.env).map (·.2) := by rfl) : PGs X (e :: es) (tgsOf X.K (p :: ps)) := pgs_cons h1 h2 hs
end
/-! ### statements -/
def sNext : QS := fun E s m => E.nx s m
def sSeq (t u : QS) : QS := fun E s m => t { E with nx := u E } s m
def sBreak : QS := fun E s m => E.bk s m
def sCont : QS := fun E s m => E.ct s m
def sExpr (qe : QE) : QS := fun E s m => qe s m fun _ m1 => E.nx s m1
def sRet (qe : QE) : QS := fun E s m => qe s m E.rt
def sRetN : QS := fun E _ m => E.rt .non m
def sIf (c : QT) (t u : QS) : QS := fun E s m => c s m fun b m1 => qIf b (t E s m1) (u E s m1)
def sNever : QS := fun _ _ _ => False
/-- target = value -/
def sAsg (p : Pat) (qe : QE) : QS := fun E s m => qe s m fun d m1 => match asg p d s with | some s2 => E.nx s2 m1 | none => False
def sPar (i j : Nat) (qa : QA) : QS := fun E s m => qa s m fun ds m1 => match ds with | [d, e] => E.nx ((s.set i (some d)).set j (some e)) m1 | _ => False
def sPar3 (i j l : Nat) (qa : QA) : QS := fun E s m => qa s m fun ds m1 => match ds with | [d, e, f] => E.nx (((s.set i (some d)).set j (some e)).set l (some f)) m1 | _ => False
def sAug (i : Nat) (r : D → D → Mem → DK → Prop) (qe : QE) : QS := fun E s m => match look s i with
  | some x => qe s m fun y m1 => r x y m1 fun z m2 => E.nx (s.set i (some z)) m2
  | none => False
section
variable {X : Cx} {st : Stmt} {rest : List Stmt} {t u : QS} {e : Expr} {qe : QE} {qa : QA} {pos : Pos}
theorem dss_nil : PSs X [] (liftS X.K sNext) := pss_imp pss_nil fun D σ H ⟨G, s, m, E, rm, rs, q, kn, kr, kb, kc⟩ => kn G s m σ H (Sub.refl G) rm rs q
theorem dss_cons (h1 : PS X st (liftS X.K t)) (h2 : PSs X rest (liftS X.K u)) : PSs X (st :: rest) (liftS X.K (sSeq t u)) :=
  pss_imp (pss_cons h1 h2) fun D σ H ⟨G, s, m, E, rm, rs, q, kn, kr, kb, kc⟩ => ⟨G, s, m, { E with nx := u E }, rm, rs, q, fun G1 s1 m1 σ1 H1 e1 r1 rs1 q1 => ⟨G1, s1, m1, E, r1, rs1, q1, kn.mono e1, kr.mono e1, kb.mono e1, kc.mono e1⟩, kr, kb, kc⟩
theorem dss_one (h1 : PS X st (liftS X.K t)) : PSs X [st] (liftS X.K t) := pss_one h1
theorem ds_never : PS X st (liftS X.K sNever) := ps_imp ps_never fun D σ H ⟨_, _, _, _, _, _, q, _⟩ => q
theorem ds_expr (he : PE X e (liftE X.K qe)) (hs : swapsWith e none pos.line X.env = pure false := by rfl) : PS X (.Expr e pos) (liftS X.K (sExpr qe)) :=
  ps_imp (ps_expr he hs) fun D σ H ⟨G, s, m, E, rm, rs, q, kn, kr, kb, kc⟩ => ⟨G, s, m, _, rm, rs, q, fun G1 d m1 v H1 e1 r1 rv q1 => kn G1 s m1 σ H1 e1 r1 (rs.mono e1) q1⟩
theorem ds_ret (he : PE X e (liftE X.K qe)) : PS X (.Return (some e) pos) (liftS X.K (sRet qe)) :=
  ps_imp (ps_ret he) fun D σ H ⟨G, s, m, E, rm, rs, q, kn, kr, kb, kc⟩ => ⟨G, s, m, _, rm, rs, q, kr⟩
theorem ds_if {c : Expr} {a b : List Stmt} {qc : QT} (hc : PT X c (liftT X.K qc)) (ha : PSs X a (liftS X.K t)) (hb : PSs X b (liftS X.K u)) : PS X (.If c a b pos) (liftS X.K (sIf qc t u)) :=
  ps_imp (ps_if hc ha hb) fun D σ H ⟨G, s, m, E, rm, rs, q, kn, kr, kb, kc⟩ => ⟨G, s, m, _, rm, rs, q, fun G1 c m1 H1 e1 r1 q1 => by
    have q1 := qif_e q1
    dsimp only
    cases c with
    | true => rw [if_pos rfl] at q1 ⊢; exact ⟨G1, s, m1, E, r1, rs.mono e1, q1, kn.mono e1, kr.mono e1, kb.mono e1, kc.mono e1⟩
    | false => rw [if_neg Bool.false_ne_true] at q1 ⊢; exact ⟨G1, s, m1, E, r1, rs.mono e1, q1, kn.mono e1, kr.mono e1, kb.mono e1, kc.mono e1⟩⟩
theorem lift_asg {K : PySem.W.Frag} {p : Pat} : ∀ D σ H, liftS K (sAsg p qe) D σ H → tAsg (liftE K qe) (tgOf K p) D σ H := fun D σ H ⟨G, s, m, E, rm, rs, q, kn, kr, kb, kc⟩ => ⟨G, s, m, _, rm, rs, q, fun G1 d m1 v H1 e1 r1 rv q1 => by
  cases h : asg p d s with
  | none => rw [h] at q1; exact q1.elim
  | some s2 =>
    rw [h] at q1
    obtain ⟨σ2, r2, run, _⟩ := asg_run r1.sub p rv (rs.mono e1) h
    exact run _ (kn G1 s2 m1 σ2 H1 e1 r1 r2 q1)⟩
/-- name = value -/
theorem ds_set (i : Nat) {x : Str} {pos' : Pos} (hN : X.N.Nodup) (he : PE X e (liftE X.K qe)) (hi : X.N[i]? = some x := by rfl) (hx : Loc X.env.scope x := by first | exact Or.inl rfl | exact Or.inr rfl) (hs : swapsWith e (some (.Name x pos')) pos.line X.env = pure false := by rfl)
    (hf : X.fn x = true ∨ X.env.scope.names.lookup x = some .local := by first | exact .inr rfl | exact .inl rfl | assumption) : PS X (.Assign [.Name x pos'] e pos) (liftS X.K (sAsg (.nm i) qe)) := ps_imp (ps_set hN hi hx he hs hf) lift_asg
/-- pattern = value -/
theorem ds_asg {tg : Expr} {p : Pat} (he : PE X e (liftE X.K qe)) (hg : PG X tg (tgOf X.K p)) (hs : swapsWithSole [tg] e pos.line X.env = pure false := by rfl) (hw : swappedStores [tg] e X.env = pure none := by rfl)
    (h1 : (assignEach [tg] X.env).map (·.2) = [assign tg X.env] := by rfl) : PS X (.Assign [tg] e pos) (liftS X.K (sAsg p qe)) := ps_imp (ps_asg he hg hs hw h1) lift_asg
theorem ds_par {x y : Str} {a b : Expr} {px py pt : Pos} {kt k2 pt2} (i j : Nat) (hc : X.calm = true) (hN : X.N.Nodup) (ha : PA X [a, b] (liftA X.K qa)) (hij : i ≠ j := by decide) (hi : X.N[i]? = some x := by rfl) (hj : X.N[j]? = some y := by rfl)
    (hx : X.env.scope.names.lookup x = some .local := by rfl) (hy : X.env.scope.names.lookup y = some .local := by rfl)
    (hw : swappedStores [.Tuple [.Name x px, .Name y py] kt pt] (.Tuple [a, b] k2 pt2) X.env = pure (some [x, y]) := by rfl)
    (hs : swapsWithSole [.Tuple [.Name x px, .Name y py] kt pt] (.Tuple [a, b] k2 pt2) pos.line X.env = pure false := by rfl) :
    PS X (.Assign [.Tuple [.Name x px, .Name y py] kt pt] (.Tuple [a, b] k2 pt2) pos) (liftS X.K (sPar i j qa)) :=
  ps_imp (ps_par hc hN hi hj hij hx hy ha hw hs) fun D σ H ⟨G, s, m, E, rm, rs, q, kn, kr, kb, kc⟩ => ⟨G, s, m, _, rm, rs, q, fun G1 ds m1 vs H1 e1 r1 rd q1 => by
    split at q1
    · obtain ⟨v, w, rfl, h1, h2⟩ := rv2 rd
      exact ⟨v, w, rfl, kn G1 _ m1 _ H1 e1 r1 (((rs.mono e1).set i h1).set j h2) q1⟩
    · exact q1.elim⟩
theorem ds_par3 {x y z : Str} {a b c : Expr} {px py pz pt : Pos} {kt k2 pt2} (i j l : Nat) (hc : X.calm = true) (hN : X.N.Nodup) (ha : PA X [a, b, c] (liftA X.K qa)) (hij : i ≠ j := by decide) (hil : i ≠ l := by decide) (hjl : j ≠ l := by decide) (hi : X.N[i]? = some x := by rfl) (hj : X.N[j]? = some y := by rfl) (hl : X.N[l]? = some z := by rfl)
    (hx : X.env.scope.names.lookup x = some .local := by rfl) (hy : X.env.scope.names.lookup y = some .local := by rfl) (hz : X.env.scope.names.lookup z = some .local := by rfl)
    (hw : swappedStores [.Tuple [.Name x px, .Name y py, .Name z pz] kt pt] (.Tuple [a, b, c] k2 pt2) X.env = pure (some [x, y, z]) := by rfl)
    (hs : swapsWithSole [.Tuple [.Name x px, .Name y py, .Name z pz] kt pt] (.Tuple [a, b, c] k2 pt2) pos.line X.env = pure false := by rfl) :
    PS X (.Assign [.Tuple [.Name x px, .Name y py, .Name z pz] kt pt] (.Tuple [a, b, c] k2 pt2) pos) (liftS X.K (sPar3 i j l qa)) :=
  ps_imp (ps_par3 hc hN hi hj hl hij hil hjl hx hy hz ha hw hs) fun D σ H ⟨G, s, m, E, rm, rs, q, kn, kr, kb, kc⟩ => ⟨G, s, m, _, rm, rs, q, fun G1 ds m1 vs H1 e1 r1 rd q1 => by
    split at q1
    · obtain ⟨v, r, rfl, h1, h2⟩ := rd
      obtain ⟨w, u, rfl, h3, h4⟩ := rv2 h2
      exact ⟨v, w, u, rfl, kn G1 _ m1 _ H1 e1 r1 ((((rs.mono e1).set i h1).set j h3).set l h4) q1⟩
    · exact q1.elim⟩
/-! ### o[i] = v -/
def sSub (qo qi qv : QE) : QS := fun E s m => qv s m fun v m1 => qo s m1 fun o m2 => qi s m2 fun i m3 => match o with
  | .ref a => (∃ ds k j, i = .int k ∧ m3 a = some (.lst ds) ∧ ixN ds.length k = some j ∧ E.nx s (mset m3 a (.lst (ds.set j v)))) ∨
      ∃ ks k, m3 a = some (.dK ks) ∧ keyD i = some k ∧ ks.length < sizeLine ∧ E.nx s (mset m3 a (.dK (putD ks k v)))
  | _ => False
def rSetA : TSet := fun o i v H Q => rSetL o i v H Q ∨ ∃ a H', o = .ref a ∧ DPut H a i v H' ∧ Q H'
theorem set_any (hu : X.A.units + 1 < cLine) : PSet X rSetA := by
  intro pins s σ H o i v ov iv u Q I ro ri rv h
  rcases h with h | ⟨a, H', rfl, g, q⟩
  · exact set_list pins s σ H o i v ov iv u Q I ro ri rv h
  · obtain rfl : ov = Value.ref a := ro
    exact d_setItem hu I g ri rv fun s' I' => ⟨H', I', q⟩
theorem ds_sub {o i value : Expr} {qo qi qv : QE} {pos' : Pos} (hu : X.A.units + 1 < cLine) (ho : PE X o (liftE X.K qo)) (hi : PE X i (liftE X.K qi)) (hv : PE X value (liftE X.K qv))
    (ha : ∀ v, assign (.Subscript o i pos') X.env v = (do
      let ov ← holding [v] (eval o X.env)
      let iv ← holding [v, ov] (eval i X.env)
      standAt pos'
      holding [v, ov, iv] (setItem ov iv v)
      release [v, ov, iv] []) := by intro _; rfl)
    (hs : swapsWithSole [.Subscript o i pos'] value pos.line X.env = pure false := by rfl) (hw : swappedStores [.Subscript o i pos'] value X.env = pure none := by rfl)
    (h1 : (assignEach [.Subscript o i pos'] X.env).map (·.2) = [assign (.Subscript o i pos') X.env] := by rfl) :
    PS X (.Assign [.Subscript o i pos'] value pos) (liftS X.K (sSub qo qi qv)) :=
  ps_imp (ps_asg hv (pg_sub ho hi (set_any hu) ha) hs hw h1) fun D σ H ⟨G, s, m, E, rm, rs, q, kn, kr, kb, kc⟩ => ⟨G, s, m, _, rm, rs, q, fun G1 v m1 w1 H1 e1 r1 rv q1 => ⟨G1, s, m1, _, r1, rs.mono e1, q1, fun G2 o m2 w2 H2 e2 r2 ro q2 =>
    ⟨G2, s, m2, _, r2, rs.mono (e1.trans e2), q2, fun G3 i m3 w3 H3 e3 r3 ri q3 => by
      cases o with
      | ref a =>
        obtain rfl : w2 = .ref a := ro
        rcases q3 with ⟨ds, k, j, rfl, hm, hj, q3⟩ | ⟨ks, k, hm, hk, hl, q3⟩
        · obtain rfl : w3 = .int k := ri
          obtain ⟨_, w, hw, ys, rfl, h2⟩ := r3.mem a _ hm
          exact .inl ⟨a, ys, k, j, rfl, rfl, hw, by rw [← h2.length]; exact hj, kn G3 s _ σ _ ((e1.trans e2).trans e3) (r3.put (o := .lst _) hm ⟨_, rfl, RVs.set (RV.mono (e2.trans e3) v rv) j h2⟩) (rs.mono ((e1.trans e2).trans e3)) q3⟩
        · obtain ⟨_, w, hw, ys, rfl, h2⟩ := r3.mem a _ hm
          exact .inr ⟨a, _, rfl, .inl ⟨ys, k, hw, ri.key hk, by rw [← h2.length]; exact hl, rfl⟩, kn G3 s _ σ _ ((e1.trans e2).trans e3) (r3.put (o := .dK _) hm ⟨_, rfl, RKs.put k (RV.mono (e2.trans e3) v rv) h2⟩) (rs.mono ((e1.trans e2).trans e3)) q3⟩
      | _ => exact q3.elim⟩⟩⟩
/-! ### weakening what is known, opening what is hidden -/
def sWk (t : QS) : QS := fun E s m => ∃ m', MLe m m' ∧ t E s m'
end
/-! ### loops -/
/-- a walk over data: n turns -/
structure Wk (K : PySem.W.Frag) (J : It) (ds : List D) (C : Mem → Prop) (G0 : Hp) : Prop where
  stop : ∀ G m H, Sub G0 G → RelM K m G H → C m → J.stop ds.length H
  go : ∀ G m H i, Sub G0 G → RelM K m G H → C m → i < ds.length → J.go i H
  yld : ∀ G m H i x H', Sub G0 G → RelM K m G H → C m → i < ds.length → J.yld i H x H' → ∃ G' d, Sub G G' ∧ RelM K m G' H' ∧ ds[i]? = some d ∧ RV K G' d x
abbrev QI := DSt → Mem → (List D → (Mem → Prop) → Mem → Prop) → Prop
def liftI (K : PySem.W.Frag) (q : QI) : TI := fun σ H R => ∃ G s m Φ, RelM K m G H ∧ RelS K s G σ ∧ q s m Φ ∧ ∀ G' ds C m' J H', Sub G G' → RelM K m' G' H' → Wk K J ds C G' → Φ ds C m' → R J H'
theorem pi_imp {X : Cx} {tg e : Expr} {t t' : TI} (h : PI X tg e t) (i : ∀ σ H Q, t' σ H Q → t σ H Q) : PI X tg e t' := ⟨fun pins s σ H Q I w => h.run pins s σ H Q I (i σ H Q w)⟩
/-- for target in iter: I: the word by the turn -/
def sFor (qi : QI) (p : Pat) (qb : QS) : QS := fun E s m => qi s m fun ds C m1 => ∃ I : Nat → DSt → Mem → Prop, I 0 s m1 ∧ (∀ i s' m', i ≤ ds.length → I i s' m' → C m') ∧
  (∀ i d s' m', ds[i]? = some d → I i s' m' → match asg p d s' with
    | some s2 => qb { E with nx := I (i + 1), ct := I (i + 1), bk := E.nx } s2 m'
    | none => False) ∧ ∀ s' m', I ds.length s' m' → E.nx s' m'
theorem ds_for {X : Cx} {tg iter : Expr} {body : List Stmt} {qi : QI} {p : Pat} {qb : QS} {pos : Pos} (hp : PassesOwn (model X.prog X.w) X.A X.env X.xe) (hc : X.calm = true) (hi : PI X tg iter (liftI X.K qi)) (hg : PG X tg (tgOf X.K p)) (hb : PSs X body (liftS X.K qb))
    (hs : ∀ x, foldedSetIterable iter X.env x = pure x := by intro _; rfl) : PS X (.For tg iter body [] pos) (liftS X.K (sFor qi p qb)) :=
  ps_imp (ps_for hp hc hi hg hb hs) fun D σ H ⟨G, s, m, E, rm, rs, q, kn, kr, kb, kc⟩ => ⟨G, s, m, _, rm, rs, q, fun G1 ds C m1 J H1 e1 r1 wk ⟨I, h0, hC, hS, hE⟩ => by
    refine ⟨fun i n σ' H' => n = ds.length - i ∧ i ≤ ds.length ∧ ∃ G2 s2 m2, Sub G1 G2 ∧ RelM X.K m2 G2 H' ∧ RelS X.K s2 G2 σ' ∧ I i s2 m2, ⟨_, rfl, Nat.zero_le _, G1, s, m1, Sub.refl G1, r1, rs.mono e1, h0⟩, ?_⟩
    rintro i n σ' H' ⟨rfl, hi', G2, s2, m2, e2, r2, rs2, h2⟩
    by_cases hlt : i < ds.length
    · refine .inr ⟨wk.go G2 m2 H' i e2 r2 (hC i s2 m2 hi' h2) hlt, fun σ3 H3 => ∃ G3 s3 m3, Sub G1 G3 ∧ RelM X.K m3 G3 H3 ∧ RelS X.K s3 G3 σ3 ∧ I (i + 1) s3 m3, fun σ3 H3 ⟨G3, s3, m3, a, b, c, d⟩ => ⟨_, by omega, rfl, hlt, G3, s3, m3, a, b, c, d⟩, fun x H3 y => ?_⟩
      obtain ⟨G3, d, e3, r3, hd, rd⟩ := wk.yld G2 m2 H' i x H3 e2 r2 (hC i s2 m2 hi' h2) hlt y
      have hs := hS i d s2 m2 hd h2
      cases ha : asg p d s2 with
      | none => rw [ha] at hs; exact hs.elim
      | some s3 =>
        rw [ha] at hs
        obtain ⟨σ3, rs3, run, _⟩ := asg_run r3.sub p rd (rs2.mono e3) ha
        have ee := e2.trans e3
        refine run _ ⟨G3, s3, m2, _, r3, rs3, hs, ?_, kr.mono (e1.trans ee), kn.mono (e1.trans ee), ?_⟩
        · exact fun G4 s4 m4 σ4 H4 e4 r4 rs4 h4 => ⟨G4, s4, m4, ee.trans e4, r4, rs4, h4⟩
        · exact fun G4 s4 m4 σ4 H4 e4 r4 rs4 h4 => ⟨G4, s4, m4, ee.trans e4, r4, rs4, h4⟩
    · have e : i = ds.length := by omega
      subst e
      exact .inl ⟨wk.stop G2 m2 H' e2 r2 (hC _ s2 m2 hi' h2), kn G2 s2 m2 σ' H' (e1.trans e2) r2 rs2 (hE s2 m2 h2)⟩⟩
/-- while: I by a measure -/
def sWhile (c : QT) (qb : QS) : QS := fun E s m => ∃ I : Nat → DSt → Mem → Prop, (∃ n, I n s m) ∧ ∀ n s' m', I n s' m' → c s' m' fun b m1 => qIf b (qb { E with nx := fun s2 m2 => ∃ n', n' < n ∧ I n' s2 m2, ct := fun s2 m2 => ∃ n', n' < n ∧ I n' s2 m2, bk := E.nx } s' m1) (E.nx s' m1)
theorem ds_while {X : Cx} {c : Expr} {body : List Stmt} {qc : QT} {qb : QS} {pos : Pos} (hp : PassesOwn (model X.prog X.w) X.A X.env X.xe) (hc : PT X c (liftT X.K qc)) (hb : PSs X body (liftS X.K qb)) : PS X (.While c body [] pos) (liftS X.K (sWhile qc qb)) :=
  ps_imp (ps_while hp hc hb) fun D σ H ⟨G, s, m, E, rm, rs, ⟨I, ⟨n0, h0⟩, hS⟩, kn, kr, kb, kc⟩ => by
    refine ⟨fun n σ' H' => ∃ G2 s2 m2, Sub G G2 ∧ RelM X.K m2 G2 H' ∧ RelS X.K s2 G2 σ' ∧ I n s2 m2, ⟨n0, G, s, m, Sub.refl G, rm, rs, h0⟩, ?_⟩
    rintro n σ' H' ⟨G2, s2, m2, e2, r2, rs2, h2⟩
    refine ⟨G2, s2, m2, _, r2, rs2, hS n s2 m2 h2, fun G3 b m3 H3 e3 r3 q3 => ?_⟩
    have q3 := qif_e q3
    dsimp only
    have ee := e2.trans e3
    cases b with
    | true =>
      rw [if_pos rfl] at q3 ⊢
      refine ⟨fun σ4 H4 => ∃ n', n' < n ∧ ∃ G4 s4 m4, Sub G G4 ∧ RelM X.K m4 G4 H4 ∧ RelS X.K s4 G4 σ4 ∧ I n' s4 m4, fun σ4 H4 z => z, G3, s2, m3, _, r3, rs2.mono e3, q3, ?_, kr.mono ee, kn.mono ee, ?_⟩
      · exact fun G4 s4 m4 σ4 H4 e4 r4 rs4 ⟨n', hn, h4⟩ => ⟨n', hn, G4, s4, m4, ee.trans e4, r4, rs4, h4⟩
      · exact fun G4 s4 m4 σ4 H4 e4 r4 rs4 ⟨n', hn, h4⟩ => ⟨n', hn, G4, s4, m4, ee.trans e4, r4, rs4, h4⟩
    | false =>
      rw [if_neg Bool.false_ne_true] at q3 ⊢
      exact kn G3 s2 m3 σ' H3 ee r3 (rs2.mono e3) q3
/-! ### sources -/
section
variable {X : Cx} {tg e : Expr} {qe : QE} {qa : QA}
theorem wk_list {K : PySem.W.Frag} {G0 : Hp} {a : Addr} {ds : List D} {xs : List V} (h : SqL K G0 a xs) (r : RVs K G0 ds xs) : Wk K (Itl K a) ds (fun _ => True) G0 where
  stop := fun G m H e rm _ => ⟨xs, rm.sub.l (e.l h), by rw [r.length]; exact Nat.le_refl _⟩
  go := fun G m H i e rm _ hi => ⟨xs, xs[i]'(by rw [← r.length]; exact hi), rm.sub.l (e.l h), by simp [show i < xs.length by rw [← r.length]; exact hi]⟩
  yld := fun G m H i x H' e rm _ hi y => by
    obtain ⟨rfl, y⟩ := y
    obtain ⟨d, h1, h2⟩ := r.getV (y xs (rm.sub.l (e.l h)))
    exact ⟨G, d, Sub.refl G, rm, h1, RV.mono e d h2⟩
/-- a list that may change, but does not while it is walked -/
theorem wk_ref {K : PySem.W.Frag} {G0 : Hp} {a : Addr} {ds : List D} : Wk K (Itl K a) ds (fun m => m a = some (.lst ds)) G0 where
  stop := fun G m H e rm hm => by
    obtain ⟨_, w, hw, xs, rfl, h2⟩ := rm.mem a _ hm
    exact ⟨xs, .inl (.inl hw), by rw [h2.length]; exact Nat.le_refl _⟩
  go := fun G m H i e rm hm hi => by
    obtain ⟨_, w, hw, xs, rfl, h2⟩ := rm.mem a _ hm
    exact ⟨xs, xs[i]'(by rw [← h2.length]; exact hi), .inl (.inl hw), by simp [show i < xs.length by rw [← h2.length]; exact hi]⟩
  yld := fun G m H i x H' e rm hm hi y => by
    obtain ⟨_, w, hw, xs, rfl, h2⟩ := rm.mem a _ hm
    obtain ⟨rfl, y⟩ := y
    obtain ⟨d, h3, h4⟩ := h2.getV (y xs (.inl (.inl hw)))
    exact ⟨G, d, Sub.refl G, rm, h3, h4⟩
theorem wk_range {K : PySem.W.Frag} {G0 : Hp} {lo : Int} {n : Nat} : Wk K (Itr lo n) ((List.range n).map fun (i : Nat) => D.int (lo + i)) (fun _ => True) G0 where
  stop := fun G m H e rm _ => by rw [List.length_map, List.length_range]; exact Nat.le_refl _
  go := fun G m H i e rm _ hi => by rw [List.length_map, List.length_range] at hi; exact hi
  yld := fun G m H i x H' e rm _ hi y => by
    obtain ⟨rfl, rfl⟩ := y
    rw [List.length_map, List.length_range] at hi
    exact ⟨G, .int (lo + i), Sub.refl G, rm, by simp [hi], rfl⟩
def iLst (qe : QE) : QI := fun s m Φ => qe s m fun x m1 => match x with
  | .lst ds => Φ ds (fun _ => True) m1
  | .ref a => ∃ ds, m1 a = some (.lst ds) ∧ Φ ds (fun m => m a = some (.lst ds)) m1
  | _ => False
theorem di_lst (h : PE X e (liftE X.K qe)) : PI X tg e (liftI X.K (iLst qe)) := pi_imp (pi_list h) fun σ H R ⟨G, s, m, Φ, rm, rs, q, k⟩ => ⟨G, s, m, _, rm, rs, q, fun G1 x m1 v H1 e1 r1 rx q1 => by
  cases x with
  | lst ds =>
    obtain ⟨a, xs, rfl, h1, h2⟩ := rx
    exact ⟨a, rfl, ⟨xs, r1.sub.l h1⟩, k G1 ds _ m1 _ H1 e1 r1 (wk_list h1 h2) q1⟩
  | ref a =>
    obtain rfl : v = .ref a := rx
    obtain ⟨ds, hm, q1⟩ := q1
    obtain ⟨_, w, hw, xs, rfl, h2⟩ := r1.mem a _ hm
    exact ⟨a, rfl, ⟨xs, .inl (.inl hw)⟩, k G1 ds _ m1 _ H1 e1 r1 wk_ref q1⟩
  | _ => exact q1.elim⟩
def iTup (qe : QE) : QI := fun s m Φ => qe s m fun x m1 => match x with
  | .tup ds => Φ ds (fun _ => True) m1
  | _ => False
/-- range(n), range(i, j) -/
def intsD (lo : Int) (n : Nat) : List D := (List.range n).map fun (i : Nat) => D.int (lo + i)
def iRange1 (qa : QA) : QI := fun s m Φ => qa s m fun ds m1 => match ds with
  | [.int j] => -(2 ^ 62) ≤ j ∧ j < 2 ^ 62 ∧ Φ (intsD 0 j.toNat) (fun _ => True) m1
  | _ => False
theorem di_range1 {a : Expr} {p pos : Pos} (hg : Gl X "range") (hm : X.mg "range" = none) (ha : PA X [a] (liftA X.K qa)) (hs : starEach [a] X.env = [(false, eval a X.env)] := by rfl) : PI X tg (.Call (.Name "range" p) [a] [] pos) (liftI X.K (iRange1 qa)) :=
  pi_imp (pi_range1 hg hm ha hs) fun σ H R ⟨G, s, m, Φ, rm, rs, q, k⟩ => ⟨G, s, m, _, rm, rs, q, fun G1 ds m1 vs H1 e1 r1 rd q1 => by
    split at q1
    · rename_i j
      obtain ⟨v, rfl, h⟩ := rv1 rd
      obtain rfl : v = .int j := h
      exact ⟨j, rfl, q1.1, q1.2.1, k G1 _ _ m1 _ H1 e1 r1 wk_range q1.2.2⟩
    · exact q1.elim⟩
def iRange2 (qa : QA) : QI := fun s m Φ => qa s m fun ds m1 => match ds with
  | [.int i, .int j] => (-(2 ^ 62) ≤ i ∧ i < 2 ^ 62 ∧ -(2 ^ 62) ≤ j ∧ j < 2 ^ 62) ∧ Φ (intsD i (j - i).toNat) (fun _ => True) m1
  | _ => False
end
end L3
namespace L3
open PySem L2
/-! ### dicts walked -/
def dKey : Key → D
  | .inl i => .int i
  | .inr x => .str x
theorem RKs.getV {K : PySem.W.Frag} {G : Hp} {κ : Type} : ∀ {ds : List (κ × D)} {xs : List (κ × V)} {i : Nat} {k : κ} {x : V}, RKs K G ds xs → xs[i]? = some (k, x) → ∃ d, ds[i]? = some (k, d) ∧ RV K G d x
  | [], _, _, _, _, h, e => by rw [show _ = [] from h] at e; simp at e
  | p :: _, _, 0, k, y, ⟨x, r, h1, h2, h3⟩, e => by
    subst h1
    have e : (p.1, x) = (k, y) := Option.some.inj e
    cases e
    exact ⟨p.2, rfl, h2⟩
  | _ :: _, _, i + 1, _, _, ⟨x, r, h1, h2, h3⟩, e => by
    subst h1
    exact RKs.getV (i := i) h3 e
section
variable {K : PySem.W.Frag} {G0 : Hp} {a : Addr} {o : Obj} {ks : List (Key × D)} {xs : List (Key × V)}
theorem wk_vals (g : G0 a = some (.frz o (.dK xs))) (r : RKs K G0 ks xs) : Wk K (Itd a o xs) (ks.map fun p => p.2) (fun m => m a = some (.fz ks)) G0 where
  stop := fun G m H e rm _ => ⟨rm.sub _ _ (e _ _ g), by rw [List.length_map, r.length]; exact Nat.le_refl _⟩
  go := fun G m H i e rm _ hi => ⟨rm.sub _ _ (e _ _ g), by rw [List.length_map, r.length] at hi; exact hi⟩
  yld := fun G m H i x H' e rm _ hi y => by
    obtain ⟨rfl, k, h1⟩ := y
    obtain ⟨d, h3, h4⟩ := r.getV h1
    exact ⟨G, d, Sub.refl G, rm, by rw [List.getElem?_map, h3]; rfl, RV.mono e d h4⟩
end
def iDict (f : Key × D → D) (qe : QE) : QI := fun s m Φ => qe s m fun x m1 => match x with
  | .ref a => ∃ ks, m1 a = some (.fz ks) ∧ Φ (ks.map f) (fun m => m a = some (.fz ks)) m1
  | _ => False
abbrev fItem : Key × D → D := fun p => .tup [dKey p.1, p.2]
abbrev fKey : Key × D → D := fun p => dKey p.1
abbrev fVal : Key × D → D := fun p => p.2
section
variable {X : Cx} {tg e : Expr} {qe : QE} {apos cpos : Pos} {s : Shared}
theorem fz_at {K : PySem.W.Frag} {m : Mem} {G H : Hp} {a : Addr} {ks : List (Key × D)} (rm : RelM K m G H) (hm : m a = some (.fz ks)) : ∃ o xs, G a = some (.frz o (.dK xs)) ∧ H a = some (.frz o (.dK xs)) ∧ RKs K G ks xs := by
  obtain ⟨g, u, hu, o, xs, rfl, r⟩ := rm.mem a _ hm
  have g : G a = H a := g
  exact ⟨o, xs, by rw [g]; exact hu, hu, r⟩
theorem di_values (h : PE X e (liftE X.K qe)) (hbase : attributeBase e "values" X.env (eval e X.env) = eval e X.env := by rfl) (hline : (apos.endLine == cpos.line) = true := by rfl) :
    PI X tg (.Call (.Attribute e "values" apos) [] [] cpos) (liftI X.K (iDict fVal qe)) :=
  pi_imp (pi_values h hbase hline) fun σ H R ⟨G, s, m, Φ, rm, rs, q, k⟩ => ⟨G, s, m, _, rm, rs, q, fun G1 x m1 v H1 e1 r1 rx q1 => by
    cases x with
    | ref a =>
      obtain rfl : v = .ref a := rx
      obtain ⟨ks, hm, q1⟩ := q1
      obtain ⟨o, xs, g, hH, r⟩ := fz_at r1 hm
      exact ⟨a, o, xs, rfl, hH, k G1 _ _ m1 _ H1 e1 r1 (wk_vals g r) q1⟩
    | _ => exact q1.elim⟩
/-- an expression, a statement, while a dict is locked -/
def qLock (q : QE) : QE := fun s m Φ => ∃ a ks, m a = some (.dK ks) ∧ q s (mset m a (.fz ks)) fun d m' => Φ d (mset m' a (.dK ks))
theorem de_lock (h : PE X e (liftE X.K qe)) : PE X e (liftE X.K (qLock qe)) := pe_imp (pe_lock h) fun σ H Q ⟨G, s, m, Φ, rm, rs, ⟨a, ks, hm, q⟩, k⟩ => by
  obtain ⟨g, u, hu, xs, rfl, r⟩ := rm.mem a _ hm
  have g : G a = none := g
  refine ⟨a, .dK xs, hu, trivial, fun od => ?_⟩
  obtain ⟨r1, e1⟩ := rm.lock hm hu od
  refine ⟨_, s, _, _, r1, rs.mono e1, q, fun G2 d m2 v H2 e2 r2 rv q2 => ?_⟩
  obtain ⟨h1, h2, h3⟩ := r2.unlock g e2 r
  have ga := e2 a _ upd_same
  exact ⟨h1, k _ d _ v _ h2 h3 (RV.unfz ga (fun ys => ⟨(fun z => by cases z), fun z => by cases z⟩) d rv) q2⟩
def sLock (q : QS) : QS := fun E s m => ∃ a ks, m a = some (.dK ks) ∧ q ⟨fun s' m' => E.nx s' (mset m' a (.dK ks)), fun d m' => E.rt d (mset m' a (.dK ks)), fun s' m' => E.bk s' (mset m' a (.dK ks)), fun s' m' => E.ct s' (mset m' a (.dK ks))⟩ s (mset m a (.fz ks))
end
/-! ### zip, enumerate -/
/-- pairs of the items, up to the shorter -/
def zipD : List D → List D → List D
  | x :: xs, y :: ys => .tup [x, y] :: zipD xs ys
  | _, _ => []
theorem zipD_length : ∀ xs ys : List D, (zipD xs ys).length = min xs.length ys.length
  | [], _ => by simp [zipD]
  | _ :: _, [] => by simp [zipD]
  | x :: xs, y :: ys => by
    rw [zipD, List.length_cons, zipD_length xs ys, List.length_cons, List.length_cons]; omega
theorem zipD_get : ∀ {xs ys : List D} {i : Nat} {x y : D}, xs[i]? = some x → ys[i]? = some y → (zipD xs ys)[i]? = some (.tup [x, y])
  | [], _, _, _, _, h, _ => by simp at h
  | _ :: _, [], _, _, _, _, h => by simp at h
  | a :: xs, b :: ys, 0, x, y, h1, h2 => by
    cases h1; cases h2; rfl
  | a :: xs, b :: ys, i + 1, x, y, h1, h2 => by
    rw [zipD]
    exact zipD_get (xs := xs) (ys := ys) (i := i) h1 h2
section
variable {K : PySem.W.Frag} {G0 : Hp} {a b : Addr} {ds es : List D}
/-- what tells the list at a -/
def LsAt (K : PySem.W.Frag) (C : Mem → Prop) (G0 : Hp) (a : Addr) (ds : List D) : Prop := ∀ G m H, Sub G0 G → RelM K m G H → C m → ∃ xs, SqL K H a xs ∧ RVs K G ds xs
theorem lsAt_lst {xs : List V} (h : SqL K G0 a xs) (r : RVs K G0 ds xs) : LsAt K (fun _ => True) G0 a ds := fun G m H e rm _ => ⟨xs, rm.sub.l (e.l h), RVs.mono e _ r⟩
theorem lsAt_ref : LsAt K (fun m => m a = some (.lst ds)) G0 a ds := fun G m H e rm hm => by
  obtain ⟨_, w, hw, xs, rfl, h2⟩ := rm.mem a _ hm
  exact ⟨xs, .inl (.inl hw), h2⟩
theorem wk_zip {C1 C2 : Mem → Prop} (h1 : LsAt K C1 G0 a ds) (h2 : LsAt K C2 G0 b es) : Wk K (Itz K a b) (zipD ds es) (fun m => C1 m ∧ C2 m) G0 where
  stop := fun G m H e rm hc => by
    obtain ⟨xs, s1, r1⟩ := h1 G m H e rm hc.1
    obtain ⟨ys, s2, r2⟩ := h2 G m H e rm hc.2
    exact ⟨xs, ys, s1, s2, by rw [zipD_length, r1.length, r2.length]; omega⟩
  go := fun G m H i e rm hc hi => by
    obtain ⟨xs, s1, r1⟩ := h1 G m H e rm hc.1
    obtain ⟨ys, s2, r2⟩ := h2 G m H e rm hc.2
    rw [zipD_length, r1.length, r2.length] at hi
    have a1 : i < xs.length := by omega
    have a2 : i < ys.length := by omega
    exact ⟨xs, ys, xs[i], ys[i], s1, s2, by simp [a1], by simp [a2]⟩
  yld := fun G m H i x H' e rm hc hi y => by
    obtain ⟨xs, s1, r1⟩ := h1 G m H e rm hc.1
    obtain ⟨ys, s2, r2⟩ := h2 G m H e rm hc.2
    obtain ⟨T, u, v, rfl, hT, rfl, y1, y2⟩ := y
    obtain ⟨d1, a1, b1⟩ := r1.getV (y1 xs s1)
    obtain ⟨d2, a2, b2⟩ := r2.getV (y2 ys s2)
    obtain ⟨r3, e3⟩ := rm.lay (u := .tup [u, v]) hT
    exact ⟨_, .tup [d1, d2], e3, r3, zipD_get a1 a2, T, _, rfl, .inl (.inl upd_same), RVs.cons (RV.mono e3 d1 b1) (RVs.one (RV.mono e3 d2 b2))⟩
theorem wk_zipT {xs ys : List V} (h1 : SqT K G0 a xs) (r1 : RVs K G0 ds xs) (h2 : SqT K G0 b ys) (r2 : RVs K G0 es ys) : Wk K (RZ.ItzT K a b) (zipD ds es) (fun _ => True) G0 where
  stop := fun G m H e rm hc => ⟨xs, ys, rm.sub.t (e.t h1), rm.sub.t (e.t h2), by rw [zipD_length, r1.length, r2.length]; omega⟩
  go := fun G m H i e rm hc hi => by
    rw [zipD_length, r1.length, r2.length] at hi
    have a1 : i < xs.length := by omega
    have a2 : i < ys.length := by omega
    exact ⟨xs, ys, xs[i], ys[i], rm.sub.t (e.t h1), rm.sub.t (e.t h2), by simp [a1], by simp [a2]⟩
  yld := fun G m H i x H' e rm hc hi y => by
    obtain ⟨T, u, v, rfl, hT, rfl, y1, y2⟩ := y
    obtain ⟨d1, a1, b1⟩ := r1.getV (y1 xs (rm.sub.t (e.t h1)))
    obtain ⟨d2, a2, b2⟩ := r2.getV (y2 ys (rm.sub.t (e.t h2)))
    obtain ⟨r3, e3⟩ := rm.lay (u := .tup [u, v]) hT
    exact ⟨_, .tup [d1, d2], e3, r3, zipD_get a1 a2, T, _, rfl, .inl (.inl upd_same), RVs.cons (RV.mono (e.trans e3) d1 b1) (RVs.one (RV.mono (e.trans e3) d2 b2))⟩
/-- enumerate -/
def enumD (ds : List D) (n : Nat) : List D := match ds with
  | [] => []
  | d :: ds => .tup [.int n, d] :: enumD ds (n + 1)
end
/-- zip(x, y): two lists (each one that may change, or not), or two tuples -/
def iZipD (qa : QA) : QI := fun s m Φ => qa s m fun ds m1 => match ds with
  | [.lst xs, .lst ys] => Φ (zipD xs ys) (fun _ => True) m1
  | [.tup xs, .tup ys] => Φ (zipD xs ys) (fun _ => True) m1
  | [.ref a, .ref b] => ∃ xs ys, m1 a = some (.lst xs) ∧ m1 b = some (.lst ys) ∧ Φ (zipD xs ys) (fun m => m a = some (.lst xs) ∧ m b = some (.lst ys)) m1
  | [.ref a, .lst ys] => ∃ xs, m1 a = some (.lst xs) ∧ Φ (zipD xs ys) (fun m => m a = some (.lst xs)) m1
  | [.lst xs, .ref b] => ∃ ys, m1 b = some (.lst ys) ∧ Φ (zipD xs ys) (fun m => m b = some (.lst ys)) m1
  | _ => False
theorem Wk.imp {K : PySem.W.Frag} {J : It} {ds : List D} {C C' : Mem → Prop} {G0 : Hp} (w : Wk K J ds C G0) (h : ∀ m, C' m → C m) : Wk K J ds C' G0 :=
  ⟨fun G m H e rm c => w.stop G m H e rm (h m c), fun G m H i e rm c => w.go G m H i e rm (h m c), fun G m H i x H' e rm c => w.yld G m H i x H' e rm (h m c)⟩
section
variable {X : Cx} {tg e : Expr} {qe : QE} {qa : QA}
theorem di_zip {e2 : Expr} {p pos tpos : Pos} {elts : List Expr} {kk : Nat} (hg : Gl X "zip") (hm : X.mg "zip" = none) (ha : PA X [e, e2] (liftA X.K qa)) (hs : starEach [e, e2] X.env = (false, eval e X.env) :: starEach [e2] X.env := by rfl) (hpl : (backTo pos (starEach [e2] X.env)).any (·.1) = false := by rfl) :
    PI X (.Tuple elts kk tpos) (.Call (.Name "zip" p) [e, e2] [] pos) (liftI X.K (iZipD qa)) :=
  pi_imp (RZ.pi_zipA hg hm ha hs hpl) fun σ H R ⟨G, s, m, Φ, rm, rs, q, k⟩ => ⟨G, s, m, _, rm, rs, q, fun G1 ds m1 vs H1 e1 r1 rd q1 => by
    split at q1
    · obtain ⟨v, u, rfl, ⟨a, xs, rfl, h1, h2⟩, b, ys, rfl, h3, h4⟩ := rv2 rd
      exact ⟨a, b, xs, ys, rfl, .inl ⟨r1.sub.l h1, r1.sub.l h3, k G1 _ _ m1 _ H1 e1 r1 ((wk_zip (lsAt_lst h1 h2) (lsAt_lst h3 h4)).imp fun m _ => ⟨trivial, trivial⟩) q1⟩⟩
    · obtain ⟨v, u, rfl, ⟨a, xs, rfl, h1, h2⟩, b, ys, rfl, h3, h4⟩ := rv2 rd
      exact ⟨a, b, xs, ys, rfl, .inr ⟨r1.sub.t h1, r1.sub.t h3, k G1 _ _ m1 _ H1 e1 r1 (wk_zipT h1 h2 h3 h4) q1⟩⟩
    · rename_i a b
      obtain ⟨v, u, rfl, h1, h2⟩ := rv2 rd
      obtain rfl : v = .ref a := h1
      obtain rfl : u = .ref b := h2
      obtain ⟨xs, ys, hx, hy, q1⟩ := q1
      obtain ⟨_, w, hw, vs, rfl, g1⟩ := r1.mem a _ hx
      obtain ⟨_, w', hw', us, rfl, g2⟩ := r1.mem b _ hy
      exact ⟨a, b, vs, us, rfl, .inl ⟨.inl (.inl hw), .inl (.inl hw'), k G1 _ _ m1 _ H1 e1 r1 (wk_zip lsAt_ref lsAt_ref) q1⟩⟩
    · rename_i a zs
      obtain ⟨v, u, rfl, h1, b, us, rfl, h3, h4⟩ := rv2 rd
      obtain rfl : v = .ref a := h1
      obtain ⟨xs, hx, q1⟩ := q1
      obtain ⟨_, w, hw, vs, rfl, g1⟩ := r1.mem a _ hx
      exact ⟨a, b, vs, us, rfl, .inl ⟨.inl (.inl hw), r1.sub.l h3, k G1 _ _ m1 _ H1 e1 r1 ((wk_zip lsAt_ref (lsAt_lst h3 h4)).imp fun m c => ⟨c, trivial⟩) q1⟩⟩
    · rename_i zs b
      obtain ⟨v, u, rfl, ⟨a, vs, rfl, h3, h4⟩, h1⟩ := rv2 rd
      obtain rfl : u = .ref b := h1
      obtain ⟨xs, hx, q1⟩ := q1
      obtain ⟨_, w, hw, us, rfl, g1⟩ := r1.mem b _ hx
      exact ⟨a, b, vs, us, rfl, .inl ⟨r1.sub.l h3, .inl (.inl hw), k G1 _ _ m1 _ H1 e1 r1 ((wk_zip (lsAt_lst h3 h4) lsAt_ref).imp fun m c => ⟨trivial, c⟩) q1⟩⟩
    · exact q1.elim⟩
def iEnumD (qa : QA) : QI := fun s m Φ => qa s m fun ds m1 => match ds with
  | [.lst xs] => Φ (enumD xs 0) (fun _ => True) m1
  | [.ref a] => ∃ xs, m1 a = some (.lst xs) ∧ Φ (enumD xs 0) (fun m => m a = some (.lst xs)) m1
  | _ => False
end
/-! ### comprehensions -/
def wipeD (s : DSt) : List Nat → DSt
  | [] => s
  | v :: vs => (wipeD s vs).set v none
theorem wipeD_rel {K : PySem.W.Frag} {G : Hp} {s : DSt} {σ : St} (r : RelS K s G σ) : ∀ vs : List Nat, RelS K (wipeD s vs) G (wipe σ vs)
  | [] => r
  | v :: vs => by
    have ih := wipeD_rel r vs
    refine ⟨by show ((wipeD s vs).set v none).length = ((wipe σ vs).set v none).length; rw [List.length_set, List.length_set]; exact ih.len, fun i d h => ?_⟩
    have h : ((wipeD s vs).set v none)[i]? = some (some d) := h
    show ∃ u, ((wipe σ vs).set v none)[i]? = some (some u) ∧ RV K G d u
    rw [List.getElem?_set] at h
    rw [List.getElem?_set]
    split at h
    · split at h
      · cases h
      · cases h
    · rename_i e
      rw [if_neg e]
      exact ih.loc i d h
abbrev QTs := QT
def qYes : QT := fun _ m Φ => Φ true m
theorem pts_imp {X : Cx} {e : List Expr} {t t' : TT} (h : PTs X e t) (i : ∀ σ H Q, t' σ H Q → t σ H Q) : PTs X e t' := ⟨fun pins s σ H Q I w => h.run pins s σ H Q I (i σ H Q w)⟩
theorem dts_nil {X : Cx} {K : PySem.W.Frag} : PTs X [] (liftT K qYes) := pts_imp pts_nil fun σ H Q ⟨G, s, m, Φ, rm, rs, q, k⟩ => k G true m H (Sub.refl G) rm q
/-- a list comprehension: J by the turn, the list so far, the memory (the new list at a within) -/
def LcIn (p : Pat) (qt : QT) (qe : QE) (s1 : DSt) (ds : List D) (C : Mem → Prop) (m1 : Mem) (Φ : DK) : Prop := ∀ a, m1 a = none → ∃ J : Nat → List D → Mem → Prop, J 0 [] (mset m1 a (.lst [])) ∧
  (∀ i acc m', i ≤ ds.length → J i acc m' → C m' ∧ m' a = some (.lst acc)) ∧
  (∀ i d acc m', ds[i]? = some d → J i acc m' → match asg p d s1 with
    | some s2 => qt s2 m' fun b m2 => qIf b (qe s2 m2 fun y m3 => ∃ acc', m3 a = some (.lst acc') ∧ acc'.length < sizeLine ∧ J (i + 1) (acc' ++ [y]) (mset m3 a (.lst (acc' ++ [y])))) (∃ acc', J (i + 1) acc' m2)
    | none => False) ∧
  ∀ acc m', J ds.length acc m' → m' a = some (.lst acc) → Φ (.ref a) m'
def qLc (qi : QI) (p : Pat) (qt : QT) (qe : QE) (vs : List Nat) : QE := fun s m Φ => qi s m fun ds C m1 => LcIn p qt qe (wipeD s vs) ds C m1 Φ
theorem lift_lc {K : PySem.W.Frag} {qi : QI} {p : Pat} {qt : QT} {qe : QE} {vs : List Nat} (hv : ∀ i ∈ slots p, i ∈ vs) : ∀ σ H Q, liftE K (qLc qi p qt qe vs) σ H Q → tLc (liftI K qi) (tgOf K p) (liftT K qt) (liftE K qe) vs σ H Q :=
  fun σ H Q ⟨G, s, m, Φ, rm, rs, q, k⟩ => ⟨G, s, m, _, rm, rs, q, fun G1 ds C m1 J0 H1 e1 r1 wk h => by
    intro D hD
    obtain ⟨J, h0, hC, hS, hE⟩ := h D (r1.free hD)
    have rw0 := r1.new (o := .lst []) (u := .lst []) hD ⟨[], rfl, rfl⟩
    refine ⟨fun i n H' => n = ds.length - i ∧ i ≤ ds.length ∧ ∃ G2 acc m2, Sub G1 G2 ∧ RelM K m2 G2 H' ∧ J i acc m2, ⟨_, rfl, Nat.zero_le _, G1, [], _, Sub.refl G1, rw0, h0⟩, ?_⟩
    rintro i n H' ⟨rfl, hi, G2, acc, m2, e2, r2, h2⟩
    by_cases hlt : i < ds.length
    · refine .inr ⟨wk.go G2 m2 H' i e2 r2 (hC i acc m2 hi h2).1 hlt, fun H3 => ∃ G3 acc m3, Sub G1 G3 ∧ RelM K m3 G3 H3 ∧ J (i + 1) acc m3, fun H3 ⟨G3, acc, m3, a, b, c⟩ => ⟨_, by omega, rfl, hlt, G3, acc, m3, a, b, c⟩, fun x H3 y => ?_⟩
      obtain ⟨G3, d, e3, r3, hd, rd⟩ := wk.yld G2 m2 H' i x H3 e2 r2 (hC i acc m2 hi h2).1 hlt y
      have hs := hS i d acc m2 hd h2
      cases ha : asg p d (wipeD s vs) with
      | none => rw [ha] at hs; exact hs.elim
      | some s3 =>
        rw [ha] at hs
        have ee := e1.trans (e2.trans e3)
        obtain ⟨σ3, rs3, run, wp⟩ := asg_run r3.sub p rd (wipeD_rel (rs.mono ee) vs) ha
        refine run _ ⟨?_, G3, s3, m2, _, r3, rs3, hs, fun G4 b m4 H4 e4 r4 q4 => ?_⟩
        · have w0 : wipe (wipe σ vs) vs = wipe σ vs := by
            have aux : ∀ us : List Nat, (∀ u ∈ us, u ∈ vs) → wipe (wipe σ us) vs = wipe σ vs := by
              intro us
              induction us with
              | nil => intro _; rfl
              | cons u us ih =>
                intro hu
                show wipe ((wipe σ us).set u none) vs = wipe σ vs
                rw [wipe_set (hu u List.mem_cons_self)]
                exact ih fun z hz => hu z (List.mem_cons_of_mem _ hz)
            exact aux vs fun _ h => h
          rw [wp vs hv, w0]
        · have q4 := qif_e q4
          cases b with
          | true =>
            rw [if_pos rfl] at q4
            dsimp only
            rw [if_pos rfl]
            refine ⟨G4, s3, m4, _, r4, rs3.mono e4, q4, fun G5 y m5 v H5 e5 r5 rv ⟨acc', hm5, hl, hj⟩ => ?_⟩
            obtain ⟨_, w, hw, xs, rfl, hr⟩ := r5.mem D _ hm5
            exact ⟨xs, hw, by rw [← hr.length]; exact hl, G5, _, _, (e2.trans e3).trans (e4.trans e5), r5.put (o := .lst _) hm5 ⟨_, rfl, hr.append (RVs.one rv)⟩, hj⟩
          | false =>
            rw [if_neg Bool.false_ne_true] at q4
            dsimp only
            rw [if_neg Bool.false_ne_true]
            obtain ⟨acc', hj⟩ := q4
            exact ⟨G4, acc', m4, (e2.trans e3).trans e4, r4, hj⟩
    · have e : i = ds.length := by omega
      subst e
      obtain ⟨c1, c2⟩ := hC _ acc m2 hi h2
      exact .inl ⟨wk.stop G2 m2 H' e2 r2 c1, k G2 (.ref D) m2 _ H' (e1.trans e2) r2 rfl (hE acc m2 h2 c2)⟩⟩
theorem de_lc {X : Cx} {elt tg iter : Expr} {ifs : List Expr} {scope : Scope} {own : List (Str × Nat)} {pos : Pos} {qi : QI} {p : Pat} {qt : QT} {qe : QE} (hc : X.calm = true) (hN : X.N.Nodup) (hi : PI X tg iter (liftI X.K qi)) (ok : BlkOk X.N X.env.scope scope own)
    (hg : ∀ (s : Shared) (H : Hp) (C : Addr) (cl : List (Str × Addr)) (fp : List Addr), PG (X.blk s H scope (compEnvC scope cl C X.env) fp) tg (tgOf X.K p))
    (ht : ∀ (s : Shared) (H : Hp) (C : Addr) (cl : List (Str × Addr)) (fp : List Addr), PTs (X.blk s H scope (compEnvC scope cl C X.env) fp) ifs (liftT X.K qt))
    (he : ∀ (s : Shared) (H : Hp) (C : Addr) (cl : List (Str × Addr)) (fp : List Addr), PE (X.blk s H scope (compEnvC scope cl C X.env) fp) elt (liftE X.K qe))
    (hv : ∀ i ∈ slots p, i ∈ own.map (·.2) := by decide) (hs : ∀ x, foldedSetIterable iter X.env x = pure x := by intro _; rfl) :
    PE X (.ListComp elt [⟨tg, iter, ifs, 0⟩] scope pos) (liftE X.K (qLc qi p qt qe (own.map (·.2)))) := pe_imp (pe_lc hc hN hi ok hg ht he hs) (lift_lc hv)
/-- the word where the block leaves the memory as it is -/
def Jp (P : Nat → List D → Prop) (m1 : Mem) (a : Addr) : Nat → List D → Mem → Prop := fun i acc m' => m' = mset m1 a (.lst acc) ∧ acc.length ≤ i ∧ P i acc
theorem lc_by {p : Pat} {qt : QT} {qe : QE} {s1 : DSt} {ds : List D} {C : Mem → Prop} {m1 : Mem} {Φ : DK} (P : Nat → List D → Prop) (h0 : P 0 []) (hC : ∀ a o, m1 a = none → C (mset m1 a o))
    (hs : ∀ i d acc a, m1 a = none → ds[i]? = some d → acc.length ≤ i → P i acc → match asg p d s1 with
      | some s2 => qt s2 (mset m1 a (.lst acc)) fun b m2 => qIf b (qe s2 m2 fun y m3 => ∃ acc', m3 a = some (.lst acc') ∧ acc'.length < sizeLine ∧ Jp P m1 a (i + 1) (acc' ++ [y]) (mset m3 a (.lst (acc' ++ [y])))) (∃ acc', Jp P m1 a (i + 1) acc' m2)
      | none => False)
    (hd : ∀ acc a, m1 a = none → acc.length ≤ ds.length → P ds.length acc → Φ (.ref a) (mset m1 a (.lst acc))) : LcIn p qt qe s1 ds C m1 Φ := fun a ha =>
  ⟨Jp P m1 a, ⟨rfl, Nat.le_refl _, h0⟩, fun i acc m' _ h => by obtain ⟨rfl, _, _⟩ := h; exact ⟨hC a _ ha, mset_same⟩, fun i d acc m' hd' h => by obtain ⟨rfl, h1, h2⟩ := h; exact hs i d acc a ha hd' h1 h2,
    fun acc m' h _ => by obtain ⟨rfl, h1, h2⟩ := h; exact hd acc a ha h1 h2⟩
theorem lc_ok {P : Nat → List D → Prop} {m1 : Mem} {a : Addr} {i : Nat} {acc : List D} {y : D} (hl : acc.length ≤ i) (hi : i < sizeLine) (h : P (i + 1) (acc ++ [y])) :
    ∃ acc', mset m1 a (.lst acc) a = some (.lst acc') ∧ acc'.length < sizeLine ∧ Jp P m1 a (i + 1) (acc' ++ [y]) (mset (mset m1 a (.lst acc)) a (.lst (acc' ++ [y]))) :=
  ⟨acc, mset_same, Nat.lt_of_le_of_lt hl hi, mset_mset, by rw [List.length_append]; exact Nat.succ_le_succ hl, h⟩
theorem lc_skip {P : Nat → List D → Prop} {m1 : Mem} {a : Addr} {i : Nat} {acc : List D} (hl : acc.length ≤ i) (h : P (i + 1) acc) : ∃ acc', Jp P m1 a (i + 1) acc' (mset m1 a (.lst acc)) := ⟨acc, rfl, Nat.le_succ_of_le hl, h⟩
theorem fz_done {m1 : Mem} {a : Addr} {acc : List D} {Φ : DK} (ha : m1 a = none) (h : Φ (.lst acc) m1) : ∃ ds, mset m1 a (.lst acc) a = some (.lst ds) ∧ Φ (.lst ds) (mdel (mset m1 a (.lst acc)) a) := ⟨acc, mset_same, by rw [mdel_mset ha]; exact h⟩
/-! ### dict comprehensions -/
def DcIn (p : Pat) (qt : QT) (qk qe : QE) (s1 : DSt) (ds : List D) (C : Mem → Prop) (m1 : Mem) (Φ : DK) : Prop := ∀ a, m1 a = none → ∃ J : Nat → List (Key × D) → Mem → Prop, J 0 [] (mset m1 a (.dK [])) ∧
  (∀ i acc m', i ≤ ds.length → J i acc m' → C m' ∧ m' a = some (.dK acc)) ∧
  (∀ i d acc m', ds[i]? = some d → J i acc m' → match asg p d s1 with
    | some s2 => qt s2 m' fun b m2 => qIf b (qk s2 m2 fun x m3 => qe s2 m3 fun y m4 => ∃ acc' k, keyD x = some k ∧ m4 a = some (.dK acc') ∧ acc'.length < sizeLine ∧ J (i + 1) (putD acc' k y) (mset m4 a (.dK (putD acc' k y)))) (∃ acc', J (i + 1) acc' m2)
    | none => False) ∧
  ∀ acc m', J ds.length acc m' → m' a = some (.dK acc) → Φ (.ref a) m'
def qDc (qi : QI) (p : Pat) (qt : QT) (qk qe : QE) (vs : List Nat) : QE := fun s m Φ => qi s m fun ds C m1 => DcIn p qt qk qe (wipeD s vs) ds C m1 Φ
def Jd (P : Nat → List (Key × D) → Prop) (m1 : Mem) (a : Addr) : Nat → List (Key × D) → Mem → Prop := fun i acc m' => m' = mset m1 a (.dK acc) ∧ acc.length ≤ i ∧ P i acc
end L3
namespace L3
open PySem PySem.Spec PyProof.Rows L2
theorem hu1 {A : Around} {k : Nat} (hr : Room k A) : A.units + 1 < cLine := Nat.lt_of_le_of_lt (Nat.add_le_add_left (by decide : 1 ≤ 64) _) hr.units
theorem hu64 {A : Around} {k : Nat} (hr : Room k A) : A.units + 64 < cLine := hr.units
theorem hu65 {A : Around} {k : Nat} (hr : Room k A) : A.units + 65 < cLine := by have := hr.un; omega
/-! ### xs[i], t[i], s[i], d[k] by one rule -/
section
variable {X : Cx} {a b : Expr} {qa qb : QE} {pos : Pos}
def rIxD : R2 := fun x y H Q => ∃ p v, x = .ref p ∧ DGet H p y (some v) ∧ Q v H
theorem tail_of {prog : Program} {w : World} {A : Around} {E : Value → Shared → Prop} {s : Shared} {value slice : Expr} {o i : Value} {T id : String} {Q : Value → Shared → Prop} (hT : s.TypeIs o T)
    (hl : typeLookup (.type T) "__getitem__" = pure (some (.builtin id))) (h : wpAny (model prog w) A (getItem o i) Q E s)
    (hs : subscripted slice false o i = operate [o, i] (getItem o i)) :
    wpAny (model prog w) A (subscriptTail value slice o i) Q E s := by
  unfold subscriptTail
  refine wpAny_bind ?_
  rw [getitemInPython_of_ne hT.not_modules]
  refine wpAny_bind (wpAny_specialOf hT hl ?_)
  have fin : wpAny (model prog w) A (subscripted slice false o i) (fun r s₃ => wpAny (model prog w) A (letTemporaryGo value o r >>= fun _ => pure r) Q E s₃) E s := by
    rw [hs]
    exact wpAny_operating (wpAny_mono h (fun r s₃ h₃ => wpAny_bind (wpAny_letTemporaryGo (wpAny_pure h₃))) fun _ _ x => x)
  first
    | exact wpAny_pure (wpAny_bind fin)
    | exact wpAny_bind (wpAny_pure (wpAny_bind fin))
    | exact wpAny_bind fin
theorem ix_dict (hu : X.A.units + 1 < cLine) : IxR X rIxD := by
  intro value slice pins s σ H x y v u Q I rx ry h hs
  obtain ⟨p, w, rfl, g, q⟩ := h
  obtain rfl : v = Value.ref p := rx
  exact tail_of (dict_typeIs I g) PySem.F.slot_dict_getitem.lookup (d_getItem hu I g ry fun w' s' I' rw' => ⟨w, H, I', rw', q⟩) hs
/-- xs[i]; d[k] -/
def vIx : D → D → Mem → DK → Prop := fun x y m Φ => match x, y with
  | .tup ds, .int i => ∃ d, atI ds i = some d ∧ Φ d m
  | .lst ds, .int i => ∃ d, atI ds i = some d ∧ Φ d m
  | .ref a, y => (∃ ds i d, y = .int i ∧ m a = some (.lst ds) ∧ atI ds i = some d ∧ Φ d m) ∨ ∃ d, dGet m a y (some d) ∧ Φ d m
  | .str z, .int i => ∃ c, z.length ≤ sizeLine ∧ atI z.cps.toList i = some c ∧ Φ (.str ⟨#[c]⟩) m
  | _, _ => False
theorem vix_lift {K : PySem.W.Frag} {x y : V} {H : Hp} {Q : VK} (h : liftR K vIx x y H Q) : rIx K x y H Q ∨ rIxD x y H Q := by
  obtain ⟨G, m, dx, dy, Φ, rm, rx, ry, q, k⟩ := h
  cases dx with
  | tup ds => cases dy with
    | int i => exact .inl (ix_lift ⟨G, m, .tup ds, .int i, Φ, rm, rx, ry, q, k⟩)
    | _ => exact q.elim
  | lst ds => cases dy with
    | int i => exact .inl (ix_lift ⟨G, m, .lst ds, .int i, Φ, rm, rx, ry, q, k⟩)
    | _ => exact q.elim
  | str z => cases dy with
    | int i => exact .inl (ix_lift ⟨G, m, .str z, .int i, Φ, rm, rx, ry, q, k⟩)
    | _ => exact q.elim
  | ref p =>
    rcases q with ⟨ds, i, d, rfl, hm, h1, h2⟩ | ⟨d, g, h2⟩
    · exact .inl (ix_lift ⟨G, m, .ref p, .int i, Φ, rm, rx, ry, ⟨ds, d, hm, h1, h2⟩, k⟩)
    · obtain rfl : x = .ref p := rx
      obtain ⟨o', g', ro⟩ := dget_lift rm ry g
      obtain ⟨w, rfl, rw'⟩ := ro.some
      exact .inr ⟨p, w, rfl, g', k G d m w H (Sub.refl G) rm rw' h2⟩
  | _ => exact q.elim
theorem de_idx (hu : X.A.units + 1 < cLine) (ha : PE X a (liftE X.K qa)) (hb : PE X b (liftE X.K qb)) (hs : PlainIx b := by exact fun _ _ => rfl) : PE X (.Subscript a b pos) (liftE X.K (qOp vIx qa qb)) :=
  pe_imp (pe_ix (ix_imp (IxR.or ix_seq (ix_dict hu)) fun x y H Q h => vix_lift (K := X.K) h) ha hb hs) lift_op
/-- the list's items as data: of a list that never changes, or of one in the memory -/
def lsQ (y : D) (m : Mem) (R : List PyData → Prop) : Prop := match y with
  | .lst ds => ∃ ps, toPys ds = some ps ∧ R ps
  | .ref a => ∃ ds ps, m a = some (.lst ds) ∧ toPys ds = some ps ∧ R ps
  | _ => False
/-- x in y: a dict, a list, a text, a tuple of flat items -/
def vIn (neg : Bool) : D → D → Mem → DK → Prop := fun x y m Φ =>
  match y with
  | .str z => ∃ w, x = .str w ∧ Φ (.bl (if neg then !(!(Builtin.Str.occurrences z w 0 z.length 1).isEmpty) else !(Builtin.Str.occurrences z w 0 z.length 1).isEmpty)) m
  | .ref a => (∃ o, dGet m a x o ∧ Φ (.bl (if neg then !o.isSome else o.isSome)) m) ∨ ∃ p ds ps, toPy x = some p ∧ m a = some (.lst ds) ∧ toPys ds = some ps ∧ SeqAt.shaped p = true ∧ SeqAt.shaped (.list ps) = true ∧ Φ (.bl (if neg then !(ps.any fun z => PyData.eqv z p) else ps.any fun z => PyData.eqv z p)) m
  | .lst ds => ∃ p ps, toPy x = some p ∧ toPys ds = some ps ∧ SeqAt.shaped p = true ∧ SeqAt.shaped (.list ps) = true ∧ Φ (.bl (if neg then !(ps.any fun z => PyData.eqv z p) else ps.any fun z => PyData.eqv z p)) m
  | _ => False
def rInDct (neg : Bool) : R2 := fun x y H Q => ∃ a o, y = .ref a ∧ DGet H a x o ∧ Q (.bl (if neg then !o.isSome else o.isSome)) H
theorem op_inDct (hu : X.A.units + 1 < cLine) : OpR X (compareOp .In) (rInDct false) := by
  intro pins s σ H x y v u Q I rx ry h
  obtain ⟨a, o, rfl, g, q⟩ := h
  obtain rfl : u = Value.ref a := ry
  exact d_in hu I g rx fun s' I' => ⟨.bl o.isSome, H, I', rfl, q⟩
theorem op_notInDct (hu : X.A.units + 1 < cLine) : OpR X (compareOp .NotIn) (rInDct true) := by
  intro pins s σ H x y v u Q I rx ry h
  obtain ⟨a, o, rfl, g, q⟩ := h
  obtain rfl : u = Value.ref a := ry
  exact d_notIn hu I g rx fun s' I' => ⟨.bl (!o.isSome), H, I', rfl, q⟩
theorem do_in2 (hu : X.A.units + 65 < cLine) : OpR X (compareOp .In) (liftR X.K (vIn false)) := op_imp (OpR.or op_in_str (OpR.or (op_inDct (by omega)) (op_inD hu))) fun x y H Q ⟨G, m, dx, dy, Φ, rm, rx, ry, q, k⟩ => by
  cases dy with
  | str z =>
    obtain ⟨w, rfl, q⟩ := q
    exact .inl ⟨w, z, rx, ry, k G (.bl _) m _ H (Sub.refl G) rm rfl q⟩
  | lst ds =>
    obtain ⟨p, ps, h1, h2, s1, s2, q⟩ := q
    obtain ⟨a, xs, rfl, g1, g2⟩ := ry
    exact .inr (.inr ⟨p, ps, RV.dp rm.sub dx rx h1, .lst (rm.sub.l g1) (RVs.dp rm.sub ds g2 h2), s1, s2, k G (.bl _) m _ H (Sub.refl G) rm rfl q⟩)
  | ref a =>
    rcases q with ⟨o, g, q⟩ | ⟨p, ds, ps, h1, hm, h2, s1, s2, q⟩
    · obtain rfl : y = .ref a := ry
      obtain ⟨o', g', ro⟩ := dget_lift rm rx g
      exact .inr (.inl ⟨a, o', rfl, g', by rw [← ro.isSome]; exact k G (.bl _) m _ H (Sub.refl G) rm rfl q⟩)
    · obtain rfl : y = .ref a := ry
      obtain ⟨_, w, hw, xs, rfl, g2⟩ := rm.mem a _ hm
      exact .inr (.inr ⟨p, ps, RV.dp rm.sub dx rx h1, .lst (.inl (.inl hw)) (RVs.dp rm.sub ds g2 h2), s1, s2, k G (.bl _) m _ H (Sub.refl G) rm rfl q⟩)
  | _ => exact q.elim
theorem do_notIn2 (hu : X.A.units + 65 < cLine) : OpR X (compareOp .NotIn) (liftR X.K (vIn true)) := op_imp (OpR.or op_notin_str (OpR.or (op_notInDct (by omega)) (op_notInD hu))) fun x y H Q ⟨G, m, dx, dy, Φ, rm, rx, ry, q, k⟩ => by
  cases dy with
  | str z =>
    obtain ⟨w, rfl, q⟩ := q
    exact .inl ⟨w, z, rx, ry, k G (.bl _) m _ H (Sub.refl G) rm rfl q⟩
  | lst ds =>
    obtain ⟨p, ps, h1, h2, s1, s2, q⟩ := q
    obtain ⟨a, xs, rfl, g1, g2⟩ := ry
    exact .inr (.inr ⟨p, ps, RV.dp rm.sub dx rx h1, .lst (rm.sub.l g1) (RVs.dp rm.sub ds g2 h2), s1, s2, k G (.bl _) m _ H (Sub.refl G) rm rfl q⟩)
  | ref a =>
    rcases q with ⟨o, g, q⟩ | ⟨p, ds, ps, h1, hm, h2, s1, s2, q⟩
    · obtain rfl : y = .ref a := ry
      obtain ⟨o', g', ro⟩ := dget_lift rm rx g
      exact .inr (.inl ⟨a, o', rfl, g', by rw [← ro.isSome]; exact k G (.bl _) m _ H (Sub.refl G) rm rfl q⟩)
    · obtain rfl : y = .ref a := ry
      obtain ⟨_, w, hw, xs, rfl, g2⟩ := rm.mem a _ hm
      exact .inr (.inr ⟨p, ps, RV.dp rm.sub dx rx h1, .lst (.inl (.inl hw)) (RVs.dp rm.sub ds g2 h2), s1, s2, k G (.bl _) m _ H (Sub.refl G) rm rfl q⟩)
  | _ => exact q.elim
end
/-! ### defs -/
section
variable {P : Program} {w : World} {K : PySem.W.Frag} {mg : Str → Option Value} {base : Heap}
/-- the context in which a def's body is derived -/
abbrev cxB (P : Program) (w : World) (K : PySem.W.Frag) (mg : Str → Option Value) (base : Heap) (N : List Str) (qual : Str) (st : Stmt) (f : Addr) (cdv : Value) (A : Around) (outer : List Env) (s : Shared) (H : Hp) (E : XK) : Cx := (cxOf CX0 P w K mg base N qual (defScope st) f cdv A outer s H E).nox
theorem fnr_of {f : Addr} {fd : FuncData} {ps : List Str} {k : Nat} {sp : Sp} (F1 : FnOk P w K mg base CX0 k f fd ps sp) (hb : Binds K fd ps []) : FnR P w K mg base CX0 k f sp := by
  intro A outer s H us vs Q E hr e0 r hs
  have hl : vs.length = ps.length := F1.len vs H Q E hs
  exact F1.run A outer s H ⟨us, []⟩ us vs Q E hr e0 (by
    have := hb s us (e0.mod.kin.keeps fun b o z => (e0.bs b o z).1) (by rw [List.append_nil, ← r.length]; exact hl)
    rwa [List.append_nil] at this) r hs
end
/-! ### the law itself -/
def spLaw (K : PySem.W.Frag) : Sp := fun vs H Q _ => ∃ (a : Addr) (ns : List Int), vs = [.ref a] ∧ SqL K H a (ns.map V.int) ∧ ns.length ≤ 63 ∧ ∀ H', Q (.bl true) H'
/-- law(script): True for each list of at most 63 ints -/
def lspLaw : LSp := fun ds m Φ => ∃ ns : List Int, ds = [.lst (ns.map D.int)] ∧ ns.length ≤ 63 ∧ (∀ a, m a = none) ∧ ∀ m', Φ (.bl true) m'
end L3
namespace L3
open PySem PySem.Spec PyProof.Rows L2
theorem dts_one {X : Cx} {c : Expr} {t : QT} (h : PT X c (liftT X.K t)) : PTs X [c] (liftT X.K t) := pts_one h
/-! ### weakening at the end of a def -/
def bodyW (Φ : DK) : DE := { nx := fun _ m => ∃ m', MLe m m' ∧ Φ .non m', rt := fun d m => ∃ m', MLe m m' ∧ Φ d m', bk := fun _ _ => False, ct := fun _ _ => False }
theorem wk_at {P : Mem → Prop} {m : Mem} (h : P m) : ∃ m', MLe m m' ∧ P m' := ⟨m, MLe.refl m, h⟩
theorem body_liftW {K : PySem.W.Frag} {sp : LSp} {qb : QS} {N : List Str} (h : ∀ ds m Φ, sp ds m Φ → qb (bodyW Φ) (begin_ N.length ds) m) {vs : List V} {H : Hp} {Q : VK} {E : XK} (hs : liftSp K sp vs H Q E) :
    liftS K qb { nx := fun _ H' => Q .non H', rt := Q } (L2.start N vs) H := by
  obtain ⟨G, m, ds, Φ, rm, rd, q, k⟩ := hs
  refine ⟨G, begin_ N.length ds, m, bodyW Φ, rm, relS_start rd, h ds m Φ q, ?_, ?_, fun _ _ _ _ _ _ _ _ z => z.elim, fun _ _ _ _ _ _ _ _ z => z.elim⟩
  · exact fun G' s' m' σ' H' e1 r1 _ ⟨m2, le, q1⟩ => k G' .non m2 .non H' e1 (r1.le le) rfl q1
  · exact fun G' d m' v H' e1 r1 rv ⟨m2, le, q1⟩ => k G' d m2 v H' e1 (r1.le le) rv q1
/-- a list known by a property alone is looked into -/
def sOpen (q : QS) : QS := fun E s m => ∃ b P, m b = some (.any P) ∧ ∀ ds, P ds → q E s (mset m b (.lst ds))
theorem RelM.look {K : PySem.W.Frag} {m : Mem} {G H : Hp} {b : Addr} {P : List D → Prop} (r : RelM K m G H) (hb : m b = some (.any P)) : ∃ ds, P ds ∧ RelM K (mset m b (.lst ds)) G H := by
  obtain ⟨g, u, hu, ds, xs, p, e1, e2⟩ := r.mem b _ hb
  refine ⟨ds, p, r.sub, fun a o e => ?_⟩
  by_cases ha : a = b
  · subst ha
    rw [mset_same] at e; cases e
    exact ⟨g, u, hu, xs, e1, e2⟩
  · rw [mset_ne ha] at e
    exact r.mem a o e
theorem open_lift {K : PySem.W.Frag} {q : QS} : ∀ D σ H, liftS K (sOpen q) D σ H → liftS K q D σ H := fun D σ H ⟨G, s, m, E, rm, rs, ⟨b, P, hb, q⟩, kn, kr, kb, kc⟩ => by
  obtain ⟨ds, p, r⟩ := rm.look hb
  exact ⟨G, s, _, E, r, rs, q ds p, kn, kr, kb, kc⟩
theorem dss_open {X : Cx} {st : List Stmt} {q : QS} (h : PSs X st (liftS X.K q)) : PSs X st (liftS X.K (sOpen q)) := pss_imp h open_lift
/-! ### loops with weakening -/
def DE.wk (E : DE) : DE := { E with nx := fun s m => ∃ m', MLe m m' ∧ E.nx s m', ct := fun s m => ∃ m', MLe m m' ∧ E.ct s m' }
def sDone (q : QS) : QS := fun E s m => q E.wk s m
/-! ### name = a comprehension, on one line -/
section
variable {X : Cx}
theorem lift_freeze {K : PySem.W.Frag} {qe : QE} : ∀ σ H Q, liftE K (qFreeze qe) σ H Q → liftE K qe σ H Q := fun σ H Q ⟨G, s, m, Φ, rm, rs, q, k⟩ => ⟨G, s, m, _, rm, rs, q, fun G1 d m1 v H1 e1 r1 rd q1 => by
    cases d with
    | ref a =>
      obtain rfl : v = .ref a := rd
      obtain ⟨ds, hm, q1⟩ := q1
      obtain ⟨G2, e2, r2, rv⟩ := r1.freeze hm
      exact k G2 _ _ _ H1 (e1.trans e2) r2 rv q1
    | _ => exact q1.elim⟩
theorem lift_nm {K : PySem.W.Frag} {i : Nat} {qe : QE} {D : Ends} {σ : L2.St} {H : Hp} (h : liftS K (sAsg (.nm i) qe) D σ H) : liftE K qe σ H (fun x H1 => gName i x σ H1 D.nx) := by
  obtain ⟨G, s, m, E, rm, rs, q, kn, kr, kb, kc⟩ := h
  exact ⟨G, s, m, _, rm, rs, q, fun G1 d m1 v H1 e1 r1 rv q1 => kn G1 _ m1 _ H1 e1 r1 ((rs.mono e1).set i rv) q1⟩
theorem ds_setLcF (i : Nat) {y : Str} {py : Pos} {elt tg iter : Expr} {ifs : List Expr} {scope : Scope} {own : List (Str × Nat)} {pos spos : Pos} {qi : QI} {p : Pat} {qt : QT} {qe : QE} (hc : X.calm = true) (hN : X.N.Nodup) (hi : PI X tg iter (liftI X.K qi)) (ok : BlkOk X.N X.env.scope scope own)
    (hg : ∀ (s : Shared) (H : Hp) (C : Addr) (cl : List (Str × Addr)) (fp : List Addr), PG (X.blk s H scope (compEnvC scope cl C X.env) fp) tg (tgOf X.K p))
    (ht : ∀ (s : Shared) (H : Hp) (C : Addr) (cl : List (Str × Addr)) (fp : List Addr), PTs (X.blk s H scope (compEnvC scope cl C X.env) fp) ifs (liftT X.K qt))
    (he : ∀ (s : Shared) (H : Hp) (C : Addr) (cl : List (Str × Addr)) (fp : List Addr), PE (X.blk s H scope (compEnvC scope cl C X.env) fp) elt (liftE X.K qe))
    (hsw : swapsWith (.ListComp elt [⟨tg, iter, ifs, 0⟩] scope pos) (some (.Name y py)) spos.line X.env = pure true := by exact sw_true rfl rfl rfl (by decide +kernel))
    (hy : X.N[i]? = some y := by rfl) (hyl : X.env.scope.names.lookup y = some .local := by rfl)
    (hv : ∀ i ∈ slots p, i ∈ own.map (·.2) := by decide) (hs : ∀ x, foldedSetIterable iter X.env x = pure x := by intro _; rfl) :
    PS X (.Assign [.Name y py] (.ListComp elt [⟨tg, iter, ifs, 0⟩] scope pos) spos) (liftS X.K (sAsg (.nm i) (qFreeze (qLc qi p qt qe (own.map (·.2)))))) :=
  ps_imp (ps_setLc hc hN hy hyl hsw hi ok hg ht he hs) fun D σ H h => lift_lc hv σ H _ (lift_freeze σ H _ (lift_nm h))
end
/-! ### a property -/
section
variable {X : Cx} {k : Nat} {C p g a dx : Addr} {fs : List (Str × V)} {f : Str} {e : Expr} {pos : Pos}
end
/-! ### defs, with weakening behind -/
section
variable {P : Program} {w : World} {K : PySem.W.Frag} {mg : Str → Option Value} {base : Heap}
theorem fno_ofW {x qual : Str} {st : Stmt} {f : Addr} {fd : FuncData} {N ps : List Str} {k : Nat} {sp : LSp} {qb : QS} (F : Fun K x qual st f fd) (S : FnScope N ps (defScope st)) (len : ∀ ds m Φ, sp ds m Φ → ds.length = ps.length)
    (hd : ∀ (cdv : Value) (A : Around) (outer : List Env) (s : Shared) (H : Hp) (E : XK), Room k (A.deeper (envOfC qual (defScope st) s.heap.objs.size f cdv)) → PSs (cxB P w K mg base N qual st f cdv A outer s H E) (defBody st) (liftS K qb))
    (h : ∀ ds m Φ, sp ds m Φ → qb (bodyW Φ) (begin_ N.length ds) m) : FnOk P w K mg base CX0 (k + 1) f fd ps (liftSp K sp) := by
  refine F.ok S (fun vs H Q E hs => ?_) (fun cdv A outer s H vs Q E hr hs => ⟨liftS K qb, hd cdv A outer s H E hr, body_liftW h hs⟩)
  obtain ⟨G, m, ds, Φ, rm, rd, q, k⟩ := hs
  rw [← rd.length]; exact len ds m Φ q
/-- THE RULE for a def -/
theorem def_ofW {x qual : Str} {st : Stmt} {f : Addr} {fd : FuncData} {N ps : List Str} {k : Nat} {sp : LSp} {qb : QS} (F : Fun K x qual st f fd) (hb : Binds K fd ps []) (S : FnScope N ps (defScope st)) (len : ∀ ds m Φ, sp ds m Φ → ds.length = ps.length)
    (hd : ∀ (cdv : Value) (A : Around) (outer : List Env) (s : Shared) (H : Hp) (E : XK), Room k (A.deeper (envOfC qual (defScope st) s.heap.objs.size f cdv)) → PSs (cxB P w K mg base N qual st f cdv A outer s H E) (defBody st) (liftS K qb))
    (h : ∀ ds m Φ, sp ds m Φ → qb (bodyW Φ) (begin_ N.length ds) m) : FnD P w K mg base (k + 1) f sp := fnr_of (fno_ofW F S len hd h) hb
/-- no promise is kept -/
theorem fnd_false {k : Nat} {f : Addr} : FnD P w K mg base k f (fun _ _ _ => False) := fun A outer s H us vs Q E hr e0 r ⟨_, _, _, _, _, _, h, _⟩ => h.elim
theorem FnD.imp {k : Nat} {f : Addr} {sp sp' : LSp} (h : FnD P w K mg base k f sp) (i : ∀ ds m Φ, sp' ds m Φ → sp ds m Φ) : FnD P w K mg base k f sp' := FnR.imp h fun vs H Q E ⟨G, m, ds, Φ, rm, rd, q, k⟩ => ⟨G, m, ds, Φ, rm, rd, i ds m Φ q, k⟩
end
end L3
namespace L3
open PySem PySem.Spec PyProof.Rows L2
/-! ### == by kinds -/
theorem eqv_int (i j : Int) : PyData.eqv (.int i) (.int j) = decide (i = j) := by
  simp [PyData.eqv]
  exact Bool.eq_iff_iff.mpr (by simp)
theorem eqv_bl (i j : Bool) : PyData.eqv (.bool i) (.bool j) = decide (i = j) := by
  cases i <;> cases j <;> rfl
theorem sh_int (i : Int) : SeqAt.shaped (.int i) = true := by rfl
theorem sh_bl (i : Bool) : SeqAt.shaped (.bool i) = true := by rfl
def vEq : D → D → Mem → DK → Prop := fun x y m Φ => match x, y with
  | .int i, .int j => Φ (.bl (decide (i = j))) m
  | .bl i, .bl j => Φ (.bl (decide (i = j))) m
  | x, y => qEq x y m Φ
def vNe : D → D → Mem → DK → Prop := fun x y m Φ => match x, y with
  | .int i, .int j => Φ (.bl (!decide (i = j))) m
  | .bl i, .bl j => Φ (.bl (!decide (i = j))) m
  | x, y => qNe x y m Φ
theorem veq_of {x y : D} {m : Mem} {Φ : DK} (h : vEq x y m Φ) : qEq x y m Φ := by
  unfold vEq at h
  split at h
  · exact ⟨_, _, .inl rfl, .inl rfl, sh_int _, sh_int _, by rw [eqv_int]; exact h⟩
  · exact ⟨_, _, .inl rfl, .inl rfl, sh_bl _, sh_bl _, by rw [eqv_bl]; exact h⟩
  · exact h
theorem vne_of {x y : D} {m : Mem} {Φ : DK} (h : vNe x y m Φ) : qNe x y m Φ := by
  unfold vNe at h
  split at h
  · exact ⟨_, _, .inl rfl, .inl rfl, sh_int _, sh_int _, by rw [eqv_int]; exact h⟩
  · exact ⟨_, _, .inl rfl, .inl rfl, sh_bl _, sh_bl _, by rw [eqv_bl]; exact h⟩
  · exact h
section
variable {X : Cx}
theorem do_eq2 (hu : X.A.units + 64 < cLine) : OpR X (compareOp .Eq) (liftR X.K vEq) := op_imp (do_eq hu) fun x y H Q ⟨G, m, dx, dy, Φ, rm, rx, ry, q, k⟩ => ⟨G, m, dx, dy, Φ, rm, rx, ry, veq_of q, k⟩
theorem do_ne2 (hu : X.A.units + 64 < cLine) : OpR X (compareOp .NotEq) (liftR X.K vNe) := op_imp (do_ne hu) fun x y H Q ⟨G, m, dx, dy, Φ, rm, rx, ry, q, k⟩ => ⟨G, m, dx, dy, Φ, rm, rx, ry, vne_of q, k⟩
end
end L3
namespace L3
open PySem PySem.Spec PyProof.Rows L2
open Rat (divInt)
/-! ### amounts: fractions in lowest terms -/
def am (q : Rat) : D := .tup [.int q.num, .int q.den]
theorem am_low {t b g : Int} (hb : 0 < b) (hg : g = (Int.gcd t b : Nat)) : D.tup [.int (t / g), .int (b / g)] = am (divInt t b) := by
  have h1 : (divInt t b).num = t / g := by rw [Rat.num_divInt, Int.sign_eq_one_of_pos hb, Int.one_mul, Int.gcd_comm, hg]
  have h2 : ((divInt t b).den : Int) = b / g := by
    rw [Rat.den_divInt, if_neg (by omega), Int.gcd_comm, hg, Int.natCast_ediv]
    congr 1
    omega
  unfold am
  rw [h1, h2]
theorem am_nonneg {p : Rat} : 0 ≤ p ↔ 0 ≤ p.num := Rat.num_nonneg.symm
/-- q's denominator divides N -/
def Dn (N : Nat) (q : Rat) : Prop := ∃ z : Int, q * (N : Rat) = z
theorem Dn.of {N : Nat} {t b : Int} (hb : b ≠ 0) (M : Nat) (e : b * M = N) : Dn N (divInt t b) := by
  refine ⟨t * M, ?_⟩
  have hN : (N : Rat) = (b : Rat) * (M : Rat) := by rw [← Rat.intCast_natCast, ← e, Rat.intCast_mul, Rat.intCast_natCast]
  have hb' : (b : Rat) ≠ 0 := by intro z; exact hb (Rat.intCast_eq_zero_iff.mp z)
  rw [Rat.divInt_eq_div, hN, Rat.intCast_mul, Rat.intCast_natCast]
  grind
theorem gcd_step {x y : Int} (hx : 0 ≤ x) (hy : 0 ≤ y) : Int.gcd y (x % y) = Int.gcd y x := by
  obtain ⟨a, rfl⟩ := Int.eq_ofNat_of_zero_le hx
  obtain ⟨b, rfl⟩ := Int.eq_ofNat_of_zero_le hy
  show Nat.gcd b (a % b) = Nat.gcd b a
  rw [Nat.gcd_comm b (a % b), ← Nat.gcd_rec]
theorem MLe.any {m : Mem} {a : Addr} {ds : List D} {P : List D → Prop} (p : P ds) : MLe (mset m a (.lst ds)) (mset m a (.any P)) := fun b o h => by
  by_cases hb : b = a
  · subst hb
    rw [mset_same] at h
    cases h
    exact ⟨_, mset_same, .inr (.inl ⟨ds, P, rfl, rfl, p⟩)⟩
  · rw [mset_ne hb] at h
    exact ⟨o, by rw [mset_ne hb]; exact h, .inl rfl⟩
end L3
open PySem PySem.Spec PyProof.Rows L2 L3
namespace L3
/-- i ** j, its value kept as a name (so that no test over it is reckoned out) -/
def qPow : D → D → Mem → DK → Prop := fun x y m Φ => match x, y with
  | .int i, .int j => CPow i j ∧ ∀ n : Int, n = i ^ j.toNat → Φ (.int n) m
  | _, _ => False
theorem do_pow2 {X : Cx} : OpR X (binaryOp .Pow) (liftR X.K qPow) := op_imp do_pow fun x y H Q ⟨G, m, dx, dy, Φ, rm, rx, ry, q, k⟩ => by
  refine ⟨G, m, dx, dy, Φ, rm, rx, ry, ?_, k⟩
  unfold qPow at q
  split at q
  · exact ⟨q.1, q.2 _ rfl⟩
  · exact q.elim
end L3
namespace L3
open PySem PySem.Spec PyProof.Rows L2
/-! ### {k: v, ..} -/
def qPairs : List (QE × QE) → DSt → Mem → (List (D × D) → Mem → Prop) → Prop
  | [], _, m, Φ => Φ [] m
  | p :: r, s, m, Φ => p.1 s m fun x m1 => p.2 s m1 fun y m2 => qPairs r s m2 fun ps m3 => Φ ((x, y) :: ps) m3
def keysP : List (D × D) → Option (List (Key × D))
  | [] => some []
  | p :: r => match keyD p.1, keysP r with
    | some k, some ks => some ((k, p.2) :: ks)
    | _, _ => none
def mergeD (ks more : List (Key × D)) : List (Key × D) := more.foldl (fun acc kv => putD acc kv.1 kv.2) ks
def qDisp (ps : List (QE × QE)) : QE := fun s m Φ => ∀ p, m p = none → qPairs ps s (mset m p (.dK [])) fun xs m2 => m2 p = some (.dK []) ∧ ∃ kvs, keysP xs = some kvs ∧ kvs.length ≤ 15 ∧ Φ (.ref p) (mset m2 p (.dK (mergeD [] kvs)))
section
variable {K : PySem.W.Frag}
def RPs (K : PySem.W.Frag) (G : Hp) : List (D × D) → List (V × V) → Prop
  | [], [] => True
  | p :: r, q :: t => RV K G p.1 q.1 ∧ RV K G p.2 q.2 ∧ RPs K G r t
  | _, _ => False
end
section
variable {X : Cx} {pos : Pos} {k v : Expr} {ks : List (Option Expr)} {vs : List Expr} {qk qv : QE} {ps : List (QE × QE)}
end
end L3
/-! L3l: lcm; sorted of pairs of ints -/
namespace L3
open PySem PySem.Spec PyProof.Rows L2 PySem.W
def bLcm : LSp := fun ds m Φ => match ds with | [.int i, .int j] => i.natAbs.log2 < 9000 ∧ j.natAbs.log2 < 9000 ∧ Φ (.int ((Nat.lcm i.natAbs j.natAbs : Nat) : Int)) m | _ => False
/-! ### sorted of pairs -/
abbrev pairD (p : Int × Int) : D := .tup [.int p.1, .int p.2]
/-- sorted(xs), xs pairs of ints from nought below B: a new list -/
def bSortP (B : Int) : LSp := fun ds m Φ => match ds with
  | [d] => itemsL d m fun xs => ∃ L : List (Int × Int), xs = L.map pairD ∧ L.length < 64 ∧ (∀ p ∈ L, 0 ≤ p.1 ∧ p.1 < B ∧ 0 ≤ p.2 ∧ p.2 < B) ∧
    ∀ L' : List (Int × Int), L'.Perm L → L'.Pairwise (fun p q => p.1 < q.1 ∨ (p.1 = q.1 ∧ p.2 ≤ q.2)) → ∀ a, m a = none → Φ (.ref a) (mset m a (.lst (L'.map pairD)))
  | _ => False
end L3
/-! L3m: calls with keywords -/
namespace L3
open PySem PySem.Spec PyProof.Rows L2
def pick {α : Type} (is : List Nat) (l : List α) : List α := is.filterMap fun i => l[i]?
/-- n arguments by place, then k by name: the parameters' places among them -/
def pick2 {α : Type} (n k : Nat) (is : List Nat) (us ws : List α) : List α := if us.length = n ∧ ws.length = k then pick is (us ++ ws) else []
/-- how a call with keywords binds -/
def KwB (K : PySem.W.Frag) (fd : FuncData) (ps ks : List Str) (n : Nat) (is : List Nat) : Prop := KBinds K fd ps ks (pick2 n ks.length is) (pick2 n ks.length is)
section
variable {X : Cx} {k : Nat} {f : Addr} {fd : FuncData} {ps ks : List Str} {sp : LSp} {n : Nat} {is : List Nat} {x : Str} {p pos kpos : Pos} {e : Expr} {es : List Expr} {kws : List Keyword} {qe : QE} {qa qk : QA} {nm : Option Str}
def qCallK (sp : LSp) (n k : Nat) (is : List Nat) (qa qk : QA) : QE := fun s m Φ => qa s m fun ds m1 => qk s m1 fun es m2 => (ds.length = n ∧ es.length = k) ∧ sp (pick is (ds ++ es)) m2 Φ
end
end L3
/-! L3n: defs with default values -/
namespace L3
open PySem PySem.Spec PyProof.Rows L2
section
variable {P : Program} {w : World} {K : PySem.W.Frag} {mg : Str → Option Value} {base : Heap}
abbrev FunT (K : PySem.W.Frag) (x qual : Str) (st : Stmt) (dvs : List V) (f : Addr) (fd : FuncData) : Prop := FunD K x qual (defArgs st) (defBody st) (defScope st) dvs [] f fd
end
/-! ### a list or a tuple -/
def ItemsAt (w : D) (m : Mem) (xs : List D) : Prop := w = .lst xs ∨ w = .tup xs ∨ ∃ a, w = .ref a ∧ m a = some (.lst xs)
def LItems (w : D) (m : Mem) (xs : List D) : Prop := w = .lst xs ∨ ∃ a, w = .ref a ∧ m a = some (.lst xs)
theorem LItems.to {w : D} {m : Mem} {xs : List D} (h : LItems w m xs) : ItemsAt w m xs := h.elim .inl fun h => .inr (.inr h)
theorem LItems.new {w : D} {m : Mem} {xs : List D} (h : LItems w m xs) {a : Addr} {o : AO} (ha : m a = none) : LItems w (mset m a o) xs := by
  rcases h with h | ⟨b, h, e⟩
  · exact .inl h
  · exact .inr ⟨b, h, by rw [mset_ne fun z => by subst z; rw [e] at ha; cases ha]; exact e⟩
def iSeq (qe : QE) : QI := fun s m Φ => iLst qe s m Φ ∨ iTup qe s m Φ
theorem blen_items {w : D} {m : Mem} {xs : List D} {Φ : DK} (h : ItemsAt w m xs) (k : Φ (.int xs.length) m) : bLen [w] m Φ := by
  rcases h with rfl | rfl | ⟨a, rfl, e'⟩
  · exact k
  · exact k
  · exact .inl ⟨xs, e', k⟩
/-- a comprehension that reads and changes nothing -/
theorem lc_pure {α : Type} {p : Pat} {qt : QT} {qe : QE} {s1 : DSt} {C : Mem → Prop} {m1 : Mem} {Φ : DK} (l : List α) (dOf : α → D) (t : α → Bool) (g : α → D) (hl : l.length < sizeLine) (hC : ∀ a o, m1 a = none → C (mset m1 a o))
    (hs : ∀ (i : Nat) (x : α), l[i]? = some x → ∀ (a : Addr) (o : AO), m1 a = none → match asg p (dOf x) s1 with
      | some s2 => (∀ Q : Bool → Mem → Prop, Q (t x) (mset m1 a o) → qt s2 (mset m1 a o) Q) ∧ (t x = true → ∀ Q : DK, Q (g x) (mset m1 a o) → qe s2 (mset m1 a o) Q)
      | none => False)
    (hd : ∀ a, m1 a = none → Φ (.ref a) (mset m1 a (.lst ((l.filter t).map g)))) : LcIn p qt qe s1 (l.map dOf) C m1 Φ := by
  have take_more : ∀ {l : List α} {i : Nat} {x : α}, l[i]? = some x → l.take (i + 1) = l.take i ++ [x] := by
    intro l i x h
    obtain ⟨hi, rfl⟩ := List.getElem?_eq_some_iff.mp h
    rw [List.take_succ_eq_append_getElem hi]
  refine lc_by (fun i acc => acc = ((l.take i).filter t).map g) rfl hC ?_ ?_
  · intro i d acc a ha hd' hle hP
    rw [List.getElem?_map] at hd'
    cases hx : l[i]? with
    | none => rw [hx] at hd'; cases hd'
    | some x =>
      rw [hx] at hd'
      cases hd'
      have hi : i < l.length := (List.getElem?_eq_some_iff.mp hx).1
      have h := hs i x hx a (.lst acc) ha
      cases e : asg p (dOf x) s1 with
      | none => rw [e] at h; exact h
      | some s2 =>
        rw [e] at h
        refine h.1 _ (qif (fun ht => ?_) (fun ht => ?_))
        · refine h.2 ht _ (lc_ok hle (by omega) ?_)
          rw [take_more hx, List.filter_append, List.map_append, hP]
          simp [ht]
        · refine lc_skip hle ?_
          rw [take_more hx, List.filter_append, List.map_append, hP]
          simp [ht]
  · intro acc a ha _ hP
    rw [List.length_map, List.take_of_length_le (Nat.le_refl _)] at hP
    subst hP
    exact hd a ha
theorem filter_yes {α : Type} (l : List α) : l.filter (fun _ => true) = l := List.filter_eq_self.mpr fun _ _ => rfl
end L3
/-! L4a: plain mathematics of amounts, sums, tables -/
namespace L4
open PySem PySem.Spec PyProof.Rows L2 L3
open Rat (divInt)
theorem dec_t {p : Prop} [Decidable p] (h : decide p = true) : p := of_decide_eq_true h
theorem dec_f {p : Prop} [Decidable p] (h : decide p = false) : ¬ p := of_decide_eq_false h
theorem cm_r {i j : Int} (h : 0 ≤ j) (h2 : j < 2 ^ 62) : CM i j := .inl (.inr ⟨by omega, by omega⟩)
theorem cm_l {i j : Int} (h : 0 ≤ i) (h2 : i < 2 ^ 62) : CM i j := .inl (.inl ⟨by omega, by omega⟩)
theorem log2_le {a b : Nat} (h : a ≤ b) : a.log2 ≤ b.log2 := by
  rcases Nat.eq_zero_or_pos a with z | z
  · subst z; simp
  · exact (Nat.le_log2 (by omega)).mpr (Nat.le_trans (Nat.log2_self_le (by omega)) h)
theorem log2_small {a : Nat} {k : Nat} (h : a < 2 ^ k) (hk : 0 < k) : a.log2 < k := by
  rcases Nat.eq_zero_or_pos a with z | z
  · subst z; simpa using hk
  · exact (Nat.log2_lt (by omega)).mpr h
theorem cd_le {i g b : Int} (h : 0 < g) (h1 : g ≤ b) (h2 : b.natAbs.log2 < 9000) : CDivW i g := ⟨h, Nat.lt_of_le_of_lt (log2_le (by omega)) h2⟩
theorem cd_s {i j : Int} (h : 0 < j) (h2 : j < 2 ^ 62) : CDivW i j := ⟨h, by
  have := log2_small (a := j.natAbs) (k := 62) (by omega) (by decide)
  omega⟩
/-! ### bounded amounts -/
def Bg (q : Rat) : Prop := q.num.natAbs.log2 < 4000 ∧ q.den.log2 < 4000
/-- not below nought, at most M, the denominator divides N -/
structure Okb (N M : Nat) (q : Rat) : Prop where
  nn : 0 ≤ q
  le : q ≤ (M : Rat)
  dn : Dn N q
theorem divInt_nn {t b : Int} (h : 0 ≤ t) (hb : 0 < b) : 0 ≤ divInt t b := by
  rw [am_nonneg, Rat.num_divInt, Int.sign_eq_one_of_pos hb, Int.one_mul]
  exact Int.ediv_nonneg h (by omega)
theorem divInt_le {t b M : Int} (hb : 0 < b) (h : t ≤ M * b) : divInt t b ≤ (M : Rat) := by
  rw [Rat.divInt_eq_div]
  have h1 : (0 : Rat) < (b : Rat) := by have := Rat.intCast_lt_intCast.mpr hb; exact this
  have h2 : (t : Rat) ≤ (M : Rat) * (b : Rat) := by rw [← Rat.intCast_mul]; exact Rat.intCast_le_intCast.mpr h
  refine Rat.le_of_mul_le_mul_right (c := (b : Rat)) ?_ h1
  have h3 : (b : Rat) ≠ 0 := by grind
  have h4 : (t : Rat) / (b : Rat) * (b : Rat) = t := by grind
  rw [h4]; exact h2
theorem am0 : am 0 = .tup [.int 0, .int 1] := rfl
/-- what is left -/
def rest (p q : Rat) : Rat := if q ≤ p then p - q else 0
def mn (p q : Rat) : Rat := if q < p then q else p
def mx (p q : Rat) : Rat := if p < q then q else p
def total : List Rat → Rat
  | [] => 0
  | q :: r => q + total r
theorem get_map {α β : Type} {f : α → β} {l : List α} {i : Nat} {y : β} (h : (l.map f)[i]? = some y) : ∃ x, l[i]? = some x ∧ f x = y := by
  rw [List.getElem?_map] at h
  cases e : l[i]? with
  | none => rw [e] at h; cases h
  | some x => rw [e] at h; exact ⟨x, rfl, Option.some.inj h⟩
theorem get_ints {lo : Int} {n i : Nat} {d : D} (h : (intsD lo n)[i]? = some d) : i < n ∧ d = .int (lo + i) := by
  obtain ⟨j, hj, rfl⟩ := get_map h
  have hi := (List.getElem?_eq_some_iff.mp hj).1
  rw [List.length_range] at hi
  rw [List.getElem?_range hi] at hj
  cases hj
  exact ⟨hi, rfl⟩
theorem ints_len {lo : Int} {n : Nat} : (intsD lo n).length = n := by unfold intsD; rw [List.length_map, List.length_range]
theorem atI_in {α : Type} (xs : List α) {d : Int} (h0 : 0 ≤ d) (h1 : d < xs.length) : ∃ x ∈ xs, atI xs d = some x := by
  obtain ⟨j, rfl⟩ : ∃ j : Nat, d = j := ⟨d.toNat, by omega⟩
  have hj : j < xs.length := by omega
  exact ⟨xs[j], List.getElem_mem hj, atI_nat (List.getElem?_eq_getElem hj)⟩
/-! ### the memory -/
theorem ne_none {m : Mem} {a b : Addr} {o : AO} (h : m a = some o) (k : m b = none) : a ≠ b := fun e => by subst e; rw [h] at k; cases k
theorem ne_obj {m : Mem} {a b : Addr} {o u : AO} (h : m a = some o) (k : m b = some u) (d : o ≠ u) : a ≠ b := fun e => by subst e; rw [h] at k; exact d (Option.some.inj k)
theorem mset_none {m : Mem} {a b : Addr} {o : AO} (h : mset m a o b = none) : b ≠ a ∧ m b = none := by
  by_cases e : b = a
  · subst e; rw [mset_same] at h; cases h
  · rw [mset_ne e] at h; exact ⟨e, h⟩
/-- all that stood stands, but for what P tells -/
def Keeps (m m' : Mem) (P : Addr → Prop) : Prop := ∀ a o, ¬ P a → m a = some o → m' a = some o
abbrev Grows (m m' : Mem) : Prop := Keeps m m' (fun _ => False)
theorem Keeps.refl (m : Mem) : Grows m m := fun _ _ _ e => e
theorem Keeps.le {m m' : Mem} (k : Grows m m') : MLe m' m := fun a o e => ⟨o, k a o id e, .inl rfl⟩
theorem Keeps.at {m m' : Mem} (k : Grows m m') {a : Addr} {o : AO} (e : m a = some o) : m' a = some o := k a o id e
theorem Keeps.new {m m' : Mem} (k : Grows m m') {p : Addr} {o : AO} (h : m' p = none) : Grows m (mset m' p o) := fun a u _ e => by rw [mset_ne (ne_none (k.at e) h)]; exact k.at e
theorem Keeps.trans {m m' m2 : Mem} (k : Grows m m') (k' : Grows m' m2) : Grows m m2 := fun a u _ e => k'.at (k.at e)
/-! ### tables of amounts by ticks -/
abbrev Tab := List (Int × Rat)
def tabD (t : Tab) : List (Key × D) := t.map fun p => (Sum.inl p.1, am p.2)
def inW (lo hi : Int) (p : Int × Rat) : Bool := decide (lo < p.1) && decide (p.1 < hi)
def taken (t : Tab) (lo hi : Int) : Rat := total ((t.filter (inW lo hi)).map (·.2))
def putT (t : Tab) (k : Int) (q : Rat) : Tab := if (t.any fun p => decide (p.1 = k)) = true then t.map (fun p => if p.1 = k then (p.1, q) else p) else t ++ [(k, q)]
/-- the amount at a tick, where there is one -/
def getT (t : Tab) (k : Int) : Option Rat := (t.find? fun p => decide (p.1 = k)).map (·.2)
/-- a table of waters -/
structure TabOk (N M : Nat) (t : Tab) : Prop where
  nd : (t.map (·.1)).Nodup
  ok : ∀ p ∈ t, Okb N M p.2
  len : t.length ≤ 1000
def cutF (c : Int) (p : Int × Rat) : Bool := decide (c ≤ p.1)
/-! ### data looked at as a whole -/
def flat : Nat → D → Prop
  | _, .non => True
  | _, .bl _ => True
  | _, .int _ => True
  | n + 1, .tup ds => ds.length < 1000000 ∧ ∀ d ∈ ds, flat n d
  | n + 1, .lst ds => ds.length < 1000000 ∧ ∀ d ∈ ds, flat n d
  | _, _ => False
theorem zip_self : ∀ (ds : List D) {i : Nat} {d : D}, (zipD ds ds)[i]? = some d → ∃ x ∈ ds, d = .tup [x, x]
  | [], i, d, h => by simp [zipD] at h
  | x :: ds, 0, d, h => ⟨x, List.mem_cons_self, (Option.some.inj h).symm⟩
  | x :: ds, i + 1, d, h => by
    obtain ⟨y, hy, e⟩ := zip_self ds (i := i) h
    exact ⟨y, List.mem_cons_of_mem _ hy, e⟩
theorem all_true (n : Nat) : (List.replicate n true).all id = true := by induction n with | zero => rfl | succ n ih => simp [List.replicate_succ]
def sumI : List Int → Int
  | [] => 0
  | x :: r => x + sumI r
end L4
/-! L3o: readings step by step, each step by its head -/
namespace L3
open PySem PySem.Spec PyProof.Rows L2
section
variable {E : DE} {s s2 : DSt} {m : Mem} {t u qb : QS} {qe qa' qb' qc' : QE} {c d' : QT} {qa qr : QA} {Φ : DK} {Ψ : Bool → Mem → Prop} {Θ : List D → Mem → Prop} {i j l : Nat} {d e f : D} {r r' : D → D → Mem → DK → Prop}
  {p : Pat} {ps : List Pat} {sp : LSp} {qi : QI} {qt : QT} {vs : List Nat} {F : DSt → Prop} {b : Bool} {A B : Prop}
def AsgK (p : Pat) (d : D) (s : DSt) (F : DSt → Prop) : Prop := match asg p d s with | some s2 => F s2 | none => False
theorem k_at (e : asg p d s = some s2) (h : F s2) : AsgK p d s F := by unfold AsgK; rw [e]; exact h
theorem k_atn (h : F (s.set i (some d))) : AsgK (.nm i) d s F := h
def ForK (p : Pat) (qb : QS) (E : DE) (s : DSt) (ds : List D) (C : Mem → Prop) (m1 : Mem) : Prop := ∃ I : Nat → DSt → Mem → Prop, I 0 s m1 ∧ (∀ i s' m', i ≤ ds.length → I i s' m' → C m') ∧
  (∀ i d s' m', ds[i]? = some d → I i s' m' → AsgK p d s' fun s2 => qb { E with nx := I (i + 1), ct := I (i + 1), bk := E.nx } s2 m') ∧ ∀ s' m', I ds.length s' m' → E.nx s' m'
theorem k_seq (h : t { E with nx := u E } s m) : sSeq t u E s m := h
theorem k_next (h : E.nx s m) : sNext E s m := h
theorem k_expr (h : qe s m fun _ m1 => E.nx s m1) : sExpr qe E s m := h
theorem k_ret (h : qe s m E.rt) : sRet qe E s m := h
theorem k_if (h : c s m fun b m1 => qIf b (t E s m1) (u E s m1)) : sIf c t u E s m := h
theorem k_asg (h : qe s m fun d m1 => E.nx (s.set i (some d)) m1) : sAsg (.nm i) qe E s m := h
theorem k_asgp (h : qe s m fun d m1 => AsgK (.tp ps) d s fun s2 => E.nx s2 m1) : sAsg (.tp ps) qe E s m := h
def ParK (i j : Nat) (E : DE) (s : DSt) (ds : List D) (m1 : Mem) : Prop := match ds with | [d, e] => E.nx ((s.set i (some d)).set j (some e)) m1 | _ => False
theorem k_par (h : qa s m fun ds m1 => ParK i j E s ds m1) : sPar i j qa E s m := h
theorem k_parI (h : E.nx ((s.set i (some d)).set j (some e)) m) : ParK i j E s [d, e] m := h
def ParK3 (i j l : Nat) (E : DE) (s : DSt) (ds : List D) (m1 : Mem) : Prop := match ds with | [d, e, f] => E.nx (((s.set i (some d)).set j (some e)).set l (some f)) m1 | _ => False
theorem k_par3 (h : qa s m fun ds m1 => ParK3 i j l E s ds m1) : sPar3 i j l qa E s m := h
theorem k_par3I (h : E.nx (((s.set i (some d)).set j (some e)).set l (some f)) m) : ParK3 i j l E s [d, e, f] m := h
theorem k_for (h : qi s m fun ds C m1 => ForK p qb E s ds C m1) : sFor qi p qb E s m := h
def SubK (o i v : D) (F : Mem → Prop) (m : Mem) : Prop := match o with
  | .ref a => (∃ ds k j, i = .int k ∧ m a = some (.lst ds) ∧ ixN ds.length k = some j ∧ F (mset m a (.lst (ds.set j v)))) ∨
      ∃ ks k, m a = some (.dK ks) ∧ keyD i = some k ∧ ks.length < sizeLine ∧ F (mset m a (.dK (putD ks k v)))
  | _ => False
theorem k_sub {qo qi' qv : QE} (h : qv s m fun v m1 => qo s m1 fun o m2 => qi' s m2 fun i m3 => SubK o i v (E.nx s) m3) : sSub qo qi' qv E s m := h
theorem k_subL {a : Addr} {k : Int} {v : D} {ds : List D} {F : Mem → Prop} (hm : m a = some (.lst ds)) (hj : ixN ds.length k = some j) (h : F (mset m a (.lst (ds.set j v)))) : SubK (.ref a) (.int k) v F m := .inl ⟨ds, k, j, rfl, hm, hj, h⟩
theorem k_subD {a : Addr} {x v : D} {k : Key} {ks : List (Key × D)} {F : Mem → Prop} (hm : m a = some (.dK ks)) (hk : keyD x = some k) (hl : ks.length < sizeLine) (h : F (mset m a (.dK (putD ks k v)))) : SubK (.ref a) x v F m := .inr ⟨ks, k, hm, hk, hl, h⟩
-- values
theorem k_var (e : look s i = some d) (h : Φ d m) : qVar i s m Φ := by unfold qVar; rw [e]; exact h
theorem k_c (h : Φ d m) : qC d s m Φ := h
theorem k_op (h : qa' s m fun x m1 => qb' s m1 fun y m2 => r x y m2 Φ) : qOp r qa' qb' s m Φ := h
def BK (d : D) (m : Mem) (Ψ : Bool → Mem → Prop) : Prop := match d with | .bl b => Ψ b m | _ => False
theorem k_B (h : qe s m fun d m1 => BK d m1 Ψ) : qB qe s m Ψ := h
theorem k_bk (h : Ψ b m) : BK (.bl b) m Ψ := h
theorem k_and (h : c s m fun b m1 => qIf b (d' s m1 Ψ) (Ψ false m1)) : qAnd c d' s m Ψ := h
theorem k_or (h : c s m fun b m1 => qIf b (Ψ true m1) (d' s m1 Ψ)) : qOr c d' s m Ψ := h
theorem k_not (h : c s m fun b m1 => Ψ (!b) m1) : qNot c s m Ψ := h
theorem k_andV (h : qa' s m fun x m1 => BK x m1 fun c m2 => qIf c (qb' s m2 Φ) (Φ (.bl false) m2)) : qAndV qa' qb' s m Φ := h
theorem k_notV (h : qe s m fun x m1 => BK x m1 fun c m2 => Φ (.bl (!c)) m2) : qNotV qe s m Φ := h
theorem k_ifE (h : c s m fun b m1 => qIf b (qa' s m1 Φ) (qb' s m1 Φ)) : qIfE c qa' qb' s m Φ := h
theorem k_ift (h : A) : qIf true A B := qif_t rfl h
theorem k_iff (h : B) : qIf false A B := qif_f rfl h
theorem k_ifnt (h : B) : qIf (!true) A B := qif_f rfl h
theorem k_ifnf (h : A) : qIf (!false) A B := qif_t rfl h
theorem k_nil (h : Θ [] m) : qNil s m Θ := h
theorem k_cons (h : qe s m fun x m1 => qr s m1 fun xs m2 => Θ (x :: xs) m2) : qCons qe qr s m Θ := h
theorem k_tup (h : qa s m fun ds m1 => ds.length ≤ sizeLine ∧ Φ (.tup ds) m1) : qTup qa s m Φ := h
theorem k_lstF (h : qa s m fun ds m1 => ds.length ≤ sizeLine ∧ Φ (.lst ds) m1) : qLstF qa s m Φ := h
theorem k_lstM (h : qa s m fun ds m1 => ds.length ≤ sizeLine ∧ ∀ p, m1 p = none → Φ (.ref p) (mset m1 p (.lst ds))) : qLstM qa s m Φ := h
theorem k_call (h : qa s m fun ds m1 => sp ds m1 Φ) : qCall sp qa s m Φ := h
theorem k_cb (h : qa s m fun ds m1 => sp ds m1 Φ) : qCB sp qa s m Φ := h
def FzK (d : D) (m1 : Mem) (Φ : DK) : Prop := match d with
  | .ref a => ∃ ds, m1 a = some (.lst ds) ∧ Φ (.lst ds) (mdel m1 a)
  | _ => False
theorem k_fz (h : qe s m fun d m1 => FzK d m1 Φ) : qFreeze qe s m Φ := h
/-- a new list is frozen at once -/
theorem k_fzn {a : Addr} {ds : List D} (ha : m a = none) (h : Φ (.lst ds) m) : FzK (.ref a) (mset m a (.lst ds)) Φ := fz_done ha h
theorem k_lc {qe : QE} (h : qi s m fun ds C m1 => LcIn p qt qe (wipeD s vs) ds C m1 Φ) : qLc qi p qt qe vs s m Φ := h
-- operations
theorem k_i0 {g : Int → Int → D} {x y : Int} (h : Φ (g x y) m) : qI0 g (.int x) (.int y) m Φ := h
theorem k_addI {x y : Int} (h : Φ (.int (x + y)) m) : qAdd (.int x) (.int y) m Φ := h
theorem k_eqI {x y : Int} (h : Φ (.bl (decide (x = y))) m) : vEq (.int x) (.int y) m Φ := h
theorem k_ixt {ds : List D} {x : Int} (e : L2.atI ds x = some d) (h : Φ d m) : vIx (.tup ds) (.int x) m Φ := ⟨d, e, h⟩
theorem k_ixr {a : Addr} {ds : List D} {x : Int} (hm : m a = some (.lst ds)) (e : L2.atI ds x = some d) (h : Φ d m) : vIx (.ref a) (.int x) m Φ := .inl ⟨ds, x, d, rfl, hm, e, h⟩
theorem k_lenR {a : Addr} {ds : List D} (hm : m a = some (.lst ds)) (h : Φ (.int ds.length) m) : bLen [.ref a] m Φ := .inl ⟨ds, hm, h⟩
def RngK (ds : List D) (m : Mem) (Ξ : List D → (Mem → Prop) → Mem → Prop) : Prop := match ds with
  | [.int j] => -(2 ^ 62) ≤ j ∧ j < 2 ^ 62 ∧ Ξ (intsD 0 j.toNat) (fun _ => True) m
  | _ => False
theorem k_rng {Ξ : List D → (Mem → Prop) → Mem → Prop} (h : qa s m fun ds m1 => RngK ds m1 Ξ) : iRange1 qa s m Ξ := h
theorem k_rngI {n : Nat} {Ξ : List D → (Mem → Prop) → Mem → Prop} (h1 : n < 2 ^ 62) (h : Ξ (intsD 0 n) (fun _ => True) m) : RngK [.int n] m Ξ := ⟨by omega, by omega, h⟩
def LstK (x : D) (m1 : Mem) (Ξ : List D → (Mem → Prop) → Mem → Prop) : Prop := match x with
  | .lst ds => Ξ ds (fun _ => True) m1
  | .ref a => ∃ ds, m1 a = some (.lst ds) ∧ Ξ ds (fun m => m a = some (.lst ds)) m1
  | _ => False
theorem k_iL {Ξ : List D → (Mem → Prop) → Mem → Prop} (h : qe s m fun x m1 => LstK x m1 Ξ) : iLst qe s m Ξ := h
theorem k_iLl {Ξ : List D → (Mem → Prop) → Mem → Prop} {ds : List D} (h : Ξ ds (fun _ => True) m) : LstK (.lst ds) m Ξ := h
theorem k_iLr {Ξ : List D → (Mem → Prop) → Mem → Prop} {a : Addr} {ds : List D} (hm : m a = some (.lst ds)) (h : Ξ ds (fun m => m a = some (.lst ds)) m) : LstK (.ref a) m Ξ := ⟨ds, hm, h⟩
def TupK (x : D) (m1 : Mem) (Ξ : List D → (Mem → Prop) → Mem → Prop) : Prop := match x with
  | .tup ds => Ξ ds (fun _ => True) m1
  | _ => False
def SeqK (x : D) (m1 : Mem) (Ξ : List D → (Mem → Prop) → Mem → Prop) : Prop := LstK x m1 Ξ ∨ TupK x m1 Ξ
/-- zip(x, y) over two sources -/
def ZipK (ds : List D) (m1 : Mem) (Ξ : List D → (Mem → Prop) → Mem → Prop) : Prop := iZipD (fun _ m k => k ds m) [] m1 Ξ
theorem k_zip {Ξ : List D → (Mem → Prop) → Mem → Prop} (h : qa s m fun ds m1 => ZipK ds m1 Ξ) : iZipD qa s m Ξ := h
theorem k_zipi {Ξ : List D → (Mem → Prop) → Mem → Prop} {x y : D} {xs ys : List D} (lx : LItems x m xs) (ly : LItems y m ys) (k : ∀ C : Mem → Prop, (∀ m', LItems x m' xs → LItems y m' ys → C m') → Ξ (zipD xs ys) C m) : ZipK [x, y] m Ξ := by
  rcases lx with rfl | ⟨a, rfl, e⟩
  · rcases ly with rfl | ⟨b, rfl, f⟩
    · exact k _ fun _ _ _ => trivial
    · refine ⟨ys, f, k _ fun m' _ h => ?_⟩
      rcases h with h | ⟨b', h, e'⟩
      · cases h
      · cases h; exact e'
  · rcases ly with rfl | ⟨b, rfl, f⟩
    · refine ⟨xs, e, k _ fun m' h _ => ?_⟩
      rcases h with h | ⟨b', h, e'⟩
      · cases h
      · cases h; exact e'
    · refine ⟨xs, ys, e, f, k _ fun m' h h2 => ?_⟩
      rcases h with h | ⟨b', h, e'⟩
      · cases h
      · cases h
        rcases h2 with h2 | ⟨b2, h2, e2⟩
        · cases h2
        · cases h2; exact ⟨e', e2⟩
theorem LItems.ty {x : D} {m : Mem} {xs : List D} (h : LItems x m xs) : tyN x m "list" := by
  rcases h with rfl | ⟨a, rfl, e⟩
  · rfl
  · exact .inl ⟨rfl, xs, e⟩
theorem k_isi {T : String} (h : qe s m fun x m1 => ∃ t b, tyN x m1 t ∧ kitB t T = some b ∧ Φ (.bl b) m1) : qIsi T qe s m Φ := h
-- methods of lists
theorem k_bm {T : String} {rr : D → LSp} (h : qe s m fun x m1 => tyD T x m1 ∧ qa s m1 fun ds m2 => rr x ds m2 Φ) : qBM T rr qe qa s m Φ := h
theorem k_app {a : Addr} {xs : List D} (hm : m a = some (.lst xs)) (hl : xs.length < sizeLine) (h : Φ .non (mset m a (.lst (xs ++ [d])))) : mtL gAppend (.ref a) [d] m Φ := ⟨xs, hm, hl, h⟩
theorem k_rev {a : Addr} {xs : List D} (hm : m a = some (.lst xs)) (h : Φ .non (mset m a (.lst xs.reverse))) : mtL gReverse (.ref a) [] m Φ := ⟨xs, hm, h⟩
theorem k_tyL {a : Addr} {xs : List D} (hm : m a = some (.lst xs)) : tyD "list" (.ref a) m := .inl ⟨rfl, xs, hm⟩
theorem k_list {w : D} {xs : List D} (h : ItemsAt w m xs) (k : ∀ p, m p = none → Φ (.ref p) (mset m p (.lst xs))) : bList [w] m Φ := by
  rcases h with rfl | rfl | ⟨a, rfl, e⟩
  · exact k
  · exact k
  · exact ⟨xs, e, k⟩
theorem k_all {w : D} {bs : List Bool} (h : LItems w m (bs.map D.bl)) (k : Φ (.bl (bs.all _root_.id)) m) : bAll [w] m Φ := by
  rcases h with rfl | ⟨a, rfl, e⟩
  · exact ⟨bs, rfl, k⟩
  · exact ⟨_, e, bs, rfl, k⟩
theorem k_len {w : D} {xs : List D} (h : ItemsAt w m xs) (k : Φ (.int xs.length) m) : bLen [w] m Φ := blen_items h k
end
theorem sz {n : Nat} (h : n ≤ 1000000) : n ≤ sizeLine := by show n ≤ 16777216; omega
theorem sz' {n : Nat} (h : n < 1000000) : n < sizeLine := by show n < 16777216; omega
/-! ### comprehensions that change nothing -/
section
variable {α : Type} {p : Pat} {qt : QT} {qe : QE} {s1 : DSt} {C : Mem → Prop} {m1 : Mem} {Φ : DK}
theorem k_lcT (l : List α) (dOf : α → D) (t : α → Bool) (g : α → D) (hl : l.length < 1000000) (hC : ∀ a o, m1 a = none → C (mset m1 a o))
    (hs : ∀ (i : Nat) (x : α), l[i]? = some x → ∀ (a : Addr) (o : AO), m1 a = none → AsgK p (dOf x) s1 fun s2 =>
      (∀ Q : Bool → Mem → Prop, Q (t x) (mset m1 a o) → qt s2 (mset m1 a o) Q) ∧ (t x = true → ∀ Q : DK, Q (g x) (mset m1 a o) → qe s2 (mset m1 a o) Q))
    (hd : ∀ a, m1 a = none → Φ (.ref a) (mset m1 a (.lst ((l.filter t).map g)))) : LcIn p qt qe s1 (l.map dOf) C m1 Φ := lc_pure l dOf t g (sz' hl) hC hs hd
theorem k_lcTF (l : List α) (dOf : α → D) (t : α → Bool) (g : α → D) (hl : l.length < 1000000) (hC : ∀ a o, m1 a = none → C (mset m1 a o))
    (hs : ∀ (i : Nat) (x : α), l[i]? = some x → ∀ (a : Addr) (o : AO), m1 a = none → AsgK p (dOf x) s1 fun s2 =>
      (∀ Q : Bool → Mem → Prop, Q (t x) (mset m1 a o) → qt s2 (mset m1 a o) Q) ∧ (t x = true → ∀ Q : DK, Q (g x) (mset m1 a o) → qe s2 (mset m1 a o) Q))
    (hd : Φ (.lst ((l.filter t).map g)) m1) : LcIn p qt qe s1 (l.map dOf) C m1 (fun d m2 => FzK d m2 Φ) := k_lcT l dOf t g hl hC hs fun a ha => k_fzn ha hd
/-- no test -/
theorem k_lcM (l : List α) (dOf : α → D) (g : α → D) (hl : l.length < 1000000) (hC : ∀ a o, m1 a = none → C (mset m1 a o))
    (hs : ∀ (i : Nat) (x : α), l[i]? = some x → ∀ (a : Addr) (o : AO), m1 a = none → AsgK p (dOf x) s1 fun s2 => ∀ Q : DK, Q (g x) (mset m1 a o) → qe s2 (mset m1 a o) Q)
    (hd : ∀ a, m1 a = none → Φ (.ref a) (mset m1 a (.lst (l.map g)))) : LcIn p qYes qe s1 (l.map dOf) C m1 Φ := k_lcT l dOf (fun _ => true) g hl hC (fun i x hx a o ha => by
      have h := hs i x hx a o ha
      unfold AsgK at h ⊢
      cases e : asg p (dOf x) s1 with
      | none => rw [e] at h; exact h
      | some s2 => rw [e] at h; exact ⟨fun Q q => q, fun _ => h⟩) fun a ha => by rw [filter_yes]; exact hd a ha
theorem k_lcF (l : List α) (dOf : α → D) (g : α → D) (hl : l.length < 1000000) (hC : ∀ a o, m1 a = none → C (mset m1 a o))
    (hs : ∀ (i : Nat) (x : α), l[i]? = some x → ∀ (a : Addr) (o : AO), m1 a = none → AsgK p (dOf x) s1 fun s2 => ∀ Q : DK, Q (g x) (mset m1 a o) → qe s2 (mset m1 a o) Q)
    (hd : Φ (.lst (l.map g)) m1) : LcIn p qYes qe s1 (l.map dOf) C m1 (fun d m2 => FzK d m2 Φ) := k_lcM l dOf g hl hC hs fun a ha => k_fzn ha hd
end
theorem intsD_map (n : Nat) : intsD 0 n = (List.range n).map fun (i : Nat) => D.int i := by
  unfold intsD
  apply List.map_congr_left
  intro i _
  rw [Int.zero_add]
end L3
/-! L4b: == and in over clean data (no bools, no things that change) -/
namespace L3
open PySem PySem.Spec PyProof.Rows L2
/-- data without bools: == tells just the same -/
def Cl : Nat → D → Prop
  | _, .non => True
  | _, .int _ => True
  | _, .str z => PyData.strOk z = true
  | n + 1, .tup ds => ∀ d ∈ ds, Cl n d
  | n + 1, .lst ds => ∀ d ∈ ds, Cl n d
  | _, _ => False
theorem strs_eq {x y : Str} : (x == y) = decide (x = y) := by
  cases h : x == y with
  | true => rw [eq_of_beq h]; simp
  | false => rw [decide_eq_false]; intro e; subst e; simp at h
structure PyAt (n : Nat) (d : D) (p : PyData) : Prop where
  py : toPy d = some p
  lay : p.canLay0 = true
  dep : p.depth ≤ n
theorem toPys_mem {n : Nat} : ∀ {ds : List D}, (∀ d ∈ ds, ∃ p, PyAt n d p) → ∃ ps, toPys ds = some ps ∧ PyData.canLayAll0 ps = true ∧ PyData.depthAll ps ≤ n
  | [], _ => ⟨[], rfl, rfl, Nat.zero_le _⟩
  | d :: ds, h => by
    obtain ⟨p, hp⟩ := h d List.mem_cons_self
    obtain ⟨ps, h1, h2, h3⟩ := toPys_mem fun x hx => h x (List.mem_cons_of_mem _ hx)
    refine ⟨p :: ps, ?_, ?_, ?_⟩
    · rw [toPys, hp.py, h1]
    · rw [PyData.canLayAll0, hp.lay, h2]; rfl
    · rw [PyData.depthAll]; have := hp.dep; omega
theorem cl_py : ∀ (n : Nat) (d : D), Cl n d → ∃ p, PyAt n d p
  | n, .non, _ => ⟨.none, rfl, rfl, Nat.zero_le _⟩
  | n, .int i, _ => ⟨.int i, rfl, rfl, Nat.zero_le _⟩
  | n, .str z, h => ⟨.str z, rfl, by cases n <;> exact h, Nat.zero_le _⟩
  | n + 1, .tup ds, h => by
    obtain ⟨ps, h1, h2, h3⟩ := toPys_mem fun d hd => cl_py n d (h d hd)
    exact ⟨.tuple ps, by rw [toPy, h1]; rfl, h2, by rw [PyData.depth]; omega⟩
  | n + 1, .lst ds, h => by
    obtain ⟨ps, h1, h2, h3⟩ := toPys_mem fun d hd => cl_py n d (h d hd)
    exact ⟨.list ps, by rw [toPy, h1]; rfl, h2, by rw [PyData.depth]; omega⟩
  | 0, .tup _, h => h.elim
  | 0, .lst _, h => h.elim
  | n, .bl _, h => by cases n <;> exact h.elim
  | n, .ref _, h => by cases n <;> exact h.elim
theorem toPys_cons {d : D} {ds : List D} {ps : List PyData} (h : toPys (d :: ds) = some ps) : ∃ p qs, toPy d = some p ∧ toPys ds = some qs ∧ ps = p :: qs := by
  rw [toPys] at h
  cases e1 : toPy d with
  | none => rw [e1] at h; cases h
  | some p =>
    cases e2 : toPys ds with
    | none => rw [e1, e2] at h; cases h
    | some qs => rw [e1, e2] at h; cases h; exact ⟨p, qs, rfl, rfl, rfl⟩
theorem eqvAll_of {n : Nat} (ih : ∀ (x y : D) (p q : PyData), Cl n x → Cl n y → toPy x = some p → toPy y = some q → (PyData.eqv p q = true ↔ x = y)) : ∀ (xs ys : List D) (ps qs : List PyData), (∀ d ∈ xs, Cl n d) → (∀ d ∈ ys, Cl n d) → toPys xs = some ps → toPys ys = some qs → (PyData.eqvAll ps qs = true ↔ xs = ys)
  | [], [], ps, qs, _, _, h1, h2 => by cases h1; cases h2; simp [PyData.eqvAll]
  | [], y :: ys, ps, qs, _, _, h1, h2 => by
    obtain ⟨q, qs', _, _, rfl⟩ := toPys_cons h2
    cases h1; simp [PyData.eqvAll]
  | x :: xs, [], ps, qs, _, _, h1, h2 => by
    obtain ⟨q, qs', _, _, rfl⟩ := toPys_cons h1
    cases h2; simp [PyData.eqvAll]
  | x :: xs, y :: ys, ps, qs, c1, c2, h1, h2 => by
    obtain ⟨p, ps', a1, a2, rfl⟩ := toPys_cons h1
    obtain ⟨q, qs', b1, b2, rfl⟩ := toPys_cons h2
    have i1 := ih x y p q (c1 x List.mem_cons_self) (c2 y List.mem_cons_self) a1 b1
    have i2 := eqvAll_of ih xs ys ps' qs' (fun d hd => c1 d (List.mem_cons_of_mem _ hd)) (fun d hd => c2 d (List.mem_cons_of_mem _ hd)) a2 b2
    rw [PyData.eqvAll, Bool.and_eq_true, i1, i2]
    simp
theorem toPy_tup {ds : List D} {p : PyData} (h : toPy (.tup ds) = some p) : ∃ ps, toPys ds = some ps ∧ p = .tuple ps := by
  rw [toPy] at h
  cases e : toPys ds with
  | none => rw [e] at h; cases h
  | some ps => rw [e] at h; cases h; exact ⟨ps, rfl, rfl⟩
theorem toPy_lst {ds : List D} {p : PyData} (h : toPy (.lst ds) = some p) : ∃ ps, toPys ds = some ps ∧ p = .list ps := by
  rw [toPy] at h
  cases e : toPys ds with
  | none => rw [e] at h; cases h
  | some ps => rw [e] at h; cases h; exact ⟨ps, rfl, rfl⟩
theorem eqv_of : ∀ (n : Nat) (x y : D) (p q : PyData), Cl n x → Cl n y → toPy x = some p → toPy y = some q → (PyData.eqv p q = true ↔ x = y) := by
  have fin : ∀ (n : Nat) (ih : ∀ (xs ys : List D) (ps qs : List PyData), Cl n (.tup xs) → Cl n (.tup ys) → toPys xs = some ps → toPys ys = some qs → (PyData.eqvAll ps qs = true ↔ xs = ys)) (x y : D) (p q : PyData), Cl n x → Cl n y → toPy x = some p → toPy y = some q → (PyData.eqv p q = true ↔ x = y) := by
    intro n ih x y p q c1 c2 h1 h2
    cases x with
    | non =>
      cases h1
      cases y with
      | non => cases h2; simp [PyData.eqv]
      | int j => cases h2; simp [PyData.eqv]
      | str w => cases h2; simp [PyData.eqv]
      | tup ds => obtain ⟨ps, _, rfl⟩ := toPy_tup h2; simp [PyData.eqv]
      | lst ds => obtain ⟨ps, _, rfl⟩ := toPy_lst h2; simp [PyData.eqv]
      | bl b => cases n <;> exact c2.elim
      | ref a => cases n <;> exact c2.elim
    | int i =>
      cases h1
      cases y with
      | non => cases h2; simp [PyData.eqv]
      | int j => cases h2; simp [PyData.eqv]
      | str w => cases h2; simp [PyData.eqv]
      | tup ds => obtain ⟨ps, _, rfl⟩ := toPy_tup h2; simp [PyData.eqv]
      | lst ds => obtain ⟨ps, _, rfl⟩ := toPy_lst h2; simp [PyData.eqv]
      | bl b => cases n <;> exact c2.elim
      | ref a => cases n <;> exact c2.elim
    | str z =>
      cases h1
      cases y with
      | non => cases h2; simp [PyData.eqv]
      | int j => cases h2; simp [PyData.eqv]
      | str w => cases h2; simp only [PyData.eqv]; rw [strs_eq, decide_eq_true_eq]; simp
      | tup ds => obtain ⟨ps, _, rfl⟩ := toPy_tup h2; simp [PyData.eqv]
      | lst ds => obtain ⟨ps, _, rfl⟩ := toPy_lst h2; simp [PyData.eqv]
      | bl b => cases n <;> exact c2.elim
      | ref a => cases n <;> exact c2.elim
    | tup xs =>
      obtain ⟨ps, h1', rfl⟩ := toPy_tup h1
      cases y with
      | non => cases h2; simp [PyData.eqv]
      | int j => cases h2; simp [PyData.eqv]
      | str w => cases h2; simp [PyData.eqv]
      | tup ys =>
        obtain ⟨qs, h2', rfl⟩ := toPy_tup h2
        simp only [PyData.eqv]
        rw [ih xs ys ps qs c1 c2 h1' h2']; simp
      | lst ds => obtain ⟨ps, _, rfl⟩ := toPy_lst h2; simp [PyData.eqv]
      | bl b => cases n <;> exact c2.elim
      | ref a => cases n <;> exact c2.elim
    | lst xs =>
      obtain ⟨ps, h1', rfl⟩ := toPy_lst h1
      cases y with
      | non => cases h2; simp [PyData.eqv]
      | int j => cases h2; simp [PyData.eqv]
      | str w => cases h2; simp [PyData.eqv]
      | lst ys =>
        obtain ⟨qs, h2', rfl⟩ := toPy_lst h2
        simp only [PyData.eqv]
        rw [ih xs ys ps qs (by cases n with | zero => exact c1.elim | succ n => exact c1) (by cases n with | zero => exact c2.elim | succ n => exact c2) h1' h2']; simp
      | tup ds => obtain ⟨ps, _, rfl⟩ := toPy_tup h2; simp [PyData.eqv]
      | bl b => cases n <;> exact c2.elim
      | ref a => cases n <;> exact c2.elim
    | bl b => cases n <;> exact c1.elim
    | ref a => cases n <;> exact c1.elim
  intro n
  induction n with
  | zero => exact fin 0 fun xs ys ps qs c1 => c1.elim
  | succ n ih => exact fin (n + 1) fun xs ys ps qs c1 c2 h1 h2 => eqvAll_of ih xs ys ps qs c1 c2 h1 h2
theorem shaped_at {n : Nat} {d : D} {p : PyData} (h : PyAt n d p) (hn : n ≤ 64) : SeqAt.shaped p = true := by
  unfold SeqAt.shaped
  rw [h.lay, decide_eq_true (by have := h.dep; omega)]; rfl
section
variable {m : Mem} {Φ : DK} {x y : D} {n : Nat}
theorem qeq_cl (hn : n ≤ 64) (h1 : Cl n x) (h2 : Cl n y) (k : ∀ b : Bool, (b = true ↔ x = y) → Φ (.bl b) m) : qEq x y m Φ := by
  obtain ⟨p, hp⟩ := cl_py n x h1
  obtain ⟨q, hq⟩ := cl_py n y h2
  exact ⟨p, q, .inl hp.py, .inl hq.py, shaped_at hp hn, shaped_at hq hn, k _ (eqv_of n x y p q h1 h2 hp.py hq.py)⟩
theorem qne_cl (hn : n ≤ 64) (h1 : Cl n x) (h2 : Cl n y) (k : ∀ b : Bool, (b = true ↔ x = y) → Φ (.bl (!b)) m) : qNe x y m Φ := by
  obtain ⟨p, hp⟩ := cl_py n x h1
  obtain ⟨q, hq⟩ := cl_py n y h2
  exact ⟨p, q, .inl hp.py, .inl hq.py, shaped_at hp hn, shaped_at hq hn, k _ (eqv_of n x y p q h1 h2 hp.py hq.py)⟩
theorem k_eqC (n : Nat) (hn : n ≤ 64) (h1 : Cl n x) (h2 : Cl n y) (k : ∀ b : Bool, (b = true ↔ x = y) → Φ (.bl b) m) : vEq x y m Φ := by
  unfold vEq
  split
  · refine k _ ?_; rw [decide_eq_true_eq]; simp
  · cases n <;> exact h1.elim
  · exact qeq_cl hn h1 h2 k
theorem k_neC (n : Nat) (hn : n ≤ 64) (h1 : Cl n x) (h2 : Cl n y) (k : ∀ b : Bool, (b = true ↔ x = y) → Φ (.bl (!b)) m) : vNe x y m Φ := by
  unfold vNe
  split
  · refine k _ ?_; rw [decide_eq_true_eq]; simp
  · cases n <;> exact h1.elim
  · exact qne_cl hn h1 h2 k
theorem cl_int (n : Nat) (i : Int) : Cl n (.int i) := by cases n <;> trivial
theorem any_ints {ks : List Int} {i : Int} : ((ks.map PyData.int).any fun z => PyData.eqv z (.int i)) = decide (i ∈ ks) := by
  induction ks with
  | nil => rfl
  | cons k ks ih =>
    rw [List.map_cons, List.any_cons, ih, eqv_int]
    by_cases h : k = i
    · subst h; simp
    · have h2 : i ≠ k := fun e => h e.symm
      by_cases h3 : i ∈ ks <;> simp [h, h2, h3]
theorem toPys_ints : ∀ ks : List Int, toPys (ks.map D.int) = some (ks.map PyData.int)
  | [] => rfl
  | k :: ks => by rw [List.map_cons, toPys, toPys_ints ks]; rfl
theorem shaped_ints (ks : List Int) : SeqAt.shaped (.list (ks.map PyData.int)) = true := by
  obtain ⟨p, hp⟩ := cl_py 1 (.lst (ks.map D.int)) fun d hd => by
    obtain ⟨k, _, rfl⟩ := List.mem_map.mp hd
    trivial
  have h1 := hp.py
  rw [toPy, toPys_ints] at h1
  cases h1
  exact shaped_at hp (by decide)
/-- an int among ints -/
theorem k_inI {neg : Bool} {ks : List Int} {i : Int} (k : Φ (.bl (if neg then !decide (i ∈ ks) else decide (i ∈ ks))) m) : vIn neg (.int i) (.lst (ks.map D.int)) m Φ :=
  ⟨.int i, ks.map .int, rfl, toPys_ints ks, rfl, shaped_ints ks, by rw [any_ints]; exact k⟩
end
end L3
namespace L4
open L3
end L4
namespace L3
open PySem PySem.Spec PyProof.Rows L2
section
variable {m : Mem} {Φ : DK}
end
end L3
namespace L4
open L3
open Rat (divInt)
end L4
/-! L3s: sorted of any data -/
namespace L3
open PySem PySem.Spec PyProof.Rows L2 PySem.W
def rSortD (K : PySem.W.Frag) : List V → Hp → VK → Prop := fun vs H Q => ∃ (a : Addr) (xs : List V) (ps : List PyData), vs = [.ref a] ∧ SqL K H a xs ∧ DpAll K H xs ps ∧ AllAlike ps ∧ Sortable ps ∧ (∀ p ∈ ps, p.depth ≤ 60) ∧
  ∀ p, H p = none → Q (.ref p) (upd H p (.lst (((xs.zip ps).mergeSort (dataLe false (·.2))).map (·.1))))
def bSortD : LSp := fun ds m Φ => match ds with
  | [d] => itemsL d m fun xs => ∃ ps : List PyData, toPys xs = some ps ∧ AllAlike ps ∧ Sortable ps ∧ (∀ p ∈ ps, p.depth ≤ 60) ∧
    ∀ a, m a = none → Φ (.ref a) (mset m a (.lst (((xs.zip ps).mergeSort (dataLe false (·.2))).map (·.1))))
  | _ => False
end L3
namespace PySem.W
open PySem PySem.Calls
end PySem.W
namespace L3
open PySem PySem.Spec PyProof.Rows L2 PySem.W
def bLcm4 : LSp := fun ds m Φ => match ds with
  | [.int a, .int b, .int c, .int d] => (a.natAbs.log2 < 3000 ∧ b.natAbs.log2 < 3000 ∧ c.natAbs.log2 < 3000 ∧ d.natAbs.log2 < 3000) ∧ Φ (.int ((Nat.lcm (Nat.lcm (Nat.lcm a.natAbs b.natAbs) c.natAbs) d.natAbs : Nat) : Int)) m
  | _ => False
end L3
/-! L3x: exceptions of own classes: raise, try .. except C as e -/
namespace L3
open PySem PySem.Spec PyProof.Rows L2
/-- what is wanted of an exception: its class, its own dict, the slots, the memory -/
abbrev DXs := Value → Option Addr → DSt → Mem → Prop
abbrev DXe := Value → Option Addr → Mem → Prop
abbrev LSpE := List D → Mem → DK → DXe → Prop
def KXW (K : PySem.W.Frag) (G : Hp) (Ψ : DXs) (W : WX) : Prop := ∀ G' cls s' m' od σ' H', Sub G G' → RelM K m' G' H' → RelS K s' G' σ' → Ψ cls od s' m' → W cls od σ' H'
theorem KXW.mono {K : PySem.W.Frag} {G G' : Hp} {Ψ : DXs} {W : WX} (k : KXW K G Ψ W) (e : Sub G G') : KXW K G' Ψ W := fun G2 cls s' m' od σ' H' e2 => k G2 cls s' m' od σ' H' (e.trans e2)
def KXE (K : PySem.W.Frag) (G : Hp) (Ψ : DXe) (E : XK) : Prop := ∀ G' cls m' od H', Sub G G' → RelM K m' G' H' → Ψ cls od m' → E cls od H'
def liftSpE (K : PySem.W.Frag) (sp : LSpE) : Sp := fun vs H Q E => ∃ G m ds Φ Ψ, RelM K m G H ∧ RVs K G ds vs ∧ sp ds m Φ Ψ ∧ KQ K G Φ Q ∧ KXE K G Ψ E
def liftSX (K : PySem.W.Frag) (W : WX) (q : DXs → QS) : TS := fun D σ H => ∃ (G : Hp) (s : DSt) (m : Mem) (E : DE) (Ψ : DXs), RelM K m G H ∧ RelS K s G σ ∧ q Ψ E s m ∧ KS K G E.nx D.nx ∧ KQ K G E.rt D.rt ∧ KS K G E.bk D.bk ∧ KS K G E.ct D.ct ∧ KXW K G Ψ W
section
variable {X : Cx} {W : WX} {st : Stmt} {rest : List Stmt}
/-- a statement that lets nothing out -/
theorem xs_of {t : QS} (h : PS X st (liftS X.K t)) : PS X st (liftSX X.K W fun _ => t) := ps_imp h fun D σ H ⟨G, s, m, E, Ψ, rm, rs, q, kn, kr, kb, kc, kx⟩ => ⟨G, s, m, E, rm, rs, q, kn, kr, kb, kc⟩
theorem xss_of {t : QS} {b : List Stmt} (h : PSs X b (liftS X.K t)) : PSs X b (liftSX X.K W fun _ => t) := pss_imp h fun D σ H ⟨G, s, m, E, Ψ, rm, rs, q, kn, kr, kb, kc, kx⟩ => ⟨G, s, m, E, rm, rs, q, kn, kr, kb, kc⟩
theorem xss_one {t : DXs → QS} (h : PS X st (liftSX X.K W t)) : PSs X [st] (liftSX X.K W t) := pss_one h
theorem xss_cons {t u : DXs → QS} (h1 : PS X st (liftSX X.K W t)) (h2 : PSs X rest (liftSX X.K W u)) : PSs X (st :: rest) (liftSX X.K W fun Ψ => sSeq (t Ψ) (u Ψ)) :=
  pss_imp (pss_cons h1 h2) fun D σ H ⟨G, s, m, E, Ψ, rm, rs, q, kn, kr, kb, kc, kx⟩ => ⟨G, s, m, { E with nx := u Ψ E }, Ψ, rm, rs, q,
    fun G1 s1 m1 σ1 H1 e1 r1 r2 q1 => ⟨G1, s1, m1, E, Ψ, r1, r2, q1, kn.mono e1, kr.mono e1, kb.mono e1, kc.mono e1, kx.mono e1⟩, kr, kb, kc, kx⟩
theorem xs_if {c : Expr} {a b : List Stmt} {qc : QT} {t u : DXs → QS} {pos : Pos} (hc : PT X c (liftT X.K qc)) (ha : PSs X a (liftSX X.K W t)) (hb : PSs X b (liftSX X.K W u)) : PS X (.If c a b pos) (liftSX X.K W fun Ψ => sIf qc (t Ψ) (u Ψ)) :=
  ps_imp (ps_if hc ha hb) fun D σ H ⟨G, s, m, E, Ψ, rm, rs, q, kn, kr, kb, kc, kx⟩ => ⟨G, s, m, _, rm, rs, q, fun G1 b m1 H1 e1 r1 q1 => by
    have q1 := qif_e q1
    cases b with
    | true =>
      rw [if_pos rfl] at q1
      show if true = true then _ else _
      rw [if_pos rfl]
      exact ⟨G1, s, m1, E, Ψ, r1, rs.mono e1, q1, kn.mono e1, kr.mono e1, kb.mono e1, kc.mono e1, kx.mono e1⟩
    | false =>
      rw [if_neg Bool.false_ne_true] at q1
      show if false = true then _ else _
      rw [if_neg Bool.false_ne_true]
      exact ⟨G1, s, m1, E, Ψ, r1, rs.mono e1, q1, kn.mono e1, kr.mono e1, kb.mono e1, kc.mono e1, kx.mono e1⟩⟩
end
/-! ### raise C(e), C's __init__ storing its one argument -/
def spE1 (C : Addr) (f : Str) : Sp := fun vs H Q _ => ∃ (a : Addr) (y : V), vs = [.ref a, y] ∧ H a = some (exo a C none) ∧ ∀ dx, H dx = none → dx ≠ a → Q .non (upd (upd H dx (exd dx [(f, y)])) a (exo a C (some dx)))
theorem takes0N {X : Cx} : L2N.Takes X (fun _ _ _ _ => False) := fun _ _ ⟨_, _, _, _, _, _, _, _, _, _, _, _, _, _, _, _, w⟩ => w.elim
/-- the class as the top has made it, its __init__ as a def -/
structure Ex1 (P : Program) (w : World) (K : PySem.W.Frag) (mg : Str → Option Value) (base : Heap) (x : Str) (C : Addr) (f : Str) : Prop where
  gx : mg x = some (.ref C)
  oex : OexC K C
  ini : ∃ (fI : Addr) (fd : FuncData) (p : Str), PySem.W.findIn K (.ref C) "__init__" = some (some (.ref fI)) ∧ PySem.W.typeIn K (.ref fI) = some (.type "function") ∧ FnOk P w K mg base CX0 1 fI fd ["self", p] (spE1 C f) ∧ Binds K fd ["self", p] []
def sRaise1 (C : Addr) (f : Str) (qe : QE) : DXs → QS := fun Ψ E s m => qe s m fun d m1 => ∀ x, m1 x = none → Ψ (.ref C) (some x) s (mset m1 x (.xd [(f, d)]))
/-! ### calls that may raise, as statements -/
/-- a def that may raise -/
def FnDX (P : Program) (w : World) (K : PySem.W.Frag) (mg : Str → Option Value) (base : Heap) (k : Nat) (f : Addr) (sp : LSpE) : Prop := FnR P w K mg base (L2N.CX P w) k f (liftSpE K sp)
section
variable {X : Cx} {W : WX} {k : Nat} {f C : Addr} {m x : Str} {pos apos p : Pos} {e o : Expr} {es : List Expr}
/-- o.m(..) as a statement -/
def sExprM (C : Addr) (m : Str) (sp : LSpE) (qo : QE) (qa : QA) : DXs → QS := fun Ψ E s mm => qo s mm fun x m1 => match x with
  | .ref a => ∃ fs, m1 a = some (.ins C fs) ∧ fs.lookup m = none ∧ qa s m1 fun ds m2 => sp (x :: ds) m2 (fun _ m3 => E.nx s m3) (fun cls od m3 => Ψ cls od s m3)
  | _ => False
end
/-! ### a def that may raise -/
section
variable {P : Program} {w : World} {K : PySem.W.Frag} {mg : Str → Option Value} {base : Heap}
theorem defX_of {x qual : Str} {st : Stmt} {f : Addr} {fd : FuncData} {N ps : List Str} {k : Nat} {sp : LSpE} {qb : DXs → QS} (F : Fun K x qual st f fd) (hb : Binds K fd ps []) (S : FnScope N ps (defScope st)) (len : ∀ ds m Φ Ψ, sp ds m Φ Ψ → ds.length = ps.length)
    (hd : ∀ (cdv : Value) (A : Around) (outer : List Env) (s : Shared) (H : Hp) (E : XK), Room k (A.deeper (envOfC qual (defScope st) s.heap.objs.size f cdv)) → PSs (cxOf (L2N.CX P w) P w K mg base N qual (defScope st) f cdv A outer s H E) (defBody st) (liftSX K (fun cls d _ H => E cls d H) qb))
    (h : ∀ ds m Φ Ψ, sp ds m Φ Ψ → qb (fun cls od _ m => ∃ m', MLe m m' ∧ Ψ cls od m') (bodyW Φ) (begin_ N.length ds) m) : FnDX P w K mg base (k + 1) f sp := by
  have F1 : FnOk P w K mg base (L2N.CX P w) (k + 1) f fd ps (liftSpE K sp) := by
    obtain ⟨oc, od, kV, doc, pm, an, cdv, ct, osl, rfl, lk, hcd⟩ := F.ex
    refine fn_of lk hcd S (fun vs H Q E hs => ?_) (fun A outer s H vs Q E hr hs => ⟨liftSX K (fun cls d _ H => E cls d H) qb, hd cdv A outer s H E hr, ?_⟩)
    · obtain ⟨G, m, ds, Φ, Ψ, rm, rd, q, k⟩ := hs
      rw [← rd.length]; exact len ds m Φ Ψ q
    · obtain ⟨G, m, ds, Φ, Ψ, rm, rd, q, k, kx⟩ := hs
      refine ⟨G, begin_ N.length ds, m, bodyW Φ, _, rm, relS_start rd, h ds m Φ Ψ q, ?_, ?_, fun _ _ _ _ _ _ _ _ z => z.elim, fun _ _ _ _ _ _ _ _ z => z.elim, ?_⟩
      · exact fun G' s' m' σ' H' e1 r1 _ ⟨m2, le, q1⟩ => k G' .non m2 .non H' e1 (r1.le le) rfl q1
      · exact fun G' d m' v H' e1 r1 rv ⟨m2, le, q1⟩ => k G' d m2 v H' e1 (r1.le le) rv q1
      · exact fun G' cls s' m' od σ' H' e1 r1 _ ⟨m2, le, q1⟩ => kx G' cls m2 od H' e1 (r1.le le) q1
  intro A outer s H us vs Q E hr e0 r hs
  have hl : vs.length = ps.length := F1.len vs H Q E hs
  exact F1.run A outer s H ⟨us, []⟩ us vs Q E hr e0 (by
    have := hb s us (e0.mod.kin.keeps fun b o z => (e0.bs b o z).1) (by rw [List.append_nil, ← r.length]; exact hl)
    rwa [List.append_nil] at this) r hs
end
/-! ### try .. except C as e -/
section
variable {X : Cx}
/-- qb: the body; qs: the suite, by the exception's place, class and own dict. The name's slot is i -/
def sTry (C : Addr) (i : Nat) (qb : DXs → QS) (qs : Addr → Value → Option Addr → QS) : QS := fun E s m => qb (fun cls od s' m' => cls = .ref C ∧
  ∀ a, m' a = none → qs a cls od { nx := fun s2 m2 => E.nx (s2.set i none) m2, rt := E.rt, bk := fun s2 m2 => E.bk (s2.set i none) m2, ct := fun s2 m2 => E.ct (s2.set i none) m2 } (s'.set i (some (.ref a))) m') E s m
/-- e.f of the exception in hand -/
def qXf (a : Addr) (cls : Value) (od : Option Addr) (C : Addr) (f : Str) (qe : QE) : QE := fun s m Φ => qe s m fun x m1 => x = .ref a ∧ cls = .ref C ∧ ∃ dd fs d, od = some dd ∧ m1 dd = some (.xd fs) ∧ fs.lookup f = some d ∧ Φ d m1
theorem de_xf {a C : Addr} {oe : Obj} {cls : Value} {d : Option Addr} {pn : List (Addr × Obj)} {e : Expr} {qe : QE} {pos : Pos} {n : Str} (T : XfC X.K C) (hno : PySem.W.findIn X.K (.ref C) n = some none) (hz : Zc cls d oe) (hf : ∃ vs, oe.data = .fields vs) (he : PE (X.suite a ((a, oe) :: pn)) e (liftE X.K qe))
    (hb : attributeBase e n X.env (eval e X.env) = eval e X.env := by rfl) : PE (X.suite a ((a, oe) :: pn)) (.Attribute e n pos) (liftE X.K (qXf a cls d C n qe)) :=
  pe_imp (pe_xf T hno hz hf he hb) fun σ H Q ⟨G, s, m, Φ, rm, rs, q, k⟩ => ⟨G, s, m, _, rm, rs, q, fun G1 x m1 v H1 e1 r1 rx ⟨ex, ec, dd, fs, y, ed, hm, hl, q1⟩ => by
    subst ex
    obtain rfl : v = .ref a := rx
    obtain ⟨_, u, hu, xs, rfl, rk⟩ := r1.mem dd _ hm
    have rl := rk.lookup n
    rw [hl] at rl
    obtain ⟨v', hv, rv⟩ := rl.some
    exact ⟨rfl, ec, dd, xs, v', ed, hu, hv, k G1 y m1 v' H1 e1 r1 rv q1⟩⟩
end
end L3
/-! L3y: isinstance of an exception in hand that has fields -/
namespace L3
open PySem PySem.Spec PyProof.Rows L2
def rIsE2 (K : PySem.W.Frag) (D a : Addr) (d : Option Addr) : List V → Hp → VK → Prop := fun xs H Q => ∃ (c : V) (cv : Value) (b : Bool) (dd : Addr) (ys : List (Str × V)), xs = [.ref a, c] ∧ (∀ u, RelV c u → u = cv) ∧ d = some dd ∧ H dd = some (.xd ys) ∧ PySem.W.kitOne K (.ref D) cv = some b ∧ Q (.bl b) H
theorem call_isE2 {X : Cx} {a D : Addr} {oe : Obj} {d : Option Addr} {pn : List (Addr × Obj)} (C : ExcC X.K D) (hz : Zc (.ref D) d oe) (hf : ∃ vs, oe.data = .fields vs) : CallR (X.suite a ((a, oe) :: pn)) (.builtin "isinstance") (rIsE2 X.K D a d) := by
  intro pins s σ H xs us Q I r h
  obtain ⟨c, cv, b, dd, ys, rfl, hcv, ed, hd, e, q⟩ := h
  subst ed
  cases r with
  | cons rx rr =>
    cases rr with
    | cons rt rr =>
      cases rr
      cases rx
      have ec := hcv _ rt
      subst ec
      obtain ⟨hget, _⟩ := I.pin (a, oe) (List.mem_append.mpr (.inl List.mem_cons_self))
      obtain ⟨vs, hv⟩ := hf
      have hx : ObjOk X.prog X.w H s.heap dd (.xd ys) := I.hok dd _ hd
      obtain ⟨mA, hns, _⟩ := hx
      obtain ⟨od, ho, _⟩ := lookIn_ns hns
      have J : PySem.W.InstAt s.heap a oe D (some od) := ⟨hget, hz.1, by unfold PySem.W.notCls; rw [hv] <;> rfl, by rw [hz.2]; exact ho⟩
      have hcl : (PySem.W.clsIn X.K D).isSome = true := by
        obtain ⟨cd, hc, _⟩ := PySem.W.any_some C.hd
        rw [hc]; rfl
      exact PySem.W.kia_one (PySem.W.kitx_exc hcl C.hg C.hk C.hs C.ha C.hn C.ht C.hm) I.kIn J e (fun z => nomatch z) fun tk => ⟨.bl b, H, I.kept (t' := tk) fun _ _ z => z, rfl, q⟩
def qIsE (a : Addr) (cls : Value) (od : Option Addr) (D : Addr) (b : Bool) (qe : QE) : QE := fun s m Φ => cls = .ref D ∧ qe s m fun x m1 => x = .ref a ∧ ∃ dd fs, od = some dd ∧ m1 dd = some (.xd fs) ∧ Φ (.bl b) m1
/-- isinstance(e, C), e the exception in hand, its class D -/
theorem de_isE {X : Cx} {a C D : Addr} {oe : Obj} {cls : Value} {d : Option Addr} {pn : List (Addr × Obj)} {x : Str} {e : Expr} {qe : QE} {p p2 pos : Pos} {b : Bool} (T : ExcC X.K D) (hz : Zc cls d oe) (hf : ∃ vs, oe.data = .fields vs) (hg : Gl X "isinstance") (hm : X.mg "isinstance" = none)
    (hx : Gl X x) (hmx : X.mg x = some (.ref C)) (hk : PySem.W.kitOne X.K (.ref D) (.ref C) = some b) (he : PE (X.suite a ((a, oe) :: pn)) e (liftE X.K qe)) (hdb : (x == ("__debug__" : Str)) = false := by decide)
    (hs : starEach (e :: [.Name x p2]) X.env = (false, eval e X.env) :: starEach [.Name x p2] X.env := by rfl) (hs2 : starEach (.Name x p2 :: []) X.env = (false, eval (.Name x p2) X.env) :: starEach [] X.env := by rfl) (hpl : (backTo pos (starEach [.Name x p2] X.env)).any (·.1) = false := by rfl) :
    PE (X.suite a ((a, oe) :: pn)) (.Call (.Name "isinstance" p) [e, .Name x p2] [] pos) (liftE X.K (qIsE a cls d D b qe)) := by
  refine ⟨fun pins s σ H Q I h => ?_⟩
  obtain ⟨G, s0, m, Φ, rm, rs, ⟨ec, q⟩, k⟩ := h
  subst ec
  have hC : PE (X.suite a ((a, oe) :: pn)) (.Name x p2) (tC (.ref C)) := pe_glob (X := X.suite a ((a, oe) :: pn)) (v := .ref C) hx hmx rfl hdb
  refine (pe_callB (X := X.suite a ((a, oe) :: pn)) (call_isE2 T hz hf) hg hm (by decide +kernel) (pa_cons he (pa_cons hC pa_nil hs2) hs) (by decide) (by decide) hs hpl).run pins s σ H Q I ?_
  refine ⟨G, s0, m, _, rm, rs, q, fun G1 x1 m1 v H1 e1 r1 rx ⟨ex, dd, fs, ed, hmm, q1⟩ => ?_⟩
  subst ex
  obtain rfl : v = .ref a := rx
  obtain ⟨_, u, hu, xs, rfl, rk⟩ := r1.mem dd _ hmm
  exact ⟨.ref C, .ref C, b, dd, xs, rfl, fun u h => h, ed, hu, hk, k G1 (.bl b) m1 _ H1 e1 r1 rfl q1⟩
end L3
set_option maxHeartbeats 4000000
/-! zip of three: lists and tuples in any mix -/
namespace RZ
open PySem PySem.Spec PyProof.Rows L2
/-- a list (k false) or a tuple (k true) -/
def SqK (k : Bool) (K : PySem.W.Frag) (H : Hp) (a : Addr) (xs : List V) : Prop := if k then SqT K H a xs else SqL K H a xs
def HasK (k : Bool) (h : Heap) (a : Addr) (its : Array Value) : Prop := if k then h.IsTuple a its else h.IsList a its
def ItK (k : Bool) (h : Heap) (it a : Addr) (i : Nat) : Prop := if k then h.IsTupleIter it a i else h.IsListIter it a i
def begO (k : Bool) (a : Addr) : Obj := if k then { cls := .type "tuple_iterator", data := .fields #[.ref a, .int 0 0] } else { cls := .type "list_iterator", data := .fields #[.ref a, .int 0 0] }
def Itz3 (K : PySem.W.Frag) (k1 k2 k3 : Bool) (a b c : Addr) : It :=
  ⟨fun i H => ∃ (xs ys zs : List V) (x y z : V), SqK k1 K H a xs ∧ SqK k2 K H b ys ∧ SqK k3 K H c zs ∧ xs[i]? = some x ∧ ys[i]? = some y ∧ zs[i]? = some z,
    fun i H v H' => ∃ T x y z, v = .ref T ∧ H T = none ∧ H' = upd H T (.tup [x, y, z]) ∧ (∀ xs, SqK k1 K H a xs → xs[i]? = some x) ∧ (∀ ys, SqK k2 K H b ys → ys[i]? = some y) ∧ ∀ zs, SqK k3 K H c zs → zs[i]? = some z,
    fun i H => ∃ xs ys zs : List V, SqK k1 K H a xs ∧ SqK k2 K H b ys ∧ SqK k3 K H c zs ∧ i ≤ xs.length ∧ i ≤ ys.length ∧ i ≤ zs.length ∧ (i = xs.length ∨ i = ys.length ∨ i = zs.length)⟩
/-- the cells apart -/
structure Z3Ap (n a b c : Nat) : Prop where
  a : a < n
  b : b < n
  c : c < n
def iZip3 (K : PySem.W.Frag) (ta : TA) : TI := fun σ H R => ta σ H fun vs H1 => ∃ k1 k2 k3 a b c xs ys zs, vs = [.ref a, .ref b, .ref c] ∧ SqK k1 K H1 a xs ∧ SqK k2 K H1 b ys ∧ SqK k3 K H1 c zs ∧ R (Itz3 K k1 k2 k3 a b c) H1
end RZ
namespace L3
open PySem L2
/-! ### zip of three -/
def zipD3 : List D → List D → List D → List D
  | x :: xs, y :: ys, z :: zs => .tup [x, y, z] :: zipD3 xs ys zs
  | _, _, _ => []
section
variable {K : PySem.W.Frag} {G0 : Hp} {a b c : Addr} {ds es fs : List D}
/-- what tells the list or tuple at a -/
def KAt (k : Bool) (K : PySem.W.Frag) (C : Mem → Prop) (G0 : Hp) (a : Addr) (ds : List D) : Prop := ∀ G m H, Sub G0 G → RelM K m G H → C m → ∃ xs, RZ.SqK k K H a xs ∧ RVs K G ds xs
end
/-- one of three sources: its items, what must stay -/
inductive SrcD (m : Mem) : D → List D → (Mem → Prop) → Prop
  | lst (xs : List D) : SrcD m (.lst xs) xs (fun _ => True)
  | tup (xs : List D) : SrcD m (.tup xs) xs (fun _ => True)
  | ref {a : Addr} {xs : List D} (h : m a = some (.lst xs)) : SrcD m (.ref a) xs (fun m => m a = some (.lst xs))
/-- zip(x, y, z): lists (each one that may change, or not) and tuples, of one length -/
def iZip3D (qa : QA) : QI := fun s m Φ => qa s m fun ds m1 => ∃ x y z xs ys zs C1 C2 C3, ds = [x, y, z] ∧ SrcD m1 x xs C1 ∧ SrcD m1 y ys C2 ∧ SrcD m1 z zs C3 ∧ xs.length = ys.length ∧ xs.length = zs.length ∧ Φ (zipD3 xs ys zs) (fun m => C1 m ∧ C2 m ∧ C3 m) m1
end L3
set_option maxHeartbeats 4000000
/-! sorted(xs, key=lambda p: p[0]), xs a list of tuples whose first items are ints that rise -/
namespace LamX
open PySem PySem.Spec PyProof.Rows L2
section
variable {X : Cx} {pins : List (Addr × Obj)} {σ : L2.St} {H : Hp} {s : Shared}
end
/-! ### lambda x: x[0], called -/
abbrev arg1 (x : Str) (ap : Pos) : Arguments := { posonlyargs := [], args := [{ arg := x, annotation := none, pos := ap }], vararg := none, kwonlyargs := [], kw_defaults := [], kwarg := none, defaults := [] }
abbrev scope1 (x : Str) : Scope := { kind := .function, names := [(x, .local)], isGenerator := false, isCoroutine := false, more := [] }
abbrev body0 (x : Str) (k : Nat) (p1 p2 p3 : Pos) : Expr := .Subscript (.Name x p1) (.Constant (.int 0) k p2) p3
section
variable {prog : Program} {w : World} {A : Around} {E : Value → Shared → Prop} {s : Shared} {x q : Str} {kc : Nat} {p1 p2 p3 ap : Pos} {f c' T : Addr} {pm ctv : Value} {Q : Value → Shared → Prop}
end
/-! ### the sort -/
section
open Heap
def allBut (h : Heap) (L : Addr) : List (Addr × Obj) := (List.range h.objs.size).filterMap fun b => if b = L then none else (h.get? b).map fun o => (b, o)
end
/-- the table has grown by a code object, or stands -/
def Grew (P : Addr) (q : Str) (H H2 : Hp) : Prop :=
  H2 = H ∨ ∃ (ps : Array Value) (pos : Pos) (c' : Addr), H P = some (.tbl ps) ∧ TriplesOk ps.toList ∧ H c' = none ∧ H2 = upd (upd H P (.tbl (ps ++ #[rawInt pos.line, rawInt pos.col, .ref c']))) c' (CodeO c' q)
section
variable {X : Cx}
/-- sorted(xs, key=lambda x: x[0]) -/
def tSort0 (K : PySem.W.Frag) (P : Addr) (q : Str) (ta : TA) : TE := fun σ H Q => ta σ H fun vs H1 => TabS H1 P q ∧ ∃ (l : Addr) (xs : List V) (ks : List Int), vs = [.ref l] ∧ SqL K H1 l xs ∧ xs.length < 64 ∧ ks.length = xs.length ∧
  (∀ (i : Nat) (v : V) (k : Int), xs[i]? = some v → ks[i]? = some k → ∃ b r, v = .ref b ∧ SqT K H1 b (.int k :: r)) ∧ ks.Pairwise (· < ·) ∧ ∀ H2 p, Grew P q H1 H2 → H2 p = none → Q (.ref p) (upd H2 p (.lst xs))
end
end LamX
namespace L3
open PySem L2
theorem RelM.grew {K : PySem.W.Frag} {m : Mem} {G H H2 : Hp} {P : Addr} {q : Str} (r : RelM K m G H) (hm : m P = some (.tab q)) (g : LamX.Grew P q H H2) : ∃ G2, Sub G G2 ∧ RelM K m G2 H2 := by
  rcases g with rfl | ⟨ps, pos, c', hP, ht, hc, rfl⟩
  · exact ⟨G, Sub.refl G, r⟩
  · obtain ⟨gP, u, hu, ps0, rfl, h2, h3⟩ := r.mem P _ hm
    rw [hP] at hu
    cases hu
    have gP : G P = none := gP
    have gc : G c' = none := by
      cases z : G c' with
      | none => rfl
      | some u => rw [r.sub c' u z] at hc; cases hc
    have s1 : Sub G (upd G c' (LamX.CodeO c' q)) := Sub.new gc
    have nPc : P ≠ c' := ne_of_none hP hc
    refine ⟨_, s1, ⟨fun b w e => ?_, fun a o e => ?_⟩⟩
    · by_cases hb : b = c'
      · subst hb; rw [upd_same] at e ⊢; exact e
      · rw [upd_ne hb] at e
        rw [upd_ne hb, upd_ne (fun z => by rw [z, gP] at e; cases e)]
        exact r.sub b w e
    · obtain ⟨h1, w, hw, ho⟩ := r.mem a o e
      have nac : a ≠ c' := ne_of_none hw hc
      by_cases ha : a = P
      · subst ha
        rw [hm] at e
        cases e
        refine ⟨?_, .tbl (ps ++ #[rawInt pos.line, rawInt pos.col, .ref c']), by rw [upd_ne nac, upd_same], _, rfl, ?_, fun pos' cv hcv => ?_⟩
        · show upd G c' _ a = none
          rw [upd_ne nac]; exact gP
        · rw [show (ps ++ #[rawInt pos.line, rawInt pos.col, .ref c']).toList = ps.toList ++ [rawInt pos.line, rawInt pos.col, .ref c'] by simp]
          exact PySem.TriplesOk_snoc _ _ _ _ h2
        · rw [show (ps ++ #[rawInt pos.line, rawInt pos.col, .ref c']).toList = ps.toList ++ [rawInt pos.line, rawInt pos.col, .ref c'] by simp] at hcv
          rcases LamX.among_app _ h2 hcv with z | z
          · obtain ⟨c0, e1, e2⟩ := h3 pos' cv z
            exact ⟨c0, e1, s1 c0 _ e2⟩
          · exact ⟨c', z, upd_same⟩
      · exact ⟨by rw [upd_ne nac, upd_ne nac, upd_ne ha]; exact h1, w, by rw [upd_ne nac, upd_ne ha]; exact hw, ho.mono s1⟩
/-- sorted(xs, key=lambda x: x[0]): the first items are ints that rise -/
def qSort0 (P : Addr) (q : Str) (qa : QA) : QE := fun s m Φ => qa s m fun ds m1 => m1 P = some (.tab q) ∧ ∃ (xs : List D) (ks : List Int), ds = [.lst xs] ∧ xs.length < 64 ∧ ks.length = xs.length ∧ (∀ (i : Nat) (d : D) (k : Int), xs[i]? = some d → ks[i]? = some k → ∃ r, d = .tup (.int k :: r)) ∧ ks.Pairwise (· < ·) ∧ Φ (.lst xs) m1
end L3
/-! a law one of whose defs makes lambdas: the table of its code objects at P -/
namespace L3
open PySem PySem.Spec PyProof.Rows L2
def spLawT (K : PySem.W.Frag) (P : Addr) : Sp := fun vs H Q _ => ∃ (a : Addr) (ns : List Int), vs = [.ref a] ∧ H P = some (.tbl #[]) ∧ SqL K H a (ns.map V.int) ∧ ns.length ≤ 63 ∧ ∀ H', Q (.bl true) H'
def lspLawT (P : Addr) (q : Str) : LSp := fun ds m Φ => ∃ ns : List Int, ds = [.lst (ns.map D.int)] ∧ ns.length ≤ 63 ∧ m P = some (.tab q) ∧ (∀ a, a ≠ P → m a = none) ∧ ∀ m', Φ (.bl true) m'
/-- the name of the code object of a lambda made in the def of the qualified name x -/
abbrev lamq (x : Str) : Str := (x ++ ".<locals>.") ++ "<lambda>"
/-- a def's own code object is at hand in its body -/
theorem fno_ofC {P : Program} {w : World} {K : PySem.W.Frag} {mg : Str → Option Value} {base : Heap} {c : Addr} {x qual : Str} {st : Stmt} {f : Addr} {fd : FuncData} {N ps : List Str} {k : Nat} {sp : LSp} {qb : QS} (F : Fun K x qual st f fd) (hc : fd.code = .ref c) (S : FnScope N ps (defScope st)) (len : ∀ ds m Φ, sp ds m Φ → ds.length = ps.length)
    (hd : ∀ (A : Around) (outer : List Env) (s : Shared) (H : Hp) (E : XK), Room k (A.deeper (envOfC qual (defScope st) s.heap.objs.size f (.ref c))) → PSs (cxB P w K mg base N qual st f (.ref c) A outer s H E) (defBody st) (liftS K qb))
    (h : ∀ ds m Φ, sp ds m Φ → qb (bodyW Φ) (begin_ N.length ds) m) : FnOk P w K mg base CX0 (k + 1) f fd ps (liftSp K sp) := by
  obtain ⟨oc, od, kV, doc, pm, an, cdv, ct, osl, rfl, lk, hcd⟩ := F.ex
  obtain rfl : cdv = .ref c := hc
  refine fn_of lk hcd S (fun vs H Q E hs => ?_) fun A outer s H vs Q E hr hs => ⟨liftS K qb, PSs.nox (hd A outer s H E hr), body_liftW h hs⟩
  obtain ⟨G, m, ds, Φ, rm, rd, q, k⟩ := hs
  rw [← rd.length]; exact len ds m Φ q
/-- list(range(n)) -/
def qListR (qe : QE) : QE := fun s m Φ => qe s m fun x m1 => ∃ n : Int, x = .int n ∧ 0 ≤ n ∧ n ≤ 16777216 ∧ Φ (.lst ((List.range n.toNat).map fun i : Nat => D.int (i : Nat))) m1
end L3
set_option maxHeartbeats 2000000
/-! L6a: exceptions, plain: defs that raise, expressions that may raise -/
namespace L3
open PySem PySem.Spec PyProof.Rows L2
def FnDZ (P : Program) (w : World) (K : PySem.W.Frag) (mg : Str → Option Value) (base : Heap) (k : Nat) (f : Addr) (sp : LSpE) : Prop := FnR P w K mg base (L2.CX P w) k f (liftSpE K sp)
section
variable {P : Program} {w : World} {K : PySem.W.Frag} {mg : Str → Option Value} {base : Heap}
end
/-! ### expressions that may raise -/
abbrev QX := DSt → Mem → DK → DXe → Prop
def liftEX (K : PySem.W.Frag) (E : XK) (q : QX) : TE := fun σ H Q => ∃ (G : Hp) (s : DSt) (m : Mem) (Φ : DK) (Ψ : DXe), RelM K m G H ∧ RelS K s G σ ∧ q s m Φ Ψ ∧ KQ K G Φ Q ∧ KXE K G Ψ E
theorem KXE.mono {K : PySem.W.Frag} {G G' : Hp} {Ψ : DXe} {E : XK} (k : KXE K G Ψ E) (e : Sub G G') : KXE K G' Ψ E := fun G2 cls m' od H' e2 => k G2 cls m' od H' (e.trans e2)
def zCall (sp : LSpE) (qa : QA) : QX := fun s m Φ Ψ => qa s m fun ds m1 => sp ds m1 Φ Ψ
def zCallK (sp : LSpE) (n k : Nat) (is : List Nat) (qa qk : QA) : QX := fun s m Φ Ψ => qa s m fun ds m1 => qk s m1 fun es m2 => (ds.length = n ∧ es.length = k) ∧ sp (pick is (ds ++ es)) m2 Φ Ψ
section
variable {X : Cx} {E : XK} {k : Nat} {f : Addr} {x : Str} {p pos : Pos} {e : Expr} {es : List Expr}
end
end L3
set_option maxHeartbeats 2000000
/-! L6b: a lambda without parameters handed to a def that calls it and takes its exceptions -/
namespace LamX
open PySem PySem.Spec PyProof.Rows L2
section
variable {X : Cx} {pins : List (Addr × Obj)} {σ : L2.St} {H HZ : Hp} {s s1 : Shared}
end
/-- the def at g makes TT of what it got -/
def Gives (X : Cx) (Ng : List Str) (x : Str) (sg : Scope) (g : Addr) (cdg : Value) (bg : List Stmt) (a : Str) (q : Str) (TT : (XK → Hp → VK → Prop) → Hp → VK → Prop) : Prop :=
  ∀ (f c' : Addr) (s : Shared) (H : Hp) (Q : VK) (tl : XK → Hp → VK → Prop), (∀ (E E' : XK) (H : Hp) (Q : VK), (∀ cls d H, E cls d H → E' cls d H) → tl E H Q → tl E' H Q) →
    (∀ (W : WX) (pn : List (Addr × Obj)) (xe : Value → Shared → Prop) (p1 p2 : Pos), L2.Takes ((cxOf C8.CX0 X.prog X.w X.K X.mg X.base Ng x sg g cdg X.A X.stack s H C8.E0).tr pn xe) W →
      PE ((cxOf C8.CX0 X.prog X.w X.K X.mg X.base Ng x sg g cdg X.A X.stack s H C8.E0).tr pn xe) (.Call (.Name a p1) [] [] p2) (fun σZ HZ Q => σZ[0]? = some (some (.ref f)) ∧ HZ c' = some (CodeO c' q) ∧ tl (fun cls d H' => W cls d σZ H') HZ Q)) →
    H c' = some (CodeO c' q) → TT tl H Q →
    ∃ t, PSs (cxOf C8.CX0 X.prog X.w X.K X.mg X.base Ng x sg g cdg X.A X.stack s H C8.E0).nox bg t ∧ t { nx := fun _ H' => Q .non H', rt := Q } (L2.start Ng [.ref f]) H
section
variable {X : Cx}
end
end LamX
set_option maxHeartbeats 2000000
/-! L6c: try: return [w, a()] except D as en: .., a the lambda that was handed over; over data -/
namespace L3
open PySem PySem.Spec PyProof.Rows L2 LamX
def TTold (K : PySem.W.Frag) (D : Addr) (w : Str) (qs : Addr → Value → Option Addr → QS) : (XK → Hp → VK → Prop) → Hp → VK → Prop := fun tl H Q =>
  tl (fun cls d H' => PySem.W.exmOne K cls (.ref D) = some true ∧ ∀ e f, H' e = none → liftS K (qs e cls d) { nx := fun _ H'' => Q .non H'', rt := Q } [some (.ref f), some (.ref e)] H') H (fun v H' => ∀ p, H' p = none → Q (.ref p) (upd H' p (.lst [.str w, v])))
def qTold (P : Addr) (q : Str) (Cs : List Addr) (w : Str) (ql : QX) (qs : Addr → Value → Option Addr → QS) : QE := fun s m Φ => m P = some (.tab q) ∧ ql s m (fun d m1 => Φ (.lst [.str w, d]) m1) (fun cls od m1 => (∃ C ∈ Cs, cls = .ref C) ∧ ∀ e, m1 e = none → qs e cls od (bodyW Φ) [none, some (.ref e)] m1)
end L3
set_option maxHeartbeats 2000000
/-! L5h: iterators that end while an exception is handled -/
namespace HotE
open PySem PySem.Spec PyProof.Rows HotX
section
variable {prog : Program} {w : World} {A : Around} {E : Value → Shared → Prop} {s : Shared}
/-- an iterator's object is not the handled exception's -/
theorem hot_ne {x1 it : Addr} {o : Obj} {u v : Value} (hot : HotAt A x1 s.heap) (ho : s.heap.get? it = some o) (hd : o.data = .fields #[u, v]) : x1 ≠ it := by
  rintro rfl
  obtain ⟨_, o1, vs1, h1, d1, c1⟩ := hot
  rw [ho] at h1
  cases h1
  rw [hd] at d1
  cases d1
  exact nomatch c1
/-- the end of a walk over a tuple -/
theorem tup_end {it t x1 : Addr} {i : Nat} {items : Array Value} {Q : Fin → Shared → Prop} (hot : HotAt A x1 s.heap) (hit : s.heap.IsTupleIter it t i) (ht : s.heap.IsTuple t items) (hx : items[i]? = none)
    (hE : ∀ h' e, Heap.ExtBut it s.heap h' → (∃ o, h'.get? e = some o ∧ o.cls = .type "StopIteration") → E (.ref e) { s with heap := h' }) : wpAny (model prog w) A (Builtin.«tuple_iterator.__next__» ⟨[.ref it], []⟩) Q E s := by
  obtain ⟨o, ho, hc, hd⟩ := id hit
  obtain ⟨ol, hol, _, nl, hdl⟩ := ht
  have hne := hot_ne hot ho hd
  obtain ⟨hh, o1, vs1, h1, d1, c1⟩ := hot
  show wpAny _ _ (field (.ref it) 0 >>= _) _ _ s
  refine wpAny_bind (wpAny_field ho hd (x := .ref t) rfl ?_)
  show wpAny _ _ (if (Value.ref t == Value.none) = true then _ else _) _ _ s
  rw [if_neg (show ¬ ((Value.ref t == Value.none) = true) from Bool.false_ne_true)]
  show wpAny _ _ (field (.ref it) 1 >>= _) _ _ s
  refine wpAny_bind (wpAny_field ho hd (x := .int i 0) rfl ?_)
  show wpAny _ _ (seqItems? (.ref t) >>= _) _ _ s
  refine wpAny_bind (wpAny_seqItems hol hdl ?_)
  simp only [Int.toNat_natCast, hx]
  refine wpAny_bind (wpAny_rule (wpAny_bind (wpAny_setField ho hd (by simp) ?_)))
  show wpAny _ _ (newExc (.type "StopIteration") [] >>= _) _ _ _
  refine wpAny_bind ?_
  simp only [newExc, newTuple]
  refine wpAny_bind (wpAny_newObj_type ?_ (by size_fits))
  refine wpAny_bind (m := firstArgMember _ _) (wpAny_of_eq (a := Value.none) (by first | rfl | (simp only [firstArgMember]; rfl)) ?_)
  refine wpAny_newObj_type ?_ (by size_fits)
  refine raiseNew_hot ⟨hh, o1, vs1, Heap.get?_push_of_some _ (Heap.get?_push_of_some _ ((Heap.get?_update_other _ _ hne.symm).trans h1)), d1, c1⟩ (Nat.ne_of_lt (Heap.lt_size (Heap.get?_push_of_some _ ((Heap.get?_update_other _ _ hne.symm).trans h1)))) (Heap.get?_push_size _ rfl) rfl (by first | (simp; done) | (simp; omega) | (simp only [Array.size_append]; simp; omega)) ?_
  refine hE _ _ (fun b ob hb e => ?_) ⟨_, Heap.get?_update_self _ (Heap.get?_push_size _ rfl) rfl, rfl⟩
  have e2 := (Heap.get?_update_other s.heap (Obj.mapFields fun x => x.setIfInBounds 0 Value.none) (Ne.symm hb)).trans e
  rw [Heap.get?_update_other _ _ (Nat.ne_of_gt (Heap.lt_size (Heap.get?_push_of_some _ e2)))]
  exact Heap.get?_push_of_some _ (Heap.get?_push_of_some _ e2)
/-- the end of a walk over a list -/
theorem lst_end {it t x1 : Addr} {i : Nat} {items : Array Value} {Q : Option Value → Shared → Prop} (hot : HotAt A x1 s.heap) (hit : s.heap.IsListIter it t i) (ht : s.heap.IsList t items) (hx : items[i]? = none)
    (hQ : ∀ h', Heap.ExtBut it s.heap h' → Q none { s with heap := h' }) : wpAny (model prog w) A (pyNext (.ref it)) Q E s := by
  obtain ⟨o, ho, hc, hd⟩ := id hit
  obtain ⟨ol, hol, _, nl, hdl⟩ := ht
  have hne := hot_ne hot ho hd
  obtain ⟨hh, o1, vs1, h1, d1, c1⟩ := hot
  unfold pyNext
  refine wpAny_bind (wpAny_attempt (wpAny_callSpecial?_slot (name := Str.ofString "__next__") hit.typeIs slot_listiter_next
    (wpAny_call_entry slot_listiter_next hit.typeIs entry_listiter_next ?_ (args_listiter_next _))))
  show wpAny _ _ (field (.ref it) 0 >>= _) _ _ s
  refine wpAny_bind (wpAny_field ho hd (x := .ref t) rfl ?_)
  show wpAny _ _ (if (Value.ref t == Value.none) = true then _ else _) _ _ s
  rw [if_neg (show ¬ ((Value.ref t == Value.none) = true) from Bool.false_ne_true)]
  show wpAny _ _ (field (.ref it) 1 >>= _) _ _ s
  refine wpAny_bind (wpAny_field ho hd (x := .int i 0) rfl ?_)
  show wpAny _ _ (seqItems? (.ref t) >>= _) _ _ s
  refine wpAny_bind (wpAny_seqItems hol hdl ?_)
  simp only [Int.toNat_natCast, hx]
  refine wpAny_bind (wpAny_rule (wpAny_bind (wpAny_setField ho hd (by simp) ?_)))
  show wpAny _ _ (newExc (.type "StopIteration") [] >>= _) _ _ _
  refine wpAny_bind ?_
  simp only [newExc, newTuple]
  refine wpAny_bind (wpAny_newObj_type ?_ (by size_fits))
  refine wpAny_bind (m := firstArgMember _ _) (wpAny_of_eq (a := Value.none) (by first | rfl | (simp only [firstArgMember]; rfl)) ?_)
  refine wpAny_newObj_type ?_ (by size_fits)
  refine raiseNew_hot ⟨hh, o1, vs1, Heap.get?_push_of_some _ (Heap.get?_push_of_some _ ((Heap.get?_update_other _ _ hne.symm).trans h1)), d1, c1⟩ (Nat.ne_of_lt (Heap.lt_size (Heap.get?_push_of_some _ ((Heap.get?_update_other _ _ hne.symm).trans h1)))) (Heap.get?_push_size _ rfl) rfl (by first | (simp; done) | (simp; omega) | (simp only [Array.size_append]; simp; omega)) ?_
  refine wpAny_bind (wpAny_isInstance (T := "StopIteration") (b := true) ⟨_, Heap.get?_update_self _ (Heap.get?_push_size _ rfl) rfl, rfl⟩ isSubtype_stop ?_)
  refine wpAny_pure (hQ _ fun b ob hb e => ?_)
  have e2 := (Heap.get?_update_other s.heap (Obj.mapFields fun x => x.setIfInBounds 0 Value.none) (Ne.symm hb)).trans e
  rw [Heap.get?_update_other _ _ (Nat.ne_of_gt (Heap.lt_size (Heap.get?_push_of_some _ e2)))]
  exact Heap.get?_push_of_some _ (Heap.get?_push_of_some _ e2)
theorem pyNext_tup_end {it t x1 : Addr} {i : Nat} {items : Array Value} {Q : Option Value → Shared → Prop} (hot : HotAt A x1 s.heap) (hit : s.heap.IsTupleIter it t i) (ht : s.heap.IsTuple t items) (hx : items[i]? = none)
    (hQ : ∀ h', Heap.ExtBut it s.heap h' → Q none { s with heap := h' }) : wpAny (model prog w) A (pyNext (.ref it)) Q E s := by
  unfold pyNext
  refine wpAny_bind (wpAny_attempt (wpAny_callSpecial?_slot (name := Str.ofString "__next__") hit.typeIs F.slot_tuple_iterator_next
    (wpAny_call_entry F.slot_tuple_iterator_next hit.typeIs F.entry_tuple_iterator_next (tup_end (A := A.in1) hot hit ht hx fun h' e hk he => ?_) (F.args_tuple_iterator_next_1 _))))
  obtain ⟨o, ho, hc⟩ := he
  exact wpAny_bind (wpAny_isInstance (T := "StopIteration") (b := true) ⟨o, ho, hc⟩ isSubtype_stop (wpAny_pure (hQ _ hk)))
theorem nextOf_tup_end {it l x1 : Addr} {i : Nat} {items : Array Value} {Q : Value → Shared → Prop} (hot : HotAt A x1 s.heap)
    (hit : s.heap.IsTupleIter it l i) (hl : s.heap.IsTuple l items) (hx : items[i]? = none)
    (hE : ∀ h' e, Heap.ExtBut it s.heap h' → (∃ o, h'.get? e = some o ∧ o.cls = .type "StopIteration") → E (.ref e) { s with heap := h' }) : wpAny (model prog w) A (Builtin.SmallTypes.nextOf (.ref it)) Q E s := by
  unfold Builtin.SmallTypes.nextOf
  exact wpAny_bind (wpAny_callSpecial?_slot (name := Str.ofString "__next__") hit.typeIs F.slot_tuple_iterator_next
    (wpAny_call_entry F.slot_tuple_iterator_next hit.typeIs F.entry_tuple_iterator_next (tup_end (A := A.in1) hot hit hl hx hE) (F.args_tuple_iterator_next_1 _)))
theorem hot_mono {x1 : Addr} {h h' : Heap} (hot : HotAt A x1 h) (k : ∀ o, h.get? x1 = some o → h'.get? x1 = some o) : HotAt A x1 h' := by
  obtain ⟨hh, o1, vs1, h1, d1, c1⟩ := hot
  exact ⟨hh, o1, vs1, k _ h1, d1, c1⟩
/-- a tuple's items, as many as there are targets -/
theorem unpack_hot {t x1 : Addr} {items : Array Value} {Q : List Value → Shared → Prop} (hot : HotAt A x1 s.heap) (ht : IsTup s.heap t items)
    (hQ : ∀ h', Heap.ExtBut s.heap.objs.size s.heap h' → Q items.toList { s with heap := h' }) : wpAny (model prog w) A (unpackItems (.ref t) items.size none) Q E s := by
  have hlt : t ≠ s.heap.objs.size := by obtain ⟨o, ho, _⟩ := ht; exact Nat.ne_of_lt (Heap.lt_size ho)
  have hx1 : x1 ≠ s.heap.objs.size := by obtain ⟨_, o1, _, h1, _⟩ := hot; exact Nat.ne_of_lt (Heap.lt_size h1)
  unfold unpackItems
  refine wpAny_bind ?_
  unfold notIterableAtAll
  refine wpAny_bind (wpAny_specialOf ht.typeIs slot_tuple_iter.lookup (wpAny_pure ?_))
  simp only [Bool.false_eq_true, if_false]
  refine wpAny_bind (wpAny_holding (iter_tuple ht ?_))
  refine wpAny_bind (wpAny_holding (draw_tuple hlt items.size 0 _ _ ⟨_, Heap.get?_push_size _ rfl, rfl, rfl⟩ (ht.push _) (by omega) fun h₁ hit₁ hs₁ => ?_))
  rw [show List.take items.size (List.drop 0 items.toList) = items.toList by rw [List.drop_zero]; exact List.take_of_length_le (by simp), if_neg (by simp)]
  have ht₁ : IsTup h₁ t items := (ht.push _).extBut hs₁.extBut hlt
  refine wpAny_bind (wpAny_holding (pyNext_tup_end (hot_mono hot fun o e => hs₁.extBut _ _ hx1 (Heap.get?_push_of_some _ e)) hit₁ ht₁ (by simp) fun h₂ he₂ => ?_))
  simp only [Option.isSome_none, Bool.false_eq_true, if_false]
  exact wpAny_pure (hQ h₂ fun b o hb e => he₂ b o hb (hs₁.extBut b o hb (Heap.get?_push_of_some _ e)))
theorem assign_hot {env : Env} {elts : List Expr} {k : Nat} {pos : Pos} {t x1 : Addr} {items : Array Value} {Q : Unit → Shared → Prop} (hot : HotAt A x1 s.heap) (ht : IsTup s.heap t items)
    (hn : (assignEach elts env).length = items.size) (hstar : (assignEach elts env).findIdx? (·.1) = none)
    (h : ∀ h', Heap.ExtBut s.heap.objs.size s.heap h' → wpAny (model prog w) A (assignInOrder ((assignEach elts env).map (·.2)) items.toList) Q E { s with heap := h' }) :
    wpAny (model prog w) A (assign (.Tuple elts k pos) env (.ref t)) Q E s := by
  rw [assign_Tuple]
  refine wpAny_bind (wpAny_standAt ?_)
  unfold unpack
  rw [hn, hstar]
  exact wpAny_bind (wpAny_holding (unpack_hot hot ht fun h' he => h h' he))
/-- zip of two tuples ends -/
theorem zip_end {z TI TO i1 i2 l1 l2 x1 : Addr} {k1 k2 : Nat} {xs ys : Array Value} {a b : Value} {Q : Fin → Shared → Prop} (hot : HotAt A x1 s.heap) (D : ZipApart z TI TO i1 i2 l1 l2)
    (hz : IsZip s.heap z TI TO .none) (hTI : IsPair s.heap TI (.ref i1) (.ref i2)) (hTO : IsPair s.heap TO a b)
    (h1 : s.heap.IsTupleIter i1 l1 k1) (h2 : s.heap.IsTupleIter i2 l2 k2) (hl1 : s.heap.IsTuple l1 xs) (hl2 : s.heap.IsTuple l2 ys) (hend : xs[k1]? = none ∨ ys[k2]? = none) (hxz : x1 ≠ z) (hxTO : x1 ≠ TO)
    (hE : ∀ h' e, (∀ c o, c ≠ z → c ≠ TO → c ≠ i1 → c ≠ i2 → s.heap.get? c = some o → h'.get? c = some o) → (∃ o, h'.get? e = some o ∧ o.cls = .type "StopIteration") → E (.ref e) { s with heap := h' }) :
    wpAny (model prog w) A (Builtin.«zip.__next__» ⟨[.ref z], []⟩) Q E s := by
  have hx1 : x1 ≠ i1 := by obtain ⟨o, ho, _, hd⟩ := h1; exact hot_ne hot ho hd
  show wpAny _ _ (field (.ref z) 2 >>= _) _ _ _
  refine wpAny_bind (wpAny_field hz rfl (x := .bool false) rfl ?_)
  show wpAny _ _ (field (.ref z) 3 >>= _) _ _ _
  refine wpAny_bind (wpAny_field hz rfl (x := .ref TI) rfl (wpAny_bind (wpAny_seqItems hTI rfl ?_)))
  show wpAny _ _ (Builtin.SmallTypes.ownedTupleIsFree (.ref z) >>= _) _ _ _
  refine wpAny_bind ?_
  unfold Builtin.SmallTypes.ownedTupleIsFree
  refine wpAny_bind (wpAny_field hz rfl (x := .none) rfl (wpAny_pure ?_))
  simp only [if_true]
  refine wpAny_bind (wpAny_rule (wpAny_bind (wpAny_field hz rfl (x := .ref TO) rfl ?_)))
  refine wpAny_bind (wpAny_setField_rec hz (by simp) fun g1 hz1 b1 => ?_)
  replace hz1 : IsZip g1 z TI TO .ellipsis := hz1
  refine wpAny_bind ?_
  simp only [List.zipIdx_cons, List.zipIdx_nil, List.forIn_cons, List.forIn_nil]
  refine wpAny_bind (wpAny_bind (wpAny_onRaise ?_))
  show wpAny _ _ (Builtin.SmallTypes.nextOf (.ref i1) >>= _) _ _ _
  have hot1 : HotAt A x1 g1 := hot_mono hot fun o e => b1.extBut _ _ hxz e
  cases hx : xs[k1]? with
  | none =>
    refine wpAny_bind (nextOf_tup_end hot1 (h1.extBut b1.extBut D.i1z) (hl1.extBut b1.extBut D.l1z) hx fun g2 e b2 he => ?_)
    obtain ⟨oe, hoe, hce⟩ := he
    have hz2 : IsZip g2 z TI TO .ellipsis := b2 _ _ D.i1z.symm hz1
    have hez : e ≠ z := fun q => by subst q; rw [hz2] at hoe; cases hoe; simp at hce
    exact wpAny_setField_rec hz2 (by simp) fun g3 _ b3 => hE g3 e (fun c o c1 _ c3 _ q => b3.extBut _ _ c1 (b2 _ _ c3 (b1.extBut _ _ c1 q))) ⟨oe, b3.extBut _ _ hez hoe, hce⟩
  | some x =>
    have hy : ys[k2]? = none := hend.resolve_left (by rw [hx]; intro q; cases q)
    refine wpAny_bind (RZ.nextOf_tuple_item (h1.extBut b1.extBut D.i1z) (hl1.extBut b1.extBut D.l1z) hx fun g2 _ b2 => wpAny_pure ?_)
    have hTO2 : IsPair g2 TO a b := b2.extBut _ _ D.TOi1 (b1.extBut _ _ D.TOz hTO)
    refine wpAny_bind (wpAny_seqItems hTO2 rfl (wpAny_bind (wpAny_updateSeq_pair hTO2 fun g3 _ b3 => wpAny_bind (wpAny_letGo (wpAny_pure ?_)))))
    refine wpAny_bind (wpAny_bind (wpAny_onRaise ?_))
    show wpAny _ _ (Builtin.SmallTypes.nextOf (.ref i2) >>= _) _ _ _
    have hot3 : HotAt A x1 g3 := hot_mono hot1 fun o e => b3.extBut _ _ hxTO (b2.extBut _ _ hx1 e)
    refine wpAny_bind (nextOf_tup_end hot3 (((h2.extBut b1.extBut D.i2z).extBut b2.extBut D.i12.symm).extBut b3.extBut D.TOi2.symm) (((hl2.extBut b1.extBut D.l2z).extBut b2.extBut D.l2i1).extBut b3.extBut D.l2TO) hy fun g4 e b4 he => ?_)
    obtain ⟨oe, hoe, hce⟩ := he
    have hz4 : IsZip g4 z TI TO .ellipsis := b4 _ _ D.i2z.symm (b3.extBut _ _ D.TOz.symm (b2.extBut _ _ D.i1z.symm hz1))
    have hez : e ≠ z := fun q => by subst q; rw [hz4] at hoe; cases hoe; simp at hce
    exact wpAny_setField_rec hz4 (by simp) fun g5 _ b5 => hE g5 e (fun c o c1 c2 c3 c4 q => b5.extBut _ _ c1 (b4 _ _ c4 (b3.extBut _ _ c2 (b2.extBut _ _ c3 (b1.extBut _ _ c1 q))))) ⟨oe, b5.extBut _ _ hez hoe, hce⟩
theorem pyNext_zip_end {z TI TO i1 i2 l1 l2 x1 : Addr} {k1 k2 : Nat} {xs ys : Array Value} {a b : Value} {Q : Option Value → Shared → Prop} (hot : HotAt A x1 s.heap) (D : ZipApart z TI TO i1 i2 l1 l2)
    (hz : IsZip s.heap z TI TO .none) (hTI : IsPair s.heap TI (.ref i1) (.ref i2)) (hTO : IsPair s.heap TO a b)
    (h1 : s.heap.IsTupleIter i1 l1 k1) (h2 : s.heap.IsTupleIter i2 l2 k2) (hl1 : s.heap.IsTuple l1 xs) (hl2 : s.heap.IsTuple l2 ys) (hend : xs[k1]? = none ∨ ys[k2]? = none) (hxz : x1 ≠ z) (hxTO : x1 ≠ TO)
    (hQ : ∀ h', (∀ c o, c ≠ z → c ≠ TO → c ≠ i1 → c ≠ i2 → s.heap.get? c = some o → h'.get? c = some o) → Q none { s with heap := h' }) : wpAny (model prog w) A (pyNext (.ref z)) Q E s := by
  have hT : s.TypeIs (.ref z) "zip" := ⟨_, hz, rfl⟩
  unfold pyNext
  refine wpAny_bind (wpAny_attempt (wpAny_callSpecial?_slot (name := Str.ofString "__next__") hT F.slot_zip_next
    (wpAny_call_entry F.slot_zip_next hT F.entry_zip_next (zip_end (A := A.in1) hot D hz hTI hTO h1 h2 hl1 hl2 hend hxz hxTO fun h' e hk he => ?_) (F.args_zip_next_1 _))))
  obtain ⟨o, ho, hc⟩ := he
  exact wpAny_bind (wpAny_isInstance (T := "StopIteration") (b := true) ⟨o, ho, hc⟩ isSubtype_stop (wpAny_pure (hQ _ hk)))
end
end HotE
set_option maxHeartbeats 2000000
/-! L5i: comprehensions, unpacking, zip, all while an exception is handled -/
namespace HotE
open PySem PySem.Spec PyProof.Rows L2 L2H HotX
/-- the block of a comprehension, its pins kept -/
abbrev blkH (X : Cx) (s : Shared) (H : Hp) (scope : Scope) (cenv : Env) (fp : List Addr) : Cx := { X.blk s H scope cenv fp with pn := X.pn }
theorem Inv.toH {X : Cx} {pins : List (Addr × Obj)} {σ : L2.St} {H H' : Hp} {s s' : Shared} {scope : Scope} {cenv : Env} {fp : List Addr} (I : Inv (X.blk s H scope cenv fp) pins σ H' s')
    (h : ∀ p ∈ X.pn ++ pins, s'.heap.get? p.1 = some p.2 ∧ H' p.1 = none ∧ p.1 ≠ cenv.locals ∧ p.1 ∉ frs X.stack ∧ ∀ v, p.2.data ≠ .cell v) : Inv (blkH X s H scope cenv fp) pins σ H' s' :=
  ⟨⟨I.ok.mod, I.ok.kind, I.ok.glob, I.ok.blt, I.ok.above, I.ok.inj, I.ok.has, I.ok.cab, I.ok.hd, I.ok.frames, I.ok.stk, I.ok.exf, I.ok.bs, I.ok.bsz, I.ok.noex, I.ok.exfs, I.ok.funs, I.ok.frf⟩, I.os, I.bare, I.base, I.loc, I.cell, I.free, I.freeC, h, I.hok, I.len⟩
theorem hot_pin {X : Cx} {pins : List (Addr × Obj)} {σ : L2.St} {H : Hp} {s : Shared} (hc : HotC X) (I : Inv X pins σ H s) {fp : List Addr} (hf : ∀ b ∈ fp, FpOk X pins H b) : ∃ x1, HotAt X.A x1 s.heap ∧ ∀ b ∈ fp, x1 ≠ b := by
  obtain ⟨p, ⟨hh, v1, e1, c1⟩, hp⟩ := hc
  exact ⟨p.1, ⟨hh, p.2, v1, (I.pin p (List.mem_append_left _ hp)).1, e1, c1⟩, fun b hb => (hf b hb).2.2.2.2.2 p (List.mem_append_left _ hp)⟩
section
variable {X : Cx} {pos : Pos}
/-- all of a list -/
theorem cr_allH (hc : HotC X) : CallR X (.builtin "all") (rAll X.K) := by
  intro pins s σ H vs us Q I r h
  obtain ⟨a, bs, rfl, hs, q⟩ := h
  obtain ⟨its, rv, hl, _⟩ := I.list hs
  obtain ⟨x1, hot⟩ := hc.at I
  obtain ⟨hh, o1, v1, g1, d1, c1⟩ := hot
  rw [Vals.ref1 r]
  have hb := rv.bls
  refine call_all_walk (iter_any hl.isList fun s₂ e2 st hne => ?_)
  subst e2
  have W : Walks X.prog X.w X.A.in1 s.heap.objs.size [s.heap.objs.size, a, x1] [s.heap.objs.size] its.toArray.size (fun i v => its.toArray[i]? = some v) (fun i h => (h.IsListIter s.heap.objs.size a i ∧ h.IsList a its.toArray) ∧ h.get? x1 = some o1) := {
    sub := fun b hb => by simp at hb; simp [hb]
    frame := fun _ _ _ st hk => ⟨⟨st.1.1.at fun o e => hk _ (by simp) o e, st.1.2.at fun o e => hk a (by simp) o e⟩, hk x1 (by simp) _ st.2⟩
    item := fun i s' Q E hi st hQ => by
      have hx1 : x1 ≠ s.heap.objs.size := Nat.ne_of_lt (Heap.lt_size g1)
      refine wpAny_pyNext_list_item st.1.1 st.1.2 (x := its.toArray[i]) (by simp [hi]) fun h' hit' hs' => ?_
      exact hQ _ h' s'.toks (by simp [hi]) ⟨⟨hit', st.1.2.extBut hs'.extBut hne⟩, hs'.extBut _ _ hx1 st.2⟩ fun b o hb e => hs'.extBut b o (fun h => hb (by simp [h])) e
    done := fun s' Q E st hQ => lst_end (A := X.A.in1) ⟨hh, o1, v1, st.2, d1, c1⟩ st.1.1 st.1.2 (by simp) fun h' he' => hQ h' s'.toks fun b o hb e => he' b o (fun h => hb (by simp [h])) e
    self := fun _ _ _ _ st hQ => wpAny_pyIter_listiter st.1.1 hQ }
  refine ⟨_, _, _, _, _, _, _, rfl, W, ⟨st, Heap.get?_push_of_some _ g1⟩, truth_bools hb, fun h' tk hk => ?_⟩
  refine ⟨.bl _, H, I.kept fun b o eo => hk b o (fun hmem => ?_) (Heap.get?_push_of_some _ eo), ?_, q⟩
  · rcases List.mem_cons.mp hmem with e1 | hmem
    · exact absurd (e1 ▸ Heap.lt_size eo) (Nat.lt_irrefl _)
    · cases hmem
  · show Value.bool _ = Value.bool _
    rw [← L2.all_range, hb, List.size_toArray, List.length_map]
end
/-- zip of two tuples, turn by turn -/
theorem turn_zipH {P : Program} {w : World} {K : PySem.W.Frag} {elts : List Expr} {kk : Nat} {tpos : Pos} {a b z TI TO i1 i2 : Addr} (D : ZipApart z TI TO i1 i2 a b) :
    TurnH P w K (.Tuple elts kk tpos) (RZ.ItzT K a b) [z, TI, TO, i1, i2] z (fun i h => IsZip h z TI TO .none ∧ IsPair h TI (.ref i1) (.ref i2) ∧ (∃ x y, IsPair h TO x y) ∧ h.IsTupleIter i1 a i ∧ h.IsTupleIter i2 b i) := by
  have T := RZ.turn_zipT (P := P) (w := w) (K := K) (elts := elts) (kk := kk) (tpos := tpos) D
  refine ⟨T.mem, T.obj, T.keep, ?_, ?_, T.self⟩
  · intro X hP hw hK hc i pins s σ H E I hf st hg
    subst hP hw hK
    obtain ⟨hz, hTI, ⟨x0, y0, hTO⟩, h1, h2⟩ := st
    obtain ⟨xs, ys, x, y, hqx, hqy, hx, hy⟩ := hg
    obtain ⟨its, rv, p, _⟩ := I.tuple hqx
    obtain ⟨its2, rv2, p2, _⟩ := I.tuple hqy
    obtain ⟨u, hu, ru⟩ := rv.get hx
    obtain ⟨u2, hu2, ru2⟩ := rv2.get hy
    have lts : ∀ c ∈ [z, TI, TO, i1, i2], c < s.heap.objs.size := fun c hcm => by
      obtain ⟨o, e, _⟩ := T.obj i s.heap ⟨hz, hTI, ⟨_, _, hTO⟩, h1, h2⟩ c hcm
      exact Heap.lt_size e
    refine RZ.pyNext_zipT_item D hz hTI hTO h1 h2 p p2 (x := u) (y := u2) (by simpa using hu) (by simpa using hu2) fun h' z' TO' h1' h2' hT hsz hk => ?_
    refine ⟨_, rfl, wpAny_letOwnedTupleGo_zip (s := { s with heap := h' }) z' fun h'' z'' sb => ?_⟩
    have hT2 := (sb.2 _ (Nat.ne_of_gt (lts z (by simp)))).trans hT
    have new : ObjOk X.prog X.w (upd H s.heap.objs.size (.tup [x, y])) h'' s.heap.objs.size (.tup [x, y]) :=
      ⟨by show 2 ≤ sizeLine; decide, [u, u2], .cons ru (.cons ru2 .nil), ⟨_, hT2, rfl, _, rfl⟩⟩
    have I1 : Inv X pins σ (upd H s.heap.objs.size (.tup [x, y])) { s with heap := h'' } :=
      I.turnedNew (t' := s.toks) (ch := [z, TI, TO, i1, i2]) (fun c o hb q => (sb.2 c (fun q' => hb (by simp [q']))).trans (hk c o (fun q' => hb (by simp [q'])) (fun q' => hb (by simp [q'])) (fun q' => hb (by simp [q'])) (fun q' => hb (by simp [q'])) q)) hf (Nat.le_refl _) new
    refine ⟨.ref s.heap.objs.size, _, I1, rfl, ⟨_, x, y, rfl, I.hok.fresh (Nat.le_refl _), rfl, fun l hl => by rw [I.tuple_inj hl hqx]; exact hx, fun l hl => by rw [I.tuple_inj hl hqy]; exact hy⟩, ⟨z'', ?_, ⟨u, u2, ?_⟩, ?_, ?_⟩, fun c hcm => ?_⟩
    · exact (sb.2 _ D.TIz).trans (hk _ _ D.TIz D.TITO D.TIi1 D.TIi2 hTI)
    · exact (sb.2 _ D.TOz).trans TO'
    · exact h1'.at fun o q => (sb.2 _ D.i1z).trans q
    · exact h2'.at fun o q => (sb.2 _ D.i2z).trans q
    · rw [upd_ne (Nat.ne_of_lt (lts c hcm))]
      exact (hf c hcm).1
  · intro X hP hw hK hc i pins s σ H E I hf st hg
    subst hP hw hK
    obtain ⟨hz, hTI, ⟨x0, y0, hTO⟩, h1, h2⟩ := st
    obtain ⟨xs, ys, hqx, hqy, hend⟩ := hg
    obtain ⟨its, rv, p, _⟩ := I.tuple hqx
    obtain ⟨its2, rv2, p2, _⟩ := I.tuple hqy
    have l1 := rv.length
    have l2 := rv2.length
    obtain ⟨x1, hot, hx1⟩ := hot_pin hc I hf
    exact pyNext_zip_end hot D hz hTI hTO h1 h2 p p2 (hend.imp (fun q => by simp; omega) fun q => by simp; omega) (hx1 z (by simp)) (hx1 TO (by simp)) fun h' hk => ⟨rfl, I.turnedL (t' := s.toks) (ch := [z, TI, TO, i1, i2]) (fun c o hb q =>
      hk c o (fun q' => hb (by simp [q'])) (fun q' => hb (by simp [q'])) (fun q' => hb (by simp [q'])) (fun q' => hb (by simp [q'])) q) hf⟩
def iZipTH (K : PySem.W.Frag) (ta : TA) : TI := fun σ H R => ta σ H fun vs H1 => ∃ a b xs ys, vs = [.ref a, .ref b] ∧ SqT K H1 a xs ∧ SqT K H1 b ys ∧ R (RZ.ItzT K a b) H1
section
variable {X : Cx}
/-- [elt for target in iter if ..] as a value -/
theorem pe_lcH {elt tg iter : Expr} {ifs : List Expr} {scope : Scope} {own : List (Str × Nat)} {pos : Pos} {wi : TI} {g : TG} {tt : TT} {te : TE} (hc : HotC X) (hN : X.N.Nodup) (hi : PIH X tg iter wi) (ok : BlkOk X.N X.env.scope scope own)
    (hg : ∀ (s : Shared) (H : Hp) (C : Addr) (cl : List (Str × Addr)) (fp : List Addr), PG (blkH X s H scope (compEnvC scope cl C X.env) fp) tg g) (ht : ∀ (s : Shared) (H : Hp) (C : Addr) (cl : List (Str × Addr)) (fp : List Addr), PTs (blkH X s H scope (compEnvC scope cl C X.env) fp) ifs tt)
    (he : ∀ (s : Shared) (H : Hp) (C : Addr) (cl : List (Str × Addr)) (fp : List Addr), PE (blkH X s H scope (compEnvC scope cl C X.env) fp) elt te) (hs : ∀ x, foldedSetIterable iter X.env x = pure x := by intro _; rfl) :
    PE X (.ListComp elt [⟨tg, iter, ifs, 0⟩] scope pos) (tLc wi g tt te (own.map (·.2))) := by
  refine ⟨fun pins s σ H Q I h => ?_⟩
  rw [eval_ListComp]
  have hfree : ∀ y ∈ scope.names, y.2 = .free → ∃ c, X.env.cells.lookup y.1 = some c := fun y hy e => (ok.free y hy e).elim (fun k => I.ok.has _ (.inl k)) fun k => I.ok.has _ (.inr k)
  refine wpAny_comprehension_free rfl hs (closure_ok hfree) ok.kind (fun y hy e => by rw [ok.uniq y hy, e]) (thn (hi.run pins s σ H _ I h) fun xv s1 hx => thn hx fun itv s2 h2 => ?_)
  obtain ⟨it, fp, tn, J, H2, e, I2, T, st2, f2, q⟩ := h2
  subst e
  refine wpAny_newObj_type (newEnv_comp ?_) (by show 0 ≤ sizeLine; decide)
  generalize hD : s2.heap.objs.size = D
  obtain ⟨W, ⟨m0, w0⟩, turn⟩ := q D (I2.hok.fresh (Nat.le_of_eq hD))
  generalize hs3 : ({ s2 with heap := s2.heap.push { cls := .type "list", data := .seq ([] : List Value).toArray } } : Shared) = s3
  have h3 : s3.heap = s2.heap.push { cls := .type "list", data := .seq ([] : List Value).toArray } := by rw [← hs3]
  have I3 : Inv X pins σ (upd H2 D (.lst [])) s3 := by
    rw [← hs3]
    refine I2.laid (t' := s2.toks) (fun b o e => Heap.get?_push_of_some _ e) (Nat.le_of_eq hD) ⟨Nat.zero_le _, [], 0, .nil, ?_⟩
    rw [← hD]
    exact Heap.get?_push_size _ rfl
  have f3 : ∀ b ∈ fp, FpOk X pins (upd H2 D (.lst [])) b ∧ b < s3.heap.objs.size := fun b hb => by
    obtain ⟨o, e, _⟩ := T.obj _ _ st2 b hb
    have hlt := Heap.lt_size e
    exact ⟨⟨by rw [upd_ne (by rw [← hD]; exact Nat.ne_of_lt hlt)]; exact (f2 b hb).1, (f2 b hb).2⟩, by rw [h3, Heap.size_push]; exact Nat.lt_succ_of_lt hlt⟩
  have st3 : tn 0 s3.heap := T.keep _ _ _ st2 fun b _ o e => by rw [h3]; exact Heap.get?_push_of_some _ e
  have I4' := block_start I3 ok hN f3
  have pg := hg s3 (upd H2 D (.lst [])) s3.heap.objs.size (cellsFrom (s3.heap.objs.size + 1) scope.names (cloFrom X.env.cells scope.names [])) fp
  have pt := ht s3 (upd H2 D (.lst [])) s3.heap.objs.size (cellsFrom (s3.heap.objs.size + 1) scope.names (cloFrom X.env.cells scope.names [])) fp
  have pe := he s3 (upd H2 D (.lst [])) s3.heap.objs.size (cellsFrom (s3.heap.objs.size + 1) scope.names (cloFrom X.env.cells scope.names [])) fp
  show codeAny _ _ (.compStart (.ListComp elt [⟨tg, iter, ifs, 0⟩] scope pos) 0 (.ref it) (.ref D) (compEnvC scope (cellsFrom (s3.heap.objs.size + 1) scope.names (cloFrom X.env.cells scope.names [])) s3.heap.objs.size X.env)) _ { s3 with heap := pushCells (s3.heap.push { cls := .type "dict", data := .dict #[] }) scope.names }
  generalize hce : compEnvC scope (cellsFrom (s3.heap.objs.size + 1) scope.names (cloFrom X.env.cells scope.names [])) s3.heap.objs.size X.env = ce at I4' pg pt pe ⊢
  have cL : ce.locals = s3.heap.objs.size := by subst hce; rfl
  generalize hH3 : upd H2 D (.lst []) = H3 at I3 I4' pg pt pe w0 f3
  generalize hs4 : ({ s3 with heap := pushCells (s3.heap.push { cls := .type "dict", data := .dict #[] }) scope.names } : Shared) = s4 at I4' ⊢
  have k34 : ∀ b o, s3.heap.get? b = some o → s4.heap.get? b = some o := fun b o e => by rw [← hs4]; exact pushCells_keeps _ _ _ _ (Heap.get?_push_of_some _ e)
  have I4 : Inv (blkH X s3 H3 scope ce fp) [] (wipe σ (own.map (·.2))) H3 s4 := Inv.toH I4' fun p hp => by
    rw [List.append_nil] at hp
    obtain ⟨g1, g2, g3, g4, g5⟩ := I3.pin p (List.mem_append_left _ hp)
    exact ⟨k34 _ _ g1, g2, by rw [cL]; exact Nat.ne_of_lt (Heap.lt_size g1), fun hm => (List.mem_cons.mp (I3.stkSub p.1 hm)).elim g3 g4, g5⟩
  have hcB : HotC (blkH X s3 H3 scope ce fp) := hc
  have stat : ∀ {σ' : L2.St} {H' : Hp} {s' : Shared}, Inv (blkH X s3 H3 scope ce fp) [] σ' H' s' → (∀ b ∈ fp, H' b = none) → ∀ b ∈ fp, FpOk (blkH X s3 H3 scope ce fp) [] H' b := fun {σ' H' s'} I' hn b hb =>
    ⟨hn b hb, (I'.ok.exf b hb).1, I'.ok.exfs b hb, .inl hb, fun x c e => (I'.ok.exf b hb).2 x c e, fun p hp => by
      have hp : p ∈ X.pn ++ [] := hp
      rw [List.append_nil] at hp
      exact (f3 b hb).1.2.2.2.2.2 p (List.mem_append_left _ hp)⟩
  refine codeAny_compStart_list ?_ (T.self X.A 0 _ _ _ (T.keep _ _ _ st3 fun b _ o e => k34 b o e) ?_)
  all_goals
    refine compLoop_any (fun n s' => ∃ i H', Inv (blkH X s3 H3 scope ce fp) [] (wipe σ (own.map (·.2))) H' s' ∧ tn i s'.heap ∧ (∀ b ∈ fp, H' b = none) ∧ W i n H') ?_ m0 ⟨0, H3, I4, T.keep _ _ _ st3 fun b _ o e => k34 b o e, fun b hb => (f3 b hb).1.1, w0⟩
    rintro n s5 ⟨i, H5, I5, st5, n5, w5⟩
    rcases turn i n H5 w5 with ⟨stop, qq⟩ | ⟨go, Nx, hNx, step⟩
    · refine thnF (T.done (blkH X s3 H3 scope ce fp) rfl rfl rfl hcB i [] s5 _ H5 (fun _ _ => False) I5 (stat I5 n5) st5 stop) fun r s6 ⟨hr, I6⟩ => ?_
      subst hr
      have I7 : Inv X pins σ H5 s6 := I3.call' (ch := fp) I6.os I6.base I6.hok I6.bare fun b hb => ⟨(f3 b hb).1.2.2.2.1, (f3 b hb).1.2.1, (f3 b hb).1.2.2.2.2.1, (f3 b hb).1.2.2.2.2.2⟩
      have nC : H5 s3.heap.objs.size = none := by
        have z : H5 ce.locals = none := I6.free
        rwa [cL] at z
      obtain ⟨m, hn, _⟩ := I6.loc
      have hn : s6.heap.Ns ce.locals m := hn
      rw [cL] at hn
      obtain ⟨f0, f1, f2, f3, f4, f5⟩ := I3.fpOk (H' := H5) (Nat.le_refl _) nC
      exact ⟨m, hn, fun h'' sb => ⟨.ref D, H5, I7.turned (t' := s6.toks) (fun b o hb e => (sb.2 b hb).trans e) f0 f1 f3 f4 f5, rfl, qq⟩⟩
    · refine thnF (T.item (blkH X s3 H3 scope ce fp) rfl rfl rfl hcB i [] s5 _ H5 (fun _ _ => False) I5 (stat I5 n5) st5 go) fun r s6 ⟨u, hr, h6⟩ => ?_
      subst hr
      refine thnF h6 fun _ s7 ⟨x, H7, I7, r7, y7, st7, n7⟩ => ?_
      refine thnF (pg.run _ s7 _ H7 x u _ (I7.pinned (stat I7 n7) (T.obj _ _ st7)) r7 (step x H7 y7)) fun _ s8 ⟨σ8, H8, I8, hw8, q8⟩ => ?_
      refine thnF (pt.run _ s8 σ8 H8 _ I8 q8) fun b s9 ⟨H9, I9, q9⟩ => ?_
      have fin : ∀ {s' : Shared} {H' : Hp}, Inv (blkH X s3 H3 scope ce fp) ([] ++ pinsAt fp s7.heap) σ8 H' s' → Nx H' → ∃ m, m < n ∧ ∃ i H', Inv (blkH X s3 H3 scope ce fp) [] (wipe σ (own.map (·.2))) H' s' ∧ tn i s'.heap ∧ (∀ b ∈ fp, H' b = none) ∧ W i m H' := fun {s' H'} I' nx => by
        obtain ⟨m', hm, w'⟩ := hNx H' nx
        have pin' : ∀ b ∈ fp, ∀ o, s7.heap.get? b = some o → s'.heap.get? b = some o ∧ H' b = none := fun b hb o e =>
          let z := I'.pin (b, o) (List.mem_append_right _ (List.mem_append_right _ (mem_pinsAt hb e)))
          ⟨z.1, z.2.1⟩
        refine ⟨m', hm, i + 1, H', (I'.unpinned (pins := [])).weak (by rw [← hw8, wipe_length]) (fun j v e => ?_), T.keep _ _ _ st7 fun b hb o e => (pin' b hb o e).1, fun b hb => ?_, w'⟩
        · rw [← hw8] at e
          exact (wipe_some e).1
        · obtain ⟨o, e, _⟩ := T.obj _ _ st7 b hb
          exact (pin' b hb o e).2
      cases b with
      | false =>
        simp only [Bool.false_eq_true, if_false] at q9 ⊢
        exact fin I9 q9
      | true =>
        simp only [if_true] at q9 ⊢
        refine thnF (pe.run _ s9 σ8 H9 _ I9 q9) fun z s10 ⟨yv, H10, I10, r10, acc, hD10, hz10, nx⟩ => ?_
        exact app_ok (X := blkH X s3 H3 scope ce fp) I10 hD10 hz10 r10 fun s11 I11 => fin I11 nx
end
end HotE
/-! L5j: defs called while an exception is handled, over data -/
namespace L3
open PySem PySem.Spec PyProof.Rows L2 L2H HotX HotE
section
variable {prog : Program} {w : World} {A : Around} {E : Value → Shared → Prop} {s : Shared}
theorem unpackL_hot {l x1 : Addr} {items : Array Value} {Q : List Value → Shared → Prop} (hot : HotAt A x1 s.heap) (ht : PlainL s.heap l items)
    (hQ : ∀ h', Heap.ExtBut s.heap.objs.size s.heap h' → Q items.toList { s with heap := h' }) : wpAny (model prog w) A (unpackItems (.ref l) items.size none) Q E s := by
  have hlt : l ≠ s.heap.objs.size := by obtain ⟨o, n, ho, _⟩ := ht; exact Nat.ne_of_lt (Heap.lt_size ho)
  have hx1 : x1 ≠ s.heap.objs.size := by obtain ⟨_, o1, _, h1, _⟩ := hot; exact Nat.ne_of_lt (Heap.lt_size h1)
  unfold unpackItems
  refine wpAny_bind ?_
  unfold notIterableAtAll
  refine wpAny_bind (wpAny_specialOf ht.isList.typeIs slot_list_iter.lookup (wpAny_pure ?_))
  simp only [Bool.false_eq_true, if_false]
  refine wpAny_bind (wpAny_holding (wpAny_pyIter_list ht.isList ?_))
  have ht0 : PlainL (s.heap.push { cls := .type "list_iterator", data := .fields #[.ref l, .int 0 0] }) l items := ht.keeps fun b o e => Heap.get?_push_of_some _ e
  refine wpAny_bind (wpAny_holding (draw_list hlt items.size 0 _ _ ⟨_, Heap.get?_push_size _ rfl, rfl, rfl⟩ ht0 (by omega) fun h₁ hit₁ hs₁ => ?_))
  rw [show List.take items.size (List.drop 0 items.toList) = items.toList by rw [List.drop_zero]; exact List.take_of_length_le (by simp), if_neg (by simp)]
  have ht₁ : PlainL h₁ l items := ht0.extBut hs₁.extBut hlt
  refine wpAny_bind (wpAny_holding (lst_end (hot_mono hot fun o e => hs₁.extBut _ _ hx1 (Heap.get?_push_of_some _ e)) hit₁ ht₁.isList (by simp) fun h₂ he₂ => ?_))
  simp only [Option.isSome_none, Bool.false_eq_true, if_false]
  exact wpAny_pure (hQ h₂ fun b o hb e => he₂ b o hb (hs₁.extBut b o hb (Heap.get?_push_of_some _ e)))
theorem assignL_hot {env : Env} {elts : List Expr} {k : Nat} {pos : Pos} {l x1 : Addr} {items : Array Value} {Q : Unit → Shared → Prop} (hot : HotAt A x1 s.heap) (ht : PlainL s.heap l items)
    (hn : (assignEach elts env).length = items.size) (hstar : (assignEach elts env).findIdx? (·.1) = none)
    (h : ∀ h', Heap.ExtBut s.heap.objs.size s.heap h' → wpAny (model prog w) A (assignInOrder ((assignEach elts env).map (·.2)) items.toList) Q E { s with heap := h' }) :
    wpAny (model prog w) A (assign (.Tuple elts k pos) env (.ref l)) Q E s := by
  rw [assign_Tuple]
  refine wpAny_bind (wpAny_standAt ?_)
  unfold unpack
  rw [hn, hstar]
  exact wpAny_bind (wpAny_holding (unpackL_hot hot ht h))
end
section
variable {X : Cx} {pos : Pos}
theorem pg_seqH {es : List Expr} {k : Nat} {t : TGs} {n : Nat} (hc : HotC X) (h : PGs X es t)
    (hn : (assignEach es X.env).length = n := by rfl) (hst : (assignEach es X.env).findIdx? (·.1) = none := by rfl) : PG X (.Tuple es k pos) (gSeqT X.K n t) := by
  refine ⟨fun pins s σ H v u Q I r hw => ?_⟩
  obtain ⟨a, xs, e1, hq, hl, hw⟩ := hw
  subst e1
  cases r
  obtain ⟨x1, hot⟩ := hc.at I
  rcases hq with hq | hq
  · obtain ⟨its, rv, ht, hz⟩ := I.tuple hq
    exact assign_hot hot ht (by simp [hn, ← hl, rv.length]) hst fun h' hx => h.run pins _ σ H xs _ Q (I.kept (t' := s.toks) fun b o e => hx b o (Nat.ne_of_lt (Heap.lt_size e)) e) (by simpa using rv) hw
  · obtain ⟨its, rv, ht, hz⟩ := I.list hq
    exact assignL_hot hot ht (by simp [hn, ← hl, rv.length]) hst fun h' hx => h.run pins _ σ H xs _ Q (I.kept (t' := s.toks) fun b o e => hx b o (Nat.ne_of_lt (Heap.lt_size e)) e) (by simpa using rv) hw
theorem pt_tpH {es : List Expr} {k : Nat} {ps : List Pat} (hc : HotC X) (h : PGs X es (tgsOf X.K ps)) (hn : (assignEach es X.env).length = ps.length := by rfl) (hst : (assignEach es X.env).findIdx? (·.1) = none := by rfl) : PG X (.Tuple es k pos) (tgOf X.K (.tp ps)) := pg_seqH hc h hn hst
theorem db_allH (hc : HotC X) : CallR X (.builtin "all") (liftC X.K bAll) := call_imp (cr_allH hc) fun vs H Q ⟨G, m, ds, Φ, rm, rd, q, k⟩ => by
  unfold bAll at q
  split at q
  · obtain ⟨v, rfl, h⟩ := rv1 rd
    obtain ⟨a, xs, ys, rfl, h1, h2, ns, rfl, h3⟩ := itemsL_lift rm h q
    have e := h2.bls
    subst e
    exact ⟨a, ns, rfl, h1, k G (.bl _) m _ H (Sub.refl G) rm rfl h3⟩
  · exact q.elim
/-- zip of two tuples -/
def iZipTD (qa : QA) : QI := fun s m Ξ => qa s m fun ds m1 => ∃ xs ys, ds = [.tup xs, .tup ys] ∧ Ξ (zipD xs ys) (fun _ => True) m1
theorem de_lcH {elt tg iter : Expr} {ifs : List Expr} {scope : Scope} {own : List (Str × Nat)} {qi : QI} {p : Pat} {qt : QT} {qe : QE} (hc : HotC X) (hN : X.N.Nodup) (hi : PIH X tg iter (liftI X.K qi)) (ok : BlkOk X.N X.env.scope scope own)
    (hg : ∀ (s : Shared) (H : Hp) (C : Addr) (cl : List (Str × Addr)) (fp : List Addr), PG (blkH X s H scope (compEnvC scope cl C X.env) fp) tg (tgOf X.K p))
    (ht : ∀ (s : Shared) (H : Hp) (C : Addr) (cl : List (Str × Addr)) (fp : List Addr), PTs (blkH X s H scope (compEnvC scope cl C X.env) fp) ifs (liftT X.K qt))
    (he : ∀ (s : Shared) (H : Hp) (C : Addr) (cl : List (Str × Addr)) (fp : List Addr), PE (blkH X s H scope (compEnvC scope cl C X.env) fp) elt (liftE X.K qe))
    (hv : ∀ i ∈ slots p, i ∈ own.map (·.2) := by decide) (hs : ∀ x, foldedSetIterable iter X.env x = pure x := by intro _; rfl) :
    PE X (.ListComp elt [⟨tg, iter, ifs, 0⟩] scope pos) (liftE X.K (qLc qi p qt qe (own.map (·.2)))) := pe_imp (pe_lcH hc hN hi ok hg ht he hs) (lift_lc hv)
end
/-! ### defs -/
def FnDH (P : Program) (w : World) (K : PySem.W.Frag) (mg : Str → Option Value) (base : Heap) (k : Nat) (f : Addr) (sp : LSp) : Prop := ∃ fd ps, FnH P w K mg base CX0 k f fd ps (liftSp K sp) ∧ Binds K fd ps []
abbrev cxBH (P : Program) (w : World) (K : PySem.W.Frag) (mg : Str → Option Value) (base : Heap) (N : List Str) (qual : Str) (st : Stmt) (f : Addr) (cdv : Value) (A : Around) (outer : List Env) (s : Shared) (H : Hp) (E : XK) (p : Addr × Obj) : Cx := (cxH CX0 P w K mg base N qual (defScope st) f cdv A outer s H E p).nox
section
variable {P : Program} {w : World} {K : PySem.W.Frag} {mg : Str → Option Value} {base : Heap}
theorem hot_body {N : List Str} {qual : Str} {st : Stmt} {f : Addr} {cdv : Value} {A : Around} {outer : List Env} {s : Shared} {H : Hp} {E : XK} {p : Addr × Obj} (h : Hot1 A p) : HotC (cxBH P w K mg base N qual st f cdv A outer s H E p) := ⟨p, h, List.mem_singleton.mpr rfl⟩
theorem defH_ofW {x qual : Str} {st : Stmt} {f : Addr} {fd : FuncData} {N ps : List Str} {k : Nat} {sp : LSp} {qb : QS} (F : Fun K x qual st f fd) (hb : Binds K fd ps []) (S : FnScope N ps (defScope st)) (len : ∀ ds m Φ, sp ds m Φ → ds.length = ps.length)
    (hd : ∀ (cdv : Value) (A : Around) (outer : List Env) (s : Shared) (H : Hp) (E : XK) (p : Addr × Obj), Hot1 A p → RoomH k (A.deeper (envOfC qual (defScope st) s.heap.objs.size f cdv)) → PSs (cxBH P w K mg base N qual st f cdv A outer s H E p) (defBody st) (liftS K qb))
    (h : ∀ ds m Φ, sp ds m Φ → qb (bodyW Φ) (begin_ N.length ds) m) : FnDH P w K mg base (k + 1) f sp := by
  obtain ⟨oc, od, kV, doc, pm, an, cdv, ct, osl, rfl, lk, hcd⟩ := F.ex
  refine ⟨_, ps, fn_ofH lk hcd S (fun vs H Q E hs => ?_) fun A outer s H vs Q E p hot hr hs => ⟨liftS K qb, PSs.nox (hd cdv A outer s H E p hot hr), body_liftW h hs⟩, hb⟩
  obtain ⟨G, m, ds, Φ, rm, rd, q, k⟩ := hs
  rw [← rd.length]; exact len ds m Φ q
theorem hu64H {k : Nat} {A : Around} (r : RoomH k A) : A.units + 64 < cLine := by have := r.un; omega
end
section
variable {X : Cx} {k : Nat} {f : Addr} {x : Str} {p pos : Pos} {e : Expr} {es : List Expr}
theorem de_callH {sp : LSp} {qa : QA} (F : FnDH X.prog X.w X.K X.mg X.base k f sp) (hr : RoomH k X.A) (hc : HotC X) (hg : Gl X x) (hm : X.mg x = some (.ref f)) (hk : PySem.W.keepIn X.K (.ref f) = true)
    (ha : PA X (e :: es) (liftA X.K qa)) (hdb : (x == ("__debug__" : Str)) = false := by decide) (he : starEach (e :: es) X.env = (false, eval e X.env) :: starEach es X.env := by rfl) (hpl : (backTo pos (starEach es X.env)).any (·.1) = false := by rfl) :
    PE X (.Call (.Name x p) (e :: es) [] pos) (liftE X.K (qCall sp qa)) := by
  obtain ⟨fd, ps, F, hb⟩ := F
  exact pe_imp (pe_callH (E := fun _ => E0) F hr hc hg hm hk hb (fun _ _ _ _ _ _ _ h => h.elim) ha hdb he hpl) lift_call
/-- an except suite is such a context -/
theorem hot_suite {a : Addr} {oe : Obj} {cls : Value} {d : Option Addr} {pn : List (Addr × Obj)} (hz : L2N.Zn cls d oe) (hf : ∃ vs, oe.data = .fields vs) : HotC (X.suite a ((a, oe) :: pn)) := by
  obtain ⟨vs, hd⟩ := hf
  exact ⟨(a, oe), ⟨rfl, vs, hd, hz.2.2 vs hd⟩, List.mem_cons_self⟩
theorem room_suite {a : Addr} {pn : List (Addr × Obj)} (hr : Room k X.A) : RoomH k (X.suite a pn).A := ⟨hr.dp, hr.un⟩
end
end L3
/-! L5k: what the written part says of an exception class that is raised and caught -/
namespace L3
open PySem PySem.Spec PyProof.Rows L2 L2H HotX HotE
def ClsLk (K : PySem.W.Frag) (C : Addr) : Prop := ∃ nm q N bs bm sn sub ab col dd k0 k1 k2 k3 k5, K.lookup C = some (excClassObj nm q C N bs bm true sn sub ab col dd k0 k1 k2 k3 k5 "ValueError.__new__") ∧ PySem.HandSPX.refsVE bm = true
structure ExK (K : PySem.W.Frag) (mg : Str → Option Value) (x : Str) (C fI : Addr) (f : Str) : Prop where
  gx : mg x = some (.ref C)
  oex : OexC K C
  xf : XfC K C
  xc : ExcC K C
  no : PySem.W.findIn K (.ref C) f = some none
  ini : PySem.W.findIn K (.ref C) "__init__" = some (some (.ref fI))
  ti : PySem.W.typeIn K (.ref fI) = some (.type "function")
theorem cls_some {K : PySem.W.Frag} {D : Addr} (h : PySem.W.hasDictIn K D = true) : (PySem.W.clsIn K D).isSome = true := by
  obtain ⟨cd, hc, _⟩ := PySem.W.any_some h
  rw [hc]; rfl
theorem kitc_of {K : PySem.W.Frag} {t : Value} {D : Addr} {b : Bool} (h1 : PySem.W.hasDictIn K D = true) (h2 : PySem.W.typeIn K (.ref D) = some (.type "type")) (h3 : PySem.W.subIn K t (.ref D) = some b) : PySem.W.kitCls K t (.ref D) = some b := by
  show (if ((PySem.W.clsIn K D).isSome && PySem.W.typeIn K (.ref D) == some (.type "type")) = true then PySem.W.subIn K t (.ref D) else none) = some b
  rw [cls_some h1, h2]
  exact h3
theorem exm_of {K : PySem.W.Frag} {t : Value} {D : Addr} {b : Bool} (h0 : PySem.W.subIn K (.ref D) (.type "BaseException") = some true) (h1 : PySem.W.hasDictIn K D = true) (h2 : PySem.W.typeIn K (.ref D) = some (.type "type")) (h3 : PySem.W.subIn K t (.ref D) = some b) : PySem.W.exmOne K t (.ref D) = some b := by
  unfold PySem.W.exmOne
  rw [h0]
  exact kitc_of h1 h2 h3
theorem kit_of {K : PySem.W.Frag} {t : Value} {D : Addr} {b : Bool} (h0 : (t == .ref D) = false) (h1 : PySem.W.hasDictIn K D = true) (h2 : PySem.W.typeIn K (.ref D) = some (.type "type")) (h3 : PySem.W.subIn K t (.ref D) = some b) : PySem.W.kitOne K t (.ref D) = some b := by
  unfold PySem.W.kitOne
  rw [h0]
  exact kitc_of h1 h2 h3
theorem fndH_false {P : Program} {w : World} {K : PySem.W.Frag} {mg : Str → Option Value} {base : Heap} {f : Addr} {fd : FuncData} {ps : List Str} {sp : LSp} (hb : Binds K fd ps []) (h : ∀ ds m Φ, sp ds m Φ → False) : FnDH P w K mg base 0 f sp :=
  ⟨fd, ps, ⟨fun _ _ _ _ ⟨_, _, _, _, _, _, q, _⟩ => (h _ _ _ q).elim, fun _ _ _ _ _ _ _ _ _ _ _ _ _ _ _ _ ⟨_, _, _, _, _, _, q, _⟩ => (h _ _ _ q).elim⟩, hb⟩
end L3
set_option maxHeartbeats 2000000
/-! L6d: laws several of whose defs make lambdas; isinstance of an exception of one of several classes; calls by name that may raise -/
namespace L3
open PySem PySem.Spec PyProof.Rows L2 LamX
/-! ### several tables -/
def spLawTs (K : PySem.W.Frag) (Ps : List Addr) : Sp := fun vs H Q _ => ∃ (a : Addr) (ns : List Int), vs = [.ref a] ∧ (∀ P ∈ Ps, H P = some (.tbl #[])) ∧ SqL K H a (ns.map V.int) ∧ ns.length ≤ 63 ∧ ∀ H', Q (.bl true) H'
def lspLawTs (T : List (Addr × Str)) : LSp := fun ds m Φ => ∃ ns : List Int, ds = [.lst (ns.map D.int)] ∧ ns.length ≤ 63 ∧ (∀ p ∈ T, m p.1 = some (.tab p.2)) ∧ (∀ a, (∀ p ∈ T, a ≠ p.1) → m a = none) ∧ ∀ m', Φ (.bl true) m'
theorem law_impTs {K : PySem.W.Frag} {T : List (Addr × Str)} (hnd : (T.map (·.1)).Nodup) : ∀ vs H Q E, spLawTs K (T.map (·.1)) vs H Q E → liftSp K (lspLawTs T) vs H Q E := by
  rintro vs H Q E ⟨a, ns, h1, hP, h2, h3, h4⟩
  have look : ∀ (T : List (Addr × Str)), (T.map (·.1)).Nodup → ∀ p ∈ T, T.lookup p.1 = some p.2 := by
    intro T
    induction T with
    | nil => intro _ p hp; simp at hp
    | cons x T ih =>
      intro nd p hp
      have nd := List.nodup_cons.mp (show (x.1 :: T.map (·.1)).Nodup from nd)
      rw [List.lookup_cons]
      rcases List.mem_cons.mp hp with rfl | hp
      · simp
      · have : (p.1 == x.1) = false := by
          apply beq_false_of_ne
          intro z
          exact nd.1 (by rw [← z]; exact List.mem_map.mpr ⟨p, hp, rfl⟩)
        rw [this]
        exact ih nd.2 p hp
  have look2 : ∀ (T : List (Addr × Str)) (b : Addr) (q : Str), T.lookup b = some q → (b, q) ∈ T := by
    intro T
    induction T with
    | nil => intro b q h; simp at h
    | cons x T ih =>
      intro b q h
      rw [List.lookup_cons] at h
      by_cases e : b = x.1
      · subst e
        simp at h
        subst h
        exact List.mem_cons_self
      · rw [beq_false_of_ne e] at h
        exact List.mem_cons_of_mem _ (ih b q h)
  have isP : ∀ b, b ∈ T.map (·.1) → H b = some (.tbl #[]) := hP
  have haP : ∀ {o : HO}, H a = some o → (∀ ps, o ≠ .tbl ps) → a ∉ T.map (·.1) := fun e n z => by rw [isP a z] at e; exact n _ (Option.some.inj e).symm
  let G : Hp := fun b => if b ∈ T.map (·.1) then none else H b
  have hl : SqL K G a (ns.map V.int) := by
    rcases h2 with (h2 | ⟨o, h2⟩) | h2
    · exact .inl (.inl ((if_neg (haP h2 fun ps z => nomatch z)).trans h2))
    · exact .inl (.inr ⟨o, (if_neg (haP h2 fun ps z => nomatch z)).trans h2⟩)
    · exact .inr h2
  refine ⟨G, fun b => (T.lookup b).map AO.tab, [.lst (ns.map D.int)], fun d _ => d = .bl true, ⟨fun b o e => ?_, fun b o e => ?_⟩, ?_, ?_, ?_⟩
  · by_cases hb : b ∈ T.map (·.1)
    · have e : (if b ∈ T.map (·.1) then none else H b) = some o := e
      rw [if_pos hb] at e; cases e
    · have e : (if b ∈ T.map (·.1) then none else H b) = some o := e
      rw [if_neg hb] at e; exact e
  · cases z : T.lookup b with
    | none => rw [z] at e; cases e
    | some q =>
      rw [z] at e
      cases e
      have hm := look2 T b q z
      have hb : b ∈ T.map (·.1) := List.mem_map.mpr ⟨_, hm, rfl⟩
      refine ⟨if_pos hb, _, isP b hb, #[], rfl, trivial, fun pos cv z => ?_⟩
      have z : codeAmong pos [] = some cv := z
      simp [codeAmong] at z
  · subst h1
    exact ⟨_, [], rfl, ⟨a, _, rfl, hl, RVs.of_ints ns⟩, rfl⟩
  · refine ⟨ns, rfl, h3, fun p hp => ?_, fun b hb => ?_, fun _ => rfl⟩
    · show (T.lookup p.1).map AO.tab = _
      rw [look T hnd p hp]; rfl
    · show (T.lookup b).map AO.tab = _
      cases z : T.lookup b with
      | none => rfl
      | some q => exact absurd rfl (hb _ (look2 T b q z))
  · intro G1 d m1 v H1 e1 r1 rd q1
    subst q1
    obtain rfl : v = .bl true := rd
    exact h4 H1
theorem _root_.L2.FnOk.imp_lawTs {P : Program} {w : World} {K : PySem.W.Frag} {mg : Str → Option Value} {base : Heap} {CX : CXT} {k : Nat} {f : Addr} {T : List (Addr × Str)} {fd : FuncData} {ps : List Str} (hnd : (T.map (·.1)).Nodup) (F : FnOk P w K mg base CX k f fd ps (liftSp K (lspLawTs T))) : FnOk P w K mg base CX k f fd ps (spLawTs K (T.map (·.1))) := F.imp (law_impTs hnd)
theorem walk_Ts {l : PySem.W.OpenLaw} {q : Program} {loose : List Str} {XP : (Str → Option Value) → Heap → Prop} {YP : World → Heap → Prop} {d : DefRec} {K : Params → PySem.W.Frag} {x : Str} {kk : Nat} (hn : l.most = some 63) (hdf : d.params.defaults = []) (hr : Room kk callerA)
    (hY : ∀ (w : World) (h : Heap), YP w h → (K w.params).In h)
    (F : ∀ (w : World) (mg : Str → Option Value) (fa : Addr) (h : Heap) (s₀ : Shared) (mb : Str → Option Value), PySem.W.Ground q loose [] XP w s₀ mg mb h → (K w.params).In h → h.Ns mainGlobals mg → mg d.name = some (.ref fa) →
      ∃ (fd : FuncData) (cs : List (Addr × Addr)), (∀ p ∈ cs, h.get? p.2 = some { cls := .none, data := .fields #[] }) ∧ (∀ p ∈ cs, (K w.params).lookup p.2 = none) ∧ (∀ p ∈ cs, PySem.W.CodeHd h p.1 p.2) ∧ (∀ (s : Shared) (u : Value), BindsTo s fd ⟨[u], []⟩ [(x, u)]) ∧
        ∀ base : Heap, (K w.params).In base → base.Ns mainGlobals mg → (∀ p ∈ cs, LamX.TabB base mg p.1 p.2) → FnOk l.prog w (K w.params) mg base CX0 kk fa fd [x] (spLawTs (K w.params) (cs.map (·.2)))) :
    PySem.W.WalkO q loose XP YP l.row.toRowW d [] (fun f vs => PySem.call f vs) := by
  refine Att.attach_callB hn hdf fun w s₀ s₁ mg mb fa o pm cd doc a vs ns G Y ho hd hcd hmg hobj hints hlen hbits hg => ?_
  have KX := hY w _ Y
  obtain ⟨fd, cs, hP, nP, C, hb, hF⟩ := F w mg fa _ s₀ mb G KX G.T.g hmg
  refine LamX.law_callTs (cs := cs) KX G.T.g G.T.b G.T.builtins G.T.nolimit hg hP nP C G.T.bmain hobj hints (Nat.le_trans hlen (by decide)) hr (fun base h1 h2 h3 => hF base h1 h2 h3) hb (fun H hH hS => ?_) fun H e s' z => z
  refine ⟨a, ns, rfl, fun P hPm => ?_, hS, hlen, fun _ => rfl⟩
  obtain ⟨p, hp, rfl⟩ := List.mem_map.mp hPm
  exact hH p hp
/-! ### isinstance of the exception in hand, of one of several classes -/
def qIsEm (a : Addr) (cls : Value) (od : Option Addr) (T : List (Addr × Bool)) (qe : QE) : QE := fun s m Φ => ∃ C b, (C, b) ∈ T ∧ cls = .ref C ∧ qe s m fun x m1 => x = .ref a ∧ ∃ dd fs, od = some dd ∧ m1 dd = some (.xd fs) ∧ Φ (.bl b) m1
theorem de_isEm {X : Cx} {a D : Addr} {oe : Obj} {cls : Value} {d : Option Addr} {pn : List (Addr × Obj)} {x : Str} {e : Expr} {qe : QE} {p p2 pos : Pos} {T : List (Addr × Bool)} (hT : ∀ t ∈ T, ExcC X.K t.1 ∧ PySem.W.kitOne X.K (.ref t.1) (.ref D) = some t.2) (hz : Zc cls d oe) (hf : ∃ vs, oe.data = .fields vs) (hg : Gl X "isinstance") (hm : X.mg "isinstance" = none)
    (hx : Gl X x) (hmx : X.mg x = some (.ref D)) (he : PE (X.suite a ((a, oe) :: pn)) e (liftE X.K qe)) (hdb : (x == ("__debug__" : Str)) = false := by decide)
    (hs : starEach (e :: [.Name x p2]) X.env = (false, eval e X.env) :: starEach [.Name x p2] X.env := by rfl) (hs2 : starEach (.Name x p2 :: []) X.env = (false, eval (.Name x p2) X.env) :: starEach [] X.env := by rfl) (hpl : (backTo pos (starEach [.Name x p2] X.env)).any (·.1) = false := by rfl) :
    PE (X.suite a ((a, oe) :: pn)) (.Call (.Name "isinstance" p) [e, .Name x p2] [] pos) (liftE X.K (qIsEm a cls d T qe)) := by
  refine ⟨fun pins s σ H Q I h => ?_⟩
  obtain ⟨G, s0, m, Φ, rm, rs, ⟨C, b, hC, ec, q⟩, k⟩ := h
  obtain ⟨h1, h2⟩ := hT _ hC
  exact (de_isE h1 hz hf hg hm hx hmx h2 he hdb hs hs2 hpl).run pins s σ H Q I ⟨G, s0, m, Φ, rm, rs, ⟨ec, q⟩, k⟩
/-! ### defs with default values; calls by name -/
section
variable {P : Program} {w : World} {K : PySem.W.Frag} {mg : Str → Option Value} {base : Heap}
end
section
variable {X : Cx} {E : XK} {k : Nat} {f : Addr} {fd : FuncData} {ps ks : List Str} {x : Str} {p pos : Pos} {e : Expr} {es : List Expr} {kws : List Keyword} {n kk : Nat} {is : List Nat} {sp : LSpE} {qa qk : QA}
end
end L3
/-! L4c: steps over slices, joined lists, lists of any kind -/
namespace L4
open PySem PySem.Spec PyProof.Rows L2 L3
section
variable {s : DSt} {m : Mem} {Φ : DK} {qe : QE} {ql qh : QO} {w x y : D} {xs ys : List D}
def SlK (x : D) (l u : Option Int) (m3 : Mem) (Φ : DK) : Prop := match x with
  | .lst ds => Φ (.lst (L3.cutD ds l u)) m3
  | .ref a => ∃ ds, m3 a = some (.lst ds) ∧ Φ (.lst (L3.cutD ds l u)) m3
  | _ => False
def PartK (x : D) (m1 : Mem) (F : Option Int → Mem → Prop) : Prop := match x with | .int i => F (some i) m1 | _ => False
end
end L4
/-! L3t: texts: str(i), int(x), f-strings, partition, a text walked, a sign in a text -/
namespace L3
open PySem PySem.Spec PyProof.Rows L2
section
variable {X : Cx}
def bStr : LSp := fun ds m Φ => match ds with | [.int i] => i.natAbs.log2 < 1920 ∧ Φ (.str (toString i)) m | _ => False
def bIntS : LSp := fun ds m Φ => match ds with | [.str a] => ∃ n, PySem.intText? a = some n ∧ a.length ≤ 640 ∧ Φ (.int n) m | _ => False
/-! ### f-strings -/
def FmtK (x : D) (m1 : Mem) (Φ : DK) : Prop := match x with
  | .str y => y.length ≤ sizeLine ∧ Φ (.str y) m1
  | .int i => i.natAbs.log2 < 1920 ∧ Φ (.str (toString i)) m1
  | _ => False
def qFmt (qe : QE) : QE := fun s m Φ => qe s m fun x m1 => FmtK x m1 Φ
def qJs : List QE → Str → DSt → Mem → (Str → Mem → Prop) → Prop
  | [], acc, _, m, F => F acc m
  | q :: qs, acc, s, m, F => q s m fun x m1 => ∃ y, x = .str y ∧ (acc ++ y).length ≤ sizeLine ∧ qJs qs (acc ++ y) s m1 F
def qJoin (qs : List QE) : QE := fun s m Φ => qJs qs Str.empty s m fun out m1 => Φ (.str out) m1
inductive PJD (X : Cx) : List Expr → List QE → Prop where
  | nil : PJD X [] []
  | cons {e : Expr} {q : QE} {es : List Expr} {qs : List QE} (h : PE X e (liftE X.K q)) (r : PJD X es qs) : PJD X (e :: es) (q :: qs)
/-! ### partition -/
def PartnK (x y : D) (m : Mem) (Φ : DK) : Prop := match x, y with
  | .str a, .str b => (b.length == 0) = false ∧ a.length ≤ sizeLine ∧ Φ (.tup [.str (Txt.partition a b).1, .str (Txt.partition a b).2.1, .str (Txt.partition a b).2.2]) m
  | _, _ => False
def qPartn (qo qe : QE) : QE := fun s m Φ => qo s m fun x m1 => (∃ a, x = .str a) ∧ qe s m1 fun y m2 => PartnK x y m2 Φ
/-! ### a text walked, a sign in a text -/
def signs (z : Str) : List D := z.cps.toList.map fun c => .str ⟨#[c]⟩
def StrK (x : D) (m1 : Mem) (Ξ : List D → (Mem → Prop) → Mem → Prop) : Prop := match x with
  | .str z => Ξ (signs z) (fun _ => True) m1
  | _ => False
def iSigns (qe : QE) : QI := fun s m Φ => qe s m fun x m1 => StrK x m1 Φ
def vInS : D → D → Mem → DK → Prop := fun x y m Φ => match x, y with
  | .str ⟨⟨[c]⟩⟩, .str z => Φ (.bl (decide (c ∈ z.cps.toList))) m
  | _, _ => False
end
section
variable {s : DSt} {m : Mem} {Φ : DK} {qe qo : QE}
end
end L3
namespace L3
open PySem PySem.Spec PyProof.Rows L2
/-- a list times an int -/
def qRep : D → D → Mem → DK → Prop := fun x y m Φ => match x, y with
  | .ref a, .int k => ∃ xs, m a = some (.lst xs) ∧ -(2 ^ 63) ≤ k ∧ k < 2 ^ 63 ∧ xs.length * k.toNat ≤ sizeLine ∧ ∀ p, m p = none → Φ (.ref p) (mset m p (.lst (List.replicate k.toNat xs).flatten))
  | _, _ => False
end L3
namespace L3
open PySem PySem.Spec PyProof.Rows L2
end L3
/-! L6e: a text times an int; text.split(sep) -/
namespace L3
open PySem PySem.Spec PyProof.Rows L2
section
variable {X : Cx}
def qMulS : D → D → Mem → DK → Prop := fun x y m Φ => match x, y with
  | .str a, .int k => MulOk a k ∧ Φ (.str (PySem.Txt.mul a k)) m
  | _, _ => False
def SplK (x y : D) (m : Mem) (Φ : DK) : Prop := match x, y with
  | .str a, .str b => (b.length == 0) = false ∧ a.length + 2 ≤ sizeLine ∧ ∀ p, m p = none → Φ (.ref p) (mset m p (.lst ((PySem.Txt.split a b).map D.str)))
  | _, _ => False
def qSplit (qo qe : QE) : QE := fun s m Φ => qo s m fun x m1 => (∃ a, x = .str a) ∧ qe s m1 fun y m2 => SplK x y m2 Φ
end
section
variable {s : DSt} {m : Mem} {Φ : DK} {qe qo : QE}
end
end L3
/-! L6f: calls by name that leave a default value -/
namespace L3
open PySem PySem.Spec PyProof.Rows L2
def pickD {α : Type} (n k : Nat) (is : List Nat) (ex us ws : List α) : List α := if us.length = n ∧ ws.length = k then pick is ((us ++ ws) ++ ex) else []
def KwDB (K : PySem.W.Frag) (fd : FuncData) (ps ks : List Str) (n : Nat) (is : List Nat) (dvs : List V) : Prop := ∃ its : List Value, Vals dvs its ∧ KBinds K fd ps ks (pickD n ks.length is its) (pickD n ks.length is dvs)
def qCallKD (sp : LSp) (k : Nat) (is : List Nat) (dds : List D) (qk : QA) : QE := fun s m Φ => qk s m fun es m2 => es.length = k ∧ sp (pick is (es ++ dds)) m2 Φ
section
variable {X : Cx} {k kk : Nat} {f : Addr} {fd : FuncData} {ps ks : List Str} {x : Str} {p pos : Pos} {kws : List Keyword} {is : List Nat} {sp : LSp} {qk : QA} {dds : List D} {dvs : List V}
end
end L3
/-! L6g: calls by name, of a def with default values, that leave none of them -/
namespace L3
open PySem PySem.Spec PyProof.Rows L2
end L3
/-! L3w: own ==, isinstance of own classes, C(.., k = v, ..), dicts with tuple keys, slices and joins of texts -/
namespace L3
open PySem PySem.Spec PyProof.Rows L2
section
variable {X : Cx}
/-! ### x == y by an own __eq__ -/
theorem op_ownEq {C f : Addr} {n : Nat} {sp : Sp} (F : FnR X.prog X.w X.K X.mg X.base CX0 n f sp) (hr : Room n X.A) (hs : PySem.W.findIn X.K (.ref C) "__eq__" = some (some (.ref f))) (hf : PySem.W.isFn X.K (.ref f) = true) :
    OpR X (compareOp .Eq) (fun x y H Q => ∃ a b dx dy fs gs, x = .ref a ∧ y = .ref b ∧ H a = some (.ins C dx fs) ∧ H b = some (.ins C dy gs) ∧ sp [.ref a, .ref b] H (fun v H' => ∃ c, v = .bl c ∧ Q v H') E0) := by
  intro pins s σ H x y u v Q I rx ry d
  obtain ⟨a, b, dx, dy, fs, gs, rfl, rfl, ha, hb', hsp⟩ := d
  cases rx
  cases ry
  show wpAny (model X.prog X.w) X.A (richCompare .Eq _ _) (EP X pins σ Q) X.xe s
  obtain ⟨mA, J, _⟩ := ins_get I.hok ha
  obtain ⟨mB, J', _⟩ := ins_get I.hok hb'
  obtain ⟨od, J, _⟩ := J.look
  obtain ⟨od', J', _⟩ := J'.look
  obtain ⟨m, hF⟩ := I.fr
  refine PySem.W.cmp_K (op := .Eq) (tb := .ref C) hr.units0 hF I.ok.mod.kin J J'.type (by simp [PySem.W.notFirst]) hs hf ?_
  have r2 : Vals [V.ref a, V.ref b] [Value.ref a, Value.ref b] := .cons rfl (.cons rfl .nil)
  refine wpAny_call (codeAny_mono (F X.A X.stack s H [.ref a, .ref b] [.ref a, .ref b] _ E0 hr I.env0 r2 hsp) fun r s' hq => ?_)
  cases r with
  | error e => exact (pass0 pins σ H s e s' I hq : _)
  | ok fl =>
    cases fl with
    | ret w =>
      obtain ⟨z, H', I', rz, c, ez, q⟩ := I.after hq
      subst ez
      obtain rfl : w = Value.bool c := rz
      exact ⟨.bl c, H', I', rfl, q⟩
    | next => exact False.elim hq
    | brk => exact False.elim hq
    | cont => exact False.elim hq
def vEqO (C : Addr) (sp : LSp) : D → D → Mem → DK → Prop := fun x y m Φ => match x, y with
  | .ref a, .ref b => (∃ fs, m a = some (.ins C fs)) ∧ (∃ gs, m b = some (.ins C gs)) ∧ sp [.ref a, .ref b] m fun d m1 => match d with | .bl c => Φ (.bl c) m1 | _ => False
  | _, _ => False
theorem do_eqO {C f : Addr} {n : Nat} {sp : LSp} (F : FnD X.prog X.w X.K X.mg X.base n f sp) (hr : Room n X.A) (hs : PySem.W.findIn X.K (.ref C) "__eq__" = some (some (.ref f))) (hf : PySem.W.isFn X.K (.ref f) = true) : OpR X (compareOp .Eq) (liftR X.K (vEqO C sp)) :=
  op_imp (op_ownEq F hr hs hf) fun x y H Q ⟨G, m, dx, dy, Φ, rm, rx, ry, q, k⟩ => by
    unfold vEqO at q
    split at q
    · rename_i a b
      obtain rfl : x = .ref a := rx
      obtain rfl : y = .ref b := ry
      obtain ⟨⟨fs, h1⟩, ⟨gs, h2⟩, q⟩ := q
      obtain ⟨_, u, hu, d1, xs, rfl, _⟩ := rm.mem a _ h1
      obtain ⟨_, w, hw, d2, ys, rfl, _⟩ := rm.mem b _ h2
      refine ⟨a, b, d1, d2, xs, ys, rfl, rfl, hu, hw, G, m, _, _, rm, RVs.cons (show RV X.K G (.ref a) (.ref a) from rfl) (RVs.cons (show RV X.K G (.ref b) (.ref b) from rfl) (show RVs X.K G [] [] from rfl)), q, fun G1 d m1 v H1 e1 r1 rv q1 => ?_⟩
      cases d with
      | bl c =>
        obtain rfl : v = .bl c := rv
        exact ⟨c, rfl, k G1 (.bl c) m1 _ H1 e1 r1 rfl q1⟩
      | _ => exact q1.elim
    · exact q.elim
/-! ### isinstance of an instance of an own class -/
def qIsC (C : Addr) (b : Bool) (qe : QE) : QE := fun s m Φ => qe s m fun x m1 => match x with
  | .ref a => (∃ fs, m1 a = some (.ins C fs)) ∧ Φ (.bl b) m1
  | _ => False
/-! ### texts -/
def qSlS (qe : QE) (ql qh : QO) : QE := fun s m Φ => qe s m fun x m1 => ql s m1 fun l m2 => qh s m2 fun u m3 => match x with
  | .str z => z.length ≤ sizeLine ∧ Φ (.str (cutS z l u)) m3
  | _ => False
/-- a.join(xs), xs a list that never changes -/
def qJoinL (qo qe : QE) : QE := fun s m Φ => qo s m fun x m1 => (∃ a, x = .str a) ∧ qe s m1 fun y m2 => match x, y with
  | .str a, .lst ds => ∃ ys : List Str, ds = ys.map D.str ∧ (ys.map (·.length)).sum + ys.length * a.length ≤ 16777216 ∧ Φ (.str (Txt.join a ys)) m2
  | _, _ => False
/-- a.index(b), there -/
def mIndexS : D → LSp := fun x ds m Φ => match x, ds with
  | .str a, [.str b] => ∃ (i : Nat) (rest : List Nat), Builtin.Str.occurrences a b 0 a.length 1 = i :: rest ∧ Φ (.int (i : Nat)) m
  | _, _ => False
/-- len(set(xs)), xs a list or tuple of no text or one -/
def qLenSet (qe : QE) : QE := fun s m Φ => qe s m fun x m1 => match x with
  | .lst ds => ∃ ys : List Str, ds = ys.map D.str ∧ ys.length ≤ 1 ∧ Φ (.int ys.length) m1
  | .tup ds => ∃ ys : List Str, ds = ys.map D.str ∧ ys.length ≤ 1 ∧ Φ (.int ys.length) m1
  | _ => False
/-! ### C(e, .., k = v, ..) -/
def qMakeK (C : Addr) (sp : LSp) (n kk : Nat) (is : List Nat) (qa qk : QA) : QE := fun s m Φ => qa s m fun ds m1 => qk s m1 fun es m2 => (ds.length = n ∧ es.length = kk) ∧ ∀ a, m2 a = none → sp (pick is (.ref a :: (ds ++ es))) (mset m2 a (.ins C [])) fun d m3 => match d with | .non => Φ (.ref a) m3 | _ => False
structure KwM (K : PySem.W.Frag) (fd : FuncData) (ps ks : List Str) (n : Nat) (is : List Nat) : Prop where
  kb : KBn K fd ps (n + 1) ks (fun us ws => pick is (us ++ ws)) (fun vs zs => pick is (vs ++ zs))
/-! ### dicts with tuple keys -/
/-- {(..): v} -/
def qDispT1 (qa : QA) (qv : QE) : QE := fun s m Φ => ∀ p, m p = none → qa s (mset m p (.dT [])) fun ds m1 => ds.length ≤ sizeLine ∧ qv s m1 fun y m2 => m2 p = some (.dT []) ∧ ∃ k, keysD ds = some k ∧ Φ (.ref p) (mset m2 p (.dT [(k, y)]))
/-- d.get((..), z) -/
def qDGetT (qd : QE) (qa : QA) (qz : QE) : QE := fun s m Φ => qd s m fun x m1 => match x with
  | .ref a => (∃ ks, m1 a = some (.dT ks)) ∧ qa s m1 fun ds m2 => ds.length ≤ sizeLine ∧ qz s m2 fun z m3 => ∃ ks k, m3 a = some (.dT ks) ∧ keysD ds = some k ∧ Φ ((valD ks k).getD z) m3
  | _ => False
/-- {k: v}, the key a tuple that was just made -/
def tDispT1 (tk tv : TE) : TE := fun σ H Q => ∀ p, H p = none → tk σ (upd H p (.dT [])) fun x H1 => tv σ H1 fun y H2 => H2 p = some (.dT []) ∧ ∃ (ks : List Key) (b : Addr), x = .ref b ∧ H2 b = some (.tup (ks.map kV)) ∧ Q (.ref p) (upd H2 p (.dT [(ks, y)]))
/-! ### a text in a list or tuple of texts; texts as constants of the module -/
def vInX (neg : Bool) : D → D → Mem → DK → Prop := fun x y m Φ => match x, y with
  | .str w, .tup ds => ∃ ys : List Str, ds = ys.map D.str ∧ Φ (.bl (if neg then !decide (w ∈ ys) else decide (w ∈ ys))) m
  | .str w, .lst ds => ∃ ys : List Str, ds = ys.map D.str ∧ Φ (.bl (if neg then !decide (w ∈ ys) else decide (w ∈ ys))) m
  | _, _ => False
end
end L3
/-! len(set(xs)) of texts all unlike -/
namespace SN
open PySem PySem.Spec PyProof.Rows
section
variable {prog : Program} {w : World} {A : Around} {R : Result → Shared → Prop} {I : Addr} {fp wr : List Addr} {G : Array GenState → Array GenState → Prop} {n : Nat} {P : Nat → Value → Prop} {St : Nat → Shared → Prop}
end
section
variable {prog : Program} {w : World} {A : Around} {E : Value → Shared → Prop} {s : Shared}
abbrev emptyS (led : Bool) : Obj := { cls := .type "set", dict := none, data := .set #[] 0 (.fresh 0 0 led) }
end
end SN
namespace L2
open PySem PySem.Spec PyProof.Rows
/-- len(set(xs)), xs a list of texts all unlike -/
def tLenSetN (K : PySem.W.Frag) (ta : TE) : TE := fun σ H Q => ta σ H fun x H1 => ∃ l, ∃ xs : List Str, x = .ref l ∧ SqL K H1 l (xs.map V.str) ∧ xs.Nodup ∧ xs.length < 60 ∧ Q (.int xs.length) H1
end L2
namespace L3
open PySem L2
def qLenSetN (qe : QE) : QE := fun s m Φ => qe s m fun x m1 => match x with
  | .lst ds => ∃ ys : List Str, ds = ys.map D.str ∧ ys.Nodup ∧ ys.length < 60 ∧ Φ (.int ys.length) m1
  | _ => False
end L3
/-! L7s: len(set(xs)) of any texts, a list or a tuple -/
namespace SM
open PySem PySem.Spec PyProof.Rows SN
/-- how many unlike texts stand among the first i -/
def nset (xs : List Str) : Nat → Nat
  | 0 => 0
  | i + 1 => if decide (xs.getD i Str.empty ∈ xs.take i) = true then nset xs i else nset xs i + 1
section
variable {prog : Program} {w : World} {A : Around} {R : Result → Shared → Prop} {I : Addr} {fp wr : List Addr} {G : Array GenState → Array GenState → Prop} {n : Nat} {P : Nat → Value → Prop} {St : Nat → Shared → Prop}
end
section
variable {prog : Program} {w : World} {A : Around} {E : Value → Shared → Prop} {s : Shared}
end
end SM
namespace L2
open PySem PySem.Spec PyProof.Rows
/-- len(set(xs)), xs a list or a tuple of texts -/
def tLenSetM (K : PySem.W.Frag) (ta : TE) : TE := fun σ H Q => ta σ H fun x H1 => ∃ l, ∃ xs : List Str, x = .ref l ∧ (SqL K H1 l (xs.map V.str) ∨ SqT K H1 l (xs.map V.str)) ∧ xs.length < 60 ∧ Q (.int (SM.nset xs xs.length)) H1
end L2
namespace L3
open PySem L2
def qLenSetM (qe : QE) : QE := fun s m Φ => qe s m fun x m1 => ∃ ys : List Str, ItemsAt x m1 (ys.map D.str) ∧ ys.length < 60 ∧ Φ (.int (SM.nset ys ys.length)) m1
end L3
set_option maxHeartbeats 2000000
/-! L7a: constructors and methods that may raise; keyword-only parameters with defaults -/
namespace L3
open PySem PySem.Spec PyProof.Rows L2
section
variable {X : Cx} {E : XK} {k n kk : Nat} {f C : Addr} {fd : FuncData} {ps ks : List Str} {is : List Nat} {x m : Str} {p pos apos : Pos} {e o : Expr} {es : List Expr} {kws : List Keyword} {sp : LSpE} {qa qk : QA} {qo : QE} {dds : List D} {mz : List V}
/-- the binding of C(.., k = v, ..): keyword-only parameters that lack stand last -/
def KwC (K : PySem.W.Frag) (fd : FuncData) (ps ks : List Str) (n : Nat) (is : List Nat) (mz : List V) : Prop := ∃ mv : List Value, KBn K fd ps n ks (fun us ws => pick is ((us ++ ws) ++ mv)) (fun vs zs => pick is ((vs ++ zs) ++ mz))
def zMakeK (C : Addr) (sp : LSpE) (n kk : Nat) (is : List Nat) (dds : List D) (qa qk : QA) : QX := fun s m Φ Ψ => qa s m fun ds m1 => qk s m1 fun es m2 => (ds.length = n ∧ es.length = kk) ∧ ∀ a, m2 a = none →
  sp (pick is ((.ref a :: ds ++ es) ++ dds)) (mset m2 a (.ins C [])) (fun d m3 => match d with | .non => Φ (.ref a) m3 | _ => False) Ψ
/-- o.m(e, ..), which may raise -/
def zMeth (C : Addr) (m : Str) (sp : LSpE) (qo : QE) (qa : QA) : QX := fun s mm Φ Ψ => qo s mm fun x m1 => match x with
  | .ref a => ∃ fs, m1 a = some (.ins C fs) ∧ fs.lookup m = none ∧ qa s m1 fun ds m2 => sp (x :: ds) m2 Φ Ψ
  | _ => False
/-- o.m(k = v, ..), which may raise -/
def zMethK (C : Addr) (m : Str) (sp : LSpE) (kk : Nat) (is : List Nat) (qo : QE) (qk : QA) : QX := fun s mm Φ Ψ => qo s mm fun x m1 => match x with
  | .ref a => ∃ fs, m1 a = some (.ins C fs) ∧ fs.lookup m = none ∧ qk s m1 fun es m2 => es.length = kk ∧ sp (pick is (x :: es)) m2 Φ Ψ
  | _ => False
/-- o.m(k = v, ..) -/
def qMethK (C : Addr) (m : Str) (sp : LSp) (kk : Nat) (is : List Nat) (qo : QE) (qk : QA) : QE := fun s mm Φ => qo s mm fun x m1 => match x with
  | .ref a => ∃ fs, m1 a = some (.ins C fs) ∧ fs.lookup m = none ∧ qk s m1 fun es m2 => es.length = kk ∧ sp (pick is (x :: es)) m2 Φ
  | _ => False
/-- a if c else b, which may raise -/
def zIfE (qc : QT) (a b : QX) : QX := fun s m Φ Ψ => qIfE qc (fun s m Φ => a s m Φ Ψ) (fun s m Φ => b s m Φ Ψ) s m Φ
/-- an expression that may raise, where it does not -/
def zNo (q : QX) : QE := fun s m Φ => q s m Φ fun _ _ _ => False
/-- return e, which may raise -/
def sRetX (q : QX) : DXs → QS := fun Ψ E s m => q s m E.rt fun cls od m1 => Ψ cls od s m1
/-- e as a statement, which may raise -/
def sExprX (q : QX) : DXs → QS := fun Ψ E s m => q s m (fun _ m1 => E.nx s m1) fun cls od m1 => Ψ cls od s m1
end
section
variable {P : Program} {w : World} {K : PySem.W.Frag} {mg : Str → Option Value} {base : Heap}
end
section
variable {s : DSt} {m : Mem} {Φ : DK} {Ψ : DXe} {DX : DXs} {E : DE} {q : QX} {qa qk : QA} {sp : LSpE}
end
end L3
set_option maxHeartbeats 2000000
/-! L7b: repr of own objects, own == against anything, isinstance of anything and an own class, joins, t[::-1] -/
namespace HT
open PySem PySem.SeqAt PyProof.Rows
section
variable {prog : Program} {w : World} {A : Around} {E : Value → Shared → Prop} {s : Shared}
theorem adjust_rev (n : Nat) : Builtin.Slice.sliceAdjust none none (-1) (n : Int) = ((n : Int) - 1, -1) := rfl
end
end HT
namespace L3
open PySem PySem.Spec PyProof.Rows L2
section
variable {X : Cx}
/-! ### repr(x), x of an own class -/
def bReprO (C : Addr) (sp : LSp) : LSp := fun ds m Φ => match ds with
  | [.ref a] => (∃ fs, m a = some (.ins C fs)) ∧ sp [.ref a] m fun d m1 => match d with | .str z => Φ (.str z) m1 | _ => False
  | _ => False
/-! ### x == y by an own __eq__, y an object of the class, a tuple or a text -/
def vEqA (C : Addr) (sp : LSp) : D → D → Mem → DK → Prop := fun x y m Φ => match x with
  | .ref a => (∃ fs, m a = some (.ins C fs)) ∧ ((∃ b fs, y = .ref b ∧ m b = some (.ins C fs)) ∨ (∃ ds, y = .tup ds) ∨ ∃ z, y = .str z) ∧ sp [.ref a, y] m fun d m1 => match d with | .bl c => Φ (.bl c) m1 | _ => False
  | _ => False
/-! ### isinstance(x, C), x an object of the class, a tuple or a text -/
def qIsCA (C : Addr) (qe : QE) : QE := fun s m Φ => qe s m fun x m1 => ((∃ a fs, x = .ref a ∧ m1 a = some (.ins C fs)) ∧ Φ (.bl true) m1) ∨ (((∃ ds, x = .tup ds) ∨ ∃ z, x = .str z) ∧ Φ (.bl false) m1)
/-! ### a.join(xs), xs a list or a tuple that never changes -/
def qJoinA (qo qe : QE) : QE := fun s m Φ => qo s m fun x m1 => (∃ a, x = .str a) ∧ qe s m1 fun y m2 => match x with
  | .str a => ∃ ys : List Str, (y = .lst (ys.map D.str) ∨ y = .tup (ys.map D.str)) ∧ (ys.map (·.length)).sum + ys.length * a.length ≤ 16777216 ∧ Φ (.str (Txt.join a ys)) m2
  | _ => False
/-! ### t[::-1] -/
def qRevT (qe : QE) : QE := fun s m Φ => qe s m fun x m1 => match x with
  | .tup ds => Φ (.tup ds.reverse) m1
  | _ => False
end
end L3
set_option maxHeartbeats 2000000
/-! L7c: enumerate over a list or a tuple; slices of a list or a tuple; a value frozen if it is a list that may change -/
namespace EnX
open PySem PySem.W PyProof.Rows
end EnX
namespace L2
open PySem PySem.Spec PyProof.Rows
/-- the tuple at a, each item in a new pair -/
def IteT (K : PySem.W.Frag) (a : Addr) : It :=
  ⟨fun i H => ∃ (xs : List V) (x : V), SqT K H a xs ∧ xs[i]? = some x, fun i H v H' => ∃ T x, v = .ref T ∧ H T = none ∧ H' = upd H T (.tup [.int (i : Nat), x]) ∧ ∀ xs, SqT K H a xs → xs[i]? = some x, fun i H => ∃ xs : List V, SqT K H a xs ∧ xs.length ≤ i⟩
section
variable {X : Cx}
end
end L2
namespace L3
open PySem PySem.Spec PyProof.Rows L2
section
variable {X : Cx} {e : Expr} {qe : QE} {qa : QA}
/-- enumerate(x), x a list or a tuple that never changes -/
def iEnumA (qa : QA) : QI := fun s m Φ => iEnumD qa s m Φ ∨ qa s m fun ds m1 => match ds with
  | [.tup xs] => Φ (enumD xs 0) (fun _ => True) m1
  | _ => False
/-- x[lo:hi], x a list or a tuple -/
def qSlA (qe : QE) (ql qh : QO) : QE := fun s m Φ => qSlL qe ql qh s m Φ ∨ qSlT qe ql qh s m Φ
/-- frozen, if it is a list that may change -/
def qFzA (qe : QE) : QE := fun s m Φ => qe s m fun d m1 => (∃ a ds, d = .ref a ∧ m1 a = some (.lst ds) ∧ Φ (.lst ds) (mdel m1 a)) ∨ Φ d m1
end
end L3
namespace L3
open PySem PySem.Spec PyProof.Rows L2
section
variable {X : Cx}
/-- w in xs, w a text, xs a list of texts that may change -/
def vInR (neg : Bool) : D → D → Mem → DK → Prop := fun x y m Φ => match x, y with
  | .str w, .ref a => ∃ ys : List Str, m a = some (.lst (ys.map D.str)) ∧ Φ (.bl (if neg then !decide (w ∈ ys) else decide (w ∈ ys))) m
  | _, _ => False
/-- x[lo:hi], x a list that never changes, the new one may -/
def qSlLM (qe : QE) (ql qh : QO) : QE := fun s m Φ => qe s m fun x m1 => ql s m1 fun l m2 => qh s m2 fun u m3 => match x with
  | .lst ds => ∀ p, m3 p = none → Φ (.ref p) (mset m3 p (.lst (cutD ds l u)))
  | _ => False
end
end L3
/-! L7d: tuple + tuple -/
namespace L3
open PySem PySem.Spec PyProof.Rows L2
section
variable {X : Cx}
def qAddT : D → D → Mem → DK → Prop := fun x y m Φ => match x, y with
  | .tup xs, .tup ys => xs.length + ys.length ≤ sizeLine ∧ Φ (.tup (xs ++ ys)) m
  | _, _ => False
end
end L3
/-! L8a: own __contains__, __len__, __bool__ -/
namespace L3
open PySem PySem.Spec PyProof.Rows L2
section
variable {X : Cx}
/-- a call of an own method that gives a bool, inside a builtin's way -/
theorem own_bool {pins : List (Addr × Obj)} {s : Shared} {σ : L2.St} {H : Hp} {A : Around} {f : Addr} {n : Nat} {sp : Sp} {xs : List V} {us : List Value} {Q : Bool → Hp → Prop} (F : FnR X.prog X.w X.K X.mg X.base CX0 n f sp) (hr : Room n A) (I : L2.Inv X pins σ H s) (e0 : Env0 X.prog X.w X.K X.mg X.base A X.stack s H)
    (r : Vals xs us) (h : sp xs H (fun v H' => ∃ c, v = .bl c ∧ Q c H') E0) : wpAny (model X.prog X.w) A (call (.ref f) us) (fun u s' => ∃ c, u = Value.bool c ∧ ∃ H', L2.Inv X pins σ H' s' ∧ Q c H') X.xe s := by
  refine wpAny_call (codeAny_mono (F A X.stack s H us xs _ E0 hr e0 r h) fun r s' hq => ?_)
  cases r with
  | error e => exact (pass0 pins σ H s e s' I hq : _)
  | ok fl =>
    cases fl with
    | ret w =>
      obtain ⟨z, H', I', rz, c, ez, q⟩ := I.after hq
      subst ez
      obtain rfl : w = Value.bool c := rz
      exact ⟨c, rfl, H', I', q⟩
    | next => exact False.elim hq
    | brk => exact False.elim hq
    | cont => exact False.elim hq
theorem own_int {pins : List (Addr × Obj)} {s : Shared} {σ : L2.St} {H : Hp} {A : Around} {f : Addr} {n : Nat} {sp : Sp} {xs : List V} {us : List Value} {Q : Int → Hp → Prop} (F : FnR X.prog X.w X.K X.mg X.base CX0 n f sp) (hr : Room n A) (I : L2.Inv X pins σ H s) (e0 : Env0 X.prog X.w X.K X.mg X.base A X.stack s H)
    (r : Vals xs us) (h : sp xs H (fun v H' => ∃ c, v = .int c ∧ Q c H') E0) : wpAny (model X.prog X.w) A (call (.ref f) us) (fun u s' => ∃ c tk, u = Value.int c tk ∧ ∃ H', L2.Inv X pins σ H' s' ∧ Q c H') X.xe s := by
  refine wpAny_call (codeAny_mono (F A X.stack s H us xs _ E0 hr e0 r h) fun r s' hq => ?_)
  cases r with
  | error e => exact (pass0 pins σ H s e s' I hq : _)
  | ok fl =>
    cases fl with
    | ret w =>
      obtain ⟨z, H', I', rz, c, ez, q⟩ := I.after hq
      subst ez
      obtain ⟨tk, rfl⟩ := (show ∃ t, w = Value.int c t from rz)
      exact ⟨c, tk, rfl, H', I', q⟩
    | next => exact False.elim hq
    | brk => exact False.elim hq
    | cont => exact False.elim hq
theorem op_ownIn {C f : Addr} {n : Nat} {sp : Sp} (F : FnR X.prog X.w X.K X.mg X.base CX0 n f sp) (hr : Room n X.A) (hs : PySem.W.findIn X.K (.ref C) "__contains__" = some (some (.ref f))) (hf : PySem.W.isFn X.K (.ref f) = true) :
    OpR X (compareOp .In) (fun x y H Q => ∃ a dx fs, y = .ref a ∧ H a = some (.ins C dx fs) ∧ sp [.ref a, x] H (fun v H' => ∃ c, v = .bl c ∧ Q (.bl c) H') E0) := by
  intro pins s σ H x y v u Q I rx ry ⟨a, dx, fs, ey, ha, hsp⟩
  subst ey
  obtain rfl : u = Value.ref a := ry
  obtain ⟨mA, J, _⟩ := ins_get I.hok ha
  obtain ⟨od, J, _⟩ := J.look
  obtain ⟨m, hF⟩ := I.fr
  refine PySem.W.in_K hF I.ok.mod.kin J hs hf (wpAny_mono (own_bool (Q := fun c H' => Q (.bl c) H') (xs := [.ref a, x]) F hr I I.env0 (.cons rfl (.cons rx .nil)) hsp) (fun r s' hq => ?_) fun _ _ z => z)
  obtain ⟨c, rfl, H', I', q⟩ := hq
  exact wpAny_truthy_bool ⟨.bl c, H', I', rfl, q⟩
theorem op_ownNotIn {C f : Addr} {n : Nat} {sp : Sp} (F : FnR X.prog X.w X.K X.mg X.base CX0 n f sp) (hr : Room n X.A) (hs : PySem.W.findIn X.K (.ref C) "__contains__" = some (some (.ref f))) (hf : PySem.W.isFn X.K (.ref f) = true) :
    OpR X (compareOp .NotIn) (fun x y H Q => ∃ a dx fs, y = .ref a ∧ H a = some (.ins C dx fs) ∧ sp [.ref a, x] H (fun v H' => ∃ c, v = .bl c ∧ Q (.bl !c) H') E0) := by
  intro pins s σ H x y v u Q I rx ry ⟨a, dx, fs, ey, ha, hsp⟩
  subst ey
  obtain rfl : u = Value.ref a := ry
  obtain ⟨mA, J, _⟩ := ins_get I.hok ha
  obtain ⟨od, J, _⟩ := J.look
  obtain ⟨m, hF⟩ := I.fr
  refine PySem.W.notIn_K hF I.ok.mod.kin J hs hf (wpAny_mono (own_bool (Q := fun c H' => Q (.bl !c) H') (xs := [.ref a, x]) F hr I I.env0 (.cons rfl (.cons rx .nil)) hsp) (fun r s' hq => ?_) fun _ _ z => z)
  obtain ⟨c, rfl, H', I', q⟩ := hq
  exact wpAny_truthy_bool ⟨.bl !c, H', I', rfl, q⟩
/-- x in o, x not in o, o of the own class at C -/
def vInO (C : Addr) (sp : LSp) (neg : Bool) : D → D → Mem → DK → Prop := fun x y m Φ => match y with
  | .ref a => (∃ fs, m a = some (.ins C fs)) ∧ sp [.ref a, x] m fun d m1 => match d with | .bl c => Φ (.bl (c != neg)) m1 | _ => False
  | _ => False
theorem inO_lift {C : Addr} {sp : LSp} {neg : Bool} {x y : V} {H : Hp} {Q : VK} (h : liftR X.K (vInO C sp neg) x y H Q) : ∃ a dx fs, y = .ref a ∧ H a = some (.ins C dx fs) ∧ liftSp X.K sp [.ref a, x] H (fun v H' => ∃ c, v = .bl c ∧ Q (.bl (c != neg)) H') E0 := by
  obtain ⟨G, m, dx, dy, Φ, rm, rx, ry, q, k⟩ := h
  unfold vInO at q
  split at q
  · rename_i a
    obtain rfl : y = .ref a := ry
    obtain ⟨⟨fs, h1⟩, q⟩ := q
    obtain ⟨_, u, hu, d1, xs, rfl, _⟩ := rm.mem a _ h1
    refine ⟨a, d1, xs, rfl, hu, G, m, _, _, rm, RVs.cons (show RV X.K G (.ref a) (.ref a) from rfl) (RVs.cons rx (show RVs X.K G [] [] from rfl)), q, fun G1 d m1 v H1 e1 r1 rv q1 => ?_⟩
    cases d with
    | bl c =>
      obtain rfl : v = .bl c := rv
      exact ⟨c, rfl, k G1 (.bl (c != neg)) m1 _ H1 e1 r1 rfl q1⟩
    | _ => exact q1.elim
  · exact q.elim
theorem do_inO {C f : Addr} {n : Nat} {sp : LSp} (F : FnD X.prog X.w X.K X.mg X.base n f sp) (hr : Room n X.A) (hs : PySem.W.findIn X.K (.ref C) "__contains__" = some (some (.ref f))) (hf : PySem.W.isFn X.K (.ref f) = true) : OpR X (compareOp .In) (liftR X.K (vInO C sp false)) :=
  op_imp (op_ownIn F hr hs hf) fun x y H Q h => by
    have h := inO_lift h
    simp only [Bool.bne_false] at h
    exact h
theorem do_notInO {C f : Addr} {n : Nat} {sp : LSp} (F : FnD X.prog X.w X.K X.mg X.base n f sp) (hr : Room n X.A) (hs : PySem.W.findIn X.K (.ref C) "__contains__" = some (some (.ref f))) (hf : PySem.W.isFn X.K (.ref f) = true) : OpR X (compareOp .NotIn) (liftR X.K (vInO C sp true)) :=
  op_imp (op_ownNotIn F hr hs hf) fun x y H Q h => by
    have h := inO_lift h
    simp only [Bool.bne_true] at h
    exact h
/-- len(o) -/
theorem call_lenO {C f : Addr} {n : Nat} {sp : Sp} (F : FnR X.prog X.w X.K X.mg X.base CX0 n f sp) (hr : Room (n + 1) X.A) (hs : PySem.W.findIn X.K (.ref C) "__len__" = some (some (.ref f))) (hf : PySem.W.isFn X.K (.ref f) = true) :
    CallR X (.builtin "len") (fun xs H Q => ∃ a dx fs, xs = [.ref a] ∧ H a = some (.ins C dx fs) ∧ sp [.ref a] H (fun v H' => ∃ z : Int, v = .int z ∧ (0 ≤ z ∧ z < 2 ^ 63) ∧ Q v H') E0) := by
  intro pins s σ H xs us Q I r h
  obtain ⟨a, dx, fs, rfl, ha, hsp⟩ := h
  obtain ⟨u, rfl, ru⟩ := vals1 r
  obtain rfl : u = Value.ref a := ru
  obtain ⟨mA, J, _⟩ := ins_get I.hok ha
  obtain ⟨od, J, _⟩ := J.look
  obtain ⟨m, hF⟩ := I.fr
  have hsp : sp [.ref a] H (fun v H' => ∃ z : Int, v = .int z ∧ ((0 ≤ z ∧ z < 2 ^ 63) ∧ Q (.int z) H')) E0 := by
    have e : (fun v H' => ∃ z : Int, v = .int z ∧ (0 ≤ z ∧ z < 2 ^ 63) ∧ Q v H') = (fun v H' => ∃ z : Int, v = V.int z ∧ ((0 ≤ z ∧ z < 2 ^ 63) ∧ Q (.int z) H')) := by
      funext v H'
      exact propext ⟨fun ⟨z, h1, h2, h3⟩ => ⟨z, h1, h2, h1 ▸ h3⟩, fun ⟨z, h1, h2, h3⟩ => ⟨z, h1, h2, h1 ▸ h3⟩⟩
    exact e ▸ hsp
  refine PySem.W.len_K hF I.ok.mod.kin J hs hf (wpAny_mono (own_int (xs := [.ref a]) F hr.in1 I I.env0.in1 (.cons rfl .nil) hsp) (fun r s' hq => ?_) fun _ _ z => z)
  obtain ⟨c, tk, rfl, H', I', hc, q⟩ := hq
  exact ⟨hc, .int c, H', I'.kept (t' := s'.toks + 1) (h' := s'.heap) fun b o e => e, ⟨_, rfl⟩, q⟩
def bLenO (C : Addr) (sp : LSp) : LSp := fun ds m Φ => match ds with
  | [.ref a] => (∃ fs, m a = some (.ins C fs)) ∧ sp [.ref a] m fun d m1 => match d with | .int z => (0 ≤ z ∧ z < 2 ^ 63) ∧ Φ (.int z) m1 | _ => False
  | _ => False
theorem db_lenO {C f : Addr} {n : Nat} {sp : LSp} (F : FnD X.prog X.w X.K X.mg X.base n f sp) (hr : Room (n + 1) X.A) (hs : PySem.W.findIn X.K (.ref C) "__len__" = some (some (.ref f))) (hf : PySem.W.isFn X.K (.ref f) = true) : CallR X (.builtin "len") (liftC X.K (bLenO C sp)) := call_imp (call_lenO F hr hs hf) fun vs H Q ⟨G, m, ds, Φ, rm, rd, q, k⟩ => by
  unfold bLenO at q
  split at q
  · rename_i a
    obtain ⟨v, rfl, h⟩ := rv1 rd
    obtain rfl : v = .ref a := h
    obtain ⟨⟨fs, h1⟩, q⟩ := q
    obtain ⟨_, u, hu, d1, xs, rfl, _⟩ := rm.mem a _ h1
    refine ⟨a, d1, xs, rfl, hu, G, m, _, _, rm, RVs.cons (show RV X.K G (.ref a) (.ref a) from rfl) (show RVs X.K G [] [] from rfl), q, fun G1 d m1 v H1 e1 r1 rv q1 => ?_⟩
    cases d with
    | int c =>
      obtain rfl : v = .int c := rv
      exact ⟨c, rfl, q1.1, k G1 (.int c) m1 _ H1 e1 r1 rfl q1.2⟩
    | _ => exact q1.elim
  · exact q.elim
/-- o, as a test, by its own __bool__ -/
theorem tru_own {C f : Addr} {n : Nat} {sp : Sp} (F : FnR X.prog X.w X.K X.mg X.base CX0 n f sp) (hr : Room n X.A) (hs : PySem.W.findIn X.K (.ref C) "__bool__" = some (some (.ref f))) (hf : PySem.W.isFn X.K (.ref f) = true) :
    TruR X (fun x H Q => ∃ a dx fs, x = .ref a ∧ H a = some (.ins C dx fs) ∧ sp [.ref a] H (fun v H' => ∃ c, v = .bl c ∧ Q c H') E0) := by
  intro pins s σ H x v Q I rx ⟨a, dx, fs, ex, ha, hsp⟩
  subst ex
  obtain rfl : v = Value.ref a := rx
  obtain ⟨mA, J, _⟩ := ins_get I.hok ha
  obtain ⟨od, J, _⟩ := J.look
  obtain ⟨m, hF⟩ := I.fr
  refine PySem.W.truthy_K hF I.ok.mod.kin J hs hf (wpAny_mono (own_bool (xs := [.ref a]) F hr I I.env0 (.cons rfl .nil) hsp) (fun r s' hq => ?_) fun _ _ z => z)
  obtain ⟨c, rfl, H', I', q⟩ := hq
  exact ⟨H', I', q⟩
def qTruO (C : Addr) (sp : LSp) (qe : QE) : QT := fun s m Φ => qe s m fun x m1 => match x with
  | .ref a => (∃ fs, m1 a = some (.ins C fs)) ∧ sp [.ref a] m1 fun d m2 => match d with | .bl c => Φ c m2 | _ => False
  | _ => False
theorem dt_truO {C f : Addr} {n : Nat} {sp : LSp} {a : Expr} {qe : QE} (F : FnD X.prog X.w X.K X.mg X.base n f sp) (hr : Room n X.A) (hs : PySem.W.findIn X.K (.ref C) "__bool__" = some (some (.ref f))) (hf : PySem.W.isFn X.K (.ref f) = true) (h : PE X a (liftE X.K qe))
    (he : ∀ whole, isTrue a X.env whole = (do let v ← whole; standAt a.pos; holding [v] (truthy v)) := by intro _; rfl) : PT X a (liftT X.K (qTruO C sp qe)) :=
  pt_imp (pt_truthR h (tru_own F hr hs hf) he) fun σ H Q ⟨G, s, m, Φ, rm, rs, q, k⟩ => ⟨G, s, m, _, rm, rs, q, fun G1 x m1 v H1 e1 r1 rx q1 => by
    cases x with
    | ref a =>
      obtain rfl : v = .ref a := rx
      obtain ⟨⟨fs, h1⟩, q1⟩ := q1
      obtain ⟨_, u, hu, d1, xs, rfl, _⟩ := r1.mem a _ h1
      refine ⟨a, d1, xs, rfl, hu, G1, m1, _, _, r1, RVs.cons (show RV X.K G1 (.ref a) (.ref a) from rfl) (show RVs X.K G1 [] [] from rfl), q1, fun G2 d m2 v H2 e2 r2 rv q2 => ?_⟩
      cases d with
      | bl c =>
        obtain rfl : v = .bl c := rv
        exact ⟨c, rfl, k G2 c m2 H2 (e1.trans e2) r2 q2⟩
      | _ => exact q2.elim
    | _ => exact q1.elim⟩
end
end L3
set_option maxHeartbeats 2000000
/-! L8b: a lambda with one parameter handed to a def, with a value, that calls it with this value and takes its exceptions -/
namespace LamX
open PySem PySem.Spec PyProof.Rows L2
/-- one parameter p, no name of its own else: captured ones and globals -/
structure LamS1 (sc scope : Scope) (p : Str) : Prop where
  kind : scope.kind = .function
  co : scope.isCoroutine = false
  gen : scope.isGenerator = false
  own : ∀ y ∈ scope.names, y.2 ≠ .cell ∧ (y.2 = .local → y.1 = p)
  par : scope.names.lookup p = some .local
  free : ∀ y ∈ scope.names, y.2 = .free → sc.names.lookup y.1 = some .cell ∨ sc.names.lookup y.1 = some .free
def lamS1B (sc scope : Scope) (p : Str) : Bool :=
  decide (scope.kind = .function) && !scope.isCoroutine && !scope.isGenerator && (scope.names.all fun y => !decide (y.2 = .cell) && (!decide (y.2 = .local) || decide (y.1 = p)) && (!decide (y.2 = .free) || decide (sc.names.lookup y.1 = some .cell) || decide (sc.names.lookup y.1 = some .free))) && decide (scope.names.lookup p = some .local)
theorem lamS1_by {sc scope : Scope} {p : Str} (h : lamS1B sc scope p = true) : LamS1 sc scope p := by
  unfold lamS1B at h
  simp only [Bool.and_eq_true, Bool.or_eq_true, Bool.not_eq_true', decide_eq_true_eq, decide_eq_false_iff_not, List.all_eq_true] at h
  obtain ⟨⟨⟨⟨h1, h2⟩, h3⟩, h4⟩, h5⟩ := h
  refine ⟨h1, h2, h3, fun y hy => ⟨(h4 y hy).1.1, fun e => ?_⟩, h5, fun y hy e => ?_⟩
  · rcases (h4 y hy).1.2 with z | z
    · exact absurd e z
    · exact z
  · rcases (h4 y hy).2 with (z | z) | z
    · exact absurd e z
    · exact .inl z
    · exact .inr z
theorem LamS1.has {X : Cx} {scope : Scope} {p : Str} (L : LamS1 X.env.scope scope p) (ok : X.Ok) : ∀ y ∈ scope.names, y.2 = .free → ∃ c, X.env.cells.lookup y.1 = some c := fun y hy e => by
  rcases L.free y hy e with k | k
  · exact ok.has _ (.inl k)
  · exact ok.has _ (.inr k)
theorem nodup_ix : ∀ {N : List Str}, N.Nodup → ∀ {i j : Nat} {y : Str}, N[i]? = some y → N[j]? = some y → i = j
  | [], _, i, j, y, hi, _ => by simp at hi
  | x :: N, h, i, j, y, hi, hj => by
    have hx := (List.nodup_cons.mp h).1
    have hn := (List.nodup_cons.mp h).2
    cases i with
    | zero =>
      cases j with
      | zero => rfl
      | succ j =>
        simp at hi hj
        subst hi
        exact absurd (List.mem_of_getElem? hj) hx
    | succ i =>
      cases j with
      | zero =>
        simp at hi hj
        subst hj
        exact absurd (List.mem_of_getElem? hi) hx
      | succ j =>
        simp at hi hj
        rw [nodup_ix hn hi hj]
/-- the context of the lambda's body; an exception that leaves it has no context of its own -/
def lamCxN (X : Cx) (A : Around) (outer : List Env) (s : Shared) (H : Hp) (E : XK) (scope : Scope) (f c' : Addr) : Cx := { lamCx X A outer s H E scope f c' with
  xe := fun e s' => wpAny (model X.prog X.w) (A.deeper (lamEnv X scope s.heap.objs.size f c')) (leaving (lamEnv X scope s.heap.objs.size f c') e) (fun _ s'' => L2N.CX X.prog X.w outer H s E e s'') (fun e' s'' => L2N.CX X.prog X.w outer H s E e' s'') s' }
section
variable {X : Cx} {pins : List (Addr × Obj)} {σ : L2.St} {H HZ : Hp} {s s1 : Shared}
theorem lam_start3 {A : Around} {outer : List Env} {E : XK} {scope : Scope} {f c' : Addr} {h₁ : Heap} {tk : Nat} {p : Str} {j : Nat} {v : V} {u : Value} (I : Inv X pins σ H s) (L : LamS1 X.env.scope scope p) (e0 : Env0 X.prog X.w X.K X.mg X.base A outer s1 HZ) (hd : A.handled = none)
    (un : Un (frs X.stack) [] H HZ s.heap s1.heap) (hns : h₁.Ns s1.heap.objs.size fun y => ([(p, u)] : List (Str × Value)).reverse.lookup y) (kp : ∀ b o, s1.heap.get? b = some o → h₁.get? b = some o)
    (hj : X.N[j]? = some p) (hnd : X.N.Nodup) (ru : RelV v u) :
    Inv (lamCxN X A outer s1 HZ E scope f c') [] (σ.set j (some v)) HZ { s1 with heap := h₁, toks := tk } := by
  have hfree := L.has I.ok
  have cm : ∀ {y c}, (cloFrom X.env.cells scope.names []).lookup y = some c → X.env.cells.lookup y = some c := fun {y c} e => by
    rcases cloFrom_mem (PySem.mem_of_lookup e) with hm | ⟨h1, h2⟩
    · cases hm
    · obtain ⟨c1, hc⟩ := hfree _ h1 rfl
      have hc : X.env.cells.lookup y = some c1 := hc
      have e2 : c = c1 := by
        rw [h2, hc] <;> rfl
      rw [e2]
      exact hc
  have look : ∀ {y}, scope.names.lookup y = some .free → ∃ c, (cloFrom X.env.cells scope.names []).lookup y = some c := fun {y} hl => by
    have hy : (y, NameKind.free) ∈ scope.names := PySem.mem_of_lookup hl
    exact mem_lookup (cloFrom_has (cells := X.env.cells) (acc := []) hy)
  have cellK : ∀ {c : Addr} {v : Option Value}, H c = none → s.heap.IsCell c v → h₁.IsCell c v := fun {c v} n ⟨o, ho, hd⟩ => by
    obtain ⟨sl, q⟩ := un.any ho n (by simp)
    exact ⟨_, kp _ _ q, hd⟩
  have noA : ∀ b : Addr, b ∉ (lamCxN X A outer s1 HZ E scope f c').ex := fun b z => absurd (show b ∈ ([] : List Addr) from z) (by simp)
  refine ⟨⟨e0.mod, L.kind, rfl, rfl, Nat.le_refl _, fun y z c e1 e2 => I.ok.inj y z c (cm e1) (cm e2), fun y hy => ?_, fun y c z _ => ?_, fun _ => hd, Around.frames_deeper e0.frames, .inr ⟨rfl, rfl⟩, fun b z => absurd z (noA b), e0.bs, e0.bsz, fun b _ _ => noA b,
      fun b z => absurd z (noA b), e0.funs, e0.frf⟩,
    rfl, e0.bare, Un.kept kp, ⟨_, hns, fun i y v' e1 e2 e3 => ?_⟩, fun y c e => ?_, e0.hok.fresh (Nat.le_refl _), fun y c e => ?_, fun q hq => absurd (show q ∈ ([] : List (Addr × Obj)) ++ [] from hq) (by simp), e0.hok.kept kp, by rw [List.length_set]; exact I.len⟩
  · have hy : scope.names.lookup y = some .cell ∨ scope.names.lookup y = some .free := hy
    rcases hy with hy | hy
    · exact absurd rfl (L.own _ (PySem.mem_of_lookup hy)).1
    · exact look hy
  · have z : false = true := z
    cases z
  · have e3 : Vis scope y := e3
    have e1 : X.N[i]? = some y := e1
    by_cases hij : j = i
    · subst hij
      rw [hj] at e1
      cases e1
      rw [List.getElem?_set_self (by rw [I.len]; exact (List.getElem?_eq_some_iff.mp hj).1)] at e2
      cases e2
      exact ⟨u, ru, .inl ⟨L.par, by simp⟩⟩
    · rw [List.getElem?_set_ne hij] at e2
      rcases e3 with k | k | k
      · have z : y = p := (L.own _ (PySem.mem_of_lookup k)).2 rfl
        subst z
        exact absurd (nodup_ix hnd hj e1) hij
      · exact absurd rfl (L.own _ (PySem.mem_of_lookup k)).1
      · obtain ⟨m, hn, hl⟩ := I.loc
        have hvis : Vis X.env.scope y := (L.free _ (PySem.mem_of_lookup k) rfl).elim (fun k => .inr (.inl k)) (fun k => .inr (.inr k))
        obtain ⟨w', r, q⟩ := hl i y v' e1 e2 hvis
        obtain ⟨c2, h2⟩ := look k
        refine ⟨w', r, .inr ⟨.inr k, c2, h2, ?_⟩⟩
        have c1 := cm h2
        rcases q with ⟨k', _⟩ | ⟨_, c3, e', z⟩
        · have k' : X.env.scope.names.lookup y = some .local := k'
          rcases L.free _ (PySem.mem_of_lookup k) rfl with k2 | k2 <;> rw [show X.env.scope.names.lookup y = _ from k2] at k' <;> cases k'
        · rw [c1] at e'
          cases e'
          exact cellK (I.freeC y _ c1) z
  · obtain ⟨w', z⟩ := I.cell y c (cm e)
    exact ⟨w', cellK (I.freeC y c (cm e)) z⟩
  · obtain ⟨v, o, ho, hd⟩ := I.cell y c (cm e)
    exact un.free c o ho (I.freeC y c (cm e)) (by simp)
/-- a(b), in the def that got the lambda and the value; Z: its context -/
theorem pe_thunk1 {CXg : CXT} {Eg : XK} {Ng : List Str} {qg a b p : Str} {sg scope : Scope} {g f c' : Addr} {cdg pm ctv : Value} {params : Arguments} {body : Expr} {k i ib jp : Nat} {pn : List (Addr × Obj)} {xe : Value → Shared → Prop} {W : WX} {tb : XK → TE} {p1 p2 p3 : Pos}
    (I : Inv X pins σ H s) (L : LamS1 X.env.scope scope p) (hf : s.heap.get? f = some (PySem.W.kla_obj "<lambda>" (X.env.qual ++ "<lambda>") params body scope (cloFrom X.env.cells scope.names []) pm c' ctv)) (hfn : H f = none) (hfr : f ∉ frs X.stack)
    (hbind : ∀ u, bindArgs (PySem.W.kla_fn "<lambda>" (X.env.qual ++ "<lambda>") params body scope (cloFrom X.env.cells scope.names []) pm (.ref c') ctv) ⟨[u], []⟩ = pure [(p, u)])
    (tk : L2N.Takes ((cxOf CXg X.prog X.w X.K X.mg X.base Ng qg sg g cdg X.A X.stack s H Eg).tr pn xe) W) (hr : Room (k + 1) (X.A.deeper (envOfC qg sg s.heap.objs.size g cdg)))
    (hbody : ∀ (A : Around) (outer : List Env) (s : Shared) (H : Hp) (E : XK), Room k (A.deeper (lamEnv X scope s.heap.objs.size f c')) → PE (lamCxN X A outer s H E scope f c') body (tb E))
    (hjp : X.N[jp]? = some p) (hnd : X.N.Nodup)
    (hN : Ng[i]? = some a) (hv : Vis sg a) (hd : (a == ("__debug__" : Str)) = false) (hcd : (a == ("__classdict__" : Str)) = false)
    (hNb : Ng[ib]? = some b) (hvb : Vis sg b) (hdb : (b == ("__debug__" : Str)) = false) (hcdb : (b == ("__classdict__" : Str)) = false) :
    PE ((cxOf CXg X.prog X.w X.K X.mg X.base Ng qg sg g cdg X.A X.stack s H Eg).tr pn xe) (.Call (.Name a p1) [.Name b p3] [] p2)
      (fun σZ HZ Q => σZ[i]? = some (some (.ref f)) ∧ HZ c' = some (CodeO c' (X.env.qual ++ "<lambda>")) ∧ ∃ w, σZ[ib]? = some (some w) ∧ tb (fun cls d H' => W cls d σZ H') (σ.set jp (some w)) HZ Q) := by
  refine ⟨?_⟩
  intro pinsZ sZ σZ HZ Q IZ ⟨hs, hc, w, hw, ht⟩
  have look := (pe_var (pos := p1) (i := i) hN hv hd hcd).run pinsZ sZ σZ HZ (fun v H1 => v = .ref f ∧ H1 = HZ) IZ ⟨.ref f, hs, rfl, rfl⟩
  refine wpAny_Call_Name_kw (thn look ?_)
  rintro u s1 ⟨v, H1, I1, r1, rfl, rfl⟩
  obtain rfl : u = Value.ref f := r1
  have of1 := I1.base.keep f _ hf hfn hfr (fun z => nomatch (show f ∈ ([] : List Addr) from z))
  have harg := (pa_cons (pe_var (X := (cxOf CXg X.prog X.w X.K X.mg X.base Ng qg sg g cdg X.A X.stack s H Eg).tr pn xe) (pos := p3) (i := ib) hNb hvb hdb hcdb) pa_nil (by rfl)).run p2 pinsZ s1 σZ H1 (fun vs H2 => vs = [w] ∧ H2 = H1) I1 ⟨w, hw, rfl, rfl⟩
  refine PySem.W.callWith_F (first := []) ⟨_, _, _, _, of1⟩ (thn harg ?_) (by rfl) (by rfl)
  rintro us s2 ⟨vs, H2, I2, r2, rfl, rfl⟩
  have of2 := I2.base.keep f _ hf hfn hfr (fun z => nomatch (show f ∈ ([] : List Addr) from z))
  refine ⟨⟨_, _, _, _, of2⟩, ?_⟩
  obtain ⟨u, rfl, ru⟩ := vals1 r2
  show wpAny _ _ (call (.ref f) [u]) _ _ _
  obtain ⟨⟨oc, vs, t, hoc, hdc, hvc⟩, _, _⟩ := I2.hok c' _ hc
  have fin : codeAny (model X.prog X.w) (X.A.deeper (envOfC qg sg s.heap.objs.size g cdg)) (.call (.ref f) ⟨[u], []⟩) (CR (L2N.CX X.prog X.w) (envOfC qg sg s.heap.objs.size g cdg :: X.stack) X.prog X.w H2 s2 Q fun cls d H' => W cls d σZ H') s2 := by
    refine PySem.W.kla_callFunE hr.depth of2 rfl L.co L.gen rfl ⟨c', oc, vs, t, rfl, hoc, hdc, hvc⟩ ?_
    rw [hbind u]
    refine wpAny_pure (wpAny_newFunctionEnv (fun y hy => (L.own y hy).1) (fun y hy => ?_) (fun h₁ hns hsb => ?_) L.kind)
    · simp at hy
      subst hy
      exact L.par
    refine ⟨I2.nolimit.fresh _ hsb, ?_⟩
    show codeAny _ _ (.expr body (lamEnv X scope s2.heap.objs.size f c')) _ _
    have J := lam_start3 (E := fun cls d H' => W cls d σZ H') (f := f) (c' := c') (tk := s2.toks + ([(p, u)] : List (Str × Value)).length) I L I2.env0 hr.hd I2.base hns (fun b o e => hsb.extBut b o (Nat.ne_of_lt (Heap.lt_size e)) (Heap.get?_push_of_some _ e)) hjp hnd ru
    refine PySem.W.kla_codeExpr (wpAny_mono ((hbody _ _ s2 H2 _ (hr.deeper _)).run [] _ _ H2 Q J ht) ?_ fun _ _ z => z)
    rintro v s' ⟨w', H', J', rv, q⟩
    exact ⟨w', H', J'.os, J'.bare, J'.base, J'.hok, rv, q⟩
  refine wpAny_call (codeAny_mono fin fun r s' hq => ?_)
  match r, hq with
  | .error er, hq => exact tk er s' (L2N.XE.of_call I2 (fun _ _ _ z => z) hq)
  | .ok (.ret u), hq => exact I2.after hq
  | .ok .next, hq => exact hq.elim
  | .ok .brk, hq => exact hq.elim
  | .ok .cont, hq => exact hq.elim
/-- a lambda is made; it is new -/
theorem lam_mkP {c P : Addr} {params : Arguments} {body : Expr} {scope : Scope} {pos : Pos} {E : Value → Shared → Prop} {Q : Value → Shared → Prop} (I : Inv X pins σ H s) (TB : TabB X.base X.mg c P) (hcode : X.env.code = .ref c)
    (hT : TabS H P (X.env.qual ++ "<lambda>")) (hdef : defaultsOf params X.env = ([], [])) (hfree : ∀ y ∈ scope.names, y.2 = .free → ∃ c, X.env.cells.lookup y.1 = some c)
    (h : ∀ (f c' : Addr) (pm ctv : Value) (H1 : Hp) (s' : Shared), Inv X pins σ H1 s' → Grew P (X.env.qual ++ "<lambda>") H H1 → H1 f = none → f ∉ frs X.stack → f ∉ X.fs → f ≠ X.env.locals →
      s'.heap.get? f = some (PySem.W.kla_obj "<lambda>" (X.env.qual ++ "<lambda>") params body scope (cloFrom X.env.cells scope.names []) pm c' ctv) → H1 c' = some (CodeO c' (X.env.qual ++ "<lambda>")) → Q (.ref f) s') :
    wpAny (model X.prog X.w) X.A (eval (.Lambda params body scope pos) X.env) Q E s := by
  obtain ⟨ps, hP, ht, ha⟩ := hT
  have hP' : s.heap.get? P = some { cls := .none, data := .fields ps } := I.hok P _ hP
  have notF : ∀ {b : Addr}, s.heap.objs.size ≤ b → b ∉ frs X.stack := by
    intro b hb hm
    cases List.mem_cons.mp (I.stkSub _ hm) with
    | inl e => exact Nat.lt_irrefl _ (Nat.lt_of_lt_of_le (show b < _ by rw [e]; exact I.lt) hb)
    | inr e => exact I.nofs hb e
  refine PySem.W.kla_eval hdef ?_
  cases hc : codeAmong pos ps.toList with
  | none =>
    refine PySem.W.kla_makeFunction (c := c) (P := P) (ps := ps) (mg := X.mg) (closure_ok hfree) I.ok.glob (I.mod.glob.keeps I.bk) hcode (TB.code.keeps I.bk) hP' ht hc TB.gP (TB.bm.keeps I.bk) ?_
    intro c' ctv h' tk hx hge hlt ⟨c2, oc, vs, t, e2, hoc, hd, hv⟩ htb
    cases e2
    have nC : H c' = none := I.hok.fresh hge
    have hsz : s.heap.objs.size ≤ h'.objs.size := by omega
    have nP : h'.objs.size ≠ P := Nat.ne_of_gt (Nat.lt_of_lt_of_le (Heap.lt_size hP') hsz)
    refine h h'.objs.size c' ((X.mg "__name__").getD .none) ctv _ _
      (inv_table (t' := tk) (more := #[rawInt pos.line, rawInt pos.col, .ref c']) (h' := h'.push (PySem.W.kla_obj "<lambda>" (X.env.qual ++ "<lambda>") params body scope (cloFrom X.env.cells scope.names []) ((X.mg "__name__").getD .none) c' ctv)) I hP
        (fun b o hb e => Heap.get?_push_of_some _ (hx b o hb e)) (Heap.get?_push_of_some _ htb) hge ⟨oc, vs, t, Heap.get?_push_of_some _ hoc, hd, hv⟩)
      (.inr ⟨ps, pos, c', hP, ht, nC, rfl⟩) ?_ (notF hsz) (I.nofs hsz) (fun z => Nat.lt_irrefl _ (Nat.lt_of_lt_of_le (show h'.objs.size < _ by rw [z]; exact I.lt) hsz)) (Heap.get?_push_size _ rfl) upd_same
    rw [upd_ne (Nat.ne_of_gt hlt), upd_ne nP]
    exact I.hok.fresh hsz
  | some cv =>
    obtain ⟨c', e, hco⟩ := ha pos cv hc
    subst e
    refine PySem.W.kla_makeFunctionHit (c := c) (P := P) (ps := ps) (mg := X.mg) (closure_ok hfree) I.ok.glob (I.mod.glob.keeps I.bk) hcode (TB.code.keeps I.bk) hP' ht hc (TB.bm.keeps I.bk) ?_
    intro ctv h' tk hx hsz
    exact h h'.objs.size c' ((X.mg "__name__").getD .none) ctv H _ (I.kept (t' := tk) fun b o e => Heap.get?_push_of_some _ (hx b o e)) (.inl rfl) (I.hok.fresh hsz) (notF hsz) (I.nofs hsz) (fun z => Nat.lt_irrefl _ (Nat.lt_of_lt_of_le (show h'.objs.size < _ by rw [z]; exact I.lt) hsz)) (Heap.get?_push_size _ rfl) hco
end
/-- the def at g makes TT of the lambda and the value that it got -/
def Gives1 (X : Cx) (Ng : List Str) (x : Str) (sg : Scope) (g : Addr) (cdg : Value) (bg : List Stmt) (a b : Str) (q : Str) (TT : (XK → V → Hp → VK → Prop) → V → Hp → VK → Prop) : Prop :=
  ∀ (f c' : Addr) (w : V) (s : Shared) (H : Hp) (Q : VK) (tl : XK → V → Hp → VK → Prop), (∀ (E E' : XK) (w : V) (H : Hp) (Q Q' : VK), (∀ cls d H, E cls d H → E' cls d H) → (∀ v H, Q v H → Q' v H) → tl E w H Q → tl E' w H Q') →
    (∀ (W : WX) (pn : List (Addr × Obj)) (xe : Value → Shared → Prop) (p1 p2 p3 : Pos), L2N.Takes ((cxOf C8.CX0 X.prog X.w X.K X.mg X.base Ng x sg g cdg X.A X.stack s H C8.E0).tr pn xe) W →
      PE ((cxOf C8.CX0 X.prog X.w X.K X.mg X.base Ng x sg g cdg X.A X.stack s H C8.E0).tr pn xe) (.Call (.Name a p1) [.Name b p3] [] p2) (fun σZ HZ Q => σZ[0]? = some (some (.ref f)) ∧ HZ c' = some (CodeO c' q) ∧ ∃ w, σZ[1]? = some (some w) ∧ tl (fun cls d H' => W cls d σZ H') w HZ Q)) →
    H c' = some (CodeO c' q) → TT tl w H Q →
    ∃ t, PSs (cxOf C8.CX0 X.prog X.w X.K X.mg X.base Ng x sg g cdg X.A X.stack s H C8.E0).nox bg t ∧ t { nx := fun _ H' => Q .non H', rt := Q } (L2.start Ng [.ref f, w]) H
section
variable {X : Cx}
/-- x(lambda p: body, e2) -/
theorem pe_give1 {TT : (XK → V → Hp → VK → Prop) → V → Hp → VK → Prop} {x a b pp : Str} {g c P : Addr} {k jp : Nat} {pg : Arguments} {bg : List Stmt} {sg : Scope} {dV kV doc pm cdv ct oc : Value} {an od : Option Addr} {osl : Array (Option Value)} {Ng : List Str}
    {params : Arguments} {body e2 : Expr} {scope : Scope} {t : XK → TE} {te : TE} {p lpos pos : Pos} (hg : Gl X x) (hm : X.mg x = some (.ref g)) (hk : PySem.W.keepIn X.K (.ref g) = true)
    (lk : X.K.lookup g = some ⟨oc, od, .func (PySem.W.fnOf x x pg bg sg dV kV doc pm an cdv ct), osl⟩) (hcg : PySem.W.codeIn X.K cdv x = true) (hb : L2.Binds X.K (PySem.W.fnOf x x pg bg sg dV kV doc pm an cdv ct) [a, b] []) (Sg : FnScope Ng [a, b] sg) (hNg : Ng[0]? = some a) (hNg1 : Ng[1]? = some b) (hva : Vis sg a) (hvb : Vis sg b)
    (hG : Gives1 X Ng x sg g cdv bg a b (X.env.qual ++ "<lambda>") TT) (hmono : ∀ (σ : L2.St) (E E' : XK) (H : Hp) (Q Q' : VK), (∀ cls d H, E cls d H → E' cls d H) → (∀ v H, Q v H → Q' v H) → t E σ H Q → t E' σ H Q')
    (TB : TabB X.base X.mg c P) (hcode : X.env.code = .ref c) (hr : Room (k + 2) X.A) (L : LamS1 X.env.scope scope pp) (hjp : X.N[jp]? = some pp) (hnd : X.N.Nodup) (hdef : defaultsOf params X.env = ([], []))
    (hbind : ∀ (q : Str) (cl : List (Str × Addr)) (pm cv ctv u : Value), bindArgs (PySem.W.kla_fn "<lambda>" q params body scope cl pm cv ctv) ⟨[u], []⟩ = pure [(pp, u)])
    (hbody : ∀ (A : Around) (outer : List Env) (s : Shared) (H : Hp) (E : XK) (f c' : Addr), Room k (A.deeper (lamEnv X scope s.heap.objs.size f c')) → PE (lamCxN X A outer s H E scope f c') body (t E)) (he2 : PE X e2 te)
    (hs1 : starEach [.Lambda params body scope lpos, e2] X.env = (false, eval (.Lambda params body scope lpos) X.env) :: starEach [e2] X.env) (hs2 : starEach [e2] X.env = [(false, eval e2 X.env)]) (hpl : (backTo pos (starEach [e2] X.env)).any (·.1) = false)
    (hdb : (x == ("__debug__" : Str)) = false) (hd : (a == ("__debug__" : Str)) = false) (hcd : (a == ("__classdict__" : Str)) = false) (hd1 : (b == ("__debug__" : Str)) = false) (hcd1 : (b == ("__classdict__" : Str)) = false) :
    PE X (.Call (.Name x p) [.Lambda params body scope lpos, e2] [] pos) (fun σ H Q => TabS H P (X.env.qual ++ "<lambda>") ∧ ∀ H1, Grew P (X.env.qual ++ "<lambda>") H H1 → ∀ c', H1 c' = some (CodeO c' (X.env.qual ++ "<lambda>")) →
      te σ H1 fun w H2 => H2 c' = some (CodeO c' (X.env.qual ++ "<lambda>")) ∧ TT (fun E w H' Q' => t E (σ.set jp (some w)) H' Q') w H2 Q) := by
  refine ⟨?_⟩
  intro pins s σ H Q I ⟨hT, hq⟩
  refine wpAny_Call_Name_kw (ld_glob I hg hm ?_ hdb)
  refine PySem.W.callWith_K (h₀ := X.base) I.ok.mod.kin hk ?_ hs1 hpl
  rw [hs1, hs2]
  show wpAny _ _ (spliced ((false, eval (.Lambda params body scope lpos) X.env) :: backTo pos [(false, eval e2 X.env)])) _ _ s
  refine Calls.spliced_cons (lam_mkP I TB hcode hT hdef (L.has I.ok) ?_)
  intro f c' pm' ctv H1 s' I1 gr hfn hfr hfs hfl hf hco
  have Ip : Inv X ((f, _) :: pins) σ H1 s' := ⟨I1.ok, I1.os, I1.bare, I1.base, I1.loc, I1.cell, I1.free, I1.freeC, fun pr hpr => by
    rcases List.mem_append.mp hpr with z | z
    · exact I1.pin pr (List.mem_append.mpr (.inl z))
    · rcases List.mem_cons.mp z with rfl | z
      · exact ⟨hf, hfn, hfl, hfs, fun v z => by cases z⟩
      · exact I1.pin pr (List.mem_append.mpr (.inr z)), I1.hok, I1.len⟩
  have hb1 : backTo pos [(false, eval e2 X.env)] = [(false, eval e2 X.env)] ∨ True := .inr trivial
  refine Calls.spliced_cons ?_
  refine thn (he2.run ((f, _) :: pins) s' σ H1 _ Ip (hq H1 gr c' hco)) ?_
  rintro u s2 ⟨w, H2, I2p, ru, hco2, hq2⟩
  obtain ⟨hf2, hfn2, _, _, _⟩ := I2p.pin (f, _) (List.mem_append.mpr (.inr List.mem_cons_self))
  have I2 : Inv X pins σ H2 s2 := ⟨I2p.ok, I2p.os, I2p.bare, I2p.base, I2p.loc, I2p.cell, I2p.free, I2p.freeC, fun pr hpr => by
    rcases List.mem_append.mp hpr with z | z
    · exact I2p.pin pr (List.mem_append.mpr (.inl z))
    · exact I2p.pin pr (List.mem_append.mpr (.inr (List.mem_cons_of_mem _ z))), I2p.hok, I2p.len⟩
  refine Calls.spliced_nil ⟨I2.kIn, ?_⟩
  have ran : codeAny (model X.prog X.w) X.A (.call (.ref g) ⟨[.ref f, u], []⟩) (CR C8.CX0 X.stack X.prog X.w H2 s2 Q C8.E0) s2 := by
    refine run_ofS (N := Ng) (ps := [a, b]) (us := [.ref f, u]) (vs := [.ref f, w]) lk hcg Sg hr I2.env0 (hb s2 [.ref f, u] I2.kIn rfl) (.cons rfl (.cons ru .nil)) rfl ?_
    intro hr'
    obtain ⟨t', ht', hq'⟩ := hG f c' w s2 H2 Q (fun E w H' Q' => t E (σ.set jp (some w)) H' Q') (fun E E' w H' Q' Q2 le lq z => hmono _ E E' H' Q' Q2 le lq z) (fun W pn xe p1 p2 p3 tk => pe_thunk1 (i := 0) (ib := 1) I2 L hf2 hfn2 hfr (fun u => hbind _ _ _ _ _ u) tk hr' (fun A outer s H E hr2 => hbody A outer s H E f c' hr2) hjp hnd hNg hva hd hcd hNg1 hvb hd1 hcd1) hco2 hq2
    exact ⟨t', ht'.nox, hq'⟩
  refine wpAny_call (codeAny_mono ran fun r s2 h2 => ?_)
  match r, h2 with
  | .error er, h2 => exact (show False from h2).elim
  | .ok (.ret u), h2 => exact I2.after h2
  | .ok .next, h2 => exact h2.elim
  | .ok .brk, h2 => exact h2.elim
  | .ok .cont, h2 => exact h2.elim
end
end LamX
set_option maxHeartbeats 2000000
/-! L8c: try: a(b) except D as en: (it returns); then more. a the lambda of one parameter that was handed over; over data -/
namespace L3
open PySem PySem.Spec PyProof.Rows L2 LamX
def TRef (K : PySem.W.Frag) (D : Addr) (qs : Addr → Value → Option Addr → QS) (qr : QS) : (XK → V → Hp → VK → Prop) → V → Hp → VK → Prop := fun tl w H Q =>
  tl (fun cls d H' => PySem.W.exmOne K cls (.ref D) = some true ∧ ∀ e f, H' e = none → liftS K (qs e cls d) { nx := fun _ _ => False, rt := Q } [some (.ref f), some w, some (.ref e)] H') w H (fun _ H' => ∀ f, liftS K qr { nx := fun _ H'' => Q .non H'', rt := Q } [some (.ref f), some w, none] H')
theorem ref_gives1 {X : Cx} {x a b en ex q : Str} {sg : Scope} {g D : Addr} {cdg : Value} {p1 p2 p3 p5 p6 p7 p8 : Pos} {b₀ : Stmt} {suite rest : List Stmt} {qs : Addr → Value → Option Addr → QS} {qr : QS} (hN : ([a, b, en] : List Str).Nodup) (hln : sg.names.lookup en = some .local) (hge : sg.names.lookup ex = some .globalImplicit) (hme : X.mg ex = some (.ref D))
    (hde : (ex == ("__debug__" : Str)) = false)
    (hsu : ∀ (s : Shared) (H : Hp) (e : Addr) (oe : Obj) (cls : Value) (d : Option Addr) (pn : List (Addr × Obj)), L2N.Zn cls d oe → (∃ vs, oe.data = .fields vs) → PSs ((cxOf C8.CX0 X.prog X.w X.K X.mg X.base [a, b, en] x sg g cdg X.A X.stack s H C8.E0).nox.suite e ((e, oe) :: pn)) (b₀ :: suite) (liftS X.K (qs e cls d)))
    (hre : ∀ (s : Shared) (H : Hp), PSs (cxOf C8.CX0 X.prog X.w X.K X.mg X.base [a, b, en] x sg g cdg X.A X.stack s H C8.E0).nox rest (liftS X.K qr))
    (hsw : ∀ (s : Shared) (H : Hp) (pn : List (Addr × Obj)) (xe : Value → Shared → Prop), swapsWith (.Call (.Name a p1) [.Name b p3] [] p2) none p5.line ((cxOf C8.CX0 X.prog X.w X.K X.mg X.base [a, b, en] x sg g cdg X.A X.stack s H C8.E0).tr pn xe).env = pure false) :
    Gives1 X [a, b, en] x sg g cdg (.Try [.Expr (.Call (.Name a p1) [.Name b p3] [] p2) p5] [.ExceptHandler (some (.Name ex p6)) (some en) (b₀ :: suite) p7] [] [] p8 :: rest) a b q (TRef X.K D qs qr) := by
  intro f c' w s H Q tl mono act hc h
  have hgl : Gl (cxOf C8.CX0 X.prog X.w X.K X.mg X.base [a, b, en] x sg g cdg X.A X.stack s H C8.E0).nox ex := hge
  refine ⟨_, pss_cons (L2N.ps_try_as (X := (cxOf C8.CX0 X.prog X.w X.K X.mg X.base [a, b, en] x sg g cdg X.A X.stack s H C8.E0).nox) (i := 2) (c := .ref D)
      (tb := fun W D σ H => σ[0]? = some (some (.ref f)) ∧ H c' = some (CodeO c' q) ∧ ∃ w, σ[1]? = some (some w) ∧ tl (fun cls d H' => W cls d σ H') w H fun _ H' => D.nx σ H')
      (ts := fun e cls d => liftS X.K (qs e cls d)) (Wout := fun _ _ _ _ => False) rfl rfl hN rfl hln ⟨hgl, hde, .inl hme⟩ takes0N (fun W pn xe tk _ => ?_) (hsu s H)) (hre s H), ?_⟩
  · refine pss_imp (pss_one (ps_expr (act W pn xe p1 p2 p3 tk) (hsw s H pn xe))) ?_
    rintro D σ H ⟨h1, h2, w, h3, h4⟩
    exact ⟨h1, h2, w, h3, h4⟩
  · refine ⟨rfl, hc, w, rfl, mono _ _ _ _ _ _ (fun cls d H' z => ?_) (fun v H' z => ?_) h⟩
    · refine ⟨true, z.1, fun _ e he => ?_, fun z => by cases z⟩
      obtain ⟨G, s0, m, E, rm, rs, q, kn, kr, kb, kc⟩ := z.2 e f he
      exact ⟨G, s0, m, E, rm, rs, q, fun G' s' m' σ' H' e1 r1 r2 z => (kn G' s' m' σ' H' e1 r1 r2 z).elim, kr, fun G' s' m' σ' H' e1 r1 r2 z => (kb G' s' m' σ' H' e1 r1 r2 z).elim, fun G' s' m' σ' H' e1 r1 r2 z => (kc G' s' m' σ' H' e1 r1 r2 z).elim⟩
    · exact z f
/-- the block's ends where it never ends by itself -/
def DE.ret (E : DE) : DE := { E with nx := fun _ _ => False }
def qRef (P : Addr) (q : Str) (Cs : List Addr) (jp : Nat) (ql : QX) (qa : QE) (qs : Addr → Value → Option Addr → QS) (qr : QS) : QE := fun s m Φ => m P = some (.tab q) ∧ qa s m fun d m0 => ql (s.set jp (some d)) m0 (fun _ m1 => qr (bodyW Φ) [none, some d, none] m1)
  (fun cls od m1 => (∃ C ∈ Cs, cls = .ref C) ∧ ∀ e, m1 e = none → qs e cls od (bodyW Φ).ret [none, some d, some (.ref e)] m1)
theorem RelM.codeO {K : PySem.W.Frag} {m : Mem} {G H : Hp} {c : Addr} {q : Str} (r : RelM K m G H) (h : H c = some (CodeO c q)) : ∃ G', Sub G G' ∧ RelM K m G' H ∧ G' c = some (CodeO c q) := by
  cases z : G c with
  | some o =>
    have := r.sub c o z
    rw [h] at this
    cases this
    exact ⟨G, Sub.refl G, r, z⟩
  | none =>
    refine ⟨upd G c (CodeO c q), Sub.new z, ⟨fun a o e => ?_, fun a o e => ?_⟩, upd_same⟩
    · by_cases ha : a = c
      · subst ha; rw [upd_same] at e; cases e; exact h
      · rw [upd_ne ha] at e; exact r.sub a o e
    · obtain ⟨g, u, hu, ro⟩ := r.mem a o e
      have ha : a ≠ c := by
        rintro rfl
        rw [h] at hu
        cases hu
        cases o <;> unfold RO at ro <;> (first | (obtain ⟨_, z, _⟩ := ro; cases z; done) | (obtain ⟨_, _, z, _⟩ := ro; cases z; done) | (obtain ⟨_, _, _, z, _⟩ := ro; cases z; done))
      rw [upd_ne ha]
      refine ⟨g, u, hu, ro.mono (Sub.new z)⟩
theorem de_ref {X : Cx} {x a b en ex pp : Str} {st : Stmt} {g c P D : Addr} {fd : FuncData} {k jp : Nat} {Cs : List Addr} {params : Arguments} {body e2 : Expr} {scope : Scope} {ql : QX} {qa : QE} {qs : Addr → Value → Option Addr → QS} {qr : QS} {p lpos pos p1 p2 p3 p5 p6 p7 p8 : Pos} {b₀ : Stmt} {suite rest : List Stmt}
    (F : Fun X.K x x st g fd) (hb : Binds X.K fd [a, b] []) (S : FnScope [a, b, en] [a, b] (defScope st)) (hbody : defBody st = .Try [.Expr (.Call (.Name a p1) [.Name b p3] [] p2) p5] [.ExceptHandler (some (.Name ex p6)) (some en) (b₀ :: suite) p7] [] [] p8 :: rest)
    (hva : Vis (defScope st) a) (hvb : Vis (defScope st) b) (hln : (defScope st).names.lookup en = some .local) (hge : (defScope st).names.lookup ex = some .globalImplicit) (hme : X.mg ex = some (.ref D)) (hCs : ∀ C ∈ Cs, PySem.W.exmOne X.K (.ref C) (.ref D) = some true)
    (hsu : ∀ (cdg : Value) (s : Shared) (H : Hp) (e : Addr) (oe : Obj) (cls : Value) (d : Option Addr) (pn : List (Addr × Obj)), L2N.Zn cls d oe → (∃ vs, oe.data = .fields vs) → PSs ((cxOf C8.CX0 X.prog X.w X.K X.mg X.base [a, b, en] x (defScope st) g cdg X.A X.stack s H C8.E0).nox.suite e ((e, oe) :: pn)) (b₀ :: suite) (liftS X.K (qs e cls d)))
    (hre : ∀ (cdg : Value) (s : Shared) (H : Hp), PSs (cxOf C8.CX0 X.prog X.w X.K X.mg X.base [a, b, en] x (defScope st) g cdg X.A X.stack s H C8.E0).nox rest (liftS X.K qr))
    (hr : Room (k + 2) X.A) (TB : TabB X.base X.mg c P) (hcode : X.env.code = .ref c) (hg : Gl X x) (hm : X.mg x = some (.ref g)) (hk : PySem.W.keepIn X.K (.ref g) = true) (L : LamS1 X.env.scope scope pp) (hjp : X.N[jp]? = some pp) (hnd : X.N.Nodup) (hdef : defaultsOf params X.env = ([], []))
    (hbind : ∀ (q : Str) (cl : List (Str × Addr)) (pm cv ctv u : Value), bindArgs (PySem.W.kla_fn "<lambda>" q params body scope cl pm cv ctv) ⟨[u], []⟩ = pure [(pp, u)])
    (hlam : ∀ (A : Around) (outer : List Env) (s : Shared) (H : Hp) (E : XK) (f c' : Addr), Room k (A.deeper (lamEnv X scope s.heap.objs.size f c')) → PE (lamCxN X A outer s H E scope f c') body (liftEX X.K E ql)) (he2 : PE X e2 (liftE X.K qa))
    (hs1 : starEach [.Lambda params body scope lpos, e2] X.env = (false, eval (.Lambda params body scope lpos) X.env) :: starEach [e2] X.env := by rfl) (hs2 : starEach [e2] X.env = [(false, eval e2 X.env)] := by rfl) (hpl : (backTo pos (starEach [e2] X.env)).any (·.1) = false := by rfl)
    (hsw : ∀ (cdg : Value) (s : Shared) (H : Hp) (pn : List (Addr × Obj)) (xe : Value → Shared → Prop), swapsWith (.Call (.Name a p1) [.Name b p3] [] p2) none p5.line ((cxOf C8.CX0 X.prog X.w X.K X.mg X.base [a, b, en] x (defScope st) g cdg X.A X.stack s H C8.E0).tr pn xe).env = pure false := by intros; rfl)
    (hdb : (x == ("__debug__" : Str)) = false := by decide) (hd : (a == ("__debug__" : Str)) = false := by decide) (hcd : (a == ("__classdict__" : Str)) = false := by decide) (hd1 : (b == ("__debug__" : Str)) = false := by decide) (hcd1 : (b == ("__classdict__" : Str)) = false := by decide) (hde : (ex == ("__debug__" : Str)) = false := by decide) :
    PE X (.Call (.Name x p) [.Lambda params body scope lpos, e2] [] pos) (liftE X.K (qRef P (X.env.qual ++ "<lambda>") Cs jp ql qa qs qr)) := by
  obtain ⟨oc, od, kV, doc, pm, an, cdv, ct, osl, rfl, lk, hcg⟩ := F.ex
  have hG : Gives1 X [a, b, en] x (defScope st) g cdv (defBody st) a b (X.env.qual ++ "<lambda>") (TRef X.K D qs qr) := by
    rw [hbody]
    exact ref_gives1 S.nd hln hge hme hde (hsu cdv) (hre cdv) (hsw cdv)
  refine pe_imp (pe_give1 hg hm hk lk hcg hb S rfl rfl hva hvb hG (t := fun E => liftEX X.K E ql) (fun σ E E' H Q Q' le lq ⟨G, s, m, Φ, Ψ, rm, rs, q, kq, kx⟩ => ⟨G, s, m, Φ, Ψ, rm, rs, q, fun G' d m' v H' e r rv z => lq _ _ (kq G' d m' v H' e r rv z), fun G' cls m' od H' e r z => le _ _ _ (kx G' cls m' od H' e r z)⟩) TB hcode hr L hjp hnd hdef hbind hlam he2 hs1 hs2 hpl hdb hd hcd hd1 hcd1) ?_
  rintro σ H Q ⟨G, s, m, Φ, rm, rs, ⟨hP, ha⟩, kq⟩
  obtain ⟨gP, u, hu, ps, rfl, t2, t3⟩ := rm.mem P _ hP
  refine ⟨⟨ps, hu, t2, fun pos cv hcv => let ⟨c, e1, e2⟩ := t3 pos cv hcv; ⟨c, e1, rm.sub _ _ e2⟩⟩, fun H1 gr c' hc' => ?_⟩
  obtain ⟨G2, s2, r2⟩ := RelM.grew rm hP gr
  obtain ⟨G3, s3, r3, hG3⟩ := RelM.codeO r2 hc'
  have s23 := s2.trans s3
  refine ⟨G3, s, m, _, r3, rs.mono s23, ha, fun G4 d m4 w H4 e4 r4 rv4 q4 => ⟨r4.sub _ _ (e4 _ _ hG3), ?_⟩⟩
  have s24 := s23.trans e4
  refine ⟨G4, s.set jp (some d), m4, _, _, r4, (rs.mono s24).set jp rv4, q4, ?_, ?_⟩
  · intro G5 d5 m5 v5 H5 e5 r5 rv5 q5 f
    refine ⟨G5, _, m5, bodyW Φ, r5, ⟨rfl, fun i d' h => ?_⟩, q5, ?_, ?_, fun _ _ _ _ _ _ _ _ z => z.elim, fun _ _ _ _ _ _ _ _ z => z.elim⟩
    · match i, h with
      | 0, h => cases h
      | 1, h => cases h; exact ⟨w, rfl, RV.mono e5 _ rv4⟩
      | 2, h => cases h
      | i + 3, h => simp at h
    · exact fun G6 _ m6 _ H6 e6 r6 _ ⟨m7, le, q7⟩ => kq _ .non m7 _ _ ((s24.trans e5).trans e6) (r6.le le) rfl q7
    · exact fun G6 d6 m6 v6 H6 e6 r6 rv6 ⟨m7, le, q7⟩ => kq _ d6 m7 _ _ ((s24.trans e5).trans e6) (r6.le le) rv6 q7
  · rintro G5 cls m5 od H5 e5 r5 ⟨⟨C, hC, rfl⟩, h⟩
    refine ⟨hCs C hC, fun e f he => ⟨G5, _, m5, (bodyW Φ).ret, r5, ⟨rfl, fun i d' h => ?_⟩, h e (r5.free he), ?_, ?_, fun _ _ _ _ _ _ _ _ z => z.elim, fun _ _ _ _ _ _ _ _ z => z.elim⟩⟩
    · match i, h with
      | 0, h => cases h
      | 1, h => cases h; exact ⟨w, rfl, RV.mono e5 _ rv4⟩
      | 2, h => cases h; exact ⟨.ref e, rfl, rfl⟩
      | i + 3, h => simp at h
    · exact fun G6 _ m6 _ H6 e6 r6 _ z => z.elim
    · exact fun G6 d6 m6 v6 H6 e6 r6 rv6 ⟨m7, le, q7⟩ => kq _ d6 m7 _ _ ((s24.trans e5).trans e6) (r6.le le) rv6 q7
section
variable {X : Cx} {E : XK} {k : Nat} {f C : Addr} {m : Str} {pos apos : Pos} {o e : Expr} {es : List Expr} {qo : QE} {qa : QA} {sp : LSpE}
theorem dn_meth {pl : Sem Bool} (he : PE X o (liftE X.K qo)) (c : Cls X.K C) (hm : Meth X.K C m f) (F : FnDX X.prog X.w X.K X.mg X.base k f sp) (hr : Room k X.A) (tk : L2N.Takes X fun cls d _ H => E cls d H) (ha : PA X (e :: es) (liftA X.K qa))
    (hst : starEach (e :: es) X.env = (false, eval e X.env) :: starEach es X.env := by rfl) (hpl : (backTo pos (starEach es X.env)).any (·.1) = false := by rfl)
    (ht : eval (.Call (.Attribute o m apos) (e :: es) [] pos) X.env = (do
      let ov ← eval o X.env
      standAt apos.atName
      let (f, first) ← holding [ov] (getMethod ov m pl)
      callWith pos f first (backTo pos (starEach (e :: es) X.env)) (backToKw pos (keywordEach [] X.env))) := by rfl) :
    PE X (.Call (.Attribute o m apos) (e :: es) [] pos) (liftEX X.K E (zMeth C m sp qo qa)) :=
  pe_imp (pe_methR he c hm F hr (L2N.passes_call tk fun _ _ _ _ h => h) ha hst hpl ht) fun σ H Q ⟨G, s, mm, Φ, Ψ, rm, rs, q, kq, kx⟩ => ⟨G, s, mm, _, rm, rs, q, fun G1 d m1 v H1 e1 r1 rd q1 => by
    cases d with
    | ref a =>
      obtain rfl : v = .ref a := rd
      obtain ⟨fs, hm', hl, q1⟩ := q1
      obtain ⟨_, w, hw, dx, xs, rfl, r⟩ := r1.mem a _ hm'
      have rl := r.lookup m
      rw [hl] at rl
      exact ⟨a, dx, xs, rfl, hw, rl.none, G1, s, m1, _, r1, rs.mono e1, q1, fun G2 ds m2 vs H2 e2 r2 rds q2 => ⟨G2, m2, _, Φ, Ψ, r2, RVs.cons (show RV X.K G2 (.ref a) (.ref a) from rfl) rds, q2, kq.mono (e1.trans e2), kx.mono (e1.trans e2)⟩⟩
    | _ => exact q1.elim⟩
end
end L3
set_option maxHeartbeats 1000000
/-! L8d: dict == dict, xs.remove(y), xs.index(i), list(d.values()) -/
namespace PySem.SeqAt
open PySem.AutoSeq1 (wpAny_loadPart')
open MeetsSeq MeetsSeq2 MeetsSeq3 SeqRoads2
theorem rem_loopN (l : Addr) (items : Array Value) (n : Nat) (dd : Option Addr) (sl : Array (Option Value)) (x : Value) (e : Nat → Bool) (j : Nat) (hj : j < items.size) (hit : e j = true) (k : Nat) (hs1 : items.size ≤ sizeLine) :
    ∀ i : Nat, j - i = k → i ≤ j → (∀ m (hm : m < items.size), i ≤ m → m < j → e m = false) → Meets (Builtin.«list.remove.loop» ⟨[.ref l, x, rawInt i], []⟩)
      (fun A R s => s.heap.get? l = some { cls := .type "list", dict := dd, data := .seq items n, slots := sl } ∧ (∀ i (hi : i < items.size), EqAt A.in1 s items[i] x (e i)) ∧ R (.ok (.ret .none)) { s with heap := s.heap.update l (Obj.mapSeq fun xs => xs.eraseIdxIfInBounds j) }) := by
  induction k with
  | zero =>
    intro i hk hij hno prog w A R s h
    obtain ⟨hp, g, d, tk, os⟩ := s; obtain ⟨hl, he, h⟩ := h
    have hij' : i = j := by omega
    subst hij'
    wp_walk using wpAny_loadPart' hl
    have hi : items[((i : Nat) : Int).toNat]? = some items[i] := by simp [hj]
    rw [hi]
    refine wpAny_bind (he _ hj prog w _ _ ?_)
    rw [hit]
    have hz' : (items.eraseIdxIfInBounds i).size ≤ sizeLine + 1 := Nat.le_trans (size_erased items _) (Nat.le_succ_of_le hs1)
    wp_walk using (wpAny_updateSeq hl rfl (hz := hs1) (_hz' := hz')), wpAny_loadPart' hl
    simpa using h
  | succ k ih =>
    intro i hk hij hno prog w A R s h
    obtain ⟨hp, g, d, tk, os⟩ := s; obtain ⟨hl, he, h⟩ := h
    have hlt : i < items.size := by omega
    wp_walk using wpAny_loadPart' hl
    have hi : items[((i : Nat) : Int).toNat]? = some items[i] := by simp [hlt]
    have hc : ((i : Int) + 1) = ((i + 1 : Nat) : Int) := by push_cast; rfl
    rw [hi]
    refine wpAny_bind (he _ hlt prog w _ _ ?_)
    rw [hno i hlt (Nat.le_refl _) (by omega)]
    wp_walk
    rw [hc]
    exact ⟨plainId_quiet plain_remove_loop _, codeAny_builtin entry_remove_loop (by
      rw [Around.under_plainId plain_remove_loop _]
      exact ih (i + 1) (by omega) (by omega) (fun m hm h1 h2 => hno m hm (by omega) h2) prog w A R _ ⟨hl, he, h⟩)⟩
theorem rem_nth (l : Addr) (items : Array Value) (n : Nat) (dd : Option Addr) (sl : Array (Option Value)) (x : Value) (e : Nat → Bool) (j : Nat) (hj : j < items.size)
    (hit : e j = true) (hno : ∀ m (hm : m < items.size), m < j → e m = false) (hs1 : items.size ≤ sizeLine := by size_fits) :
    Meets (Builtin.«list.remove» ⟨[.ref l, x], []⟩)
      (fun A R s => s.heap.get? l = some { cls := .type "list", dict := dd, data := .seq items n, slots := sl } ∧ (∀ i (hi : i < items.size), EqAt A.in1 s items[i] x (e i)) ∧ R (.ok (.ret .none)) { s with heap := s.heap.update l (Obj.mapSeq fun xs => xs.eraseIdxIfInBounds j) }) := by
  intro prog w A R s h
  obtain ⟨hp, g, d, tk, os⟩ := s; obtain ⟨hl, he, h⟩ := h
  wp_walk using wpAny_loadPart' hl
  exact ⟨plainId_quiet plain_remove_loop _, codeAny_builtin entry_remove_loop (by
    rw [Around.under_plainId plain_remove_loop _]
    exact rem_loopN l items n dd sl x e j hj hit _ hs1 0 rfl (Nat.zero_le _) (fun m hm _ h2 => hno m hm h2) prog w A R _ ⟨hl, he, h⟩)⟩
end PySem.SeqAt
namespace L3
open PySem PySem.Spec PyProof.Rows L2
section
variable {X : Cx}
/-! ### dict == dict -/
def EqDp (K : PySem.W.Frag) (H : Hp) (x y : V) (e : Bool) : Prop := ∃ p q, Dp K H x p ∧ Dp K H y q ∧ SeqAt.shaped p = true ∧ SeqAt.shaped q = true ∧ e = PyData.eqv p q
def HitsV (K : PySem.W.Frag) (H : Hp) (ls : List (Key × V)) : List (Key × V) → Bool → Prop
  | [], r => r = true
  | p :: ks, r => (valV ls p.1 = none ∧ r = false) ∨ ∃ y e r', valV ls p.1 = some y ∧ EqDp K H p.2 y e ∧ HitsV K H ls ks r' ∧ r = (e && r')
theorem eqDp_run {pins : List (Addr × Obj)} {s : Shared} {σ : L2.St} {H : Hp} {A : Around} {x y : V} {v u : Value} {e : Bool} (I : L2.Inv X pins σ H s) (hu : A.units + 64 < cLine) (rx : RelV x v) (ry : RelV y u) (h : EqDp X.K H x y e) : SeqAt.EqAt A s v u e := by
  obtain ⟨p, q, hp, hq, sp, sq, rfl⟩ := h
  obtain ⟨as, r1⟩ := Dp.reads I p x v hp rx
  obtain ⟨bs, r2⟩ := Dp.reads I q y u hq ry
  exact SeqAt.eqAt_reads p q A s v u as bs r1 r2 (SeqAt.canLay_of_shaped sp) (SeqAt.canLay_of_shaped sq) (SeqAt.room_of_shaped sp hu)
theorem hitsV_run {pins : List (Addr × Obj)} {s : Shared} {σ : L2.St} {H : Hp} {A : Around} {ls : List (Key × V)} {vb : List (Key × Value)} (I : L2.Inv X pins σ H s) (hu : A.units + 64 < cLine) (rb : KV ls vb) : ∀ {ks : List (Key × V)} {va : List (Key × Value)} {r : Bool}, KV ks va → HitsV X.K H ls ks r → PySem.W.KeqHitsP X.prog X.w A s vb va r := by
  intro ks va r ra
  unfold KV at ra
  induction ra generalizing r with
  | nil => intro h; rw [show r = true from h]; exact .nil
  | @cons p q ps qs h t k =>
    intro hp
    obtain ⟨h1, h2⟩ := h
    obtain ⟨key, v⟩ := q
    have h1' : p.1 = key := h1
    have rr : RelO (valV ls p.1) (valueAt vb p.1) := rb.val p.1
    rcases hp with ⟨hn, rfl⟩ | ⟨y, e, r', hy, he, ht, rfl⟩
    · rw [hn] at rr
      rw [h1'] at rr
      refine .miss ?_
      cases z : valueAt vb key with
      | none => rfl
      | some o => rw [z] at rr; exact (show False from rr).elim
    · rw [hy] at rr
      obtain ⟨w, hw, ry⟩ := rr.some_of
      rw [h1'] at hw
      exact .hit hw (eqDp_run I hu h2 ry he).eqP (k ht)
def rEqDct (K : PySem.W.Frag) : R2 := fun x y H Q => ∃ a b ks ls r, x = .ref a ∧ y = .ref b ∧ H a = some (.dK ks) ∧ H b = some (.dK ls) ∧ (ks.length = ls.length → HitsV K H ls ks r) ∧ Q (.bl (ks.length == ls.length && r)) H
theorem op_eqDct (hu : X.A.units + 65 < cLine) : OpR X (compareOp .Eq) (rEqDct X.K) := by
  intro pins s σ H x y v u Q I rx ry ⟨a, b, ks, ls, r, ex, ey, ha, hb, hh, q⟩
  subst ex; subst ey
  obtain rfl : v = Value.ref a := rx
  obtain rfl : u = Value.ref b := ry
  obtain ⟨_, ya, va, ra, da⟩ := dk_of I.hok ha
  obtain ⟨_, yb, vb, rb, db⟩ := dk_of I.hok hb
  show wpAny _ _ (richCompare .Eq (.ref a) (.ref b)) _ _ _
  refine PySem.W.rcP_dicts (knd := mixKind X.prog X.w) (r := r) ya yb da db (by omega) (fun hl => hitsV_run I (by show X.A.units + 1 + 64 < cLine; omega) rb ra (hh (by rw [ra.length, rb.length]; exact hl))) _ _ ⟨.bl _, H, I, rfl, ?_⟩
  rw [← show ks.length = va.length from ra.length, ← show ls.length = vb.length from rb.length]
  exact q
def EqD (d y : D) (e : Bool) : Prop := ∃ p q, toPy d = some p ∧ toPy y = some q ∧ SeqAt.shaped p = true ∧ SeqAt.shaped q = true ∧ e = PyData.eqv p q
def HitsD (ls : List (Key × D)) : List (Key × D) → Bool → Prop
  | [], r => r = true
  | p :: ks, r => (valD ls p.1 = none ∧ r = false) ∨ ∃ y e r', valD ls p.1 = some y ∧ EqD p.2 y e ∧ HitsD ls ks r' ∧ r = (e && r')
theorem hitsD_lift {K : PySem.W.Frag} {m : Mem} {G H : Hp} (rm : RelM K m G H) {ls : List (Key × D)} {ys : List (Key × V)} (rl : RKs K G ls ys) : ∀ {ks : List (Key × D)} {xs : List (Key × V)} {r : Bool}, RKs K G ks xs → HitsD ls ks r → HitsV K H ys xs r
  | [], xs, r, rk, h => by rw [show xs = [] from rk]; exact h
  | p :: ks, xs, r, ⟨x, t, e1, e2, e3⟩, h => by
    subst e1
    have rl1 := rl.val p.1
    rcases h with ⟨hn, hr⟩ | ⟨y, e, r', hy, ⟨p', q', h1, h2, h3, h4, h5⟩, ht, hr⟩
    · rw [hn] at rl1
      exact .inl ⟨rl1.none, hr⟩
    · rw [hy] at rl1
      obtain ⟨u, hu, ru⟩ := rl1.some
      exact .inr ⟨u, e, r', hu, ⟨p', q', RV.dp rm.sub _ e2 h1, RV.dp rm.sub _ ru h2, h3, h4, h5⟩, hitsD_lift rm rl e3 ht, hr⟩
def vEqDct : D → D → Mem → DK → Prop := fun x y m Φ => match x, y with
  | .ref a, .ref b => ∃ ks ls r, m a = some (.dK ks) ∧ m b = some (.dK ls) ∧ (ks.length = ls.length → HitsD ls ks r) ∧ Φ (.bl (ks.length == ls.length && r)) m
  | _, _ => False
theorem do_eqDct (hu : X.A.units + 65 < cLine) : OpR X (compareOp .Eq) (liftR X.K vEqDct) := op_imp (op_eqDct hu) fun x y H Q ⟨G, m, dx, dy, Φ, rm, rx, ry, q, k⟩ => by
  unfold vEqDct at q
  split at q
  · rename_i a b
    obtain rfl : x = .ref a := rx
    obtain rfl : y = .ref b := ry
    obtain ⟨ks, ls, r, h1, h2, hh, q⟩ := q
    obtain ⟨_, u1, hu1, xs, rfl, rk⟩ := rm.mem a _ h1
    obtain ⟨_, u2, hu2, ys, rfl, rl⟩ := rm.mem b _ h2
    refine ⟨a, b, xs, ys, r, rfl, rfl, hu1, hu2, fun hl => hitsD_lift rm rl rk (hh (by rw [rk.length, rl.length]; exact hl)), ?_⟩
    rw [← rk.length, ← rl.length]
    exact k G (.bl (ks.length == ls.length && r)) m _ H (Sub.refl G) rm rfl q
  · exact q.elim
/-! ### xs.remove(y), y there -/
theorem mt_remove (hu : X.A.units + 65 < cLine) : MtR X "list.remove" (fun x vs H Q => ∃ (l : Addr) (xs : List V) (y : V) (es : Nat → Bool) (j : Nat), x = .ref l ∧ vs = [y] ∧ H l = some (.lst xs) ∧ (∀ i z, xs[i]? = some z → EqDp X.K H z y (es i)) ∧ j < xs.length ∧ es j = true ∧ (∀ i < j, es i = false) ∧
    Q .non (upd H l (.lst (xs.eraseIdx j)))) := by
  intro pins s σ H x vs v us Q I rx rv h
  obtain ⟨l, xs, y, es, j, rfl, rfl, hH, he, hj, hit, hno, q⟩ := h
  cases rx
  obtain ⟨u, rfl, ry⟩ := vals1 rv
  obtain ⟨z, its, n, r, hl, e⟩ := I.lstM hH
  have hlen : xs.length = its.length := hl
  have hz : its.toArray.size ≤ sizeLine := by rw [List.size_toArray, ← hlen]; exact z
  have at_ : ∀ i (hi : i < its.length), SeqAt.EqAt X.A.in1 s its[i] u (es i) := fun i hi => by
    have hi' : i < xs.length := by rw [hlen]; exact hi
    obtain ⟨w, hw, rw_⟩ := r.get (List.getElem?_eq_getElem hi')
    rw [List.getElem?_eq_getElem hi] at hw
    rw [Option.some.inj hw]
    exact eqDp_run I (by show X.A.units + 1 + 64 < cLine; omega) rw_ ry (he i _ (List.getElem?_eq_getElem hi'))
  refine call_meets PySem.F.slot_list_remove ⟨_, e, rfl⟩ PySem.F.entry_list_remove (PySem.F.args_list_remove_2 _ _)
    (SeqAt.rem_nth l its.toArray n none #[] u es j (by rw [List.size_toArray, ← hlen]; exact hj) hit (fun m _ h => hno m h) hz) ⟨e, fun i hi => ?_, ?_⟩
  · have hi' : i < its.length := by simpa using hi
    simpa using at_ i hi'
  refine ⟨.non, _, I.lset (its' := its.eraseIdx j) hH e ?_ (r.eraseIdx j) ?_, rfl, q⟩
  · show its.toArray.eraseIdxIfInBounds j = (its.eraseIdx j).toArray
    rw [List.eraseIdxIfInBounds_toArray]
  · have := List.length_eraseIdx_le xs j
    omega
def mRemove : D → LSp := fun x ds m Φ => match x, ds with
  | .ref a, [y] => ∃ (xs : List D) (es : Nat → Bool) (j : Nat), m a = some (.lst xs) ∧ (∀ i z, xs[i]? = some z → EqD z y (es i)) ∧ j < xs.length ∧ es j = true ∧ (∀ i < j, es i = false) ∧ Φ .non (mset m a (.lst (xs.eraseIdx j)))
  | _, _ => False
theorem dm_remove (hu : X.A.units + 65 < cLine) : MtR X "list.remove" (liftMt X.K mRemove) := mt_imp (mt_remove hu) fun x vs H Q ⟨G, m, dx, ds, Φ, rm, rx, rd, q, k⟩ => by
  unfold mRemove at q
  split at q
  · rename_i a y
    obtain rfl : x = .ref a := rx
    obtain ⟨v, rfl, hv⟩ := rv1 rd
    obtain ⟨xs, es, j, hm, he, hj, h1, h2, q⟩ := q
    obtain ⟨_, w, hw, ys, rfl, hr⟩ := rm.mem a _ hm
    refine ⟨a, ys, v, es, j, rfl, rfl, hw, fun i z hz => ?_, by rw [← hr.length]; exact hj, h1, h2, k G .non _ _ _ (Sub.refl G) (rm.put (o := .lst _) hm ⟨_, rfl, hr.eraseIdx j⟩) rfl q⟩
    obtain ⟨d, hd, rd⟩ := hr.getV hz
    obtain ⟨p', q', e1, e2, e3, e4, e5⟩ := he i d hd
    exact ⟨p', q', RV.dp rm.sub _ rd e1, RV.dp rm.sub _ hv e2, e3, e4, e5⟩
  · exact q.elim
/-! ### xs.index(k) of ints -/
theorem mt_index : MtR X "list.index" (fun x vs H Q => ∃ (l : Addr) (ns : List Int) (k : Int), x = .ref l ∧ vs = [.int k] ∧ SqL X.K H l (ns.map V.int) ∧ k ∈ ns ∧ Q (.int (ns.idxOf k : Nat)) H) := by
  intro pins s σ H x vs v us Q I rx rv h
  obtain ⟨l, ns, k, rfl, rfl, hH, hk, q⟩ := h
  cases rx
  obtain ⟨u, rfl, t, rfl⟩ := vals1 rv
  obtain ⟨its, r, p, z⟩ := I.list hH
  refine SeqAt.list_index_ints p.isList (intsAre_of r) (by rw [List.length_map] at z; exact z) hk ?_
  exact ⟨.int _, H, I.kept (t' := s.toks + 1) (h' := s.heap) fun b o e => e, ⟨_, rfl⟩, q⟩
def mIndexI : D → LSp := fun x ds m Φ => match ds with
  | [.int k] => itemsL x m fun xs => ∃ ns : List Int, xs = ns.map D.int ∧ k ∈ ns ∧ Φ (.int (ns.idxOf k : Nat)) m
  | _ => False
theorem dm_index : MtR X "list.index" (liftMt X.K mIndexI) := mt_imp mt_index fun x vs H Q ⟨G, m, dx, ds, Φ, rm, rx, rd, q, k⟩ => by
  unfold mIndexI at q
  split at q
  · rename_i i
    obtain ⟨v, rfl, hv⟩ := rv1 rd
    obtain rfl : v = .int i := hv
    obtain ⟨a, es, xs, rfl, h1, h2, ns, rfl, hk, q⟩ := itemsL_lift rm rx q
    exact ⟨a, ns, i, rfl, rfl, h2.ints ▸ h1, hk, k G (.int (ns.idxOf i : Nat)) m _ H (Sub.refl G) rm rfl q⟩
  · exact q.elim
/-! ### list(d.values()) -/
def tListVals (te : TE) : TE := fun σ H Q => te σ H fun x H1 => ∃ (d : Addr) (kvs : List (Key × V)), x = .ref d ∧ H1 d = some (.dK kvs) ∧ ∀ p, H1 p = none → Q (.ref p) (upd H1 p (.lst (kvs.map (·.2))))
theorem pe_listVals {e : Expr} {te : TE} {p apos cpos pos : Pos} (hc : X.calm = true) (he : PE X e te) (hg : Gl X "list") (hm : X.mg "list" = none) (hv : bootBuiltins "list" = some (.type "list")) (hbase : attributeBase e "values" X.env (eval e X.env) = eval e X.env := by rfl) (hline : (apos.endLine == cpos.line) = true := by rfl)
    (hs : starEach [.Call (.Attribute e "values" apos) [] [] cpos] X.env = (false, eval (.Call (.Attribute e "values" apos) [] [] cpos) X.env) :: starEach [] X.env := by rfl) :
    PE X (.Call (.Name "list" p) [.Call (.Attribute e "values" apos) [] [] cpos] [] pos) (tListVals te) := by
  refine ⟨fun pins s σ H Q I hq => ?_⟩
  refine wpAny_Call_Name_kw (ld_blt I hg hm hv ?_)
  refine PyProof.Rows.callWith_type1 ?_ hs rfl
  rw [hs]
  show wpAny _ _ (spliced ((false, eval (.Call (.Attribute e "values" apos) [] [] cpos) X.env) :: backTo pos (starEach [] X.env))) _ _ s
  refine Calls.spliced_cons ?_
  refine wpAny_Call_method (T := "dict") (id := "dict.values") hbase rfl hline PySem.F.plainAttrs_dict PySem.F.slot_dict_values PySem.F.type_dict_values (thn (he.run pins s σ H _ I hq) fun u s1 ⟨x, H1, I1, rx, d, kvs, ex, hd, q⟩ => ?_)
  subst ex
  obtain rfl : u = Value.ref d := rx
  obtain ⟨hz, hs0, vs, kv, hdo⟩ := I1.hok d _ hd
  obtain ⟨ep, hat⟩ := hdo.dictAt
  have lk : kvs.length = vs.length := Paired.length kv
  have I2 : L2.Inv X pins σ H1 { s1 with heap := s1.heap.push { cls := .type "dict_values", data := .fields #[.ref d] } } := I1.kept (t' := s1.toks) fun b ob q => Heap.get?_push_of_some _ q
  refine ⟨hdo.typeIs, hdo.mapOf.noDict, ?_⟩
  show wpAny _ _ (callWith cpos (.builtin "dict.values") [.ref d] [] []) _ X.xe s1
  refine method_meetsIn PySem.F.slot_dict_values PySem.F.entry_dict_values rfl (PySem.evalArgs_none ⟨rfl, hdo.typeIs, PySem.F.args_dict_values_1 _, _, meets_dict_values (mixKind X.prog X.w) d hs0, ⟨vs, hdo⟩, ?_⟩)
  refine Calls.spliced_nil ?_
  refine PySem.W.kdl_call (PySem.W.kdl_values (knd := mixKind X.prog X.w) (kvs := vs) (ep := ep)) (I1.ok.hd hc) ⟨⟨_, Heap.get?_push_size _ rfl, rfl, rfl⟩, hat.push _⟩ (by omega) fun h' tk acc c' hk hD hacc => ?_
  have ev : acc.toList = vs.map (·.2) := PySem.W.kdl_vals_eq acc.toList (by rw [Array.length_toList]; exact hacc.1) fun j v e => hacc.2 j v (by rw [← Array.getElem?_toList]; exact e)
  have hv2 : Vals (kvs.map (·.2)) acc.toList := by
    rw [ev]
    clear ev hacc hD hk hat hdo I2 lk hd q hz
    induction kv with
    | nil => exact .nil
    | cons h t ih => exact .cons h.2 ih
  have nw := I2.hok.fresh (Nat.le_refl _)
  exact ⟨.ref _, _, I2.laid (t' := tk) hk (Nat.le_refl _) (show ObjOk X.prog X.w _ _ _ (.lst (kvs.map (·.2))) from ⟨by rw [List.length_map]; exact hz, acc.toList, c', hv2, by rw [Array.toArray_toList]; exact hD⟩), rfl, q _ nw⟩
def qListV (qd : QE) : QE := fun s m Φ => qd s m fun x m1 => match x with
  | .ref a => ∃ ks, m1 a = some (.dK ks) ∧ ∀ p, m1 p = none → Φ (.ref p) (mset m1 p (.lst (ks.map (·.2))))
  | _ => False
theorem RKs.vals {K : PySem.W.Frag} {G : Hp} {κ : Type} : ∀ {ds : List (κ × D)} {xs : List (κ × V)}, RKs K G ds xs → RVs K G (ds.map (·.2)) (xs.map (·.2))
  | [], _, h => by rw [show _ = [] from h]; rfl
  | _ :: _, _, ⟨x, r, h1, h2, h3⟩ => by subst h1; exact ⟨x, _, rfl, h2, RKs.vals h3⟩
theorem de_listVals {e : Expr} {qe : QE} {p apos cpos pos : Pos} (hc : X.calm = true) (he : PE X e (liftE X.K qe)) (hg : Gl X "list") (hm : X.mg "list" = none) (hv : bootBuiltins "list" = some (.type "list") := by decide +kernel) (hbase : attributeBase e "values" X.env (eval e X.env) = eval e X.env := by rfl) (hline : (apos.endLine == cpos.line) = true := by rfl)
    (hs : starEach [.Call (.Attribute e "values" apos) [] [] cpos] X.env = (false, eval (.Call (.Attribute e "values" apos) [] [] cpos) X.env) :: starEach [] X.env := by rfl) :
    PE X (.Call (.Name "list" p) [.Call (.Attribute e "values" apos) [] [] cpos] [] pos) (liftE X.K (qListV qe)) :=
  pe_imp (pe_listVals hc he hg hm hv hbase hline hs) fun σ H Q ⟨G, s, m, Φ, rm, rs, q, k⟩ => ⟨G, s, m, _, rm, rs, q, fun G1 x m1 v H1 e1 r1 rx q1 => by
    cases x with
    | ref a =>
      obtain rfl : v = .ref a := rx
      obtain ⟨ks, hm', q1⟩ := q1
      obtain ⟨_, u, hu, xs, rfl, rk⟩ := r1.mem a _ hm'
      exact ⟨a, xs, rfl, hu, fun p hp => k G1 (.ref p) _ _ _ e1 (r1.new (o := .lst _) hp ⟨_, rfl, rk.vals⟩) rfl (q1 p (r1.free hp))⟩
    | _ => exact q1.elim⟩
end
end L3
/-! L8e: own == against a list or an int; isinstance of a list or an int and an own class -/
namespace L3
open PySem PySem.Spec PyProof.Rows L2
section
variable {X : Cx}
theorem op_ownEqL {C f : Addr} {n : Nat} {sp : Sp} (F : FnR X.prog X.w X.K X.mg X.base CX0 n f sp) (hr : Room n X.A) (hs : PySem.W.findIn X.K (.ref C) "__eq__" = some (some (.ref f))) (hf : PySem.W.isFn X.K (.ref f) = true) (ht : PySem.W.notFirst X.K C (.type "list") = true) (hz : PySem.W.notFirst X.K C (.type "int") = true) :
    OpR X (compareOp .Eq) (fun x y H Q => ∃ a dx fs, x = .ref a ∧ H a = some (.ins C dx fs) ∧ ((∃ b dy gs, y = .ref b ∧ H b = some (.ins C dy gs)) ∨ (∃ b xs, y = .ref b ∧ SqL X.K H b xs) ∨ ∃ z, y = .int z) ∧ sp [.ref a, y] H (fun v H' => ∃ c, v = .bl c ∧ Q v H') E0) := by
  intro pins s σ H x y u v Q I rx ry d
  obtain ⟨a, dx, fs, rfl, ha, hy, hsp⟩ := d
  cases rx
  show wpAny (model X.prog X.w) X.A (richCompare .Eq _ _) (EP X pins σ Q) X.xe s
  obtain ⟨mA, J, _⟩ := ins_get I.hok ha
  obtain ⟨od, J, _⟩ := J.look
  obtain ⟨m, hF⟩ := I.fr
  have r2 : Vals [V.ref a, y] [Value.ref a, v] := .cons rfl (.cons ry .nil)
  have fin : wpAny (model X.prog X.w) X.A (call (.ref f) [.ref a, v]) (PySem.W.CmpBack (EP X pins σ Q)) X.xe s := by
    refine wpAny_call (codeAny_mono (F X.A X.stack s H [.ref a, v] [.ref a, y] _ E0 hr I.env0 r2 hsp) fun r s' hq => ?_)
    cases r with
    | error e => exact (pass0 pins σ H s e s' I hq : _)
    | ok fl =>
      cases fl with
      | ret w =>
        obtain ⟨z, H', I', rz, c, ez, q⟩ := I.after hq
        subst ez
        obtain rfl : w = Value.bool c := rz
        exact ⟨.bl c, H', I', rfl, q⟩
      | next => exact False.elim hq
      | brk => exact False.elim hq
      | cont => exact False.elim hq
  rcases hy with ⟨b, dy, gs, rfl, hb⟩ | ⟨b, xs, rfl, hb⟩ | ⟨z, rfl⟩
  · cases ry
    obtain ⟨mB, J', _⟩ := ins_get I.hok hb
    obtain ⟨od', J', _⟩ := J'.look
    exact PySem.W.cmp_K (op := .Eq) (tb := .ref C) hr.units0 hF I.ok.mod.kin J J'.type (by simp [PySem.W.notFirst]) hs hf fin
  · cases ry
    obtain ⟨its, r1, p1, _⟩ := I.list hb
    obtain ⟨o, ho, hc, _⟩ := p1.isList
    exact PySem.W.cmp_K (op := .Eq) (tb := .type "list") hr.units0 hF I.ok.mod.kin J (hc ▸ (PySem.W.Looks.ld ho).andThen .now) ht hs hf fin
  · obtain ⟨tk, rfl⟩ := ry
    exact PySem.W.cmp_K (op := .Eq) (tb := .type "int") hr.units0 hF I.ok.mod.kin J (PySem.W.Looks.of_pure rfl) hz hs hf fin
def vEqL (C : Addr) (sp : LSp) : D → D → Mem → DK → Prop := fun x y m Φ => match x with
  | .ref a => (∃ fs, m a = some (.ins C fs)) ∧ ((∃ b fs, y = .ref b ∧ m b = some (.ins C fs)) ∨ (∃ b ds, y = .ref b ∧ m b = some (.lst ds)) ∨ ∃ z, y = .int z) ∧ sp [.ref a, y] m fun d m1 => match d with | .bl c => Φ (.bl c) m1 | _ => False
  | _ => False
theorem do_eqL {C f : Addr} {n : Nat} {sp : LSp} (F : FnD X.prog X.w X.K X.mg X.base n f sp) (hr : Room n X.A) (hs : PySem.W.findIn X.K (.ref C) "__eq__" = some (some (.ref f))) (hf : PySem.W.isFn X.K (.ref f) = true) (ht : PySem.W.notFirst X.K C (.type "list") = true) (hz : PySem.W.notFirst X.K C (.type "int") = true) : OpR X (compareOp .Eq) (liftR X.K (vEqL C sp)) :=
  op_imp (op_ownEqL F hr hs hf ht hz) fun x y H Q ⟨G, m, dx, dy, Φ, rm, rx, ry, q, k⟩ => by
    unfold vEqL at q
    split at q
    · rename_i a
      obtain rfl : x = .ref a := rx
      obtain ⟨⟨fs, h1⟩, h2, q⟩ := q
      obtain ⟨_, u, hu, d1, xs, rfl, _⟩ := rm.mem a _ h1
      have fin : liftSp X.K sp [.ref a, y] H (fun v H' => ∃ c, v = .bl c ∧ Q v H') E0 := ⟨G, m, _, _, rm, RVs.cons (show RV X.K G (.ref a) (.ref a) from rfl) (RVs.cons ry (show RVs X.K G [] [] from rfl)), q, fun G1 d m1 v H1 e1 r1 rv q1 => by
        cases d with
        | bl c =>
          obtain rfl : v = .bl c := rv
          exact ⟨c, rfl, k G1 (.bl c) m1 _ H1 e1 r1 rfl q1⟩
        | _ => exact q1.elim⟩
      refine ⟨a, d1, xs, rfl, hu, ?_, fin⟩
      rcases h2 with ⟨b, gs, rfl, hb⟩ | ⟨b, ds, rfl, hb⟩ | ⟨z, rfl⟩
      · obtain rfl : y = .ref b := ry
        obtain ⟨_, w, hw, d2, ys, rfl, _⟩ := rm.mem b _ hb
        exact .inl ⟨b, d2, ys, rfl, hw⟩
      · obtain rfl : y = .ref b := ry
        obtain ⟨_, w, hw, ys, rfl, _⟩ := rm.mem b _ hb
        exact .inr (.inl ⟨b, ys, rfl, .inl (.inl hw)⟩)
      · obtain rfl : y = .int z := ry
        exact .inr (.inr ⟨z, rfl⟩)
    · exact q.elim
/-! ### isinstance(x, C), x an object of the class, a tuple or a text -/
def qIsCL (C : Addr) (qe : QE) : QE := fun s m Φ => qe s m fun x m1 => ((∃ a fs, x = .ref a ∧ m1 a = some (.ins C fs)) ∧ Φ (.bl true) m1) ∨ (((∃ a ds, x = .ref a ∧ m1 a = some (.lst ds)) ∨ ∃ z, x = .int z) ∧ Φ (.bl false) m1)
theorem de_isCL {C : Addr} {x : Str} {a : Expr} {qa : QE} {p p2 pos : Pos} (c : C8.InsC X.K C) (hk : PySem.W.kitOne X.K (.ref C) (.ref C) = some true) (ht : PySem.W.kitOne X.K (.type "list") (.ref C) = some false) (hz : PySem.W.kitOne X.K (.type "int") (.ref C) = some false) (hg : Gl X "isinstance") (hm : X.mg "isinstance" = none) (ha : PE X a (liftE X.K qa)) (hx : Gl X x) (hmx : X.mg x = some (.ref C)) (hdb : (x == ("__debug__" : Str)) = false := by decide)
    (he : starEach (a :: [.Name x p2]) X.env = (false, eval a X.env) :: starEach [.Name x p2] X.env := by rfl) (he2 : starEach (.Name x p2 :: []) X.env = (false, eval (.Name x p2) X.env) :: starEach [] X.env := by rfl) (hpl : (backTo pos (starEach [.Name x p2] X.env)).any (·.1) = false := by rfl) :
    PE X (.Call (.Name "isinstance" p) [a, .Name x p2] [] pos) (liftE X.K (qIsCL C qa)) := by
  have hC : PE X (.Name x p2) (tC (.ref C)) := pe_glob (v := .ref C) hx hmx rfl hdb
  exact pe_imp (pe_callB L2.call_isi hg hm (by decide +kernel) (pa_cons ha (pa_cons hC pa_nil he2) he) (by decide) (by decide) he hpl) fun σ H Q ⟨G, s, m, Φ, rm, rs, q, k⟩ => ⟨G, s, m, _, rm, rs, q, fun G1 x1 m1 v H1 e1 r1 rx q1 => by
    rcases q1 with ⟨⟨a1, fs, rfl, hm'⟩, q1⟩ | ⟨⟨a1, ds, rfl, hm'⟩ | ⟨z, rfl⟩, q1⟩
    · obtain rfl : v = .ref a1 := rx
      obtain ⟨_, u, hu, dx, xs, rfl, _⟩ := r1.mem a1 _ hm'
      exact ⟨.ref a1, .ref C, .ref C, .ref C, true, rfl, .own C, .base (.ins hu c.cl c.ha c.hn c.htk c.hm), hk, k G1 (.bl true) m1 _ H1 e1 r1 rfl q1⟩
    · exact ⟨v, .ref C, .type "list", .ref C, false, rfl, .own C, tyN_lift r1 rx (.inl ⟨rfl, ds, hm'⟩), ht, k G1 (.bl false) m1 _ H1 e1 r1 rfl q1⟩
    · exact ⟨v, .ref C, .type "int", .ref C, false, rfl, .own C, tyN_lift r1 rx rfl, hz, k G1 (.bl false) m1 _ H1 e1 r1 rfl q1⟩⟩
end
end L3
set_option maxHeartbeats 2000000
/-! L8f: zip of two lists where an exception is handled -/
namespace HotE
open PySem PySem.Spec PyProof.Rows HotX
section
variable {prog : Program} {w : World} {A : Around} {E : Value → Shared → Prop} {s : Shared}
/-- the end of a walk over a tuple -/
theorem lst_endN {it t x1 : Addr} {i : Nat} {items : Array Value} {Q : Fin → Shared → Prop} (hot : HotAt A x1 s.heap) (hit : s.heap.IsListIter it t i) (ht : s.heap.IsList t items) (hx : items[i]? = none)
    (hE : ∀ h' e, Heap.ExtBut it s.heap h' → (∃ o, h'.get? e = some o ∧ o.cls = .type "StopIteration") → E (.ref e) { s with heap := h' }) : wpAny (model prog w) A (Builtin.«list_iterator.__next__» ⟨[.ref it], []⟩) Q E s := by
  obtain ⟨o, ho, hc, hd⟩ := id hit
  obtain ⟨ol, hol, _, nl, hdl⟩ := ht
  have hne := hot_ne hot ho hd
  obtain ⟨hh, o1, vs1, h1, d1, c1⟩ := hot
  show wpAny _ _ (field (.ref it) 0 >>= _) _ _ s
  refine wpAny_bind (wpAny_field ho hd (x := .ref t) rfl ?_)
  show wpAny _ _ (if (Value.ref t == Value.none) = true then _ else _) _ _ s
  rw [if_neg (show ¬ ((Value.ref t == Value.none) = true) from Bool.false_ne_true)]
  show wpAny _ _ (field (.ref it) 1 >>= _) _ _ s
  refine wpAny_bind (wpAny_field ho hd (x := .int i 0) rfl ?_)
  show wpAny _ _ (seqItems? (.ref t) >>= _) _ _ s
  refine wpAny_bind (wpAny_seqItems hol hdl ?_)
  simp only [Int.toNat_natCast, hx]
  refine wpAny_bind (wpAny_rule (wpAny_bind (wpAny_setField ho hd (by simp) ?_)))
  show wpAny _ _ (newExc (.type "StopIteration") [] >>= _) _ _ _
  refine wpAny_bind ?_
  simp only [newExc, newTuple]
  refine wpAny_bind (wpAny_newObj_type ?_ (by size_fits))
  refine wpAny_bind (m := firstArgMember _ _) (wpAny_of_eq (a := Value.none) (by first | rfl | (simp only [firstArgMember]; rfl)) ?_)
  refine wpAny_newObj_type ?_ (by size_fits)
  refine raiseNew_hot ⟨hh, o1, vs1, Heap.get?_push_of_some _ (Heap.get?_push_of_some _ ((Heap.get?_update_other _ _ hne.symm).trans h1)), d1, c1⟩ (Nat.ne_of_lt (Heap.lt_size (Heap.get?_push_of_some _ ((Heap.get?_update_other _ _ hne.symm).trans h1)))) (Heap.get?_push_size _ rfl) rfl (by first | (simp; done) | (simp; omega) | (simp only [Array.size_append]; simp; omega)) ?_
  refine hE _ _ (fun b ob hb e => ?_) ⟨_, Heap.get?_update_self _ (Heap.get?_push_size _ rfl) rfl, rfl⟩
  have e2 := (Heap.get?_update_other s.heap (Obj.mapFields fun x => x.setIfInBounds 0 Value.none) (Ne.symm hb)).trans e
  rw [Heap.get?_update_other _ _ (Nat.ne_of_gt (Heap.lt_size (Heap.get?_push_of_some _ e2)))]
  exact Heap.get?_push_of_some _ (Heap.get?_push_of_some _ e2)
theorem nextOf_lst_end {it l x1 : Addr} {i : Nat} {items : Array Value} {Q : Value → Shared → Prop} (hot : HotAt A x1 s.heap)
    (hit : s.heap.IsListIter it l i) (hl : s.heap.IsList l items) (hx : items[i]? = none)
    (hE : ∀ h' e, Heap.ExtBut it s.heap h' → (∃ o, h'.get? e = some o ∧ o.cls = .type "StopIteration") → E (.ref e) { s with heap := h' }) : wpAny (model prog w) A (Builtin.SmallTypes.nextOf (.ref it)) Q E s := by
  unfold Builtin.SmallTypes.nextOf
  exact wpAny_bind (wpAny_callSpecial?_slot (name := Str.ofString "__next__") hit.typeIs slot_listiter_next
    (wpAny_call_entry slot_listiter_next hit.typeIs entry_listiter_next (lst_endN (A := A.in1) hot hit hl hx hE) (args_listiter_next _)))
/-- zip of two tuples ends -/
theorem zip_endL {z TI TO i1 i2 l1 l2 x1 : Addr} {k1 k2 : Nat} {xs ys : Array Value} {a b : Value} {Q : Fin → Shared → Prop} (hot : HotAt A x1 s.heap) (D : ZipApart z TI TO i1 i2 l1 l2)
    (hz : IsZip s.heap z TI TO .none) (hTI : IsPair s.heap TI (.ref i1) (.ref i2)) (hTO : IsPair s.heap TO a b)
    (h1 : s.heap.IsListIter i1 l1 k1) (h2 : s.heap.IsListIter i2 l2 k2) (hl1 : s.heap.IsList l1 xs) (hl2 : s.heap.IsList l2 ys) (hend : xs[k1]? = none ∨ ys[k2]? = none) (hxz : x1 ≠ z) (hxTO : x1 ≠ TO)
    (hE : ∀ h' e, (∀ c o, c ≠ z → c ≠ TO → c ≠ i1 → c ≠ i2 → s.heap.get? c = some o → h'.get? c = some o) → (∃ o, h'.get? e = some o ∧ o.cls = .type "StopIteration") → E (.ref e) { s with heap := h' }) :
    wpAny (model prog w) A (Builtin.«zip.__next__» ⟨[.ref z], []⟩) Q E s := by
  have hx1 : x1 ≠ i1 := by obtain ⟨o, ho, _, hd⟩ := h1; exact hot_ne hot ho hd
  show wpAny _ _ (field (.ref z) 2 >>= _) _ _ _
  refine wpAny_bind (wpAny_field hz rfl (x := .bool false) rfl ?_)
  show wpAny _ _ (field (.ref z) 3 >>= _) _ _ _
  refine wpAny_bind (wpAny_field hz rfl (x := .ref TI) rfl (wpAny_bind (wpAny_seqItems hTI rfl ?_)))
  show wpAny _ _ (Builtin.SmallTypes.ownedTupleIsFree (.ref z) >>= _) _ _ _
  refine wpAny_bind ?_
  unfold Builtin.SmallTypes.ownedTupleIsFree
  refine wpAny_bind (wpAny_field hz rfl (x := .none) rfl (wpAny_pure ?_))
  simp only [if_true]
  refine wpAny_bind (wpAny_rule (wpAny_bind (wpAny_field hz rfl (x := .ref TO) rfl ?_)))
  refine wpAny_bind (wpAny_setField_rec hz (by simp) fun g1 hz1 b1 => ?_)
  replace hz1 : IsZip g1 z TI TO .ellipsis := hz1
  refine wpAny_bind ?_
  simp only [List.zipIdx_cons, List.zipIdx_nil, List.forIn_cons, List.forIn_nil]
  refine wpAny_bind (wpAny_bind (wpAny_onRaise ?_))
  show wpAny _ _ (Builtin.SmallTypes.nextOf (.ref i1) >>= _) _ _ _
  have hot1 : HotAt A x1 g1 := hot_mono hot fun o e => b1.extBut _ _ hxz e
  cases hx : xs[k1]? with
  | none =>
    refine wpAny_bind (nextOf_lst_end hot1 (h1.extBut b1.extBut D.i1z) (hl1.extBut b1.extBut D.l1z) hx fun g2 e b2 he => ?_)
    obtain ⟨oe, hoe, hce⟩ := he
    have hz2 : IsZip g2 z TI TO .ellipsis := b2 _ _ D.i1z.symm hz1
    have hez : e ≠ z := fun q => by subst q; rw [hz2] at hoe; cases hoe; simp at hce
    exact wpAny_setField_rec hz2 (by simp) fun g3 _ b3 => hE g3 e (fun c o c1 _ c3 _ q => b3.extBut _ _ c1 (b2 _ _ c3 (b1.extBut _ _ c1 q))) ⟨oe, b3.extBut _ _ hez hoe, hce⟩
  | some x =>
    have hy : ys[k2]? = none := hend.resolve_left (by rw [hx]; intro q; cases q)
    refine wpAny_bind (wpAny_nextOf_list_item (h1.extBut b1.extBut D.i1z) (hl1.extBut b1.extBut D.l1z) hx fun g2 _ b2 => wpAny_pure ?_)
    have hTO2 : IsPair g2 TO a b := b2.extBut _ _ D.TOi1 (b1.extBut _ _ D.TOz hTO)
    refine wpAny_bind (wpAny_seqItems hTO2 rfl (wpAny_bind (wpAny_updateSeq_pair hTO2 fun g3 _ b3 => wpAny_bind (wpAny_letGo (wpAny_pure ?_)))))
    refine wpAny_bind (wpAny_bind (wpAny_onRaise ?_))
    show wpAny _ _ (Builtin.SmallTypes.nextOf (.ref i2) >>= _) _ _ _
    have hot3 : HotAt A x1 g3 := hot_mono hot1 fun o e => b3.extBut _ _ hxTO (b2.extBut _ _ hx1 e)
    refine wpAny_bind (nextOf_lst_end hot3 (((h2.extBut b1.extBut D.i2z).extBut b2.extBut D.i12.symm).extBut b3.extBut D.TOi2.symm) (((hl2.extBut b1.extBut D.l2z).extBut b2.extBut D.l2i1).extBut b3.extBut D.l2TO) hy fun g4 e b4 he => ?_)
    obtain ⟨oe, hoe, hce⟩ := he
    have hz4 : IsZip g4 z TI TO .ellipsis := b4 _ _ D.i2z.symm (b3.extBut _ _ D.TOz.symm (b2.extBut _ _ D.i1z.symm hz1))
    have hez : e ≠ z := fun q => by subst q; rw [hz4] at hoe; cases hoe; simp at hce
    exact wpAny_setField_rec hz4 (by simp) fun g5 _ b5 => hE g5 e (fun c o c1 c2 c3 c4 q => b5.extBut _ _ c1 (b4 _ _ c4 (b3.extBut _ _ c2 (b2.extBut _ _ c3 (b1.extBut _ _ c1 q))))) ⟨oe, b5.extBut _ _ hez hoe, hce⟩
theorem pyNext_zip_endL {z TI TO i1 i2 l1 l2 x1 : Addr} {k1 k2 : Nat} {xs ys : Array Value} {a b : Value} {Q : Option Value → Shared → Prop} (hot : HotAt A x1 s.heap) (D : ZipApart z TI TO i1 i2 l1 l2)
    (hz : IsZip s.heap z TI TO .none) (hTI : IsPair s.heap TI (.ref i1) (.ref i2)) (hTO : IsPair s.heap TO a b)
    (h1 : s.heap.IsListIter i1 l1 k1) (h2 : s.heap.IsListIter i2 l2 k2) (hl1 : s.heap.IsList l1 xs) (hl2 : s.heap.IsList l2 ys) (hend : xs[k1]? = none ∨ ys[k2]? = none) (hxz : x1 ≠ z) (hxTO : x1 ≠ TO)
    (hQ : ∀ h', (∀ c o, c ≠ z → c ≠ TO → c ≠ i1 → c ≠ i2 → s.heap.get? c = some o → h'.get? c = some o) → Q none { s with heap := h' }) : wpAny (model prog w) A (pyNext (.ref z)) Q E s := by
  have hT : s.TypeIs (.ref z) "zip" := ⟨_, hz, rfl⟩
  unfold pyNext
  refine wpAny_bind (wpAny_attempt (wpAny_callSpecial?_slot (name := Str.ofString "__next__") hT F.slot_zip_next
    (wpAny_call_entry F.slot_zip_next hT F.entry_zip_next (zip_endL (A := A.in1) hot D hz hTI hTO h1 h2 hl1 hl2 hend hxz hxTO fun h' e hk he => ?_) (F.args_zip_next_1 _))))
  obtain ⟨o, ho, hc⟩ := he
  exact wpAny_bind (wpAny_isInstance (T := "StopIteration") (b := true) ⟨o, ho, hc⟩ isSubtype_stop (wpAny_pure (hQ _ hk)))
end
end HotE
namespace HotE
open PySem PySem.Spec PyProof.Rows L2 L2H HotX
/-- zip of two tuples, turn by turn -/
theorem turn_zipHL {P : Program} {w : World} {K : PySem.W.Frag} {elts : List Expr} {kk : Nat} {tpos : Pos} {a b z TI TO i1 i2 : Addr} (D : ZipApart z TI TO i1 i2 a b) :
    TurnH P w K (.Tuple elts kk tpos) (Itz K a b) [z, TI, TO, i1, i2] z (fun i h => IsZip h z TI TO .none ∧ IsPair h TI (.ref i1) (.ref i2) ∧ (∃ x y, IsPair h TO x y) ∧ h.IsListIter i1 a i ∧ h.IsListIter i2 b i) := by
  have T := turn_zip (P := P) (w := w) (K := K) (elts := elts) (kk := kk) (tpos := tpos) D
  refine ⟨T.mem, T.obj, T.keep, ?_, ?_, T.self⟩
  · intro X hP hw hK hc i pins s σ H E I hf st hg
    subst hP hw hK
    obtain ⟨hz, hTI, ⟨x0, y0, hTO⟩, h1, h2⟩ := st
    obtain ⟨xs, ys, x, y, hqx, hqy, hx, hy⟩ := hg
    obtain ⟨its, rv, p, _⟩ := I.list hqx
    obtain ⟨its2, rv2, p2, _⟩ := I.list hqy
    obtain ⟨u, hu, ru⟩ := rv.get hx
    obtain ⟨u2, hu2, ru2⟩ := rv2.get hy
    have lts : ∀ c ∈ [z, TI, TO, i1, i2], c < s.heap.objs.size := fun c hcm => by
      obtain ⟨o, e, _⟩ := T.obj i s.heap ⟨hz, hTI, ⟨_, _, hTO⟩, h1, h2⟩ c hcm
      exact Heap.lt_size e
    refine wpAny_pyNext_zip_item D hz hTI hTO h1 h2 p.isList p2.isList (x := u) (y := u2) (by simpa using hu) (by simpa using hu2) fun h' z' TO' h1' h2' hT hsz hk => ?_
    refine ⟨_, rfl, wpAny_letOwnedTupleGo_zip (s := { s with heap := h' }) z' fun h'' z'' sb => ?_⟩
    have hT2 := (sb.2 _ (Nat.ne_of_gt (lts z (by simp)))).trans hT
    have new : ObjOk X.prog X.w (upd H s.heap.objs.size (.tup [x, y])) h'' s.heap.objs.size (.tup [x, y]) :=
      ⟨by show 2 ≤ sizeLine; decide, [u, u2], .cons ru (.cons ru2 .nil), ⟨_, hT2, rfl, _, rfl⟩⟩
    have I1 : Inv X pins σ (upd H s.heap.objs.size (.tup [x, y])) { s with heap := h'' } :=
      I.turnedNew (t' := s.toks) (ch := [z, TI, TO, i1, i2]) (fun c o hb q => (sb.2 c (fun q' => hb (by simp [q']))).trans (hk c o (fun q' => hb (by simp [q'])) (fun q' => hb (by simp [q'])) (fun q' => hb (by simp [q'])) (fun q' => hb (by simp [q'])) q)) hf (Nat.le_refl _) new
    refine ⟨.ref s.heap.objs.size, _, I1, rfl, ⟨_, x, y, rfl, I.hok.fresh (Nat.le_refl _), rfl, fun l hl => by rw [I.list_inj hl hqx]; exact hx, fun l hl => by rw [I.list_inj hl hqy]; exact hy⟩, ⟨z'', ?_, ⟨u, u2, ?_⟩, ?_, ?_⟩, fun c hcm => ?_⟩
    · exact (sb.2 _ D.TIz).trans (hk _ _ D.TIz D.TITO D.TIi1 D.TIi2 hTI)
    · exact (sb.2 _ D.TOz).trans TO'
    · exact h1'.at fun o q => (sb.2 _ D.i1z).trans q
    · exact h2'.at fun o q => (sb.2 _ D.i2z).trans q
    · rw [upd_ne (Nat.ne_of_lt (lts c hcm))]
      exact (hf c hcm).1
  · intro X hP hw hK hc i pins s σ H E I hf st hg
    subst hP hw hK
    obtain ⟨hz, hTI, ⟨x0, y0, hTO⟩, h1, h2⟩ := st
    obtain ⟨xs, ys, hqx, hqy, hend⟩ := hg
    obtain ⟨its, rv, p, _⟩ := I.list hqx
    obtain ⟨its2, rv2, p2, _⟩ := I.list hqy
    have l1 := rv.length
    have l2 := rv2.length
    obtain ⟨x1, hot, hx1⟩ := hot_pin hc I hf
    exact pyNext_zip_endL hot D hz hTI hTO h1 h2 p.isList p2.isList (hend.imp (fun q => by simp; omega) fun q => by simp; omega) (hx1 z (by simp)) (hx1 TO (by simp)) fun h' hk => ⟨rfl, I.turnedL (t' := s.toks) (ch := [z, TI, TO, i1, i2]) (fun c o hb q =>
      hk c o (fun q' => hb (by simp [q'])) (fun q' => hb (by simp [q'])) (fun q' => hb (by simp [q'])) (fun q' => hb (by simp [q'])) q) hf⟩
def iZipLH (K : PySem.W.Frag) (ta : TA) : TI := fun σ H R => ta σ H fun vs H1 => ∃ a b xs ys, vs = [.ref a, .ref b] ∧ SqL K H1 a xs ∧ SqL K H1 b ys ∧ R (Itz K a b) H1
def iZipOH (K : PySem.W.Frag) (ta : TA) : TI := fun σ H R => ta σ H fun vs H1 => (∃ a b xs ys, vs = [.ref a, .ref b] ∧ SqT K H1 a xs ∧ SqT K H1 b ys ∧ R (RZ.ItzT K a b) H1) ∨ ∃ a b xs ys, vs = [.ref a, .ref b] ∧ SqL K H1 a xs ∧ SqL K H1 b ys ∧ R (Itz K a b) H1
theorem pi_zipHO {X : Cx} {e e2 : Expr} {ta : TA} {p pos tpos : Pos} {elts : List Expr} {kk : Nat} (hg : Gl X "zip") (hm : X.mg "zip" = none) (ha : PA X [e, e2] ta)
    (hs : starEach [e, e2] X.env = (false, eval e X.env) :: starEach [e2] X.env := by rfl) (hpl : (backTo pos (starEach [e2] X.env)).any (·.1) = false := by rfl) :
    PIH X (.Tuple elts kk tpos) (.Call (.Name "zip" p) [e, e2] [] pos) (iZipOH X.K ta) := by
  refine ⟨fun pins s σ H R I h => ?_⟩
  refine Call_ (ld_blt I hg hm PyProof.Rows.boot_zip (PyProof.Rows.callWith_type1 (thn (ha.run pos pins s σ H _ I h) fun us s1 ⟨vs, H1, I1, r1, q1⟩ => ?_) hs hpl))
  rcases q1 with q1 | q1
  · skip
    obtain ⟨a, b, xs, ys, ex, hqx, hqy, q⟩ := q1
    subst ex
    cases r1 with
    | cons r rr =>
      cases rr with
      | cons r' rr =>
        cases rr
        cases r
        cases r'
        have new5 : ∀ c, c ∈ [s1.heap.objs.size + 4, s1.heap.objs.size + 2, s1.heap.objs.size + 3, s1.heap.objs.size, s1.heap.objs.size + 1] → FpOk X pins H1 c := fun c hcm => by
          have hle : s1.heap.objs.size ≤ c := by simp only [List.mem_cons, List.not_mem_nil, or_false] at hcm; omega
          exact I1.fpOk hle (I1.hok.fresh hle)
        obtain ⟨its, rv, p1, _⟩ := I1.tuple hqx
        obtain ⟨its2, rv2, p2, _⟩ := I1.tuple hqy
        obtain ⟨o1, ho1, _⟩ := id p1
        obtain ⟨o2, ho2, _⟩ := id p2
        refine RZ.call_zipT (show s1.heap.IsTuple a its.toArray from p1) (show s1.heap.IsTuple b its2.toArray from p2) fun h' hz hTI hTO h1 h2 hsz hk => wpAny_pyIter_zip hz ?_
        exact ⟨s1.heap.objs.size + 4, [s1.heap.objs.size + 4, s1.heap.objs.size + 2, s1.heap.objs.size + 3, s1.heap.objs.size, s1.heap.objs.size + 1], _, _, H1, rfl, I1.kept (t' := s1.toks) hk,
          turn_zipH (PySem.W.ktu_apart s1.heap.objs.size a b (Heap.lt_size ho1) (Heap.lt_size ho2)), ⟨hz, hTI, ⟨_, _, hTO⟩, h1, h2⟩, new5, q⟩
  · skip
    obtain ⟨a, b, xs, ys, ex, hqx, hqy, q⟩ := q1
    subst ex
    cases r1 with
    | cons r rr =>
      cases rr with
      | cons r' rr =>
        cases rr
        cases r
        cases r'
        have new5 : ∀ c, c ∈ [s1.heap.objs.size + 4, s1.heap.objs.size + 2, s1.heap.objs.size + 3, s1.heap.objs.size, s1.heap.objs.size + 1] → FpOk X pins H1 c := fun c hcm => by
          have hle : s1.heap.objs.size ≤ c := by simp only [List.mem_cons, List.not_mem_nil, or_false] at hcm; omega
          exact I1.fpOk hle (I1.hok.fresh hle)
        obtain ⟨its, rv, p1, _⟩ := I1.list hqx
        obtain ⟨its2, rv2, p2, _⟩ := I1.list hqy
        obtain ⟨o1, ho1, _⟩ := p1.isList
        obtain ⟨o2, ho2, _⟩ := p2.isList
        refine call_zip_2 p1.isList p2.isList fun h' hz hTI hTO h1 h2 hsz hk => wpAny_pyIter_zip hz ?_
        exact ⟨s1.heap.objs.size + 4, [s1.heap.objs.size + 4, s1.heap.objs.size + 2, s1.heap.objs.size + 3, s1.heap.objs.size, s1.heap.objs.size + 1], _, _, H1, rfl, I1.kept (t' := s1.toks) hk,
          turn_zipHL (PySem.W.ktu_apart s1.heap.objs.size a b (Heap.lt_size ho1) (Heap.lt_size ho2)), ⟨hz, hTI, ⟨_, _, hTO⟩, h1, h2⟩, new5, q⟩
end HotE
namespace L3
open PySem PySem.Spec PyProof.Rows L2 L2H HotX HotE
section
variable {X : Cx}
def iZipHD (qa : QA) : QI := fun s m Ξ => qa s m fun ds m1 => ∃ xs ys, (ds = [.tup xs, .tup ys] ∨ ds = [.lst xs, .lst ys]) ∧ Ξ (zipD xs ys) (fun _ => True) m1
theorem di_zipHD {e e2 : Expr} {qa : QA} {p pos tpos : Pos} {elts : List Expr} {kk : Nat} (hg : Gl X "zip") (hm : X.mg "zip" = none) (ha : PA X [e, e2] (liftA X.K qa)) (hs : starEach [e, e2] X.env = (false, eval e X.env) :: starEach [e2] X.env := by rfl) (hpl : (backTo pos (starEach [e2] X.env)).any (·.1) = false := by rfl) :
    PIH X (.Tuple elts kk tpos) (.Call (.Name "zip" p) [e, e2] [] pos) (liftI X.K (iZipHD qa)) := by
  refine ⟨fun pins st σ H R I h => (pi_zipHO hg hm ha hs hpl).run pins st σ H R I ?_⟩
  obtain ⟨G, s, m, Φ, rm, rs, q, k⟩ := h
  refine ⟨G, s, m, _, rm, rs, q, fun G1 ds m1 vs H1 e1 r1 rd ⟨xs, ys, ed, q1⟩ => ?_⟩
  rcases ed with rfl | rfl
  · obtain ⟨v, u, rfl, ⟨a, xs', rfl, h1, h2⟩, b, ys', rfl, h3, h4⟩ := rv2 rd
    exact .inl ⟨a, b, xs', ys', rfl, r1.sub.t h1, r1.sub.t h3, k G1 _ _ m1 _ H1 e1 r1 (wk_zipT h1 h2 h3 h4) q1⟩
  · obtain ⟨v, u, rfl, ⟨a, xs', rfl, h1, h2⟩, b, ys', rfl, h3, h4⟩ := rv2 rd
    exact .inr ⟨a, b, xs', ys', rfl, r1.sub.l h1, r1.sub.l h3, k G1 _ _ m1 _ H1 e1 r1 ((wk_zip (lsAt_lst h1 h2) (lsAt_lst h3 h4)).imp fun m _ => ⟨trivial, trivial⟩) q1⟩
end
end L3
/-! L8g: own exceptions over ValueError, LookupError or RuntimeError whose __init__ stores its one argument -/
namespace PySem
namespace BX
open PySem.W PySem.Calls PyProof.Rows PySem.HandSPX
open Builtin Builtin.ObjectAttr
def isOwn : Value → Bool
  | .ref _ => true
  | _ => false
/-- own classes ahead of the built-in base's row -/
def ownB (tl l : List Value) : Bool := l.dropWhile isOwn == tl
theorem ownB_split {tl : List Value} : ∀ {l : List Value}, ownB tl l = true → ∃ cs : List Addr, l = cs.map Value.ref ++ tl
  | [], e => ⟨[], beq_iff_eq.mp e⟩
  | .ref c :: r, e => (ownB_split (l := r) e).elim fun cs q => ⟨c :: cs, congrArg (Value.ref c :: ·) q⟩
  | .none :: _, e | .ellipsis :: _, e | .notImplemented :: _, e | .bool _ :: _, e | .int _ _ :: _, e | .float _ _ :: _, e | .str _ _ :: _, e | .bytes _ _ :: _, e | .type _ :: _, e | .builtin _ :: _, e => ⟨[], beq_iff_eq.mp e⟩
/-- what is known of the built-in base -/
structure BaseOk (B newId initId : String) (tl : List Value) : Prop where
  facts : ExcBaseFacts B newId initId tl
  pass : ∀ self, refuseLoop self "__setattr__" tl = pure ()
  obj : tl.contains (.type "object") = true
theorem base_LE : BaseOk "LookupError" "LookupError.__new__" "LookupError.__init__" [.type "LookupError", .type "Exception", .type "BaseException", .type "object"] := ⟨F.excBase_LookupError, F.store_LookupError.passes, by decide +kernel⟩
theorem own_pass {self : Value} {tl : List Value} (h : refuseLoop self "__setattr__" tl = pure ()) : ∀ cs : List Addr, refuseLoop self "__setattr__" (cs.map Value.ref ++ tl) = pure ()
  | [] => h
  | _ :: cs => (refuseLoop_ref ..).trans (own_pass h cs)
theorem own_has {tl : List Value} (Y : String) : ∀ cs : List Addr, (cs.map Value.ref ++ tl).contains (.type Y) = tl.contains (.type Y)
  | [] => rfl
  | c :: cs => by
    show (Value.ref c :: (cs.map Value.ref ++ tl)).contains (.type Y) = _
    rw [List.contains_cons, own_has Y cs]; rfl
theorem ownB_has {tl l : List Value} (e : ownB tl l = true) (Y : String) : l.contains (.type Y) = tl.contains (.type Y) := by
  obtain ⟨cs, rfl⟩ := ownB_split e
  exact own_has Y cs
theorem ownB_pass {tl l : List Value} (e : ownB tl l = true) (self : Value) (h : refuseLoop self "__setattr__" tl = pure ()) : refuseLoop self "__setattr__" l = pure () := by
  obtain ⟨cs, rfl⟩ := ownB_split e
  exact own_pass h cs
section
variable {prog : Program} {w : World} {A : Around} {R : Result → Shared → Prop} {hp : Heap} {g : Array GenState} {d : Drawn} {t : Nat} {os : OsState}
/-- the first field of an exception in the making -/
theorem osa_fresh {K : W.Frag} {fld : Str} {tk : Tok} {v : Value} {x C : Addr} {fv : Array Value} {k : ClassData} {tl : List Value}
    (X : K.In hp) (hx : hp.get? x = some { cls := .ref C, data := .fields fv }) (hk : W.clsIn K C = some k) (hm : ownB tl k.mro = true) (hT : tl.contains (.type "object") = true) (hP : ∀ self, refuseLoop self "__setattr__" tl = pure ()) (hh : k.hasDict = true) (no : W.findIn K (.ref C) fld = some none)
    (hq : ∀ h' tk' dx, (∀ b o, b ≠ x → hp.get? b = some o → h'.get? b = some o) → hp.objs.size ≤ dx → dx ≠ x → h'.get? x = some { cls := .ref C, dict := some dx, data := .fields fv } →
      h'.Ns1 dx (fun y => if y = fld then some v else none) → R (.ok (.ret .none)) ⟨h', g, d, tk', os⟩) :
    codeAny (model prog w) A (.call (.builtin "object.__setattr__") ⟨[.ref x, .str fld tk, v], []⟩) R ⟨hp, g, d, t, os⟩ := by
  have J : W.InstAt hp x { cls := .ref C, data := .fields fv } C none := ⟨hx, rfl, rfl, trivial⟩
  have S := F.store_object
  have hob : k.mro.contains (.type "object") = true := (ownB_has hm "object").trans hT
  have hem : k.mro.isEmpty = false := by
    cases q : k.mro with
    | nil => rw [q] at hob; exact absurd hob (by decide)
    | cons _ _ => rfl
  have ap : x ≠ hp.objs.size := Nat.ne_of_lt (Heap.lt_size hx)
  have isO : W.Looks (model prog w) hp (isInstance (.ref x) (.type "object")) true := J.type.andThen (W.looks_mroIn X (by unfold W.mroIn; rw [hk, Option.bind_some, if_neg (by rw [hem]; decide), hob]))
  refine codeAny_call_builtin S.slot.plain S.entry (@W.check_slot (model prog w) _ _ ⟨hp, g, d, t, os⟩ "object.__setattr__" "object" "__setattr__" (.ref x) [.str fld tk, v] [] _ S.kind S.split isO (S.args (.ref x) (.str fld tk) v) ?_)
  have lm : W.Looks (model prog w) hp (mroOf (.ref C)) k.mro := (W.looks_clsIn X hk).andThen .now
  have lt : W.Looks (model prog w) hp (storeTaker? none) none := .now
  have lc : W.Looks (model prog w) hp (classData C) k := W.looks_clsIn X hk
  rw [W.osa_eq, refuse_eq]
  refine wpAny_bind (wpAny_bind (J.type.at (wpAny_bind (lm.at ?_))))
  rw [ownB_pass hm _ (hP _)]
  refine wpAny_pure (wpAny_bind (J.type.at (wpAny_bind ((W.looks_findIn X no).at (wpAny_bind (lt.at ?_))))))
  show wpAny _ _ (storeInOwnDict (.ref x) (.ref C) (.str fld tk) fld v false) _ _ _
  obtain ⟨nm, bs, mr, ns, qn, hd, sn, sb, ab, col, de⟩ := k
  dsimp only at hh
  subst hh
  unfold storeInOwnDict ownDictForStores
  repeat (first | with_reducible refine store_in_new ?_ ?_ | with_reducible refine wpAny_loadPart_at hx ?_ | with_reducible refine lc.at ?_ | wp_step)
  · exact ⟨_, #[], _, (Heap.get?_update_ne _ _ _ _ ap.symm).trans (Heap.get?_push_at rfl rfl), rfl, fun e he => absurd he (by simp), fun _ => rfl⟩
  · intro h' tk' hn' hs
    have hx2 : (hp.push { cls := .type "dict", data := .dict #[] }).get? x = some { cls := .ref C, data := .fields fv } := Heap.get?_push_of_some _ hx
    refine hq h' tk' hp.objs.size (fun b o hb ho => ?_) (Nat.le_refl _) ap.symm ?_ hn'
    · exact (hs.2 b (Nat.ne_of_lt (Heap.lt_size ho))).trans ((Heap.get?_update_ne _ _ _ _ hb).trans (Heap.get?_push_of_some _ ho))
    · exact (hs.2 x ap).trans (Heap.get?_update_self _ hx2 rfl)
end
end BX
end PySem
namespace L3
open PySem PySem.Spec PyProof.Rows L2 L2H HotX HotE
open PySem.BX (BaseOk ownB)
/-- what the written part says of the class -/
def ClsLkG (K : PySem.W.Frag) (C : Addr) : Prop := ∃ B newId initId tl nm q N bs bm sn sub ab col dd k0 k1 k2 k3 k5, BaseOk B newId initId tl ∧ K.lookup C = some (excClassObj nm q C N bs bm true sn sub ab col dd k0 k1 k2 k3 k5 newId) ∧ ownB tl bm = true
theorem clsLkG_of {K : PySem.W.Frag} {C : Addr} {B newId initId tl nm q N bs bm sn sub ab col dd k0 k1 k2 k3 k5} (b : BaseOk B newId initId tl) (h : K.lookup C = some (excClassObj nm q C N bs bm true sn sub ab col dd k0 k1 k2 k3 k5 newId)) (e : ownB tl bm = true) : ClsLkG K C := ⟨_, _, _, _, _, _, _, _, _, _, _, _, _, _, _, _, _, _, _, b, h, e⟩
structure OexG (K : PySem.W.Frag) (C : Addr) : Prop where
  cls : ClsLkG K C
  sa : PySem.W.findIn K (.ref C) "__setattr__" = some (some (.builtin "object.__setattr__"))
  exC : PySem.W.subIn K (.ref C) (.type "BaseException") = some true
  tyC : PySem.W.typeIn K (.ref C) = some (.type "type")
  kC : PySem.W.keepIn K (.ref C) = true
section
variable {X : Cx} {pins : List (Addr × Obj)} {σ : L2.St} {H : Hp} {s : Shared} {a C dx : Addr} {f : Str} {y : V} {u : Value} {Q : Unit → Shared → Prop} {E : Value → Shared → Prop} {A : Around}
theorem ost_newG (T : OexG X.K C) (I : Inv X pins σ H s) (e : H a = some (exo a C none)) (no : PySem.W.findIn X.K (.ref C) f = some none) (ry : RelV y u)
    (h : ∀ dx s', H dx = none → dx ≠ a → Inv X pins σ (upd (upd H dx (exd dx [(f, y)])) a (exo a C (some dx))) s' → Q () s') : wpAny (model X.prog X.w) A (setAttr (.ref a) f u) Q E s := by
  obtain ⟨B, newId, initId, tl, nm, q, N, bs, bm, sn, sub, ab, col, dd, k0, k1, k2, k3, k5, b, hC, hbm⟩ := T.cls
  have hk : PySem.W.clsIn X.K C = some { name := nm, bases := bs, mro := .ref C :: bm, ns := N, qualname := q, hasDict := true, slotNames := sn, subclasses := sub, abstract := ab, collection := col, hasDel := false } := by unfold PySem.W.clsIn; rw [hC]
  obtain ⟨t1, ho⟩ := exo_at I.hok e
  obtain ⟨hp, g, d, t, os⟩ := s
  refine PySem.W.set_plain I.kIn (ox := { cls := .ref C, dict := none, data := .fields #[.ref t1, .none, .none, .none, .bool false, .none] }) (od := none) ⟨ho, rfl, rfl, trivial⟩ T.sa ?_
  refine PySem.BX.osa_fresh I.kIn ho hk (show ownB tl (.ref C :: bm) = true from hbm) b.obj b.pass rfl no (fun h' tk' dx k dn dne hx hn => ?_)
  have hnd : H dx = none := I.hok.fresh dn
  have off : ∀ {b : Addr} {o : Obj}, hp.get? b = some o → b ≠ dx := fun {b o} q => Nat.ne_of_lt (Nat.lt_of_lt_of_le (Heap.lt_size q) dn)
  have away : ∀ {b : Addr}, H b = none → b ≠ a := fun {b} n z => by
    rw [z, e] at n
    cases n
  have Un1 : Un X.fs [] H (upd (upd H dx (exd dx [(f, y)])) a (exo a C (some dx))) hp h' := {
    keep := fun b o q n _ _ => k b o (away n) q
    slot := fun b o q n _ _ => ⟨o.slots, k b o (away n) q⟩
    free := fun b o q n _ => by rw [upd_ne (away n), upd_ne (off q)]; exact n
    there := fun b o q _ => by
      by_cases hb : b = a
      · exact ⟨_, by rw [hb]; exact hx⟩
      · exact ⟨o, k b o hb q⟩
    tups := fun b xs q => by rw [upd_ne (at_ne e q exo_tup), upd_ne (ne_of_none q hnd)]; exact q
    frzs := fun b o v q => by rw [upd_ne (at_ne e q exo_frz), upd_ne (ne_of_none q hnd)]; exact q
    tbls := fun b ps q => ⟨#[], by rw [upd_ne (at_ne e q exo_tbl), upd_ne (ne_of_none q hnd), q]; simp⟩ }
  refine h dx _ hnd dne (I.un (t' := tk') Un1 fun b o q => ?_)
  by_cases hb : b = a
  · subst hb
    rw [upd_same] at q
    cases q
    exact exo_ok hx
  · rw [upd_ne hb] at q
    by_cases hd : b = dx
    · subst hd
      rw [upd_same] at q
      cases q
      exact exd_ok hn (relO_put (fs := []) ry fun g => True.intro)
    · rw [upd_ne hd] at q
      exact (I.hok b o q).stay (fun c v hc z => k c v (hc.elim (fun hc => hc ▸ hb) fun hc => at_ne e hc exo_own) z)
        (fun c hc => by rw [upd_ne (at_ne e hc exo_own), upd_ne (ne_of_none hc hnd)]; exact hc) (fun c xs hc => by rw [upd_ne (at_ne e hc exo_tup), upd_ne (ne_of_none hc hnd)]; exact hc)
/-- self.f = e, the one store of such an __init__ -/
def tOstG (K : PySem.W.Frag) (f : Str) (to te : TE) : TS := fun D σ H => te σ H fun y H1 => to σ H1 fun x H2 => ∃ a C : Addr, x = .ref a ∧ OexG K C ∧ PySem.W.findIn K (.ref C) f = some none ∧
  H2 a = some (exo a C none) ∧ ∀ dx, H2 dx = none → dx ≠ a → D.nx σ (upd (upd H2 dx (exd dx [(f, y)])) a (exo a C (some dx)))
theorem ps_ostG {o e : Expr} {to te : TE} {p' pos : Pos} (ho : PE X o to) (he : PE X e te) (hs : swapsWith e (some (.Attribute o f p')) pos.line X.env = pure false := by rfl) : PS X (.Assign [.Attribute o f p'] e pos) (tOstG X.K f to te) := by
  refine ⟨fun pins s σ H D I h => ?_⟩
  refine plainObj_wpAny_Assign_Attribute (thn (he.run pins s σ H _ I h) fun v s1 ⟨y, H1, I1, r1, q1⟩ => thn (ho.run pins s1 σ H1 _ I1 q1) fun u s2 ⟨x, H2, I2, r2, a, C, ex, T, no, ea, q⟩ => ?_) hs
  subst ex
  obtain rfl : u = Value.ref a := r2
  exact ost_newG T I2 ea no r1 fun dx s' n ne J => ⟨σ, _, J, q dx n ne⟩
end
theorem fn_e1G {P : Program} {w : World} {K : PySem.W.Frag} {mg : Str → Option Value} {base : Heap} {qual p : Str} {st : Stmt} {fI C : Addr} {fd : FuncData} {f : Str} {p1 p2 p3 p4 : Pos} (F : Fun K "__init__" qual st fI fd) (S : FnScope ["self", p] ["self", p] (defScope st))
    (T : OexG K C) (hno : PySem.W.findIn K (.ref C) f = some none) (hp : (p == ("__debug__" : Str)) = false) (hcd : (p == ("__classdict__" : Str)) = false)
    (hb : defBody st = [.Assign [.Attribute (.Name "self" p1) f p2] (.Name p p3) p4])
    (v0 : Vis (defScope st) "self") (v1 : Vis (defScope st) p) : FnOk P w K mg base CX0 1 fI fd ["self", p] (spE1 C f) := by
  refine F.ok S (fun vs H Q E h => ?_) (fun cdv A outer s H vs Q E hr h => ?_)
  · obtain ⟨a, y, rfl, _⟩ := h
    rfl
  · obtain ⟨a, y, rfl, ha, k⟩ := h
    rw [hb]
    refine ⟨_, pss_one (ps_ostG (pv 0 (hv := v0)) (pv 1 (hv := v1) (hd := hp) (hcd := hcd))), ?_⟩
    exact ⟨y, rfl, .ref a, rfl, a, C, rfl, T, hno, ha, fun dx hd hn => k dx hd hn⟩
/-- C(e, ..), C's own __init__ a def; its context is None -/
theorem pmkG {X : Cx} {e : Expr} {es : List Expr} {ta : TA} {p pos : Pos} {CX : CXT} {x : Str} {C fI : Addr} {k : Nat} {fd : FuncData} {ps : List Str} {sp : Sp} {ds : List Value} {dvs : List V} (T : OexG X.K C) (iC : PySem.W.findIn X.K (.ref C) "__init__" = some (some (.ref fI))) (tI : PySem.W.typeIn X.K (.ref fI) = some (.type "function"))
    (F1 : FnOk X.prog X.w X.K X.mg X.base CX k fI fd ps sp) (hr : Room (k + 1) X.A) (hb : Binds X.K fd ps ds) (hd : Vals dvs ds) (hx : Passes CX X (fun _ _ _ => False)) (hg : Gl X x) (hm : X.mg x = some (.ref C)) (ha : PA X (e :: es) ta)
    (hdb : (x == ("__debug__" : Str)) = false := by decide) (he : starEach (e :: es) X.env = (false, eval e X.env) :: starEach es X.env := by rfl) (hpl : (backTo pos (starEach es X.env)).any (·.1) = false := by rfl) :
    L2N.PMk X (.Call (.Name x p) (e :: es) [] pos) (tMkO C sp dvs ta) := by
  intro pins s σ H Q I h
  obtain ⟨B, newId, initId, tl, nm, q, N, bs, bm, sn, sub, ab, col, dd, k0, k1, k2, k3, k5, b, hC, hbm⟩ := T.cls
  refine wpAny_Call_Name_kw (ld_glob I hg hm ?_ hdb)
  refine PySem.W.callWith_K (h₀ := X.base) I.ok.mod.kin T.kC (thn (ha.run pos pins s σ H _ I h) fun us s1 ⟨vs, H1, I1, r1, hz, q1⟩ => ⟨I1.kIn, ?_⟩) he hpl
  show wpAny _ _ (call (.ref C) us) _ _ _
  obtain ⟨hp, g, dr, tk, os⟩ := s1
  have hsz : hp.objs.size ≤ hp.objs.size + 1 := Nat.le_succ _
  have hq := q1 (hp.objs.size + 1) (I1.hok.fresh hsz)
  have kk : ∀ b o, hp.get? b = some o → ((hp.push (PySem.W.kdv_tup us)).push (PySem.HandSPX.excO C hp.objs.size)).get? b = some o := fun b o e => Heap.get?_push_of_some _ (Heap.get?_push_of_some _ e)
  have hget : ((hp.push (PySem.W.kdv_tup us)).push (PySem.HandSPX.excO C hp.objs.size)).get? (hp.objs.size + 1) = some (PySem.HandSPX.excO C hp.objs.size) := by heap_get
  have I2 : Inv X pins σ (upd H1 (hp.objs.size + 1) (exo (hp.objs.size + 1) C none)) ⟨(hp.push (PySem.W.kdv_tup us)).push (PySem.HandSPX.excO C hp.objs.size), g, dr, tk, os⟩ := I1.laid (t' := tk) (a := hp.objs.size + 1) (o := exo (hp.objs.size + 1) C none) (h' := (hp.push (PySem.W.kdv_tup us)).push (PySem.HandSPX.excO C hp.objs.size)) kk hsz (exo_ok hget)
  have r2 : Vals (V.ref (hp.objs.size + 1) :: (vs ++ dvs)) (Value.ref (hp.objs.size + 1) :: (us ++ ds)) := .cons rfl (r1.append hd)
  have hl : (Value.ref (hp.objs.size + 1) :: us ++ ds).length = ps.length := by
    have e := r2.length
    rw [F1.len _ _ _ _ hq] at e
    exact e.symm
  have hus : us.length ≤ sizeLine := by
    rw [← Paired.length r1, sizeLine_eq]
    omega
  refine wpAny_call (PySem.HandSPX.call_own b.facts (fun Y => PySem.BX.ownB_has hbm Y) (I1.kIn _ _ hC) (PySem.W.looks_findIn I1.kIn iC) (fun self => PySem.W.bind_fn I1.kIn self tI) hus
    (codeAny_mono (F1.run _ X.stack _ _ ⟨Value.ref (hp.objs.size + 1) :: us, []⟩ (Value.ref (hp.objs.size + 1) :: (us ++ ds)) _ _ (fun _ _ _ => False) (hr.make C us []) (I2.env0.make C us []) (hb _ (Value.ref (hp.objs.size + 1) :: us) I2.kIn hl) r2 hq) fun r s' hq' => ?_))
  cases r with
  | error er => exact hx pins σ _ _ er s' I2 hq'
  | ok fl =>
    cases fl with
    | ret u =>
      obtain ⟨v, H2, os2, bare2, un2, hok2, rv, ev, d, fs, ea, ed, hd1, q2⟩ := hq'
      subst ev
      obtain ⟨h2, g2, d2, t2, os'⟩ := s'
      obtain ⟨t0, G, J, kG, ge, hoe, na⟩ := mk_end0 (d2 := d2) (t2 := t2) I1 hsz kk un2 hok2 os2 bare2 ea ed hd1
      exact ⟨rv, _, _, _, ⟨G, g2, d2, t2, os'⟩, _, .ref C, some d, rfl, J, kG, ge, hoe, ⟨rfl, rfl, fun vs e => by cases e; rfl⟩, rfl, rfl, na, rfl, bare2, raises_own T.exC T.tyC, q2⟩
    | next => exact False.elim hq'
    | brk => exact False.elim hq'
    | cont => exact False.elim hq'
/-- the class as the top has made it, its __init__ as a def -/
structure Ex1G (P : Program) (w : World) (K : PySem.W.Frag) (mg : Str → Option Value) (base : Heap) (x : Str) (C : Addr) (f : Str) : Prop where
  gx : mg x = some (.ref C)
  oex : OexG K C
  ini : ∃ (fI : Addr) (fd : FuncData) (p : Str), PySem.W.findIn K (.ref C) "__init__" = some (some (.ref fI)) ∧ PySem.W.typeIn K (.ref fI) = some (.type "function") ∧ FnOk P w K mg base CX0 1 fI fd ["self", p] (spE1 C f) ∧ Binds K fd ["self", p] []
theorem xs_raise1G {X : Cx} {W : WX} {x : Str} {C : Addr} {f : Str} {a : Expr} {qe : QE} {p1 pos pos2 : Pos} (hc : X.calm = true) (T : Ex1G X.prog X.w X.K X.mg X.base x C f) (hr : Room 2 X.A) (tk : L2N.Takes X W) (he : PE X a (liftE X.K qe)) (hg : Gl X x := by rfl)
    (hdb : (x == ("__debug__" : Str)) = false := by decide) (hs : starEach (a :: []) X.env = (false, eval a X.env) :: starEach [] X.env := by rfl) (hpl : (backTo pos (starEach [] X.env)).any (·.1) = false := by rfl) :
    PS X (.Raise (some (.Call (.Name x p1) [a] [] pos)) none pos2) (liftSX X.K W (sRaise1 C f qe)) := by
  obtain ⟨fI, fd, p, iC, tI, F1, hb⟩ := T.ini
  refine ps_imp (L2N.ps_raise hc tk (pmkG T.oex iC tI F1 hr hb .nil pass0 hg T.gx (pa_cons he pa_nil hs) hdb hs hpl)) fun D σ H ⟨G, s, m, E, Ψ, rm, rs, q, kn, kr, kb, kc, kx⟩ => ?_
  refine ⟨G, s, m, _, rm, rs, q, fun G1 d m1 v H1 e1 r1 rd q1 => ?_⟩
  refine ⟨by show 1 ≤ 1000; decide, fun a ha => ⟨a, v, rfl, upd_same, fun dx hdx hne => ?_⟩⟩
  have hdx1 : H1 dx = none := by rw [upd_ne hne] at hdx; exact hdx
  refine ⟨rfl, dx, [(f, v)], upd_same, by rw [upd_ne hne, upd_same], hdx1, ?_⟩
  have eh : upd (del (upd (upd (upd H1 a (exo a C none)) dx (exd dx [(f, v)])) a (exo a C (some dx))) a) dx (.xd [(f, v)]) = upd H1 dx (.xd [(f, v)]) := by
    funext b
    by_cases hb : b = dx
    · subst hb; rw [upd_same, upd_same]
    · rw [upd_ne hb, upd_ne hb]
      by_cases ha' : b = a
      · subst ha'; rw [del_same, ha]
      · rw [del_ne ha', upd_ne ha', upd_ne hb, upd_ne ha']
  rw [eh]
  exact kx G1 (.ref C) s _ (some dx) σ _ e1 (r1.new (o := .xd [(f, d)]) hdx1 ⟨[(f, v)], rfl, v, [], rfl, rd, rfl⟩) (rs.mono e1) (q1 dx (r1.free hdx1))
structure ExKG (K : PySem.W.Frag) (mg : Str → Option Value) (x : Str) (C fI : Addr) (f : Str) : Prop where
  gx : mg x = some (.ref C)
  oex : OexG K C
  xf : XfC K C
  xc : ExcC K C
  no : PySem.W.findIn K (.ref C) f = some none
  ini : PySem.W.findIn K (.ref C) "__init__" = some (some (.ref fI))
  ti : PySem.W.typeIn K (.ref fI) = some (.type "function")
theorem ExKG.ex1 {P : Program} {w : World} {K : PySem.W.Frag} {mg : Str → Option Value} {base : Heap} {x qual p : Str} {st : Stmt} {fI C : Addr} {fd : FuncData} {f : Str} {p1 p2 p3 p4 : Pos} (T : ExKG K mg x C fI f) (F : Fun K "__init__" qual st fI fd) (S : FnScope ["self", p] ["self", p] (defScope st)) (hB : Binds K fd ["self", p] [])
    (hp : (p == ("__debug__" : Str)) = false) (hcd : (p == ("__classdict__" : Str)) = false) (hb : defBody st = [.Assign [.Attribute (.Name "self" p1) f p2] (.Name p p3) p4]) (v0 : Vis (defScope st) "self") (v1 : Vis (defScope st) p) : Ex1G P w K mg base x C f :=
  ⟨T.gx, T.oex, fI, fd, p, T.ini, T.ti, fn_e1G F S T.oex T.no hp hcd hb v0 v1, hB⟩
end L3
/-! C13: the laws' shared helpers (the bag of draws whose first seed is 13965; amounts reckoned by Euclid) -/
namespace C13
open PySem PySem.Spec PyProof.Rows L2 L3 L4
open Rat (divInt)
/-- the bag of draws -/
def BagP (ds : List D) : Prop := ∃ (cells : List Int) (i : Nat) (big seed cnt : Int), ds = [.lst (cells.map D.int), .int i, .int big, .int seed, .int cnt] ∧ i ≤ cells.length ∧ cells.length ≤ 63 ∧ 0 ≤ big ∧ 0 ≤ seed ∧ seed < 2147483648
def sp_law_bag : LSp := fun ds m Φ => ∃ ns : List Int, ds = [.lst (ns.map D.int)] ∧ ns.length ≤ 63 ∧ ∀ b, m b = none → Φ (.ref b) (mset m b (.any BagP))
def sp_law_draw : LSp := fun ds m Φ => ∃ (b : Addr) (n : Int), ds = [.ref b, .int n] ∧ m b = some (.any BagP) ∧ 1 ≤ n ∧ n < 2 ^ 62 ∧ ∀ d, 0 ≤ d → d < n → Φ (.int d) m
def sp_law_of : LSp := fun ds m Φ => ∃ (b : Addr) (xs : List D), m b = some (.any BagP) ∧ xs ≠ [] ∧ xs.length < 1000000 ∧ (ds = [.ref b, .lst xs] ∨ ∃ a, ds = [.ref b, .ref a] ∧ m a = some (.lst xs)) ∧ ∀ x ∈ xs, Φ x m
def sp_law_amount : LSp := fun ds m Φ => ∃ (t b : Int), ds = [.int t, .int b] ∧ 0 ≤ t ∧ 0 < b ∧ b.natAbs.log2 < 9000 ∧ Φ (am (divInt t b)) m
def sp_law_sum : LSp := fun ds m Φ => ∃ (p q : Rat), ds = [am p, am q] ∧ 0 ≤ p ∧ 0 ≤ q ∧ Bg p ∧ Bg q ∧ Φ (am (p + q)) m
def sp_law_rest : LSp := fun ds m Φ => ∃ (p q : Rat), ds = [am p, am q] ∧ 0 ≤ p ∧ 0 ≤ q ∧ Bg p ∧ Bg q ∧ Φ (am (rest p q)) m
def sp_law_scaled : LSp := fun ds m Φ => ∃ (p : Rat) (t b : Int), ds = [am p, .int t, .int b] ∧ 0 ≤ p ∧ Bg p ∧ 0 ≤ t ∧ t < 2 ^ 30 ∧ 0 < b ∧ b < 2 ^ 30 ∧ Φ (am (p * divInt t b)) m
def sp_law_less : LSp := fun ds m Φ => ∃ (p q : Rat), ds = [am p, am q] ∧ Bg p ∧ Bg q ∧ Φ (.bl (decide (p < q))) m
def sp_law_min : LSp := fun ds m Φ => ∃ (p q : Rat), ds = [am p, am q] ∧ Bg p ∧ Bg q ∧ Φ (am (mn p q)) m
def sp_law_max : LSp := fun ds m Φ => ∃ (p q : Rat), ds = [am p, am q] ∧ Bg p ∧ Bg q ∧ Φ (am (mx p q)) m
def sp_law_all : LSp := fun ds m Φ => ∃ (qs : List Rat) (N M : Nat), ds = [.lst (qs.map am)] ∧ (∀ q ∈ qs, Okb N M q) ∧ qs.length ≤ 1000000 ∧ 0 < N ∧ N.log2 < 1900 ∧ M.log2 < 1900 ∧ Φ (am (total qs)) m
def sp_law_same : Nat → LSp
  | 0 => fun _ _ _ => False
  | n + 1 => fun ds m Φ => ∃ x, ds = [x, x] ∧ flat n x ∧ Φ (.bl true) m
def sp_law_some : LSp := fun ds m Φ => ∃ (b : Addr) (n : Nat), ds = [.ref b, .int n] ∧ m b = some (.any BagP) ∧ n < 2 ^ 30 ∧ ∀ q, Okb 30 n q → Φ (am q) m
def sp_law_part : LSp := fun ds m Φ => ∃ (b : Addr) (p : Rat), ds = [.ref b, am p] ∧ m b = some (.any BagP) ∧ 0 ≤ p ∧ Bg p ∧ ∀ q, 0 ≤ q → q ≤ p → (∀ N, Dn N p → Dn (N * 30) q) → Φ (am q) m
/-- _law_bag: 0 _law_script, 1 _law_seed, 2 _law_cell -/
def qb_law_bag : QS :=
  (sSeq (sAsg (.nm 1) (qC (.int 13965)))
    (sSeq (sFor (iLst (qSlL (qVar 0) qNoPart (qPart (qC (.int 63))))) (.nm 2) (sAsg (.nm 1) (qOp (qIC (fun _ j => 0 < j) fun i j => .int (i % j)) (qCB bInt (qCons (qOp qAdd (qOp qAdd (qOp (qIC CM fun i j => .int (i * j)) (qVar 1) (qC (.int 69621))) (qOp (qIC (fun _ j => 0 < j) fun i j => .int (i % j)) (qCB bInt (qCons (qVar 2) qNil)) (qC (.int 2147483629)))) (qC (.int 17))) qNil)) (qC (.int 2147483587)))))
    (sRet (qLstM (qCons (qFreeze (qCB bList (qCons (qSlL (qVar 0) qNoPart (qPart (qC (.int 63)))) qNil))) (qCons (qC (.int 0)) (qCons (qC (.int 0)) (qCons (qVar 1) (qCons (qC (.int 0)) qNil)))))))))
/-- _law_draw: 0 _law_bag_here, 1 _law_many, 2 _law_cell, 3 _law_digit, 4 _law_seed -/
def qb_law_draw : QS :=
  (sOpen (sSeq (sSub (qVar 0) (qC (.int 4)) (qOp qAdd (qOp vIx (qVar 0) (qC (.int 4))) (qC (.int 1))))
    (sSeq (sIf (qAnd (qB (qOp vEq (qOp vIx (qVar 0) (qC (.int 2))) (qC (.int 0)))) (qB (qOp (qI0 fun i j => .bl (decide (i < j))) (qOp vIx (qVar 0) (qC (.int 1))) (qCB bLen (qCons (qOp vIx (qVar 0) (qC (.int 0))) qNil))))) (sSeq (sAsg (.nm 2) (qOp vIx (qOp vIx (qVar 0) (qC (.int 0))) (qOp vIx (qVar 0) (qC (.int 1)))))
    (sSeq (sSub (qVar 0) (qC (.int 1)) (qOp qAdd (qOp vIx (qVar 0) (qC (.int 1))) (qC (.int 1))))
    (sIf (qB (qOp (qI0 fun i j => .bl (decide (j ≤ i))) (qVar 2) (qOp qPow (qC (.int 10)) (qC (.int 18))))) (sSub (qVar 0) (qC (.int 2)) (qVar 2)) (sSub (qVar 0) (qC (.int 3)) (qOp (qIC (fun _ j => 0 < j) fun i j => .int (i % j)) (qCB bInt (qCons (qOp qAdd (qOp qAdd (qOp (qIC CM fun i j => .int (i * j)) (qOp vIx (qVar 0) (qC (.int 3))) (qC (.int 39373))) (qOp (qIC CM fun i j => .int (i * j)) (qOp (qIC (fun _ j => 0 < j) fun i j => .int (i % j)) (qCB bInt (qCons (qVar 2) qNil)) (qC (.int 2147483549))) (qC (.int 24571)))) (qC (.int 59))) qNil)) (qC (.int 2147483579))))))) sNext)
    (sSeq (sIf (qB (qOp (qI0 fun i j => .bl (decide (j < i))) (qOp vIx (qVar 0) (qC (.int 2))) (qC (.int 0)))) (sSeq (sAsg (.nm 3) (qOp (qIC (fun _ j => 0 < j) fun i j => .int (i % j)) (qCB bInt (qCons (qOp vIx (qVar 0) (qC (.int 2))) qNil)) (qVar 1)))
    (sSeq (sSub (qVar 0) (qC (.int 2)) (qOp (qIC CDivW fun i j => .int (i / j)) (qOp vIx (qVar 0) (qC (.int 2))) (qVar 1)))
    (sRet (qVar 3)))) sNext)
    (sSeq (sAsg (.nm 4) (qOp vIx (qVar 0) (qC (.int 3))))
    (sSeq (sSub (qVar 0) (qC (.int 3)) (qOp (qIC (fun _ j => 0 < j) fun i j => .int (i % j)) (qCB bInt (qCons (qOp qAdd (qOp qAdd (qOp qAdd (qOp (qIC CM fun i j => .int (i * j)) (qOp (qIC CM fun i j => .int (i * j)) (qVar 4) (qVar 4)) (qC (.int 29))) (qOp (qIC CM fun i j => .int (i * j)) (qVar 4) (qC (.int 48673)))) (qOp (qIC CM fun i j => .int (i * j)) (qOp vIx (qVar 0) (qC (.int 4))) (qC (.int 1500007)))) (qC (.int 70001))) qNil)) (qC (.int 2147483579))))
    (sRet (qOp (qIC (fun _ j => 0 < j) fun i j => .int (i % j)) (qCB bInt (qCons (qOp qAdd (qOp (qIC CDivW fun i j => .int (i / j)) (qOp vIx (qVar 0) (qC (.int 3))) (qC (.int 101))) (qOp (qIC CM fun i j => .int (i * j)) (qOp (qIC (fun _ j => 0 < j) fun i j => .int (i % j)) (qCB bInt (qCons (qOp vIx (qVar 0) (qC (.int 3))) qNil)) (qC (.int 6007))) (qC (.int 83)))) qNil)) (qVar 1)))))))))
/-- _law_of: 0 _law_bag_here, 1 _law_things -/
def qb_law_of : QS :=
  (sRet (qOp vIx (qVar 1) (qCall sp_law_draw (qCons (qVar 0) (qCons (qCB bLen (qCons (qVar 1) qNil)) qNil)))))
/-- _law_amount: 0 _law_top, 1 _law_bottom, 2 _law_one, 3 _law_two -/
def qb_law_amount : QS :=
  (sSeq (sPar 2 3 (qCons (qVar 0) (qCons (qVar 1) qNil)))
    (sSeq (sWhile (qB (qOp (qI0 fun i j => .bl (decide (j < i))) (qVar 3) (qC (.int 0)))) (sPar 2 3 (qCons (qVar 3) (qCons (qOp (qIC (fun _ j => 0 < j) fun i j => .int (i % j)) (qCB bInt (qCons (qVar 2) qNil)) (qVar 3)) qNil))))
    (sRet (qTup (qCons (qOp (qIC CDivW fun i j => .int (i / j)) (qVar 0) (qVar 2)) (qCons (qOp (qIC CDivW fun i j => .int (i / j)) (qVar 1) (qVar 2)) qNil))))))
/-- _law_sum: 0 _law_one, 1 _law_two -/
def qb_law_sum : QS :=
  (sRet (qCall sp_law_amount (qCons (qOp qAdd (qOp (qIC CM fun i j => .int (i * j)) (qOp vIx (qVar 0) (qC (.int 0))) (qOp vIx (qVar 1) (qC (.int 1)))) (qOp (qIC CM fun i j => .int (i * j)) (qOp vIx (qVar 1) (qC (.int 0))) (qOp vIx (qVar 0) (qC (.int 1))))) (qCons (qOp (qIC CM fun i j => .int (i * j)) (qOp vIx (qVar 0) (qC (.int 1))) (qOp vIx (qVar 1) (qC (.int 1)))) qNil))))
/-- _law_rest: 0 _law_one, 1 _law_two -/
def qb_law_rest : QS :=
  (sRet (qCall sp_law_amount (qCons (qCB bMax2 (qCons (qOp (qI0 fun i j => .int (i - j)) (qOp (qIC CM fun i j => .int (i * j)) (qOp vIx (qVar 0) (qC (.int 0))) (qOp vIx (qVar 1) (qC (.int 1)))) (qOp (qIC CM fun i j => .int (i * j)) (qOp vIx (qVar 1) (qC (.int 0))) (qOp vIx (qVar 0) (qC (.int 1))))) (qCons (qC (.int 0)) qNil))) (qCons (qOp (qIC CM fun i j => .int (i * j)) (qOp vIx (qVar 0) (qC (.int 1))) (qOp vIx (qVar 1) (qC (.int 1)))) qNil))))
/-- _law_scaled: 0 _law_one, 1 _law_top, 2 _law_bottom -/
def qb_law_scaled : QS :=
  (sRet (qCall sp_law_amount (qCons (qOp (qIC CM fun i j => .int (i * j)) (qOp vIx (qVar 0) (qC (.int 0))) (qVar 1)) (qCons (qOp (qIC CM fun i j => .int (i * j)) (qOp vIx (qVar 0) (qC (.int 1))) (qVar 2)) qNil))))
/-- _law_all: 0 _law_row, 1 _law_found, 2 _law_one -/
def qb_law_all : QS :=
  (sSeq (sAsg (.nm 1) (qTup (qCons (qC (.int 0)) (qCons (qC (.int 1)) qNil))))
    (sSeq (sFor (iLst (qVar 0)) (.nm 2) (sAsg (.nm 1) (qCall sp_law_sum (qCons (qVar 1) (qCons (qVar 2) qNil)))))
    (sRet (qVar 1))))
/-- _law_same: 0 _law_told, 1 _law_due, 2 _law_one, 3 _law_two -/
def qb_law_same (n : Nat) : QS :=
  (sSeq (sIf (qB (qIsiT ["tuple", "list"] (qVar 1))) (sSeq (sIf (qOr (qB (qOp vNe (qIsi "tuple" (qVar 0)) (qIsi "tuple" (qVar 1)))) (qB (qOp vNe (qIsi "list" (qVar 0)) (qIsi "list" (qVar 1))))) (sRet (qC (.bl false))) sNext)
    (sRet (qAndV (qOp vEq (qCB bLen (qCons (qVar 0) qNil)) (qCB bLen (qCons (qVar 1) qNil))) (qCB bAll (qCons (qFreeze (qLc (iZipD (qCons (qVar 0) (qCons (qVar 1) qNil))) (.tp [(.nm 2), (.nm 3)]) qYes (qCall (sp_law_same n) (qCons (qVar 2) (qCons (qVar 3) qNil))) [2, 3])) qNil))))) sNext)
    (sSeq (sIf (qOr (qB (qOp qIsN (qVar 1) (qC .non))) (qB (qOp qIsN (qVar 0) (qC .non)))) (sRet (qAndV (qOp qIsN (qVar 1) (qC .non)) (qOp qIsN (qVar 0) (qC .non)))) sNext)
    (sSeq (sIf (qOr (qB (qOp vNe (qIsi "bool" (qVar 0)) (qIsi "bool" (qVar 1)))) (qB (qOp vNe (qIsi "int" (qVar 0)) (qIsi "int" (qVar 1))))) (sRet (qC (.bl false))) sNext)
    (sRet (qAndV (qOp vEq (qIsi "str" (qVar 0)) (qIsi "str" (qVar 1))) (qOp vEq (qVar 0) (qVar 1)))))))
/-- _law_some: 0 _law_bag_here, 1 _law_most, 2 _law_bottom -/
def qb_law_some : QS :=
  (sSeq (sAsg (.nm 2) (qCall sp_law_of (qCons (qVar 0) (qCons (qLstF (qCons (qC (.int 1)) (qCons (qC (.int 1)) (qCons (qC (.int 2)) (qCons (qC (.int 1)) (qCons (qC (.int 3)) (qCons (qC (.int 1)) (qCons (qC (.int 2)) (qCons (qC (.int 5)) qNil))))))))) qNil))))
    (sRet (qCall sp_law_amount (qCons (qCall sp_law_draw (qCons (qVar 0) (qCons (qOp qAdd (qOp (qIC CM fun i j => .int (i * j)) (qVar 1) (qVar 2)) (qC (.int 1))) qNil))) (qCons (qVar 2) qNil)))))
/-- _law_part: 0 _law_bag_here, 1 _law_one, 2 _law_top, 3 _law_bottom -/
def qb_law_part : QS :=
  (sSeq (sAsg (.tp [(.nm 2), (.nm 3)]) (qCall sp_law_of (qCons (qVar 0) (qCons (qLstF (qCons (qTup (qCons (qC (.int 1)) (qCons (qC (.int 1)) qNil))) (qCons (qTup (qCons (qC (.int 0)) (qCons (qC (.int 1)) qNil))) (qCons (qTup (qCons (qC (.int 1)) (qCons (qC (.int 2)) qNil))) (qCons (qTup (qCons (qC (.int 1)) (qCons (qC (.int 1)) qNil))) (qCons (qTup (qCons (qC (.int 2)) (qCons (qC (.int 3)) qNil))) (qCons (qTup (qCons (qC (.int 1)) (qCons (qC (.int 5)) qNil))) qNil))))))) qNil))))
    (sRet (qCall sp_law_scaled (qCons (qVar 1) (qCons (qVar 2) (qCons (qVar 3) qNil))))))
/-- _law_less: 0 _law_one, 1 _law_two -/
def qb_law_less : QS :=
  (sRet (qOp (qI0 fun i j => .bl (decide (i < j))) (qOp (qIC CM fun i j => .int (i * j)) (qOp vIx (qVar 0) (qC (.int 0))) (qOp vIx (qVar 1) (qC (.int 1)))) (qOp (qIC CM fun i j => .int (i * j)) (qOp vIx (qVar 1) (qC (.int 0))) (qOp vIx (qVar 0) (qC (.int 1))))))
/-- _law_min -/
def qb_law_min : QS :=
  (sRet (qIfE (qB (qCall sp_law_less (qCons (qVar 1) (qCons (qVar 0) qNil)))) (qVar 1) (qVar 0)))
/-- _law_max -/
def qb_law_max : QS :=
  (sRet (qIfE (qB (qCall sp_law_less (qCons (qVar 0) (qCons (qVar 1) qNil)))) (qVar 1) (qVar 0)))
theorem bag_ok {cells : List Int} {i : Nat} {big seed cnt : Int} (h1 : i ≤ cells.length) (h2 : cells.length ≤ 63) (h3 : 0 ≤ big) (h4 : 0 ≤ seed) (h5 : seed < 2147483648) : BagP [.lst (cells.map D.int), .int i, .int big, .int seed, .int cnt] := ⟨cells, i, big, seed, cnt, rfl, h1, h2, h3, h4, h5⟩
theorem len_law_draw : ∀ ds m Φ, sp_law_draw ds m Φ → ds.length = 2 := by rintro _ _ _ ⟨_, _, rfl, _⟩; rfl
theorem rd_law_draw : ∀ ds m Φ, sp_law_draw ds m Φ → qb_law_draw (bodyW Φ) (begin_ 5 ds) m := by
  rintro _ m Φ ⟨b, n, rfl, hb, h1, h2, k⟩
  refine ⟨b, _, hb, ?_⟩
  rintro _ ⟨cells, i, big, seed, cnt, rfl, c1, c2, c3, c4, c5⟩
  refine Or.inl ⟨_, _, _, rfl, mset_same, rfl, Or.inl ⟨_, _, _, rfl, mset_same, rfl, ?_⟩⟩
  rw [mset_mset]
  -- the second statement leaves such a bag, whatever it does
  have go : ∀ (s2 : DSt) (i : Nat) (big seed cnt : Int), look s2 0 = some (.ref b) → look s2 1 = some (.int n) → s2.length = 5 → i ≤ cells.length → 0 ≤ big → 0 ≤ seed → seed < 2147483648 → (sSeq (sIf (qB (qOp (qI0 fun i j => .bl (decide (j < i))) (qOp vIx (qVar 0) (qC (.int 2))) (qC (.int 0)))) (sSeq (sAsg (.nm 3) (qOp (qIC (fun _ j => 0 < j) fun i j => .int (i % j)) (qCB bInt (qCons (qOp vIx (qVar 0) (qC (.int 2))) qNil)) (qVar 1)))
    (sSeq (sSub (qVar 0) (qC (.int 2)) (qOp (qIC CDivW fun i j => .int (i / j)) (qOp vIx (qVar 0) (qC (.int 2))) (qVar 1)))
    (sRet (qVar 3)))) sNext)
    (sSeq (sAsg (.nm 4) (qOp vIx (qVar 0) (qC (.int 3))))
    (sSeq (sSub (qVar 0) (qC (.int 3)) (qOp (qIC (fun _ j => 0 < j) fun i j => .int (i % j)) (qCB bInt (qCons (qOp qAdd (qOp qAdd (qOp qAdd (qOp (qIC CM fun i j => .int (i * j)) (qOp (qIC CM fun i j => .int (i * j)) (qVar 4) (qVar 4)) (qC (.int 29))) (qOp (qIC CM fun i j => .int (i * j)) (qVar 4) (qC (.int 48673)))) (qOp (qIC CM fun i j => .int (i * j)) (qOp vIx (qVar 0) (qC (.int 4))) (qC (.int 1500007)))) (qC (.int 70001))) qNil)) (qC (.int 2147483579))))
    (sRet (qOp (qIC (fun _ j => 0 < j) fun i j => .int (i % j)) (qCB bInt (qCons (qOp qAdd (qOp (qIC CDivW fun i j => .int (i / j)) (qOp vIx (qVar 0) (qC (.int 3))) (qC (.int 101))) (qOp (qIC CM fun i j => .int (i * j)) (qOp (qIC (fun _ j => 0 < j) fun i j => .int (i % j)) (qCB bInt (qCons (qOp vIx (qVar 0) (qC (.int 3))) qNil)) (qC (.int 6007))) (qC (.int 83)))) qNil)) (qVar 1)))))) (bodyW Φ) s2 (mset m b (.lst [.lst (cells.map D.int), .int i, .int big, .int seed, .int cnt])) := by
    intro s2 i big seed cnt l0 l1 hl c1 c3 c4 c5
    obtain ⟨x0, x1, x2, x3, x4, rfl⟩ : ∃ x0 x1 x2 x3 x4, s2 = [x0, x1, x2, x3, x4] := by
      match s2, hl with | [x0, x1, x2, x3, x4], _ => exact ⟨_, _, _, _, _, rfl⟩
    obtain rfl : x0 = some (.ref b) := l0
    obtain rfl : x1 = some (.int n) := l1
    refine Or.inl ⟨_, _, _, rfl, mset_same, rfl, ?_⟩
    refine qif (fun h => ?_) (fun h => ?_)
    · refine Or.inl ⟨_, _, _, rfl, mset_same, rfl, ?_, Or.inl ⟨_, _, _, rfl, mset_same, rfl, ?_, Or.inl ⟨_, _, _, rfl, mset_same, rfl, ?_⟩⟩⟩
      · show 0 < n; omega
      · exact cd_s (by omega) (by omega)
      · rw [mset_mset]
        refine ⟨m, MLe.close hb (bag_ok (cnt := cnt) c1 c2 (Int.ediv_nonneg c3 (by omega)) c4 c5), ?_⟩
        exact k _ (Int.emod_nonneg _ (by omega)) (Int.emod_lt_of_pos _ (by omega))
    · refine Or.inl ⟨_, _, _, rfl, mset_same, rfl, ?_⟩
      refine ⟨cm_l c4 (by omega), cm_r (by omega) (by omega), cm_r (by omega) (by omega), Or.inl ⟨_, _, _, rfl, mset_same, rfl, cm_r (by omega) (by omega), ?_, Or.inl ⟨_, _, _, rfl, mset_same, rfl, ?_⟩⟩⟩
      · show (0 : Int) < 2147483579; omega
      · rw [mset_mset]
        refine Or.inl ⟨_, _, _, rfl, mset_same, rfl, cd_s (by omega) (by omega), Or.inl ⟨_, _, _, rfl, mset_same, rfl, ?_, cm_r (by omega) (by omega), ?_, ?_⟩⟩
        · show (0 : Int) < 6007; omega
        · show 0 < n; omega
        · refine ⟨m, MLe.close hb (bag_ok c1 c2 c3 (Int.emod_nonneg _ (by omega)) ?_), ?_⟩
          · exact Int.lt_trans (Int.emod_lt_of_pos _ (by omega)) (by omega)
          · exact k _ (Int.emod_nonneg _ (by omega)) (Int.emod_lt_of_pos _ (by omega))
  refine Or.inl ⟨_, _, _, rfl, mset_same, rfl, ?_⟩
  refine qif (fun h => ?_) (fun h => ?_)
  · have hz : big = 0 := dec_t h
    refine Or.inl ⟨_, _, _, rfl, mset_same, rfl, Or.inl ⟨_, _, _, rfl, mset_same, rfl, ?_⟩⟩
    refine qif (fun h => ?_) (fun h => ?_)
    · have hi : (i : Int) < ((cells.map D.int).length : Int) := dec_t h
      rw [List.length_map] at hi
      have hi : i < cells.length := by omega
      refine Or.inl ⟨_, _, _, rfl, mset_same, rfl, Or.inl ⟨_, _, _, rfl, mset_same, rfl, D.int cells[i], atI_nat (by rw [List.getElem?_map, List.getElem?_eq_getElem hi]; rfl), ?_⟩⟩
      refine Or.inl ⟨_, _, _, rfl, mset_same, rfl, Or.inl ⟨_, _, _, rfl, mset_same, rfl, ?_⟩⟩
      rw [mset_mset]
      refine ⟨⟨by decide, by decide, by decide⟩, fun n18 hn18 => ?_⟩
      have hp18 : (0 : Int) ≤ n18 := by rw [hn18]; decide
      refine qif (fun h => ?_) (fun h => ?_)
      · have h : n18 ≤ cells[i] := dec_t h
        refine Or.inl ⟨_, _, _, rfl, mset_same, rfl, ?_⟩
        rw [mset_mset]
        exact go [some (.ref b), some (.int n), some (.int cells[i]), none, none] (i + 1) cells[i] seed (cnt + 1) rfl rfl rfl hi (by omega) c4 c5
      · refine Or.inl ⟨_, _, _, rfl, mset_same, rfl, cm_r (by omega) (by omega), ?_, cm_r (by omega) (by omega), ?_, Or.inl ⟨_, _, _, rfl, mset_same, rfl, ?_⟩⟩
        · show (0 : Int) < 2147483549; omega
        · show (0 : Int) < 2147483579; omega
        · rw [mset_mset]
          refine go [some (.ref b), some (.int n), some (.int cells[i]), none, none] (i + 1) big ((seed * 39373 + cells[i] % 2147483549 * 24571 + 59) % 2147483579) (cnt + 1) rfl rfl rfl hi c3 (by omega) (by omega)
    · exact go [some (.ref b), some (.int n), none, none, none] i big seed (cnt + 1) rfl rfl rfl c1 c3 c4 c5
  · refine qif_f rfl ?_
    exact go [some (.ref b), some (.int n), none, none, none] i big seed (cnt + 1) rfl rfl rfl c1 c3 c4 c5
theorem len_law_bag : ∀ ds m Φ, sp_law_bag ds m Φ → ds.length = 1 := by rintro _ _ _ ⟨_, rfl, _⟩; rfl
theorem cut63 {ns : List Int} (h : ns.length ≤ 63) : L3.cutD (ns.map D.int) none (some 63) = ns.map D.int := by
  unfold L3.cutD
  have e1 : HT.sIx (ns.map D.int).length 0 none = 0 := rfl
  have e2 : HT.sIx (ns.map D.int).length (ns.map D.int).length (some 63) = ns.length := by
    rw [List.length_map]
    exact (HT.sIx_nat ns.length ns.length 63).trans (by omega)
  rw [e1, e2, List.drop_zero, Nat.sub_zero]
  exact List.take_of_length_le (by rw [List.length_map]; exact Nat.le_refl _)
theorem rd_law_bag : ∀ ds m Φ, sp_law_bag ds m Φ → qb_law_bag (bodyW Φ) (begin_ 3 ds) m := by
  rintro _ m Φ ⟨ns, rfl, hl, k⟩
  refine ⟨fun i s' m' => m' = m ∧ ∃ (seed : Int) (c : Option D), s' = [some (.lst (ns.map D.int)), some (.int seed), c] ∧ 0 ≤ seed ∧ seed < 2147483648, ⟨rfl, 13965, none, rfl, by omega, by omega⟩, fun _ _ _ _ _ => trivial, ?_, ?_⟩
  · rintro i d s' m' hd ⟨rfl, seed, c, rfl, h1, h2⟩
    rw [cut63 hl, List.getElem?_map] at hd
    cases e : ns[i]? with
    | none => rw [e] at hd; cases hd
    | some z =>
      rw [e] at hd
      obtain rfl : D.int z = d := Option.some.inj hd
      refine ⟨cm_r (by omega) (by omega), ?_, ?_, ?_⟩
      · show (0 : Int) < 2147483629; omega
      · show (0 : Int) < 2147483587; omega
      · exact ⟨rfl, (seed * 69621 + z % 2147483629 + 17) % 2147483587, _, rfl, by omega, by omega⟩
  · rintro s' m' ⟨rfl, seed, c, rfl, h1, h2⟩
    -- list(script[:63]), frozen; the bag
    intro p hp
    refine ⟨_, mset_same, ?_⟩
    rw [mdel_mset hp]
    refine ⟨by show 5 ≤ sizeLine; decide, fun b hb => ?_⟩
    refine ⟨mset m' b (.any BagP), MLe.any ?_, k b hb⟩
    exact ⟨ns, 0, 0, seed, 0, by rw [cut63 hl]; rfl, Nat.zero_le _, hl, by omega, h1, h2⟩
theorem len_law_of : ∀ ds m Φ, sp_law_of ds m Φ → ds.length = 2 := by
  rintro _ _ _ ⟨_, _, _, _, _, rfl | ⟨_, rfl, _⟩, _⟩ <;> rfl
theorem rd_law_of : ∀ ds m Φ, sp_law_of ds m Φ → qb_law_of (bodyW Φ) (begin_ 2 ds) m := by
  rintro _ m Φ ⟨b, xs, hb, hx, hz, h, k⟩
  have hl : 0 < xs.length := List.length_pos_iff.mpr hx
  rcases h with rfl | ⟨a, rfl, ha⟩
  · refine ⟨b, _, rfl, hb, by omega, by omega, fun d h0 h1 => ?_⟩
    obtain ⟨x, hx, e⟩ := atI_in xs h0 h1
    exact ⟨x, e, wk_at (k x hx)⟩
  · refine Or.inl ⟨xs, ha, b, _, rfl, hb, by omega, by omega, fun d h0 h1 => ?_⟩
    obtain ⟨x, hx, e⟩ := atI_in xs h0 h1
    exact Or.inl ⟨_, _, x, rfl, ha, e, wk_at (k x hx)⟩
theorem len_law_amount : ∀ ds m Φ, sp_law_amount ds m Φ → ds.length = 2 := by rintro _ _ _ ⟨_, _, rfl, _⟩; rfl
theorem rd_law_amount : ∀ ds m Φ, sp_law_amount ds m Φ → qb_law_amount (bodyW Φ) (begin_ 4 ds) m := by
  rintro _ m Φ ⟨t, b, rfl, h1, h2, h3, k⟩
  refine ⟨fun n s' m' => m' = m ∧ ∃ (x y : Int), s' = [some (.int t), some (.int b), some (.int x), some (.int y)] ∧ 0 ≤ x ∧ 0 ≤ y ∧ y.toNat = n ∧ Int.gcd x y = Int.gcd t b ∧ (0 < x ∨ 0 < y), ⟨_, rfl, t, b, rfl, h1, by omega, rfl, rfl, .inr h2⟩, ?_⟩
  rintro n s' m' ⟨rfl, x, y, rfl, hx, hy, rfl, hg, hp⟩
  refine qif (fun h => ?_) (fun h => ?_)
  · have h : 0 < y := dec_t h
    refine ⟨?_, ?_⟩
    · exact h
    · have e1 : 0 ≤ x % y := Int.emod_nonneg _ (by omega)
      have e2 : x % y < y := Int.emod_lt_of_pos _ h
      refine ⟨(x % y).toNat, by omega, rfl, y, x % y, rfl, hy, e1, rfl, ?_, .inl h⟩
      rw [← hg]
      rw [Int.gcd_comm x y]
      exact gcd_step hx hy
  · have h : ¬ 0 < y := dec_f h
    have hy0 : y = 0 := by omega
    subst hy0
    have ex : x = (Int.gcd t b : Nat) := by
      rw [← hg, Int.gcd_zero_right]; omega
    have hlt : x ≤ b := by
      rw [ex]
      have := Int.gcd_le_right (a := t) h2
      omega
    refine ⟨cd_le (by omega) hlt h3, cd_le (by omega) hlt h3, by show 2 ≤ 16777216; decide, wk_at ?_⟩
    have e : D.tup [.int (t / x), .int (b / x)] = am (divInt t b) := am_low h2 ex
    rw [e]
    exact k
theorem len_law_some : ∀ ds m Φ, sp_law_some ds m Φ → ds.length = 2 := by rintro _ _ _ ⟨_, _, rfl, _⟩; rfl
theorem rd_law_some : ∀ ds m Φ, sp_law_some ds m Φ → qb_law_some (bodyW Φ) (begin_ 3 ds) m := by
  rintro _ m Φ ⟨b, n, rfl, hb, h1, k⟩
  refine ⟨by show 8 ≤ 16777216; decide, b, _, hb, by simp, by decide, .inl rfl, fun x hx => ?_⟩
  obtain ⟨w, M, rfl, w0, w5, e⟩ : ∃ (w : Int) (M : Nat), x = .int w ∧ 0 < w ∧ w ≤ 5 ∧ w * M = (30 : Nat) := by
    simp only [List.mem_cons, List.not_mem_nil, or_false] at hx
    rcases hx with rfl | rfl | rfl | rfl | rfl | rfl | rfl | rfl
    · exact ⟨1, 30, rfl, by decide, by decide, by decide⟩
    · exact ⟨1, 30, rfl, by decide, by decide, by decide⟩
    · exact ⟨2, 15, rfl, by decide, by decide, by decide⟩
    · exact ⟨1, 30, rfl, by decide, by decide, by decide⟩
    · exact ⟨3, 10, rfl, by decide, by decide, by decide⟩
    · exact ⟨1, 30, rfl, by decide, by decide, by decide⟩
    · exact ⟨2, 15, rfl, by decide, by decide, by decide⟩
    · exact ⟨5, 6, rfl, by decide, by decide, by decide⟩
  have hm : (n : Int) * w ≤ n * 5 := Int.mul_le_mul_of_nonneg_left w5 (by omega)
  have hm0 : 0 ≤ (n : Int) * w := Int.mul_nonneg (by omega) (by omega)
  refine ⟨cm_r (by omega) (by omega), b, _, rfl, hb, by omega, by omega, fun d d0 d1 => ?_⟩
  refine ⟨d, w, rfl, d0, w0, ?_, wk_at (k _ ⟨divInt_nn d0 w0, ?_, Dn.of (by omega) M e⟩)⟩
  · have := log2_small (a := w.natAbs) (k := 5) (by omega) (by decide)
    omega
  · have := divInt_le (M := (n : Int)) w0 (show d ≤ n * w by omega)
    rwa [Rat.intCast_natCast] at this
end C13
/-! PA: the program's amounts, hops, buffers, wires -/
namespace PA
open PySem PySem.Spec PyProof.Rows L2 L3 L4
open Rat (divInt)
/-! ### amounts -/
def sp_p_lowest : LSp := fun ds m Φ => ∃ (t b : Int), ds = [.int t, .int b] ∧ 0 < b ∧ b.natAbs.log2 < 9000 ∧ Φ (am (divInt t b)) m
def sp_plus : LSp := fun ds m Φ => ∃ (qs : List Rat) (N M : Nat), ds = [.tup (qs.map am)] ∧ (∀ q ∈ qs, Okb N M q) ∧ qs.length ≤ 1000000 ∧ 0 < N ∧ N.log2 < 1900 ∧ M.log2 < 1900 ∧ Φ (am (total qs)) m
def sp_plus_s : LSp := fun ds m Φ => ∃ ws rest, ds = ws ++ rest ∧ ws.length = 0 ∧ rest.length ≤ sizeLine ∧ sp_plus (ws ++ [.tup rest]) m Φ
def sp_minus : LSp := fun ds m Φ => ∃ (p q : Rat), ds = [am p, am q] ∧ q ≤ p ∧ Bg p ∧ Bg q ∧ Φ (am (p - q)) m
def cmpI (p q : Rat) : Int := if p = q then 0 else if p < q then -1 else 1
def sp_compare : LSp := fun ds m Φ => ∃ (p q : Rat), ds = [am p, am q] ∧ Bg p ∧ Bg q ∧ Φ (.int (cmpI p q)) m
def sp_largest : LSp := fun ds m Φ => ∃ (p : Rat) (qs : List Rat), ds = [am p, .tup (qs.map am)] ∧ Bg p ∧ (∀ q ∈ qs, Bg q) ∧ Φ (am (qs.foldl mx p)) m
def sp_largest_s : LSp := fun ds m Φ => ∃ ws rest, ds = ws ++ rest ∧ ws.length = 1 ∧ rest.length ≤ sizeLine ∧ sp_largest (ws ++ [.tup rest]) m Φ
/-- _lowest: 0 top, 1 bottom, 2 common -/
def qb_p_lowest : QS :=
  (sSeq (sAsg (.nm 2) (qCB bGcd (qCons (qVar 0) (qCons (qVar 1) qNil))))
    (sRet (qTup (qCons (qOp (qIC CDivW fun i j => .int (i / j)) (qVar 0) (qVar 2)) (qCons (qOp (qIC CDivW fun i j => .int (i / j)) (qVar 1) (qVar 2)) qNil)))))
/-- plus: 0 amounts, 1 top, 2 bottom, 3 more, 4 parts, 5 common -/
def qb_plus : QS :=
  (sSeq (sAsg (.tp [(.nm 1), (.nm 2)]) (qC (.tup [(.int 0), (.int 1)])))
    (sSeq (sFor (iTup (qVar 0)) (.tp [(.nm 3), (.nm 4)]) (sIf (qB (qOp vEq (qVar 4) (qVar 2))) (sAug 1 qIAdd (qVar 3)) (sSeq (sAsg (.nm 5) (qCB bGcd (qCons (qVar 2) (qCons (qVar 4) qNil))))
    (sSeq (sAsg (.nm 1) (qOp qAdd (qOp (qIC CM fun i j => .int (i * j)) (qVar 1) (qOp (qIC CDivW fun i j => .int (i / j)) (qVar 4) (qVar 5))) (qOp (qIC CM fun i j => .int (i * j)) (qVar 3) (qOp (qIC CDivW fun i j => .int (i / j)) (qVar 2) (qVar 5)))))
    (sAsg (.nm 2) (qOp (qIC CM fun i j => .int (i * j)) (qOp (qIC CDivW fun i j => .int (i / j)) (qVar 2) (qVar 5)) (qVar 4)))))))
    (sRet (qCall sp_p_lowest (qCons (qVar 1) (qCons (qVar 2) qNil))))))
/-- minus: 0 first, 1 second, 2 top -/
def qb_minus : QS :=
  (sSeq (sAsg (.nm 2) (qOp (qI0 fun i j => .int (i - j)) (qOp (qIC CM fun i j => .int (i * j)) (qOp vIx (qVar 0) (qC (.int 0))) (qOp vIx (qVar 1) (qC (.int 1)))) (qOp (qIC CM fun i j => .int (i * j)) (qOp vIx (qVar 1) (qC (.int 0))) (qOp vIx (qVar 0) (qC (.int 1))))))
    (sSeq (sIf (qB (qOp (qI0 fun i j => .bl (decide (i < j))) (qVar 2) (qC (.int 0)))) sNever sNext)
    (sRet (qCall sp_p_lowest (qCons (qVar 2) (qCons (qOp (qIC CM fun i j => .int (i * j)) (qOp vIx (qVar 0) (qC (.int 1))) (qOp vIx (qVar 1) (qC (.int 1)))) qNil))))))
/-- compare: 0 first, 1 second, 2 left, 3 right -/
def qb_compare : QS :=
  (sSeq (sAsg (.nm 2) (qOp (qIC CM fun i j => .int (i * j)) (qOp vIx (qVar 0) (qC (.int 0))) (qOp vIx (qVar 1) (qC (.int 1)))))
    (sSeq (sAsg (.nm 3) (qOp (qIC CM fun i j => .int (i * j)) (qOp vIx (qVar 1) (qC (.int 0))) (qOp vIx (qVar 0) (qC (.int 1)))))
    (sSeq (sIf (qB (qOp vEq (qVar 2) (qVar 3))) (sRet (qC (.int 0))) sNext)
    (sRet (qIfE (qB (qOp (qI0 fun i j => .bl (decide (i < j))) (qVar 2) (qVar 3))) (qNeg (qC (.int 1))) (qC (.int 1)))))))
/-- largest: 0 first, 1 others, 2 found, 3 other -/
def qb_largest : QS :=
  (sSeq (sAsg (.nm 2) (qVar 0))
    (sSeq (sFor (iTup (qVar 1)) (.nm 3) (sIf (qB (qOp (qI0 fun i j => .bl (decide (j < i))) (qCall sp_compare (qCons (qVar 3) (qCons (qVar 2) qNil))) (qC (.int 0)))) (sAsg (.nm 2) (qVar 3)) sNext))
    (sRet (qVar 2))))
/-! ### hops -/
def flds (way age : Int) (d : Addr) : List (Str × D) := [("_way", .int way), ("_age", .int age), ("_sent", .ref d)]
/-- a hop at h, its dict at d -/
structure HopAt (C : Addr) (m : Mem) (h d : Addr) (way age : Int) (t : Tab) : Prop where
  ob : m h = some (.ins C (flds way age d))
  dc : m d = some (.dK (tabD t))
def sp_Hop_init (C : Addr) : LSp := fun ds m Φ => ∃ (h : Addr) (way age : Int), ds = [.ref h, .int way, .int age] ∧ m h = some (.ins C []) ∧ ∀ d m', m d = none → HopAt C m' h d way age [] → Keeps m m' (fun a => a = h) → Φ .non m'
def sp_Hop_remember (C : Addr) : LSp := fun ds m Φ => ∃ (h d : Addr) (way age tick : Int) (t : Tab) (q : Rat), ds = [.ref h, .int tick, am q] ∧ HopAt C m h d way age t ∧ t.length ≤ 1000 ∧ (t.map (·.1)).Nodup ∧
  ∀ d' m', m d' = none → HopAt C m' h d' way age (putT (t.filter (cutF (tick - age - way))) tick q) → Keeps m m' (fun a => a = h ∨ a = d) → Φ .non m'
def sp_Hop_sent_after (C : Addr) : LSp := fun ds m Φ => ∃ (h d : Addr) (way age lo hi : Int) (t : Tab) (N M : Nat), ds = [.ref h, .int lo, .int hi] ∧ HopAt C m h d way age t ∧ TabOk N M t ∧ 0 < N ∧ N.log2 < 1900 ∧ M.log2 < 1900 ∧ Φ (am (taken t lo hi)) m
def sp_Hop_room (C : Addr) : LSp := fun ds m Φ => ∃ (h d : Addr) (way age now made : Int) (t : Tab) (told : Rat) (N M : Nat), ds = [.ref h, .int now, .int made, am told] ∧ HopAt C m h d way age t ∧ TabOk N M t ∧ 0 < N ∧ N.log2 < 1900 ∧ M.log2 < 1900 ∧ Bg told ∧ Φ (am (rest told (taken t (made - way) now))) m
def sp_Hop_copy (C : Addr) : LSp := fun ds m Φ => ∃ (h d : Addr) (way age : Int) (t : Tab), ds = [.ref h] ∧ HopAt C m h d way age t ∧ ∀ h' d' m', h' ≠ d' → m h' = none → m d' = none → HopAt C m' h' d' way age t → Grows m m' → Φ (.ref h') m'
/-- Hop.__init__: 0 self, 1 way, 2 age -/
def qb_Hop_init (C : Addr) : QS :=
  (sSeq (sSetF C "_way" (qVar 0) (qVar 1))
    (sSeq (sSetF C "_age" (qVar 0) (qVar 2))
    (sSetF C "_sent" (qVar 0) qDNewK)))
/-- Hop.remember: 0 self, 1 tick, 2 water, 3 oldest, 4 kept, 5 sent, 6 put -/
def qb_Hop_remember (C : Addr) : QS :=
  (sSeq (sAsg (.nm 3) (qOp (qI0 fun i j => .int (i - j)) (qOp (qI0 fun i j => .int (i - j)) (qVar 1) (qFld C "_age" (qVar 0))) (qFld C "_way" (qVar 0))))
    (sSeq (sLock (sAsg (.nm 4) (qDc (iDict fItem (qFld C "_sent" (qVar 0))) (.tp [(.nm 5), (.nm 6)]) (qB (qOp (qI0 fun i j => .bl (decide (j ≤ i))) (qVar 5) (qVar 3))) (qVar 5) (qVar 6) [5, 6])))
    (sSeq (sSub (qVar 4) (qVar 1) (qVar 2))
    (sSetF C "_sent" (qVar 0) (qVar 4)))))
/-- Hop.sent_after: 0 self, 1 tick, 2 now, 3 waters, 4 sent, 5 put -/
def qb_Hop_sent_after (C : Addr) : QS :=
  (sSeq (sLock (sAsg (.nm 3) (qFreeze (qLc (iDict fItem (qFld C "_sent" (qVar 0))) (.tp [(.nm 4), (.nm 5)]) (qB (qChain (qI0 fun i j => .bl (decide (i < j))) (qI0 fun i j => .bl (decide (i < j))) (qVar 1) (qVar 4) (qVar 2))) (qVar 5) [4, 5]))))
    (sRet (qCallS1 sp_plus_s (qVar 3))))
/-- Hop.room: 0 self, 1 now, 2 made, 3 told, 4 used -/
def qb_Hop_room (C : Addr) : QS :=
  (sSeq (sAsg (.nm 4) (qMeth C "sent_after" (sp_Hop_sent_after C) (qVar 0) (qCons (qOp (qI0 fun i j => .int (i - j)) (qVar 2) (qFld C "_way" (qVar 0))) (qCons (qVar 1) qNil))))
    (sSeq (sIf (qB (qOp (qI0 fun i j => .bl (decide (j ≤ i))) (qCall sp_compare (qCons (qVar 4) (qCons (qVar 3) qNil))) (qC (.int 0)))) (sRet (qC (.tup [(.int 0), (.int 1)]))) sNext)
    (sRet (qCall sp_minus (qCons (qVar 3) (qCons (qVar 4) qNil))))))
/-- Hop.copy: 0 self, 1 twin -/
def qb_Hop_copy (C : Addr) : QS :=
  (sSeq (sAsg (.nm 1) (qMake C (sp_Hop_init C) (qCons (qFld C "_way" (qVar 0)) (qCons (qFld C "_age" (qVar 0)) qNil))))
    (sSeq (sSetF C "_sent" (qVar 1) (qCB bDict (qCons (qFld C "_sent" (qVar 0)) qNil)))
    (sRet (qVar 1))))
theorem fl_way {w a : Int} {d : Addr} : (flds w a d).lookup ("_way" : Str) = some (D.int w) := by rfl
theorem fl_age {w a : Int} {d : Addr} : (flds w a d).lookup ("_age" : Str) = some (D.int a) := by rfl
theorem fl_sent {w a : Int} {d : Addr} : (flds w a d).lookup ("_sent" : Str) = some (D.ref d) := by rfl
theorem fl_set {w a : Int} {d e : Addr} : putFD ("_sent" : Str) (D.ref e) (flds w a d) = flds w a e := by rfl
theorem fl_new {w a : Int} {d : Addr} : putFD ("_sent" : Str) (D.ref d) (putFD ("_age" : Str) (D.int a) (putFD ("_way" : Str) (D.int w) [])) = flds w a d := by rfl
end PA
/-! PB: buffers, wires -/
namespace PA
open PySem PySem.Spec PyProof.Rows L2 L3 L4
open Rat (divInt)
/-! ### buffers -/
def bufF (size held full : Rat) : List (Str × D) := [("size", am size), ("_held", am held), ("_fullest", am full)]
def BufAt (C : Addr) (m : Mem) (a : Addr) (size held full : Rat) : Prop := m a = some (.ins C (bufF size held full))
def sp_Buffer_init (C : Addr) : LSp := fun ds m Φ => ∃ (a : Addr) (size : Rat), ds = [.ref a, am size] ∧ m a = some (.ins C []) ∧ ∀ m', BufAt C m' a size 0 0 → Keeps m m' (fun b => b = a) → Φ .non m'
def sp_Buffer_held (C : Addr) : LSp := fun ds m Φ => ∃ (a : Addr) (size held full : Rat), ds = [.ref a] ∧ BufAt C m a size held full ∧ Φ (am held) m
def sp_Buffer_fullest (C : Addr) : LSp := fun ds m Φ => ∃ (a : Addr) (size held full : Rat), ds = [.ref a] ∧ BufAt C m a size held full ∧ Φ (am full) m
def sp_Buffer_set_to (C : Addr) : LSp := fun ds m Φ => ∃ (a : Addr) (size held full w : Rat), ds = [.ref a, am w] ∧ BufAt C m a size held full ∧ Bg full ∧ Bg w ∧ ∀ m', BufAt C m' a size w (mx full w) → Keeps m m' (fun b => b = a) → Φ .non m'
def sp_Buffer_take_in (C : Addr) : LSp := fun ds m Φ => ∃ (a : Addr) (size held full w : Rat) (N M : Nat), ds = [.ref a, am w] ∧ BufAt C m a size held full ∧ Okb N M held ∧ Okb N M w ∧ 0 < N ∧ N.log2 < 1900 ∧ M.log2 < 1900 ∧ Bg size ∧ Bg full ∧
  ∀ m', BufAt C m' a size (mn (held + w) size) (mx full (mn (held + w) size)) → Keeps m m' (fun b => b = a) → Φ (am (L4.rest (held + w) size)) m'
def sp_Buffer_give (C : Addr) : LSp := fun ds m Φ => ∃ (a : Addr) (size held full w : Rat), ds = [.ref a, am w] ∧ BufAt C m a size held full ∧ Bg held ∧ Bg w ∧ w ≤ held ∧ ∀ m', BufAt C m' a size (held - w) full → Keeps m m' (fun b => b = a) → Φ .non m'
/-- Buffer.__init__: 0 self, 1 size -/
def qb_Buffer_init (C : Addr) : QS :=
  (sSeq (sSetF C "size" (qVar 0) (qVar 1))
    (sSeq (sSetF C "_held" (qVar 0) (qC (.tup [(.int 0), (.int 1)])))
    (sSetF C "_fullest" (qVar 0) (qC (.tup [(.int 0), (.int 1)])))))
/-- Buffer.held: 0 self -/
def qb_Buffer_held (C : Addr) : QS :=
  (sRet (qFld C "_held" (qVar 0)))
/-- Buffer.fullest: 0 self -/
def qb_Buffer_fullest (C : Addr) : QS :=
  (sRet (qFld C "_fullest" (qVar 0)))
/-- Buffer.set_to: 0 self, 1 water -/
def qb_Buffer_set_to (C : Addr) : QS :=
  (sSeq (sSetF C "_held" (qVar 0) (qVar 1))
    (sSetF C "_fullest" (qVar 0) (qCall sp_largest_s (qCons (qFld C "_fullest" (qVar 0)) (qCons (qVar 1) qNil)))))
/-- Buffer.take_in: 0 self, 1 water, 2 whole -/
def qb_Buffer_take_in (C : Addr) : QS :=
  (sSeq (sAsg (.nm 2) (qCall sp_plus_s (qCons (qFld C "_held" (qVar 0)) (qCons (qVar 1) qNil))))
    (sSeq (sIf (qB (qOp (qI0 fun i j => .bl (decide (i ≤ j))) (qCall sp_compare (qCons (qVar 2) (qCons (qFld C "size" (qVar 0)) qNil))) (qC (.int 0)))) (sSeq (sExpr (qMeth C "set_to" (sp_Buffer_set_to C) (qVar 0) (qCons (qVar 2) qNil)))
    (sRet (qC (.tup [(.int 0), (.int 1)])))) sNext)
    (sSeq (sExpr (qMeth C "set_to" (sp_Buffer_set_to C) (qVar 0) (qCons (qFld C "size" (qVar 0)) qNil)))
    (sRet (qCall sp_minus (qCons (qVar 2) (qCons (qFld C "size" (qVar 0)) qNil)))))))
/-- Buffer.give: 0 self, 1 water -/
def qb_Buffer_give (C : Addr) : QS :=
  (sSeq (sIf (qB (qOp (qI0 fun i j => .bl (decide (j < i))) (qCall sp_compare (qCons (qVar 1) (qCons (qFld C "_held" (qVar 0)) qNil))) (qC (.int 0)))) sNever sNext)
    (sSetF C "_held" (qVar 0) (qCall sp_minus (qCons (qFld C "_held" (qVar 0)) (qCons (qVar 1) qNil)))))
theorem bf_size {s h f : Rat} : (bufF s h f).lookup ("size" : Str) = some (am s) := by rfl
theorem bf_held {s h f : Rat} : (bufF s h f).lookup ("_held" : Str) = some (am h) := by rfl
theorem bf_full {s h f : Rat} : (bufF s h f).lookup ("_fullest" : Str) = some (am f) := by rfl
theorem bf_sh {s h f x : Rat} : putFD ("_held" : Str) (am x) (bufF s h f) = bufF s x f := by rfl
theorem bf_sf {s h f x : Rat} : putFD ("_fullest" : Str) (am x) (bufF s h f) = bufF s h x := by rfl
/-! ### wires -/
def wirF (way : Int) (d : Addr) : List (Str × D) := [("_way", .int way), ("_sent", .ref d)]
structure WireAt (C : Addr) (m : Mem) (a d : Addr) (way : Int) (t : Tab) : Prop where
  ob : m a = some (.ins C (wirF way d))
  dc : m d = some (.dK (tabD t))
def atT (t : Tab) (k : Int) : Rat := (getT t k).getD 0
def sp_Wire_init (C : Addr) : LSp := fun ds m Φ => ∃ (a : Addr) (way : Int), ds = [.ref a, .int way] ∧ m a = some (.ins C []) ∧ ∀ d m', m d = none → WireAt C m' a d way [] → Keeps m m' (fun b => b = a) → Φ .non m'
def sp_Wire_put (C : Addr) : LSp := fun ds m Φ => ∃ (a d : Addr) (way tick : Int) (t : Tab) (q : Rat), ds = [.ref a, .int tick, am q] ∧ WireAt C m a d way t ∧ t.length ≤ 1000 ∧ ∀ m', WireAt C m' a d way (putT t tick q) → Keeps m m' (fun b => b = d) → Φ .non m'
def sp_Wire_arriving (C : Addr) : LSp := fun ds m Φ => ∃ (a d : Addr) (way tick : Int) (t : Tab), ds = [.ref a, .int tick] ∧ WireAt C m a d way t ∧ Φ (am (atT t (tick - way))) m
def under (t : Tab) (way tick : Int) : Rat := total ((List.range way.toNat).map fun i : Nat => atT t (tick - way + 1 + i))
def sp_Wire_under_way (C : Addr) : LSp := fun ds m Φ => ∃ (a d : Addr) (way tick : Int) (t : Tab) (N M : Nat), ds = [.ref a, .int tick] ∧ WireAt C m a d way t ∧ (∀ p ∈ t, Okb N M p.2) ∧ 0 < N ∧ N.log2 < 1900 ∧ M.log2 < 1900 ∧ 0 ≤ way ∧ way < 1000 ∧ -1000000 < tick ∧ tick < 1000000 ∧ Φ (am (under t way tick)) m
/-- Wire.__init__: 0 self, 1 way -/
def qb_Wire_init (C : Addr) : QS :=
  (sSeq (sSetF C "_way" (qVar 0) (qVar 1))
    (sSetF C "_sent" (qVar 0) qDNewK))
/-- Wire.put: 0 self, 1 tick, 2 water -/
def qb_Wire_put (C : Addr) : QS :=
  (sSub (qFld C "_sent" (qVar 0)) (qVar 1) (qVar 2))
/-- Wire.arriving: 0 self, 1 tick -/
def qb_Wire_arriving (C : Addr) : QS :=
  (sRet (qDGet2 (qFld C "_sent" (qVar 0)) (qOp (qI0 fun i j => .int (i - j)) (qVar 1) (qFld C "_way" (qVar 0))) (qC (.tup [(.int 0), (.int 1)]))))
/-- Wire.under_way: 0 self, 1 tick, 2 waters, 3 sent -/
def qb_Wire_under_way (C : Addr) : QS :=
  (sSeq (sAsg (.nm 2) (qFreeze (qLc (iRange2 (qCons (qOp qAdd (qOp (qI0 fun i j => .int (i - j)) (qVar 1) (qFld C "_way" (qVar 0))) (qC (.int 1))) (qCons (qOp qAdd (qVar 1) (qC (.int 1))) qNil))) (.nm 3) qYes (qDGet2 (qFld C "_sent" (qVar 0)) (qVar 3) (qC (.tup [(.int 0), (.int 1)]))) [3])))
    (sRet (qCallS1 sp_plus_s (qVar 2))))
theorem wf_way {w : Int} {d : Addr} : (wirF w d).lookup ("_way" : Str) = some (D.int w) := by rfl
theorem wf_sent {w : Int} {d : Addr} : (wirF w d).lookup ("_sent" : Str) = some (D.ref d) := by rfl
end PA
/-! LF: fillings: a rest shared by wants (weight, amount) at one level -/
namespace LF
open PySem PySem.Spec PyProof.Rows L2 L3 L4
open Rat (divInt)
def SB : Int := ((2 ^ 20000 : Nat) : Int)
/-! ### sums -/
/-! ### fillings -/
abbrev Wants := List (Int × Rat)
def WOk (ws : Wants) : Prop := ∀ p ∈ ws, 1 ≤ p.1 ∧ 0 ≤ p.2
def lvl (l : Rat) (p : Int × Rat) : Rat := mn p.2 ((p.1 : Rat) * l)
def Filling (R : Rat) (ws : Wants) (rs : List Rat) : Prop := ∃ l : Rat, 0 ≤ l ∧ rs = ws.map (lvl l) ∧ total rs = mn R (total (ws.map (·.2)))
/-! ### the program's way: the heights in order -/
/-- heights times weight on the scale s -/
structure Hts (s : Int) (ws : Wants) (f : Int × Rat → Int × Int) (L : List (Int × Int)) : Prop where
  wt : ∀ p ∈ ws, (f p).2 = p.1 ∧ (((f p).1 : Int) : Rat) * (p.1 : Rat) = p.2 * (s : Rat)
  perm : L.Perm (ws.map f)
  srt : L.Pairwise fun p q => p.1 < q.1 ∨ (p.1 = q.1 ∧ p.2 ≤ q.2)
def hw (p : Int × Int) : Int := p.1 * p.2
/-- ahead of the i-th height: what is left, the weights that are left -/
structure HInv (s R0 : Int) (L : List (Int × Int)) (i : Nat) (left weights : Int) : Prop where
  lf : left = R0 - sumI ((L.take i).map hw)
  wt : weights = sumI ((L.drop i).map (·.2))
  low : ∀ p ∈ L.take i, p.1 * weights ≤ left
  nn : 0 ≤ left
def gAt (weights left : Int) (p : Int × Int) : Int := p.2 * (if left < p.1 * weights then left else p.1 * weights)
/-! ### another way: whoever is full at the common height is left out -/
def at_ (ws : Wants) (k : Nat) : Int × Rat := ws.getD k (1, 0)
abbrev todo (n : Nat) (t : Nat → Bool) : List Nat := (List.range n).filter t
def hv (ws : Wants) (l : List Nat) : Int := sumI (l.map fun k => (at_ ws k).1)
def qs (ws : Wants) (l : List Nat) : Rat := total (l.map fun k => (at_ ws k).2)
structure EInv (R : Rat) (ws : Wants) (t : Nat → Bool) (left : Rat) : Prop where
  lf : left = R - qs ws (todo ws.length fun k => !t k)
  low : ∀ k, k < ws.length → t k = false → (at_ ws k).2 * ((hv ws (todo ws.length t) : Int) : Rat) ≤ left * ((at_ ws k).1 : Rat)
  nn : 0 ≤ left
def isFull (ws : Wants) (t : Nat → Bool) (left : Rat) (k : Nat) : Bool := !decide (left * ((at_ ws k).1 : Rat) < (at_ ws k).2 * ((hv ws (todo ws.length t) : Int) : Rat))
def full (ws : Wants) (t : Nat → Bool) (left : Rat) : List Nat := (todo ws.length t).filter (isFull ws t left)
def less (ws : Wants) (t : Nat → Bool) (left : Rat) (k : Nat) : Bool := t k && !isFull ws t left k
def exRs (ws : Wants) (t : Nat → Bool) (left : Rat) : List Rat := (List.range ws.length).map fun k => if t k then left * divInt (at_ ws k).1 (hv ws (todo ws.length t)) else (at_ ws k).2
end LF
/-! LV: levels: the least height at which the shares of wishes sum up to a capacity -/
namespace LV
open PySem PySem.Spec PyProof.Rows L2 L3 L4 LF
open Rat (divInt)
abbrev Wsh := Option (Rat × Rat) × Int × Rat
def shr (m : Option (Rat × Rat)) (w : Int) (x : Rat) : Rat := match m with
  | none => 0
  | some p => mx p.1 (mn p.2 ((w : Rat) * x))
def ral (r : Wsh) (x : Rat) : Rat := shr r.1 r.2.1 (mn x r.2.2)
def tot (rows : List Wsh) (x : Rat) : Rat := total (rows.map fun r => ral r x)
structure Ok1 (r : Wsh) : Prop where
  w : 1 ≤ r.2.1
  b : 0 ≤ r.2.2
  m : ∀ p, r.1 = some p → 0 ≤ p.1 ∧ p.1 ≤ p.2
def ROk (rows : List Wsh) : Prop := ∀ r ∈ rows, Ok1 r
structure IsLevel (S : Rat) (rows : List Wsh) (x : Rat) : Prop where
  nn : 0 ≤ x
  le : x ≤ 1000
  up : S ≤ tot rows x ∨ x = 1000
  lo : ∀ y, 0 ≤ y → y < x → tot rows y < S
/-! ### the law's way: between neighbouring breaks the total is a straight line -/
def Aff (f : Rat → Rat) (lo hi : Rat) : Prop := ∃ A B : Rat, ∀ x, lo ≤ x → x ≤ hi → f x = A + B * x
def Out (lo hi z : Rat) : Prop := ¬ (lo < z ∧ z < hi)
end LV
/-! PL: the program's levels: amounts of numbers, products, the smallest, spare shares -/
namespace PL
open PySem PySem.Spec PyProof.Rows L2 L3 L4 LF
open Rat (divInt)
abbrev wantD (p : Int × Rat) : D := .tup [.int p.1, am p.2]
def sp_p_on_scale : LSp := fun ds m Φ => ∃ (q : Rat) (s : Int), ds = [am q, .int s] ∧ 0 < s ∧ q.num.natAbs.log2 < 9000 ∧ (q.den : Int) ≤ s ∧ s.natAbs.log2 < 9000 ∧ Φ (.int (q.num * (s / q.den))) m
def sp_is_number : LSp := fun ds m Φ => ∃ i : Int, ds = [.int i] ∧ Φ (.bl true) m
def sp_amount : LSp := fun ds m Φ => ∃ (t b : Int), ds = [.int t, .int b] ∧ 0 ≤ t ∧ 0 < b ∧ b.natAbs.log2 < 9000 ∧ Φ (am (divInt t b)) m
def sp_smallest : LSp := fun ds m Φ => ∃ (p : Rat) (qs : List Rat), ds = [am p, .tup (qs.map am)] ∧ Bg p ∧ (∀ q ∈ qs, Bg q) ∧ Φ (am (qs.foldl mn p)) m
def sp_smallest_s : LSp := fun ds m Φ => ∃ ws rest, ds = ws ++ rest ∧ ws.length = 1 ∧ rest.length ≤ sizeLine ∧ sp_smallest (ws ++ [.tup rest]) m Φ
def sp_times : LSp := fun ds m Φ => ∃ (p q : Rat), ds = [am p, am q] ∧ Bg p ∧ Bg q ∧ Φ (am (p * q)) m
/-- wants whose sizes are bounded -/
structure Wb (N M W : Nat) (R : Rat) (ws : Wants) : Prop where
  ok : WOk ws
  len : ws.length < 60
  wt : ∀ p ∈ ws, (p.1 : Int) ∣ (W : Int)
  am : ∀ p ∈ ws, Okb N M p.2
  rs : Okb N M R
  n0 : 0 < N
  w0 : 0 < W
  nb : N.log2 < 500
  mb : M.log2 < 500
  wb : W.log2 < 100
def sp_spare_shares : LSp := fun ds m Φ => ∃ (R : Rat) (w : D) (ws : Wants) (N M W : Nat), ds = [am R, w] ∧ ItemsAt w m (ws.map wantD) ∧ Wb N M W R ws ∧ ∀ rs, Filling R ws rs → ∀ a, m a = none → Φ (.ref a) (mset m a (.lst (rs.map am)))
/-- _on_scale: 0 value, 1 scale -/
def qb_p_on_scale : QS :=
  (sRet (qOp (qIC CM fun i j => .int (i * j)) (qOp vIx (qVar 0) (qC (.int 0))) (qOp (qIC CDivW fun i j => .int (i / j)) (qVar 1) (qOp vIx (qVar 0) (qC (.int 1))))))
/-- is_number: 0 value -/
def qb_is_number : QS :=
  (sRet (qAndV (qIsi "int" (qVar 0)) (qNotV (qIsi "bool" (qVar 0)))))
/-- amount: 0 top, 1 bottom -/
def qb_amount : QS :=
  (sSeq (sIf (qOr (qNot (qB (qCall sp_is_number (qCons (qVar 0) qNil)))) (qB (qOp (qI0 fun i j => .bl (decide (i < j))) (qVar 0) (qC (.int 0))))) sNever sNext)
    (sSeq (sIf (qOr (qNot (qB (qCall sp_is_number (qCons (qVar 1) qNil)))) (qB (qOp (qI0 fun i j => .bl (decide (i < j))) (qVar 1) (qC (.int 1))))) sNever sNext)
    (sRet (qCall PA.sp_p_lowest (qCons (qVar 0) (qCons (qVar 1) qNil))))))
/-- smallest: 0 first, 1 others, 2 found, 3 other -/
def qb_smallest : QS :=
  (sSeq (sAsg (.nm 2) (qVar 0))
    (sSeq (sFor (iTup (qVar 1)) (.nm 3) (sIf (qB (qOp (qI0 fun i j => .bl (decide (i < j))) (qCall PA.sp_compare (qCons (qVar 3) (qCons (qVar 2) qNil))) (qC (.int 0)))) (sAsg (.nm 2) (qVar 3)) sNext))
    (sRet (qVar 2))))
/-- times: 0 first, 1 second -/
def qb_times : QS :=
  (sRet (qCall PA.sp_p_lowest (qCons (qOp (qIC CM fun i j => .int (i * j)) (qOp vIx (qVar 0) (qC (.int 0))) (qOp vIx (qVar 1) (qC (.int 0)))) (qCons (qOp (qIC CM fun i j => .int (i * j)) (qOp vIx (qVar 0) (qC (.int 1))) (qOp vIx (qVar 1) (qC (.int 1)))) qNil))))
/-- spare_shares: 0 rest, 1 wants, 2 scale, 3 weight, 4 want, 5 left, 6 weights, 7 heights, 8 height, 9 level, 10 _, 11 each -/
def qb_spare_shares : QS :=
  (sSeq (sAsg (.nm 2) (qOp vIx (qVar 0) (qC (.int 1))))
    (sSeq (sFor (iSeq (qVar 1)) (.tp [(.nm 3), (.nm 4)]) (sAsg (.nm 2) (qCB bLcm (qCons (qVar 2) (qCons (qOp (qIC CM fun i j => .int (i * j)) (qOp vIx (qVar 4) (qC (.int 1))) (qVar 3)) qNil)))))
    (sSeq (sAsg (.nm 5) (qCall sp_p_on_scale (qCons (qVar 0) (qCons (qVar 2) qNil))))
    (sSeq (sAsg (.nm 6) (qCB bSum (qCons (qFreeze (qLc (iSeq (qVar 1)) (.tp [(.nm 3), (.nm 10)]) qYes (qVar 3) [3, 10])) qNil)))
    (sSeq (sAsg (.nm 7) (qFreeze (qLc (iSeq (qVar 1)) (.tp [(.nm 3), (.nm 4)]) qYes (qTup (qCons (qOp (qIC CM fun i j => .int (i * j)) (qOp vIx (qVar 4) (qC (.int 0))) (qOp (qIC CDivW fun i j => .int (i / j)) (qVar 2) (qOp (qIC CM fun i j => .int (i * j)) (qOp vIx (qVar 4) (qC (.int 1))) (qVar 3)))) (qCons (qVar 3) qNil))) [3, 4])))
    (sSeq (sFor (iLst (qFreeze (qCB (bSortP LF.SB) (qCons (qVar 7) qNil)))) (.tp [(.nm 8), (.nm 3)]) (sSeq (sIf (qB (qOp (qI0 fun i j => .bl (decide (j < i))) (qOp (qIC CM fun i j => .int (i * j)) (qVar 8) (qVar 6)) (qVar 5))) (sSeq (sAsg (.nm 9) (qCall sp_amount (qCons (qVar 5) (qCons (qOp (qIC CM fun i j => .int (i * j)) (qVar 6) (qVar 2)) qNil))))
    (sRet (qLc (iSeq (qVar 1)) (.tp [(.nm 11), (.nm 4)]) qYes (qCall sp_smallest_s (qCons (qVar 4) (qCons (qCall sp_times (qCons (qTup (qCons (qVar 11) (qCons (qC (.int 1)) qNil))) (qCons (qVar 9) qNil))) qNil))) [11, 4]))) sNext)
    (sSeq (sAug 5 (qI0 fun i j => .int (i - j)) (qOp (qIC CM fun i j => .int (i * j)) (qVar 8) (qVar 3)))
    (sAug 6 (qI0 fun i j => .int (i - j)) (qVar 3)))))
    (sRet (qLc (iSeq (qVar 1)) (.tp [(.nm 10), (.nm 4)]) qYes (qVar 4) [10, 4]))))))))
section
variable {N M W : Nat} {R : Rat} {ws : Wants} (h : Wb N M W R ws)
include h
end
end PL
/-! PL2: spare shares -/
namespace PL
open PySem PySem.Spec PyProof.Rows L2 L3 L4 LF
open Rat (divInt)
local macro_rules | `(tactic| walk_at "st") => `(tactic| repeat (first
  | (with_reducible refine k_var (by with_unfolding_all rfl) ?_)
  | (with_reducible refine k_seq ?_)
  | (with_reducible refine k_cons ?_)
  | (with_reducible refine k_nil ?_)
  | (with_reducible refine k_c ?_)
  | (with_reducible refine k_op ?_)
  | (with_reducible refine k_asg ?_)
  | (with_reducible refine k_call ?_)
  | (with_reducible refine k_cb ?_)
  | (with_reducible refine k_i0 ?_)
  | (with_reducible refine k_addI ?_)
  | (with_reducible refine k_B ?_)
  | (with_reducible refine k_bk ?_)
  | (with_reducible refine k_if ?_)
  | (with_reducible refine k_ret ?_)
  | (with_reducible refine k_expr ?_)
  | (with_reducible refine k_next ?_)
  | (with_reducible refine k_not ?_)
  | (with_reducible refine k_and ?_)
  | (with_reducible refine k_or ?_)
  | (with_reducible refine k_ift ?_)
  | (with_reducible refine k_iff ?_)
  | (with_reducible refine k_ifnt ?_)
  | (with_reducible refine k_ifnf ?_)
  | (with_reducible refine k_fz ?_)
  | (with_reducible refine k_lc ?_)
  | (with_reducible refine k_dc ?_)
  | (with_reducible refine k_for ?_)
  | (with_reducible refine k_rng ?_)
  | (with_reducible refine k_iL ?_)
  | (with_reducible refine k_iLl ?_)
  | (with_reducible refine k_iT ?_)
  | (with_reducible refine k_iTt ?_)
  | (with_reducible refine k_zip ?_)
  | (with_reducible refine k_asgp ?_)
  | (with_reducible refine k_atn ?_)
  | (with_reducible refine k_par ?_)
  | (with_reducible refine k_parI ?_)
  | (with_reducible refine k_par3 ?_)
  | (with_reducible refine k_par3I ?_)
  | (with_reducible refine k_sub ?_)
  | (with_reducible refine k_andV ?_)
  | (with_reducible refine k_orV ?_)
  | (with_reducible refine k_notV ?_)
  | (with_reducible refine k_ifE ?_)
  | (with_reducible refine k_chain ?_)
  | (with_reducible refine k_am0 ?_)
  | (with_reducible refine k_am1 ?_)
  | (with_reducible refine k_int ?_)
  | (with_reducible refine k_eqI ?_)
  | (with_reducible refine k_neI ?_)
  | (with_reducible refine k_eqB ?_)
  | (with_reducible refine k_neB ?_)
  | (with_reducible refine k_iaddI ?_)
  | (with_reducible refine k_lenT ?_)
  | (with_reducible refine k_lenL ?_)
  | (with_reducible refine k_tru ?_)
  | (with_reducible refine k_cont ?_)
  | (with_reducible refine k_brk ?_)
  | (with_reducible refine k_retN ?_)
  | (with_reducible refine k_callK ?_)
  | (with_reducible refine k_callS1 ?_)
  | (with_reducible refine k_star ?_)
  | (with_reducible refine k_itL ?_)
  | (with_reducible refine k_itT ?_)
  | (with_reducible refine k_isi ?_)
  | (with_reducible refine k_isiT ?_)
  | (with_reducible refine k_bm ?_)
  | (with_reducible refine k_tup ?_)
  | (with_reducible refine k_lstF ?_)
  | (with_reducible refine k_lstM ?_)
  | (with_reducible refine k_aug (by with_unfolding_all rfl) ?_)
  | (with_reducible refine k_iSv (by with_unfolding_all rfl) ?_)
  | (with_reducible refine k_ixt (by with_unfolding_all rfl) ?_)
  | (with_reducible refine k_at (by with_unfolding_all rfl) ?_)
  | (with_reducible refine k_fzn ‹_› ?_)
  | (refine And.intro (by exact sz (by simp)) ?_)))
section
variable {N M W : Nat} {R : Rat} {ws : Wants}
def hOf (sc : Nat) (p : Int × Rat) : Int × Int := (p.2.num * ((sc : Int) / ((p.2.den : Int) * p.1)), p.1)
end
end PL
/-! LV2: the program's way to a level: bends in order -/
namespace LV
open PySem PySem.Spec PyProof.Rows L2 L3 L4 LF
open Rat (divInt)
def ps (y : Rat) : Rat := if 0 < y then y else 0
def hasM (r : Wsh) : Bool := r.1.isSome
def ls (r : Wsh) : Rat := (r.1.getD (0, 0)).1
def ms (r : Wsh) : Rat := (r.1.getD (0, 0)).2
def st (r : Wsh) : Rat := ls r * divInt 1 r.2.1
def en (r : Wsh) : Rat := mn (mn (ms r * divInt 1 r.2.1) r.2.2) 1000
/-! ### bends on a scale -/
def on (sc : Nat) (q : Rat) : Int := q.num * ((sc : Int) / (q.den : Int))
def bd (sc : Nat) (r : Wsh) : List (Int × Int) := if on sc (st r) < on sc (en r) then [(on sc (st r), r.2.1), (on sc (en r), -r.2.1)] else []
def bds (sc : Nat) : List Wsh → List (Int × Int)
  | [] => []
  | r :: l => bd sc r ++ bds sc l
def P (L : List (Int × Int)) (X : Rat) : Rat := total (L.map fun p => (p.2 : Rat) * ps (X - (p.1 : Rat)))
structure Sc (sc : Nat) (r : Wsh) : Prop where
  a : (ls r).den ∣ sc
  s : (st r).den ∣ sc
  e : (en r).den ∣ sc
/-- ahead of the j-th bend -/
structure LInv (L0 : Int) (L : List (Int × Int)) (j : Nat) (place slope lacking : Int) : Prop where
  sl : slope = sumI ((L.take j).map (·.2))
  ln : sumI ((L.take j).map fun p => p.1 * p.2) = slope * place - (L0 - lacking)
  below : ∀ p ∈ L.take j, p.1 ≤ place
  above : ∀ p ∈ L.drop j, place ≤ p.1
  nn : 0 ≤ place
  lk : 0 < lacking
end LV
/-! PS: the program's shares, totals and levels -/
namespace LV
open PySem PySem.Spec PyProof.Rows L2 L3 L4 LF
open Rat (divInt)
section
variable {S : Rat} {rows : List Wsh} {sc : Nat} {L : List (Int × Int)} {L0 : Int}
/-- all that the walk over the bends rests on -/
structure Way (S : Rat) (rows : List Wsh) (sc : Nat) (L : List (Int × Int)) (L0 : Int) : Prop where
  s0 : 0 < sc
  ok : ROk rows
  scd : ∀ r ∈ rows.filter hasM, Sc sc r
  sd : S.den ∣ sc
  pm : L.Perm (bds sc (rows.filter hasM))
  srt : L.Pairwise fun p q => p.1 < q.1 ∨ (p.1 = q.1 ∧ p.2 ≤ q.2)
  l0 : L0 = on sc S - sumI ((rows.filter hasM).map fun r => on sc (ls r))
variable (h : Way S rows sc L L0)
include h
end
end LV
namespace PS
open PySem PySem.Spec PyProof.Rows L2 L3 L4 LF LV PL
open Rat (divInt)
local macro_rules | `(tactic| walk_at "st") => `(tactic| repeat (first
  | (with_reducible refine k_var (by with_unfolding_all rfl) ?_)
  | (with_reducible refine k_seq ?_)
  | (with_reducible refine k_cons ?_)
  | (with_reducible refine k_nil ?_)
  | (with_reducible refine k_c ?_)
  | (with_reducible refine k_op ?_)
  | (with_reducible refine k_asg ?_)
  | (with_reducible refine k_call ?_)
  | (with_reducible refine k_cb ?_)
  | (with_reducible refine k_i0 ?_)
  | (with_reducible refine k_addI ?_)
  | (with_reducible refine k_B ?_)
  | (with_reducible refine k_bk ?_)
  | (with_reducible refine k_if ?_)
  | (with_reducible refine k_ret ?_)
  | (with_reducible refine k_expr ?_)
  | (with_reducible refine k_next ?_)
  | (with_reducible refine k_not ?_)
  | (with_reducible refine k_and ?_)
  | (with_reducible refine k_or ?_)
  | (with_reducible refine k_ift ?_)
  | (with_reducible refine k_iff ?_)
  | (with_reducible refine k_ifnt ?_)
  | (with_reducible refine k_ifnf ?_)
  | (with_reducible refine k_fz ?_)
  | (with_reducible refine k_lc ?_)
  | (with_reducible refine k_dc ?_)
  | (with_reducible refine k_for ?_)
  | (with_reducible refine k_rng ?_)
  | (with_reducible refine k_iL ?_)
  | (with_reducible refine k_iLl ?_)
  | (with_reducible refine k_iT ?_)
  | (with_reducible refine k_iTt ?_)
  | (with_reducible refine k_zip ?_)
  | (with_reducible refine k_asgp ?_)
  | (with_reducible refine k_atn ?_)
  | (with_reducible refine k_par ?_)
  | (with_reducible refine k_parI ?_)
  | (with_reducible refine k_par3 ?_)
  | (with_reducible refine k_par3I ?_)
  | (with_reducible refine k_sub ?_)
  | (with_reducible refine k_andV ?_)
  | (with_reducible refine k_orV ?_)
  | (with_reducible refine k_notV ?_)
  | (with_reducible refine k_ifE ?_)
  | (with_reducible refine k_chain ?_)
  | (with_reducible refine k_am0 ?_)
  | (with_reducible refine k_am1 ?_)
  | (with_reducible refine k_int ?_)
  | (with_reducible refine k_eqI ?_)
  | (with_reducible refine k_neI ?_)
  | (with_reducible refine k_eqB ?_)
  | (with_reducible refine k_neB ?_)
  | (with_reducible refine k_iaddI ?_)
  | (with_reducible refine k_lenT ?_)
  | (with_reducible refine k_lenL ?_)
  | (with_reducible refine k_tru ?_)
  | (with_reducible refine k_cont ?_)
  | (with_reducible refine k_brk ?_)
  | (with_reducible refine k_retN ?_)
  | (with_reducible refine k_callK ?_)
  | (with_reducible refine k_callS1 ?_)
  | (with_reducible refine k_star ?_)
  | (with_reducible refine k_itL ?_)
  | (with_reducible refine k_itT ?_)
  | (with_reducible refine k_isi ?_)
  | (with_reducible refine k_isiT ?_)
  | (with_reducible refine k_bm ?_)
  | (with_reducible refine k_tup ?_)
  | (with_reducible refine k_lstF ?_)
  | (with_reducible refine k_lstM ?_)
  | (with_reducible refine k_aug (by with_unfolding_all rfl) ?_)
  | (with_reducible refine k_iSv (by with_unfolding_all rfl) ?_)
  | (with_reducible refine k_ixt (by with_unfolding_all rfl) ?_)
  | (with_reducible refine k_at (by with_unfolding_all rfl) ?_)
  | (with_reducible refine k_fzn ‹_› ?_)
  | (refine And.intro (by exact sz (by simp)) ?_)))
abbrev mannD (mm : Option (Rat × Rat)) : D := match mm with
  | none => .tup []
  | some p => .tup [am p.1, am p.2]
abbrev wishD (r : Wsh) : D := .tup [mannD r.1, .int r.2.1, am r.2.2]
abbrev rampD (r : Wsh) : D := .tup [.int r.2.1, am (ls r), am (st r), am (en r)]
/-- bounded wishes and capacity -/
structure RA (N M W : Nat) (r : Wsh) : Prop where
  ok : Ok1 r
  wt : r.2.1 ∣ (W : Int)
  m : ∀ p, r.1 = some p → Okb N M p.1 ∧ Okb N M p.2
  b : Okb N M r.2.2
structure RB (N M W : Nat) (rows : List Wsh) (S : Rat) : Prop where
  all : ∀ r ∈ rows, RA N M W r
  len : rows.length < 60
  sp : Okb N M S
  n0 : 0 < N
  w0 : 0 < W
  nb : N.log2 < 500
  mb : M.log2 < 400
  wb : W.log2 < 100
def Lb (N W : Nat) (x : Rat) : Prop := ∃ H : Nat, 0 < H ∧ H.log2 < 120 ∧ Okb (N * W * H) 1000 x
def sp_share : LSp := fun ds m Φ => ∃ (mm : Option (Rat × Rat)) (w : Int) (x : Rat), ds = [mannD mm, .int w, am x] ∧ 0 ≤ w ∧ w.natAbs.log2 < 100 ∧ 0 ≤ x ∧ x.num.natAbs.log2 < 2000 ∧ x.den.log2 < 2000 ∧ (∀ p, mm = some p → Bg p.1 ∧ Bg p.2) ∧ Φ (am (shr mm w x)) m
def sp_p_ramp : LSp := fun ds m Φ => ∃ (r : Wsh) (p : Rat × Rat), r.1 = some p ∧ ds = [mannD r.1, .int r.2.1, am r.2.2] ∧ 1 ≤ r.2.1 ∧ r.2.1.natAbs.log2 < 100 ∧ (p.1.num.natAbs.log2 < 2000 ∧ p.1.den.log2 < 2000) ∧ (p.2.num.natAbs.log2 < 2000 ∧ p.2.den.log2 < 2000) ∧ Bg r.2.2 ∧ Φ (rampD r) m
def sp_level_of : LSp := fun ds m Φ => ∃ (S : Rat) (w : D) (rows : List Wsh) (N M W : Nat), ds = [am S, w] ∧ ItemsAt w m (rows.map wishD) ∧ RB N M W rows S ∧ ∀ x, IsLevel S rows x → Lb N W x → Φ (am x) m
/-- total(wishes, x): all shares have a common bottom N' -/
structure TA (N M : Nat) (rows : List Wsh) (x : Rat) : Prop where
  w : ∀ r ∈ rows, 0 ≤ r.2.1 ∧ r.2.1.natAbs.log2 < 100
  b : ∀ r ∈ rows, Okb N M r.2.2
  m : ∀ r ∈ rows, ∀ p, r.1 = some p → Okb N M p.1 ∧ Okb N M p.2
  x : Okb N M x
  len : rows.length ≤ 1000
  n0 : 0 < N
  nb : N.log2 < 1500
  mb : M.log2 < 450
def sp_total : LSp := fun ds m Φ => ∃ (w : D) (rows : List Wsh) (x : Rat) (N M : Nat), ds = [w, am x] ∧ ItemsAt w m (rows.map wishD) ∧ TA N M rows x ∧ Φ (am (tot rows x)) m
def sp_allotments : LSp := fun ds m Φ => ∃ (w : D) (rows : List Wsh) (x : Rat) (N M : Nat), ds = [am x, w] ∧ ItemsAt w m (rows.map wishD) ∧ TA N M rows x ∧ ∀ a, m a = none → Φ (.ref a) (mset m a (.lst (rows.map fun r => am (ral r x))))
/-- share: 0 manner, 1 weight, 2 level, 3 least, 4 most -/
def qb_share : QS :=
  (sSeq (sIf (qB (qOp vEq (qVar 0) (qTup qNil))) (sRet (qC (.tup [(.int 0), (.int 1)]))) sNext)
    (sSeq (sAsg (.tp [(.nm 3), (.nm 4)]) (qVar 0))
    (sRet (qCall PA.sp_largest_s (qCons (qVar 3) (qCons (qCall sp_smallest_s (qCons (qVar 4) (qCons (qCall sp_times (qCons (qTup (qCons (qVar 1) (qCons (qC (.int 1)) qNil))) (qCons (qVar 2) qNil))) qNil))) qNil))))))
/-- total: 0 wishes, 1 level, 2 rows, 3 manner, 4 weight, 5 bound -/
def qb_total : QS :=
  (sSeq (sAsg (.nm 2) (qFreeze (qLc (iSeq (qVar 0)) (.tp [(.nm 3), (.nm 4), (.nm 5)]) qYes (qCall sp_share (qCons (qVar 3) (qCons (qVar 4) (qCons (qCall sp_smallest_s (qCons (qVar 1) (qCons (qVar 5) qNil))) qNil)))) [3, 4, 5])))
    (sRet (qCallS1 PA.sp_plus_s (qVar 2))))
/-- _ramp: 0 manner, 1 weight, 2 bound, 3 least, 4 most, 5 part -/
def qb_p_ramp : QS :=
  (sSeq (sAsg (.tp [(.nm 3), (.nm 4)]) (qVar 0))
    (sSeq (sAsg (.nm 5) (qTup (qCons (qC (.int 1)) (qCons (qVar 1) qNil))))
    (sRet (qTup (qCons (qVar 1) (qCons (qVar 3) (qCons (qCall sp_times (qCons (qVar 3) (qCons (qVar 5) qNil))) (qCons (qCall sp_smallest_s (qCons (qCall sp_times (qCons (qVar 4) (qCons (qVar 5) qNil))) (qCons (qVar 2) (qCons (qC (.tup [(.int 1000), (.int 1)])) qNil)))) qNil))))))))
/-- level_of: 0 capacity, 1 wishes, 2 ramps, 3 scale, 4 _, 5 least, 6 start, 7 end, 8 lacking, 9 bends, 10 weight, 11 rise, 12 rest, 13 place, 14 slope, 15 bend, 16 change, 17 gain, 18 manner, 19 bound -/
def qb_level_of : QS :=
  (sSeq (sAsg (.nm 2) (qFreeze (qLc (iSeq (qVar 1)) (.tp [(.nm 18), (.nm 10), (.nm 19)]) (qB (qOp vNe (qVar 18) (qTup qNil))) (qCall sp_p_ramp (qCons (qVar 18) (qCons (qVar 10) (qCons (qVar 19) qNil)))) [18, 10, 19])))
    (sSeq (sAsg (.nm 3) (qOp vIx (qVar 0) (qC (.int 1))))
    (sSeq (sFor (iLst (qVar 2)) (.tp [(.nm 4), (.nm 5), (.nm 6), (.nm 7)]) (sAsg (.nm 3) (qCB bLcm4 (qCons (qVar 3) (qCons (qOp vIx (qVar 5) (qC (.int 1))) (qCons (qOp vIx (qVar 6) (qC (.int 1))) (qCons (qOp vIx (qVar 7) (qC (.int 1))) qNil)))))))
    (sSeq (sAsg (.nm 8) (qCall sp_p_on_scale (qCons (qVar 0) (qCons (qVar 3) qNil))))
    (sSeq (sAsg (.nm 9) (qLstM qNil))
    (sSeq (sFor (iLst (qVar 2)) (.tp [(.nm 10), (.nm 5), (.nm 6), (.nm 7)]) (sSeq (sAug 8 (qI0 fun i j => .int (i - j)) (qCall sp_p_on_scale (qCons (qVar 5) (qCons (qVar 3) qNil))))
    (sSeq (sAsg (.nm 11) (qCall sp_p_on_scale (qCons (qVar 6) (qCons (qVar 3) qNil))))
    (sSeq (sAsg (.nm 12) (qCall sp_p_on_scale (qCons (qVar 7) (qCons (qVar 3) qNil))))
    (sIf (qB (qOp (qI0 fun i j => .bl (decide (i < j))) (qVar 11) (qVar 12))) (sSeq (sExpr (qBM "list" (mtL gAppend) (qVar 9) (qCons (qTup (qCons (qVar 11) (qCons (qVar 10) qNil))) qNil)))
    (sExpr (qBM "list" (mtL gAppend) (qVar 9) (qCons (qTup (qCons (qVar 12) (qCons (qNeg (qVar 10)) qNil))) qNil)))) sNext)))))
    (sSeq (sIf (qB (qOp (qI0 fun i j => .bl (decide (i ≤ j))) (qVar 8) (qC (.int 0)))) (sRet (qC (.tup [(.int 0), (.int 1)]))) sNext)
    (sSeq (sAsg (.nm 13) (qC (.int 0)))
    (sSeq (sAsg (.nm 14) (qC (.int 0)))
    (sSeq (sFor (iLst (qFreeze (qCB bSortD (qCons (qVar 9) qNil)))) (.tp [(.nm 15), (.nm 16)]) (sSeq (sAsg (.nm 17) (qOp (qIC CM fun i j => .int (i * j)) (qVar 14) (qOp (qI0 fun i j => .int (i - j)) (qVar 15) (qVar 13))))
    (sSeq (sIf (qB (qOp (qI0 fun i j => .bl (decide (j ≤ i))) (qVar 17) (qVar 8))) (sRet (qCall sp_amount (qCons (qOp qAdd (qOp (qIC CM fun i j => .int (i * j)) (qVar 13) (qVar 14)) (qVar 8)) (qCons (qOp (qIC CM fun i j => .int (i * j)) (qVar 14) (qVar 3)) qNil)))) sNext)
    (sSeq (sAug 8 (qI0 fun i j => .int (i - j)) (qVar 17))
    (sSeq (sAsg (.nm 13) (qVar 15))
    (sAug 14 qIAdd (qVar 16)))))))
    (sRet (qC (.tup [(.int 1000), (.int 1)])))))))))))))
section
variable {N M : Nat} {rows : List Wsh} {x : Rat}
end
end PS
/-! C05: the helpers of the laws k00 to k13, k70 to k73 (bag 48271, 69621, 30103) -/
namespace C05
open PySem PySem.Spec PyProof.Rows L2 L3 L4
open Rat (divInt)
open C13 (BagP bag_ok cut63)
local macro_rules | `(tactic| walk_at "st") => `(tactic| repeat (first
  | (with_reducible refine k_var (by with_unfolding_all rfl) ?_)
  | (with_reducible refine k_seq ?_)
  | (with_reducible refine k_cons ?_)
  | (with_reducible refine k_nil ?_)
  | (with_reducible refine k_c ?_)
  | (with_reducible refine k_op ?_)
  | (with_reducible refine k_asg ?_)
  | (with_reducible refine k_call ?_)
  | (with_reducible refine k_cb ?_)
  | (with_reducible refine k_i0 ?_)
  | (with_reducible refine k_addI ?_)
  | (with_reducible refine k_B ?_)
  | (with_reducible refine k_bk ?_)
  | (with_reducible refine k_if ?_)
  | (with_reducible refine k_ret ?_)
  | (with_reducible refine k_expr ?_)
  | (with_reducible refine k_next ?_)
  | (with_reducible refine k_not ?_)
  | (with_reducible refine k_and ?_)
  | (with_reducible refine k_or ?_)
  | (with_reducible refine k_ift ?_)
  | (with_reducible refine k_iff ?_)
  | (with_reducible refine k_ifnt ?_)
  | (with_reducible refine k_ifnf ?_)
  | (with_reducible refine k_fz ?_)
  | (with_reducible refine k_lc ?_)
  | (with_reducible refine k_dc ?_)
  | (with_reducible refine k_for ?_)
  | (with_reducible refine k_rng ?_)
  | (with_reducible refine k_iL ?_)
  | (with_reducible refine k_iLl ?_)
  | (with_reducible refine k_iT ?_)
  | (with_reducible refine k_iTt ?_)
  | (with_reducible refine k_zip ?_)
  | (with_reducible refine k_asgp ?_)
  | (with_reducible refine k_atn ?_)
  | (with_reducible refine k_par ?_)
  | (with_reducible refine k_parI ?_)
  | (with_reducible refine k_par3 ?_)
  | (with_reducible refine k_par3I ?_)
  | (with_reducible refine k_sub ?_)
  | (with_reducible refine k_andV ?_)
  | (with_reducible refine k_orV ?_)
  | (with_reducible refine k_notV ?_)
  | (with_reducible refine k_ifE ?_)
  | (with_reducible refine k_chain ?_)
  | (with_reducible refine k_am0 ?_)
  | (with_reducible refine k_am1 ?_)
  | (with_reducible refine k_int ?_)
  | (with_reducible refine k_eqI ?_)
  | (with_reducible refine k_neI ?_)
  | (with_reducible refine k_eqB ?_)
  | (with_reducible refine k_neB ?_)
  | (with_reducible refine k_iaddI ?_)
  | (with_reducible refine k_lenT ?_)
  | (with_reducible refine k_lenL ?_)
  | (with_reducible refine k_tru ?_)
  | (with_reducible refine k_cont ?_)
  | (with_reducible refine k_brk ?_)
  | (with_reducible refine k_retN ?_)
  | (with_reducible refine k_callK ?_)
  | (with_reducible refine k_callS1 ?_)
  | (with_reducible refine k_star ?_)
  | (with_reducible refine k_itL ?_)
  | (with_reducible refine k_itT ?_)
  | (with_reducible refine k_isi ?_)
  | (with_reducible refine k_isiT ?_)
  | (with_reducible refine k_bm ?_)
  | (with_reducible refine k_tup ?_)
  | (with_reducible refine k_lstF ?_)
  | (with_reducible refine k_lstM ?_)
  | (with_reducible refine k_aug (by with_unfolding_all rfl) ?_)
  | (with_reducible refine k_iSv (by with_unfolding_all rfl) ?_)
  | (with_reducible refine k_ixt (by with_unfolding_all rfl) ?_)
  | (with_reducible refine k_at (by with_unfolding_all rfl) ?_)
  | (with_reducible refine k_fzn ‹_› ?_)
  | (refine And.intro (by exact sz (by simp)) ?_)))
abbrev sp_law_bag : LSp := C13.sp_law_bag
abbrev sp_law_draw : LSp := C13.sp_law_draw
abbrev sp_law_of : LSp := C13.sp_law_of
abbrev sp_law_pair : LSp := C13.sp_law_amount
def sp_law_wide : LSp := fun ds m Φ => ∃ (b : Addr) (f : Nat), ds = [.ref b, .int f] ∧ m b = some (.any BagP) ∧ f < 100000 ∧ ∀ w : Int, 0 ≤ w → w < 10 ^ f → Φ (.int w) m
def sp_law_grid : LSp := fun ds m Φ => ∃ b : Addr, ds = [.ref b] ∧ m b = some (.any BagP) ∧ ∀ g : Nat, 1 ≤ g → g ≤ 10 ^ 18 → Φ (.int g) m
def sp_law_bit : LSp := fun ds m Φ => ∃ b : Addr, ds = [.ref b] ∧ m b = some (.any BagP) ∧ ∀ q, Okb 12 12 q → Φ (am q) m
def sp_law_fine : LSp := fun ds m Φ => ∃ (b : Addr) (g : Nat), ds = [.ref b, .int g] ∧ m b = some (.any BagP) ∧ 1 ≤ g ∧ g < 2 ^ 61 ∧ ∀ q, Okb (12 * g) 2000 q → Φ (am q) m
def sp_law_mul : LSp := fun ds m Φ => ∃ (p q : Rat), ds = [am p, am q] ∧ 0 ≤ p ∧ 0 ≤ q ∧ Bg p ∧ Bg q ∧ Φ (am (p * q)) m
def sp_law_div : LSp := fun ds m Φ => ∃ (p q : Rat), ds = [am p, am q] ∧ 0 ≤ p ∧ 0 < q ∧ Bg p ∧ Bg q ∧ Φ (am (p / q)) m
abbrev sp_law_add : LSp := C13.sp_law_sum
def sp_law_sub : LSp := fun ds m Φ => ∃ (p q : Rat), ds = [am p, am q] ∧ q ≤ p ∧ Bg p ∧ Bg q ∧ Φ (am (p - q)) m
def sp_law_more : LSp := fun ds m Φ => ∃ (p q : Rat), ds = [am p, am q] ∧ Bg p ∧ Bg q ∧ Φ (.bl (decide (q < p))) m
abbrev sp_law_min : LSp := C13.sp_law_min
def sp_law_sum : LSp := fun ds m Φ => ∃ (w : D) (qs : List Rat) (N M : Nat), ds = [w] ∧ LItems w m (qs.map am) ∧ (∀ q ∈ qs, Okb N M q) ∧ qs.length ≤ 1000000 ∧ 0 < N ∧ N.log2 < 1900 ∧ M.log2 < 1900 ∧ Φ (am (total qs)) m
def sp_law_mixed : LSp := fun ds m Φ => ∃ (b : Addr) (w : D) (xs : List D), ds = [.ref b, w] ∧ ItemsAt w m xs ∧ m b = some (.any BagP) ∧ xs.length < 1000000 ∧ ∀ ys, ys.Perm xs → Φ (.lst ys) m
def sp_law_like : Nat → LSp
  | 0 => fun _ _ _ => False
  | n + 1 => fun ds m Φ => ∃ x y, ds = [x, y] ∧ ((x = y ∧ flat n x) ∨ ∃ k xs, n = k + 1 ∧ LItems x m xs ∧ LItems y m xs ∧ xs.length < 1000000 ∧ ∀ d ∈ xs, flat k d) ∧ Φ (.bl true) m
/-- _law_bag: 0 _law_script, 1 _law_seed, 2 _law_item -/
def qb_law_bag : QS :=
  (sSeq (sAsg (.nm 1) (qC (.int 13965)))
    (sSeq (sFor (iLst (qSlL (qVar 0) qNoPart (qPart (qC (.int 63))))) (.nm 2) (sAsg (.nm 1) (qOp (qIC (fun _ j => 0 < j) fun i j => .int (i % j)) (qCB bInt (qCons (qOp qAdd (qOp qAdd (qOp (qIC CM fun i j => .int (i * j)) (qVar 1) (qC (.int 48271))) (qOp (qIC (fun _ j => 0 < j) fun i j => .int (i % j)) (qCB bInt (qCons (qVar 2) qNil)) (qC (.int 2147483587)))) (qC (.int 307))) qNil)) (qC (.int 2147483629)))))
    (sRet (qLstM (qCons (qFreeze (qCB bList (qCons (qSlL (qVar 0) qNoPart (qPart (qC (.int 63)))) qNil))) (qCons (qC (.int 0)) (qCons (qC (.int 0)) (qCons (qVar 1) (qCons (qC (.int 0)) qNil)))))))))
def qb_draw_tail : QS :=
  (sSeq (sIf (qB (qOp (qI0 fun i j => .bl (decide (j < i))) (qOp vIx (qVar 0) (qC (.int 2))) (qC (.int 0)))) (sSeq (sAsg (.nm 3) (qOp (qIC (fun _ j => 0 < j) fun i j => .int (i % j)) (qCB bInt (qCons (qOp vIx (qVar 0) (qC (.int 2))) qNil)) (qVar 1)))
    (sSeq (sSub (qVar 0) (qC (.int 2)) (qOp (qIC CDivW fun i j => .int (i / j)) (qOp vIx (qVar 0) (qC (.int 2))) (qVar 1)))
    (sRet (qVar 3)))) sNext)
    (sSeq (sSub (qVar 0) (qC (.int 3)) (qOp (qIC (fun _ j => 0 < j) fun i j => .int (i % j)) (qCB bInt (qCons (qOp qAdd (qOp qAdd (qOp qPow (qOp vIx (qVar 0) (qC (.int 3))) (qC (.int 3))) (qOp (qIC CM fun i j => .int (i * j)) (qOp vIx (qVar 0) (qC (.int 4))) (qC (.int 1299709)))) (qC (.int 60013))) qNil)) (qC (.int 2147483629))))
    (sRet (qOp (qIC (fun _ j => 0 < j) fun i j => .int (i % j)) (qCB bInt (qCons (qOp qAdd (qOp (qIC CDivW fun i j => .int (i / j)) (qOp vIx (qVar 0) (qC (.int 3))) (qC (.int 97))) (qOp (qIC CM fun i j => .int (i * j)) (qOp (qIC (fun _ j => 0 < j) fun i j => .int (i % j)) (qCB bInt (qCons (qOp vIx (qVar 0) (qC (.int 3))) qNil)) (qC (.int 7901))) (qC (.int 67)))) qNil)) (qVar 1)))))
/-- _law_draw: 0 _law_bag_here, 1 _law_many, 2 _law_item, 3 _law_digit -/
def qb_law_draw : QS :=
  (sOpen (sSeq (sSub (qVar 0) (qC (.int 4)) (qOp qAdd (qOp vIx (qVar 0) (qC (.int 4))) (qC (.int 1))))
    (sSeq (sIf (qAnd (qB (qOp vEq (qOp vIx (qVar 0) (qC (.int 2))) (qC (.int 0)))) (qB (qOp (qI0 fun i j => .bl (decide (i < j))) (qOp vIx (qVar 0) (qC (.int 1))) (qCB bLen (qCons (qOp vIx (qVar 0) (qC (.int 0))) qNil))))) (sSeq (sAsg (.nm 2) (qOp vIx (qOp vIx (qVar 0) (qC (.int 0))) (qOp vIx (qVar 0) (qC (.int 1)))))
    (sSeq (sSub (qVar 0) (qC (.int 1)) (qOp qAdd (qOp vIx (qVar 0) (qC (.int 1))) (qC (.int 1))))
    (sIf (qB (qOp (qI0 fun i j => .bl (decide (j ≤ i))) (qVar 2) (qOp qPow (qC (.int 10)) (qC (.int 18))))) (sSub (qVar 0) (qC (.int 2)) (qVar 2)) (sSub (qVar 0) (qC (.int 3)) (qOp (qIC (fun _ j => 0 < j) fun i j => .int (i % j)) (qCB bInt (qCons (qOp qAdd (qOp qAdd (qOp (qIC CM fun i j => .int (i * j)) (qOp vIx (qVar 0) (qC (.int 3))) (qC (.int 69621))) (qOp (qIC CM fun i j => .int (i * j)) (qOp (qIC (fun _ j => 0 < j) fun i j => .int (i % j)) (qCB bInt (qCons (qVar 2) qNil)) (qC (.int 2147483549))) (qC (.int 30103)))) (qC (.int 89))) qNil)) (qC (.int 2147483629))))))) sNext)
    qb_draw_tail)))
/-- _law_of: 0 _law_bag_here, 1 _law_things -/
def qb_law_of : QS :=
  (sRet (qOp vIx (qVar 1) (qCall sp_law_draw (qCons (qVar 0) (qCons (qCB bLen (qCons (qVar 1) qNil)) qNil)))))
/-- _law_wide: 0 _law_bag_here, 1 _law_figures, 2 _law_number, 3 _law_size, 4 _law_k -/
def qb_law_wide : QS :=
  (sSeq (sAsg (.tp [(.nm 2), (.nm 3)]) (qTup (qCons (qC (.int 0)) (qCons (qC (.int 1)) qNil))))
    (sSeq (sFor (iRange1 (qCons (qOp (qIC CDivW fun i j => .int (i / j)) (qVar 1) (qC (.int 5))) qNil)) (.nm 4) (sSeq (sAsg (.nm 2) (qOp qAdd (qVar 2) (qOp (qIC CM fun i j => .int (i * j)) (qCall sp_law_draw (qCons (qVar 0) (qCons (qC (.int 100000)) qNil))) (qVar 3))))
    (sAsg (.nm 3) (qOp (qIC CM fun i j => .int (i * j)) (qVar 3) (qC (.int 100000))))))
    (sSeq (sIf (qB (qOp (qI0 fun i j => .bl (decide (j < i))) (qOp (qIC (fun _ j => 0 < j) fun i j => .int (i % j)) (qCB bInt (qCons (qVar 1) qNil)) (qC (.int 5))) (qC (.int 0)))) (sAsg (.nm 2) (qOp qAdd (qVar 2) (qOp (qIC CM fun i j => .int (i * j)) (qCall sp_law_draw (qCons (qVar 0) (qCons (qOp vIx (qTup (qCons (qC (.int 1)) (qCons (qC (.int 10)) (qCons (qC (.int 100)) (qCons (qC (.int 1000)) (qCons (qC (.int 10000)) qNil)))))) (qOp (qIC (fun _ j => 0 < j) fun i j => .int (i % j)) (qCB bInt (qCons (qVar 1) qNil)) (qC (.int 5)))) qNil))) (qVar 3)))) sNext)
    (sRet (qVar 2)))))
/-- _law_grid: 0 _law_bag_here -/
def qb_law_grid : QS :=
  (sRet (qCall sp_law_of (qCons (qVar 0) (qCons (qLstF (qCons (qC (.int 1)) (qCons (qC (.int 1)) (qCons (qC (.int 2)) (qCons (qC (.int 3)) (qCons (qC (.int 12)) (qCons (qOp qAdd (qC (.int 1)) (qCall sp_law_wide (qCons (qVar 0) (qCons (qC (.int 9)) qNil)))) (qCons (qOp qAdd (qC (.int 1)) (qOp (qIC CM fun i j => .int (i * j)) (qCall sp_law_wide (qCons (qVar 0) (qCons (qC (.int 9)) qNil))) (qCall sp_law_wide (qCons (qVar 0) (qCons (qC (.int 9)) qNil))))) qNil)))))))) qNil))))
/-- _law_pair: 0 _law_a, 1 _law_b, 2 _law_x, 3 _law_y -/
def qb_law_pair : QS :=
  (sSeq (sPar 2 3 (qCons (qVar 0) (qCons (qVar 1) qNil)))
    (sSeq (sWhile (qB (qOp (qI0 fun i j => .bl (decide (j < i))) (qVar 3) (qC (.int 0)))) (sPar 2 3 (qCons (qVar 3) (qCons (qOp (qIC (fun _ j => 0 < j) fun i j => .int (i % j)) (qCB bInt (qCons (qVar 2) qNil)) (qVar 3)) qNil))))
    (sRet (qTup (qCons (qOp (qIC CDivW fun i j => .int (i / j)) (qVar 0) (qVar 2)) (qCons (qOp (qIC CDivW fun i j => .int (i / j)) (qVar 1) (qVar 2)) qNil))))))
/-- _law_bit: 0 _law_bag_here -/
def qb_law_bit : QS :=
  (sRet (qCall sp_law_pair (qCons (qCall sp_law_draw (qCons (qVar 0) (qCons (qC (.int 13)) qNil))) (qCons (qCall sp_law_of (qCons (qVar 0) (qCons (qLstF (qCons (qC (.int 1)) (qCons (qC (.int 1)) (qCons (qC (.int 2)) (qCons (qC (.int 3)) (qCons (qC (.int 1)) (qCons (qC (.int 4)) (qCons (qC (.int 12)) qNil)))))))) qNil))) qNil))))
/-- _law_mul: 0 _law_p, 1 _law_q -/
def qb_law_mul : QS :=
  (sRet (qCall sp_law_pair (qCons (qOp (qIC CM fun i j => .int (i * j)) (qOp vIx (qVar 0) (qC (.int 0))) (qOp vIx (qVar 1) (qC (.int 0)))) (qCons (qOp (qIC CM fun i j => .int (i * j)) (qOp vIx (qVar 0) (qC (.int 1))) (qOp vIx (qVar 1) (qC (.int 1)))) qNil))))
/-- _law_div: 0 _law_p, 1 _law_q -/
def qb_law_div : QS :=
  (sRet (qCall sp_law_pair (qCons (qOp (qIC CM fun i j => .int (i * j)) (qOp vIx (qVar 0) (qC (.int 0))) (qOp vIx (qVar 1) (qC (.int 1)))) (qCons (qOp (qIC CM fun i j => .int (i * j)) (qOp vIx (qVar 0) (qC (.int 1))) (qOp vIx (qVar 1) (qC (.int 0)))) qNil))))
/-- _law_add: 0 _law_p, 1 _law_q -/
def qb_law_add : QS :=
  (sRet (qCall sp_law_pair (qCons (qOp qAdd (qOp (qIC CM fun i j => .int (i * j)) (qOp vIx (qVar 0) (qC (.int 0))) (qOp vIx (qVar 1) (qC (.int 1)))) (qOp (qIC CM fun i j => .int (i * j)) (qOp vIx (qVar 1) (qC (.int 0))) (qOp vIx (qVar 0) (qC (.int 1))))) (qCons (qOp (qIC CM fun i j => .int (i * j)) (qOp vIx (qVar 0) (qC (.int 1))) (qOp vIx (qVar 1) (qC (.int 1)))) qNil))))
/-- _law_sub: 0 _law_p, 1 _law_q -/
def qb_law_sub : QS :=
  (sRet (qCall sp_law_pair (qCons (qOp (qI0 fun i j => .int (i - j)) (qOp (qIC CM fun i j => .int (i * j)) (qOp vIx (qVar 0) (qC (.int 0))) (qOp vIx (qVar 1) (qC (.int 1)))) (qOp (qIC CM fun i j => .int (i * j)) (qOp vIx (qVar 1) (qC (.int 0))) (qOp vIx (qVar 0) (qC (.int 1))))) (qCons (qOp (qIC CM fun i j => .int (i * j)) (qOp vIx (qVar 0) (qC (.int 1))) (qOp vIx (qVar 1) (qC (.int 1)))) qNil))))
/-- _law_more: 0 _law_p, 1 _law_q -/
def qb_law_more : QS :=
  (sRet (qOp (qI0 fun i j => .bl (decide (j < i))) (qOp (qIC CM fun i j => .int (i * j)) (qOp vIx (qVar 0) (qC (.int 0))) (qOp vIx (qVar 1) (qC (.int 1)))) (qOp (qIC CM fun i j => .int (i * j)) (qOp vIx (qVar 1) (qC (.int 0))) (qOp vIx (qVar 0) (qC (.int 1))))))
/-- _law_min: 0 _law_p, 1 _law_q -/
def qb_law_min : QS :=
  (sRet (qIfE (qB (qCall sp_law_more (qCons (qVar 0) (qCons (qVar 1) qNil)))) (qVar 1) (qVar 0)))
/-- _law_sum: 0 _law_pairs, 1 _law_done, 2 _law_p -/
def qb_law_sum : QS :=
  (sSeq (sAsg (.nm 1) (qTup (qCons (qC (.int 0)) (qCons (qC (.int 1)) qNil))))
    (sSeq (sFor (iLst (qVar 0)) (.nm 2) (sAsg (.nm 1) (qCall sp_law_add (qCons (qVar 1) (qCons (qVar 2) qNil)))))
    (sRet (qVar 1))))
/-- _law_fine: 0 _law_bag_here, 1 _law_grid_here, 2 _law_shape -/
def qb_law_fine : QS :=
  (sSeq (sAsg (.nm 2) (qCall sp_law_draw (qCons (qVar 0) (qCons (qC (.int 5)) qNil))))
    (sSeq (sIf (qB (qOp vEq (qVar 2) (qC (.int 0)))) (sRet (qCall sp_law_of (qCons (qVar 0) (qCons (qLstF (qCons (qTup (qCons (qC (.int 0)) (qCons (qC (.int 1)) qNil))) (qCons (qTup (qCons (qC (.int 1)) (qCons (qC (.int 1)) qNil))) (qCons (qTup (qCons (qC (.int 1000)) (qCons (qC (.int 1)) qNil))) (qCons (qTup (qCons (qC (.int 1001)) (qCons (qC (.int 1)) qNil))) (qCons (qTup (qCons (qC (.int 999)) (qCons (qC (.int 1)) qNil))) qNil)))))) qNil)))) sNext)
    (sSeq (sIf (qB (qOp (qI0 fun i j => .bl (decide (i < j))) (qVar 2) (qC (.int 3)))) (sRet (qCall sp_law_bit (qCons (qVar 0) qNil))) sNext)
    (sRet (qCall sp_law_pair (qCons (qOp qAdd (qOp (qIC CM fun i j => .int (i * j)) (qCall sp_law_of (qCons (qVar 0) (qCons (qLstF (qCons (qC (.int 0)) (qCons (qC (.int 3)) (qCons (qCall sp_law_draw (qCons (qVar 0) (qCons (qC (.int 20)) qNil))) (qCons (qCall sp_law_draw (qCons (qVar 0) (qCons (qC (.int 2000)) qNil))) qNil))))) qNil))) (qVar 1)) (qCall sp_law_draw (qCons (qVar 0) (qCons (qVar 1) qNil)))) (qCons (qVar 1) qNil)))))))
/-- _law_mixed: 0 _law_bag_here, 1 _law_things, 2 _law_pool, 3 _law_k -/
def qb_law_mixed : QS :=
  (sSeq (sAsg (.nm 2) (qCB bList (qCons (qVar 1) qNil)))
    (sRet (qFreeze (qLc (iRange1 (qCons (qCB bLen (qCons (qVar 2) qNil)) qNil)) (.nm 3) qYes (qBM "list" (mtL gPopAt) (qVar 2) (qCons (qCall sp_law_draw (qCons (qVar 0) (qCons (qCB bLen (qCons (qVar 2) qNil)) qNil))) qNil)) [3]))))
/-- _law_like: 0 _law_told, 1 _law_due, 2 _law_a, 3 _law_b -/
def qb_law_like (n : Nat) : QS :=
  (sSeq (sIf (qB (qIsiT ["list", "tuple"] (qVar 1))) (sSeq (sIf (qOr (qB (qOp vNe (qIsi "list" (qVar 0)) (qIsi "list" (qVar 1)))) (qB (qOp vNe (qIsi "tuple" (qVar 0)) (qIsi "tuple" (qVar 1))))) (sRet (qC (.bl false))) sNext)
    (sRet (qAndV (qOp vEq (qCB bLen (qCons (qVar 0) qNil)) (qCB bLen (qCons (qVar 1) qNil))) (qCB bAll (qCons (qFreeze (qLc (iZipD (qCons (qVar 0) (qCons (qVar 1) qNil))) (.tp [(.nm 2), (.nm 3)]) qYes (qCall (sp_law_like n) (qCons (qVar 2) (qCons (qVar 3) qNil))) [2, 3])) qNil))))) sNext)
    (sSeq (sIf (qOr (qB (qOp qIsN (qVar 1) (qC .non))) (qB (qOp qIsN (qVar 0) (qC .non)))) (sRet (qAndV (qOp qIsN (qVar 1) (qC .non)) (qOp qIsN (qVar 0) (qC .non)))) sNext)
    (sSeq (sIf (qOr (qB (qIsiT ["list", "tuple"] (qVar 0))) (qB (qOp vNe (qIsi "bool" (qVar 0)) (qIsi "bool" (qVar 1))))) (sRet (qC (.bl false))) sNext)
    (sSeq (sIf (qOr (qB (qOp vNe (qIsi "str" (qVar 0)) (qIsi "str" (qVar 1)))) (qB (qOp vNe (qIsi "int" (qVar 0)) (qIsi "int" (qVar 1))))) (sRet (qC (.bl false))) sNext)
    (sRet (qOp vEq (qVar 0) (qVar 1)))))))
end C05
namespace PS
open PySem PySem.Spec PyProof.Rows L2 L3 L4 LF LV PL
open Rat (divInt)
local macro_rules | `(tactic| walk_at "st") => `(tactic| repeat (first
  | (with_reducible refine k_var (by with_unfolding_all rfl) ?_)
  | (with_reducible refine k_seq ?_)
  | (with_reducible refine k_cons ?_)
  | (with_reducible refine k_nil ?_)
  | (with_reducible refine k_c ?_)
  | (with_reducible refine k_op ?_)
  | (with_reducible refine k_asg ?_)
  | (with_reducible refine k_call ?_)
  | (with_reducible refine k_cb ?_)
  | (with_reducible refine k_i0 ?_)
  | (with_reducible refine k_addI ?_)
  | (with_reducible refine k_B ?_)
  | (with_reducible refine k_bk ?_)
  | (with_reducible refine k_if ?_)
  | (with_reducible refine k_ret ?_)
  | (with_reducible refine k_expr ?_)
  | (with_reducible refine k_next ?_)
  | (with_reducible refine k_not ?_)
  | (with_reducible refine k_and ?_)
  | (with_reducible refine k_or ?_)
  | (with_reducible refine k_ift ?_)
  | (with_reducible refine k_iff ?_)
  | (with_reducible refine k_ifnt ?_)
  | (with_reducible refine k_ifnf ?_)
  | (with_reducible refine k_fz ?_)
  | (with_reducible refine k_lc ?_)
  | (with_reducible refine k_dc ?_)
  | (with_reducible refine k_for ?_)
  | (with_reducible refine k_rng ?_)
  | (with_reducible refine k_iL ?_)
  | (with_reducible refine k_iLl ?_)
  | (with_reducible refine k_iT ?_)
  | (with_reducible refine k_iTt ?_)
  | (with_reducible refine k_zip ?_)
  | (with_reducible refine k_asgp ?_)
  | (with_reducible refine k_atn ?_)
  | (with_reducible refine k_par ?_)
  | (with_reducible refine k_parI ?_)
  | (with_reducible refine k_par3 ?_)
  | (with_reducible refine k_par3I ?_)
  | (with_reducible refine k_sub ?_)
  | (with_reducible refine k_andV ?_)
  | (with_reducible refine k_orV ?_)
  | (with_reducible refine k_notV ?_)
  | (with_reducible refine k_ifE ?_)
  | (with_reducible refine k_chain ?_)
  | (with_reducible refine k_am0 ?_)
  | (with_reducible refine k_am1 ?_)
  | (with_reducible refine k_int ?_)
  | (with_reducible refine k_eqI ?_)
  | (with_reducible refine k_neI ?_)
  | (with_reducible refine k_eqB ?_)
  | (with_reducible refine k_neB ?_)
  | (with_reducible refine k_iaddI ?_)
  | (with_reducible refine k_lenT ?_)
  | (with_reducible refine k_lenL ?_)
  | (with_reducible refine k_tru ?_)
  | (with_reducible refine k_cont ?_)
  | (with_reducible refine k_brk ?_)
  | (with_reducible refine k_retN ?_)
  | (with_reducible refine k_callK ?_)
  | (with_reducible refine k_callS1 ?_)
  | (with_reducible refine k_star ?_)
  | (with_reducible refine k_itL ?_)
  | (with_reducible refine k_itT ?_)
  | (with_reducible refine k_isi ?_)
  | (with_reducible refine k_isiT ?_)
  | (with_reducible refine k_bm ?_)
  | (with_reducible refine k_tup ?_)
  | (with_reducible refine k_lstF ?_)
  | (with_reducible refine k_lstM ?_)
  | (with_reducible refine k_aug (by with_unfolding_all rfl) ?_)
  | (with_reducible refine k_iSv (by with_unfolding_all rfl) ?_)
  | (with_reducible refine k_ixt (by with_unfolding_all rfl) ?_)
  | (with_reducible refine k_at (by with_unfolding_all rfl) ?_)
  | (with_reducible refine k_fzn ‹_› ?_)
  | (refine And.intro (by exact sz (by simp)) ?_)))
/-- allotments: 0 level, 1 wishes, 2 manner, 3 weight, 4 bound -/
def qb_allotments : QS :=
  (sRet (qLc (iSeq (qVar 1)) (.tp [(.nm 2), (.nm 3), (.nm 4)]) qYes (qCall sp_share (qCons (qVar 2) (qCons (qVar 3) (qCons (qCall sp_smallest_s (qCons (qVar 0) (qCons (qVar 4) qNil))) qNil)))) [2, 3, 4]))
section
variable {N M W : Nat} {rows : List Wsh} {S : Rat}
end
end PS
/-! C02: the laws' own shares, totals, levels; drawn wishes and capacities (k01 to k04) -/
namespace C02
open PySem PySem.Spec PyProof.Rows L2 L3 L4 LF LV PL PS C05
open Rat (divInt)
open C13 (BagP)
local macro_rules | `(tactic| walk_at "st") => `(tactic| repeat (first
  | (with_reducible refine k_var (by with_unfolding_all rfl) ?_)
  | (with_reducible refine k_seq ?_)
  | (with_reducible refine k_cons ?_)
  | (with_reducible refine k_nil ?_)
  | (with_reducible refine k_c ?_)
  | (with_reducible refine k_op ?_)
  | (with_reducible refine k_asg ?_)
  | (with_reducible refine k_call ?_)
  | (with_reducible refine k_cb ?_)
  | (with_reducible refine k_i0 ?_)
  | (with_reducible refine k_addI ?_)
  | (with_reducible refine k_B ?_)
  | (with_reducible refine k_bk ?_)
  | (with_reducible refine k_if ?_)
  | (with_reducible refine k_ret ?_)
  | (with_reducible refine k_expr ?_)
  | (with_reducible refine k_next ?_)
  | (with_reducible refine k_not ?_)
  | (with_reducible refine k_and ?_)
  | (with_reducible refine k_or ?_)
  | (with_reducible refine k_ift ?_)
  | (with_reducible refine k_iff ?_)
  | (with_reducible refine k_ifnt ?_)
  | (with_reducible refine k_ifnf ?_)
  | (with_reducible refine k_fz ?_)
  | (with_reducible refine k_lc ?_)
  | (with_reducible refine k_dc ?_)
  | (with_reducible refine k_for ?_)
  | (with_reducible refine k_rng ?_)
  | (with_reducible refine k_iL ?_)
  | (with_reducible refine k_iLl ?_)
  | (with_reducible refine k_iT ?_)
  | (with_reducible refine k_iTt ?_)
  | (with_reducible refine k_zip ?_)
  | (with_reducible refine k_asgp ?_)
  | (with_reducible refine k_atn ?_)
  | (with_reducible refine k_par ?_)
  | (with_reducible refine k_parI ?_)
  | (with_reducible refine k_par3 ?_)
  | (with_reducible refine k_par3I ?_)
  | (with_reducible refine k_sub ?_)
  | (with_reducible refine k_andV ?_)
  | (with_reducible refine k_orV ?_)
  | (with_reducible refine k_notV ?_)
  | (with_reducible refine k_ifE ?_)
  | (with_reducible refine k_chain ?_)
  | (with_reducible refine k_am0 ?_)
  | (with_reducible refine k_am1 ?_)
  | (with_reducible refine k_int ?_)
  | (with_reducible refine k_eqI ?_)
  | (with_reducible refine k_neI ?_)
  | (with_reducible refine k_eqB ?_)
  | (with_reducible refine k_neB ?_)
  | (with_reducible refine k_iaddI ?_)
  | (with_reducible refine k_lenT ?_)
  | (with_reducible refine k_lenL ?_)
  | (with_reducible refine k_tru ?_)
  | (with_reducible refine k_cont ?_)
  | (with_reducible refine k_brk ?_)
  | (with_reducible refine k_retN ?_)
  | (with_reducible refine k_callK ?_)
  | (with_reducible refine k_callS1 ?_)
  | (with_reducible refine k_star ?_)
  | (with_reducible refine k_itL ?_)
  | (with_reducible refine k_itT ?_)
  | (with_reducible refine k_isi ?_)
  | (with_reducible refine k_isiT ?_)
  | (with_reducible refine k_bm ?_)
  | (with_reducible refine k_tup ?_)
  | (with_reducible refine k_lstF ?_)
  | (with_reducible refine k_lstM ?_)
  | (with_reducible refine k_aug (by with_unfolding_all rfl) ?_)
  | (with_reducible refine k_iSv (by with_unfolding_all rfl) ?_)
  | (with_reducible refine k_ixt (by with_unfolding_all rfl) ?_)
  | (with_reducible refine k_at (by with_unfolding_all rfl) ?_)
  | (with_reducible refine k_fzn ‹_› ?_)
  | (refine And.intro (by exact sz (by simp)) ?_)))
def sp_law_max : LSp := fun ds m Φ => ∃ (p q : Rat), ds = [am p, am q] ∧ Bg p ∧ Bg q ∧ Φ (am (mx p q)) m
abbrev sp_law_share : LSp := sp_share
def sp_law_total : LSp := fun ds m Φ => ∃ (w : D) (rows : List Wsh) (x : Rat) (N M : Nat), ds = [w, am x] ∧ LItems w m (rows.map wishD) ∧ TA N M rows x ∧ Φ (am (tot rows x)) m
/-- where a total may bend -/
def fnd (r : Wsh) : List Rat := r.2.2 :: (match r.1 with
  | none => []
  | some p => [p.1 * divInt 1 r.2.1, p.2 * divInt 1 r.2.1])
def fnds : List Wsh → List Rat
  | [] => []
  | r :: l => fnd r ++ fnds l
def brk (rows : List Wsh) : List Rat := (0 :: 1000 :: fnds rows).filter fun x => !decide (1000 < x)
structure BA (r : Wsh) : Prop where
  w : 1 ≤ r.2.1 ∧ r.2.1.natAbs.log2 < 100
  b : r.2.2.num.natAbs.log2 < 2000 ∧ r.2.2.den.log2 < 2000
  m : ∀ p, r.1 = some p → 0 ≤ p.1 ∧ 0 ≤ p.2 ∧ (p.1.num.natAbs.log2 < 2000 ∧ p.1.den.log2 < 2000) ∧ (p.2.num.natAbs.log2 < 2000 ∧ p.2.den.log2 < 2000)
def sp_law_breaks : LSp := fun ds m Φ => ∃ (w : D) (rows : List Wsh), ds = [w] ∧ LItems w m (rows.map wishD) ∧ (∀ r ∈ rows, BA r) ∧ rows.length ≤ 1000 ∧ Φ (.lst ((brk rows).map am)) m
def sp_law_level : LSp := fun ds m Φ => ∃ (S : Rat) (w : D) (rows : List Wsh) (N M W : Nat), ds = [am S, w] ∧ LItems w m (rows.map wishD) ∧ RB N M W rows S ∧ ∀ x, IsLevel S rows x → Φ (am x) m
/-- a drawn manner, a drawn wish -/
def DM (g : Nat) (mm : Option (Rat × Rat)) : Prop := ∀ p, mm = some p → Okb (12 * g) 4000 p.1 ∧ Okb (12 * g) 4000 p.2 ∧ p.1 ≤ p.2
structure DR (g : Nat) (r : Wsh) : Prop where
  w : 1 ≤ r.2.1 ∧ r.2.1 ≤ 12
  b : Okb (12 * g) 4000 r.2.2
  m : DM g r.1
def sp_law_wish : LSp := fun ds m Φ => ∃ (b : Addr) (g : Nat), ds = [.ref b, .int g] ∧ m b = some (.any BagP) ∧ 1 ≤ g ∧ g ≤ 10 ^ 18 ∧ ∀ mm, DM g mm → Φ (mannD mm) m
def sp_law_wishes : LSp := fun ds m Φ => ∃ (b : Addr) (n g : Nat), ds = [.ref b, .int n, .int g] ∧ m b = some (.any BagP) ∧ n ≤ 1000 ∧ 1 ≤ g ∧ g ≤ 10 ^ 18 ∧ ∀ rows : List Wsh, (∀ r ∈ rows, DR g r) → rows.length ≤ n → ∀ a, m a = none → Φ (.ref a) (mset m a (.lst (rows.map wishD)))
abbrev NS (g : Nat) : Nat := 144 * (g * 55440)
def sp_law_supply : LSp := fun ds m Φ => ∃ (b : Addr) (w : D) (rows : List Wsh) (g : Nat), ds = [.ref b, w] ∧ m b = some (.any BagP) ∧ LItems w m (rows.map wishD) ∧ (∀ r ∈ rows, DR g r) ∧ rows.length ≤ 10 ∧ 1 ≤ g ∧ g ≤ 10 ^ 18 ∧ ∀ S, 0 < S → Okb (NS g) 50000 S → Φ (am S) m
/-- _law_max: 0 _law_p, 1 _law_q -/
def qb_law_max : QS :=
  (sRet (qIfE (qB (qCall sp_law_more (qCons (qVar 0) (qCons (qVar 1) qNil)))) (qVar 0) (qVar 1)))
/-- _law_share: 0 _law_wish_here, 1 _law_heavy, 2 _law_x -/
def qb_law_share : QS :=
  (sSeq (sIf (qB (qOp vEq (qVar 0) (qTup qNil))) (sRet (qTup (qCons (qC (.int 0)) (qCons (qC (.int 1)) qNil)))) sNext)
    (sRet (qCall sp_law_max (qCons (qOp vIx (qVar 0) (qC (.int 0))) (qCons (qCall sp_law_min (qCons (qOp vIx (qVar 0) (qC (.int 1))) (qCons (qCall sp_law_pair (qCons (qOp (qIC CM fun i j => .int (i * j)) (qVar 1) (qOp vIx (qVar 2) (qC (.int 0)))) (qCons (qOp vIx (qVar 2) (qC (.int 1))) qNil))) qNil))) qNil)))))
/-- _law_total: 0 _law_rows, 1 _law_x, 2 _law_row -/
def qb_law_total : QS :=
  (sRet (qCall sp_law_sum (qCons (qFreeze (qLc (iLst (qVar 0)) (.nm 2) qYes (qCall sp_law_share (qCons (qOp vIx (qVar 2) (qC (.int 0))) (qCons (qOp vIx (qVar 2) (qC (.int 1))) (qCons (qCall sp_law_min (qCons (qVar 1) (qCons (qOp vIx (qVar 2) (qC (.int 2))) qNil))) qNil)))) [2])) qNil)))
/-- _law_breaks: 0 _law_rows, 1 _law_found, 2 _law_row, 3 _law_x -/
def qb_law_breaks : QS :=
  (sSeq (sAsg (.nm 1) (qLstM (qCons (qTup (qCons (qC (.int 0)) (qCons (qC (.int 1)) qNil))) (qCons (qTup (qCons (qC (.int 1000)) (qCons (qC (.int 1)) qNil))) qNil))))
    (sSeq (sFor (iLst (qVar 0)) (.nm 2) (sSeq (sExpr (qBM "list" (mtL gAppend) (qVar 1) (qCons (qOp vIx (qVar 2) (qC (.int 2))) qNil)))
    (sIf (qB (qOp vNe (qOp vIx (qVar 2) (qC (.int 0))) (qTup qNil))) (sExpr (qBM "list" mExtend (qVar 1) (qCons (qLstM (qCons (qCall sp_law_pair (qCons (qOp vIx (qOp vIx (qOp vIx (qVar 2) (qC (.int 0))) (qC (.int 0))) (qC (.int 0))) (qCons (qOp (qIC CM fun i j => .int (i * j)) (qOp vIx (qOp vIx (qOp vIx (qVar 2) (qC (.int 0))) (qC (.int 0))) (qC (.int 1))) (qOp vIx (qVar 2) (qC (.int 1)))) qNil))) (qCons (qCall sp_law_pair (qCons (qOp vIx (qOp vIx (qOp vIx (qVar 2) (qC (.int 0))) (qC (.int 1))) (qC (.int 0))) (qCons (qOp (qIC CM fun i j => .int (i * j)) (qOp vIx (qOp vIx (qOp vIx (qVar 2) (qC (.int 0))) (qC (.int 1))) (qC (.int 1))) (qOp vIx (qVar 2) (qC (.int 1)))) qNil))) qNil))) qNil))) sNext)))
    (sRet (qFreeze (qLc (iLst (qVar 1)) (.nm 3) (qNot (qB (qCall sp_law_more (qCons (qVar 3) (qCons (qTup (qCons (qC (.int 1000)) (qCons (qC (.int 1)) qNil))) qNil))))) (qVar 3) [3])))))
/-- _law_level: 0 _law_supply_here, 1 _law_rows, 2 _law_lower, 3 _law_upper, 4 _law_x, 5 _law_base, 6 _law_rise -/
def qb_law_level : QS :=
  (sSeq (sAsg (.nm 2) (qTup (qCons (qC (.int 0)) (qCons (qC (.int 1)) qNil))))
    (sSeq (sAsg (.nm 3) (qTup (qCons (qC (.int 1000)) (qCons (qC (.int 1)) qNil))))
    (sSeq (sIf (qNot (qB (qCall sp_law_more (qCons (qVar 0) (qCons (qCall sp_law_total (qCons (qVar 1) (qCons (qVar 2) qNil))) qNil))))) (sRet (qVar 2)) sNext)
    (sSeq (sIf (qB (qCall sp_law_more (qCons (qVar 0) (qCons (qCall sp_law_total (qCons (qVar 1) (qCons (qVar 3) qNil))) qNil)))) (sRet (qVar 3)) sNext)
    (sSeq (sFor (iLst (qCall sp_law_breaks (qCons (qVar 1) qNil))) (.nm 4) (sIf (qAnd (qB (qCall sp_law_more (qCons (qVar 4) (qCons (qVar 2) qNil)))) (qB (qCall sp_law_more (qCons (qVar 3) (qCons (qVar 4) qNil))))) (sIf (qB (qCall sp_law_more (qCons (qVar 0) (qCons (qCall sp_law_total (qCons (qVar 1) (qCons (qVar 4) qNil))) qNil)))) (sAsg (.nm 2) (qVar 4)) (sAsg (.nm 3) (qVar 4))) sNext))
    (sSeq (sAsg (.nm 5) (qCall sp_law_total (qCons (qVar 1) (qCons (qVar 2) qNil))))
    (sSeq (sAsg (.nm 6) (qCall sp_law_sub (qCons (qCall sp_law_total (qCons (qVar 1) (qCons (qVar 3) qNil))) (qCons (qVar 5) qNil))))
    (sRet (qCall sp_law_add (qCons (qVar 2) (qCons (qCall sp_law_div (qCons (qCall sp_law_mul (qCons (qCall sp_law_sub (qCons (qVar 0) (qCons (qVar 5) qNil))) (qCons (qCall sp_law_sub (qCons (qVar 3) (qCons (qVar 2) qNil))) qNil))) (qCons (qVar 6) qNil))) qNil)))))))))))
/-- _law_wish: 0 _law_bag_here, 1 _law_grid_here, 2 _law_shape, 3 _law_a -/
def qb_law_wish : QS :=
  (sSeq (sAsg (.nm 2) (qCall sp_law_draw (qCons (qVar 0) (qCons (qC (.int 9)) qNil))))
    (sSeq (sIf (qB (qOp vEq (qVar 2) (qC (.int 0)))) (sRet (qTup qNil)) sNext)
    (sSeq (sAsg (.nm 3) (qCall sp_law_of (qCons (qVar 0) (qCons (qLstF (qCons (qTup (qCons (qC (.int 0)) (qCons (qC (.int 1)) qNil))) (qCons (qCall sp_law_bit (qCons (qVar 0) qNil)) (qCons (qCall sp_law_fine (qCons (qVar 0) (qCons (qVar 1) qNil))) qNil)))) qNil))))
    (sSeq (sIf (qB (qOp (qI0 fun i j => .bl (decide (i < j))) (qVar 2) (qC (.int 3)))) (sRet (qTup (qCons (qVar 3) (qCons (qVar 3) qNil)))) sNext)
    (sSeq (sIf (qB (qOp (qI0 fun i j => .bl (decide (i < j))) (qVar 2) (qC (.int 5)))) (sRet (qIfE (qNot (qB (qCall sp_law_more (qCons (qVar 3) (qCons (qTup (qCons (qC (.int 1000)) (qCons (qC (.int 1)) qNil))) qNil))))) (qTup (qCons (qVar 3) (qCons (qTup (qCons (qC (.int 1000)) (qCons (qC (.int 1)) qNil))) qNil))) (qTup (qCons (qVar 3) (qCons (qVar 3) qNil))))) sNext)
    (sSeq (sIf (qB (qOp vEq (qVar 2) (qC (.int 5)))) (sRet (qTup (qCons (qVar 3) (qCons (qCall sp_law_add (qCons (qVar 3) (qCons (qCall sp_law_fine (qCons (qVar 0) (qCons (qVar 1) qNil))) qNil))) qNil)))) sNext)
    (sRet (qTup (qCons (qVar 3) (qCons (qCall sp_law_add (qCons (qVar 3) (qCons (qCall sp_law_bit (qCons (qVar 0) qNil)) qNil))) qNil))))))))))
/-- _law_wishes: 0 _law_bag_here, 1 _law_bulk, 2 _law_grid_here, 3 _law_many, 4 _law_alike, 5 _law_lid, 6 _law_rows, 7 _law_k, 8 _law_row -/
def qb_law_wishes : QS :=
  (sSeq (sAsg (.nm 3) (qCall sp_law_draw (qCons (qVar 0) (qCons (qOp qAdd (qVar 1) (qC (.int 1))) qNil))))
    (sSeq (sAsg (.nm 4) (qCall sp_law_draw (qCons (qVar 0) (qCons (qC (.int 3)) qNil))))
    (sSeq (sAsg (.nm 5) (qCall sp_law_bit (qCons (qVar 0) qNil)))
    (sSeq (sAsg (.nm 6) (qLstM qNil))
    (sSeq (sFor (iRange1 (qCons (qVar 3) qNil)) (.nm 7) (sSeq (sAsg (.nm 8) (qTup (qCons (qCall sp_law_wish (qCons (qVar 0) (qCons (qVar 2) qNil))) (qCons (qCall sp_law_of (qCons (qVar 0) (qCons (qLstF (qCons (qC (.int 1)) (qCons (qC (.int 1)) (qCons (qC (.int 2)) (qCons (qC (.int 3)) (qCons (qOp qAdd (qC (.int 1)) (qCall sp_law_draw (qCons (qVar 0) (qCons (qC (.int 12)) qNil)))) qNil)))))) qNil))) (qCons (qCall sp_law_of (qCons (qVar 0) (qCons (qLstF (qCons (qTup (qCons (qC (.int 1000)) (qCons (qC (.int 1)) qNil))) (qCons (qTup (qCons (qC (.int 1000)) (qCons (qC (.int 1)) qNil))) (qCons (qCall sp_law_bit (qCons (qVar 0) qNil)) (qCons (qVar 5) (qCons (qCall sp_law_fine (qCons (qVar 0) (qCons (qVar 2) qNil))) qNil)))))) qNil))) qNil)))))
    (sSeq (sIf (qAnd (qB (qOp vEq (qVar 4) (qC (.int 0)))) (qAnd (qB (qOp vNe (qVar 6) (qLstM qNil))) (qB (qOp vEq (qCall sp_law_draw (qCons (qVar 0) (qCons (qC (.int 2)) qNil))) (qC (.int 0)))))) (sAsg (.nm 8) (qTup (qCons (qCall sp_law_of (qCons (qVar 0) (qCons (qLstF (qCons (qOp vIx (qOp vIx (qVar 6) (qC (.int 0))) (qC (.int 0))) (qCons (qOp vIx (qVar 8) (qC (.int 0))) qNil))) qNil))) (qCons (qOp vIx (qVar 8) (qC (.int 1))) (qCons (qCall sp_law_of (qCons (qVar 0) (qCons (qLstF (qCons (qOp vIx (qOp vIx (qVar 6) (qC (.int 0))) (qC (.int 2))) (qCons (qOp vIx (qVar 8) (qC (.int 2))) qNil))) qNil))) qNil))))) sNext)
    (sExpr (qBM "list" (mtL gAppend) (qVar 6) (qCons (qVar 8) qNil))))))
    (sRet (qVar 6)))))))
/-- _law_supply: 0 _law_bag_here, 1 _law_rows, 2 _law_shape, 3 _law_x, 4 _law_y, 5 _law_some -/
def qb_law_supply : QS :=
  (sSeq (sAsg (.nm 2) (qCall sp_law_draw (qCons (qVar 0) (qCons (qC (.int 8)) qNil))))
    (sSeq (sAsg (.nm 3) (qCall sp_law_of (qCons (qVar 0) (qCons (qCall sp_law_breaks (qCons (qVar 1) qNil)) qNil))))
    (sSeq (sAsg (.nm 4) (qCall sp_law_of (qCons (qVar 0) (qCons (qCall sp_law_breaks (qCons (qVar 1) qNil)) qNil))))
    (sSeq (sAsg (.nm 5) (qLstM (qCons (qCall sp_law_add (qCons (qCall sp_law_bit (qCons (qVar 0) qNil)) (qCons (qTup (qCons (qC (.int 1)) (qCons (qC (.int 12)) qNil))) qNil))) (qCons (qCall sp_law_fine (qCons (qVar 0) (qCons (qC (.int 12)) qNil))) (qCons (qCall sp_law_total (qCons (qVar 1) (qCons (qVar 3) qNil))) (qCons (qCall sp_law_total (qCons (qVar 1) (qCons (qVar 3) qNil))) qNil))))))
    (sSeq (sAsg (.nm 5) (qOp qAdd (qVar 5) (qLstM (qCons (qCall sp_law_total (qCons (qVar 1) (qCons (qCall sp_law_mul (qCons (qCall sp_law_add (qCons (qVar 3) (qCons (qVar 4) qNil))) (qCons (qTup (qCons (qC (.int 1)) (qCons (qC (.int 2)) qNil))) qNil))) qNil))) (qCons (qCall sp_law_total (qCons (qVar 1) (qCons (qTup (qCons (qC (.int 0)) (qCons (qC (.int 1)) qNil))) qNil))) qNil)))))
    (sSeq (sAsg (.nm 5) (qOp qAdd (qVar 5) (qLstM (qCons (qCall sp_law_total (qCons (qVar 1) (qCons (qTup (qCons (qC (.int 1000)) (qCons (qC (.int 1)) qNil))) qNil))) (qCons (qCall sp_law_add (qCons (qCall sp_law_total (qCons (qVar 1) (qCons (qTup (qCons (qC (.int 1000)) (qCons (qC (.int 1)) qNil))) qNil))) (qCons (qCall sp_law_bit (qCons (qVar 0) qNil)) qNil))) qNil)))))
    (sRet (qIfE (qB (qOp (qI0 fun i j => .bl (decide (j < i))) (qOp vIx (qOp vIx (qVar 5) (qVar 2)) (qC (.int 0))) (qC (.int 0)))) (qOp vIx (qVar 5) (qVar 2)) (qTup (qCons (qC (.int 1)) (qCons (qOp qAdd (qC (.int 1)) (qCall sp_law_draw (qCons (qVar 0) (qCons (qC (.int 12)) qNil)))) qNil)))))))))))
/-! ### breaks -/
end C02
namespace C02
open PySem PySem.Spec PyProof.Rows L2 L3 L4 LF LV PL PS C05
open Rat (divInt)
open C13 (BagP)
local macro_rules | `(tactic| walk_at "st") => `(tactic| repeat (first
  | (with_reducible refine k_var (by with_unfolding_all rfl) ?_)
  | (with_reducible refine k_seq ?_)
  | (with_reducible refine k_cons ?_)
  | (with_reducible refine k_nil ?_)
  | (with_reducible refine k_c ?_)
  | (with_reducible refine k_op ?_)
  | (with_reducible refine k_asg ?_)
  | (with_reducible refine k_call ?_)
  | (with_reducible refine k_cb ?_)
  | (with_reducible refine k_i0 ?_)
  | (with_reducible refine k_addI ?_)
  | (with_reducible refine k_B ?_)
  | (with_reducible refine k_bk ?_)
  | (with_reducible refine k_if ?_)
  | (with_reducible refine k_ret ?_)
  | (with_reducible refine k_expr ?_)
  | (with_reducible refine k_next ?_)
  | (with_reducible refine k_not ?_)
  | (with_reducible refine k_and ?_)
  | (with_reducible refine k_or ?_)
  | (with_reducible refine k_ift ?_)
  | (with_reducible refine k_iff ?_)
  | (with_reducible refine k_ifnt ?_)
  | (with_reducible refine k_ifnf ?_)
  | (with_reducible refine k_fz ?_)
  | (with_reducible refine k_lc ?_)
  | (with_reducible refine k_dc ?_)
  | (with_reducible refine k_for ?_)
  | (with_reducible refine k_rng ?_)
  | (with_reducible refine k_iL ?_)
  | (with_reducible refine k_iLl ?_)
  | (with_reducible refine k_iT ?_)
  | (with_reducible refine k_iTt ?_)
  | (with_reducible refine k_zip ?_)
  | (with_reducible refine k_asgp ?_)
  | (with_reducible refine k_atn ?_)
  | (with_reducible refine k_par ?_)
  | (with_reducible refine k_parI ?_)
  | (with_reducible refine k_par3 ?_)
  | (with_reducible refine k_par3I ?_)
  | (with_reducible refine k_sub ?_)
  | (with_reducible refine k_andV ?_)
  | (with_reducible refine k_orV ?_)
  | (with_reducible refine k_notV ?_)
  | (with_reducible refine k_ifE ?_)
  | (with_reducible refine k_chain ?_)
  | (with_reducible refine k_am0 ?_)
  | (with_reducible refine k_am1 ?_)
  | (with_reducible refine k_int ?_)
  | (with_reducible refine k_eqI ?_)
  | (with_reducible refine k_neI ?_)
  | (with_reducible refine k_eqB ?_)
  | (with_reducible refine k_neB ?_)
  | (with_reducible refine k_iaddI ?_)
  | (with_reducible refine k_lenT ?_)
  | (with_reducible refine k_lenL ?_)
  | (with_reducible refine k_tru ?_)
  | (with_reducible refine k_cont ?_)
  | (with_reducible refine k_brk ?_)
  | (with_reducible refine k_retN ?_)
  | (with_reducible refine k_callK ?_)
  | (with_reducible refine k_callS1 ?_)
  | (with_reducible refine k_star ?_)
  | (with_reducible refine k_itL ?_)
  | (with_reducible refine k_itT ?_)
  | (with_reducible refine k_isi ?_)
  | (with_reducible refine k_isiT ?_)
  | (with_reducible refine k_bm ?_)
  | (with_reducible refine k_tup ?_)
  | (with_reducible refine k_lstF ?_)
  | (with_reducible refine k_lstM ?_)
  | (with_reducible refine k_aug (by with_unfolding_all rfl) ?_)
  | (with_reducible refine k_iSv (by with_unfolding_all rfl) ?_)
  | (with_reducible refine k_ixt (by with_unfolding_all rfl) ?_)
  | (with_reducible refine k_at (by with_unfolding_all rfl) ?_)
  | (with_reducible refine k_fzn ‹_› ?_)
  | (refine And.intro (by exact sz (by simp)) ?_)))
section
variable {N M W : Nat} {rows : List Wsh} {S : Rat}
end
end C02
namespace C02
open PySem PySem.Spec PyProof.Rows L2 L3 L4 LF LV PL PS C05
open Rat (divInt)
open C13 (BagP)
local macro_rules | `(tactic| walk_at "st") => `(tactic| repeat (first
  | (with_reducible refine k_var (by with_unfolding_all rfl) ?_)
  | (with_reducible refine k_seq ?_)
  | (with_reducible refine k_cons ?_)
  | (with_reducible refine k_nil ?_)
  | (with_reducible refine k_c ?_)
  | (with_reducible refine k_op ?_)
  | (with_reducible refine k_asg ?_)
  | (with_reducible refine k_call ?_)
  | (with_reducible refine k_cb ?_)
  | (with_reducible refine k_i0 ?_)
  | (with_reducible refine k_addI ?_)
  | (with_reducible refine k_B ?_)
  | (with_reducible refine k_bk ?_)
  | (with_reducible refine k_if ?_)
  | (with_reducible refine k_ret ?_)
  | (with_reducible refine k_expr ?_)
  | (with_reducible refine k_next ?_)
  | (with_reducible refine k_not ?_)
  | (with_reducible refine k_and ?_)
  | (with_reducible refine k_or ?_)
  | (with_reducible refine k_ift ?_)
  | (with_reducible refine k_iff ?_)
  | (with_reducible refine k_ifnt ?_)
  | (with_reducible refine k_ifnf ?_)
  | (with_reducible refine k_fz ?_)
  | (with_reducible refine k_lc ?_)
  | (with_reducible refine k_dc ?_)
  | (with_reducible refine k_for ?_)
  | (with_reducible refine k_rng ?_)
  | (with_reducible refine k_iL ?_)
  | (with_reducible refine k_iLl ?_)
  | (with_reducible refine k_iT ?_)
  | (with_reducible refine k_iTt ?_)
  | (with_reducible refine k_zip ?_)
  | (with_reducible refine k_asgp ?_)
  | (with_reducible refine k_atn ?_)
  | (with_reducible refine k_par ?_)
  | (with_reducible refine k_parI ?_)
  | (with_reducible refine k_par3 ?_)
  | (with_reducible refine k_par3I ?_)
  | (with_reducible refine k_sub ?_)
  | (with_reducible refine k_andV ?_)
  | (with_reducible refine k_orV ?_)
  | (with_reducible refine k_notV ?_)
  | (with_reducible refine k_ifE ?_)
  | (with_reducible refine k_chain ?_)
  | (with_reducible refine k_am0 ?_)
  | (with_reducible refine k_am1 ?_)
  | (with_reducible refine k_int ?_)
  | (with_reducible refine k_eqI ?_)
  | (with_reducible refine k_neI ?_)
  | (with_reducible refine k_eqB ?_)
  | (with_reducible refine k_neB ?_)
  | (with_reducible refine k_iaddI ?_)
  | (with_reducible refine k_lenT ?_)
  | (with_reducible refine k_lenL ?_)
  | (with_reducible refine k_tru ?_)
  | (with_reducible refine k_cont ?_)
  | (with_reducible refine k_brk ?_)
  | (with_reducible refine k_retN ?_)
  | (with_reducible refine k_callK ?_)
  | (with_reducible refine k_callS1 ?_)
  | (with_reducible refine k_star ?_)
  | (with_reducible refine k_itL ?_)
  | (with_reducible refine k_itT ?_)
  | (with_reducible refine k_isi ?_)
  | (with_reducible refine k_isiT ?_)
  | (with_reducible refine k_bm ?_)
  | (with_reducible refine k_tup ?_)
  | (with_reducible refine k_lstF ?_)
  | (with_reducible refine k_lstM ?_)
  | (with_reducible refine k_aug (by with_unfolding_all rfl) ?_)
  | (with_reducible refine k_iSv (by with_unfolding_all rfl) ?_)
  | (with_reducible refine k_ixt (by with_unfolding_all rfl) ?_)
  | (with_reducible refine k_at (by with_unfolding_all rfl) ?_)
  | (with_reducible refine k_fzn ‹_› ?_)
  | (refine And.intro (by exact sz (by simp)) ?_)))
end C02
namespace C02
open PySem PySem.Spec PyProof.Rows L2 L3 L4 LF LV PL PS C05
open Rat (divInt)
open C13 (BagP)
local macro_rules | `(tactic| walk_at "st") => `(tactic| repeat (first
  | (with_reducible refine k_var (by with_unfolding_all rfl) ?_)
  | (with_reducible refine k_seq ?_)
  | (with_reducible refine k_cons ?_)
  | (with_reducible refine k_nil ?_)
  | (with_reducible refine k_c ?_)
  | (with_reducible refine k_op ?_)
  | (with_reducible refine k_asg ?_)
  | (with_reducible refine k_call ?_)
  | (with_reducible refine k_cb ?_)
  | (with_reducible refine k_i0 ?_)
  | (with_reducible refine k_addI ?_)
  | (with_reducible refine k_B ?_)
  | (with_reducible refine k_bk ?_)
  | (with_reducible refine k_if ?_)
  | (with_reducible refine k_ret ?_)
  | (with_reducible refine k_expr ?_)
  | (with_reducible refine k_next ?_)
  | (with_reducible refine k_not ?_)
  | (with_reducible refine k_and ?_)
  | (with_reducible refine k_or ?_)
  | (with_reducible refine k_ift ?_)
  | (with_reducible refine k_iff ?_)
  | (with_reducible refine k_ifnt ?_)
  | (with_reducible refine k_ifnf ?_)
  | (with_reducible refine k_fz ?_)
  | (with_reducible refine k_lc ?_)
  | (with_reducible refine k_dc ?_)
  | (with_reducible refine k_for ?_)
  | (with_reducible refine k_rng ?_)
  | (with_reducible refine k_iL ?_)
  | (with_reducible refine k_iLl ?_)
  | (with_reducible refine k_iT ?_)
  | (with_reducible refine k_iTt ?_)
  | (with_reducible refine k_zip ?_)
  | (with_reducible refine k_asgp ?_)
  | (with_reducible refine k_atn ?_)
  | (with_reducible refine k_par ?_)
  | (with_reducible refine k_parI ?_)
  | (with_reducible refine k_par3 ?_)
  | (with_reducible refine k_par3I ?_)
  | (with_reducible refine k_sub ?_)
  | (with_reducible refine k_andV ?_)
  | (with_reducible refine k_orV ?_)
  | (with_reducible refine k_notV ?_)
  | (with_reducible refine k_ifE ?_)
  | (with_reducible refine k_chain ?_)
  | (with_reducible refine k_am0 ?_)
  | (with_reducible refine k_am1 ?_)
  | (with_reducible refine k_int ?_)
  | (with_reducible refine k_eqI ?_)
  | (with_reducible refine k_neI ?_)
  | (with_reducible refine k_eqB ?_)
  | (with_reducible refine k_neB ?_)
  | (with_reducible refine k_iaddI ?_)
  | (with_reducible refine k_lenT ?_)
  | (with_reducible refine k_lenL ?_)
  | (with_reducible refine k_tru ?_)
  | (with_reducible refine k_cont ?_)
  | (with_reducible refine k_brk ?_)
  | (with_reducible refine k_retN ?_)
  | (with_reducible refine k_callK ?_)
  | (with_reducible refine k_callS1 ?_)
  | (with_reducible refine k_star ?_)
  | (with_reducible refine k_itL ?_)
  | (with_reducible refine k_itT ?_)
  | (with_reducible refine k_isi ?_)
  | (with_reducible refine k_isiT ?_)
  | (with_reducible refine k_bm ?_)
  | (with_reducible refine k_tup ?_)
  | (with_reducible refine k_lstF ?_)
  | (with_reducible refine k_lstM ?_)
  | (with_reducible refine k_aug (by with_unfolding_all rfl) ?_)
  | (with_reducible refine k_iSv (by with_unfolding_all rfl) ?_)
  | (with_reducible refine k_ixt (by with_unfolding_all rfl) ?_)
  | (with_reducible refine k_at (by with_unfolding_all rfl) ?_)
  | (with_reducible refine k_fzn ‹_› ?_)
  | (refine And.intro (by exact sz (by simp)) ?_)))
section
variable {g : Nat} {rows : List Wsh} (g1 : 1 ≤ g) (g2 : g ≤ 10 ^ 18) (h : ∀ r ∈ rows, DR g r)
include g1 g2 h
end
end C02
/-! C05b: great numbers, any amounts (k00, k01, k03, k71) -/
namespace C05
open PySem PySem.Spec PyProof.Rows L2 L3 L4
open Rat (divInt)
open C13 (BagP)
local macro_rules | `(tactic| walk_at "st") => `(tactic| repeat (first
  | (with_reducible refine k_var (by with_unfolding_all rfl) ?_)
  | (with_reducible refine k_seq ?_)
  | (with_reducible refine k_cons ?_)
  | (with_reducible refine k_nil ?_)
  | (with_reducible refine k_c ?_)
  | (with_reducible refine k_op ?_)
  | (with_reducible refine k_asg ?_)
  | (with_reducible refine k_call ?_)
  | (with_reducible refine k_cb ?_)
  | (with_reducible refine k_i0 ?_)
  | (with_reducible refine k_addI ?_)
  | (with_reducible refine k_B ?_)
  | (with_reducible refine k_bk ?_)
  | (with_reducible refine k_if ?_)
  | (with_reducible refine k_ret ?_)
  | (with_reducible refine k_expr ?_)
  | (with_reducible refine k_next ?_)
  | (with_reducible refine k_not ?_)
  | (with_reducible refine k_and ?_)
  | (with_reducible refine k_or ?_)
  | (with_reducible refine k_ift ?_)
  | (with_reducible refine k_iff ?_)
  | (with_reducible refine k_ifnt ?_)
  | (with_reducible refine k_ifnf ?_)
  | (with_reducible refine k_fz ?_)
  | (with_reducible refine k_lc ?_)
  | (with_reducible refine k_dc ?_)
  | (with_reducible refine k_for ?_)
  | (with_reducible refine k_rng ?_)
  | (with_reducible refine k_iL ?_)
  | (with_reducible refine k_iLl ?_)
  | (with_reducible refine k_iT ?_)
  | (with_reducible refine k_iTt ?_)
  | (with_reducible refine k_zip ?_)
  | (with_reducible refine k_asgp ?_)
  | (with_reducible refine k_atn ?_)
  | (with_reducible refine k_par ?_)
  | (with_reducible refine k_parI ?_)
  | (with_reducible refine k_par3 ?_)
  | (with_reducible refine k_par3I ?_)
  | (with_reducible refine k_sub ?_)
  | (with_reducible refine k_andV ?_)
  | (with_reducible refine k_orV ?_)
  | (with_reducible refine k_notV ?_)
  | (with_reducible refine k_ifE ?_)
  | (with_reducible refine k_chain ?_)
  | (with_reducible refine k_am0 ?_)
  | (with_reducible refine k_am1 ?_)
  | (with_reducible refine k_int ?_)
  | (with_reducible refine k_eqI ?_)
  | (with_reducible refine k_neI ?_)
  | (with_reducible refine k_eqB ?_)
  | (with_reducible refine k_neB ?_)
  | (with_reducible refine k_iaddI ?_)
  | (with_reducible refine k_lenT ?_)
  | (with_reducible refine k_lenL ?_)
  | (with_reducible refine k_tru ?_)
  | (with_reducible refine k_cont ?_)
  | (with_reducible refine k_brk ?_)
  | (with_reducible refine k_retN ?_)
  | (with_reducible refine k_callK ?_)
  | (with_reducible refine k_callS1 ?_)
  | (with_reducible refine k_star ?_)
  | (with_reducible refine k_itL ?_)
  | (with_reducible refine k_itT ?_)
  | (with_reducible refine k_isi ?_)
  | (with_reducible refine k_isiT ?_)
  | (with_reducible refine k_bm ?_)
  | (with_reducible refine k_tup ?_)
  | (with_reducible refine k_lstF ?_)
  | (with_reducible refine k_lstM ?_)
  | (with_reducible refine k_aug (by with_unfolding_all rfl) ?_)
  | (with_reducible refine k_iSv (by with_unfolding_all rfl) ?_)
  | (with_reducible refine k_ixt (by with_unfolding_all rfl) ?_)
  | (with_reducible refine k_at (by with_unfolding_all rfl) ?_)
  | (with_reducible refine k_fzn ‹_› ?_)
  | (refine And.intro (by exact sz (by simp)) ?_)))
def sp_law_great : LSp := fun ds m Φ => ∃ b : Addr, ds = [.ref b] ∧ m b = some (.any BagP) ∧ ∀ n : Int, 0 ≤ n → n < 10 ^ 34 → Φ (.int n) m
/-- sizes of a drawn amount -/
structure Sz (q : Rat) : Prop where
  nn : 0 ≤ q
  n : q.num.natAbs.log2 < 120
  d : q.den.log2 < 120
def sp_law_amount : LSp := fun ds m Φ => ∃ b : Addr, ds = [.ref b] ∧ m b = some (.any BagP) ∧ ∀ q, Sz q → Φ (am q) m
/-- _law_great: 0 _law_bag_here, 1 _law_a, 2 _law_b, 3 _law_c -/
def qb_law_great : QS :=
  (sSeq (sAsg (.nm 1) (qCall sp_law_wide (qCons (qVar 0) (qCons (qC (.int 10)) qNil))))
    (sSeq (sAsg (.nm 2) (qCall sp_law_wide (qCons (qVar 0) (qCons (qC (.int 10)) qNil))))
    (sSeq (sAsg (.nm 3) (qCall sp_law_wide (qCons (qVar 0) (qCons (qC (.int 10)) qNil))))
    (sRet (qCall sp_law_of (qCons (qVar 0) (qCons (qLstF (qCons (qVar 1) (qCons (qOp qAdd (qOp (qIC CM fun i j => .int (i * j)) (qVar 1) (qOp qPow (qC (.int 10)) (qC (.int 10)))) (qVar 2)) (qCons (qOp qAdd (qOp (qIC CM fun i j => .int (i * j)) (qOp qAdd (qOp (qIC CM fun i j => .int (i * j)) (qVar 1) (qOp qPow (qC (.int 10)) (qC (.int 10)))) (qVar 2)) (qOp qPow (qC (.int 10)) (qC (.int 10)))) (qVar 3)) (qCons (qOp qAdd (qOp (qIC CM fun i j => .int (i * j)) (qOp qAdd (qOp (qIC CM fun i j => .int (i * j)) (qOp qAdd (qOp (qIC CM fun i j => .int (i * j)) (qVar 1) (qOp qPow (qC (.int 10)) (qC (.int 10)))) (qVar 2)) (qOp qPow (qC (.int 10)) (qC (.int 10)))) (qVar 3)) (qOp qPow (qC (.int 10)) (qC (.int 4)))) (qCall sp_law_draw (qCons (qVar 0) (qCons (qOp qPow (qC (.int 10)) (qC (.int 4))) qNil)))) qNil))))) qNil)))))))
/-- _law_amount: 0 _law_bag_here, 1 _law_shape -/
def qb_law_amount : QS :=
  (sSeq (sAsg (.nm 1) (qCall sp_law_draw (qCons (qVar 0) (qCons (qC (.int 8)) qNil))))
    (sSeq (sIf (qB (qOp vEq (qVar 1) (qC (.int 0)))) (sRet (qCall sp_law_of (qCons (qVar 0) (qCons (qLstF (qCons (qTup (qCons (qC (.int 0)) (qCons (qC (.int 1)) qNil))) (qCons (qTup (qCons (qC (.int 1)) (qCons (qC (.int 1)) qNil))) (qCons (qTup (qCons (qC (.int 1000)) (qCons (qC (.int 1)) qNil))) (qCons (qTup (qCons (qC (.int 1)) (qCons (qC (.int 12)) qNil))) (qCons (qTup (qCons (qC (.int 999)) (qCons (qC (.int 1)) qNil))) (qCons (qTup (qCons (qC (.int 1001)) (qCons (qC (.int 1)) qNil))) (qCons (qTup (qCons (qC (.int 12001)) (qCons (qC (.int 12)) qNil))) (qCons (qTup (qCons (qC (.int 1)) (qCons (qC (.int 13)) qNil))) (qCons (qTup (qCons (qC (.int 2)) (qCons (qC (.int 1)) qNil))) qNil)))))))))) qNil)))) sNext)
    (sSeq (sIf (qB (qOp (qI0 fun i j => .bl (decide (i < j))) (qVar 1) (qC (.int 5)))) (sRet (qCall sp_law_pair (qCons (qCall sp_law_draw (qCons (qVar 0) (qCons (qC (.int 40)) qNil))) (qCons (qOp qAdd (qC (.int 1)) (qCall sp_law_draw (qCons (qVar 0) (qCons (qC (.int 12)) qNil)))) qNil)))) sNext)
    (sSeq (sIf (qB (qOp vEq (qVar 1) (qC (.int 5)))) (sRet (qCall sp_law_pair (qCons (qCall sp_law_wide (qCons (qVar 0) (qCons (qC (.int 9)) qNil))) (qCons (qOp qAdd (qC (.int 1)) (qCall sp_law_draw (qCons (qVar 0) (qCons (qOp (qI0 fun i j => .int (i - j)) (qOp qPow (qC (.int 10)) (qC (.int 9))) (qC (.int 1))) qNil)))) qNil)))) sNext)
    (sSeq (sIf (qB (qOp vEq (qVar 1) (qC (.int 6)))) (sRet (qCall sp_law_pair (qCons (qCall sp_law_great (qCons (qVar 0) qNil)) (qCons (qOp qAdd (qC (.int 1)) (qCall sp_law_draw (qCons (qVar 0) (qCons (qC (.int 12)) qNil)))) qNil)))) sNext)
    (sRet (qCall sp_law_pair (qCons (qCall sp_law_great (qCons (qVar 0) qNil)) (qCons (qCB bMax2 (qCons (qC (.int 1)) (qCons (qCall sp_law_great (qCons (qVar 0) qNil)) qNil))) qNil)))))))))
end C05
/-! LV3: totals do not jump; at a level the capacity is not passed -/
namespace LV
open PySem PySem.Spec PyProof.Rows L2 L3 L4 LF PS
open Rat (divInt)
def heavy (rows : List Wsh) : Rat := total (rows.map fun r => (r.2.1 : Rat))
/-- what is owed at nought -/
def owed (rows : List Wsh) : Rat := total ((rows.filter hasM).map ls)
end LV
/-! VA: values of any kind; sizes of amounts -/
namespace VA
open PySem PySem.Spec PyProof.Rows L2 L3 L4 LF LV PL PS C02
open Rat (divInt)
open C13 (BagP)
/-- sizes of an amount -/
structure Az (n : Nat) (q : Rat) : Prop where
  nn : 0 ≤ q
  t : q.num.natAbs.log2 < n
  d : q.den.log2 < n
/-- plain values of any kind, of bounded depth -/
def Pn : Nat → D → Prop
  | _, .non => True
  | _, .bl _ => True
  | _, .int i => i.natAbs.log2 < 400
  | _, .str z => PyData.strOk z = true
  | n + 1, .tup ds => ds.length < 1000 ∧ ∀ d ∈ ds, Pn n d
  | n + 1, .lst ds => ds.length < 1000 ∧ ∀ d ∈ ds, Pn n d
  | _, _ => False
def isNum : D → Bool
  | .int _ => true
  | _ => false
def isTup : D → Bool
  | .tup _ => true
  | _ => false
/-- an amount in lowest terms -/
noncomputable def isAm (d : D) : Bool := @decide (∃ q : Rat, 0 ≤ q ∧ d = am q) (Classical.propDecidable _)
noncomputable def isMn (d : D) : Bool := @decide (d = .tup [] ∨ ∃ p q : Rat, 0 ≤ p ∧ p ≤ q ∧ d = .tup [am p, am q]) (Classical.propDecidable _)
/-- isinstance of a plain value -/
def tyOf : D → String
  | .non => "NoneType" | .bl _ => "bool" | .int _ => "int" | .str _ => "str" | .tup _ => "tuple" | .lst _ => "list" | .ref _ => "list"
def isInt : D → Bool
  | .int _ => true | .bl _ => true | _ => false
def isBool : D → Bool
  | .bl _ => true | _ => false
def pnB : Nat → D → Bool
  | _, .non => true
  | _, .bl _ => true
  | _, .int i => decide (i.natAbs ≤ 100000)
  | _, .str z => PyData.strOk z
  | n + 1, .tup ds => decide (ds.length < 1000) && ds.all (pnB n)
  | n + 1, .lst ds => decide (ds.length < 1000) && ds.all (pnB n)
  | _, _ => false
end VA
/-! VL: the laws' own comparison of values, texts among them -/
namespace VL
open PySem PySem.Spec PyProof.Rows L2 L3 L4
local macro_rules | `(tactic| walk_at "st") => `(tactic| repeat (first
  | (with_reducible refine k_var (by with_unfolding_all rfl) ?_)
  | (with_reducible refine k_seq ?_)
  | (with_reducible refine k_cons ?_)
  | (with_reducible refine k_nil ?_)
  | (with_reducible refine k_c ?_)
  | (with_reducible refine k_op ?_)
  | (with_reducible refine k_asg ?_)
  | (with_reducible refine k_call ?_)
  | (with_reducible refine k_cb ?_)
  | (with_reducible refine k_i0 ?_)
  | (with_reducible refine k_addI ?_)
  | (with_reducible refine k_B ?_)
  | (with_reducible refine k_bk ?_)
  | (with_reducible refine k_if ?_)
  | (with_reducible refine k_ret ?_)
  | (with_reducible refine k_expr ?_)
  | (with_reducible refine k_next ?_)
  | (with_reducible refine k_not ?_)
  | (with_reducible refine k_and ?_)
  | (with_reducible refine k_or ?_)
  | (with_reducible refine k_ift ?_)
  | (with_reducible refine k_iff ?_)
  | (with_reducible refine k_ifnt ?_)
  | (with_reducible refine k_ifnf ?_)
  | (with_reducible refine k_fz ?_)
  | (with_reducible refine k_lc ?_)
  | (with_reducible refine k_dc ?_)
  | (with_reducible refine k_for ?_)
  | (with_reducible refine k_rng ?_)
  | (with_reducible refine k_iL ?_)
  | (with_reducible refine k_iLl ?_)
  | (with_reducible refine k_iT ?_)
  | (with_reducible refine k_iTt ?_)
  | (with_reducible refine k_zip ?_)
  | (with_reducible refine k_asgp ?_)
  | (with_reducible refine k_atn ?_)
  | (with_reducible refine k_par ?_)
  | (with_reducible refine k_parI ?_)
  | (with_reducible refine k_par3 ?_)
  | (with_reducible refine k_par3I ?_)
  | (with_reducible refine k_sub ?_)
  | (with_reducible refine k_andV ?_)
  | (with_reducible refine k_orV ?_)
  | (with_reducible refine k_notV ?_)
  | (with_reducible refine k_ifE ?_)
  | (with_reducible refine k_chain ?_)
  | (with_reducible refine k_am0 ?_)
  | (with_reducible refine k_am1 ?_)
  | (with_reducible refine k_int ?_)
  | (with_reducible refine k_eqI ?_)
  | (with_reducible refine k_neI ?_)
  | (with_reducible refine k_eqB ?_)
  | (with_reducible refine k_neB ?_)
  | (with_reducible refine k_iaddI ?_)
  | (with_reducible refine k_lenT ?_)
  | (with_reducible refine k_lenL ?_)
  | (with_reducible refine k_tru ?_)
  | (with_reducible refine k_cont ?_)
  | (with_reducible refine k_brk ?_)
  | (with_reducible refine k_retN ?_)
  | (with_reducible refine k_callK ?_)
  | (with_reducible refine k_callS1 ?_)
  | (with_reducible refine k_star ?_)
  | (with_reducible refine k_itL ?_)
  | (with_reducible refine k_itT ?_)
  | (with_reducible refine k_isi ?_)
  | (with_reducible refine k_isiT ?_)
  | (with_reducible refine k_bm ?_)
  | (with_reducible refine k_tup ?_)
  | (with_reducible refine k_lstF ?_)
  | (with_reducible refine k_lstM ?_)
  | (with_reducible refine k_aug (by with_unfolding_all rfl) ?_)
  | (with_reducible refine k_iSv (by with_unfolding_all rfl) ?_)
  | (with_reducible refine k_ixt (by with_unfolding_all rfl) ?_)
  | (with_reducible refine k_at (by with_unfolding_all rfl) ?_)
  | (with_reducible refine k_fzn ‹_› ?_)
  | (refine And.intro (by exact sz (by simp <;> omega)) ?_)
  | fail))
/-- plain values, texts among them, of bounded depth -/
def flatS : Nat → D → Prop
  | _, .non => True
  | _, .bl _ => True
  | _, .int _ => True
  | _, .str z => PyData.strOk z = true
  | n + 1, .tup ds => ds.length < 1000000 ∧ ∀ d ∈ ds, flatS n d
  | n + 1, .lst ds => ds.length < 1000000 ∧ ∀ d ∈ ds, flatS n d
  | _, _ => False
theorem flatS_am {n : Nat} (q : Rat) : flatS (n + 1) (am q) := ⟨by show 2 < 1000000; decide, fun d hd => by
  simp only [List.mem_cons, List.not_mem_nil, or_false] at hd
  rcases hd with rfl | rfl <;> (cases n <;> trivial)⟩
theorem flatS_bl {n : Nat} (b : Bool) : flatS n (.bl b) := by cases n <;> trivial
theorem flatS_int {n : Nat} (i : Int) : flatS n (.int i) := by cases n <;> trivial
theorem flatS_non {n : Nat} : flatS n .non := by cases n <;> trivial
theorem flatS_str {n : Nat} {z : Str} (h : PyData.strOk z = true) : flatS n (.str z) := by cases n <;> exact h
def sp_law_like : Nat → LSp
  | 0 => fun _ _ _ => False
  | n + 1 => fun ds m Φ => ∃ x y, ds = [x, y] ∧ ((x = y ∧ flatS n x) ∨ ∃ k xs, n = k + 1 ∧ LItems x m xs ∧ LItems y m xs ∧ xs.length < 1000000 ∧ ∀ d ∈ xs, flatS k d) ∧ Φ (.bl true) m
/-- _law_like: 0 _law_told, 1 _law_due, 2 _law_a, 3 _law_b -/
def qb_law_like (n : Nat) : QS :=
  (sSeq (sIf (qB (qIsiT ["list", "tuple"] (qVar 1))) (sSeq (sIf (qOr (qB (qOp vNe (qIsi "list" (qVar 0)) (qIsi "list" (qVar 1)))) (qB (qOp vNe (qIsi "tuple" (qVar 0)) (qIsi "tuple" (qVar 1))))) (sRet (qC (.bl false))) sNext)
    (sRet (qAndV (qOp vEq (qCB bLen (qCons (qVar 0) qNil)) (qCB bLen (qCons (qVar 1) qNil))) (qCB bAll (qCons (qFreeze (qLc (iZipD (qCons (qVar 0) (qCons (qVar 1) qNil))) (.tp [(.nm 2), (.nm 3)]) qYes (qCall (sp_law_like n) (qCons (qVar 2) (qCons (qVar 3) qNil))) [2, 3])) qNil))))) sNext)
    (sSeq (sIf (qOr (qB (qOp qIsN (qVar 1) (qC .non))) (qB (qOp qIsN (qVar 0) (qC .non)))) (sRet (qAndV (qOp qIsN (qVar 1) (qC .non)) (qOp qIsN (qVar 0) (qC .non)))) sNext)
    (sSeq (sIf (qOr (qB (qIsiT ["list", "tuple"] (qVar 0))) (qB (qOp vNe (qIsi "bool" (qVar 0)) (qIsi "bool" (qVar 1))))) (sRet (qC (.bl false))) sNext)
    (sSeq (sIf (qOr (qB (qOp vNe (qIsi "str" (qVar 0)) (qIsi "str" (qVar 1)))) (qB (qOp vNe (qIsi "int" (qVar 0)) (qIsi "int" (qVar 1))))) (sRet (qC (.bl false))) sNext)
    (sRet (qOp vEq (qVar 0) (qVar 1)))))))
end VL
/-! SM: the comparison of values of the laws with the bag 13965/69621: texts and lists among them; also where an exception is handled -/
namespace SM
open PySem PySem.Spec PyProof.Rows L2 L3 L4 VL
local macro_rules | `(tactic| walk_at "st") => `(tactic| repeat (first
  | (with_reducible refine k_var (by with_unfolding_all rfl) ?_)
  | (with_reducible refine k_seq ?_)
  | (with_reducible refine k_cons ?_)
  | (with_reducible refine k_nil ?_)
  | (with_reducible refine k_c ?_)
  | (with_reducible refine k_op ?_)
  | (with_reducible refine k_asg ?_)
  | (with_reducible refine k_call ?_)
  | (with_reducible refine k_cb ?_)
  | (with_reducible refine k_i0 ?_)
  | (with_reducible refine k_addI ?_)
  | (with_reducible refine k_B ?_)
  | (with_reducible refine k_bk ?_)
  | (with_reducible refine k_if ?_)
  | (with_reducible refine k_ret ?_)
  | (with_reducible refine k_expr ?_)
  | (with_reducible refine k_next ?_)
  | (with_reducible refine k_not ?_)
  | (with_reducible refine k_and ?_)
  | (with_reducible refine k_or ?_)
  | (with_reducible refine k_ift ?_)
  | (with_reducible refine k_iff ?_)
  | (with_reducible refine k_ifnt ?_)
  | (with_reducible refine k_ifnf ?_)
  | (with_reducible refine k_fz ?_)
  | (with_reducible refine k_lc ?_)
  | (with_reducible refine k_dc ?_)
  | (with_reducible refine k_for ?_)
  | (with_reducible refine k_rng ?_)
  | (with_reducible refine k_iL ?_)
  | (with_reducible refine k_iLl ?_)
  | (with_reducible refine k_iT ?_)
  | (with_reducible refine k_iTt ?_)
  | (with_reducible refine k_zip ?_)
  | (with_reducible refine k_asgp ?_)
  | (with_reducible refine k_atn ?_)
  | (with_reducible refine k_par ?_)
  | (with_reducible refine k_parI ?_)
  | (with_reducible refine k_par3 ?_)
  | (with_reducible refine k_par3I ?_)
  | (with_reducible refine k_sub ?_)
  | (with_reducible refine k_andV ?_)
  | (with_reducible refine k_orV ?_)
  | (with_reducible refine k_notV ?_)
  | (with_reducible refine k_ifE ?_)
  | (with_reducible refine k_chain ?_)
  | (with_reducible refine k_am0 ?_)
  | (with_reducible refine k_am1 ?_)
  | (with_reducible refine k_int ?_)
  | (with_reducible refine k_eqI ?_)
  | (with_reducible refine k_neI ?_)
  | (with_reducible refine k_eqB ?_)
  | (with_reducible refine k_neB ?_)
  | (with_reducible refine k_iaddI ?_)
  | (with_reducible refine k_lenT ?_)
  | (with_reducible refine k_lenL ?_)
  | (with_reducible refine k_tru ?_)
  | (with_reducible refine k_cont ?_)
  | (with_reducible refine k_brk ?_)
  | (with_reducible refine k_retN ?_)
  | (with_reducible refine k_callK ?_)
  | (with_reducible refine k_callS1 ?_)
  | (with_reducible refine k_star ?_)
  | (with_reducible refine k_itL ?_)
  | (with_reducible refine k_itT ?_)
  | (with_reducible refine k_isi ?_)
  | (with_reducible refine k_isiT ?_)
  | (with_reducible refine k_bm ?_)
  | (with_reducible refine k_tup ?_)
  | (with_reducible refine k_lstF ?_)
  | (with_reducible refine k_lstM ?_)
  | (with_reducible refine k_aug (by with_unfolding_all rfl) ?_)
  | (with_reducible refine k_iSv (by with_unfolding_all rfl) ?_)
  | (with_reducible refine k_ixt (by with_unfolding_all rfl) ?_)
  | (with_reducible refine k_at (by with_unfolding_all rfl) ?_)
  | (with_reducible refine k_fzn ‹_› ?_)
  | (refine And.intro (by exact sz (by simp <;> omega)) ?_)
  | fail))
def sp_law_same : Nat → LSp
  | 0 => fun _ _ _ => False
  | n + 1 => fun ds m Φ => ∃ x y, ds = [x, y] ∧ ((x = y ∧ flatS n x) ∨ ∃ k xs, n = k + 1 ∧ LItems x m xs ∧ LItems y m xs ∧ xs.length < 1000000 ∧ ∀ d ∈ xs, flatS k d) ∧ Φ (.bl true) m
def sph_law_same : Nat → LSp
  | 0 => fun _ _ _ => False
  | n + 1 => fun ds m Φ => ∃ x, ds = [x, x] ∧ flatS n x ∧ Φ (.bl true) m
def qb_law_same (n : Nat) : QS :=
  (sSeq (sIf (qB (qIsiT ["tuple", "list"] (qVar 1))) (sSeq (sIf (qOr (qB (qOp vNe (qIsi "tuple" (qVar 0)) (qIsi "tuple" (qVar 1)))) (qB (qOp vNe (qIsi "list" (qVar 0)) (qIsi "list" (qVar 1))))) (sRet (qC (.bl false))) sNext)
    (sRet (qAndV (qOp vEq (qCB bLen (qCons (qVar 0) qNil)) (qCB bLen (qCons (qVar 1) qNil))) (qCB bAll (qCons (qFreeze (qLc (iZipD (qCons (qVar 0) (qCons (qVar 1) qNil))) (.tp [(.nm 2), (.nm 3)]) qYes (qCall (sp_law_same n) (qCons (qVar 2) (qCons (qVar 3) qNil))) [2, 3])) qNil))))) sNext)
    (sSeq (sIf (qOr (qB (qOp qIsN (qVar 1) (qC .non))) (qB (qOp qIsN (qVar 0) (qC .non)))) (sRet (qAndV (qOp qIsN (qVar 1) (qC .non)) (qOp qIsN (qVar 0) (qC .non)))) sNext)
    (sSeq (sIf (qOr (qB (qOp vNe (qIsi "bool" (qVar 0)) (qIsi "bool" (qVar 1)))) (qB (qOp vNe (qIsi "int" (qVar 0)) (qIsi "int" (qVar 1))))) (sRet (qC (.bl false))) sNext)
    (sRet (qAndV (qOp vEq (qIsi "str" (qVar 0)) (qIsi "str" (qVar 1))) (qOp vEq (qVar 0) (qVar 1)))))))
def qbh_law_same (n : Nat) : QS :=
  (sSeq (sIf (qB (qIsiT ["tuple", "list"] (qVar 1))) (sSeq (sIf (qOr (qB (qOp vNe (qIsi "tuple" (qVar 0)) (qIsi "tuple" (qVar 1)))) (qB (qOp vNe (qIsi "list" (qVar 0)) (qIsi "list" (qVar 1))))) (sRet (qC (.bl false))) sNext)
    (sRet (qAndV (qOp vEq (qCB bLen (qCons (qVar 0) qNil)) (qCB bLen (qCons (qVar 1) qNil))) (qCB bAll (qCons (qFreeze (qLc (iZipHD (qCons (qVar 0) (qCons (qVar 1) qNil))) (.tp [(.nm 2), (.nm 3)]) qYes (qCall (sph_law_same n) (qCons (qVar 2) (qCons (qVar 3) qNil))) [2, 3])) qNil))))) sNext)
    (sSeq (sIf (qOr (qB (qOp qIsN (qVar 1) (qC .non))) (qB (qOp qIsN (qVar 0) (qC .non)))) (sRet (qAndV (qOp qIsN (qVar 1) (qC .non)) (qOp qIsN (qVar 0) (qC .non)))) sNext)
    (sSeq (sIf (qOr (qB (qOp vNe (qIsi "bool" (qVar 0)) (qIsi "bool" (qVar 1)))) (qB (qOp vNe (qIsi "int" (qVar 0)) (qIsi "int" (qVar 1))))) (sRet (qC (.bl false))) sNext)
    (sRet (qAndV (qOp vEq (qIsi "str" (qVar 0)) (qIsi "str" (qVar 1))) (qOp vEq (qVar 0) (qVar 1)))))))
theorem len_law_same : ∀ n, ∀ ds m Φ, sp_law_same n ds m Φ → ds.length = 2
  | 0 => fun _ _ _ h => h.elim
  | _ + 1 => by rintro _ _ _ ⟨_, _, rfl, _⟩; rfl
theorem lenh_law_same : ∀ n, ∀ ds m Φ, sph_law_same n ds m Φ → ds.length = 2
  | 0 => fun _ _ _ h => h.elim
  | _ + 1 => by rintro _ _ _ ⟨_, rfl, _⟩; rfl
theorem same_zip {n : Nat} {Φ : DK} {m : Mem} {x y : D} {C : Mem → Prop} {ds : List D} (hC : ∀ a o, m a = none → C (mset m a o)) (hl : ds.length < 1000000) (hf : ∀ d ∈ ds, flatS n d) (k : Φ (.bl true) m) :
    LcIn (.tp [.nm 2, .nm 3]) qYes (qCall (sp_law_same (n + 1)) (qCons (qVar 2) (qCons (qVar 3) qNil))) [some x, some y, none, none] (zipD ds ds) C m (fun d m1 => match d with
      | .ref a => ∃ ds, m1 a = some (.lst ds) ∧ qCB bAll (qCons (qC (.lst ds)) qNil) [] (mdel m1 a) (bodyW Φ).rt
      | _ => False) := by
  refine lc_by (fun i acc => acc = List.replicate i (.bl true)) rfl hC ?_ ?_
  · rintro i d acc a ha hd hl' rfl
    obtain ⟨y, hy, rfl⟩ := zip_self ds hd
    have hi : i < ds.length := by
      have := (List.getElem?_eq_some_iff.mp hd).1
      rw [zipD_length] at this; omega
    refine qif_t rfl ⟨y, y, rfl, .inl ⟨rfl, hf y hy⟩, ?_⟩
    exact lc_ok hl' (by show i < 16777216; omega) (by rw [List.replicate_succ'])
  · rintro acc a ha hl' rfl
    refine ⟨_, mset_same, ?_⟩
    rw [mdel_mset ha]
    refine ⟨List.replicate (zipD ds ds).length true, by rw [List.map_replicate], ?_⟩
    rw [all_true]
    exact wk_at k
theorem same_zipH {n : Nat} {Φ : DK} {m : Mem} {x y : D} {C : Mem → Prop} {ds : List D} (hC : ∀ a o, m a = none → C (mset m a o)) (hl : ds.length < 1000000) (hf : ∀ d ∈ ds, flatS n d) (k : Φ (.bl true) m) :
    LcIn (.tp [.nm 2, .nm 3]) qYes (qCall (sph_law_same (n + 1)) (qCons (qVar 2) (qCons (qVar 3) qNil))) [some x, some y, none, none] (zipD ds ds) C m (fun d m1 => match d with
      | .ref a => ∃ ds, m1 a = some (.lst ds) ∧ qCB bAll (qCons (qC (.lst ds)) qNil) [] (mdel m1 a) (bodyW Φ).rt
      | _ => False) := by
  refine lc_by (fun i acc => acc = List.replicate i (.bl true)) rfl hC ?_ ?_
  · rintro i d acc a ha hd hl' rfl
    obtain ⟨y, hy, rfl⟩ := zip_self ds hd
    have hi : i < ds.length := by
      have := (List.getElem?_eq_some_iff.mp hd).1
      rw [zipD_length] at this; omega
    refine qif_t rfl ⟨y, rfl, hf y hy, ?_⟩
    exact lc_ok hl' (by show i < 16777216; omega) (by rw [List.replicate_succ'])
  · rintro acc a ha hl' rfl
    refine ⟨_, mset_same, ?_⟩
    rw [mdel_mset ha]
    refine ⟨List.replicate (zipD ds ds).length true, by rw [List.map_replicate], ?_⟩
    rw [all_true]
    exact wk_at k
theorem same_list {n : Nat} {m : Mem} {Φ : DK} {x y : D} {xs : List D} (lx : LItems x m xs) (ly : LItems y m xs) (hl : xs.length < 1000000) (hf : ∀ d ∈ xs, flatS n d) (k : Φ (.bl true) m) : qb_law_same (n + 1) (bodyW Φ) (begin_ 4 [x, y]) m := by
  refine ⟨"list", true, LItems.ty ly, rfl, qif_t rfl ?_⟩
  refine ⟨"list", false, LItems.ty lx, rfl, "list", false, LItems.ty ly, rfl, qif_f rfl ⟨"list", true, LItems.ty lx, rfl, "list", true, LItems.ty ly, rfl, qif_f rfl ?_⟩⟩
  walk_at "st"
  refine k_len lx.to ?_
  walk_at "st"
  refine k_len ly.to ?_
  walk_at "st"
  refine qif_t (decide_eq_true rfl) ?_
  walk_at "st"
  refine k_zipi lx ly fun C hC => ?_
  walk_at "st"
  exact same_zip (fun a o ha => hC _ (lx.new ha) (ly.new ha)) hl hf k
theorem rd_law_same (n : Nat) : ∀ ds m Φ, sp_law_same (n + 1) ds m Φ → qb_law_same n (bodyW Φ) (begin_ 4 ds) m := by
  rintro _ m Φ ⟨x, y, rfl, h, k⟩
  rcases h with ⟨rfl, hf⟩ | ⟨j, xs, rfl, lx, ly, hl, hf⟩
  · cases x with
    | int i =>
      refine ⟨"int", false, rfl, rfl, qif_f rfl ?_⟩
      refine qif_f rfl (qif_f rfl ?_)
      refine ⟨"int", false, rfl, rfl, "int", false, rfl, rfl, qif_f rfl ⟨"int", true, rfl, rfl, "int", true, rfl, rfl, qif_f rfl ?_⟩⟩
      refine ⟨"int", false, rfl, rfl, "int", false, rfl, rfl, qif_t rfl ?_⟩
      show ∃ m', MLe m m' ∧ Φ (.bl (decide (i = i))) m'
      rw [decide_eq_true rfl]
      exact wk_at k
    | bl i =>
      refine ⟨"bool", false, rfl, rfl, qif_f rfl ?_⟩
      refine qif_f rfl (qif_f rfl ?_)
      refine ⟨"bool", true, rfl, rfl, "bool", true, rfl, rfl, qif_f rfl ⟨"bool", true, rfl, rfl, "bool", true, rfl, rfl, qif_f rfl ?_⟩⟩
      refine ⟨"bool", false, rfl, rfl, "bool", false, rfl, rfl, qif_t rfl ?_⟩
      show ∃ m', MLe m m' ∧ Φ (.bl (decide (i = i))) m'
      rw [decide_eq_true rfl]
      exact wk_at k
    | non =>
      refine ⟨"NoneType", false, rfl, rfl, qif_f rfl ?_⟩
      refine qif_t rfl (qif_t rfl ?_)
      exact qif_t rfl (wk_at k)
    | str z =>
      have hz : PyData.strOk z = true := by cases n <;> exact hf
      refine ⟨"str", false, rfl, rfl, qif_f rfl ?_⟩
      refine qif_f rfl (qif_f rfl ?_)
      refine ⟨"str", false, rfl, rfl, "str", false, rfl, rfl, qif_f rfl ⟨"str", false, rfl, rfl, "str", false, rfl, rfl, qif_f rfl ?_⟩⟩
      refine ⟨"str", true, rfl, rfl, "str", true, rfl, rfl, qif_t rfl ?_⟩
      exact k_eqC (x := .str z) (y := .str z) (Φ := (bodyW Φ).rt) 0 (by decide) hz hz fun b hb => by
        rw [hb.mpr rfl]
        exact wk_at k
    | ref a => cases n <;> exact hf.elim
    | tup ds =>
      cases n with
      | zero => exact hf.elim
      | succ n =>
        obtain ⟨hl, hf⟩ := hf
        refine ⟨"tuple", true, rfl, rfl, qif_t rfl ?_⟩
        refine ⟨"tuple", true, rfl, rfl, "tuple", true, rfl, rfl, qif_f rfl ⟨"tuple", false, rfl, rfl, "tuple", false, rfl, rfl, qif_f rfl ?_⟩⟩
        refine qif_t (decide_eq_true rfl) ?_
        exact same_zip (fun _ _ _ => trivial) hl hf k
    | lst ds =>
      cases n with
      | zero => exact hf.elim
      | succ n => exact same_list (.inl rfl) (.inl rfl) hf.1 hf.2 k
  · exact same_list lx ly hl hf k
theorem rdh_law_same (n : Nat) : ∀ ds m Φ, sph_law_same (n + 1) ds m Φ → qbh_law_same n (bodyW Φ) (begin_ 4 ds) m := by
  rintro _ m Φ ⟨x, rfl, hf, k⟩
  · cases x with
    | int i =>
      refine ⟨"int", false, rfl, rfl, qif_f rfl ?_⟩
      refine qif_f rfl (qif_f rfl ?_)
      refine ⟨"int", false, rfl, rfl, "int", false, rfl, rfl, qif_f rfl ⟨"int", true, rfl, rfl, "int", true, rfl, rfl, qif_f rfl ?_⟩⟩
      refine ⟨"int", false, rfl, rfl, "int", false, rfl, rfl, qif_t rfl ?_⟩
      show ∃ m', MLe m m' ∧ Φ (.bl (decide (i = i))) m'
      rw [decide_eq_true rfl]
      exact wk_at k
    | bl i =>
      refine ⟨"bool", false, rfl, rfl, qif_f rfl ?_⟩
      refine qif_f rfl (qif_f rfl ?_)
      refine ⟨"bool", true, rfl, rfl, "bool", true, rfl, rfl, qif_f rfl ⟨"bool", true, rfl, rfl, "bool", true, rfl, rfl, qif_f rfl ?_⟩⟩
      refine ⟨"bool", false, rfl, rfl, "bool", false, rfl, rfl, qif_t rfl ?_⟩
      show ∃ m', MLe m m' ∧ Φ (.bl (decide (i = i))) m'
      rw [decide_eq_true rfl]
      exact wk_at k
    | non =>
      refine ⟨"NoneType", false, rfl, rfl, qif_f rfl ?_⟩
      refine qif_t rfl (qif_t rfl ?_)
      exact qif_t rfl (wk_at k)
    | str z =>
      have hz : PyData.strOk z = true := by cases n <;> exact hf
      refine ⟨"str", false, rfl, rfl, qif_f rfl ?_⟩
      refine qif_f rfl (qif_f rfl ?_)
      refine ⟨"str", false, rfl, rfl, "str", false, rfl, rfl, qif_f rfl ⟨"str", false, rfl, rfl, "str", false, rfl, rfl, qif_f rfl ?_⟩⟩
      refine ⟨"str", true, rfl, rfl, "str", true, rfl, rfl, qif_t rfl ?_⟩
      exact k_eqC (x := .str z) (y := .str z) (Φ := (bodyW Φ).rt) 0 (by decide) hz hz fun b hb => by
        rw [hb.mpr rfl]
        exact wk_at k
    | ref a => cases n <;> exact hf.elim
    | tup ds =>
      cases n with
      | zero => exact hf.elim
      | succ n =>
        obtain ⟨hl, hf⟩ := hf
        refine ⟨"tuple", true, rfl, rfl, qif_t rfl ?_⟩
        refine ⟨"tuple", true, rfl, rfl, "tuple", true, rfl, rfl, qif_f rfl ⟨"tuple", false, rfl, rfl, "tuple", false, rfl, rfl, qif_f rfl ?_⟩⟩
        refine qif_t (decide_eq_true rfl) ?_
        exact ⟨ds, ds, .inl rfl, same_zipH (fun _ _ _ => trivial) hl hf k⟩
    | lst ds =>
      cases n with
      | zero => exact hf.elim
      | succ n =>
        obtain ⟨hl, hf⟩ := hf
        refine ⟨"list", true, rfl, rfl, qif_t rfl ?_⟩
        refine ⟨"list", false, rfl, rfl, "list", false, rfl, rfl, qif_f rfl ⟨"list", true, rfl, rfl, "list", true, rfl, rfl, qif_f rfl ?_⟩⟩
        refine qif_t (decide_eq_true rfl) ?_
        exact ⟨ds, ds, .inr rfl, same_zipH (fun _ _ _ => trivial) hl hf k⟩
end SM
namespace K30
open PySem PySem.Spec PyProof.Rows L2 L3
structure Adr where
  Bag : Addr
  NoSuchLetter : Addr
  Missing : Addr
  NoSuchLetter_init : Addr
  law_bag : Addr
  law_same : Addr
  law_draw : Addr
  law_of : Addr
  Bag_eq : Addr
  Bag_init : Addr
  law_chan : Addr
  law_amount : Addr
  law_some : Addr
  law_word : Addr
  Bag_put : Addr
  law_strange : Addr
  law_refused : Addr
  Bag_contains : Addr
  Bag_take : Addr
  Bag_double : Addr
  law_deed : Addr
  Bag_older : Addr
  Bag_bool : Addr
  Bag_letters : Addr
  Bag_len : Addr
  law_looks : Addr
  law_mixed : Addr
  Bag_copy : Addr
  law_equal : Addr
  law : Addr
  cb_law_deed : Addr
  tb_law_deed : Addr
end K30
namespace K30
open PySem PySem.Spec PyProof.Rows L2 L3
abbrev sp_law_bag (A : Adr) : LSp := C13.sp_law_bag
abbrev sp_law_same (n : Nat) (A : Adr) : LSp := SM.sp_law_same n
abbrev sp_law_draw (A : Adr) : LSp := C13.sp_law_draw
abbrev sp_law_of (A : Adr) : LSp := C13.sp_law_of
abbrev sp_law_amount (A : Adr) : LSp := C13.sp_law_amount
abbrev sp_law_some (A : Adr) : LSp := C13.sp_law_some
end K30
namespace K30
open PySem PySem.Spec PyProof.Rows L2 L3 L4 PA VL
open C13 (BagP)
abbrev sph_law_same (n : Nat) (_ : Adr) : LSp := SM.sph_law_same n
/-- a letter: its number, channel, tick, value -/
structure Rw where
  n : Int
  c : D
  t : Int
  v : D
def Rw.d (r : Rw) : D := .tup [.int r.n, r.c, .int r.t, r.v]
def kvs (rs : List Rw) : List (Key × D) := rs.map fun r => (Sum.inl r.n, r.d)
def bagF (d : Addr) (c : Int) : List (Str × D) := [("_letters", .ref d), ("_next", .int c)]
structure BagAt (C : Addr) (m : Mem) (a d : Addr) (rs : List Rw) (c : Int) : Prop where
  ob : m a = some (.ins C (bagF d c))
  dc : m d = some (.dK (kvs rs))
structure ROk (rs : List Rw) (c : Int) : Prop where
  asc : rs.Pairwise fun x y => x.n < y.n
  lo : ∀ r ∈ rs, 0 ≤ r.n ∧ r.n < c
  fl : ∀ r ∈ rs, flatS 3 r.c ∧ flatS 3 r.v
  len : (rs.length : Int) ≤ c
  top : c ≤ 1000
def hasN (rs : List Rw) (k : Int) : Bool := rs.any fun r => r.n == k
def inB (rs : List Rw) : D → Bool
  | .int k => hasN rs k
  | _ => false
def without (rs : List Rw) (k : Int) : List Rw := rs.filter fun r => decide (r.n ≠ k)
def sp_Bag_init (A : Adr) : LSp := fun ds m Φ => ∃ a, ds = [.ref a] ∧ m a = some (.ins A.Bag []) ∧ ∀ d m', m d = none → BagAt A.Bag m' a d [] 0 → Keeps m m' (fun b => b = a) → Φ .non m'
def sp_Bag_put (A : Adr) : LSp := fun ds m Φ => ∃ (a d : Addr) (rs : List Rw) (n t : Int) (c v : D), ds = [.ref a, c, .int t, v] ∧ BagAt A.Bag m a d rs n ∧ ROk rs n ∧ n < 1000 ∧
  ∀ m', BagAt A.Bag m' a d (rs ++ [⟨n, c, t, v⟩]) (n + 1) → Keeps m m' (fun b => b = a ∨ b = d) → Φ (.int n) m'
def sp_Bag_contains (A : Adr) : LSp := fun ds m Φ => ∃ (a d : Addr) (rs : List Rw) (n : Int) (x : D), ds = [.ref a, x] ∧ BagAt A.Bag m a d rs n ∧ flatS 5 x ∧ Φ (.bl (inB rs x)) m
def sp_Bag_take (A : Adr) : LSp := fun ds m Φ => ∃ (a d : Addr) (rs : List Rw) (n : Int) (r : Rw), ds = [.ref a, .int r.n] ∧ BagAt A.Bag m a d rs n ∧ ROk rs n ∧ r ∈ rs ∧
  ∀ m', BagAt A.Bag m' a d (without rs r.n) n → Keeps m m' (fun b => b = d) → Φ r.d m'
def spx_Bag_take (A : Adr) : LSpE := fun ds m Φ Ψ => ∃ (a d : Addr) (rs : List Rw) (n : Int) (x : D), ds = [.ref a, x] ∧ BagAt A.Bag m a d rs n ∧ flatS 5 x ∧ inB rs x = false ∧ ∀ e, m e = none → Ψ (.ref A.NoSuchLetter) (some e) (mset m e (.xd [("number", x)]))
def sp_Bag_double (A : Adr) : LSp := fun ds m Φ => ∃ (a d : Addr) (rs : List Rw) (n : Int) (r : Rw), ds = [.ref a, .int r.n] ∧ BagAt A.Bag m a d rs n ∧ ROk rs n ∧ n < 1000 ∧ r ∈ rs ∧
  ∀ m', BagAt A.Bag m' a d (rs ++ [⟨n, r.c, r.t, r.v⟩]) (n + 1) → Keeps m m' (fun b => b = a ∨ b = d) → Φ (.int n) m'
def spx_Bag_double (A : Adr) : LSpE := fun ds m Φ Ψ => ∃ (a d : Addr) (rs : List Rw) (n : Int) (x : D), ds = [.ref a, x] ∧ BagAt A.Bag m a d rs n ∧ flatS 5 x ∧ inB rs x = false ∧ ∀ e, m e = none → Ψ (.ref A.NoSuchLetter) (some e) (mset m e (.xd [("number", x)]))
def sp_Bag_letters (A : Adr) : LSp := fun ds m Φ => ∃ (a d : Addr) (rs : List Rw) (n : Int), ds = [.ref a] ∧ BagAt A.Bag m a d rs n ∧ ∀ p, m p = none → Φ (.ref p) (mset m p (.lst (rs.map Rw.d)))
def sp_Bag_older (A : Adr) : LSp := fun ds m Φ => ∃ (a d : Addr) (rs : List Rw) (n t : Int), ds = [.ref a, .int t] ∧ BagAt A.Bag m a d rs n ∧ ROk rs n ∧ ∀ p, m p = none → Φ (.ref p) (mset m p (.lst ((rs.filter fun r => decide (r.t ≤ t)).map Rw.d)))
def sp_Bag_copy (A : Adr) : LSp := fun ds m Φ => ∃ (a d : Addr) (rs : List Rw) (n : Int), ds = [.ref a] ∧ BagAt A.Bag m a d rs n ∧ ∀ a' d' m', m a' = none → m d' = none → BagAt A.Bag m' a' d' rs n → Grows m m' → Φ (.ref a') m'
def sp_Bag_len (A : Adr) : LSp := fun ds m Φ => ∃ (a d : Addr) (rs : List Rw) (n : Int), ds = [.ref a] ∧ BagAt A.Bag m a d rs n ∧ Φ (.int rs.length) m
def sp_Bag_bool (_ : Adr) : LSp := fun ds m Φ => ∃ a, ds = [.ref a] ∧ Φ (.bl true) m
def sp_Bag_eq (A : Adr) : LSp := fun ds m Φ => ∃ (a d : Addr) (rs : List Rw) (n : Int) (y : D), ds = [.ref a, y] ∧ BagAt A.Bag m a d rs n ∧
  ((∃ (a' d' : Addr) (rs' : List Rw) (n' : Int) (r : Bool), y = .ref a' ∧ BagAt A.Bag m a' d' rs' n' ∧ (rs.length = rs'.length → HitsD (kvs rs') (kvs rs) r) ∧ Φ (.bl ((rs.length == rs'.length && r) && decide (n = n'))) m) ∨
    ∃ l xs, y = .ref l ∧ m l = some (.lst xs) ∧ Φ (.bl false) m)
def chs : List D := [.tup [.str "level", .str "a", .str "b", .str ""], .tup [.str "level", .str "b", .str "f", .str ""], .tup [.str "manner", .str "f", .str "a", .str "f"], .tup [.str "room", .str "a", .str "f", .str "f"],
  .tup [.str "came", .str "g", .str "g", .str "g"], .tup [.str "ask", .str "f", .str "a", .str "f"], .tup [.str "bit", .str "a", .str "f", .str "f"]]
def sp_law_chan (_ : Adr) : LSp := fun ds m Φ => ∃ b, ds = [.ref b] ∧ m b = some (.any BagP) ∧ ∀ c ∈ chs, Φ c m
def sp_law_word (_ : Adr) : LSp := fun ds m Φ => ∃ b c, ds = [.ref b, c] ∧ m b = some (.any BagP) ∧ c ∈ chs ∧ ∀ v, flatS 3 v → Φ v m
def sp_law_mixed (_ : Adr) : LSp := fun ds m Φ => ∃ (b : Addr) (ks : List Int), ds = [.ref b, .lst (ks.map .int)] ∧ m b = some (.any BagP) ∧ ks.length ≤ 1000 ∧ ∀ (p : Addr) (ks' : List Int), m p = none → ks'.Perm ks → Φ (.ref p) (mset m p (.lst (ks'.map .int)))
def sp_law_strange (_ : Adr) : LSp := fun ds m Φ => ∃ (b r : Addr) (rs : List Rw) (n : Int), ds = [.ref b, .ref r, .int n] ∧ m b = some (.any BagP) ∧ m r = some (.lst (rs.map Rw.d)) ∧ ROk rs n ∧ 0 ≤ n ∧ ∀ x, flatS 5 x → inB rs x = false → Φ x m
/-- a side: a bag of letters, the rows due, the next number -/
structure SideAt (A : Adr) (m : Mem) (s a d r : Addr) (rs : List Rw) (n : Int) : Prop where
  sd : m s = some (.lst [.ref a, .ref r, .int n])
  rw_ : m r = some (.lst (rs.map Rw.d))
  bg : BagAt A.Bag m a d rs n
  sr : s ≠ r
abbrev tabF (A : Adr) (m : Mem) : Prop := m A.tb_law_deed = some (.tab (lamq "_law_deed"))
def sp_law_deed (A : Adr) : LSp := fun ds m Φ => ∃ (b s a d r : Addr) (rs : List Rw) (n : Int), ds = [.ref b, .ref s] ∧ m b = some (.any BagP) ∧ tabF A m ∧ SideAt A m s a d r rs n ∧ ROk rs n ∧ 0 ≤ n ∧ n < 999 ∧
  ∀ m' rs' n', Keeps m m' (fun z => z = s ∨ z = a ∨ z = d ∨ z = r) → SideAt A m' s a d r rs' n' → ROk rs' n' → n ≤ n' → n' ≤ n + 1 → Φ (.bl true) m'
def sp_law_looks (A : Adr) : LSp := fun ds m Φ => ∃ (b s a d r : Addr) (rs : List Rw) (n : Int), ds = [.ref b, .ref s] ∧ m b = some (.any BagP) ∧ SideAt A m s a d r rs n ∧ ROk rs n ∧ 0 ≤ n ∧ Φ (.bl true) m
def sp_law_equal (A : Adr) : LSp := fun ds m Φ => ∃ (b s a d r : Addr) (rs : List Rw) (n : Int), ds = [.ref b, .ref s] ∧ m b = some (.any BagP) ∧ SideAt A m s a d r rs n ∧ ROk rs n ∧ 0 ≤ n ∧ n < 999 ∧ Φ (.bl true) m
end K30
namespace K30
open PySem PySem.Spec PyProof.Rows L2 L3
/-- the suite of _law_refused: 0 _law_told, 1 _law_number_of, 2 error -/
def qs_law_refused (A : Adr) (a : Addr) (cls : Value) (od : Option Addr) : QS :=
  (sRet (qAndV (qCall (sph_law_same 6 A) (qCons (qXf a cls od A.NoSuchLetter "number" (qVar 2)) (qCons (qVar 1) qNil))) (qIsEm a cls od [(A.NoSuchLetter, true)] (qVar 2))))
def qr_law_refused (A : Adr) : QS :=
  (sRet (qC (.bl false)))
/-- _law_bag: 0 _law_script, 1 _law_seed, 2 _law_cell -/
def qb_law_bag (A : Adr) : QS :=
  (sSeq (sAsg (.nm 1) (qC (.int 13965)))
    (sSeq (sFor (iLst (qSlL (qVar 0) qNoPart (qPart (qC (.int 63))))) (.nm 2) (sAsg (.nm 1) (qOp (qIC (fun _ j => 0 < j) fun i j => .int (i % j)) (qCB bInt (qCons (qOp qAdd (qOp qAdd (qOp (qIC CM fun i j => .int (i * j)) (qVar 1) (qC (.int 69621))) (qOp (qIC (fun _ j => 0 < j) fun i j => .int (i % j)) (qCB bInt (qCons (qVar 2) qNil)) (qC (.int 2147483629)))) (qC (.int 17))) qNil)) (qC (.int 2147483587)))))
    (sRet (qLstM (qCons (qFreeze (qCB bList (qCons (qSlL (qVar 0) qNoPart (qPart (qC (.int 63)))) qNil))) (qCons (qC (.int 0)) (qCons (qC (.int 0)) (qCons (qVar 1) (qCons (qC (.int 0)) qNil)))))))))
/-- _law_same: 0 _law_told, 1 _law_due, 2 _law_one, 3 _law_two -/
def qb_law_same (n : Nat) (A : Adr) : QS :=
  (sSeq (sIf (qB (qIsiT ["tuple", "list"] (qVar 1))) (sSeq (sIf (qOr (qB (qOp vNe (qIsi "tuple" (qVar 0)) (qIsi "tuple" (qVar 1)))) (qB (qOp vNe (qIsi "list" (qVar 0)) (qIsi "list" (qVar 1))))) (sRet (qC (.bl false))) sNext)
    (sRet (qAndV (qOp vEq (qCB bLen (qCons (qVar 0) qNil)) (qCB bLen (qCons (qVar 1) qNil))) (qCB bAll (qCons (qFreeze (qLc (iZipD (qCons (qVar 0) (qCons (qVar 1) qNil))) (.tp [(.nm 2), (.nm 3)]) qYes (qCall (sp_law_same n A) (qCons (qVar 2) (qCons (qVar 3) qNil))) [2, 3])) qNil))))) sNext)
    (sSeq (sIf (qOr (qB (qOp qIsN (qVar 1) (qC .non))) (qB (qOp qIsN (qVar 0) (qC .non)))) (sRet (qAndV (qOp qIsN (qVar 1) (qC .non)) (qOp qIsN (qVar 0) (qC .non)))) sNext)
    (sSeq (sIf (qOr (qB (qOp vNe (qIsi "bool" (qVar 0)) (qIsi "bool" (qVar 1)))) (qB (qOp vNe (qIsi "int" (qVar 0)) (qIsi "int" (qVar 1))))) (sRet (qC (.bl false))) sNext)
    (sRet (qAndV (qOp vEq (qIsi "str" (qVar 0)) (qIsi "str" (qVar 1))) (qOp vEq (qVar 0) (qVar 1)))))))
/-- .. while an exception is handled -/
def qbh_law_same (n : Nat) (A : Adr) : QS :=
  (sSeq (sIf (qB (qIsiT ["tuple", "list"] (qVar 1))) (sSeq (sIf (qOr (qB (qOp vNe (qIsi "tuple" (qVar 0)) (qIsi "tuple" (qVar 1)))) (qB (qOp vNe (qIsi "list" (qVar 0)) (qIsi "list" (qVar 1))))) (sRet (qC (.bl false))) sNext)
    (sRet (qAndV (qOp vEq (qCB bLen (qCons (qVar 0) qNil)) (qCB bLen (qCons (qVar 1) qNil))) (qCB bAll (qCons (qFreeze (qLc (iZipHD (qCons (qVar 0) (qCons (qVar 1) qNil))) (.tp [(.nm 2), (.nm 3)]) qYes (qCall (sph_law_same n A) (qCons (qVar 2) (qCons (qVar 3) qNil))) [2, 3])) qNil))))) sNext)
    (sSeq (sIf (qOr (qB (qOp qIsN (qVar 1) (qC .non))) (qB (qOp qIsN (qVar 0) (qC .non)))) (sRet (qAndV (qOp qIsN (qVar 1) (qC .non)) (qOp qIsN (qVar 0) (qC .non)))) sNext)
    (sSeq (sIf (qOr (qB (qOp vNe (qIsi "bool" (qVar 0)) (qIsi "bool" (qVar 1)))) (qB (qOp vNe (qIsi "int" (qVar 0)) (qIsi "int" (qVar 1))))) (sRet (qC (.bl false))) sNext)
    (sRet (qAndV (qOp vEq (qIsi "str" (qVar 0)) (qIsi "str" (qVar 1))) (qOp vEq (qVar 0) (qVar 1)))))))
/-- _law_draw: 0 _law_bag_here, 1 _law_many, 2 _law_cell, 3 _law_digit, 4 _law_seed -/
def qb_law_draw (A : Adr) : QS :=
  (sOpen (sSeq (sSub (qVar 0) (qC (.int 4)) (qOp qAdd (qOp vIx (qVar 0) (qC (.int 4))) (qC (.int 1))))
    (sSeq (sIf (qAnd (qB (qOp vEq (qOp vIx (qVar 0) (qC (.int 2))) (qC (.int 0)))) (qB (qOp (qI0 fun i j => .bl (decide (i < j))) (qOp vIx (qVar 0) (qC (.int 1))) (qCB bLen (qCons (qOp vIx (qVar 0) (qC (.int 0))) qNil))))) (sSeq (sAsg (.nm 2) (qOp vIx (qOp vIx (qVar 0) (qC (.int 0))) (qOp vIx (qVar 0) (qC (.int 1)))))
    (sSeq (sSub (qVar 0) (qC (.int 1)) (qOp qAdd (qOp vIx (qVar 0) (qC (.int 1))) (qC (.int 1))))
    (sIf (qB (qOp (qI0 fun i j => .bl (decide (j ≤ i))) (qVar 2) (qOp qPow (qC (.int 10)) (qC (.int 18))))) (sSub (qVar 0) (qC (.int 2)) (qVar 2)) (sSub (qVar 0) (qC (.int 3)) (qOp (qIC (fun _ j => 0 < j) fun i j => .int (i % j)) (qCB bInt (qCons (qOp qAdd (qOp qAdd (qOp (qIC CM fun i j => .int (i * j)) (qOp vIx (qVar 0) (qC (.int 3))) (qC (.int 39373))) (qOp (qIC CM fun i j => .int (i * j)) (qOp (qIC (fun _ j => 0 < j) fun i j => .int (i % j)) (qCB bInt (qCons (qVar 2) qNil)) (qC (.int 2147483549))) (qC (.int 24571)))) (qC (.int 59))) qNil)) (qC (.int 2147483579))))))) sNext)
    (sSeq (sIf (qB (qOp (qI0 fun i j => .bl (decide (j < i))) (qOp vIx (qVar 0) (qC (.int 2))) (qC (.int 0)))) (sSeq (sAsg (.nm 3) (qOp (qIC (fun _ j => 0 < j) fun i j => .int (i % j)) (qCB bInt (qCons (qOp vIx (qVar 0) (qC (.int 2))) qNil)) (qVar 1)))
    (sSeq (sSub (qVar 0) (qC (.int 2)) (qOp (qIC CDivW fun i j => .int (i / j)) (qOp vIx (qVar 0) (qC (.int 2))) (qVar 1)))
    (sRet (qVar 3)))) sNext)
    (sSeq (sAsg (.nm 4) (qOp vIx (qVar 0) (qC (.int 3))))
    (sSeq (sSub (qVar 0) (qC (.int 3)) (qOp (qIC (fun _ j => 0 < j) fun i j => .int (i % j)) (qCB bInt (qCons (qOp qAdd (qOp qAdd (qOp qAdd (qOp (qIC CM fun i j => .int (i * j)) (qOp (qIC CM fun i j => .int (i * j)) (qVar 4) (qVar 4)) (qC (.int 29))) (qOp (qIC CM fun i j => .int (i * j)) (qVar 4) (qC (.int 48673)))) (qOp (qIC CM fun i j => .int (i * j)) (qOp vIx (qVar 0) (qC (.int 4))) (qC (.int 1500007)))) (qC (.int 70001))) qNil)) (qC (.int 2147483579))))
    (sRet (qOp (qIC (fun _ j => 0 < j) fun i j => .int (i % j)) (qCB bInt (qCons (qOp qAdd (qOp (qIC CDivW fun i j => .int (i / j)) (qOp vIx (qVar 0) (qC (.int 3))) (qC (.int 101))) (qOp (qIC CM fun i j => .int (i * j)) (qOp (qIC (fun _ j => 0 < j) fun i j => .int (i % j)) (qCB bInt (qCons (qOp vIx (qVar 0) (qC (.int 3))) qNil)) (qC (.int 6007))) (qC (.int 83)))) qNil)) (qVar 1)))))))))
/-- _law_of: 0 _law_bag_here, 1 _law_things -/
def qb_law_of (A : Adr) : QS :=
  (sRet (qOp vIx (qVar 1) (qCall (sp_law_draw A) (qCons (qVar 0) (qCons (qCB bLen (qCons (qVar 1) qNil)) qNil)))))
/-- Bag.__eq__: 0 self, 1 other -/
def qb_Bag_eq (A : Adr) : QS :=
  (sRet (qAndV (qIsCL A.Bag (qVar 1)) (qAndV (qOp vEqDct (qFld A.Bag "_letters" (qVar 0)) (qFld A.Bag "_letters" (qVar 1))) (qOp vEq (qFld A.Bag "_next" (qVar 0)) (qFld A.Bag "_next" (qVar 1))))))
/-- Bag.__init__: 0 self -/
def qb_Bag_init (A : Adr) : QS :=
  (sSeq (sSetF A.Bag "_letters" (qVar 0) qDNewK)
    (sSetF A.Bag "_next" (qVar 0) (qC (.int 0))))
/-- _law_chan: 0 _law_bag_here, 1 _law_found -/
def qb_law_chan (A : Adr) : QS :=
  (sSeq (sAsg (.nm 1) (qLstF (qCons (qTup (qCons (qC (.str "level")) (qCons (qC (.str "a")) (qCons (qC (.str "b")) (qCons (qC (.str "")) qNil))))) (qCons (qTup (qCons (qC (.str "level")) (qCons (qC (.str "b")) (qCons (qC (.str "f")) (qCons (qC (.str "")) qNil))))) (qCons (qTup (qCons (qC (.str "manner")) (qCons (qC (.str "f")) (qCons (qC (.str "a")) (qCons (qC (.str "f")) qNil))))) (qCons (qTup (qCons (qC (.str "room")) (qCons (qC (.str "a")) (qCons (qC (.str "f")) (qCons (qC (.str "f")) qNil))))) qNil))))))
    (sRet (qCall (sp_law_of A) (qCons (qVar 0) (qCons (qOp qAdd (qVar 1) (qLstF (qCons (qTup (qCons (qC (.str "came")) (qCons (qC (.str "g")) (qCons (qC (.str "g")) (qCons (qC (.str "g")) qNil))))) (qCons (qTup (qCons (qC (.str "ask")) (qCons (qC (.str "f")) (qCons (qC (.str "a")) (qCons (qC (.str "f")) qNil))))) (qCons (qTup (qCons (qC (.str "bit")) (qCons (qC (.str "a")) (qCons (qC (.str "f")) (qCons (qC (.str "f")) qNil))))) qNil))))) qNil)))))
/-- _law_amount: 0 _law_top, 1 _law_bottom, 2 _law_one, 3 _law_two -/
def qb_law_amount (A : Adr) : QS :=
  (sSeq (sPar 2 3 (qCons (qVar 0) (qCons (qVar 1) qNil)))
    (sSeq (sWhile (qB (qOp (qI0 fun i j => .bl (decide (j < i))) (qVar 3) (qC (.int 0)))) (sPar 2 3 (qCons (qVar 3) (qCons (qOp (qIC (fun _ j => 0 < j) fun i j => .int (i % j)) (qCB bInt (qCons (qVar 2) qNil)) (qVar 3)) qNil))))
    (sRet (qTup (qCons (qOp (qIC CDivW fun i j => .int (i / j)) (qVar 0) (qVar 2)) (qCons (qOp (qIC CDivW fun i j => .int (i / j)) (qVar 1) (qVar 2)) qNil))))))
/-- _law_some: 0 _law_bag_here, 1 _law_most, 2 _law_bottom -/
def qb_law_some (A : Adr) : QS :=
  (sSeq (sAsg (.nm 2) (qCall (sp_law_of A) (qCons (qVar 0) (qCons (qLstF (qCons (qC (.int 1)) (qCons (qC (.int 1)) (qCons (qC (.int 2)) (qCons (qC (.int 1)) (qCons (qC (.int 3)) (qCons (qC (.int 1)) (qCons (qC (.int 2)) (qCons (qC (.int 5)) qNil))))))))) qNil))))
    (sRet (qCall (sp_law_amount A) (qCons (qCall (sp_law_draw A) (qCons (qVar 0) (qCons (qOp qAdd (qOp (qIC CM fun i j => .int (i * j)) (qVar 1) (qVar 2)) (qC (.int 1))) qNil))) (qCons (qVar 2) qNil)))))
/-- _law_word: 0 _law_bag_here, 1 _law_chan_here, 2 _law_words -/
def qb_law_word (A : Adr) : QS :=
  (sSeq (sIf (qB (qOp vEq (qOp vIx (qVar 1) (qC (.int 0))) (qC (.str "bit")))) (sRet (qOp vEq (qCall (sp_law_draw A) (qCons (qVar 0) (qCons (qC (.int 2)) qNil))) (qC (.int 0)))) sNext)
    (sSeq (sAsg (.nm 2) (qLstF (qCons (qCall (sp_law_some A) (qCons (qVar 0) (qCons (qC (.int 9)) qNil))) (qCons (qTup (qCons (qC (.int 0)) (qCons (qC (.int 1)) qNil))) (qCons (qTup (qCons (qC (.int 1000)) (qCons (qC (.int 1)) qNil))) (qCons (qTup (qCons (qC (.int 1501)) (qCons (qC (.int 1)) qNil))) (qCons (qCall (sp_law_some A) (qCons (qVar 0) (qCons (qC (.int 9)) qNil))) qNil)))))))
    (sSeq (sIf (qB (qOp vEq (qOp vIx (qVar 1) (qC (.int 0))) (qC (.str "manner")))) (sRet (qIfE (qB (qOp vEq (qCall (sp_law_draw A) (qCons (qVar 0) (qCons (qC (.int 3)) qNil))) (qC (.int 0)))) (qTup qNil) (qTup (qCons (qCall (sp_law_of A) (qCons (qVar 0) (qCons (qVar 2) qNil))) (qCons (qCall (sp_law_of A) (qCons (qVar 0) (qCons (qVar 2) qNil))) qNil))))) sNext)
    (sRet (qCall (sp_law_of A) (qCons (qVar 0) (qCons (qVar 2) qNil)))))))
/-- Bag.put: 0 self, 1 channel, 2 tick, 3 value, 4 number -/
def qb_Bag_put (A : Adr) : QS :=
  (sSeq (sAsg (.nm 4) (qFld A.Bag "_next" (qVar 0)))
    (sSeq (sSub (qFld A.Bag "_letters" (qVar 0)) (qVar 4) (qTup (qCons (qVar 4) (qCons (qVar 1) (qCons (qVar 2) (qCons (qVar 3) qNil))))))
    (sSeq (sSetF A.Bag "_next" (qVar 0) (qOp qAdd (qVar 4) (qC (.int 1))))
    (sRet (qVar 4)))))
/-- _law_strange: 0 _law_bag_here, 1 _law_rows, 2 _law_count, 3 _law_gone, 4 _law_found, 5 _law_row, 6 _law_k -/
def qb_law_strange (A : Adr) : QS :=
  (sSeq (sAsg (.nm 3) (qFreeze (qLc (iRange1 (qCons (qVar 2) qNil)) (.nm 6) (qB (qOp (vIn true) (qVar 6) (qFreeze (qLc (iLst (qVar 1)) (.nm 5) qYes (qOp vIx (qVar 5) (qC (.int 0))) [5])))) (qVar 6) [6])))
    (sSeq (sAsg (.nm 4) (qLstF (qCons (qC .non) (qCons (qC (.str "0")) (qCons (qC (.str "")) (qCons (qLstF qNil) (qCons (qLstF (qCons (qC (.int 0)) qNil)) (qCons (qTup (qCons (qC (.int 0)) qNil)) (qCons (qTup qNil) (qCons (qNeg (qC (.int 1))) (qCons (qVar 2) (qCons (qOp qAdd (qVar 2) (qC (.int 1))) (qCons (qC (.int 999999999)) (qCons (qTup (qCons (qC (.str "level")) (qCons (qC (.str "a")) (qCons (qC (.str "b")) (qCons (qC (.str "")) qNil))))) (qCons (qC (.bl true)) (qCons (qC (.bl false)) (qCons (qC (.bl true)) qNil)))))))))))))))))
    (sSeq (sIf (qAnd (qB (qOp vNe (qVar 3) (qLstF qNil))) (qB (qOp (qI0 fun i j => .bl (decide (j < i))) (qCall (sp_law_draw A) (qCons (qVar 0) (qCons (qC (.int 3)) qNil))) (qC (.int 0))))) (sRet (qCall (sp_law_of A) (qCons (qVar 0) (qCons (qVar 3) qNil)))) sNext)
    (sRet (qCall (sp_law_of A) (qCons (qVar 0) (qCons (qVar 4) qNil)))))))
/-- Bag.__contains__: 0 self, 1 number -/
def qb_Bag_contains (A : Adr) : QS :=
  (sRet (qAndV (qIsi "int" (qVar 1)) (qAndV (qNotV (qIsi "bool" (qVar 1))) (qOp (vIn false) (qVar 1) (qFld A.Bag "_letters" (qVar 0))))))
/-- Bag.take: 0 self, 1 number -/
def qb_Bag_take (A : Adr) : QS :=
  (sSeq (sIf (qB (qOp (vInO A.Bag (sp_Bag_contains A) true) (qVar 1) (qVar 0))) sNever sNext)
    (sRet (qDPop1 (qFld A.Bag "_letters" (qVar 0)) (qVar 1))))
/-- .. where it may raise -/
def qbx_Bag_take (A : Adr) : DXs → QS := fun Ψ =>
  (sSeq (sIf (qB (qOp (vInO A.Bag (sp_Bag_contains A) true) (qVar 1) (qVar 0))) (sRaise1 A.NoSuchLetter "number" (qVar 1) Ψ) sNext)
    (sRet (qDPop1 (qFld A.Bag "_letters" (qVar 0)) (qVar 1))))
/-- Bag.double: 0 self, 1 number, 2 _, 3 channel, 4 tick, 5 value -/
def qb_Bag_double (A : Adr) : QS :=
  (sSeq (sIf (qB (qOp (vInO A.Bag (sp_Bag_contains A) true) (qVar 1) (qVar 0))) sNever sNext)
    (sSeq (sAsg (.tp [(.nm 2), (.nm 3), (.nm 4), (.nm 5)]) (qOp vIx (qFld A.Bag "_letters" (qVar 0)) (qVar 1)))
    (sRet (qMeth A.Bag "put" (sp_Bag_put A) (qVar 0) (qCons (qVar 3) (qCons (qVar 4) (qCons (qVar 5) qNil)))))))
/-- .. where it may raise -/
def qbx_Bag_double (A : Adr) : DXs → QS := fun Ψ =>
  (sSeq (sIf (qB (qOp (vInO A.Bag (sp_Bag_contains A) true) (qVar 1) (qVar 0))) (sRaise1 A.NoSuchLetter "number" (qVar 1) Ψ) sNext)
    (sSeq (sAsg (.tp [(.nm 2), (.nm 3), (.nm 4), (.nm 5)]) (qOp vIx (qFld A.Bag "_letters" (qVar 0)) (qVar 1)))
    (sRet (qMeth A.Bag "put" (sp_Bag_put A) (qVar 0) (qCons (qVar 3) (qCons (qVar 4) (qCons (qVar 5) qNil)))))))
/-- _law_deed: 0 _law_bag_here, 1 _law_side, 2 _law_told, 3 _law_rows, 4 _law_count, 5 _law_how, 6 _law_chan_here, 7 _law_item, 8 _law_made, 9 _law_row, 10 _law_wrong, 11 _law_x, 12 _law_y -/
def qb_law_deed (A : Adr) : QS :=
  (sSeq (sAsg (.tp [(.nm 2), (.nm 3), (.nm 4)]) (qTup (qCons (qOp vIx (qVar 1) (qC (.int 0))) (qCons (qOp vIx (qVar 1) (qC (.int 1))) (qCons (qOp vIx (qVar 1) (qC (.int 2))) qNil)))))
    (sSeq (sAsg (.nm 5) (qCall (sp_law_draw A) (qCons (qVar 0) (qCons (qC (.int 8)) qNil))))
    (sSeq (sIf (qOr (qB (qOp (qI0 fun i j => .bl (decide (i < j))) (qVar 5) (qC (.int 3)))) (qAnd (qB (qOp vEq (qVar 3) (qLstF qNil))) (qB (qOp (qI0 fun i j => .bl (decide (i < j))) (qVar 5) (qC (.int 7)))))) (sSeq (sAsg (.nm 6) (qCall (sp_law_chan A) (qCons (qVar 0) qNil)))
    (sSeq (sPar 7 8 (qCons (qCall (sp_law_word A) (qCons (qVar 0) (qCons (qVar 6) qNil))) (qCons (qOp (qI0 fun i j => .int (i - j)) (qCall (sp_law_draw A) (qCons (qVar 0) (qCons (qC (.int 9)) qNil))) (qC (.int 3))) qNil)))
    (sSeq (sIf (qNot (qB (qCall (sp_law_same 6 A) (qCons (qMeth A.Bag "put" (sp_Bag_put A) (qVar 2) (qCons (qVar 6) (qCons (qVar 8) (qCons (qVar 7) qNil)))) (qCons (qVar 4) qNil))))) (sRet (qC (.bl false))) sNext)
    (sSeq (sExpr (qBM "list" (mtL gAppend) (qVar 3) (qCons (qTup (qCons (qVar 4) (qCons (qVar 6) (qCons (qVar 8) (qCons (qVar 7) qNil))))) qNil)))
    (sSub (qVar 1) (qC (.int 2)) (qOp qAdd (qVar 4) (qC (.int 1)))))))) (sIf (qB (qOp (qI0 fun i j => .bl (decide (i < j))) (qVar 5) (qC (.int 5)))) (sSeq (sAsg (.nm 9) (qCall (sp_law_of A) (qCons (qVar 0) (qCons (qVar 3) qNil))))
    (sSeq (sIf (qNot (qB (qCall (sp_law_same 6 A) (qCons (qMeth A.Bag "take" (sp_Bag_take A) (qVar 2) (qCons (qOp vIx (qVar 9) (qC (.int 0))) qNil)) (qCons (qVar 9) qNil))))) (sRet (qC (.bl false))) sNext)
    (sExpr (qBM "list" mRemove (qVar 3) (qCons (qVar 9) qNil))))) (sIf (qB (qOp (qI0 fun i j => .bl (decide (i < j))) (qVar 5) (qC (.int 7)))) (sSeq (sAsg (.nm 9) (qCall (sp_law_of A) (qCons (qVar 0) (qCons (qVar 3) qNil))))
    (sSeq (sIf (qNot (qB (qCall (sp_law_same 6 A) (qCons (qMeth A.Bag "double" (sp_Bag_double A) (qVar 2) (qCons (qOp vIx (qVar 9) (qC (.int 0))) qNil)) (qCons (qVar 4) qNil))))) (sRet (qC (.bl false))) sNext)
    (sSeq (sExpr (qBM "list" (mtL gAppend) (qVar 3) (qCons (qTup (qCons (qVar 4) (qCons (qOp vIx (qVar 9) (qC (.int 1))) (qCons (qOp vIx (qVar 9) (qC (.int 2))) (qCons (qOp vIx (qVar 9) (qC (.int 3))) qNil))))) qNil)))
    (sSub (qVar 1) (qC (.int 2)) (qOp qAdd (qVar 4) (qC (.int 1))))))) (sSeq (sAsg (.nm 10) (qCall (sp_law_strange A) (qCons (qVar 0) (qCons (qVar 3) (qCons (qVar 4) qNil)))))
    (sSeq (sIf (qOr (qNot (qB (qCall (sp_law_same 6 A) (qCons (qOp (vInO A.Bag (sp_Bag_contains A) false) (qVar 10) (qVar 2)) (qCons (qC (.bl false)) qNil))))) (qNot (qB (qRef A.tb_law_deed (lamq "_law_deed") [A.NoSuchLetter] 11 (zMeth A.Bag "take" (spx_Bag_take A) (qVar 2) (qCons (qVar 11) qNil)) (qVar 10) (qs_law_refused A) (qr_law_refused A))))) (sRet (qC (.bl false))) sNext)
    (sRet (qRef A.tb_law_deed (lamq "_law_deed") [A.NoSuchLetter] 12 (zMeth A.Bag "double" (spx_Bag_double A) (qVar 2) (qCons (qVar 12) qNil)) (qVar 10) (qs_law_refused A) (qr_law_refused A))))))))
    (sRet (qC (.bl true))))))
/-- Bag.older: 0 self, 1 tick, 2 letter -/
def qb_Bag_older (A : Adr) : QS :=
  (sRet (qLock (qLc (iDict fVal (qFld A.Bag "_letters" (qVar 0))) (.nm 2) (qB (qOp (qI0 fun i j => .bl (decide (i ≤ j))) (qOp vIx (qVar 2) (qC (.int 2))) (qVar 1))) (qVar 2) [2])))
/-- Bag.__bool__: 0 self -/
def qb_Bag_bool (A : Adr) : QS :=
  (sRet (qC (.bl true)))
/-- Bag.letters: 0 self -/
def qb_Bag_letters (A : Adr) : QS :=
  (sRet (qListV (qFld A.Bag "_letters" (qVar 0))))
/-- Bag.__len__: 0 self -/
def qb_Bag_len (A : Adr) : QS :=
  (sRet (qCB bLen (qCons (qFld A.Bag "_letters" (qVar 0)) qNil)))
/-- _law_looks: 0 _law_bag_here, 1 _law_side, 2 _law_told, 3 _law_rows, 4 _law_count, 5 _law_k, 6 _law_found, 7 _law_until, 8 _law_row -/
def qb_law_looks (A : Adr) : QS :=
  (sSeq (sAsg (.tp [(.nm 2), (.nm 3), (.nm 4)]) (qTup (qCons (qOp vIx (qVar 1) (qC (.int 0))) (qCons (qOp vIx (qVar 1) (qC (.int 1))) (qCons (qOp vIx (qVar 1) (qC (.int 2))) qNil)))))
    (sSeq (sIf (qOr (qNot (qB (qCall (sp_law_same 6 A) (qCons (qCB (bLenO A.Bag (sp_Bag_len A)) (qCons (qVar 2) qNil)) (qCons (qCB bLen (qCons (qVar 3) qNil)) qNil))))) (qNot (qTruO A.Bag (sp_Bag_bool A) (qVar 2)))) (sRet (qC (.bl false))) sNext)
    (sSeq (sFor (iRange1 (qCons (qC (.int 2)) qNil)) (.nm 5) (sSeq (sAsg (.nm 6) (qMeth A.Bag "letters" (sp_Bag_letters A) (qVar 2) qNil))
    (sSeq (sIf (qNot (qB (qCall (sp_law_same 6 A) (qCons (qVar 6) (qCons (qVar 3) qNil))))) (sRet (qC (.bl false))) sNext)
    (sSeq (sExpr (qBM "list" (mtL gAppend) (qVar 6) (qCons (qC .non) qNil)))
    (sExpr (qBM "list" (mtL gReverse) (qVar 6) qNil))))))
    (sSeq (sAsg (.nm 7) (qOp (qI0 fun i j => .int (i - j)) (qCall (sp_law_draw A) (qCons (qVar 0) (qCons (qC (.int 11)) qNil))) (qC (.int 4))))
    (sSeq (sAsg (.nm 6) (qMeth A.Bag "older" (sp_Bag_older A) (qVar 2) (qCons (qVar 7) qNil)))
    (sSeq (sIf (qNot (qB (qCall (sp_law_same 6 A) (qCons (qVar 6) (qCons (qFreeze (qLc (iLst (qVar 3)) (.nm 8) (qB (qOp (qI0 fun i j => .bl (decide (i ≤ j))) (qOp vIx (qVar 8) (qC (.int 2))) (qVar 7))) (qVar 8) [8])) qNil))))) (sRet (qC (.bl false))) sNext)
    (sSeq (sExpr (qBM "list" (mtL gClear) (qVar 6) qNil))
    (sRet (qCB bAll (qCons (qFreeze (qLc (iRange1 (qCons (qOp qAdd (qVar 4) (qC (.int 2))) qNil)) (.nm 5) qYes (qCall (sp_law_same 6 A) (qCons (qOp (vInO A.Bag (sp_Bag_contains A) false) (qVar 5) (qVar 2)) (qCons (qOp (vIn false) (qVar 5) (qFreeze (qLc (iLst (qVar 3)) (.nm 8) qYes (qOp vIx (qVar 8) (qC (.int 0))) [8]))) qNil))) [5])) qNil))))))))))
/-- _law_mixed: 0 _law_bag_here, 1 _law_things, 2 _law_found, 3 _law_thing -/
def qb_law_mixed (A : Adr) : QS :=
  (sSeq (sAsg (.nm 2) (qLstM qNil))
    (sSeq (sFor (iLst (qVar 1)) (.nm 3) (sExpr (qBM "list" (mtL gInsert) (qVar 2) (qCons (qCall (sp_law_draw A) (qCons (qVar 0) (qCons (qOp qAdd (qCB bLen (qCons (qVar 2) qNil)) (qC (.int 1))) qNil))) (qCons (qVar 3) qNil)))))
    (sRet (qVar 2))))
/-- Bag.copy: 0 self, 1 twin -/
def qb_Bag_copy (A : Adr) : QS :=
  (sSeq (sAsg (.nm 1) (qMake A.Bag (sp_Bag_init A) qNil))
    (sSeq (sSetF A.Bag "_letters" (qVar 1) (qCB bDict (qCons (qFld A.Bag "_letters" (qVar 0)) qNil)))
    (sSeq (sSetF A.Bag "_next" (qVar 1) (qFld A.Bag "_next" (qVar 0)))
    (sRet (qVar 1)))))
/-- _law_equal: 0 _law_bag_here, 1 _law_side, 2 _law_told, 3 _law_rows, 4 _law_count, 5 _law_other, 6 _law_known, 7 _law_k, 8 _law_chan_here, 9 _law_row, 10 _law_fewer -/
def qb_law_equal (A : Adr) : QS :=
  (sSeq (sPar3 2 3 4 (qCons (qOp vIx (qVar 1) (qC (.int 0))) (qCons (qOp vIx (qVar 1) (qC (.int 1))) (qCons (qOp vIx (qVar 1) (qC (.int 2))) qNil))))
    (sSeq (sAsg (.tp [(.nm 5), (.nm 6)]) (qTup (qCons (qMake A.Bag (sp_Bag_init A) qNil) (qCons (qFreeze (qLc (iLst (qVar 3)) (.nm 9) qYes (qOp vIx (qVar 9) (qC (.int 0))) [9])) qNil))))
    (sSeq (sFor (iRange1 (qCons (qVar 4) qNil)) (.nm 7) (sSeq (sAsg (.nm 8) (qCall (sp_law_chan A) (qCons (qVar 0) qNil)))
    (sSeq (sAsg (.nm 9) (qIfE (qB (qOp (vIn false) (qVar 7) (qVar 6))) (qOp vIx (qVar 3) (qBM "list" mIndexI (qVar 6) (qCons (qVar 7) qNil))) (qTup (qCons (qVar 7) (qCons (qVar 8) (qCons (qC (.int 7)) (qCons (qCall (sp_law_word A) (qCons (qVar 0) (qCons (qVar 8) qNil))) qNil)))))))
    (sExpr (qMeth A.Bag "put" (sp_Bag_put A) (qVar 5) (qCons (qOp vIx (qVar 9) (qC (.int 1))) (qCons (qOp vIx (qVar 9) (qC (.int 2))) (qCons (qOp vIx (qVar 9) (qC (.int 3))) qNil))))))))
    (sSeq (sFor (iLst (qCall (sp_law_mixed A) (qCons (qVar 0) (qCons (qFreeze (qLc (iRange1 (qCons (qVar 4) qNil)) (.nm 7) (qB (qOp (vIn true) (qVar 7) (qVar 6))) (qVar 7) [7])) qNil)))) (.nm 7) (sExpr (qMeth A.Bag "take" (sp_Bag_take A) (qVar 5) (qCons (qVar 7) qNil))))
    (sSeq (sIf (qOr (qNot (qB (qCall (sp_law_same 6 A) (qCons (qOp (vEqO A.Bag (sp_Bag_eq A)) (qVar 2) (qVar 5)) (qCons (qC (.bl true)) qNil))))) (qOr (qNot (qB (qCall (sp_law_same 6 A) (qCons (qOp (vEqO A.Bag (sp_Bag_eq A)) (qVar 5) (qVar 2)) (qCons (qC (.bl true)) qNil))))) (qNot (qB (qCall (sp_law_same 6 A) (qCons (qOp (vEqL A.Bag (sp_Bag_eq A)) (qVar 2) (qVar 3)) (qCons (qC (.bl false)) qNil))))))) (sRet (qC (.bl false))) sNext)
    (sSeq (sAsg (.nm 10) (qMeth A.Bag "copy" (sp_Bag_copy A) (qVar 2) qNil))
    (sSeq (sIf (qB (qOp vNe (qVar 3) (qLstF qNil))) (sSeq (sAsg (.nm 9) (qCall (sp_law_of A) (qCons (qVar 0) (qCons (qVar 3) qNil))))
    (sSeq (sExpr (qMeth A.Bag "take" (sp_Bag_take A) (qVar 10) (qCons (qOp vIx (qVar 9) (qC (.int 0))) qNil)))
    (sIf (qOr (qNot (qB (qCall (sp_law_same 6 A) (qCons (qOp (vEqO A.Bag (sp_Bag_eq A)) (qVar 2) (qVar 10)) (qCons (qC (.bl false)) qNil))))) (qNot (qB (qCall (sp_law_same 6 A) (qCons (qCB (bLenO A.Bag (sp_Bag_len A)) (qCons (qVar 2) qNil)) (qCons (qCB bLen (qCons (qVar 3) qNil)) qNil)))))) (sRet (qC (.bl false))) sNext))) sNext)
    (sSeq (sAsg (.nm 8) (qCall (sp_law_chan A) (qCons (qVar 0) qNil)))
    (sSeq (sIf (qOr (qNot (qB (qCall (sp_law_same 6 A) (qCons (qMeth A.Bag "put" (sp_Bag_put A) (qVar 5) (qCons (qVar 8) (qCons (qC (.int 1)) (qCons (qCall (sp_law_word A) (qCons (qVar 0) (qCons (qVar 8) qNil))) qNil)))) (qCons (qVar 4) qNil))))) (qNot (qB (qCall (sp_law_same 6 A) (qCons (qOp (vEqO A.Bag (sp_Bag_eq A)) (qVar 2) (qVar 5)) (qCons (qC (.bl false)) qNil)))))) (sRet (qC (.bl false))) sNext)
    (sSeq (sExpr (qMeth A.Bag "take" (sp_Bag_take A) (qVar 5) (qCons (qVar 4) qNil)))
    (sRet (qAndV (qCall (sp_law_same 6 A) (qCons (qOp (vEqO A.Bag (sp_Bag_eq A)) (qVar 2) (qVar 5)) (qCons (qC (.bl false)) qNil))) (qCall (sp_law_same 6 A) (qCons (qOp (vEqO A.Bag (sp_Bag_eq A)) (qVar 2) (qMeth A.Bag "copy" (sp_Bag_copy A) (qVar 2) qNil)) (qCons (qC (.bl true)) qNil)))))))))))))))
/-- law: 0 _law_script, 1 _law_bag_here, 2 _law_sides, 3 _law_k, 4 _law_side, 5 _law_first, 6 _law_last -/
def qb_law (A : Adr) : QS :=
  (sSeq (sAsg (.nm 1) (qCall (sp_law_bag A) (qCons (qVar 0) qNil)))
    (sSeq (sAsg (.nm 2) (qLstM (qCons (qLstM (qCons (qMake A.Bag (sp_Bag_init A) qNil) (qCons (qLstM qNil) (qCons (qC (.int 0)) qNil)))) qNil)))
    (sSeq (sFor (iRange1 (qCons (qOp qAdd (qC (.int 10)) (qCall (sp_law_draw A) (qCons (qVar 1) (qCons (qC (.int 41)) qNil)))) qNil)) (.nm 3) (sSeq (sAsg (.nm 4) (qCall (sp_law_of A) (qCons (qVar 1) (qCons (qVar 2) qNil))))
    (sSeq (sIf (qNot (qB (qCall (sp_law_deed A) (qCons (qVar 1) (qCons (qVar 4) qNil))))) (sRet (qC (.bl false))) sNext)
    (sSeq (sIf (qAnd (qB (qOp (qI0 fun i j => .bl (decide (i < j))) (qCB bLen (qCons (qVar 2) qNil)) (qC (.int 3)))) (qB (qOp vEq (qCall (sp_law_draw A) (qCons (qVar 1) (qCons (qC (.int 9)) qNil))) (qC (.int 0))))) (sExpr (qBM "list" (mtL gAppend) (qVar 2) (qCons (qLstM (qCons (qMeth A.Bag "copy" (sp_Bag_copy A) (qOp vIx (qVar 4) (qC (.int 0))) qNil) (qCons (qCB bList (qCons (qOp vIx (qVar 4) (qC (.int 1))) qNil)) (qCons (qOp vIx (qVar 4) (qC (.int 2))) qNil)))) qNil))) sNext)
    (sIf (qAnd (qB (qOp vEq (qCall (sp_law_draw A) (qCons (qVar 1) (qCons (qC (.int 2)) qNil))) (qC (.int 0)))) (qNot (qB (qCall (sp_law_looks A) (qCons (qVar 1) (qCons (qCall (sp_law_of A) (qCons (qVar 1) (qCons (qVar 2) qNil))) qNil)))))) (sRet (qC (.bl false))) sNext)))))
    (sSeq (sFor (iLst (qVar 2)) (.nm 4) (sIf (qOr (qNot (qB (qCall (sp_law_looks A) (qCons (qVar 1) (qCons (qVar 4) qNil))))) (qNot (qB (qCall (sp_law_equal A) (qCons (qVar 1) (qCons (qVar 4) qNil)))))) (sRet (qC (.bl false))) sNext))
    (sSeq (sPar 5 6 (qCons (qOp vIx (qVar 2) (qC (.int 0))) (qCons (qOp vIx (qVar 2) (qNeg (qC (.int 1)))) qNil)))
    (sRet (qCall (sp_law_same 6 A) (qCons (qOp (vEqO A.Bag (sp_Bag_eq A)) (qOp vIx (qVar 5) (qC (.int 0))) (qOp vIx (qVar 6) (qC (.int 0)))) (qCons (qAndV (qOp vEq (qOp vIx (qVar 5) (qC (.int 1))) (qOp vIx (qVar 6) (qC (.int 1)))) (qOp vEq (qOp vIx (qVar 5) (qC (.int 2))) (qOp vIx (qVar 6) (qC (.int 2))))) qNil)))))))))
end K30
namespace K30
open PySem PySem.Spec PyProof.Rows L2 L3
theorem len_law_bag (A : Adr) : ∀ ds m Φ, sp_law_bag A ds m Φ → ds.length = 1 := C13.len_law_bag
theorem rd_law_bag (A : Adr) : ∀ ds m Φ, sp_law_bag A ds m Φ → qb_law_bag A (bodyW Φ) (begin_ 3 ds) m := C13.rd_law_bag
theorem len_law_same (n : Nat) (A : Adr) : ∀ ds m Φ, sp_law_same n A ds m Φ → ds.length = 2 := SM.len_law_same n
theorem rd_law_same (n : Nat) (A : Adr) : ∀ ds m Φ, sp_law_same (n + 1) A ds m Φ → qb_law_same n A (bodyW Φ) (begin_ 4 ds) m := SM.rd_law_same n
theorem len_law_draw (A : Adr) : ∀ ds m Φ, sp_law_draw A ds m Φ → ds.length = 2 := C13.len_law_draw
theorem rd_law_draw (A : Adr) : ∀ ds m Φ, sp_law_draw A ds m Φ → qb_law_draw A (bodyW Φ) (begin_ 5 ds) m := C13.rd_law_draw
theorem len_law_of (A : Adr) : ∀ ds m Φ, sp_law_of A ds m Φ → ds.length = 2 := C13.len_law_of
theorem rd_law_of (A : Adr) : ∀ ds m Φ, sp_law_of A ds m Φ → qb_law_of A (bodyW Φ) (begin_ 2 ds) m := C13.rd_law_of
theorem len_law_amount (A : Adr) : ∀ ds m Φ, sp_law_amount A ds m Φ → ds.length = 2 := C13.len_law_amount
theorem rd_law_amount (A : Adr) : ∀ ds m Φ, sp_law_amount A ds m Φ → qb_law_amount A (bodyW Φ) (begin_ 4 ds) m := C13.rd_law_amount
theorem len_law_some (A : Adr) : ∀ ds m Φ, sp_law_some A ds m Φ → ds.length = 2 := C13.len_law_some
theorem rd_law_some (A : Adr) : ∀ ds m Φ, sp_law_some A ds m Φ → qb_law_some A (bodyW Φ) (begin_ 3 ds) m := C13.rd_law_some
end K30
/-! PF: the program's flows: checks, the constructor, own == -/
namespace PF
open PySem PySem.Spec PyProof.Rows L2 L3 L4 LV PL PS VA
open Rat (divInt)
local macro_rules | `(tactic| walk_at "st") => `(tactic| repeat (first
  | (with_reducible refine k_var (by with_unfolding_all rfl) ?_)
  | (with_reducible refine k_seq ?_)
  | (with_reducible refine k_cons ?_)
  | (with_reducible refine k_nil ?_)
  | (with_reducible refine k_c ?_)
  | (with_reducible refine k_op ?_)
  | (with_reducible refine k_asg ?_)
  | (with_reducible refine k_call ?_)
  | (with_reducible refine k_cb ?_)
  | (with_reducible refine k_i0 ?_)
  | (with_reducible refine k_addI ?_)
  | (with_reducible refine k_B ?_)
  | (with_reducible refine k_bk ?_)
  | (with_reducible refine k_if ?_)
  | (with_reducible refine k_ret ?_)
  | (with_reducible refine k_expr ?_)
  | (with_reducible refine k_next ?_)
  | (with_reducible refine k_not ?_)
  | (with_reducible refine k_and ?_)
  | (with_reducible refine k_or ?_)
  | (with_reducible refine k_ift ?_)
  | (with_reducible refine k_iff ?_)
  | (with_reducible refine k_ifnt ?_)
  | (with_reducible refine k_ifnf ?_)
  | (with_reducible refine k_fz ?_)
  | (with_reducible refine k_lc ?_)
  | (with_reducible refine k_dc ?_)
  | (with_reducible refine k_for ?_)
  | (with_reducible refine k_rng ?_)
  | (with_reducible refine k_iL ?_)
  | (with_reducible refine k_iLl ?_)
  | (with_reducible refine k_iT ?_)
  | (with_reducible refine k_iTt ?_)
  | (with_reducible refine k_zip ?_)
  | (with_reducible refine k_asgp ?_)
  | (with_reducible refine k_atn ?_)
  | (with_reducible refine k_par ?_)
  | (with_reducible refine k_parI ?_)
  | (with_reducible refine k_par3 ?_)
  | (with_reducible refine k_par3I ?_)
  | (with_reducible refine k_sub ?_)
  | (with_reducible refine k_andV ?_)
  | (with_reducible refine k_orV ?_)
  | (with_reducible refine k_notV ?_)
  | (with_reducible refine k_ifE ?_)
  | (with_reducible refine k_chain ?_)
  | (with_reducible refine k_am0 ?_)
  | (with_reducible refine k_am1 ?_)
  | (with_reducible refine k_int ?_)
  | (with_reducible refine k_eqI ?_)
  | (with_reducible refine k_neI ?_)
  | (with_reducible refine k_eqB ?_)
  | (with_reducible refine k_neB ?_)
  | (with_reducible refine k_iaddI ?_)
  | (with_reducible refine k_lenT ?_)
  | (with_reducible refine k_lenL ?_)
  | (with_reducible refine k_tru ?_)
  | (with_reducible refine k_cont ?_)
  | (with_reducible refine k_brk ?_)
  | (with_reducible refine k_retN ?_)
  | (with_reducible refine k_callK ?_)
  | (with_reducible refine k_callS1 ?_)
  | (with_reducible refine k_star ?_)
  | (with_reducible refine k_itL ?_)
  | (with_reducible refine k_itT ?_)
  | (with_reducible refine k_isi ?_)
  | (with_reducible refine k_isiT ?_)
  | (with_reducible refine k_bm ?_)
  | (with_reducible refine k_tup ?_)
  | (with_reducible refine k_lstF ?_)
  | (with_reducible refine k_lstM ?_)
  | (with_reducible refine k_aug (by with_unfolding_all rfl) ?_)
  | (with_reducible refine k_iSv (by with_unfolding_all rfl) ?_)
  | (with_reducible refine k_ixt (by with_unfolding_all rfl) ?_)
  | (with_reducible refine k_at (by with_unfolding_all rfl) ?_)
  | (with_reducible refine k_fzn ‹_› ?_)
  | (refine And.intro (by exact sz (by simp <;> omega)) ?_)
  | fail))
/-! ### what is right -/
/-- small amounts -/
structure Sm (q : Rat) : Prop where
  nn : 0 ≤ q
  le : q ≤ 1000
  d : q.den ≤ 12
/-- sizes of water -/
structure Ws (q : Rat) : Prop where
  nn : 0 ≤ q
  le : q ≤ 1000000
  az : Az 60 q
structure Nm (z : Str) : Prop where
  l1 : 1 ≤ z.length
  l6 : z.length ≤ 6
  ab : ∀ c ∈ z.cps.toList, 97 ≤ c ∧ c ≤ 122
def KindOk (k : Str) (s : D) : Prop := (k = "window" ∧ ∃ q, s = am q ∧ Ws q) ∨ (k = "probe" ∧ ∃ i : Int, s = .int i ∧ 1 ≤ i ∧ i ≤ 12) ∨ ((k = "level" ∨ k = "eager") ∧ s = .non)
def MannOk (mm : Option (Rat × Rat)) (g G : Rat) : Prop := ∀ p, mm = some p → 0 ≤ p.1 ∧ p.1 ≤ p.2 ∧ p.1 ≤ g ∧ p.2 ≤ G ∧ Az 400 p.1 ∧ Az 400 p.2
/-- the values of a flow -/
structure FV where
  name : Str
  names : List Str
  bufs : List Rat
  kind : Str
  size : D
  w : Int
  g : Rat
  G : Rat
  door : Rat
  way : Int
  mm : Option (Rat × Rat)
  odd : Bool
def FV.fs1 (v : FV) : List (Str × D) := [("name", .str v.name), ("route", .tup (v.names.map D.str)), ("last", .int (v.names.map D.str).length), ("buffers", .tup (v.bufs.map am)), ("kind", .str v.kind), ("size", v.size), ("weight", .int v.w)]
def FV.fs (v : FV) : List (Str × D) := [("name", .str v.name), ("route", .tup (v.names.map D.str)), ("last", .int (v.names.map D.str).length), ("buffers", .tup (v.bufs.map am)), ("kind", .str v.kind), ("size", v.size), ("weight", .int v.w), ("least", am v.g), ("cap", am v.G), ("door", am v.door), ("way", .int v.way), ("manner", mannD v.mm), ("strange", .bl v.odd)]
structure FV.Wok (v : FV) : Prop where
  sg : Sm v.g
  sG : Sm v.G
  gG : v.g ≤ v.G
  sd : Sm v.door
  Gd : v.G ≤ v.door
  y1 : 1 ≤ v.way
  y2 : v.way ≤ 20
  mo : MannOk v.mm v.g v.G
structure FV.Ok (v : FV) : Prop extends v.Wok where
  nm : Nm v.name
  nms : ∃ z, v.names = [z] ∧ Nm z
  bl : v.bufs.length = v.names.length
  bo : ∀ q ∈ v.bufs, Ws q
  kd : KindOk v.kind v.size
  w1 : 1 ≤ v.w
  w2 : v.w ≤ 12
/-! ### specs -/
abbrev sp_is_number : LSp := PL.sp_is_number
abbrev sp_compare : LSp := PA.sp_compare
def sp_is_amount : LSp := fun ds m Φ => ∃ q : Rat, ds = [am q] ∧ 0 ≤ q ∧ Φ (.bl true) m
def sp_is_small : LSp := fun ds m Φ => ∃ q : Rat, ds = [am q] ∧ Sm q ∧ Φ (.bl true) m
def sp_is_between : LSp := fun ds m Φ => ∃ i j k : Int, ds = [.int i, .int j, .int k] ∧ j ≤ i ∧ i ≤ k ∧ Φ (.bl true) m
def sp_is_wide_manner : LSp := fun ds m Φ => ∃ mm : Option (Rat × Rat), ds = [mannD mm] ∧ (∀ p, mm = some p → 0 ≤ p.1 ∧ 0 ≤ p.2) ∧ Φ (.bl true) m
def sp_is_manner : LSp := fun ds m Φ => ∃ mm : Option (Rat × Rat), ds = [mannD mm] ∧ (∀ p, mm = some p → 0 ≤ p.1 ∧ p.1 ≤ p.2 ∧ Bg p.1 ∧ Bg p.2) ∧ Φ (.bl true) m
def sp_may_wish : LSp := fun ds m Φ => ∃ (mm : Option (Rat × Rat)) (g G : Rat), ds = [mannD mm, am g, am G] ∧ MannOk mm g G ∧ Bg g ∧ Bg G ∧ Φ (.bl true) m
def sp_is_name : LSp := fun ds m Φ => ∃ z : Str, ds = [.str z] ∧ Nm z ∧ Φ (.bl true) m
def sp_is_row : LSp := fun ds m Φ => ∃ (w : D) (xs : List D), ds = [w] ∧ ItemsAt w m xs ∧ Φ (.bl true) m
def sp_is_route : LSp := fun ds m Φ => ∃ z : Str, ds = [.lst [.str z]] ∧ Nm z ∧ Φ (.bl true) m
def sp_is_water_size : LSp := fun ds m Φ => ∃ q : Rat, ds = [am q] ∧ Ws q ∧ Φ (.bl true) m
def sp_are_buffers : LSp := fun ds m Φ => ∃ (w : D) (qs : List Rat), ds = [w] ∧ ItemsAt w m (qs.map am) ∧ qs.length < 1000000 ∧ (∀ q ∈ qs, Ws q) ∧ Φ (.bl true) m
def sp_is_size : LSp := fun ds m Φ => ∃ (k : Str) (s : D), ds = [.str k, s] ∧ KindOk k s ∧ Φ (.bl true) m
def sp_Flow_p_set_wishes (C : Addr) : LSp := fun ds m Φ => ∃ (f : Addr) (v : FV), ds = [.ref f, am v.g, am v.G, am v.door, .int v.way, mannD v.mm, .bl v.odd] ∧ m f = some (.ins C v.fs1) ∧ v.Wok ∧ Φ .non (mset m f (.ins C v.fs))
def sp_Flow_init (C : Addr) : LSp := fun ds m Φ => ∃ (f : Addr) (v : FV), ds = [.ref f, .str v.name, .lst (v.names.map D.str), .lst (v.bufs.map am), .str v.kind, v.size, .int v.w, am v.g, am v.G, am v.door, .int v.way, mannD v.mm, .bl v.odd] ∧ m f = some (.ins C []) ∧ v.Ok ∧ Φ .non (mset m f (.ins C v.fs))
def FV.fields (v : FV) : D := .tup [.tup [.str v.name, .tup (v.names.map D.str), .tup (v.bufs.map am), .str v.kind, v.size, .int v.w], am v.g, am v.G, am v.door, .int v.way, mannD v.mm, .bl v.odd]
def sp_Flow_p_fields (C : Addr) : LSp := fun ds m Φ => ∃ (f : Addr) (v : FV), ds = [.ref f] ∧ m f = some (.ins C v.fs) ∧ Φ v.fields m
def sp_Flow_eq (C : Addr) : LSp := fun ds m Φ => ∃ (f : Addr) (v : FV), ds = [.ref f, .ref f] ∧ m f = some (.ins C v.fs) ∧ v.Ok ∧ Φ (.bl true) m
/-- is_amount: 0 value, 1 top, 2 bottom -/
def qb_is_amount : QS :=
  (sSeq (sIf (qOr (qNot (qB (qIsi "tuple" (qVar 0)))) (qB (qOp vNe (qCB bLen (qCons (qVar 0) qNil)) (qC (.int 2))))) (sRet (qC (.bl false))) sNext)
    (sSeq (sAsg (.tp [(.nm 1), (.nm 2)]) (qVar 0))
    (sSeq (sIf (qOr (qNot (qB (qCall sp_is_number (qCons (qVar 1) qNil)))) (qNot (qB (qCall sp_is_number (qCons (qVar 2) qNil))))) (sRet (qC (.bl false))) sNext)
    (sRet (qAndV (qOp (qI0 fun i j => .bl (decide (j ≤ i))) (qVar 1) (qC (.int 0))) (qAndV (qOp (qI0 fun i j => .bl (decide (j ≤ i))) (qVar 2) (qC (.int 1))) (qOp vEq (qCB bGcd (qCons (qVar 1) (qCons (qVar 2) qNil))) (qC (.int 1)))))))))
/-- is_small: 0 value -/
def qb_is_small : QS :=
  (sRet (qAndV (qCall sp_is_amount (qCons (qVar 0) qNil)) (qAndV (qOp (qI0 fun i j => .bl (decide (i ≤ j))) (qOp vIx (qVar 0) (qC (.int 1))) (qC (.int 12))) (qOp (qI0 fun i j => .bl (decide (i ≤ j))) (qCall sp_compare (qCons (qVar 0) (qCons (qC (.tup [(.int 1000), (.int 1)])) qNil))) (qC (.int 0))))))
/-- is_between: 0 value, 1 low, 2 high -/
def qb_is_between : QS :=
  (sRet (qAndV (qCall sp_is_number (qCons (qVar 0) qNil)) (qChain (qI0 fun i j => .bl (decide (i ≤ j))) (qI0 fun i j => .bl (decide (i ≤ j))) (qVar 1) (qVar 0) (qVar 2))))
/-- is_wide_manner: 0 value -/
def qb_is_wide_manner : QS :=
  (sSeq (sIf (qNot (qB (qIsi "tuple" (qVar 0)))) (sRet (qC (.bl false))) sNext)
    (sSeq (sIf (qB (qOp vEq (qVar 0) (qTup qNil))) (sRet (qC (.bl true))) sNext)
    (sRet (qAndV (qOp vEq (qCB bLen (qCons (qVar 0) qNil)) (qC (.int 2))) (qAndV (qCall sp_is_amount (qCons (qOp vIx (qVar 0) (qC (.int 0))) qNil)) (qCall sp_is_amount (qCons (qOp vIx (qVar 0) (qC (.int 1))) qNil)))))))
/-- is_manner: 0 value -/
def qb_is_manner : QS :=
  (sSeq (sIf (qNot (qB (qCall sp_is_wide_manner (qCons (qVar 0) qNil)))) (sRet (qC (.bl false))) sNext)
    (sRet (qOrV (qOp vEq (qVar 0) (qTup qNil)) (qOp (qI0 fun i j => .bl (decide (i ≤ j))) (qCall sp_compare (qCons (qOp vIx (qVar 0) (qC (.int 0))) (qCons (qOp vIx (qVar 0) (qC (.int 1))) qNil))) (qC (.int 0))))))
/-- may_wish: 0 manner, 1 least, 2 cap -/
def qb_may_wish : QS :=
  (sSeq (sIf (qNot (qB (qCall sp_is_manner (qCons (qVar 0) qNil)))) (sRet (qC (.bl false))) sNext)
    (sRet (qOrV (qOp vEq (qVar 0) (qTup qNil)) (qAndV (qOp (qI0 fun i j => .bl (decide (i ≤ j))) (qCall sp_compare (qCons (qOp vIx (qVar 0) (qC (.int 0))) (qCons (qVar 1) qNil))) (qC (.int 0))) (qOp (qI0 fun i j => .bl (decide (i ≤ j))) (qCall sp_compare (qCons (qOp vIx (qVar 0) (qC (.int 1))) (qCons (qVar 2) qNil))) (qC (.int 0)))))))
/-- is_name: 0 value, 1 letter -/
def qb_is_name : QS :=
  (sSeq (sIf (qOr (qNot (qB (qIsi "str" (qVar 0)))) (qNot (qB (qChain (qI0 fun i j => .bl (decide (i ≤ j))) (qI0 fun i j => .bl (decide (i ≤ j))) (qC (.int 1)) (qCB bLen (qCons (qVar 0) qNil)) (qC (.int 6)))))) (sRet (qC (.bl false))) sNext)
    (sRet (qCB bAll (qCons (qFreeze (qLc (iSigns (qVar 0)) (.nm 1) qYes (qOp vInS (qVar 1) (qC (.str "abcdefghijklmnopqrstuvwxyz"))) [1])) qNil))))
/-- is_row: 0 value -/
def qb_is_row : QS :=
  (sRet (qIsiT ["list", "tuple"] (qVar 0)))
/-- is_route: 0 value, 1 link -/
def qb_is_route : QS :=
  (sSeq (sIf (qOr (qNot (qB (qCall sp_is_row (qCons (qVar 0) qNil)))) (qNot (qB (qChain (qI0 fun i j => .bl (decide (i ≤ j))) (qI0 fun i j => .bl (decide (i ≤ j))) (qC (.int 1)) (qCB bLen (qCons (qVar 0) qNil)) (qC (.int 5)))))) (sRet (qC (.bl false))) sNext)
    (sRet (qAndV (qCB bAll (qCons (qFreeze (qLc (iSeq (qVar 0)) (.nm 1) qYes (qCall sp_is_name (qCons (qVar 1) qNil)) [1])) qNil)) (qOp vEq (qLenSet (qVar 0)) (qCB bLen (qCons (qVar 0) qNil))))))
/-- is_water_size: 0 value -/
def qb_is_water_size : QS :=
  (sRet (qAndV (qCall sp_is_amount (qCons (qVar 0) qNil)) (qOp (qI0 fun i j => .bl (decide (i ≤ j))) (qCall sp_compare (qCons (qVar 0) (qCons (qC (.tup [(.int 1000000), (.int 1)])) qNil))) (qC (.int 0)))))
/-- is_size: 0 kind, 1 size -/
def qb_is_size : QS :=
  (sSeq (sIf (qB (qOp vEq (qVar 0) (qC (.str "window")))) (sRet (qCall sp_is_water_size (qCons (qVar 1) qNil))) sNext)
    (sSeq (sIf (qB (qOp vEq (qVar 0) (qC (.str "probe")))) (sRet (qCall sp_is_between (qCons (qVar 1) (qCons (qC (.int 1)) (qCons (qC (.int 12)) qNil))))) sNext)
    (sRet (qOp qIsN (qVar 1) (qC .non)))))
/-- are_buffers: 0 value, 1 size -/
def qb_are_buffers : QS :=
  (sRet (qAndV (qCall sp_is_row (qCons (qVar 0) qNil)) (qCB bAll (qCons (qFreeze (qLc (iSeq (qVar 0)) (.nm 1) qYes (qCall sp_is_water_size (qCons (qVar 1) qNil)) [1])) qNil))))
/-- Flow._set_wishes: 0 self, 1 least, 2 cap, 3 door, 4 way, 5 manner, 6 strange -/
def qb_Flow_p_set_wishes (C : Addr) : QS :=
  (sSeq (sIf (qNot (qB (qCall sp_is_small (qCons (qVar 1) qNil)))) sNever sNext)
    (sSeq (sIf (qOr (qNot (qB (qCall sp_is_small (qCons (qVar 2) qNil)))) (qB (qOp (qI0 fun i j => .bl (decide (i < j))) (qCall sp_compare (qCons (qVar 2) (qCons (qVar 1) qNil))) (qC (.int 0))))) sNever sNext)
    (sSeq (sIf (qB (qOp qIsN (qVar 3) (qC .non))) (sAsg (.nm 3) (qVar 2)) sNext)
    (sSeq (sIf (qOr (qNot (qB (qCall sp_is_small (qCons (qVar 3) qNil)))) (qB (qOp (qI0 fun i j => .bl (decide (i < j))) (qCall sp_compare (qCons (qVar 3) (qCons (qVar 2) qNil))) (qC (.int 0))))) sNever sNext)
    (sSeq (sIf (qNot (qB (qCall sp_is_between (qCons (qVar 4) (qCons (qC (.int 1)) (qCons (qC (.int 20)) qNil)))))) sNever sNext)
    (sSeq (sIf (qB (qOp qIsN (qVar 5) (qC .non))) (sAsg (.nm 5) (qTup (qCons (qVar 1) (qCons (qVar 2) qNil)))) sNext)
    (sSeq (sIf (qNot (qB (qCall sp_may_wish (qCons (qVar 5) (qCons (qVar 1) (qCons (qVar 2) qNil)))))) sNever sNext)
    (sSeq (sIf (qNot (qB (qIsi "bool" (qVar 6)))) sNever sNext)
    (sSeq (sSetF C "least" (qVar 0) (qVar 1))
    (sSeq (sSetF C "cap" (qVar 0) (qVar 2))
    (sSeq (sSetF C "door" (qVar 0) (qVar 3))
    (sSeq (sSetF C "way" (qVar 0) (qVar 4))
    (sSeq (sSetF C "manner" (qVar 0) (qVar 5))
    (sSetF C "strange" (qVar 0) (qVar 6)))))))))))))))
/-- Flow.__init__: 0 self, 1 name, 2 route, 3 buffers, 4 kind, 5 size, 6 weight, 7 least, 8 cap, 9 door, 10 way, 11 manner, 12 strange -/
def qb_Flow_init (C : Addr) : QS :=
  (sSeq (sIf (qNot (qB (qCall sp_is_name (qCons (qVar 1) qNil)))) sNever sNext)
    (sSeq (sIf (qNot (qB (qCall sp_is_route (qCons (qVar 2) qNil)))) sNever sNext)
    (sSeq (sIf (qOr (qNot (qB (qCall sp_are_buffers (qCons (qVar 3) qNil)))) (qB (qOp vNe (qCB bLen (qCons (qVar 3) qNil)) (qCB bLen (qCons (qVar 2) qNil))))) sNever sNext)
    (sSeq (sIf (qOr (qNot (qB (qIsi "str" (qVar 4)))) (qB (qOp (vInX true) (qVar 4) (qC (.tup [(.str "level"), (.str "eager"), (.str "window"), (.str "probe")]))))) sNever sNext)
    (sSeq (sIf (qNot (qB (qCall sp_is_size (qCons (qVar 4) (qCons (qVar 5) qNil))))) sNever sNext)
    (sSeq (sIf (qNot (qB (qCall sp_is_between (qCons (qVar 6) (qCons (qC (.int 1)) (qCons (qC (.int 12)) qNil)))))) sNever sNext)
    (sSeq (sSetF C "name" (qVar 0) (qVar 1))
    (sSeq (sSetF C "route" (qVar 0) (qCB bTuple (qCons (qVar 2) qNil)))
    (sSeq (sSetF C "last" (qVar 0) (qCB bLen (qCons (qFld C "route" (qVar 0)) qNil)))
    (sSeq (sSetF C "buffers" (qVar 0) (qCB bTuple (qCons (qVar 3) qNil)))
    (sSeq (sSetF C "kind" (qVar 0) (qVar 4))
    (sSeq (sSetF C "size" (qVar 0) (qVar 5))
    (sSeq (sSetF C "weight" (qVar 0) (qVar 6))
    (sExpr (qMeth C "_set_wishes" (sp_Flow_p_set_wishes C) (qVar 0) (qCons (qVar 7) (qCons (qVar 8) (qCons (qVar 9) (qCons (qVar 10) (qCons (qVar 11) (qCons (qVar 12) qNil)))))))))))))))))))))
/-- Flow._fields: 0 self, 1 source -/
def qb_Flow_p_fields (C : Addr) : QS :=
  (sSeq (sAsg (.nm 1) (qTup (qCons (qFld C "name" (qVar 0)) (qCons (qFld C "route" (qVar 0)) (qCons (qFld C "buffers" (qVar 0)) (qCons (qFld C "kind" (qVar 0)) (qCons (qFld C "size" (qVar 0)) (qCons (qFld C "weight" (qVar 0)) qNil))))))))
    (sRet (qTup (qCons (qVar 1) (qCons (qFld C "least" (qVar 0)) (qCons (qFld C "cap" (qVar 0)) (qCons (qFld C "door" (qVar 0)) (qCons (qFld C "way" (qVar 0)) (qCons (qFld C "manner" (qVar 0)) (qCons (qFld C "strange" (qVar 0)) qNil))))))))))
/-- Flow.__eq__: 0 self, 1 other -/
def qb_Flow_eq (C : Addr) : QS :=
  (sRet (qAndV (qIsC C true (qVar 1)) (qOp vEq (qMeth C "_fields" (sp_Flow_p_fields C) (qVar 0) qNil) (qMeth C "_fields" (sp_Flow_p_fields C) (qVar 1) qNil))))
/-! ### steps -/
section
variable {s : DSt} {m : Mem} {Φ : DK} {qe qo qv : QE} {E : DE} {C a : Addr} {f : Str} {fs : List (Str × D)} {y d : D}
def SetK (C : Addr) (f : Str) (x y : D) (F : Mem → Prop) (m2 : Mem) : Prop := match x with
  | .ref a => ∃ fs, m2 a = some (.ins C fs) ∧ fs.length < 1000 ∧ F (mset m2 a (.ins C (putFD f y fs)))
  | _ => False
theorem k_setF (h : qv s m fun y m1 => qo s m1 fun x m2 => SetK C f x y (E.nx s) m2) : sSetF C f qo qv E s m := h
theorem k_setI {F : Mem → Prop} (hm : m a = some (.ins C fs)) (hl : fs.length < 1000) (h : F (mset m a (.ins C (putFD f y fs)))) : SetK C f (.ref a) y F m := ⟨fs, hm, hl, h⟩
def FldK (C : Addr) (f : Str) (x : D) (Φ : DK) (m1 : Mem) : Prop := match x with
  | .ref a => ∃ fs d, m1 a = some (.ins C fs) ∧ fs.lookup f = some d ∧ Φ d m1
  | _ => False
theorem k_fld (h : qe s m fun x m1 => FldK C f x Φ m1) : qFld C f qe s m Φ := h
theorem k_fldI (hm : m a = some (.ins C fs)) (hl : fs.lookup f = some d) (h : Φ d m) : FldK C f (.ref a) Φ m := ⟨fs, d, hm, hl, h⟩
def MthK (C : Addr) (f : Str) (sp : LSp) (qa : QA) (s : DSt) (Φ : DK) (x : D) (m1 : Mem) : Prop := match x with
  | .ref a => ∃ fs, m1 a = some (.ins C fs) ∧ fs.lookup f = none ∧ qa s m1 fun ds m2 => sp (x :: ds) m2 Φ
  | _ => False
theorem k_meth {sp : LSp} {qa : QA} (h : qo s m fun x m1 => MthK C f sp qa s Φ x m1) : qMeth C f sp qo qa s m Φ := h
theorem k_methI {sp : LSp} {qa : QA} (hm : m a = some (.ins C fs)) (hl : fs.lookup f = none) (h : qa s m fun ds m2 => sp (.ref a :: ds) m2 Φ) : MthK C f sp qa s Φ (.ref a) m := ⟨fs, hm, hl, h⟩
end
/-! ### readings -/
/-! ### own == -/
end PF
/-! CF: the laws' own flows: names, rows of what a flow is made of -/
namespace CF
open PySem PySem.Spec PyProof.Rows L2 L3 L4 LV PL PS VA PF
open Rat (divInt)
open C13 (BagP)
local macro_rules | `(tactic| walk_at "st") => `(tactic| repeat (first
  | (with_reducible refine k_var (by with_unfolding_all rfl) ?_)
  | (with_reducible refine k_seq ?_)
  | (with_reducible refine k_cons ?_)
  | (with_reducible refine k_nil ?_)
  | (with_reducible refine k_c ?_)
  | (with_reducible refine k_op ?_)
  | (with_reducible refine k_asg ?_)
  | (with_reducible refine k_call ?_)
  | (with_reducible refine k_cb ?_)
  | (with_reducible refine k_i0 ?_)
  | (with_reducible refine k_addI ?_)
  | (with_reducible refine k_B ?_)
  | (with_reducible refine k_bk ?_)
  | (with_reducible refine k_if ?_)
  | (with_reducible refine k_ret ?_)
  | (with_reducible refine k_expr ?_)
  | (with_reducible refine k_next ?_)
  | (with_reducible refine k_not ?_)
  | (with_reducible refine k_and ?_)
  | (with_reducible refine k_or ?_)
  | (with_reducible refine k_ift ?_)
  | (with_reducible refine k_iff ?_)
  | (with_reducible refine k_ifnt ?_)
  | (with_reducible refine k_ifnf ?_)
  | (with_reducible refine k_fz ?_)
  | (with_reducible refine k_lc ?_)
  | (with_reducible refine k_dc ?_)
  | (with_reducible refine k_for ?_)
  | (with_reducible refine k_rng ?_)
  | (with_reducible refine k_iL ?_)
  | (with_reducible refine k_iLl ?_)
  | (with_reducible refine k_iT ?_)
  | (with_reducible refine k_iTt ?_)
  | (with_reducible refine k_zip ?_)
  | (with_reducible refine k_asgp ?_)
  | (with_reducible refine k_atn ?_)
  | (with_reducible refine k_par ?_)
  | (with_reducible refine k_parI ?_)
  | (with_reducible refine k_par3 ?_)
  | (with_reducible refine k_par3I ?_)
  | (with_reducible refine k_sub ?_)
  | (with_reducible refine k_andV ?_)
  | (with_reducible refine k_orV ?_)
  | (with_reducible refine k_notV ?_)
  | (with_reducible refine k_ifE ?_)
  | (with_reducible refine k_chain ?_)
  | (with_reducible refine k_am0 ?_)
  | (with_reducible refine k_am1 ?_)
  | (with_reducible refine k_int ?_)
  | (with_reducible refine k_eqI ?_)
  | (with_reducible refine k_neI ?_)
  | (with_reducible refine k_eqB ?_)
  | (with_reducible refine k_neB ?_)
  | (with_reducible refine k_iaddI ?_)
  | (with_reducible refine k_lenT ?_)
  | (with_reducible refine k_lenL ?_)
  | (with_reducible refine k_tru ?_)
  | (with_reducible refine k_cont ?_)
  | (with_reducible refine k_brk ?_)
  | (with_reducible refine k_retN ?_)
  | (with_reducible refine k_callK ?_)
  | (with_reducible refine k_callS1 ?_)
  | (with_reducible refine k_star ?_)
  | (with_reducible refine k_itL ?_)
  | (with_reducible refine k_itT ?_)
  | (with_reducible refine k_isi ?_)
  | (with_reducible refine k_isiT ?_)
  | (with_reducible refine k_bm ?_)
  | (with_reducible refine k_tup ?_)
  | (with_reducible refine k_lstF ?_)
  | (with_reducible refine k_lstM ?_)
  | (with_reducible refine k_aug (by with_unfolding_all rfl) ?_)
  | (with_reducible refine k_iSv (by with_unfolding_all rfl) ?_)
  | (with_reducible refine k_ixt (by with_unfolding_all rfl) ?_)
  | (with_reducible refine k_at (by with_unfolding_all rfl) ?_)
  | (with_reducible refine k_fzn ‹_› ?_)
  | (refine And.intro (by exact sz (by simp <;> omega)) ?_)
  | fail))
/-! ### specs -/
abbrev sp_law_draw : LSp := C13.sp_law_draw
abbrev sp_law_amount : LSp := C13.sp_law_amount
abbrev sp_law_sum : LSp := C13.sp_law_sum
abbrev sp_law_rest : LSp := C13.sp_law_rest
abbrev sp_law_scaled : LSp := C13.sp_law_scaled
abbrev sp_law_less : LSp := C13.sp_law_less
abbrev sp_law_min : LSp := C13.sp_law_min
abbrev sp_law_max : LSp := C13.sp_law_max
abbrev sp_law_part : LSp := C13.sp_law_part
def sp_law_of : LSp := fun ds m Φ => C13.sp_law_of ds m Φ ∨ ∃ (b : Addr) (z : Str), ds = [.ref b, .str z] ∧ m b = some (.any BagP) ∧ 0 < z.length ∧ z.length < 1000000 ∧ ∀ c ∈ z.cps.toList, Φ (.str ⟨#[c]⟩) m
def sp_law_some : LSp := fun ds m Φ => ∃ (b : Addr) (n : Nat), ds = [.ref b, .int n] ∧ m b = some (.any BagP) ∧ n < 2 ^ 30 ∧ ∀ q, Okb 30 n q → q.den ≤ 5 → Φ (am q) m
def sp_law_name : LSp := fun ds m Φ => ∃ (b : Addr) (ts : List Str), ds = [.ref b, .lst (ts.map D.str)] ∧ m b = some (.any BagP) ∧ ∀ z, Nm z → Φ (.str z) m
def sp_law_above : LSp := fun ds m Φ => ∃ (b : Addr) (p : Rat), ds = [.ref b, am p] ∧ m b = some (.any BagP) ∧ Sm p ∧ ∀ q, Sm q → p ≤ q → Φ (am q) m
def sp_law_wish : LSp := fun ds m Φ => ∃ (b r : Addr) (kvs : List (Key × D)) (g G : Rat), ds = [.ref b, .ref r] ∧ m b = some (.any BagP) ∧ m r = some (.dK kvs) ∧ valD kvs (.inr "g") = some (am g) ∧ valD kvs (.inr "G") = some (am G) ∧ Sm g ∧ Sm G ∧ g ≤ G ∧ ∀ mm, MannOk mm g G → Φ (mannD mm) m
structure RowOk (names : List Str) (k : Str) (w way : Int) (g G door : Rat) (mm : Option (Rat × Rat)) (size : D) (bufs : List Rat) : Prop where
  w1 : 1 ≤ w
  w2 : w ≤ 12
  y1 : 1 ≤ way
  y2 : way ≤ 3
  sg : Sm g
  sG : Sm G
  sd : Sm door
  gG : g ≤ G
  Gd : G ≤ door
  mo : MannOk mm g G
  kd : KindOk k size
  dz : ∀ q, size = am q → Dn 27720 q
  bl : bufs.length = names.length
  bo : ∀ q ∈ bufs, Ws q
def rowK (z : Str) (names : List Str) (k : Str) (w way : Int) (g G door : Rat) (mm : Option (Rat × Rat)) (odd : Bool) (size : D) (bufs : List Rat) : List (Key × D) :=
  [(.inr "name", .str z), (.inr "route", .lst (names.map D.str)), (.inr "kind", .str k), (.inr "w", .int w), (.inr "way", .int way), (.inr "g", am g), (.inr "G", am G), (.inr "door", am door), (.inr "wish", mannD mm), (.inr "odd", .bl odd), (.inr "size", size), (.inr "bufs", .lst (bufs.map am))]
def LeftOk (names : List Str) (kl : List (Key × D)) : Prop := ∀ n ∈ names, ∃ q, valD kl (.inr n) = some (am q) ∧ Okb 27720 1000 q
def sp_law_flow : LSp := fun ds m Φ => ∃ (b l : Addr) (z : Str) (names kinds : List Str) (wild : Bool) (kl : List (Key × D)), ds = [.ref b, .str z, .lst (names.map D.str), .ref l, .lst (kinds.map D.str), .bl wild] ∧ m b = some (.any BagP) ∧ m l = some (.dK kl) ∧ kl.length ≤ 100 ∧ LeftOk names kl ∧ names.length ≤ 10 ∧ kinds ≠ [] ∧ kinds.length < 10 ∧ (∀ k ∈ kinds, k ∈ [("level" : Str), "eager", "window", "probe"]) ∧
  ∀ (r : Addr) (kl' : List (Key × D)) (k : Str) (w way : Int) (g G door : Rat) (mm : Option (Rat × Rat)) (odd : Bool) (size : D) (bufs : List Rat), m r = none → k ∈ kinds → (wild = false → odd = false) → RowOk names k w way g G door mm size bufs → Φ (.ref r) (mset (mset m l (.dK kl')) r (.dK (rowK z names k w way g G door mm odd size bufs)))
/-- _law_of: 0 _law_bag_here, 1 _law_things -/
def qb_law_of : QS :=
  (sRet (qOp vIx (qVar 1) (qCall sp_law_draw (qCons (qVar 0) (qCons (qCB bLen (qCons (qVar 1) qNil)) qNil)))))
/-- _law_some: 0 _law_bag_here, 1 _law_most, 2 _law_bottom -/
def qb_law_some : QS :=
  (sSeq (sAsg (.nm 2) (qCall sp_law_of (qCons (qVar 0) (qCons (qLstF (qCons (qC (.int 1)) (qCons (qC (.int 1)) (qCons (qC (.int 2)) (qCons (qC (.int 1)) (qCons (qC (.int 3)) (qCons (qC (.int 1)) (qCons (qC (.int 2)) (qCons (qC (.int 5)) qNil))))))))) qNil))))
    (sRet (qCall sp_law_amount (qCons (qCall sp_law_draw (qCons (qVar 0) (qCons (qOp qAdd (qOp (qIC CM fun i j => .int (i * j)) (qVar 1) (qVar 2)) (qC (.int 1))) qNil))) (qCons (qVar 2) qNil)))))
/-- _law_part: 0 _law_bag_here, 1 _law_one, 2 _law_top, 3 _law_bottom -/
def qb_law_part : QS :=
  (sSeq (sAsg (.tp [(.nm 2), (.nm 3)]) (qCall sp_law_of (qCons (qVar 0) (qCons (qLstF (qCons (qTup (qCons (qC (.int 1)) (qCons (qC (.int 1)) qNil))) (qCons (qTup (qCons (qC (.int 0)) (qCons (qC (.int 1)) qNil))) (qCons (qTup (qCons (qC (.int 1)) (qCons (qC (.int 2)) qNil))) (qCons (qTup (qCons (qC (.int 1)) (qCons (qC (.int 1)) qNil))) (qCons (qTup (qCons (qC (.int 2)) (qCons (qC (.int 3)) qNil))) (qCons (qTup (qCons (qC (.int 1)) (qCons (qC (.int 5)) qNil))) qNil))))))) qNil))))
    (sRet (qCall sp_law_scaled (qCons (qVar 1) (qCons (qVar 2) (qCons (qVar 3) qNil))))))
/-- _law_name: 0 _law_bag_here, 1 _law_taken, 2 _law_signs, 3 _law_called, 4 _law_k -/
def qb_law_name : QS :=
  (sSeq (sAsg (.nm 2) (qC (.str "abcdefghijklmnopqrstuvwxyz")))
    (sSeq (sIf (qB (qOp vEq (qCall sp_law_draw (qCons (qVar 0) (qCons (qC (.int 4)) qNil))) (qC (.int 0)))) (sAsg (.nm 3) (qCall sp_law_of (qCons (qVar 0) (qCons (qLstF (qCons (qC (.str "self")) (qCons (qC (.str "all")) (qCons (qC (.str "level")) (qCons (qC (.str "a")) (qCons (qC (.str "aaaaaa")) (qCons (qC (.str "z")) (qCons (qC (.str "end")) (qCons (qC (.str "manner")) qNil))))))))) qNil)))) (sAsg (.nm 3) (qJoinL (qC (.str "")) (qFreeze (qLc (iRange1 (qCons (qCall sp_law_of (qCons (qVar 0) (qCons (qLstF (qCons (qC (.int 1)) (qCons (qC (.int 1)) (qCons (qC (.int 2)) (qCons (qC (.int 3)) (qCons (qC (.int 6)) qNil)))))) qNil))) qNil)) (.nm 4) qYes (qCall sp_law_of (qCons (qVar 0) (qCons (qVar 2) qNil))) [4])))))
    (sSeq (sFor (iRange1 (qCons (qC (.int 26)) qNil)) (.nm 4) (sIf (qB (qOp (vInX false) (qVar 3) (qVar 1))) (sAsg (.nm 3) (qOp qAdd (qSlS (qVar 3) qNoPart (qPart (qNeg (qC (.int 1))))) (qOp vIx (qVar 2) (qOp (qIC (fun _ j => 0 < j) fun i j => .int (i % j)) (qCB bInt (qCons (qOp qAdd (qBM "str" mIndexS (qVar 2) (qCons (qOp vIx (qVar 3) (qNeg (qC (.int 1)))) qNil)) (qC (.int 1))) qNil)) (qC (.int 26)))))) sNext))
    (sRet (qVar 3)))))
/-- _law_above: 0 _law_bag_here, 1 _law_base, 2 _law_more -/
def qb_law_above : QS :=
  (sSeq (sAsg (.nm 2) (qCall sp_law_sum (qCons (qVar 1) (qCons (qCall sp_law_some (qCons (qVar 0) (qCons (qC (.int 9)) qNil))) qNil))))
    (sSeq (sIf (qB (qOp vEq (qCall sp_law_draw (qCons (qVar 0) (qCons (qC (.int 4)) qNil))) (qC (.int 0)))) (sRet (qVar 1)) sNext)
    (sRet (qIfE (qAnd (qB (qOp (qI0 fun i j => .bl (decide (i ≤ j))) (qOp vIx (qVar 2) (qC (.int 1))) (qC (.int 12)))) (qNot (qB (qCall sp_law_less (qCons (qTup (qCons (qC (.int 1000)) (qCons (qC (.int 1)) qNil))) (qCons (qVar 2) qNil)))))) (qVar 2) (qTup (qCons (qC (.int 1000)) (qCons (qC (.int 1)) qNil)))))))
/-- _law_wish: 0 _law_bag_here, 1 _law_row, 2 _law_base -/
def qb_law_wish : QS :=
  (sSeq (sIf (qB (qOp vEq (qCall sp_law_draw (qCons (qVar 0) (qCons (qC (.int 5)) qNil))) (qC (.int 0)))) (sRet (qTup qNil)) sNext)
    (sSeq (sAsg (.nm 2) (qCall sp_law_part (qCons (qVar 0) (qCons (qOp vIx (qVar 1) (qC (.str "g"))) qNil))))
    (sSeq (sIf (qB (qOp vEq (qCall sp_law_draw (qCons (qVar 0) (qCons (qC (.int 2)) qNil))) (qC (.int 0)))) (sRet (qTup (qCons (qVar 2) (qCons (qCall sp_law_max (qCons (qVar 2) (qCons (qCall sp_law_min (qCons (qOp vIx (qVar 1) (qC (.str "G"))) (qCons (qCall sp_law_some (qCons (qVar 0) (qCons (qC (.int 6)) qNil))) qNil))) qNil))) qNil)))) sNext)
    (sRet (qTup (qCons (qVar 2) (qCons (qCall sp_law_sum (qCons (qVar 2) (qCons (qCall sp_law_part (qCons (qVar 0) (qCons (qCall sp_law_rest (qCons (qOp vIx (qVar 1) (qC (.str "G"))) (qCons (qVar 2) qNil))) qNil))) qNil))) qNil)))))))
/-- _law_flow: 0 _law_bag_here, 1 _law_called, 2 _law_route, 3 _law_left, 4 _law_kinds, 5 _law_wild, 6 _law_row, 7 _law_least_left, 8 _law_one, 9 _law_part_here, 10 _law_menu -/
def qb_law_flow : QS :=
  (sSeq (sAsg (.nm 6) (qDisp [((qC (.str "name")), (qVar 1)), ((qC (.str "route")), (qVar 2)), ((qC (.str "kind")), (qCall sp_law_of (qCons (qVar 0) (qCons (qVar 4) qNil)))), ((qC (.str "w")), (qCall sp_law_of (qCons (qVar 0) (qCons (qLstF (qCons (qC (.int 1)) (qCons (qC (.int 2)) (qCons (qC (.int 3)) (qCons (qC (.int 1)) (qCons (qC (.int 5)) (qCons (qC (.int 12)) qNil))))))) qNil))))]))
    (sSeq (sSub (qVar 6) (qC (.str "way")) (qOp qAdd (qC (.int 1)) (qCall sp_law_draw (qCons (qVar 0) (qCons (qC (.int 3)) qNil)))))
    (sSeq (sAsg (.nm 7) (qTup (qCons (qC (.int 1000)) (qCons (qC (.int 1)) qNil))))
    (sSeq (sFor (iLst (qVar 2)) (.nm 8) (sAsg (.nm 7) (qCall sp_law_min (qCons (qVar 7) (qCons (qOp vIx (qVar 3) (qVar 8)) qNil)))))
    (sSeq (sAsg (.nm 9) (qCall sp_law_some (qCons (qVar 0) (qCons (qC (.int 3)) qNil))))
    (sSeq (sIf (qB (qCall sp_law_less (qCons (qVar 7) (qCons (qVar 9) qNil)))) (sAsg (.nm 9) (qIfE (qB (qOp (qI0 fun i j => .bl (decide (i ≤ j))) (qOp vIx (qVar 7) (qC (.int 1))) (qC (.int 12)))) (qVar 7) (qTup (qCons (qC (.int 0)) (qCons (qC (.int 1)) qNil))))) sNext)
    (sSeq (sFor (iLst (qVar 2)) (.nm 8) (sSub (qVar 3) (qVar 8) (qCall sp_law_rest (qCons (qOp vIx (qVar 3) (qVar 8)) (qCons (qVar 9) qNil)))))
    (sSeq (sSub (qVar 6) (qC (.str "g")) (qVar 9))
    (sSeq (sSub (qVar 6) (qC (.str "G")) (qIfE (qB (qOp vEq (qCall sp_law_draw (qCons (qVar 0) (qCons (qC (.int 2)) qNil))) (qC (.int 0)))) (qCall sp_law_above (qCons (qVar 0) (qCons (qVar 9) qNil))) (qTup (qCons (qC (.int 1000)) (qCons (qC (.int 1)) qNil)))))
    (sSeq (sSub (qVar 6) (qC (.str "door")) (qCall sp_law_above (qCons (qVar 0) (qCons (qOp vIx (qVar 6) (qC (.str "G"))) qNil))))
    (sSeq (sSub (qVar 6) (qC (.str "wish")) (qCall sp_law_wish (qCons (qVar 0) (qCons (qVar 6) qNil))))
    (sSeq (sSub (qVar 6) (qC (.str "odd")) (qAndV (qVar 5) (qOp vEq (qCall sp_law_draw (qCons (qVar 0) (qCons (qC (.int 5)) qNil))) (qC (.int 0)))))
    (sSeq (sSub (qVar 6) (qC (.str "size")) (qC .non))
    (sSeq (sAsg (.nm 10) (qLstF (qCons (qCall sp_law_some (qCons (qVar 0) (qCons (qC (.int 9)) qNil))) (qCons (qCall sp_law_some (qCons (qVar 0) (qCons (qC (.int 9)) qNil))) (qCons (qTup (qCons (qC (.int 20)) (qCons (qC (.int 1)) qNil))) (qCons (qTup (qCons (qC (.int 1000)) (qCons (qC (.int 1)) qNil))) (qCons (qTup (qCons (qC (.int 0)) (qCons (qC (.int 1)) qNil))) qNil)))))))
    (sSeq (sSub (qVar 6) (qC (.str "bufs")) (qFreeze (qLc (iLst (qVar 2)) (.nm 8) qYes (qCall sp_law_of (qCons (qVar 0) (qCons (qVar 10) qNil))) [8])))
    (sSeq (sIf (qB (qOp vEq (qOp vIx (qVar 6) (qC (.str "kind"))) (qC (.str "window")))) (sSeq (sSub (qVar 6) (qC (.str "size")) (qCall sp_law_of (qCons (qVar 0) (qCons (qLstF (qCons (qCall sp_law_some (qCons (qVar 0) (qCons (qC (.int 9)) qNil))) (qCons (qTup (qCons (qC (.int 12)) (qCons (qC (.int 1)) qNil))) (qCons (qTup (qCons (qC (.int 1000)) (qCons (qC (.int 1)) qNil))) (qCons (qTup (qCons (qC (.int 0)) (qCons (qC (.int 1)) qNil))) qNil))))) qNil))))
    (sSub (qVar 6) (qC (.str "bufs")) (qFreeze (qLc (iLst (qOp vIx (qVar 6) (qC (.str "bufs")))) (.nm 8) qYes (qCall sp_law_sum (qCons (qOp vIx (qVar 6) (qC (.str "size"))) (qCons (qCall sp_law_part (qCons (qVar 0) (qCons (qVar 8) qNil))) qNil))) [8])))) sNext)
    (sSeq (sIf (qB (qOp vEq (qOp vIx (qVar 6) (qC (.str "kind"))) (qC (.str "probe")))) (sSub (qVar 6) (qC (.str "size")) (qOp qAdd (qC (.int 1)) (qCall sp_law_draw (qCons (qVar 0) (qCons (qC (.int 3)) qNil))))) sNext)
    (sRet (qVar 6)))))))))))))))))))
/-! ### sizes -/
/-! ### steps -/
def SlSK (x : D) (l u : Option Int) (m3 : Mem) (Φ : DK) : Prop := match x with
  | .str z => z.length ≤ sizeLine ∧ Φ (.str (cutS z l u)) m3
  | _ => False
/-! ### manners -/
/-! ### names -/
abbrev abc : Str := "abcdefghijklmnopqrstuvwxyz"
/-! ### rows -/
/-- the memory with a left dict and a row -/
def MM (m : Mem) (l r : Addr) (kl row : List (Key × D)) : Mem := mset (mset m l (.dK kl)) r (.dK row)
section
variable {m : Mem} {l r b : Addr} {kl kl' row row' : List (Key × D)}
end
theorem put_new {kl : List (Key × D)} {k : Key} {v : D} (h : (kl.any fun kv => decide (kv.1 = k)) = false) : putD kl k v = kl ++ [(k, v)] := by
  unfold putD
  rw [if_neg (by rw [h]; exact Bool.false_ne_true)]
theorem k_subN {a : Addr} {x v : D} {k : Key} {ks : List (Key × D)} {m : Mem} {F : Mem → Prop} (hm : m a = some (.dK ks)) (hk : keyD x = some k) (hl : ks.length < sizeLine) (hn : (ks.any fun kv => decide (kv.1 = k)) = false) (h : F (mset m a (.dK (ks ++ [(k, v)])))) : SubK (.ref a) x v F m := k_subD hm hk hl (by rw [put_new hn]; exact h)
theorem merge4 (a b c d : D) : mergeD [] [((.inr "name" : Key), a), (.inr "route", b), (.inr "kind", c), (.inr "w", d)] = [(.inr "name", a), (.inr "route", b), (.inr "kind", c), (.inr "w", d)] := rfl
theorem row_size (z : Str) (names : List Str) (k : Str) (w way : Int) (g G door : Rat) (mm : Option (Rat × Rat)) (odd : Bool) (size v : D) (bufs : List Rat) : putD (rowK z names k w way g G door mm odd size bufs) (.inr "size") v = rowK z names k w way g G door mm odd v bufs := rfl
theorem row_bufs (z : Str) (names : List Str) (k : Str) (w way : Int) (g G door : Rat) (mm : Option (Rat × Rat)) (odd : Bool) (size : D) (bufs us : List Rat) : putD (rowK z names k w way g G door mm odd size bufs) (.inr "bufs") (.lst (us.map am)) = rowK z names k w way g G door mm odd size us := rfl
theorem row_app (z : Str) (names : List Str) (k : Str) (w way : Int) (g G door : Rat) (mm : Option (Rat × Rat)) (odd : Bool) (size : D) (bufs : List Rat) :
    [((.inr "name" : Key), .str z), (.inr "route", .lst (names.map D.str)), (.inr "kind", .str k), (.inr "w", .int w)] ++ [(.inr "way", .int way)] ++ [(.inr "g", am g)] ++ [(.inr "G", am G)] ++ [(.inr "door", am door)] ++ [(.inr "wish", mannD mm)] ++ [(.inr "odd", .bl odd)] ++ [(.inr "size", size)] ++ [(.inr "bufs", .lst (bufs.map am))] = rowK z names k w way g G door mm odd size bufs := rfl
/-- waters of at most 1000 on the common bottom -/
structure Wm (q : Rat) : Prop where
  ok : Okb 27720 1000 q
end CF
namespace K30
open PySem PySem.Spec PyProof.Rows L2 L3 L4 PA VL
open C13 (BagP)
open PF (k_meth k_methI k_fld k_fldI k_setF k_setI)
open CF (k_subN)
local macro_rules | `(tactic| walk_at "st") => `(tactic| repeat (first
  | (with_reducible refine k_var (by with_unfolding_all rfl) ?_)
  | (with_reducible refine k_seq ?_)
  | (with_reducible refine k_cons ?_)
  | (with_reducible refine k_nil ?_)
  | (with_reducible refine k_c ?_)
  | (with_reducible refine k_op ?_)
  | (with_reducible refine k_asg ?_)
  | (with_reducible refine k_call ?_)
  | (with_reducible refine k_cb ?_)
  | (with_reducible refine k_i0 ?_)
  | (with_reducible refine k_addI ?_)
  | (with_reducible refine k_B ?_)
  | (with_reducible refine k_bk ?_)
  | (with_reducible refine k_if ?_)
  | (with_reducible refine k_ret ?_)
  | (with_reducible refine k_expr ?_)
  | (with_reducible refine k_next ?_)
  | (with_reducible refine k_not ?_)
  | (with_reducible refine k_and ?_)
  | (with_reducible refine k_or ?_)
  | (with_reducible refine k_ift ?_)
  | (with_reducible refine k_iff ?_)
  | (with_reducible refine k_ifnt ?_)
  | (with_reducible refine k_ifnf ?_)
  | (with_reducible refine k_fz ?_)
  | (with_reducible refine k_lc ?_)
  | (with_reducible refine k_dc ?_)
  | (with_reducible refine k_for ?_)
  | (with_reducible refine k_rng ?_)
  | (with_reducible refine k_iL ?_)
  | (with_reducible refine k_iLl ?_)
  | (with_reducible refine k_iT ?_)
  | (with_reducible refine k_iTt ?_)
  | (with_reducible refine k_zip ?_)
  | (with_reducible refine k_asgp ?_)
  | (with_reducible refine k_atn ?_)
  | (with_reducible refine k_par ?_)
  | (with_reducible refine k_parI ?_)
  | (with_reducible refine k_par3 ?_)
  | (with_reducible refine k_par3I ?_)
  | (with_reducible refine k_sub ?_)
  | (with_reducible refine k_andV ?_)
  | (with_reducible refine k_orV ?_)
  | (with_reducible refine k_notV ?_)
  | (with_reducible refine k_ifE ?_)
  | (with_reducible refine k_chain ?_)
  | (with_reducible refine k_am0 ?_)
  | (with_reducible refine k_am1 ?_)
  | (with_reducible refine k_int ?_)
  | (with_reducible refine k_eqI ?_)
  | (with_reducible refine k_neI ?_)
  | (with_reducible refine k_eqB ?_)
  | (with_reducible refine k_neB ?_)
  | (with_reducible refine k_iaddI ?_)
  | (with_reducible refine k_lenT ?_)
  | (with_reducible refine k_lenL ?_)
  | (with_reducible refine k_tru ?_)
  | (with_reducible refine k_cont ?_)
  | (with_reducible refine k_brk ?_)
  | (with_reducible refine k_retN ?_)
  | (with_reducible refine k_callK ?_)
  | (with_reducible refine k_callS1 ?_)
  | (with_reducible refine k_star ?_)
  | (with_reducible refine k_itL ?_)
  | (with_reducible refine k_itT ?_)
  | (with_reducible refine k_isi ?_)
  | (with_reducible refine k_isiT ?_)
  | (with_reducible refine k_bm ?_)
  | (with_reducible refine k_tup ?_)
  | (with_reducible refine k_lstF ?_)
  | (with_reducible refine k_lstM ?_)
  | (with_reducible refine k_aug (by with_unfolding_all rfl) ?_)
  | (with_reducible refine k_iSv (by with_unfolding_all rfl) ?_)
  | (with_reducible refine k_ixt (by with_unfolding_all rfl) ?_)
  | (with_reducible refine k_at (by with_unfolding_all rfl) ?_)
  | (with_reducible refine k_fzn ‹_› ?_)
  | (refine And.intro (by exact sz (by simp <;> omega)) ?_)
  | fail))
local macro_rules | `(tactic| walk_at "setf") => `(tactic| (first | refine k_setF ?_ | (dsimp only; refine k_setF ?_)))
section
variable {rs : List Rw} {n : Int} {m : Mem} {Φ : DK}
theorem rdh_law_same (n : Nat) (A : Adr) : ∀ ds m Φ, sph_law_same (n + 1) A ds m Φ → qbh_law_same n A (bodyW Φ) (begin_ 4 ds) m := SM.rdh_law_same n
theorem lenh_law_same (n : Nat) (A : Adr) : ∀ ds m Φ, sph_law_same n A ds m Φ → ds.length = 2 := SM.lenh_law_same n
theorem bf_l {d : Addr} {c : Int} : (bagF d c).lookup ("_letters" : Str) = some (D.ref d) := by rfl
theorem bf_n {d : Addr} {c : Int} : (bagF d c).lookup ("_next" : Str) = some (D.int c) := by rfl
theorem BagAt.ne {C : Addr} {m : Mem} {a d : Addr} {rs : List Rw} {c : Int} (p : BagAt C m a d rs c) : a ≠ d := ne_obj p.ob p.dc (fun z => by cases z)
theorem BagAt.keep {C : Addr} {m m' : Mem} {a d : Addr} {rs : List Rw} {c : Int} (p : BagAt C m a d rs c) (k : Grows m m') : BagAt C m' a d rs c := ⟨k.at p.ob, k.at p.dc⟩
theorem kvs_len (rs : List Rw) : (kvs rs).length = rs.length := List.length_map ..
theorem kvs_app (rs : List Rw) (r : Rw) : kvs (rs ++ [r]) = kvs rs ++ [(Sum.inl r.n, r.d)] := by unfold kvs; rw [List.map_append]; rfl
theorem kvs_val : ∀ (rs : List Rw) (k : Int), valD (kvs rs) (Sum.inl k) = (rs.find? fun r => r.n == k).map Rw.d
  | [], _ => rfl
  | r :: rs, k => by
    unfold kvs valD
    rw [List.map_cons, List.find?_cons, List.find?_cons]
    have ih := kvs_val rs k
    unfold kvs valD at ih
    by_cases h : r.n = k
    · subst h; simp
    · have h1 : (r.n == k) = false := beq_false_of_ne h
      have h2 : (decide ((Sum.inl r.n : Key) = Sum.inl k)) = false := decide_eq_false fun e => h (Sum.inl.inj e)
      rw [h1]
      show (match decide ((Sum.inl r.n : Key) = Sum.inl k) with | true => _ | false => _ : Option (Key × D)).map _ = _
      rw [h2]
      exact ih
theorem kvs_drop : ∀ (rs : List Rw) (k : Int), dropD (kvs rs) (Sum.inl k) = kvs (without rs k)
  | [], _ => rfl
  | r :: rs, k => by
    have ih := kvs_drop rs k
    unfold kvs dropD without at *
    rw [List.map_cons, List.filter_cons, List.filter_cons]
    by_cases h : r.n = k
    · have h2 : decide ((Sum.inl r.n : Key) ≠ Sum.inl k) = false := decide_eq_false fun e => e (by rw [h])
      have h3 : decide (r.n ≠ k) = false := decide_eq_false fun e => e h
      rw [h2, h3]; exact ih
    · have h2 : decide ((Sum.inl r.n : Key) ≠ Sum.inl k) = true := decide_eq_true fun e => h (Sum.inl.inj e)
      have h3 : decide (r.n ≠ k) = true := decide_eq_true h
      rw [h2, h3]
      simp only [if_true, List.map_cons]
      rw [ih]
theorem kvs_any (rs : List Rw) (k : Int) : ((kvs rs).any fun kv => decide (kv.1 = Sum.inl k)) = hasN rs k := by
  unfold kvs hasN
  rw [List.any_map]
  congr 1
  funext r
  show decide ((Sum.inl r.n : Key) = Sum.inl k) = (r.n == k)
  by_cases h : r.n = k
  · rw [h]; simp
  · rw [beq_false_of_ne h]; exact decide_eq_false fun e => h (Sum.inl.inj e)
theorem hasN_find (rs : List Rw) (k : Int) : (rs.find? fun r => r.n == k).isSome = hasN rs k := by
  unfold hasN
  induction rs with
  | nil => rfl
  | cons r rs ih =>
    rw [List.find?_cons, List.any_cons]
    cases h : r.n == k
    · simpa using ih
    · rfl
theorem hasN_iff {rs : List Rw} {k : Int} : hasN rs k = true ↔ ∃ r ∈ rs, r.n = k := by
  unfold hasN
  rw [List.any_eq_true]
  exact ⟨fun ⟨r, h1, h2⟩ => ⟨r, h1, eq_of_beq h2⟩, fun ⟨r, h1, h2⟩ => ⟨r, h1, by rw [h2]; exact beq_self_eq_true _⟩⟩
theorem hasN_mem {rs : List Rw} {r : Rw} (h : r ∈ rs) : hasN rs r.n = true := hasN_iff.mpr ⟨r, h, rfl⟩
theorem ROk.no (h : ROk rs n) : hasN rs n = false := by
  cases z : hasN rs n with
  | false => rfl
  | true =>
    obtain ⟨r, h1, h2⟩ := hasN_iff.mp z
    have := (h.lo r h1).2
    omega
theorem ROk.uniq (h : ROk rs n) {r r' : Rw} (h1 : r ∈ rs) (h2 : r' ∈ rs) (e : r.n = r'.n) : r = r' := by
  have asc := h.asc
  clear h
  induction rs with
  | nil => cases h1
  | cons x xs ih =>
    have a := List.pairwise_cons.mp asc
    rcases List.mem_cons.mp h1 with e1 | h3
    · rcases List.mem_cons.mp h2 with e2 | h4
      · rw [e1, e2]
      · have := a.1 _ h4; rw [← e1] at this; omega
    · rcases List.mem_cons.mp h2 with e2 | h4
      · have := a.1 _ h3; rw [← e2] at this; omega
      · exact ih h3 h4 a.2
theorem ROk.find (h : ROk rs n) {r : Rw} (hr : r ∈ rs) : (rs.find? fun x => x.n == r.n) = some r := by
  cases z : rs.find? fun x => x.n == r.n with
  | none =>
    have := List.find?_eq_none.mp z r hr
    simp at this
  | some y =>
    have h1 := List.mem_of_find?_eq_some z
    have h2 := List.find?_some z
    rw [h.uniq h1 hr (eq_of_beq h2)]
theorem ROk.val (h : ROk rs n) {r : Rw} (hr : r ∈ rs) : valD (kvs rs) (Sum.inl r.n) = some r.d := by rw [kvs_val, h.find hr]; rfl
theorem putD_new {ks : List (Key × D)} {k : Key} {d : D} (h : (ks.any fun kv => decide (kv.1 = k)) = false) : putD ks k d = ks ++ [(k, d)] := by
  unfold putD
  rw [h]; rfl
theorem ROk.put (h : ROk rs n) {d : D} : putD (kvs rs) (Sum.inl n) d = kvs rs ++ [(Sum.inl n, d)] := putD_new (by rw [kvs_any]; exact h.no)
theorem ROk.nil : ROk [] 0 := ⟨.nil, nofun, nofun, by decide, by decide⟩
theorem ROk.more (h : ROk rs n) {c v : D} {t : Int} (hc : flatS 3 c) (hv : flatS 3 v) (hn : n < 1000) (h0 : 0 ≤ n) : ROk (rs ++ [⟨n, c, t, v⟩]) (n + 1) where
  asc := by
    refine List.pairwise_append.mpr ⟨h.asc, List.pairwise_singleton _ _, fun x hx y hy => ?_⟩
    rw [List.mem_singleton.mp hy]
    exact (h.lo x hx).2
  lo := fun r hr => by
    rcases List.mem_append.mp hr with hr | hr
    · have := h.lo r hr; omega
    · rw [List.mem_singleton.mp hr]; exact ⟨h0, by show n < n + 1; omega⟩
  fl := fun r hr => by
    rcases List.mem_append.mp hr with hr | hr
    · exact h.fl r hr
    · rw [List.mem_singleton.mp hr]; exact ⟨hc, hv⟩
  len := by
    have := h.len
    rw [List.length_append, List.length_singleton]; omega
  top := by omega
theorem without_len (rs : List Rw) (k : Int) : (without rs k).length ≤ rs.length := List.length_filter_le ..
theorem ROk.less (h : ROk rs n) (k : Int) : ROk (without rs k) n where
  asc := h.asc.filter _
  lo := fun r hr => h.lo r (List.mem_filter.mp hr).1
  fl := fun r hr => h.fl r (List.mem_filter.mp hr).1
  len := by have := h.len; have := without_len rs k; omega
  top := h.top
theorem ROk.szl (h : ROk rs n) : rs.length ≤ 1000 := by have := h.len; have := h.top; omega
theorem flatS_up : ∀ {n : Nat} {d : D}, flatS n d → flatS (n + 1) d
  | _, .non, _ => flatS_non
  | _, .bl b, _ => flatS_bl b
  | _, .int i, _ => flatS_int i
  | n, .str z, h => flatS_str (by cases n <;> exact h)
  | n + 1, .tup ds, h => ⟨h.1, fun d hd => flatS_up (h.2 d hd)⟩
  | n + 1, .lst ds, h => ⟨h.1, fun d hd => flatS_up (h.2 d hd)⟩
  | 0, .tup _, h => h.elim
  | 0, .lst _, h => h.elim
  | n, .ref _, h => by cases n <;> exact h.elim
theorem flatS_row {r : Rw} (h : flatS 3 r.c ∧ flatS 3 r.v) : flatS 4 r.d := ⟨by show 4 < 1000000; decide, fun d hd => by
  simp only [List.mem_cons, List.not_mem_nil, or_false] at hd
  rcases hd with rfl | rfl | rfl | rfl
  · exact flatS_int _
  · exact h.1
  · exact flatS_int _
  · exact h.2⟩
end
/-! ### the bag -/
theorem len_Bag_init (A : Adr) : ∀ ds m Φ, sp_Bag_init A ds m Φ → ds.length = 1 := by rintro _ _ _ ⟨_, rfl, _⟩; rfl
theorem rd_Bag_init (A : Adr) : ∀ ds m Φ, sp_Bag_init A ds m Φ → qb_Bag_init A (bodyW Φ) (begin_ 1 ds) m := by
  rintro _ m Φ ⟨a, rfl, ha, k⟩
  unfold qb_Bag_init
  walk_at "st"
  walk_at "setf"
  intro d hd
  walk_at "st"
  have had : a ≠ d := ne_none ha hd
  refine k_setI (fs := []) (by rw [mset_ne had]; exact ha) (by decide) ?_
  walk_at "st"
  walk_at "setf"
  walk_at "st"
  refine k_setI mset_same (by show 1 < 1000; decide) ?_
  rw [mset_mset]
  refine wk_at (k d _ hd ⟨mset_same, ?_⟩ ?_)
  · rw [mset_ne (Ne.symm had), mset_same]; rfl
  · intro b o hb e
    rw [mset_ne hb, mset_ne (ne_none e hd)]; exact e
theorem len_Bag_put (A : Adr) : ∀ ds m Φ, sp_Bag_put A ds m Φ → ds.length = 4 := by rintro _ _ _ ⟨_, _, _, _, _, _, _, rfl, _⟩; rfl
theorem rd_Bag_put (A : Adr) : ∀ ds m Φ, sp_Bag_put A ds m Φ → qb_Bag_put A (bodyW Φ) (begin_ 5 ds) m := by
  rintro _ m Φ ⟨a, d, rs, n, t, c, v, rfl, hB, ok, hn, k⟩
  unfold qb_Bag_put
  walk_at "st"
  refine k_fld ?_
  walk_at "st"
  refine k_fldI hB.ob bf_n ?_
  walk_at "st"
  refine k_fld ?_
  walk_at "st"
  refine k_fldI hB.ob bf_l ?_
  walk_at "st"
  refine k_subD hB.dc rfl (by rw [kvs_len]; have := ok.szl; show _ < 16777216; omega) ?_
  rw [ok.put]
  walk_at "st"
  walk_at "setf"
  walk_at "st"
  refine k_setI (by rw [mset_ne hB.ne]; exact hB.ob) (by show 2 < 1000; decide) ?_
  walk_at "st"
  refine wk_at (k _ ⟨mset_same, ?_⟩ ?_)
  · rw [mset_ne (Ne.symm hB.ne), mset_same, kvs_app]; rfl
  · intro b o hb e
    rw [mset_ne (fun z => hb (.inl z)), mset_ne (fun z => hb (.inr z))]; exact e
theorem len_Bag_contains (A : Adr) : ∀ ds m Φ, sp_Bag_contains A ds m Φ → ds.length = 2 := by rintro _ _ _ ⟨_, _, _, _, _, rfl, _⟩; rfl
theorem rd_Bag_contains (A : Adr) : ∀ ds m Φ, sp_Bag_contains A ds m Φ → qb_Bag_contains A (bodyW Φ) (begin_ 2 ds) m := by
  rintro _ m Φ ⟨a, d, rs, n, x, rfl, hB, hx, k⟩
  unfold qb_Bag_contains
  walk_at "st"
  cases x with
  | int i =>
    refine ⟨"int", true, rfl, rfl, ?_⟩
    walk_at "st"
    refine ⟨"int", false, rfl, rfl, ?_⟩
    walk_at "st"
    refine k_fld ?_
    walk_at "st"
    refine k_fldI hB.ob bf_l ?_
    refine .inl ⟨_, ⟨_, _, .inl hB.dc, rfl, rfl⟩, ?_⟩
    rw [kvs_val]
    have : (((rs.find? fun r => r.n == i).map Rw.d).isSome) = hasN rs i := by rw [Option.isSome_map]; exact hasN_find rs i
    rw [this]
    exact wk_at k
  | bl b =>
    refine ⟨"bool", true, rfl, rfl, ?_⟩
    walk_at "st"
    refine ⟨"bool", true, rfl, rfl, ?_⟩
    walk_at "st"
    exact wk_at k
  | non => exact ⟨"NoneType", false, rfl, rfl, qif_f rfl (wk_at k)⟩
  | str z => exact ⟨"str", false, rfl, rfl, qif_f rfl (wk_at k)⟩
  | tup z => exact ⟨"tuple", false, rfl, rfl, qif_f rfl (wk_at k)⟩
  | lst z => exact ⟨"list", false, rfl, rfl, qif_f rfl (wk_at k)⟩
  | ref z => exact (show False from hx).elim
theorem len_Bag_take (A : Adr) : ∀ ds m Φ, sp_Bag_take A ds m Φ → ds.length = 2 := by rintro _ _ _ ⟨_, _, _, _, _, rfl, _⟩; rfl
theorem inO_ok {A : Adr} {a d : Addr} {rs : List Rw} {n : Int} {x : D} {neg : Bool} {m : Mem} {Φ : DK} (hB : BagAt A.Bag m a d rs n) (hx : flatS 5 x) (k : Φ (.bl (inB rs x != neg)) m) : vInO A.Bag (sp_Bag_contains A) neg x (.ref a) m Φ :=
  ⟨⟨_, hB.ob⟩, a, d, rs, n, x, rfl, hB, hx, k⟩
theorem rd_Bag_take (A : Adr) : ∀ ds m Φ, sp_Bag_take A ds m Φ → qb_Bag_take A (bodyW Φ) (begin_ 2 ds) m := by
  rintro _ m Φ ⟨a, d, rs, n, r, rfl, hB, ok, hr, k⟩
  unfold qb_Bag_take
  walk_at "st"
  refine inO_ok hB (flatS_int _) ?_
  rw [show inB rs (.int r.n) = true from hasN_mem hr]
  walk_at "st"
  refine qif_f rfl ?_
  walk_at "st"
  refine ⟨_, _, hB.ob, bf_l, ⟨_, .inl hB.dc⟩, _, _, _, hB.dc, rfl, ok.val hr, ?_⟩
  rw [kvs_drop]
  refine wk_at (k _ ⟨by rw [mset_ne hB.ne]; exact hB.ob, mset_same⟩ ?_)
  intro b o hb e
  rw [mset_ne hb]; exact e
theorem lenx_Bag_take (A : Adr) : ∀ ds m Φ Ψ, spx_Bag_take A ds m Φ Ψ → ds.length = 2 := by rintro _ _ _ _ ⟨_, _, _, _, _, rfl, _⟩; rfl
theorem rdx_Bag_take (A : Adr) : ∀ ds m Φ Ψ, spx_Bag_take A ds m Φ Ψ → qbx_Bag_take A (fun cls od _ m => ∃ m', MLe m m' ∧ Ψ cls od m') (bodyW Φ) (begin_ 2 ds) m := by
  rintro _ m Φ Ψ ⟨a, d, rs, n, x, rfl, hB, hx, hn, k⟩
  unfold qbx_Bag_take
  walk_at "st"
  refine inO_ok hB hx ?_
  rw [hn]
  walk_at "st"
  exact qif_t rfl fun e he => wk_at (k e he)
theorem len_Bag_double (A : Adr) : ∀ ds m Φ, sp_Bag_double A ds m Φ → ds.length = 2 := by rintro _ _ _ ⟨_, _, _, _, _, rfl, _⟩; rfl
theorem rd_Bag_double (A : Adr) : ∀ ds m Φ, sp_Bag_double A ds m Φ → qb_Bag_double A (bodyW Φ) (begin_ 6 ds) m := by
  rintro _ m Φ ⟨a, d, rs, n, r, rfl, hB, ok, hn, hr, k⟩
  unfold qb_Bag_double
  walk_at "st"
  refine inO_ok hB (flatS_int _) ?_
  rw [show inB rs (.int r.n) = true from hasN_mem hr]
  walk_at "st"
  refine qif_f rfl ?_
  walk_at "st"
  refine k_fld ?_
  walk_at "st"
  refine k_fldI hB.ob bf_l ?_
  walk_at "st"
  refine .inr ⟨r.d, ⟨_, _, .inl hB.dc, rfl, (ok.val hr).symm⟩, ?_⟩
  unfold Rw.d
  walk_at "st"
  refine k_meth ?_
  walk_at "st"
  refine k_methI hB.ob rfl ?_
  walk_at "st"
  exact ⟨a, d, rs, n, r.t, r.c, r.v, rfl, hB, ok, hn, fun m' h1 h2 => wk_at (k m' h1 h2)⟩
theorem lenx_Bag_double (A : Adr) : ∀ ds m Φ Ψ, spx_Bag_double A ds m Φ Ψ → ds.length = 2 := by rintro _ _ _ _ ⟨_, _, _, _, _, rfl, _⟩; rfl
theorem rdx_Bag_double (A : Adr) : ∀ ds m Φ Ψ, spx_Bag_double A ds m Φ Ψ → qbx_Bag_double A (fun cls od _ m => ∃ m', MLe m m' ∧ Ψ cls od m') (bodyW Φ) (begin_ 6 ds) m := by
  rintro _ m Φ Ψ ⟨a, d, rs, n, x, rfl, hB, hx, hn, k⟩
  unfold qbx_Bag_double
  walk_at "st"
  refine inO_ok hB hx ?_
  rw [hn]
  walk_at "st"
  exact qif_t rfl fun e he => wk_at (k e he)
theorem len_Bag_letters (A : Adr) : ∀ ds m Φ, sp_Bag_letters A ds m Φ → ds.length = 1 := by rintro _ _ _ ⟨_, _, _, _, rfl, _⟩; rfl
theorem kvs_vals (rs : List Rw) : (kvs rs).map (·.2) = rs.map Rw.d := by unfold kvs; rw [List.map_map]; rfl
theorem rd_Bag_letters (A : Adr) : ∀ ds m Φ, sp_Bag_letters A ds m Φ → qb_Bag_letters A (bodyW Φ) (begin_ 1 ds) m := by
  rintro _ m Φ ⟨a, d, rs, n, rfl, hB, k⟩
  refine ⟨_, _, hB.ob, bf_l, _, hB.dc, fun p hp => ?_⟩
  rw [kvs_vals]
  exact wk_at (k p hp)
theorem len_Bag_older (A : Adr) : ∀ ds m Φ, sp_Bag_older A ds m Φ → ds.length = 2 := by rintro _ _ _ ⟨_, _, _, _, _, rfl, _⟩; rfl
theorem unlock_lst {m : Mem} {d p : Addr} {ks : List (Key × D)} {F L : AO} (h : m d = some (.dK ks)) (hp : p ≠ d) : mset (mset (mset m d F) p L) d (.dK ks) = mset m p L := by
  funext b
  by_cases e : b = d
  · subst e; rw [mset_same, mset_ne (Ne.symm hp)]; exact h.symm
  · rw [mset_ne e]
    by_cases e2 : b = p
    · subst e2; rw [mset_same, mset_same]
    · rw [mset_ne e2, mset_ne e2, mset_ne e]
theorem rd_Bag_older (A : Adr) : ∀ ds m Φ, sp_Bag_older A ds m Φ → qb_Bag_older A (bodyW Φ) (begin_ 3 ds) m := by
  rintro _ m Φ ⟨a, d, rs, n, t, rfl, hB, ok, k⟩
  unfold qb_Bag_older
  refine k_ret ⟨d, kvs rs, hB.dc, ?_⟩
  refine k_lc ⟨_, _, by rw [mset_ne hB.ne]; exact hB.ob, bf_l, kvs rs, mset_same, ?_⟩
  rw [kvs_vals]
  refine k_lcT rs Rw.d (fun r => decide (r.t ≤ t)) Rw.d (by have := ok.szl; omega) (fun b o hb => ?_) (fun i r hr p o hp => ?_) fun p hp => ?_
  · have : d ≠ b := fun z => by rw [← z, mset_same] at hb; cases hb
    show mset (mset m d _) b o d = _
    rw [mset_ne this, mset_same]
  · refine k_atn ⟨fun Q q => ?_, fun _ Q q => ?_⟩
    · unfold Rw.d
      walk_at "st"
      exact q
    · exact q
  · have hpd : p ≠ d := fun z => by rw [z, mset_same] at hp; cases hp
    rw [mset_ne hpd] at hp
    rw [unlock_lst hB.dc hpd]
    exact wk_at (k p hp)
theorem len_Bag_copy (A : Adr) : ∀ ds m Φ, sp_Bag_copy A ds m Φ → ds.length = 1 := by rintro _ _ _ ⟨_, _, _, _, rfl, _⟩; rfl
theorem rd_Bag_copy (A : Adr) : ∀ ds m Φ, sp_Bag_copy A ds m Φ → qb_Bag_copy A (bodyW Φ) (begin_ 2 ds) m := by
  rintro _ m Φ ⟨h, d, rs, n, rfl, hp, k⟩
  refine fun a ha => ?_
  refine ⟨a, rfl, mset_same, fun d0 m0 hd0 hp0 kp => ?_⟩
  have kp1 : ∀ b o, m b = some o → m0 b = some o := fun b o e => kp b o (ne_none e ha) (by rw [mset_ne (ne_none e ha)]; exact e)
  refine ⟨_, _, kp1 _ _ hp.ob, bf_l, _, .inl (kp1 _ _ hp.dc), fun p hpn => ?_⟩
  have hap : a ≠ p := ne_none hp0.ob hpn
  have hmp : m p = none := by
    cases e : m p with
    | none => rfl
    | some o => rw [kp1 p o e] at hpn; cases hpn
  refine ⟨_, by rw [mset_ne hap]; exact hp0.ob, by show 2 < 1000; decide, ?_⟩
  have hha : h ≠ a := ne_none hp.ob ha
  have hhp : h ≠ p := ne_none hp.ob hmp
  refine ⟨_, _, by rw [mset_ne hha, mset_ne hhp]; exact kp1 _ _ hp.ob, bf_n, _, mset_same, by show 2 < 1000; decide, ?_⟩
  rw [mset_mset]
  refine wk_at (k a p _ ha hmp ⟨mset_same, by rw [mset_ne (Ne.symm hap), mset_same]⟩ ?_)
  intro b o _ e
  rw [mset_ne (ne_none e ha), mset_ne (ne_none e hmp)]
  exact kp1 b o e
theorem len_Bag_len (A : Adr) : ∀ ds m Φ, sp_Bag_len A ds m Φ → ds.length = 1 := by rintro _ _ _ ⟨_, _, _, _, rfl, _⟩; rfl
theorem rd_Bag_len (A : Adr) : ∀ ds m Φ, sp_Bag_len A ds m Φ → qb_Bag_len A (bodyW Φ) (begin_ 1 ds) m := by
  rintro _ m Φ ⟨a, d, rs, n, rfl, hB, k⟩
  refine ⟨_, _, hB.ob, bf_l, .inr ⟨_, hB.dc, ?_⟩⟩
  rw [kvs_len]
  exact wk_at k
theorem len_Bag_bool (A : Adr) : ∀ ds m Φ, sp_Bag_bool A ds m Φ → ds.length = 1 := by rintro _ _ _ ⟨_, rfl, _⟩; rfl
theorem rd_Bag_bool (A : Adr) : ∀ ds m Φ, sp_Bag_bool A ds m Φ → qb_Bag_bool A (bodyW Φ) (begin_ 1 ds) m := by
  rintro _ m Φ ⟨a, rfl, k⟩
  exact wk_at k
theorem len_Bag_eq (A : Adr) : ∀ ds m Φ, sp_Bag_eq A ds m Φ → ds.length = 2 := by rintro _ _ _ ⟨_, _, _, _, _, rfl, _⟩; rfl
theorem rd_Bag_eq (A : Adr) : ∀ ds m Φ, sp_Bag_eq A ds m Φ → qb_Bag_eq A (bodyW Φ) (begin_ 2 ds) m := by
  rintro _ m Φ ⟨a, d, rs, n, y, rfl, hB, h⟩
  rcases h with ⟨a', d', rs', n', r, rfl, hB', hh, k⟩ | ⟨l, xs, rfl, hl, k⟩
  · refine .inl ⟨⟨a', _, rfl, hB'.ob⟩, qif_t rfl ?_⟩
    refine ⟨_, _, hB.ob, bf_l, _, _, hB'.ob, bf_l, _, _, r, hB.dc, hB'.dc, by rw [kvs_len, kvs_len]; exact hh, ?_⟩
    rw [kvs_len, kvs_len]
    refine qif (fun e => ?_) (fun e => ?_)
    · refine ⟨_, _, hB.ob, bf_n, _, _, hB'.ob, bf_n, ?_⟩
      rw [e] at k
      exact wk_at k
    · rw [e] at k
      exact wk_at k
  · exact .inr ⟨.inl ⟨l, xs, rfl, hl⟩, qif_f rfl (wk_at k)⟩
end K30
namespace K30
open PySem PySem.Spec PyProof.Rows L2 L3 L4 PA VL
open C13 (BagP)
open PF (k_meth k_methI k_fld k_fldI k_setF k_setI)
local macro_rules | `(tactic| walk_at "st") => `(tactic| repeat (first
  | (with_reducible refine k_var (by with_unfolding_all rfl) ?_)
  | (with_reducible refine k_seq ?_)
  | (with_reducible refine k_cons ?_)
  | (with_reducible refine k_nil ?_)
  | (with_reducible refine k_c ?_)
  | (with_reducible refine k_op ?_)
  | (with_reducible refine k_asg ?_)
  | (with_reducible refine k_call ?_)
  | (with_reducible refine k_cb ?_)
  | (with_reducible refine k_i0 ?_)
  | (with_reducible refine k_addI ?_)
  | (with_reducible refine k_B ?_)
  | (with_reducible refine k_bk ?_)
  | (with_reducible refine k_if ?_)
  | (with_reducible refine k_ret ?_)
  | (with_reducible refine k_expr ?_)
  | (with_reducible refine k_next ?_)
  | (with_reducible refine k_not ?_)
  | (with_reducible refine k_and ?_)
  | (with_reducible refine k_or ?_)
  | (with_reducible refine k_ift ?_)
  | (with_reducible refine k_iff ?_)
  | (with_reducible refine k_ifnt ?_)
  | (with_reducible refine k_ifnf ?_)
  | (with_reducible refine k_fz ?_)
  | (with_reducible refine k_lc ?_)
  | (with_reducible refine k_dc ?_)
  | (with_reducible refine k_for ?_)
  | (with_reducible refine k_rng ?_)
  | (with_reducible refine k_iL ?_)
  | (with_reducible refine k_iLl ?_)
  | (with_reducible refine k_iT ?_)
  | (with_reducible refine k_iTt ?_)
  | (with_reducible refine k_zip ?_)
  | (with_reducible refine k_asgp ?_)
  | (with_reducible refine k_atn ?_)
  | (with_reducible refine k_par ?_)
  | (with_reducible refine k_parI ?_)
  | (with_reducible refine k_par3 ?_)
  | (with_reducible refine k_par3I ?_)
  | (with_reducible refine k_sub ?_)
  | (with_reducible refine k_andV ?_)
  | (with_reducible refine k_orV ?_)
  | (with_reducible refine k_notV ?_)
  | (with_reducible refine k_ifE ?_)
  | (with_reducible refine k_chain ?_)
  | (with_reducible refine k_am0 ?_)
  | (with_reducible refine k_am1 ?_)
  | (with_reducible refine k_int ?_)
  | (with_reducible refine k_eqI ?_)
  | (with_reducible refine k_neI ?_)
  | (with_reducible refine k_eqB ?_)
  | (with_reducible refine k_neB ?_)
  | (with_reducible refine k_iaddI ?_)
  | (with_reducible refine k_lenT ?_)
  | (with_reducible refine k_lenL ?_)
  | (with_reducible refine k_tru ?_)
  | (with_reducible refine k_cont ?_)
  | (with_reducible refine k_brk ?_)
  | (with_reducible refine k_retN ?_)
  | (with_reducible refine k_callK ?_)
  | (with_reducible refine k_callS1 ?_)
  | (with_reducible refine k_star ?_)
  | (with_reducible refine k_itL ?_)
  | (with_reducible refine k_itT ?_)
  | (with_reducible refine k_isi ?_)
  | (with_reducible refine k_isiT ?_)
  | (with_reducible refine k_bm ?_)
  | (with_reducible refine k_tup ?_)
  | (with_reducible refine k_lstF ?_)
  | (with_reducible refine k_lstM ?_)
  | (with_reducible refine k_aug (by with_unfolding_all rfl) ?_)
  | (with_reducible refine k_iSv (by with_unfolding_all rfl) ?_)
  | (with_reducible refine k_ixt (by with_unfolding_all rfl) ?_)
  | (with_reducible refine k_at (by with_unfolding_all rfl) ?_)
  | (with_reducible refine k_fzn ‹_› ?_)
  | (refine And.intro (by exact sz (by simp <;> omega)) ?_)
  | fail))
/-! ### what the law draws -/
theorem len_law_chan (A : Adr) : ∀ ds m Φ, sp_law_chan A ds m Φ → ds.length = 1 := by rintro _ _ _ ⟨_, rfl, _⟩; rfl
theorem rd_law_chan (A : Adr) : ∀ ds m Φ, sp_law_chan A ds m Φ → qb_law_chan A (bodyW Φ) (begin_ 2 ds) m := by
  rintro _ m Φ ⟨b, rfl, hb, k⟩
  unfold qb_law_chan
  walk_at "st"
  refine ⟨b, chs, hb, by unfold chs; simp, by show 7 < 1000000; decide, .inl rfl, fun x hx => wk_at (k x hx)⟩
theorem len_law_word (A : Adr) : ∀ ds m Φ, sp_law_word A ds m Φ → ds.length = 2 := by rintro _ _ _ ⟨_, _, rfl, _⟩; rfl
theorem rd_law_word (A : Adr) : ∀ ds m Φ, sp_law_word A ds m Φ → qb_law_word A (bodyW Φ) (begin_ 3 ds) m := by
  rintro _ m Φ ⟨b, c, rfl, hb, hc, k⟩
  obtain ⟨z, z2, z3, z4, rfl, hz⟩ : ∃ (z z2 z3 z4 : Str), c = .tup [.str z, .str z2, .str z3, .str z4] ∧ PyData.strOk z = true := by
    simp only [chs, List.mem_cons, List.not_mem_nil, or_false] at hc
    rcases hc with rfl | rfl | rfl | rfl | rfl | rfl | rfl <;> exact ⟨_, _, _, _, rfl, by decide +kernel⟩
  unfold qb_law_word
  walk_at "st"
  refine k_eqC (x := .str z) (y := .str "bit") 0 (by decide) hz (by show PyData.strOk _ = true; decide +kernel) fun e1 _ => ?_
  walk_at "st"
  refine qif (fun _ => ?_) (fun _ => ?_)
  · walk_at "st"
    refine ⟨b, 2, rfl, hb, by decide, by decide, fun d _ _ => ?_⟩
    walk_at "st"
    exact wk_at (k _ (flatS_bl _))
  walk_at "st"
  refine ⟨b, 9, rfl, hb, by decide, fun q1 _ => ?_⟩
  walk_at "st"
  refine ⟨b, 9, rfl, hb, by decide, fun q2 _ => ?_⟩
  walk_at "st"
  have hw : ∀ x ∈ [am q1, .tup [.int 0, .int 1], .tup [.int 1000, .int 1], .tup [.int 1501, .int 1], am q2], flatS 2 x := by
    intro x hx
    simp only [List.mem_cons, List.not_mem_nil, or_false] at hx
    rcases hx with rfl | rfl | rfl | rfl | rfl
    · exact flatS_am _
    · exact flatS_am (0 : Rat)
    · exact flatS_am (1000 : Rat)
    · exact flatS_am (1501 : Rat)
    · exact flatS_am _
  refine k_eqC (x := .str z) (y := .str "manner") 0 (by decide) hz (by show PyData.strOk _ = true; decide +kernel) fun e2 _ => ?_
  walk_at "st"
  refine qif (fun _ => ?_) (fun _ => ?_)
  · walk_at "st"
    refine ⟨b, 3, rfl, hb, by decide, by decide, fun d _ _ => ?_⟩
    walk_at "st"
    refine qif (fun _ => ?_) (fun _ => ?_)
    · walk_at "st"
      exact wk_at (k _ ⟨by decide, nofun⟩)
    · walk_at "st"
      refine ⟨b, _, hb, by simp, by show 5 < 1000000; decide, .inl rfl, fun x hx => ?_⟩
      walk_at "st"
      refine ⟨b, _, hb, by simp, by show 5 < 1000000; decide, .inl rfl, fun y hy => ?_⟩
      walk_at "st"
      refine wk_at (k _ ⟨by show 2 < 1000000; decide, fun w h => ?_⟩)
      simp only [List.mem_cons, List.not_mem_nil, or_false] at h
      rcases h with rfl | rfl
      · exact hw _ hx
      · exact hw _ hy
  · walk_at "st"
    exact ⟨b, _, hb, by simp, by show 5 < 1000000; decide, .inl rfl, fun x hx => wk_at (k x (flatS_up (hw x hx)))⟩
theorem len_law_mixed (A : Adr) : ∀ ds m Φ, sp_law_mixed A ds m Φ → ds.length = 2 := by rintro _ _ _ ⟨_, _, rfl, _⟩; rfl
theorem perm_ins {α : Type} (l : List α) (i : Nat) (y : α) : (l.take i ++ [y] ++ l.drop i).Perm (l ++ [y]) := by
  have h1 : (l.take i ++ [y] ++ l.drop i).Perm (l.take i ++ (l.drop i ++ [y])) := by
    rw [List.append_assoc]
    exact List.Perm.append_left _ List.perm_append_comm
  rw [← List.append_assoc, List.take_append_drop] at h1
  exact h1
theorem rd_law_mixed (A : Adr) : ∀ ds m Φ, sp_law_mixed A ds m Φ → qb_law_mixed A (bodyW Φ) (begin_ 4 ds) m := by
  rintro _ m Φ ⟨b, ks, rfl, hb, hl, k⟩
  unfold qb_law_mixed
  walk_at "st"
  intro p hp
  walk_at "st"
  have hbp : b ≠ p := ne_none hb hp
  refine ⟨fun i s' m' => ∃ (c : Option D) (l : List Int), s' = [some (.ref b), some (.lst (ks.map .int)), some (.ref p), c] ∧ m' = mset m p (.lst (l.map .int)) ∧ l.Perm (ks.take i), ⟨none, [], rfl, rfl, .refl _⟩, fun _ _ _ _ _ => trivial, ?_, ?_⟩
  · rintro i d s' m' hd ⟨c, l, rfl, rfl, hp1⟩
    obtain ⟨x, hx, rfl⟩ := get_map hd
    have hi := (List.getElem?_eq_some_iff.mp hx).1
    have hll : l.length = i := by rw [hp1.length_eq, List.length_take]; omega
    walk_at "st"
    refine ⟨.inl ⟨rfl, _, mset_same⟩, ?_⟩
    walk_at "st"
    refine k_lenR mset_same ?_
    walk_at "st"
    refine ⟨b, _, rfl, by rw [mset_ne hbp]; exact hb, by rw [List.length_map]; omega, by rw [List.length_map]; omega, fun d d0 d1 => ?_⟩
    walk_at "st"
    refine ⟨_, mset_same, by rw [List.length_map]; show _ < 16777216; omega, d0, by rw [List.length_map] at d1; omega, ?_⟩
    show ∃ c l', _
    rw [mset_mset]
    refine ⟨some (.int x), l.take d.toNat ++ [x] ++ l.drop d.toNat, rfl, ?_, ?_⟩
    · rw [List.map_append, List.map_append, List.map_take, List.map_drop]; rfl
    · refine (perm_ins l _ x).trans ?_
      rw [List.take_succ, hx]
      exact hp1.append_right _
  · rintro s' m' ⟨c, l, rfl, rfl, hp1⟩
    rw [List.length_map, List.take_length] at hp1
    exact wk_at (k p l hp hp1)
theorem len_law_strange (A : Adr) : ∀ ds m Φ, sp_law_strange A ds m Φ → ds.length = 3 := by rintro _ _ _ ⟨_, _, _, _, rfl, _⟩; rfl
end K30
namespace K30
open PySem PySem.Spec PyProof.Rows L2 L3 L4 PA VL
open C13 (BagP)
open PF (k_meth k_methI k_fld k_fldI k_setF k_setI)
local macro_rules | `(tactic| walk_at "st") => `(tactic| repeat (first
  | (with_reducible refine k_var (by with_unfolding_all rfl) ?_)
  | (with_reducible refine k_seq ?_)
  | (with_reducible refine k_cons ?_)
  | (with_reducible refine k_nil ?_)
  | (with_reducible refine k_c ?_)
  | (with_reducible refine k_op ?_)
  | (with_reducible refine k_asg ?_)
  | (with_reducible refine k_call ?_)
  | (with_reducible refine k_cb ?_)
  | (with_reducible refine k_i0 ?_)
  | (with_reducible refine k_addI ?_)
  | (with_reducible refine k_B ?_)
  | (with_reducible refine k_bk ?_)
  | (with_reducible refine k_if ?_)
  | (with_reducible refine k_ret ?_)
  | (with_reducible refine k_expr ?_)
  | (with_reducible refine k_next ?_)
  | (with_reducible refine k_not ?_)
  | (with_reducible refine k_and ?_)
  | (with_reducible refine k_or ?_)
  | (with_reducible refine k_ift ?_)
  | (with_reducible refine k_iff ?_)
  | (with_reducible refine k_ifnt ?_)
  | (with_reducible refine k_ifnf ?_)
  | (with_reducible refine k_fz ?_)
  | (with_reducible refine k_lc ?_)
  | (with_reducible refine k_dc ?_)
  | (with_reducible refine k_for ?_)
  | (with_reducible refine k_rng ?_)
  | (with_reducible refine k_iL ?_)
  | (with_reducible refine k_iLl ?_)
  | (with_reducible refine k_iT ?_)
  | (with_reducible refine k_iTt ?_)
  | (with_reducible refine k_zip ?_)
  | (with_reducible refine k_asgp ?_)
  | (with_reducible refine k_atn ?_)
  | (with_reducible refine k_par ?_)
  | (with_reducible refine k_parI ?_)
  | (with_reducible refine k_par3 ?_)
  | (with_reducible refine k_par3I ?_)
  | (with_reducible refine k_sub ?_)
  | (with_reducible refine k_andV ?_)
  | (with_reducible refine k_orV ?_)
  | (with_reducible refine k_notV ?_)
  | (with_reducible refine k_ifE ?_)
  | (with_reducible refine k_chain ?_)
  | (with_reducible refine k_am0 ?_)
  | (with_reducible refine k_am1 ?_)
  | (with_reducible refine k_int ?_)
  | (with_reducible refine k_eqI ?_)
  | (with_reducible refine k_neI ?_)
  | (with_reducible refine k_eqB ?_)
  | (with_reducible refine k_neB ?_)
  | (with_reducible refine k_iaddI ?_)
  | (with_reducible refine k_lenT ?_)
  | (with_reducible refine k_lenL ?_)
  | (with_reducible refine k_tru ?_)
  | (with_reducible refine k_cont ?_)
  | (with_reducible refine k_brk ?_)
  | (with_reducible refine k_retN ?_)
  | (with_reducible refine k_callK ?_)
  | (with_reducible refine k_callS1 ?_)
  | (with_reducible refine k_star ?_)
  | (with_reducible refine k_itL ?_)
  | (with_reducible refine k_itT ?_)
  | (with_reducible refine k_isi ?_)
  | (with_reducible refine k_isiT ?_)
  | (with_reducible refine k_bm ?_)
  | (with_reducible refine k_tup ?_)
  | (with_reducible refine k_lstF ?_)
  | (with_reducible refine k_lstM ?_)
  | (with_reducible refine k_aug (by with_unfolding_all rfl) ?_)
  | (with_reducible refine k_iSv (by with_unfolding_all rfl) ?_)
  | (with_reducible refine k_ixt (by with_unfolding_all rfl) ?_)
  | (with_reducible refine k_at (by with_unfolding_all rfl) ?_)
  | (with_reducible refine k_fzn ‹_› ?_)
  | (refine And.intro (by exact sz (by simp <;> omega)) ?_)
  | fail))
theorem look_of : ∀ {s : DSt} {i : Nat} {d : D}, s[i]? = some (some d) → look s i = some d
  | [], i, d, h => by simp at h
  | x :: s, 0, d, h => by
    have h : x = some d := Option.some.inj h
    subst h; rfl
  | x :: s, i + 1, d, h => by
    have h : s[i]? = some (some d) := h
    have := look_of h
    cases x <;> exact this
theorem nums_map (rs : List Rw) : rs.map (fun r => D.int r.n) = (rs.map (·.n)).map D.int := by rw [List.map_map]; rfl
theorem mem_nums {rs : List Rw} {i : Int} : decide (i ∈ rs.map (·.n)) = hasN rs i := by
  cases h : hasN rs i with
  | true =>
    obtain ⟨r, h1, h2⟩ := hasN_iff.mp h
    exact decide_eq_true (List.mem_map.mpr ⟨r, h1, h2⟩)
  | false =>
    refine decide_eq_false fun z => ?_
    obtain ⟨r, h1, h2⟩ := List.mem_map.mp z
    rw [hasN_iff.mpr ⟨r, h1, h2⟩] at h; cases h
/-- [row[0] for row in rows], frozen -/
theorem nums_ok {rs : List Rw} {s1 : DSt} {i : Nat} {C : Mem → Prop} {m : Mem} {Φ : DK} (hl : rs.length ≤ 1000) (hC : ∀ a o, m a = none → C (mset m a o)) (hi : i < s1.length) (k : Φ (.lst ((rs.map (·.n)).map D.int)) m) :
    LcIn (.nm i) qYes (qOp vIx (qVar i) (qC (.int 0))) s1 (rs.map Rw.d) C m (fun d m2 => FzK d m2 Φ) := by
  refine k_lcF rs Rw.d (fun r => D.int r.n) (by omega) hC (fun _ r _ a o ha => ?_) (by rw [nums_map]; exact k)
  refine k_atn fun Q q => ?_
  refine k_op (k_var (d := r.d) ?_ ?_)
  · have : (s1.set i (some r.d))[i]? = some (some r.d) := List.getElem?_set_self hi
    exact look_of this
  · exact k_c (k_ixt rfl q)
theorem rd_law_strange (A : Adr) : ∀ ds m Φ, sp_law_strange A ds m Φ → qb_law_strange A (bodyW Φ) (begin_ 7 ds) m := by
  rintro _ m Φ ⟨b, r, rs, n, rfl, hb, hr, ok, h0, k⟩
  obtain ⟨N, rfl⟩ := Int.eq_ofNat_of_zero_le h0
  have ht := ok.top
  unfold qb_law_strange
  walk_at "st"
  refine k_rngI (by omega) ?_
  rw [intsD_map]
  refine k_lcTF (List.range N) (fun i => D.int (i : Nat)) (fun i => !hasN rs (i : Nat)) (fun i => D.int (i : Nat)) (by rw [List.length_range]; omega) (fun _ _ _ => trivial) (fun i x hx a o ha => ?_) ?_
  · refine k_atn ⟨fun Q q => ?_, fun _ Q q => ?_⟩
    · walk_at "st"
      refine k_iLr (by rw [mset_ne (ne_none hr ha)]; exact hr) ?_
      refine nums_ok ok.szl (fun p o' hp => by rw [mset_ne (ne_none (o := .lst (rs.map Rw.d)) (by rw [mset_ne (ne_none hr ha)]; exact hr) hp), mset_ne (ne_none hr ha)]; exact hr) (by exact Nat.le_of_ble_eq_true rfl) ?_
      refine k_inI ?_
      rw [if_pos rfl, mem_nums]
      exact q
    · walk_at "st"
      exact q
  have hg : ∀ d ∈ ((List.range N).filter fun i => !hasN rs (i : Nat)).map (fun i => D.int (i : Nat)), ∃ i : Int, d = .int i ∧ hasN rs i = false := by
    intro d hd
    obtain ⟨i, h1, rfl⟩ := List.mem_map.mp hd
    exact ⟨_, rfl, by simpa using (List.mem_filter.mp h1).2⟩
  have hgl : (((List.range N).filter fun i => !hasN rs (i : Nat)).map (fun i => D.int (i : Nat))).length ≤ 1000 := by
    rw [List.length_map]
    have := List.length_filter_le (fun i : Nat => !hasN rs (i : Nat)) (List.range N)
    rw [List.length_range] at this
    omega
  generalize ((List.range N).filter fun i => !hasN rs (i : Nat)).map (fun i => D.int (i : Nat)) = gone at hg hgl
  walk_at "st"
  refine k_neC 1 (by decide) (fun d hd => ?_) (fun d hd => by cases hd) fun e he => ?_
  · obtain ⟨i, rfl, _⟩ := hg d hd
    exact cl_int 0 i
  walk_at "st"
  have hfound : ∀ d ∈ [D.non, .str "0", .str "", .lst [], .lst [.int 0], .tup [.int 0], .tup [], .int (-1), .int (N : Int), .int ((N : Int) + 1), .int 999999999, .tup [.str "level", .str "a", .str "b", .str ""], .bl true, .bl false, .bl true], flatS 5 d ∧ inB rs d = false := by
    have far : ∀ i : Int, (i < 0 ∨ (N : Int) ≤ i) → hasN rs i = false := fun i hi => by
      cases z : hasN rs i with
      | false => rfl
      | true =>
        obtain ⟨r, h1, h2⟩ := hasN_iff.mp z
        have := ok.lo r h1
        omega
    intro d hd
    simp only [List.mem_cons, List.not_mem_nil, or_false] at hd
    rcases hd with rfl | rfl | rfl | rfl | rfl | rfl | rfl | rfl | rfl | rfl | rfl | rfl | rfl | rfl | rfl
    · exact ⟨trivial, rfl⟩
    · exact ⟨by show PyData.strOk _ = true; decide +kernel, rfl⟩
    · exact ⟨by show PyData.strOk _ = true; decide +kernel, rfl⟩
    · exact ⟨⟨by decide, nofun⟩, rfl⟩
    · exact ⟨⟨by show 1 < 1000000; decide, fun x hx => by rw [List.mem_singleton.mp hx]; trivial⟩, rfl⟩
    · exact ⟨⟨by show 1 < 1000000; decide, fun x hx => by rw [List.mem_singleton.mp hx]; trivial⟩, rfl⟩
    · exact ⟨⟨by decide, nofun⟩, rfl⟩
    · exact ⟨trivial, far _ (.inl (by decide))⟩
    · exact ⟨trivial, far _ (.inr (Int.le_refl _))⟩
    · exact ⟨trivial, far _ (.inr (by omega))⟩
    · exact ⟨trivial, far _ (.inr (by omega))⟩
    · refine ⟨⟨by show 4 < 1000000; decide, fun x hx => ?_⟩, rfl⟩
      simp only [List.mem_cons, List.not_mem_nil, or_false] at hx
      rcases hx with rfl | rfl | rfl | rfl <;> (show PyData.strOk _ = true; decide +kernel)
    · exact ⟨trivial, rfl⟩
    · exact ⟨trivial, rfl⟩
    · exact ⟨trivial, rfl⟩
  have last : sp_law_of A [.ref b, .lst [D.non, .str "0", .str "", .lst [], .lst [.int 0], .tup [.int 0], .tup [], .int (-1), .int (N : Int), .int ((N : Int) + 1), .int 999999999, .tup [.str "level", .str "a", .str "b", .str ""], .bl true, .bl false, .bl true]] m (bodyW Φ).rt :=
    ⟨b, _, hb, by simp, by show 15 < 1000000; decide, .inl rfl, fun x hx => wk_at (k x (hfound x hx).1 (hfound x hx).2)⟩
  refine qif (fun h1 => ?_) (fun _ => ?_)
  · walk_at "st"
    refine ⟨b, 3, rfl, hb, by decide, by decide, fun d d0 d1 => ?_⟩
    walk_at "st"
    refine qif (fun _ => ?_) (fun _ => ?_)
    · walk_at "st"
      refine ⟨b, gone, hb, fun z => ?_, by omega, .inl rfl, fun x hx => ?_⟩
      · rw [he.mpr (by rw [z])] at h1; cases h1
      · obtain ⟨i, rfl, hi⟩ := hg x hx
        exact wk_at (k _ (flatS_int _) hi)
    · walk_at "st"
      exact last
  · walk_at "st"
    exact last
end K30
namespace K30
open PySem PySem.Spec PyProof.Rows L2 L3 L4 PA VL
open C13 (BagP)
open PF (k_meth k_methI k_fld k_fldI k_setF k_setI)
local macro_rules | `(tactic| walk_at "st") => `(tactic| repeat (first
  | (with_reducible refine k_var (by with_unfolding_all rfl) ?_)
  | (with_reducible refine k_seq ?_)
  | (with_reducible refine k_cons ?_)
  | (with_reducible refine k_nil ?_)
  | (with_reducible refine k_c ?_)
  | (with_reducible refine k_op ?_)
  | (with_reducible refine k_asg ?_)
  | (with_reducible refine k_call ?_)
  | (with_reducible refine k_cb ?_)
  | (with_reducible refine k_i0 ?_)
  | (with_reducible refine k_addI ?_)
  | (with_reducible refine k_B ?_)
  | (with_reducible refine k_bk ?_)
  | (with_reducible refine k_if ?_)
  | (with_reducible refine k_ret ?_)
  | (with_reducible refine k_expr ?_)
  | (with_reducible refine k_next ?_)
  | (with_reducible refine k_not ?_)
  | (with_reducible refine k_and ?_)
  | (with_reducible refine k_or ?_)
  | (with_reducible refine k_ift ?_)
  | (with_reducible refine k_iff ?_)
  | (with_reducible refine k_ifnt ?_)
  | (with_reducible refine k_ifnf ?_)
  | (with_reducible refine k_fz ?_)
  | (with_reducible refine k_lc ?_)
  | (with_reducible refine k_dc ?_)
  | (with_reducible refine k_for ?_)
  | (with_reducible refine k_rng ?_)
  | (with_reducible refine k_iL ?_)
  | (with_reducible refine k_iLl ?_)
  | (with_reducible refine k_iT ?_)
  | (with_reducible refine k_iTt ?_)
  | (with_reducible refine k_zip ?_)
  | (with_reducible refine k_asgp ?_)
  | (with_reducible refine k_atn ?_)
  | (with_reducible refine k_par ?_)
  | (with_reducible refine k_parI ?_)
  | (with_reducible refine k_par3 ?_)
  | (with_reducible refine k_par3I ?_)
  | (with_reducible refine k_sub ?_)
  | (with_reducible refine k_andV ?_)
  | (with_reducible refine k_orV ?_)
  | (with_reducible refine k_notV ?_)
  | (with_reducible refine k_ifE ?_)
  | (with_reducible refine k_chain ?_)
  | (with_reducible refine k_am0 ?_)
  | (with_reducible refine k_am1 ?_)
  | (with_reducible refine k_int ?_)
  | (with_reducible refine k_eqI ?_)
  | (with_reducible refine k_neI ?_)
  | (with_reducible refine k_eqB ?_)
  | (with_reducible refine k_neB ?_)
  | (with_reducible refine k_iaddI ?_)
  | (with_reducible refine k_lenT ?_)
  | (with_reducible refine k_lenL ?_)
  | (with_reducible refine k_tru ?_)
  | (with_reducible refine k_cont ?_)
  | (with_reducible refine k_brk ?_)
  | (with_reducible refine k_retN ?_)
  | (with_reducible refine k_callK ?_)
  | (with_reducible refine k_callS1 ?_)
  | (with_reducible refine k_star ?_)
  | (with_reducible refine k_itL ?_)
  | (with_reducible refine k_itT ?_)
  | (with_reducible refine k_isi ?_)
  | (with_reducible refine k_isiT ?_)
  | (with_reducible refine k_bm ?_)
  | (with_reducible refine k_tup ?_)
  | (with_reducible refine k_lstF ?_)
  | (with_reducible refine k_lstM ?_)
  | (with_reducible refine k_aug (by with_unfolding_all rfl) ?_)
  | (with_reducible refine k_iSv (by with_unfolding_all rfl) ?_)
  | (with_reducible refine k_ixt (by with_unfolding_all rfl) ?_)
  | (with_reducible refine k_at (by with_unfolding_all rfl) ?_)
  | (with_reducible refine k_fzn ‹_› ?_)
  | (refine And.intro (by exact sz (by simp <;> omega)) ?_)
  | fail))
theorem SideAt.keep {A : Adr} {m m' : Mem} {s a d r : Addr} {rs : List Rw} {n : Int} (h : SideAt A m s a d r rs n) (g : Grows m m') : SideAt A m' s a d r rs n := ⟨g.at h.sd, g.at h.rw_, h.bg.keep g, h.sr⟩
theorem same_v {n : Nat} {x y : D} {m : Mem} {Φ : DK} (e : x = y) (h : flatS n x) (k : Φ (.bl true) m) : SM.sp_law_same (n + 1) [x, y] m Φ := ⟨x, y, rfl, .inl ⟨e, h⟩, k⟩
theorem same_l {n : Nat} {x y : D} {xs : List D} {m : Mem} {Φ : DK} (lx : LItems x m xs) (ly : LItems y m xs) (hl : xs.length < 1000000) (h : ∀ d ∈ xs, flatS n d) (k : Φ (.bl true) m) : SM.sp_law_same (n + 2) [x, y] m Φ := ⟨x, y, rfl, .inr ⟨n, xs, rfl, lx, ly, hl, h⟩, k⟩
theorem rows_flat {rs : List Rw} {n : Int} (ok : ROk rs n) : ∀ d ∈ rs.map Rw.d, flatS 4 d := fun d hd => by
  obtain ⟨r, hr, rfl⟩ := List.mem_map.mp hd
  exact flatS_row (ok.fl r hr)
theorem len_law_looks (A : Adr) : ∀ ds m Φ, sp_law_looks A ds m Φ → ds.length = 2 := by rintro _ _ _ ⟨_, _, _, _, _, _, _, rfl, _⟩; rfl
theorem rd_law_looks (A : Adr) : ∀ ds m Φ, sp_law_looks A ds m Φ → qb_law_looks A (bodyW Φ) (begin_ 9 ds) m := by
  rintro _ m Φ ⟨b, s, a, d, r, rs, n, rfl, hb, hS, ok, h0, k⟩
  obtain ⟨N, rfl⟩ := Int.eq_ofNat_of_zero_le h0
  have ht := ok.top
  have hl := ok.szl
  unfold qb_law_looks
  walk_at "st"
  refine k_ixr hS.sd rfl ?_
  walk_at "st"
  refine k_ixr hS.sd rfl ?_
  walk_at "st"
  refine k_ixr hS.sd rfl ?_
  walk_at "st"
  refine ⟨⟨_, hS.bg.ob⟩, a, d, rs, _, rfl, hS.bg, ⟨by omega, by omega⟩, ?_⟩
  walk_at "st"
  refine k_lenR hS.rw_ ?_
  walk_at "st"
  refine same_v (by rw [List.length_map]) (flatS_int _) ?_
  walk_at "st"
  refine ⟨⟨_, hS.bg.ob⟩, a, rfl, ?_⟩
  walk_at "st"
  refine k_rngI (n := 2) (by decide) ?_
  refine ⟨fun i s' m' => Grows m m' ∧ ∃ c5 c6 : Option D, s' = [some (.ref b), some (.ref s), some (.ref a), some (.ref r), some (.int (N : Int)), c5, c6, none, none], ⟨Keeps.refl m, none, none, rfl⟩, fun _ _ _ _ _ => trivial, ?_, ?_⟩
  · rintro i x s' m' hx ⟨g, c5, c6, rfl⟩
    have hS' := hS.keep g
    walk_at "st"
    refine k_meth ?_
    walk_at "st"
    refine k_methI hS'.bg.ob rfl ?_
    walk_at "st"
    refine ⟨a, d, rs, _, rfl, hS'.bg, fun p hp => ?_⟩
    have g1 := g.new (o := .lst (rs.map Rw.d)) hp
    have hS1 := hS.keep g1
    walk_at "st"
    refine same_l (.inr ⟨p, rfl, mset_same⟩) (.inr ⟨r, rfl, hS1.rw_⟩) (by rw [List.length_map]; omega) (rows_flat ok) ?_
    walk_at "st"
    refine ⟨k_tyL mset_same, ?_⟩
    walk_at "st"
    refine k_app mset_same (by rw [List.length_map]; show _ < 16777216; omega) ?_
    rw [mset_mset]
    walk_at "st"
    refine ⟨k_tyL mset_same, ?_⟩
    walk_at "st"
    refine k_rev mset_same ?_
    rw [mset_mset]
    exact ⟨g.new hp, _, _, rfl⟩
  rintro s' m' ⟨g, c5, c6, rfl⟩
  have hS' := hS.keep g
  walk_at "st"
  refine ⟨b, 11, rfl, g.at hb, by decide, by decide, fun t t0 t1 => ?_⟩
  walk_at "st"
  refine k_meth ?_
  walk_at "st"
  refine k_methI hS'.bg.ob rfl ?_
  walk_at "st"
  refine ⟨a, d, rs, _, _, rfl, hS'.bg, ok, fun p hp => ?_⟩
  have g1 := g.new (o := .lst ((rs.filter fun r => decide (r.t ≤ t - 4)).map Rw.d)) hp
  have hS1 := hS.keep g1
  walk_at "st"
  refine k_iLr hS1.rw_ ?_
  refine k_lcTF rs Rw.d (fun r => decide (r.t ≤ t - 4)) Rw.d (by omega) (fun x o hx => by rw [mset_ne (ne_none hS1.rw_ hx)]; exact hS1.rw_) (fun i x hx q o hq => ?_) ?_
  · refine k_atn ⟨fun Q q => ?_, fun _ Q q => ?_⟩
    · unfold Rw.d
      walk_at "st"
      exact q
    · walk_at "st"
      exact q
  walk_at "st"
  have fl : ((rs.filter fun r => decide (r.t ≤ t - 4))).length ≤ rs.length := List.length_filter_le ..
  refine same_l (.inr ⟨p, rfl, mset_same⟩) (.inl rfl) (by rw [List.length_map]; omega) (fun d hd => ?_) ?_
  · obtain ⟨x, hx, rfl⟩ := List.mem_map.mp hd
    exact flatS_row (ok.fl x (List.mem_filter.mp hx).1)
  walk_at "st"
  refine ⟨k_tyL mset_same, ?_⟩
  walk_at "st"
  refine ⟨_, mset_same, ?_⟩
  unfold gClear
  dsimp only
  rw [mset_mset]
  have g2 := g.new (o := .lst []) hp
  have hS2 := hS.keep g2
  generalize mset m' p (.lst []) = m2 at g2 hS2
  walk_at "st"
  rw [show ((N : Int) + 2) = ((N + 2 : Nat) : Int) by omega]
  refine k_rngI (by omega) ?_
  rw [intsD_map]
  refine k_lcF (List.range (N + 2)) (fun i => D.int (i : Nat)) (fun _ => D.bl true) (by rw [List.length_range]; omega) (fun _ _ _ => trivial) (fun i x hx q o hq => ?_) ?_
  · refine k_atn fun Q h => ?_
    have hS3 : SideAt A (mset m2 q o) s a d r rs N := hS2.keep ((Keeps.refl m2).new hq)
    walk_at "st"
    refine inO_ok hS3.bg (flatS_int _) ?_
    walk_at "st"
    refine k_iLr hS3.rw_ ?_
    refine nums_ok hl (fun y o' hy => by rw [mset_ne (ne_none hS3.rw_ hy)]; exact hS3.rw_) (by exact Nat.le_of_ble_eq_true rfl) ?_
    walk_at "st"
    refine k_inI ?_
    walk_at "st"
    refine same_v ?_ (flatS_bl _) h
    rw [mem_nums]
    show D.bl (hasN rs (x : Nat) != false) = D.bl (hasN rs (x : Nat))
    rw [Bool.bne_false]
  walk_at "st"
  refine k_all (bs := (List.range (N + 2)).map fun _ => true) (.inl (by rw [List.map_map]; rfl)) ?_
  rw [show (((List.range (N + 2)).map fun _ => true).all _root_.id) = true from List.all_eq_true.mpr fun z hz => by
    obtain ⟨_, _, rfl⟩ := List.mem_map.mp hz; rfl]
  exact ⟨m, Keeps.le g2, k⟩
end K30
namespace K30
open PySem PySem.Spec PyProof.Rows L2 L3 L4 PA VL
open C13 (BagP)
open PF (k_meth k_methI k_fld k_fldI k_setF k_setI)
local macro_rules | `(tactic| walk_at "st") => `(tactic| repeat (first
  | (with_reducible refine k_var (by with_unfolding_all rfl) ?_)
  | (with_reducible refine k_seq ?_)
  | (with_reducible refine k_cons ?_)
  | (with_reducible refine k_nil ?_)
  | (with_reducible refine k_c ?_)
  | (with_reducible refine k_op ?_)
  | (with_reducible refine k_asg ?_)
  | (with_reducible refine k_call ?_)
  | (with_reducible refine k_cb ?_)
  | (with_reducible refine k_i0 ?_)
  | (with_reducible refine k_addI ?_)
  | (with_reducible refine k_B ?_)
  | (with_reducible refine k_bk ?_)
  | (with_reducible refine k_if ?_)
  | (with_reducible refine k_ret ?_)
  | (with_reducible refine k_expr ?_)
  | (with_reducible refine k_next ?_)
  | (with_reducible refine k_not ?_)
  | (with_reducible refine k_and ?_)
  | (with_reducible refine k_or ?_)
  | (with_reducible refine k_ift ?_)
  | (with_reducible refine k_iff ?_)
  | (with_reducible refine k_ifnt ?_)
  | (with_reducible refine k_ifnf ?_)
  | (with_reducible refine k_fz ?_)
  | (with_reducible refine k_lc ?_)
  | (with_reducible refine k_dc ?_)
  | (with_reducible refine k_for ?_)
  | (with_reducible refine k_rng ?_)
  | (with_reducible refine k_iL ?_)
  | (with_reducible refine k_iLl ?_)
  | (with_reducible refine k_iT ?_)
  | (with_reducible refine k_iTt ?_)
  | (with_reducible refine k_zip ?_)
  | (with_reducible refine k_asgp ?_)
  | (with_reducible refine k_atn ?_)
  | (with_reducible refine k_par ?_)
  | (with_reducible refine k_parI ?_)
  | (with_reducible refine k_par3 ?_)
  | (with_reducible refine k_par3I ?_)
  | (with_reducible refine k_sub ?_)
  | (with_reducible refine k_andV ?_)
  | (with_reducible refine k_orV ?_)
  | (with_reducible refine k_notV ?_)
  | (with_reducible refine k_ifE ?_)
  | (with_reducible refine k_chain ?_)
  | (with_reducible refine k_am0 ?_)
  | (with_reducible refine k_am1 ?_)
  | (with_reducible refine k_int ?_)
  | (with_reducible refine k_eqI ?_)
  | (with_reducible refine k_neI ?_)
  | (with_reducible refine k_eqB ?_)
  | (with_reducible refine k_neB ?_)
  | (with_reducible refine k_iaddI ?_)
  | (with_reducible refine k_lenT ?_)
  | (with_reducible refine k_lenL ?_)
  | (with_reducible refine k_tru ?_)
  | (with_reducible refine k_cont ?_)
  | (with_reducible refine k_brk ?_)
  | (with_reducible refine k_retN ?_)
  | (with_reducible refine k_callK ?_)
  | (with_reducible refine k_callS1 ?_)
  | (with_reducible refine k_star ?_)
  | (with_reducible refine k_itL ?_)
  | (with_reducible refine k_itT ?_)
  | (with_reducible refine k_isi ?_)
  | (with_reducible refine k_isiT ?_)
  | (with_reducible refine k_bm ?_)
  | (with_reducible refine k_tup ?_)
  | (with_reducible refine k_lstF ?_)
  | (with_reducible refine k_lstM ?_)
  | (with_reducible refine k_aug (by with_unfolding_all rfl) ?_)
  | (with_reducible refine k_iSv (by with_unfolding_all rfl) ?_)
  | (with_reducible refine k_ixt (by with_unfolding_all rfl) ?_)
  | (with_reducible refine k_at (by with_unfolding_all rfl) ?_)
  | (with_reducible refine k_fzn ‹_› ?_)
  | (refine And.intro (by exact sz (by simp <;> omega)) ?_)
  | fail))
theorem flat_py : ∀ (n : Nat) (d : D), flatS n d → ∃ p, PyAt n d p
  | n, .non, _ => ⟨.none, rfl, rfl, Nat.zero_le _⟩
  | n, .bl b, _ => ⟨.bool b, rfl, rfl, Nat.zero_le _⟩
  | n, .int i, _ => ⟨.int i, rfl, rfl, Nat.zero_le _⟩
  | n, .str z, h => ⟨.str z, rfl, by cases n <;> exact h, Nat.zero_le _⟩
  | n + 1, .tup ds, h => by
    obtain ⟨ps, h1, h2, h3⟩ := toPys_mem fun d hd => flat_py n d (h.2 d hd)
    exact ⟨.tuple ps, by rw [toPy, h1]; rfl, h2, by rw [PyData.depth]; omega⟩
  | n + 1, .lst ds, h => by
    obtain ⟨ps, h1, h2, h3⟩ := toPys_mem fun d hd => flat_py n d (h.2 d hd)
    exact ⟨.list ps, by rw [toPy, h1]; rfl, h2, by rw [PyData.depth]; omega⟩
  | 0, .tup _, h => h.elim
  | 0, .lst _, h => h.elim
  | n, .ref _, h => by cases n <;> exact h.elim
def pyD (d : D) : PyData := (toPy d).getD .none
/-- are two letters equal, as the language sees it -/
def eqR (x y : Rw) : Bool := PyData.eqv (pyD x.d) (pyD y.d)
theorem eqD_rows {x y : Rw} (hx : flatS 4 x.d) (hy : flatS 4 y.d) : EqD x.d y.d (eqR x y) := by
  obtain ⟨p, hp⟩ := flat_py 4 _ hx
  obtain ⟨q, hq⟩ := flat_py 4 _ hy
  exact ⟨p, q, hp.py, hq.py, shaped_at hp (by decide), shaped_at hq (by decide), by unfold eqR pyD; rw [hp.py, hq.py]; rfl⟩
theorem eqR_self {x : Rw} (hx : flatS 4 x.d) : eqR x x = true := by
  obtain ⟨p, hp⟩ := flat_py 4 _ hx
  unfold eqR pyD
  rw [hp.py]
  exact SeqAt.eqv_refl p hp.lay
theorem eqR_ne {x y : Rw} (hx : flatS 4 x.d) (hy : flatS 4 y.d) (h : x.n ≠ y.n) : eqR x y = false := by
  obtain ⟨p, hp⟩ := flat_py 4 _ hx
  obtain ⟨q, hq⟩ := flat_py 4 _ hy
  have e1 := hp.py
  have e2 := hq.py
  unfold eqR pyD
  rw [e1, e2]
  unfold Rw.d at e1 e2
  rw [toPy] at e1 e2
  cases z1 : toPys [.int x.n, x.c, .int x.t, x.v] with
  | none => rw [z1] at e1; cases e1
  | some ps =>
    cases z2 : toPys [.int y.n, y.c, .int y.t, y.v] with
    | none => rw [z2] at e2; cases e2
    | some qs =>
      rw [z1] at e1; rw [z2] at e2
      obtain ⟨p1, ps', a1, _, rfl⟩ := toPys_cons z1
      obtain ⟨q1, qs', b1, _, rfl⟩ := toPys_cons z2
      cases a1; cases b1; cases e1; cases e2
      show (PyData.eqv (.int x.n) (.int y.n) && _) = false
      rw [eqv_int, decide_eq_false h]; rfl
/-- rows == [] -/
theorem rows_nil {rs : List Rw} {n : Int} {m : Mem} {Φ : DK} {r : Addr} (ok : ROk rs n) (hr : m r = some (.lst (rs.map Rw.d))) (k : Φ (.bl rs.isEmpty) m) : vEq (.ref r) (.lst []) m Φ := by
  obtain ⟨ps, h1, h2, h3⟩ := toPys_mem (n := 4) (ds := rs.map Rw.d) fun d hd => flat_py 4 d (rows_flat ok d hd)
  refine ⟨.list ps, .list [], .inr ⟨r, _, ps, rfl, hr, h1, rfl⟩, .inl rfl, ?_, rfl, ?_⟩
  · exact shaped_at (n := 5) (d := .lst (rs.map Rw.d)) ⟨by rw [toPy, h1]; rfl, h2, by rw [PyData.depth]; omega⟩ (by decide)
  · have : PyData.eqv (.list ps) (.list []) = rs.isEmpty := by
      cases rs with
      | nil =>
        have : ps = [] := by rw [List.map_nil] at h1; cases h1; rfl
        subst this; rfl
      | cons x xs =>
        rw [List.map_cons] at h1
        obtain ⟨p, qs, _, _, rfl⟩ := toPys_cons h1
        rfl
    rw [this]; exact k
theorem rows_nnil {rs : List Rw} {n : Int} {m : Mem} {Φ : DK} {r : Addr} (ok : ROk rs n) (hr : m r = some (.lst (rs.map Rw.d))) (k : Φ (.bl !rs.isEmpty) m) : vNe (.ref r) (.lst []) m Φ := by
  obtain ⟨ps, h1, h2, h3⟩ := toPys_mem (n := 4) (ds := rs.map Rw.d) fun d hd => flat_py 4 d (rows_flat ok d hd)
  refine ⟨.list ps, .list [], .inr ⟨r, _, ps, rfl, hr, h1, rfl⟩, .inl rfl, ?_, rfl, ?_⟩
  · exact shaped_at (n := 5) (d := .lst (rs.map Rw.d)) ⟨by rw [toPy, h1]; rfl, h2, by rw [PyData.depth]; omega⟩ (by decide)
  · have : PyData.eqv (.list ps) (.list []) = rs.isEmpty := by
      cases rs with
      | nil =>
        have : ps = [] := by rw [List.map_nil] at h1; cases h1; rfl
        subst this; rfl
      | cons x xs =>
        rw [List.map_cons] at h1
        obtain ⟨p, qs, _, _, rfl⟩ := toPys_cons h1
        rfl
    rw [this]; exact k
theorem erase_without : ∀ {rs : List Rw} {j : Nat} {r : Rw}, (rs.Pairwise fun x y => x.n < y.n) → rs[j]? = some r → rs.eraseIdx j = without rs r.n
  | [], _, _, _, h => by simp at h
  | x :: xs, 0, r, a, h => by
    have h : x = r := Option.some.inj h
    subst h
    have a1 := (List.pairwise_cons.mp a).1
    show xs = List.filter _ (x :: xs)
    rw [List.filter_cons, if_neg (by simp)]
    exact (List.filter_eq_self.mpr fun y hy => by have := a1 y hy; exact decide_eq_true (by omega)).symm
  | x :: xs, j + 1, r, a, h => by
    have a1 := List.pairwise_cons.mp a
    have h : xs[j]? = some r := h
    have hm := a1.1 r (List.mem_of_getElem? h)
    show x :: xs.eraseIdx j = List.filter _ (x :: xs)
    rw [List.filter_cons, if_pos (decide_eq_true (by omega)), erase_without a1.2 h]; rfl
theorem map_erase {α β : Type} (f : α → β) : ∀ (l : List α) (j : Nat), (l.map f).eraseIdx j = (l.eraseIdx j).map f
  | [], _ => rfl
  | _ :: _, 0 => rfl
  | x :: l, j + 1 => by
    show f x :: (l.map f).eraseIdx j = f x :: (l.eraseIdx j).map f
    rw [map_erase f l j]
/-- rows.remove(row) -/
theorem rem_ok {rs : List Rw} {n : Int} {m : Mem} {Φ : DK} {r : Addr} {x : Rw} (ok : ROk rs n) (hr : m r = some (.lst (rs.map Rw.d))) (hx : x ∈ rs) (k : Φ .non (mset m r (.lst ((without rs x.n).map Rw.d)))) : mRemove (.ref r) [x.d] m Φ := by
  obtain ⟨j, hj⟩ := List.getElem?_of_mem hx
  have hjl := (List.getElem?_eq_some_iff.mp hj).1
  have fl : ∀ y ∈ rs, flatS 4 y.d := fun y hy => flatS_row (ok.fl y hy)
  refine ⟨rs.map Rw.d, fun i => match rs[i]? with | some y => eqR y x | none => false, j, hr, fun i z hz => ?_, by rw [List.length_map]; exact hjl, ?_, fun i hi => ?_, ?_⟩
  · obtain ⟨y, hy, rfl⟩ := get_map hz
    simp only [hy]
    exact eqD_rows (fl y (List.mem_of_getElem? hy)) (fl x hx)
  · simp only [hj]
    exact eqR_self (fl x hx)
  · have hil : i < rs.length := Nat.lt_trans hi hjl
    simp only [List.getElem?_eq_getElem hil]
    refine eqR_ne (fl _ (List.getElem_mem hil)) (fl x hx) ?_
    have := List.pairwise_iff_getElem.mp ok.asc i j hil hjl hi
    rw [(List.getElem?_eq_some_iff.mp hj).2] at this
    omega
  · rw [map_erase, erase_without ok.asc hj]
    exact k
/-- what is refused for what it is -/
theorem ref_ok {A : Adr} {jp : Nat} {mn : Str} {sp : LSpE} {s : DSt} {m : Mem} {Φ : DK} {a d : Addr} {rs : List Rw} {n : Int} {x : D} (ht : tabF A m) (h10 : look s 10 = some x) (hs2 : look (s.set jp (some x)) 2 = some (.ref a)) (hj : look (s.set jp (some x)) jp = some x) (hB : BagAt A.Bag m a d rs n) (hx : flatS 5 x)
    (hlk : (bagF d n).lookup mn = none) (hsp : ∀ (Φ : DK) (Ψ : DXe), (∀ e, m e = none → Ψ (.ref A.NoSuchLetter) (some e) (mset m e (.xd [("number", x)]))) → sp [.ref a, x] m Φ Ψ) (k : Φ (.bl true) m) :
    qRef A.tb_law_deed (lamq "_law_deed") [A.NoSuchLetter] jp (zMeth A.Bag mn sp (qVar 2) (qCons (qVar jp) qNil)) (qVar 10) (qs_law_refused A) (qr_law_refused A) s m Φ := by
  refine ⟨ht, k_var h10 ?_⟩
  refine k_var hs2 ⟨_, hB.ob, hlk, k_cons (k_var hj (k_nil ?_))⟩
  refine hsp _ _ fun e he => ⟨⟨_, .head _, rfl⟩, fun e' he' => ?_⟩
  unfold qs_law_refused
  walk_at "st"
  refine ⟨rfl, rfl, _, _, _, rfl, mset_same, rfl, ?_⟩
  walk_at "st"
  refine ⟨x, rfl, hx, ?_⟩
  walk_at "st"
  refine ⟨_, _, .head _, rfl, ?_⟩
  walk_at "st"
  exact ⟨rfl, _, _, rfl, mset_same, m, MLe.drop he, k⟩
end K30
namespace K30
open PySem PySem.Spec PyProof.Rows L2 L3 L4 PA VL
open C13 (BagP)
open PF (k_meth k_methI k_fld k_fldI k_setF k_setI)
local macro_rules | `(tactic| walk_at "st") => `(tactic| repeat (first
  | (with_reducible refine k_var (by with_unfolding_all rfl) ?_)
  | (with_reducible refine k_seq ?_)
  | (with_reducible refine k_cons ?_)
  | (with_reducible refine k_nil ?_)
  | (with_reducible refine k_c ?_)
  | (with_reducible refine k_op ?_)
  | (with_reducible refine k_asg ?_)
  | (with_reducible refine k_call ?_)
  | (with_reducible refine k_cb ?_)
  | (with_reducible refine k_i0 ?_)
  | (with_reducible refine k_addI ?_)
  | (with_reducible refine k_B ?_)
  | (with_reducible refine k_bk ?_)
  | (with_reducible refine k_if ?_)
  | (with_reducible refine k_ret ?_)
  | (with_reducible refine k_expr ?_)
  | (with_reducible refine k_next ?_)
  | (with_reducible refine k_not ?_)
  | (with_reducible refine k_and ?_)
  | (with_reducible refine k_or ?_)
  | (with_reducible refine k_ift ?_)
  | (with_reducible refine k_iff ?_)
  | (with_reducible refine k_ifnt ?_)
  | (with_reducible refine k_ifnf ?_)
  | (with_reducible refine k_fz ?_)
  | (with_reducible refine k_lc ?_)
  | (with_reducible refine k_dc ?_)
  | (with_reducible refine k_for ?_)
  | (with_reducible refine k_rng ?_)
  | (with_reducible refine k_iL ?_)
  | (with_reducible refine k_iLl ?_)
  | (with_reducible refine k_iT ?_)
  | (with_reducible refine k_iTt ?_)
  | (with_reducible refine k_zip ?_)
  | (with_reducible refine k_asgp ?_)
  | (with_reducible refine k_atn ?_)
  | (with_reducible refine k_par ?_)
  | (with_reducible refine k_parI ?_)
  | (with_reducible refine k_par3 ?_)
  | (with_reducible refine k_par3I ?_)
  | (with_reducible refine k_sub ?_)
  | (with_reducible refine k_andV ?_)
  | (with_reducible refine k_orV ?_)
  | (with_reducible refine k_notV ?_)
  | (with_reducible refine k_ifE ?_)
  | (with_reducible refine k_chain ?_)
  | (with_reducible refine k_am0 ?_)
  | (with_reducible refine k_am1 ?_)
  | (with_reducible refine k_int ?_)
  | (with_reducible refine k_eqI ?_)
  | (with_reducible refine k_neI ?_)
  | (with_reducible refine k_eqB ?_)
  | (with_reducible refine k_neB ?_)
  | (with_reducible refine k_iaddI ?_)
  | (with_reducible refine k_lenT ?_)
  | (with_reducible refine k_lenL ?_)
  | (with_reducible refine k_tru ?_)
  | (with_reducible refine k_cont ?_)
  | (with_reducible refine k_brk ?_)
  | (with_reducible refine k_retN ?_)
  | (with_reducible refine k_callK ?_)
  | (with_reducible refine k_callS1 ?_)
  | (with_reducible refine k_star ?_)
  | (with_reducible refine k_itL ?_)
  | (with_reducible refine k_itT ?_)
  | (with_reducible refine k_isi ?_)
  | (with_reducible refine k_isiT ?_)
  | (with_reducible refine k_bm ?_)
  | (with_reducible refine k_tup ?_)
  | (with_reducible refine k_lstF ?_)
  | (with_reducible refine k_lstM ?_)
  | (with_reducible refine k_aug (by with_unfolding_all rfl) ?_)
  | (with_reducible refine k_iSv (by with_unfolding_all rfl) ?_)
  | (with_reducible refine k_ixt (by with_unfolding_all rfl) ?_)
  | (with_reducible refine k_at (by with_unfolding_all rfl) ?_)
  | (with_reducible refine k_fzn ‹_› ?_)
  | (refine And.intro (by exact sz (by simp <;> omega)) ?_)
  | fail))
theorem ch_flat {c : D} (h : c ∈ chs) : flatS 3 c := by
  simp only [chs, List.mem_cons, List.not_mem_nil, or_false] at h
  rcases h with rfl | rfl | rfl | rfl | rfl | rfl | rfl <;> exact ⟨by show 4 < 1000000; decide, fun d hd => by
    simp only [List.mem_cons, List.not_mem_nil, or_false] at hd
    rcases hd with rfl | rfl | rfl | rfl <;> (show PyData.strOk _ = true; decide +kernel)⟩
theorem len_law_deed (A : Adr) : ∀ ds m Φ, sp_law_deed A ds m Φ → ds.length = 2 := by rintro _ _ _ ⟨_, _, _, _, _, _, _, rfl, _⟩; rfl
/-- a row more, behind a put -/
theorem side_more {A : Adr} {m m1 : Mem} {s a d r : Addr} {rs : List Rw} {n : Int} {x : Rw} (hS : SideAt A m s a d r rs n) (h1 : BagAt A.Bag m1 a d (rs ++ [x]) (n + 1)) (kp : Keeps m m1 (fun z => z = a ∨ z = d)) :
    SideAt A (mset (mset m1 r (.lst ((rs ++ [x]).map Rw.d))) s (.lst [.ref a, .ref r, .int (n + 1)])) s a d r (rs ++ [x]) (n + 1) ∧
    Keeps m (mset (mset m1 r (.lst ((rs ++ [x]).map Rw.d))) s (.lst [.ref a, .ref r, .int (n + 1)])) (fun z => z = s ∨ z = a ∨ z = d ∨ z = r) := by
  have sa : s ≠ a := ne_obj hS.sd hS.bg.ob (fun z => by cases z)
  have sd' : s ≠ d := ne_obj hS.sd hS.bg.dc (fun z => by cases z)
  have ra : r ≠ a := ne_obj hS.rw_ hS.bg.ob (fun z => by cases z)
  have rd' : r ≠ d := ne_obj hS.rw_ hS.bg.dc (fun z => by cases z)
  refine ⟨⟨mset_same, by rw [mset_ne (Ne.symm hS.sr), mset_same], ⟨?_, ?_⟩, hS.sr⟩, fun b o hb e => ?_⟩
  · rw [mset_ne (Ne.symm sa), mset_ne (Ne.symm ra)]; exact h1.ob
  · rw [mset_ne (Ne.symm sd'), mset_ne (Ne.symm rd')]; exact h1.dc
  · have hb' : ¬ (b = a ∨ b = d) := fun z => hb (.inr (z.elim .inl fun z => .inr (.inl z)))
    rw [mset_ne (fun z => hb (.inl z)), mset_ne (fun z => hb (.inr (.inr (.inr z))))]
    exact kp b o hb' e
/-- what stands at a turn of the deed -/
structure DC (A : Adr) (m : Mem) (b s a d r : Addr) (rs : List Rw) (n : Int) (w : D) (st : DSt) : Prop where
  hb : m b = some (.any BagP)
  htb : tabF A m
  hS : SideAt A m s a d r rs n
  ok : ROk rs n
  h0 : 0 ≤ n
  h1 : n < 999
  st : st = [some (.ref b), some (.ref s), some (.ref a), some (.ref r), some (.int n), some w, none, none, none, none, none, none, none]
def bPut (A : Adr) : QS := (sSeq (sAsg (.nm 6) (qCall (sp_law_chan A) (qCons (qVar 0) qNil)))
    (sSeq (sPar 7 8 (qCons (qCall (sp_law_word A) (qCons (qVar 0) (qCons (qVar 6) qNil))) (qCons (qOp (qI0 fun i j => .int (i - j)) (qCall (sp_law_draw A) (qCons (qVar 0) (qCons (qC (.int 9)) qNil))) (qC (.int 3))) qNil)))
    (sSeq (sIf (qNot (qB (qCall (sp_law_same 6 A) (qCons (qMeth A.Bag "put" (sp_Bag_put A) (qVar 2) (qCons (qVar 6) (qCons (qVar 8) (qCons (qVar 7) qNil)))) (qCons (qVar 4) qNil))))) (sRet (qC (.bl false))) sNext)
    (sSeq (sExpr (qBM "list" (mtL gAppend) (qVar 3) (qCons (qTup (qCons (qVar 4) (qCons (qVar 6) (qCons (qVar 8) (qCons (qVar 7) qNil))))) qNil)))
    (sSub (qVar 1) (qC (.int 2)) (qOp qAdd (qVar 4) (qC (.int 1))))))))
def bTake (A : Adr) : QS := (sSeq (sAsg (.nm 9) (qCall (sp_law_of A) (qCons (qVar 0) (qCons (qVar 3) qNil))))
    (sSeq (sIf (qNot (qB (qCall (sp_law_same 6 A) (qCons (qMeth A.Bag "take" (sp_Bag_take A) (qVar 2) (qCons (qOp vIx (qVar 9) (qC (.int 0))) qNil)) (qCons (qVar 9) qNil))))) (sRet (qC (.bl false))) sNext)
    (sExpr (qBM "list" mRemove (qVar 3) (qCons (qVar 9) qNil)))))
def bDbl (A : Adr) : QS := (sSeq (sAsg (.nm 9) (qCall (sp_law_of A) (qCons (qVar 0) (qCons (qVar 3) qNil))))
    (sSeq (sIf (qNot (qB (qCall (sp_law_same 6 A) (qCons (qMeth A.Bag "double" (sp_Bag_double A) (qVar 2) (qCons (qOp vIx (qVar 9) (qC (.int 0))) qNil)) (qCons (qVar 4) qNil))))) (sRet (qC (.bl false))) sNext)
    (sSeq (sExpr (qBM "list" (mtL gAppend) (qVar 3) (qCons (qTup (qCons (qVar 4) (qCons (qOp vIx (qVar 9) (qC (.int 1))) (qCons (qOp vIx (qVar 9) (qC (.int 2))) (qCons (qOp vIx (qVar 9) (qC (.int 3))) qNil))))) qNil)))
    (sSub (qVar 1) (qC (.int 2)) (qOp qAdd (qVar 4) (qC (.int 1)))))))
def bStr (A : Adr) : QS := (sSeq (sAsg (.nm 10) (qCall (sp_law_strange A) (qCons (qVar 0) (qCons (qVar 3) (qCons (qVar 4) qNil)))))
    (sSeq (sIf (qOr (qNot (qB (qCall (sp_law_same 6 A) (qCons (qOp (vInO A.Bag (sp_Bag_contains A) false) (qVar 10) (qVar 2)) (qCons (qC (.bl false)) qNil))))) (qNot (qB (qRef A.tb_law_deed (lamq "_law_deed") [A.NoSuchLetter] 11 (zMeth A.Bag "take" (spx_Bag_take A) (qVar 2) (qCons (qVar 11) qNil)) (qVar 10) (qs_law_refused A) (qr_law_refused A))))) (sRet (qC (.bl false))) sNext)
    (sRet (qRef A.tb_law_deed (lamq "_law_deed") [A.NoSuchLetter] 12 (zMeth A.Bag "double" (spx_Bag_double A) (qVar 2) (qCons (qVar 12) qNil)) (qVar 10) (qs_law_refused A) (qr_law_refused A)))))
section
variable {A : Adr} {m : Mem} {b s a d r : Addr} {rs : List Rw} {n : Int} {w : D} {st : DSt} {Φ : DK} {E : DE}
theorem deed_put (h : DC A m b s a d r rs n w st) (hE : ∀ s' m', Φ (.bl true) m' → E.nx s' m') (k : ∀ m' rs' n', Keeps m m' (fun z => z = s ∨ z = a ∨ z = d ∨ z = r) → SideAt A m' s a d r rs' n' → ROk rs' n' → n ≤ n' → n' ≤ n + 1 → Φ (.bl true) m') : bPut A E st m := by
  obtain ⟨hb, htb, hS, ok, h0, h1, rfl⟩ := h
  have hl := ok.szl
  unfold bPut
  walk_at "st"
  refine ⟨b, rfl, hb, fun c hc => ?_⟩
  walk_at "st"
  refine ⟨b, c, rfl, hb, hc, fun v hv => ?_⟩
  walk_at "st"
  refine ⟨b, 9, rfl, hb, by decide, by decide, fun t t0 t1 => ?_⟩
  walk_at "st"
  refine k_meth ?_
  walk_at "st"
  refine k_methI hS.bg.ob rfl ?_
  walk_at "st"
  refine ⟨a, d, rs, n, t - 3, c, v, rfl, hS.bg, ok, by omega, fun m1 b1 kp => ?_⟩
  walk_at "st"
  refine same_v rfl (flatS_int _) ?_
  have sa : s ≠ a := ne_obj hS.sd hS.bg.ob (fun z => by cases z)
  have sd' : s ≠ d := ne_obj hS.sd hS.bg.dc (fun z => by cases z)
  have ra : r ≠ a := ne_obj hS.rw_ hS.bg.ob (fun z => by cases z)
  have rd' : r ≠ d := ne_obj hS.rw_ hS.bg.dc (fun z => by cases z)
  have hr1 : m1 r = some (.lst (rs.map Rw.d)) := kp r _ (fun z => z.elim ra rd') hS.rw_
  have hs1 : m1 s = some (.lst [.ref a, .ref r, .int n]) := kp s _ (fun z => z.elim sa sd') hS.sd
  walk_at "st"
  refine ⟨k_tyL hr1, ?_⟩
  walk_at "st"
  refine k_app hr1 (by rw [List.length_map]; show _ < 16777216; omega) ?_
  walk_at "st"
  refine k_subL (j := 2) (by rw [mset_ne hS.sr]; exact hs1) rfl ?_
  obtain ⟨s1, s2⟩ := side_more (x := ⟨n, c, t - 3, v⟩) hS b1 kp
  rw [List.map_append] at s1 s2
  exact hE _ _ (k _ _ _ s2 s1 (ok.more (ch_flat hc) hv (by omega) h0) (by omega) (by omega))
theorem deed_take (h : DC A m b s a d r rs n w st) (hne : rs ≠ []) (hE : ∀ s' m', Φ (.bl true) m' → E.nx s' m') (k : ∀ m' rs' n', Keeps m m' (fun z => z = s ∨ z = a ∨ z = d ∨ z = r) → SideAt A m' s a d r rs' n' → ROk rs' n' → n ≤ n' → n' ≤ n + 1 → Φ (.bl true) m') : bTake A E st m := by
  obtain ⟨hb, htb, hS, ok, h0, h1, rfl⟩ := h
  have hl := ok.szl
  unfold bTake
  walk_at "st"
  refine ⟨b, _, hb, fun z => hne (List.map_eq_nil_iff.mp z), by rw [List.length_map]; omega, .inr ⟨r, rfl, hS.rw_⟩, fun x hx => ?_⟩
  obtain ⟨y, hy, rfl⟩ := List.mem_map.mp hx
  walk_at "st"
  refine k_meth ?_
  walk_at "st"
  refine k_methI hS.bg.ob rfl ?_
  unfold Rw.d
  walk_at "st"
  refine ⟨a, d, rs, n, y, rfl, hS.bg, ok, hy, fun m1 b1 kp => ?_⟩
  walk_at "st"
  refine same_v rfl (flatS_up (flatS_row (ok.fl y hy))) ?_
  have sd' : s ≠ d := ne_obj hS.sd hS.bg.dc (fun z => by cases z)
  have sa : s ≠ a := ne_obj hS.sd hS.bg.ob (fun z => by cases z)
  have ra : r ≠ a := ne_obj hS.rw_ hS.bg.ob (fun z => by cases z)
  have rd' : r ≠ d := ne_obj hS.rw_ hS.bg.dc (fun z => by cases z)
  have hr1 : m1 r = some (.lst (rs.map Rw.d)) := kp r _ rd' hS.rw_
  have hs1 : m1 s = some (.lst [.ref a, .ref r, .int n]) := kp s _ sd' hS.sd
  walk_at "st"
  refine ⟨k_tyL hr1, ?_⟩
  walk_at "st"
  refine rem_ok ok hr1 hy ?_
  refine hE _ _ (k _ (without rs y.n) n (fun c o hc e => ?_) ⟨?_, mset_same, ⟨?_, ?_⟩, hS.sr⟩ (ok.less _) (Int.le_refl _) (by omega))
  · rw [mset_ne (fun z => hc (.inr (.inr (.inr z))))]
    exact kp c o (fun z => hc (.inr (.inr (.inl z)))) e
  · rw [mset_ne hS.sr]; exact hs1
  · rw [mset_ne (Ne.symm ra)]; exact b1.ob
  · rw [mset_ne (Ne.symm rd')]; exact b1.dc
theorem deed_dbl (h : DC A m b s a d r rs n w st) (hne : rs ≠ []) (hE : ∀ s' m', Φ (.bl true) m' → E.nx s' m') (k : ∀ m' rs' n', Keeps m m' (fun z => z = s ∨ z = a ∨ z = d ∨ z = r) → SideAt A m' s a d r rs' n' → ROk rs' n' → n ≤ n' → n' ≤ n + 1 → Φ (.bl true) m') : bDbl A E st m := by
  obtain ⟨hb, htb, hS, ok, h0, h1, rfl⟩ := h
  have hl := ok.szl
  unfold bDbl
  walk_at "st"
  refine ⟨b, _, hb, fun z => hne (List.map_eq_nil_iff.mp z), by rw [List.length_map]; omega, .inr ⟨r, rfl, hS.rw_⟩, fun x hx => ?_⟩
  obtain ⟨y, hy, rfl⟩ := List.mem_map.mp hx
  walk_at "st"
  refine k_meth ?_
  walk_at "st"
  refine k_methI hS.bg.ob rfl ?_
  unfold Rw.d
  walk_at "st"
  refine ⟨a, d, rs, n, y, rfl, hS.bg, ok, by omega, hy, fun m1 b1 kp => ?_⟩
  walk_at "st"
  refine same_v rfl (flatS_int _) ?_
  have sa : s ≠ a := ne_obj hS.sd hS.bg.ob (fun z => by cases z)
  have sd' : s ≠ d := ne_obj hS.sd hS.bg.dc (fun z => by cases z)
  have ra : r ≠ a := ne_obj hS.rw_ hS.bg.ob (fun z => by cases z)
  have rd' : r ≠ d := ne_obj hS.rw_ hS.bg.dc (fun z => by cases z)
  have hr1 : m1 r = some (.lst (rs.map Rw.d)) := kp r _ (fun z => z.elim ra rd') hS.rw_
  have hs1 : m1 s = some (.lst [.ref a, .ref r, .int n]) := kp s _ (fun z => z.elim sa sd') hS.sd
  walk_at "st"
  refine ⟨k_tyL hr1, ?_⟩
  walk_at "st"
  refine k_app hr1 (by rw [List.length_map]; show _ < 16777216; omega) ?_
  walk_at "st"
  refine k_subL (j := 2) (by rw [mset_ne hS.sr]; exact hs1) rfl ?_
  obtain ⟨s1, s2⟩ := side_more (x := ⟨n, y.c, y.t, y.v⟩) hS b1 kp
  rw [List.map_append] at s1 s2
  exact hE _ _ (k _ _ _ s2 s1 (ok.more (ok.fl y hy).1 (ok.fl y hy).2 (by omega) h0) (by omega) (by omega))
theorem deed_str (h : DC A m b s a d r rs n w st) (k : Φ (.bl true) m) (hE : ∀ m', Φ (.bl true) m' → E.rt (.bl true) m') : bStr A E st m := by
  obtain ⟨hb, htb, hS, ok, h0, h1, rfl⟩ := h
  unfold bStr
  walk_at "st"
  refine ⟨b, r, rs, n, rfl, hb, hS.rw_, ok, h0, fun x hx hn => ?_⟩
  walk_at "st"
  refine inO_ok hS.bg hx ?_
  rw [hn]
  walk_at "st"
  refine same_v rfl (flatS_bl _) ?_
  walk_at "st"
  refine ref_ok htb rfl rfl rfl hS.bg hx rfl (fun Φ Ψ hh => ⟨a, d, rs, n, x, rfl, hS.bg, hx, hn, hh⟩) ?_
  walk_at "st"
  refine ref_ok htb rfl rfl rfl hS.bg hx rfl (fun Φ Ψ hh => ⟨a, d, rs, n, x, rfl, hS.bg, hx, hn, hh⟩) ?_
  exact hE _ k
end
theorem rd_law_deed (A : Adr) : ∀ ds m Φ, sp_law_deed A ds m Φ → qb_law_deed A (bodyW Φ) (begin_ 13 ds) m := by
  rintro _ m Φ ⟨b, s, a, d, r, rs, n, rfl, hb, htb, hS, ok, h0, h1, k⟩
  unfold qb_law_deed
  walk_at "st"
  refine k_ixr hS.sd rfl ?_
  walk_at "st"
  refine k_ixr hS.sd rfl ?_
  walk_at "st"
  refine k_ixr hS.sd rfl ?_
  walk_at "st"
  refine ⟨b, 8, rfl, hb, by decide, by decide, fun w w0 w1 => ?_⟩
  have hD : DC A m b s a d r rs n (.int w) [some (.ref b), some (.ref s), some (.ref a), some (.ref r), some (.int n), some (.int w), none, none, none, none, none, none, none] := ⟨hb, htb, hS, ok, h0, h1, rfl⟩
  have fin : ∀ (s' : DSt) (m' : Mem), Φ (.bl true) m' → (sRet (qC (.bl true))) (bodyW Φ) s' m' := fun s' m' h => wk_at h
  walk_at "st"
  refine qif (fun h3 => ?_) (fun h3 => ?_)
  · refine qif_t rfl ?_
    exact deed_put hD fin k
  walk_at "st"
  refine rows_nil ok hS.rw_ ?_
  walk_at "st"
  have h3' := of_decide_eq_false h3
  have str : bStr A { bodyW Φ with nx := sRet (qC (.bl true)) (bodyW Φ) } [some (.ref b), some (.ref s), some (.ref a), some (.ref r), some (.int n), some (.int w), none, none, none, none, none, none, none] m := deed_str hD (k m rs n (fun _ _ _ e => e) hS ok (Int.le_refl _) (by omega)) fun m' h => wk_at h
  refine qif (fun he => ?_) (fun he => ?_)
  · walk_at "st"
    refine qif (fun h7 => ?_) (fun h7 => ?_)
    · exact deed_put hD fin k
    have h7' := of_decide_eq_false h7
    walk_at "st"
    refine qif_f (decide_eq_false (by omega)) ?_
    walk_at "st"
    refine qif_f (decide_eq_false (by omega)) ?_
    exact str
  have hne : rs ≠ [] := fun z => by rw [z] at he; cases he
  walk_at "st"
  refine qif (fun h5 => ?_) (fun h5 => ?_)
  · exact deed_take hD hne fin k
  walk_at "st"
  refine qif (fun h7 => ?_) (fun h7 => ?_)
  · exact deed_dbl hD hne fin k
  · exact str
end K30
namespace K30
open PySem PySem.Spec PyProof.Rows L2 L3 L4 PA VL
open C13 (BagP)
open PF (k_meth k_methI k_fld k_fldI k_setF k_setI)
local macro_rules | `(tactic| walk_at "st") => `(tactic| repeat (first
  | (with_reducible refine k_var (by with_unfolding_all rfl) ?_)
  | (with_reducible refine k_seq ?_)
  | (with_reducible refine k_cons ?_)
  | (with_reducible refine k_nil ?_)
  | (with_reducible refine k_c ?_)
  | (with_reducible refine k_op ?_)
  | (with_reducible refine k_asg ?_)
  | (with_reducible refine k_call ?_)
  | (with_reducible refine k_cb ?_)
  | (with_reducible refine k_i0 ?_)
  | (with_reducible refine k_addI ?_)
  | (with_reducible refine k_B ?_)
  | (with_reducible refine k_bk ?_)
  | (with_reducible refine k_if ?_)
  | (with_reducible refine k_ret ?_)
  | (with_reducible refine k_expr ?_)
  | (with_reducible refine k_next ?_)
  | (with_reducible refine k_not ?_)
  | (with_reducible refine k_and ?_)
  | (with_reducible refine k_or ?_)
  | (with_reducible refine k_ift ?_)
  | (with_reducible refine k_iff ?_)
  | (with_reducible refine k_ifnt ?_)
  | (with_reducible refine k_ifnf ?_)
  | (with_reducible refine k_fz ?_)
  | (with_reducible refine k_lc ?_)
  | (with_reducible refine k_dc ?_)
  | (with_reducible refine k_for ?_)
  | (with_reducible refine k_rng ?_)
  | (with_reducible refine k_iL ?_)
  | (with_reducible refine k_iLl ?_)
  | (with_reducible refine k_iT ?_)
  | (with_reducible refine k_iTt ?_)
  | (with_reducible refine k_zip ?_)
  | (with_reducible refine k_asgp ?_)
  | (with_reducible refine k_atn ?_)
  | (with_reducible refine k_par ?_)
  | (with_reducible refine k_parI ?_)
  | (with_reducible refine k_par3 ?_)
  | (with_reducible refine k_par3I ?_)
  | (with_reducible refine k_sub ?_)
  | (with_reducible refine k_andV ?_)
  | (with_reducible refine k_orV ?_)
  | (with_reducible refine k_notV ?_)
  | (with_reducible refine k_ifE ?_)
  | (with_reducible refine k_chain ?_)
  | (with_reducible refine k_am0 ?_)
  | (with_reducible refine k_am1 ?_)
  | (with_reducible refine k_int ?_)
  | (with_reducible refine k_eqI ?_)
  | (with_reducible refine k_neI ?_)
  | (with_reducible refine k_eqB ?_)
  | (with_reducible refine k_neB ?_)
  | (with_reducible refine k_iaddI ?_)
  | (with_reducible refine k_lenT ?_)
  | (with_reducible refine k_lenL ?_)
  | (with_reducible refine k_tru ?_)
  | (with_reducible refine k_cont ?_)
  | (with_reducible refine k_brk ?_)
  | (with_reducible refine k_retN ?_)
  | (with_reducible refine k_callK ?_)
  | (with_reducible refine k_callS1 ?_)
  | (with_reducible refine k_star ?_)
  | (with_reducible refine k_itL ?_)
  | (with_reducible refine k_itT ?_)
  | (with_reducible refine k_isi ?_)
  | (with_reducible refine k_isiT ?_)
  | (with_reducible refine k_bm ?_)
  | (with_reducible refine k_tup ?_)
  | (with_reducible refine k_lstF ?_)
  | (with_reducible refine k_lstM ?_)
  | (with_reducible refine k_aug (by with_unfolding_all rfl) ?_)
  | (with_reducible refine k_iSv (by with_unfolding_all rfl) ?_)
  | (with_reducible refine k_ixt (by with_unfolding_all rfl) ?_)
  | (with_reducible refine k_at (by with_unfolding_all rfl) ?_)
  | (with_reducible refine k_fzn ‹_› ?_)
  | (refine And.intro (by exact sz (by simp <;> omega)) ?_)
  | fail))
theorem atI_nat {α : Type} {xs : List α} {i : Nat} {x : α} (h : xs[i]? = some x) : L2.atI xs (i : Nat) = some x := by
  have hi := (List.getElem?_eq_some_iff.mp h).1
  unfold L2.atI ixN
  rw [if_pos (by omega), if_pos (by omega)]
  show xs[(i : Int).toNat]? = some x
  rw [Int.toNat_natCast]; exact h
/-- the row with a number -/
theorem idx_row : ∀ {rs : List Rw} {k : Int}, hasN rs k = true → ∃ r ∈ rs, rs[(rs.map (·.n)).idxOf k]? = some r ∧ r.n = k
  | [], k, h => by cases h
  | x :: rs, k, h => by
    by_cases e : x.n = k
    · refine ⟨x, .head _, ?_, e⟩
      rw [List.map_cons, List.idxOf_cons, e, beq_self_eq_true]; rfl
    · have h2 : hasN rs k = true := by
        obtain ⟨r, h1, h2⟩ := hasN_iff.mp h
        rcases List.mem_cons.mp h1 with rfl | h1
        · exact absurd h2 e
        · exact hasN_iff.mpr ⟨r, h1, h2⟩
      obtain ⟨r, h3, h4, h5⟩ := idx_row h2
      refine ⟨r, .tail _ h3, ?_, h5⟩
      rw [List.map_cons, List.idxOf_cons, beq_false_of_ne e]
      exact h4
theorem mem_without {rs : List Rw} {k : Int} {x : Rw} : x ∈ without rs k ↔ x ∈ rs ∧ x.n ≠ k := by
  unfold without
  rw [List.mem_filter, decide_eq_true_eq]
/-- two ascending lists of the same letters -/
theorem asc_ext : ∀ {xs ys : List Rw}, (xs.Pairwise fun x y => x.n < y.n) → (ys.Pairwise fun x y => x.n < y.n) → (∀ z, z ∈ xs ↔ z ∈ ys) → xs = ys
  | [], [], _, _, _ => rfl
  | [], y :: ys, _, _, h => by have := (h y).mpr (.head _); cases this
  | x :: xs, [], _, _, h => by have := (h x).mp (.head _); cases this
  | x :: xs, y :: ys, a, b, h => by
    have a1 := List.pairwise_cons.mp a
    have b1 := List.pairwise_cons.mp b
    have e : x = y := by
      rcases List.mem_cons.mp ((h x).mp (.head _)) with e | hx
      · exact e
      · rcases List.mem_cons.mp ((h y).mpr (.head _)) with e | hy
        · exact e.symm
        · have h1 := a1.1 y hy
          have h2 := b1.1 x hx
          omega
    subst e
    rw [asc_ext a1.2 b1.2 fun z => ?_]
    refine ⟨fun hz => ?_, fun hz => ?_⟩
    · rcases List.mem_cons.mp ((h z).mp (.tail _ hz)) with rfl | hz'
      · have := a1.1 z hz; omega
      · exact hz'
    · rcases List.mem_cons.mp ((h z).mpr (.tail _ hz)) with rfl | hz'
      · have := b1.1 z hz; omega
      · exact hz'
theorem hits_self {rs : List Rw} {n : Int} (ok : ROk rs n) : HitsD (kvs rs) (kvs rs) true := by
  have go : ∀ xs : List Rw, (∀ x ∈ xs, x ∈ rs) → HitsD (kvs rs) (kvs xs) true := by
    intro xs
    induction xs with
    | nil => intro _; rfl
    | cons x xs ih =>
      intro h
      have hx := h x (.head _)
      have fx := flatS_row (ok.fl x hx)
      refine .inr ⟨x.d, true, true, ok.val hx, ?_, ih fun y hy => h y (.tail _ hy), rfl⟩
      have := eqD_rows fx fx
      rw [eqR_self fx] at this
      exact this
  exact go rs fun _ h => h
theorem eq_self_ok {A : Adr} {m : Mem} {Φ : DK} {a d a' d' : Addr} {rs : List Rw} {n n' : Int} {ok0 : Int} (ok : ROk rs ok0) (h1 : BagAt A.Bag m a d rs n) (h2 : BagAt A.Bag m a' d' rs n') (k : Φ (.bl (decide (n = n'))) m) : vEqO A.Bag (sp_Bag_eq A) (.ref a) (.ref a') m Φ :=
  ⟨⟨_, h1.ob⟩, ⟨_, h2.ob⟩, a, d, rs, n, .ref a', rfl, h1, .inl ⟨a', d', rs, n', true, rfl, h2, fun _ => hits_self ok, by
    rw [beq_self_eq_true, Bool.and_true, Bool.true_and]; exact k⟩⟩
theorem eq_len_ok {A : Adr} {m : Mem} {Φ : DK} {a d a' d' : Addr} {rs rs' : List Rw} {n n' : Int} (h1 : BagAt A.Bag m a d rs n) (h2 : BagAt A.Bag m a' d' rs' n') (hl : rs.length ≠ rs'.length) (k : Φ (.bl false) m) : vEqO A.Bag (sp_Bag_eq A) (.ref a) (.ref a') m Φ :=
  ⟨⟨_, h1.ob⟩, ⟨_, h2.ob⟩, a, d, rs, n, .ref a', rfl, h1, .inl ⟨a', d', rs', n', true, rfl, h2, fun z => absurd z hl, by
    rw [beq_false_of_ne hl, Bool.false_and, Bool.false_and]; exact k⟩⟩
theorem eq_list_ok {A : Adr} {m : Mem} {Φ : DK} {a d r : Addr} {rs : List Rw} {n : Int} {xs : List D} (h1 : BagAt A.Bag m a d rs n) (h2 : m r = some (.lst xs)) (k : Φ (.bl false) m) : vEqL A.Bag (sp_Bag_eq A) (.ref a) (.ref r) m Φ :=
  ⟨⟨_, h1.ob⟩, .inr (.inl ⟨r, xs, rfl, h2⟩), a, d, rs, n, .ref r, rfl, h1, .inr ⟨r, xs, rfl, h2, k⟩⟩
end K30
namespace K30
open PySem PySem.Spec PyProof.Rows L2 L3 L4 PA VL
open C13 (BagP)
open PF (k_meth k_methI k_fld k_fldI k_setF k_setI)
local macro_rules | `(tactic| walk_at "st") => `(tactic| repeat (first
  | (with_reducible refine k_var (by with_unfolding_all rfl) ?_)
  | (with_reducible refine k_seq ?_)
  | (with_reducible refine k_cons ?_)
  | (with_reducible refine k_nil ?_)
  | (with_reducible refine k_c ?_)
  | (with_reducible refine k_op ?_)
  | (with_reducible refine k_asg ?_)
  | (with_reducible refine k_call ?_)
  | (with_reducible refine k_cb ?_)
  | (with_reducible refine k_i0 ?_)
  | (with_reducible refine k_addI ?_)
  | (with_reducible refine k_B ?_)
  | (with_reducible refine k_bk ?_)
  | (with_reducible refine k_if ?_)
  | (with_reducible refine k_ret ?_)
  | (with_reducible refine k_expr ?_)
  | (with_reducible refine k_next ?_)
  | (with_reducible refine k_not ?_)
  | (with_reducible refine k_and ?_)
  | (with_reducible refine k_or ?_)
  | (with_reducible refine k_ift ?_)
  | (with_reducible refine k_iff ?_)
  | (with_reducible refine k_ifnt ?_)
  | (with_reducible refine k_ifnf ?_)
  | (with_reducible refine k_fz ?_)
  | (with_reducible refine k_lc ?_)
  | (with_reducible refine k_dc ?_)
  | (with_reducible refine k_for ?_)
  | (with_reducible refine k_rng ?_)
  | (with_reducible refine k_iL ?_)
  | (with_reducible refine k_iLl ?_)
  | (with_reducible refine k_iT ?_)
  | (with_reducible refine k_iTt ?_)
  | (with_reducible refine k_zip ?_)
  | (with_reducible refine k_asgp ?_)
  | (with_reducible refine k_atn ?_)
  | (with_reducible refine k_par ?_)
  | (with_reducible refine k_parI ?_)
  | (with_reducible refine k_par3 ?_)
  | (with_reducible refine k_par3I ?_)
  | (with_reducible refine k_sub ?_)
  | (with_reducible refine k_andV ?_)
  | (with_reducible refine k_orV ?_)
  | (with_reducible refine k_notV ?_)
  | (with_reducible refine k_ifE ?_)
  | (with_reducible refine k_chain ?_)
  | (with_reducible refine k_am0 ?_)
  | (with_reducible refine k_am1 ?_)
  | (with_reducible refine k_int ?_)
  | (with_reducible refine k_eqI ?_)
  | (with_reducible refine k_neI ?_)
  | (with_reducible refine k_eqB ?_)
  | (with_reducible refine k_neB ?_)
  | (with_reducible refine k_iaddI ?_)
  | (with_reducible refine k_lenT ?_)
  | (with_reducible refine k_lenL ?_)
  | (with_reducible refine k_tru ?_)
  | (with_reducible refine k_cont ?_)
  | (with_reducible refine k_brk ?_)
  | (with_reducible refine k_retN ?_)
  | (with_reducible refine k_callK ?_)
  | (with_reducible refine k_callS1 ?_)
  | (with_reducible refine k_star ?_)
  | (with_reducible refine k_itL ?_)
  | (with_reducible refine k_itT ?_)
  | (with_reducible refine k_isi ?_)
  | (with_reducible refine k_isiT ?_)
  | (with_reducible refine k_bm ?_)
  | (with_reducible refine k_tup ?_)
  | (with_reducible refine k_lstF ?_)
  | (with_reducible refine k_lstM ?_)
  | (with_reducible refine k_aug (by with_unfolding_all rfl) ?_)
  | (with_reducible refine k_iSv (by with_unfolding_all rfl) ?_)
  | (with_reducible refine k_ixt (by with_unfolding_all rfl) ?_)
  | (with_reducible refine k_at (by with_unfolding_all rfl) ?_)
  | (with_reducible refine k_fzn ‹_› ?_)
  | (refine And.intro (by exact sz (by simp <;> omega)) ?_)
  | fail))
/-- a bag of our own beside what stood -/
structure EI (A : Adr) (m m' : Mem) (a2 d2 : Addr) (qs : List Rw) (c : Int) : Prop where
  g : Grows m m'
  na : m a2 = none
  nd : m d2 = none
  bg : BagAt A.Bag m' a2 d2 qs c
  ok : ROk qs c
theorem EI.more {A : Adr} {m m' m2 : Mem} {a2 d2 : Addr} {qs qs2 : List Rw} {c c2 : Int} (h : EI A m m' a2 d2 qs c) (kp : Keeps m' m2 (fun z => z = a2 ∨ z = d2)) (b : BagAt A.Bag m2 a2 d2 qs2 c2) (ok : ROk qs2 c2) : EI A m m2 a2 d2 qs2 c2 :=
  ⟨fun x o _ e => kp x o (fun z => z.elim (ne_none e h.na) (ne_none e h.nd)) (h.g.at e), h.na, h.nd, b, ok⟩
theorem EI.grow {A : Adr} {m m' m2 : Mem} {a2 d2 : Addr} {qs : List Rw} {c : Int} (h : EI A m m' a2 d2 qs c) (g : Grows m' m2) : EI A m m2 a2 d2 qs c := ⟨h.g.trans g, h.na, h.nd, h.bg.keep g, h.ok⟩
/-- filled so far: each number once, the letters due among them -/
structure FI (rs qs : List Rw) (i : Nat) : Prop where
  due : ∀ r ∈ rs, r.n < i → r ∈ qs
  all : ∀ k : Int, 0 ≤ k → k < i → hasN qs k = true
theorem FI.nil (rs : List Rw) {N : Int} (ok : ROk rs N) : FI rs [] 0 := ⟨fun r hr h => by have := (ok.lo r hr).1; omega, fun k h1 h2 => by omega⟩
theorem FI.more {rs qs : List Rw} {i : Nat} {N : Int} (ok : ROk rs N) (h : FI rs qs i) {y : Rw} (hy : y.n = i) (hd : hasN rs i = true → y ∈ rs) : FI rs (qs ++ [y]) (i + 1) where
  due := fun r hr hi => by
    by_cases e : r.n = i
    · have : r = y := ok.uniq hr (hd (hasN_iff.mpr ⟨r, hr, e⟩)) (by rw [e, hy])
      rw [this]; exact List.mem_append.mpr (.inr (.head _))
    · exact List.mem_append.mpr (.inl (h.due r hr (by omega)))
  all := fun k h1 h2 => by
    by_cases e : k = i
    · exact hasN_iff.mpr ⟨y, List.mem_append.mpr (.inr (.head _)), by rw [hy, e]⟩
    · obtain ⟨r, h3, h4⟩ := hasN_iff.mp (h.all k h1 (by omega))
      exact hasN_iff.mpr ⟨r, List.mem_append.mpr (.inl h3), h4⟩
/-- what is left when some were taken -/
def cur (qs : List Rw) (ks : List Int) : List Rw := ks.foldl without qs
theorem cur_snoc (qs : List Rw) (ks : List Int) (k : Int) : cur qs (ks ++ [k]) = without (cur qs ks) k := by unfold cur; rw [List.foldl_append]; rfl
theorem mem_cur : ∀ {ks : List Int} {qs : List Rw} {x : Rw}, x ∈ cur qs ks ↔ x ∈ qs ∧ x.n ∉ ks
  | [], qs, x => by simp [cur]
  | k :: ks, qs, x => by
    show x ∈ cur (without qs k) ks ↔ _
    rw [mem_cur, mem_without, List.mem_cons]
    exact ⟨fun ⟨⟨h1, h2⟩, h3⟩ => ⟨h1, fun z => z.elim h2 h3⟩, fun ⟨h1, h2⟩ => ⟨⟨h1, fun z => h2 (.inl z)⟩, fun z => h2 (.inr z)⟩⟩
theorem cur_ok : ∀ {ks : List Int} {qs : List Rw} {c : Int}, ROk qs c → ROk (cur qs ks) c
  | [], _, _, h => h
  | k :: ks, qs, c, h => cur_ok (ks := ks) (h.less k)
theorem cur_end {rs qs : List Rw} {N : Nat} {ks : List Int} (ok : ROk rs N) (ok2 : ROk qs N) (h : FI rs qs N) (hk : ∀ k : Int, k ∈ ks ↔ 0 ≤ k ∧ k < N ∧ hasN rs k = false) : cur qs ks = rs := by
  refine asc_ext (cur_ok ok2).asc ok.asc fun z => ?_
  rw [mem_cur]
  constructor
  · rintro ⟨h1, h2⟩
    have l := ok2.lo z h1
    have h3 : hasN rs z.n = true := by
      cases e : hasN rs z.n with
      | true => rfl
      | false => exact absurd ((hk z.n).mpr ⟨l.1, l.2, e⟩) h2
    obtain ⟨r, hr, e⟩ := hasN_iff.mp h3
    have hq := h.due r hr (ok.lo r hr).2
    rw [ok2.uniq h1 hq e.symm]; exact hr
  · intro hz
    refine ⟨h.due z hz (ok.lo z hz).2, fun z2 => ?_⟩
    have := ((hk z.n).mp z2).2.2
    rw [hasN_mem hz] at this; cases this
theorem without_self {rs : List Rw} {n : Int} {x : Rw} (ok : ROk rs n) (hx : x.n = n) : without (rs ++ [x]) n = rs := by
  unfold without
  rw [List.filter_append, List.filter_cons, if_neg (by simp [hx]), List.filter_nil, List.append_nil]
  exact List.filter_eq_self.mpr fun y hy => by have := (ok.lo y hy).2; exact decide_eq_true (by omega)
theorem without_shorter {rs : List Rw} {x : Rw} (hx : x ∈ rs) : rs.length ≠ (without rs x.n).length := by
  have : (without rs x.n).length < rs.length := by
    unfold without
    refine List.length_filter_lt_length_iff_exists.mpr ⟨x, hx, by simp⟩
  omega
end K30
namespace K30
open PySem PySem.Spec PyProof.Rows L2 L3 L4 PA VL
open C13 (BagP)
open PF (k_meth k_methI k_fld k_fldI k_setF k_setI)
local macro_rules | `(tactic| walk_at "st") => `(tactic| repeat (first
  | (with_reducible refine k_var (by with_unfolding_all rfl) ?_)
  | (with_reducible refine k_seq ?_)
  | (with_reducible refine k_cons ?_)
  | (with_reducible refine k_nil ?_)
  | (with_reducible refine k_c ?_)
  | (with_reducible refine k_op ?_)
  | (with_reducible refine k_asg ?_)
  | (with_reducible refine k_call ?_)
  | (with_reducible refine k_cb ?_)
  | (with_reducible refine k_i0 ?_)
  | (with_reducible refine k_addI ?_)
  | (with_reducible refine k_B ?_)
  | (with_reducible refine k_bk ?_)
  | (with_reducible refine k_if ?_)
  | (with_reducible refine k_ret ?_)
  | (with_reducible refine k_expr ?_)
  | (with_reducible refine k_next ?_)
  | (with_reducible refine k_not ?_)
  | (with_reducible refine k_and ?_)
  | (with_reducible refine k_or ?_)
  | (with_reducible refine k_ift ?_)
  | (with_reducible refine k_iff ?_)
  | (with_reducible refine k_ifnt ?_)
  | (with_reducible refine k_ifnf ?_)
  | (with_reducible refine k_fz ?_)
  | (with_reducible refine k_lc ?_)
  | (with_reducible refine k_dc ?_)
  | (with_reducible refine k_for ?_)
  | (with_reducible refine k_rng ?_)
  | (with_reducible refine k_iL ?_)
  | (with_reducible refine k_iLl ?_)
  | (with_reducible refine k_iT ?_)
  | (with_reducible refine k_iTt ?_)
  | (with_reducible refine k_zip ?_)
  | (with_reducible refine k_asgp ?_)
  | (with_reducible refine k_atn ?_)
  | (with_reducible refine k_par ?_)
  | (with_reducible refine k_parI ?_)
  | (with_reducible refine k_par3 ?_)
  | (with_reducible refine k_par3I ?_)
  | (with_reducible refine k_sub ?_)
  | (with_reducible refine k_andV ?_)
  | (with_reducible refine k_orV ?_)
  | (with_reducible refine k_notV ?_)
  | (with_reducible refine k_ifE ?_)
  | (with_reducible refine k_chain ?_)
  | (with_reducible refine k_am0 ?_)
  | (with_reducible refine k_am1 ?_)
  | (with_reducible refine k_int ?_)
  | (with_reducible refine k_eqI ?_)
  | (with_reducible refine k_neI ?_)
  | (with_reducible refine k_eqB ?_)
  | (with_reducible refine k_neB ?_)
  | (with_reducible refine k_iaddI ?_)
  | (with_reducible refine k_lenT ?_)
  | (with_reducible refine k_lenL ?_)
  | (with_reducible refine k_tru ?_)
  | (with_reducible refine k_cont ?_)
  | (with_reducible refine k_brk ?_)
  | (with_reducible refine k_retN ?_)
  | (with_reducible refine k_callK ?_)
  | (with_reducible refine k_callS1 ?_)
  | (with_reducible refine k_star ?_)
  | (with_reducible refine k_itL ?_)
  | (with_reducible refine k_itT ?_)
  | (with_reducible refine k_isi ?_)
  | (with_reducible refine k_isiT ?_)
  | (with_reducible refine k_bm ?_)
  | (with_reducible refine k_tup ?_)
  | (with_reducible refine k_lstF ?_)
  | (with_reducible refine k_lstM ?_)
  | (with_reducible refine k_aug (by with_unfolding_all rfl) ?_)
  | (with_reducible refine k_iSv (by with_unfolding_all rfl) ?_)
  | (with_reducible refine k_ixt (by with_unfolding_all rfl) ?_)
  | (with_reducible refine k_at (by with_unfolding_all rfl) ?_)
  | (with_reducible refine k_fzn ‹_› ?_)
  | (refine And.intro (by exact sz (by simp <;> omega)) ?_)
  | fail))
theorem fill_put {A : Adr} {m m' : Mem} {a2 d2 : Addr} {rs qs : List Rw} {N : Int} {i : Nat} {y : Rw} {E : DE} {st : DSt} (ok : ROk rs N) (hi : (i : Int) < N) (hN : N < 999) (hE : EI A m m' a2 d2 qs (i : Nat)) (hF : FI rs qs i) (hy : y.n = i) (fc : flatS 3 y.c) (fv : flatS 3 y.v) (hd : hasN rs i = true → y ∈ rs)
    (h5 : look st 5 = some (.ref a2)) (h9 : look st 9 = some y.d) (k : ∀ m2, EI A m m2 a2 d2 (qs ++ [y]) ((i + 1 : Nat) : Int) → FI rs (qs ++ [y]) (i + 1) → E.nx st m2) :
    sExpr (qMeth A.Bag "put" (sp_Bag_put A) (qVar 5) (qCons (qOp vIx (qVar 9) (qC (.int 1))) (qCons (qOp vIx (qVar 9) (qC (.int 2))) (qCons (qOp vIx (qVar 9) (qC (.int 3))) qNil)))) E st m' := by
  refine k_expr (k_meth (k_var h5 (k_methI hE.bg.ob rfl ?_)))
  refine k_cons (k_op (k_var h9 (k_c (k_ixt (d := y.c) rfl ?_))))
  refine k_cons (k_op (k_var h9 (k_c (k_ixt (d := .int y.t) rfl ?_))))
  refine k_cons (k_op (k_var h9 (k_c (k_ixt (d := y.v) rfl ?_))))
  refine k_nil ⟨a2, d2, qs, i, y.t, y.c, y.v, rfl, hE.bg, hE.ok, by omega, fun m2 b2 kp => ?_⟩
  have e : (⟨(i : Int), y.c, y.t, y.v⟩ : Rw) = y := by rw [← hy]
  rw [e] at b2
  have o2 := hE.ok.more (t := y.t) fc fv (by omega) (by omega)
  rw [e] at o2
  exact k m2 (hE.more kp (by rw [Int.natCast_add]; exact b2) (by rw [Int.natCast_add]; exact o2)) (hF.more ok hy hd)
theorem len_law_equal (A : Adr) : ∀ ds m Φ, sp_law_equal A ds m Φ → ds.length = 2 := by rintro _ _ _ ⟨_, _, _, _, _, _, _, rfl, _⟩; rfl
set_option maxHeartbeats 2000000 in
theorem rd_law_equal (A : Adr) : ∀ ds m Φ, sp_law_equal A ds m Φ → qb_law_equal A (bodyW Φ) (begin_ 11 ds) m := by
  rintro _ m Φ ⟨b, s, a, d, r, rs, n, rfl, hb, hS, ok, h0, h1, k⟩
  obtain ⟨N, rfl⟩ := Int.eq_ofNat_of_zero_le h0
  have ht := ok.top
  have hl := ok.szl
  unfold qb_law_equal
  walk_at "st"
  refine k_ixr hS.sd rfl ?_
  walk_at "st"
  refine k_ixr hS.sd rfl ?_
  walk_at "st"
  refine k_ixr hS.sd rfl ?_
  walk_at "st"
  intro a2 na
  refine ⟨a2, rfl, mset_same, fun d2 m1 hd b1 kp => ?_⟩
  obtain ⟨had, nd⟩ := mset_none hd
  have g1 : Grows m m1 := fun x o _ e => kp x o (ne_none e na) (by rw [mset_ne (ne_none e na)]; exact e)
  have hE : EI A m m1 a2 d2 [] 0 := ⟨g1, na, nd, b1, ROk.nil⟩
  clear kp hd g1 b1
  walk_at "st"
  refine k_iLr (hE.g.at hS.rw_) ?_
  refine nums_ok hl (fun y o' hy => by rw [mset_ne (ne_none (hE.g.at hS.rw_) hy)]; exact hE.g.at hS.rw_) (by exact Nat.le_of_ble_eq_true rfl) ?_
  walk_at "st"
  refine k_rngI (by omega) ?_
  refine ⟨fun i s' m' => ∃ (qs : List Rw) (c7 c8 c9 : Option D), EI A m m' a2 d2 qs (i : Nat) ∧ FI rs qs i ∧ s' = [some (.ref b), some (.ref s), some (.ref a), some (.ref r), some (.int (N : Int)), some (.ref a2), some (.lst ((rs.map (·.n)).map D.int)), c7, c8, c9, none], ⟨[], none, none, none, hE, FI.nil rs ok, rfl⟩, fun _ _ _ _ _ => trivial, ?_, ?_⟩
  · rintro i x s' m' hx ⟨qs, c7, c8, c9, hE, hF, rfl⟩
    obtain ⟨hi, rfl⟩ := get_ints hx
    rw [Int.zero_add]
    walk_at "st"
    refine ⟨b, rfl, hE.g.at hb, fun c hc => ?_⟩
    walk_at "st"
    refine k_inI ?_
    rw [if_neg (by decide), mem_nums]
    have hiN : (i : Int) < N := by omega
    walk_at "st"
    refine qif (fun hh => ?_) (fun hh => ?_)
    · walk_at "st"
      refine ⟨rfl, ?_⟩
      walk_at "st"
      obtain ⟨y, hy, hyi, hyn⟩ := idx_row hh
      refine ⟨_, rfl, ?_, ?_⟩
      · exact of_decide_eq_true (by rw [mem_nums]; exact hh)
      refine k_ixr (hE.g.at hS.rw_) (atI_nat (x := y.d) (by rw [List.getElem?_map, hyi]; rfl)) ?_
      walk_at "st"
      exact fill_put ok hiN (by omega) hE hF hyn (ok.fl y hy).1 (ok.fl y hy).2 (fun _ => hy) rfl rfl fun m2 e2 f2 => ⟨_, _, _, _, e2, f2, rfl⟩
    · walk_at "st"
      refine ⟨b, c, rfl, hE.g.at hb, hc, fun v hv => ?_⟩
      walk_at "st"
      exact fill_put (y := ⟨i, c, 7, v⟩) ok hiN (by omega) hE hF rfl (ch_flat hc) hv (fun z => by rw [hh] at z; cases z) rfl rfl fun m2 e2 f2 => ⟨_, _, _, _, e2, f2, rfl⟩
  · rintro s' m' ⟨qs, c7, c8, c9, hE, hF, rfl⟩
    rw [ints_len] at hE hF
    walk_at "st"
    refine k_rngI (by omega) ?_
    rw [intsD_map]
    refine k_lcTF (List.range N) (fun i => D.int (i : Nat)) (fun i => !hasN rs (i : Nat)) (fun i => D.int (i : Nat)) (by rw [List.length_range]; omega) (fun _ _ _ => trivial) (fun i x hx q o hq => ?_) ?_
    · refine k_atn ⟨fun Q h => ?_, fun _ Q h => ?_⟩
      · walk_at "st"
        refine k_inI ?_
        rw [if_pos rfl, mem_nums]
        exact h
      · walk_at "st"
        exact h
    walk_at "st"
    have hks : ∀ z : Int, z ∈ ((List.range N).filter fun i => !hasN rs (i : Nat)).map (fun i : Nat => (i : Int)) ↔ 0 ≤ z ∧ z < N ∧ hasN rs z = false := by
      intro z
      rw [List.mem_map]
      constructor
      · rintro ⟨i, hi, rfl⟩
        obtain ⟨h1, h2⟩ := List.mem_filter.mp hi
        have := List.mem_range.mp h1
        exact ⟨by omega, by omega, by simpa using h2⟩
      · rintro ⟨h1, h2, h3⟩
        obtain ⟨i, rfl⟩ := Int.eq_ofNat_of_zero_le h1
        exact ⟨i, List.mem_filter.mpr ⟨List.mem_range.mpr (by omega), by simpa using h3⟩, rfl⟩
    have hnd : (((List.range N).filter fun i => !hasN rs (i : Nat)).map (fun i : Nat => (i : Int))).Nodup := by
      unfold List.Nodup
      rw [List.pairwise_map]
      exact (List.Pairwise.filter _ List.nodup_range).imp fun h e => h (by omega)
    have hle : (((List.range N).filter fun i => !hasN rs (i : Nat)).map (fun i : Nat => (i : Int))).length ≤ 1000 := by
      rw [List.length_map]
      have := List.length_filter_le (fun i : Nat => !hasN rs (i : Nat)) (List.range N)
      rw [List.length_range] at this
      omega
    rw [show ((List.range N).filter fun i => !hasN rs (i : Nat)).map (fun i : Nat => D.int (i : Nat)) = (((List.range N).filter fun i => !hasN rs (i : Nat)).map (fun i : Nat => (i : Int))).map D.int by rw [List.map_map]; rfl]
    generalize ((List.range N).filter fun i => !hasN rs (i : Nat)).map (fun i : Nat => (i : Int)) = ks at hks hnd hle
    refine ⟨b, ks, rfl, hE.g.at hb, hle, fun p ks' hp hpm => ?_⟩
    have hks' : ∀ z : Int, z ∈ ks' ↔ 0 ≤ z ∧ z < N ∧ hasN rs z = false := fun z => (hpm.mem_iff).trans (hks z)
    have hnd' : ks'.Nodup := hpm.nodup_iff.mpr hnd
    have hok := hE.ok
    have hE1 := hE.grow ((Keeps.refl m').new (o := .lst (ks'.map .int)) hp)
    have hpa : p ≠ a2 := fun z => by rw [z, hE.bg.ob] at hp; cases hp
    have hpd : p ≠ d2 := fun z => by rw [z, hE.bg.dc] at hp; cases hp
    walk_at "st"
    refine k_iLr mset_same ?_
    refine ⟨fun i s' m2 => ∃ (c7 c8 c9 : Option D), EI A m m2 a2 d2 (cur qs (ks'.take i)) N ∧ m2 p = some (.lst (ks'.map .int)) ∧ s' = [some (.ref b), some (.ref s), some (.ref a), some (.ref r), some (.int (N : Int)), some (.ref a2), some (.lst ((rs.map (·.n)).map D.int)), c7, c8, c9, none], ⟨c7, c8, c9, hE1, mset_same, rfl⟩, fun i s' m2 _ ⟨_, _, _, _, h, _⟩ => h, ?_, ?_⟩
    · rintro i x s' m2 hx ⟨c7, c8, c9, hE, hp2, rfl⟩
      obtain ⟨z, hz, rfl⟩ := get_map hx
      have hzk := (hks' z).mp (List.mem_of_getElem? hz)
      obtain ⟨y, hy, hyn⟩ := hasN_iff.mp (hF.all z hzk.1 hzk.2.1)
      have hyc : y ∈ cur qs (ks'.take i) := mem_cur.mpr ⟨hy, fun hm => by
        obtain ⟨j, hj⟩ := List.getElem?_of_mem hm
        rw [List.getElem?_take] at hj
        split at hj
        · rename_i hji
          have h1 := (List.getElem?_eq_some_iff.mp hj)
          have h2 := (List.getElem?_eq_some_iff.mp hz)
          have := (List.nodup_iff_pairwise_ne.mp hnd')
          have := List.pairwise_iff_getElem.mp this j i h1.1 h2.1 hji
          rw [h1.2, h2.2, hyn] at this
          exact this rfl
        · cases hj⟩
      walk_at "st"
      refine k_meth ?_
      walk_at "st"
      refine k_methI hE.bg.ob rfl ?_
      walk_at "st"
      refine ⟨a2, d2, _, N, y, by rw [hyn], hE.bg, hE.ok, hyc, fun m3 b3 kp => ?_⟩
      refine ⟨_, _, _, hE.more (fun c o hc e => kp c o (fun z => hc (.inr z)) e) ?_ ?_, kp p _ hpd hp2, rfl⟩
      · rw [List.take_succ, hz]
        show BagAt A.Bag m3 a2 d2 (cur qs (ks'.take i ++ [z])) N
        rw [cur_snoc, ← hyn]; exact b3
      · exact cur_ok hok
    rintro s' m2 ⟨c7, c8, c9, hE, hp2, rfl⟩
    rw [List.length_map, List.take_length, cur_end ok hok hF hks'] at hE
    clear hp2 hE1 hnd hnd' hks hks' hpm hle hp hpa hpd hok hF
    have hS2 := hS.keep hE.g
    have tt : (decide ((N : Int) = N)) = true := decide_eq_true rfl
    walk_at "st"
    refine eq_self_ok ok hS2.bg hE.bg ?_
    rw [tt]
    walk_at "st"
    refine same_v rfl (flatS_bl _) ?_
    walk_at "st"
    refine eq_self_ok ok hE.bg hS2.bg ?_
    rw [tt]
    walk_at "st"
    refine same_v rfl (flatS_bl _) ?_
    walk_at "st"
    refine eq_list_ok hS2.bg hS2.rw_ ?_
    walk_at "st"
    refine same_v rfl (flatS_bl _) ?_
    walk_at "st"
    refine k_meth ?_
    walk_at "st"
    refine k_methI hS2.bg.ob rfl ?_
    walk_at "st"
    refine ⟨a, d, rs, _, rfl, hS2.bg, fun a3 d3 m3 na3 nd3 b3 g3 => ?_⟩
    have hE3 := hE.grow g3
    have hS3 := hS2.keep g3
    have a23 : a3 ≠ a2 := fun z => by rw [z, hE.bg.ob] at na3; cases na3
    have d32 : d3 ≠ d2 := fun z => by rw [z, hE.bg.dc] at nd3; cases nd3
    have d3a : d3 ≠ a := fun z => by rw [z, hS2.bg.ob] at nd3; cases nd3
    have d3d : d3 ≠ d := fun z => by rw [z, hS2.bg.dc] at nd3; cases nd3
    have d3s : d3 ≠ s := fun z => by rw [z, hS2.sd] at nd3; cases nd3
    have d3r : d3 ≠ r := fun z => by rw [z, hS2.rw_] at nd3; cases nd3
    have d3b : d3 ≠ b := fun z => by rw [z, hE.g.at hb] at nd3; cases nd3
    walk_at "st"
    refine rows_nnil ok hS3.rw_ ?_
    walk_at "st"
    have rest : ∀ (c8 c9 : Option D) (m4 : Mem), EI A m m4 a2 d2 rs N → (sSeq (sAsg (.nm 8) (qCall (sp_law_chan A) (qCons (qVar 0) qNil)))
      (sSeq (sIf (qOr (qNot (qB (qCall (sp_law_same 6 A) (qCons (qMeth A.Bag "put" (sp_Bag_put A) (qVar 5) (qCons (qVar 8) (qCons (qC (.int 1)) (qCons (qCall (sp_law_word A) (qCons (qVar 0) (qCons (qVar 8) qNil))) qNil)))) (qCons (qVar 4) qNil))))) (qNot (qB (qCall (sp_law_same 6 A) (qCons (qOp (vEqO A.Bag (sp_Bag_eq A)) (qVar 2) (qVar 5)) (qCons (qC (.bl false)) qNil)))))) (sRet (qC (.bl false))) sNext)
      (sSeq (sExpr (qMeth A.Bag "take" (sp_Bag_take A) (qVar 5) (qCons (qVar 4) qNil)))
      (sRet (qAndV (qCall (sp_law_same 6 A) (qCons (qOp (vEqO A.Bag (sp_Bag_eq A)) (qVar 2) (qVar 5)) (qCons (qC (.bl false)) qNil))) (qCall (sp_law_same 6 A) (qCons (qOp (vEqO A.Bag (sp_Bag_eq A)) (qVar 2) (qMeth A.Bag "copy" (sp_Bag_copy A) (qVar 2) qNil)) (qCons (qC (.bl true)) qNil)))))))) (bodyW Φ)
      [some (.ref b), some (.ref s), some (.ref a), some (.ref r), some (.int (N : Int)), some (.ref a2), some (.lst ((rs.map (·.n)).map D.int)), c7, c8, c9, some (.ref a3)] m4 := by
      intro c8 c9 m4 hE
      have hS4 := hS.keep hE.g
      walk_at "st"
      refine ⟨b, rfl, hE.g.at hb, fun c hc => ?_⟩
      walk_at "st"
      refine k_meth ?_
      walk_at "st"
      refine k_methI hE.bg.ob rfl ?_
      walk_at "st"
      refine ⟨b, c, rfl, hE.g.at hb, hc, fun v hv => ?_⟩
      walk_at "st"
      refine ⟨a2, d2, rs, N, 1, c, v, rfl, hE.bg, hE.ok, by omega, fun m5 b5 kp5 => ?_⟩
      have o5 := hE.ok.more (t := 1) (ch_flat hc) hv (by omega) h0
      have hE5 := hE.more kp5 b5 o5
      have hS5 := hS.keep hE5.g
      walk_at "st"
      refine same_v rfl (flatS_int _) ?_
      walk_at "st"
      refine eq_len_ok hS5.bg hE5.bg (by rw [List.length_append, List.length_singleton]; omega) ?_
      walk_at "st"
      refine same_v rfl (flatS_bl _) ?_
      walk_at "st"
      refine k_meth ?_
      walk_at "st"
      refine k_methI hE5.bg.ob rfl ?_
      walk_at "st"
      refine ⟨a2, d2, _, _, ⟨N, c, 1, v⟩, rfl, hE5.bg, o5, List.mem_append.mpr (.inr (.head _)), fun m6 b6 kp6 => ?_⟩
      have e6 : without (rs ++ [⟨(N : Int), c, 1, v⟩]) N = rs := without_self ok rfl
      rw [show (without (rs ++ [⟨(N : Int), c, 1, v⟩]) ({ n := (N : Int), c := c, t := 1, v := v } : Rw).n) = rs from e6] at b6
      have o6 : ROk rs ((N : Int) + 1) := ⟨ok.asc, fun r hr => by have := ok.lo r hr; omega, ok.fl, by have := ok.len; omega, by omega⟩
      have hE6 := hE5.more (fun c o hc e => kp6 c o (fun z => hc (.inr z)) e) b6 o6
      have hS6 := hS.keep hE6.g
      walk_at "st"
      refine eq_self_ok ok hS6.bg hE6.bg ?_
      rw [show (decide ((N : Int) = N + 1)) = false from decide_eq_false (by omega)]
      walk_at "st"
      refine same_v rfl (flatS_bl _) ?_
      walk_at "st"
      refine k_meth ?_
      walk_at "st"
      refine k_methI hS6.bg.ob rfl ?_
      walk_at "st"
      refine ⟨a, d, rs, _, rfl, hS6.bg, fun a7 d7 m7 na7 nd7 b7 g7 => ?_⟩
      have hS7 := hS6.keep g7
      walk_at "st"
      refine eq_self_ok ok hS7.bg b7 ?_
      rw [tt]
      refine same_v rfl (flatS_bl _) ?_
      exact ⟨m, Keeps.le (hE6.g.trans g7), k⟩
    refine qif (fun hne => ?_) (fun hne => ?_)
    · walk_at "st"
      refine ⟨b, _, hE3.g.at hb, fun z => ?_, by rw [List.length_map]; omega, .inr ⟨r, rfl, hS3.rw_⟩, fun x hx => ?_⟩
      · rw [List.map_eq_nil_iff.mp z] at hne; cases hne
      obtain ⟨y, hy, rfl⟩ := List.mem_map.mp hx
      walk_at "st"
      refine k_meth ?_
      walk_at "st"
      refine k_methI b3.ob rfl ?_
      unfold Rw.d
      walk_at "st"
      refine ⟨a3, d3, rs, _, y, rfl, b3, ok, hy, fun m4 b4 kp4 => ?_⟩
      have hE4 : EI A m m4 a2 d2 rs N := ⟨fun x o _ e => kp4 x o (fun z => by rw [z] at e; have := hE.g.at e; rw [nd3] at this; cases this) (hE3.g.at e), hE.na, hE.nd, ⟨kp4 _ _ (fun z => by rw [← z, hE.bg.ob] at nd3; cases nd3) hE3.bg.ob, kp4 _ _ (Ne.symm d32) hE3.bg.dc⟩, ok⟩
      have hS4 := hS.keep hE4.g
      walk_at "st"
      refine eq_len_ok hS4.bg b4 (without_shorter hy) ?_
      walk_at "st"
      refine same_v rfl (flatS_bl _) ?_
      walk_at "st"
      refine ⟨⟨_, hS4.bg.ob⟩, a, d, rs, _, rfl, hS4.bg, ⟨by omega, by omega⟩, ?_⟩
      walk_at "st"
      refine k_lenR hS4.rw_ ?_
      walk_at "st"
      refine same_v (by rw [List.length_map]) (flatS_int _) ?_
      refine k_bk (k_ifnt (k_next ?_))
      exact rest _ _ m4 hE4
    · exact rest _ _ m3 hE3
end K30
namespace K30
open PySem PySem.Spec PyProof.Rows L2 L3 L4 PA VL
open C13 (BagP)
/-! ### dicts of letters and lists of letters are equal at once -/
def rowsEq : List Rw → List Rw → Bool
  | [], [] => true
  | x :: xs, y :: ys => eqR x y && rowsEq xs ys
  | _, _ => false
def hitF (ys : List Rw) : List Rw → Bool
  | [] => true
  | x :: xs => match ys.find? (fun y => y.n == x.n) with
    | none => false
    | some y => eqR x y && hitF ys xs
theorem hitF_ok {ys : List Rw} {n' : Int} (ok' : ROk ys n') : ∀ {xs : List Rw}, (∀ x ∈ xs, flatS 4 x.d) → HitsD (kvs ys) (kvs xs) (hitF ys xs)
  | [], _ => rfl
  | x :: xs, h => by
    have ih := hitF_ok ok' (xs := xs) fun y hy => h y (.tail _ hy)
    show (valD (kvs ys) (Sum.inl x.n) = none ∧ _) ∨ _
    rw [kvs_val]
    cases e : ys.find? (fun y => y.n == x.n) with
    | none => exact .inl ⟨rfl, by unfold hitF; rw [e]⟩
    | some y =>
      have hy := List.mem_of_find?_eq_some e
      exact .inr ⟨y.d, eqR x y, hitF ys xs, rfl, eqD_rows (h x (.head _)) (flatS_row (ok'.fl y hy)), ih, by rw [hitF, e]⟩
theorem asc_len : ∀ {X Y : List Int}, X.Pairwise (· < ·) → Y.Pairwise (· < ·) → (∀ z ∈ X, z ∈ Y) → X.length ≤ Y.length
  | [], _, _, _, _ => Nat.zero_le _
  | x :: X, [], _, _, h => by have := h x (.head _); cases this
  | x :: X, y :: Y, a, b, h => by
    have a1 := List.pairwise_cons.mp a
    have b1 := List.pairwise_cons.mp b
    by_cases e : x = y
    · subst e
      refine Nat.succ_le_succ (asc_len a1.2 b1.2 fun z hz => ?_)
      rcases List.mem_cons.mp (h z (.tail _ hz)) with rfl | hz'
      · have := a1.1 z hz; omega
      · exact hz'
    · have hx : x ∈ Y := by
        rcases List.mem_cons.mp (h x (.head _)) with z | z
        · exact absurd z e
        · exact z
      have hxy := b1.1 x hx
      refine Nat.le_succ_of_le (asc_len a b1.2 fun z hz => ?_)
      rcases List.mem_cons.mp (h z hz) with rfl | hz'
      · rcases List.mem_cons.mp hz with e2 | hz2
        · exact absurd e2.symm e
        · have := a1.1 z hz2; omega
      · exact hz'
theorem asc_same : ∀ {X Y : List Int}, X.Pairwise (· < ·) → Y.Pairwise (· < ·) → (∀ z ∈ X, z ∈ Y) → X.length = Y.length → X = Y
  | [], [], _, _, _, _ => rfl
  | x :: X, [], _, _, _, h => by cases h
  | [], y :: Y, _, _, _, h => by cases h
  | x :: X, y :: Y, a, b, h, hl => by
    have a1 := List.pairwise_cons.mp a
    have b1 := List.pairwise_cons.mp b
    by_cases e : x = y
    · subst e
      rw [asc_same a1.2 b1.2 (fun z hz => ?_) (Nat.succ.inj hl)]
      rcases List.mem_cons.mp (h z (.tail _ hz)) with rfl | hz'
      · have := a1.1 z hz; omega
      · exact hz'
    · exfalso
      have hx : x ∈ Y := by
        rcases List.mem_cons.mp (h x (.head _)) with z | z
        · exact absurd z e
        · exact z
      have hxy := b1.1 x hx
      have : (x :: X).length ≤ Y.length := asc_len a b1.2 fun z hz => by
        rcases List.mem_cons.mp (h z hz) with rfl | hz'
        · rcases List.mem_cons.mp hz with e2 | hz2
          · exact absurd e2.symm e
          · have := a1.1 z hz2; omega
        · exact hz'
      simp at this hl
      omega
theorem hitF_all {ys : List Rw} : ∀ {xs : List Rw}, hitF ys xs = true → ∀ x ∈ xs, ∃ y ∈ ys, y.n = x.n ∧ eqR x y = true
  | x :: xs, h, z, hz => by
    unfold hitF at h
    cases e : ys.find? (fun y => y.n == x.n) with
    | none => rw [e] at h; cases h
    | some y =>
      rw [e] at h
      have h := Bool.and_eq_true_iff.mp h
      rcases List.mem_cons.mp hz with rfl | hz'
      · have h2 := List.find?_some e
        exact ⟨y, List.mem_of_find?_eq_some e, eq_of_beq h2, h.1⟩
      · exact hitF_all h.2 z hz'
theorem rowsEq_of {ys0 : List Rw} {n' : Int} (ok' : ROk ys0 n') : ∀ {xs ys : List Rw}, xs.map (·.n) = ys.map (·.n) → (∀ y ∈ ys, y ∈ ys0) → (∀ x ∈ xs, ∃ y ∈ ys0, y.n = x.n ∧ eqR x y = true) → rowsEq xs ys = true
  | [], [], _, _, _ => rfl
  | x :: xs, [], h, _, _ => by cases h
  | [], y :: ys, h, _, _ => by cases h
  | x :: xs, y :: ys, h, hs, hx => by
    have h1 : x.n = y.n := (List.cons.inj h).1
    obtain ⟨y', h2, h3, h4⟩ := hx x (.head _)
    have : y' = y := ok'.uniq h2 (hs y (.head _)) (by rw [h3, h1])
    subst this
    rw [rowsEq, h4, Bool.true_and]
    exact rowsEq_of ok' (List.cons.inj h).2 (fun z hz => hs z (.tail _ hz)) fun z hz => hx z (.tail _ hz)
theorem rowsEq_nums : ∀ {xs ys : List Rw}, (∀ x ∈ xs, flatS 4 x.d) → (∀ y ∈ ys, flatS 4 y.d) → rowsEq xs ys = true → xs.map (·.n) = ys.map (·.n) ∧ ∀ x ∈ xs, ∃ y ∈ ys, y.n = x.n ∧ eqR x y = true
  | [], [], _, _, _ => ⟨rfl, nofun⟩
  | x :: xs, y :: ys, fx, fy, h => by
    rw [rowsEq] at h
    have h := Bool.and_eq_true_iff.mp h
    have e : x.n = y.n := by
      cases Int.decEq x.n y.n with
      | isTrue e => exact e
      | isFalse e =>
        have := eqR_ne (fx x (.head _)) (fy y (.head _)) e
        rw [h.1] at this; cases this
    obtain ⟨h1, h2⟩ := rowsEq_nums (fun z hz => fx z (.tail _ hz)) (fun z hz => fy z (.tail _ hz)) h.2
    refine ⟨by rw [List.map_cons, List.map_cons, e, h1], fun z hz => ?_⟩
    rcases List.mem_cons.mp hz with rfl | hz'
    · exact ⟨y, .head _, e.symm, h.1⟩
    · obtain ⟨w, hw, h3⟩ := h2 z hz'
      exact ⟨w, .tail _ hw, h3⟩
theorem hitF_true {ys : List Rw} {n' : Int} (ok' : ROk ys n') : ∀ {xs : List Rw}, (∀ x ∈ xs, ∃ y ∈ ys, y.n = x.n ∧ eqR x y = true) → hitF ys xs = true
  | [], _ => rfl
  | x :: xs, h => by
    obtain ⟨y, hy, e, h1⟩ := h x (.head _)
    have : ys.find? (fun z => z.n == x.n) = some y := by rw [← e]; exact ok'.find hy
    rw [hitF, this]
    show (eqR x y && hitF ys xs) = true
    rw [h1, Bool.true_and]
    exact hitF_true ok' fun z hz => h z (.tail _ hz)
theorem rowsEq_len : ∀ {xs ys : List Rw}, rowsEq xs ys = true → xs.length = ys.length
  | [], [], _ => rfl
  | x :: xs, y :: ys, h => by
    rw [rowsEq] at h
    rw [List.length_cons, List.length_cons, rowsEq_len (Bool.and_eq_true_iff.mp h).2]
theorem eq_both {xs ys : List Rw} {n n' : Int} (ok : ROk xs n) (ok' : ROk ys n') : (xs.length == ys.length && hitF ys xs) = rowsEq xs ys := by
  have fx : ∀ x ∈ xs, flatS 4 x.d := fun x hx => flatS_row (ok.fl x hx)
  have fy : ∀ y ∈ ys, flatS 4 y.d := fun y hy => flatS_row (ok'.fl y hy)
  cases h : rowsEq xs ys with
  | true =>
    obtain ⟨_, h2⟩ := rowsEq_nums fx fy h
    rw [hitF_true ok' h2, rowsEq_len h]
    simp
  | false =>
    cases h1 : (xs.length == ys.length && hitF ys xs) with
    | false => rfl
    | true =>
      exfalso
      have h1 := Bool.and_eq_true_iff.mp h1
      have hl := eq_of_beq h1.1
      have ha := hitF_all h1.2
      have e : xs.map (·.n) = ys.map (·.n) := by
        refine asc_same (List.pairwise_map.mpr ok.asc) (List.pairwise_map.mpr ok'.asc) (fun z hz => ?_) (by rw [List.length_map, List.length_map, hl])
        obtain ⟨x, hx, rfl⟩ := List.mem_map.mp hz
        obtain ⟨y, hy, e, _⟩ := ha x hx
        exact List.mem_map.mpr ⟨y, hy, e⟩
      rw [rowsEq_of ok' e (fun _ h => h) ha] at h
      cases h
theorem eqvAll_rows : ∀ {xs ys : List Rw} {ps qs : List PyData}, toPys (xs.map Rw.d) = some ps → toPys (ys.map Rw.d) = some qs → PyData.eqvAll ps qs = rowsEq xs ys
  | [], [], ps, qs, h1, h2 => by cases h1; cases h2; simp [PyData.eqvAll, rowsEq]
  | [], y :: ys, ps, qs, h1, h2 => by
    obtain ⟨q, qs', _, _, rfl⟩ := toPys_cons h2
    cases h1; simp [PyData.eqvAll, rowsEq]
  | x :: xs, [], ps, qs, h1, h2 => by
    obtain ⟨q, qs', _, _, rfl⟩ := toPys_cons h1
    cases h2; simp [PyData.eqvAll, rowsEq]
  | x :: xs, y :: ys, ps, qs, h1, h2 => by
    obtain ⟨p, ps', a1, a2, rfl⟩ := toPys_cons h1
    obtain ⟨q, qs', b1, b2, rfl⟩ := toPys_cons h2
    rw [PyData.eqvAll, rowsEq, eqvAll_rows a2 b2]
    congr 1
    unfold eqR pyD
    rw [a1, b1]; rfl
/-- rows == rows -/
theorem rows_eq {xs ys : List Rw} {n n' : Int} {m : Mem} {Φ : DK} {r r' : Addr} (ok : ROk xs n) (ok' : ROk ys n') (hr : m r = some (.lst (xs.map Rw.d))) (hr' : m r' = some (.lst (ys.map Rw.d))) (k : Φ (.bl (rowsEq xs ys)) m) : vEq (.ref r) (.ref r') m Φ := by
  obtain ⟨ps, h1, h2, h3⟩ := toPys_mem (n := 4) (ds := xs.map Rw.d) fun d hd => flat_py 4 d (rows_flat ok d hd)
  obtain ⟨qs, g1, g2, g3⟩ := toPys_mem (n := 4) (ds := ys.map Rw.d) fun d hd => flat_py 4 d (rows_flat ok' d hd)
  refine ⟨.list ps, .list qs, .inr ⟨r, _, ps, rfl, hr, h1, rfl⟩, .inr ⟨r', _, qs, rfl, hr', g1, rfl⟩, ?_, ?_, ?_⟩
  · exact shaped_at (n := 5) (d := .lst (xs.map Rw.d)) ⟨by rw [toPy, h1]; rfl, h2, by rw [PyData.depth]; omega⟩ (by decide)
  · exact shaped_at (n := 5) (d := .lst (ys.map Rw.d)) ⟨by rw [toPy, g1]; rfl, g2, by rw [PyData.depth]; omega⟩ (by decide)
  · rw [show PyData.eqv (.list ps) (.list qs) = rowsEq xs ys from eqvAll_rows h1 g1]; exact k
theorem eq_gen_ok {A : Adr} {m : Mem} {Φ : DK} {a d a' d' : Addr} {rs rs' : List Rw} {n n' : Int} (ok : ROk rs n) (ok' : ROk rs' n') (h1 : BagAt A.Bag m a d rs n) (h2 : BagAt A.Bag m a' d' rs' n') (k : Φ (.bl (rowsEq rs rs' && decide (n = n'))) m) : vEqO A.Bag (sp_Bag_eq A) (.ref a) (.ref a') m Φ :=
  ⟨⟨_, h1.ob⟩, ⟨_, h2.ob⟩, a, d, rs, n, .ref a', rfl, h1, .inl ⟨a', d', rs', n', hitF rs' rs, rfl, h2, fun _ => hitF_ok ok' fun x hx => flatS_row (ok.fl x hx), by
    rw [eq_both ok ok']; exact k⟩⟩
end K30
namespace K30
open PySem PySem.Spec PyProof.Rows L2 L3 L4 PA VL
open C13 (BagP)
open PF (k_meth k_methI k_fld k_fldI k_setF k_setI)
local macro_rules | `(tactic| walk_at "st") => `(tactic| repeat (first
  | (with_reducible refine k_var (by with_unfolding_all rfl) ?_)
  | (with_reducible refine k_seq ?_)
  | (with_reducible refine k_cons ?_)
  | (with_reducible refine k_nil ?_)
  | (with_reducible refine k_c ?_)
  | (with_reducible refine k_op ?_)
  | (with_reducible refine k_asg ?_)
  | (with_reducible refine k_call ?_)
  | (with_reducible refine k_cb ?_)
  | (with_reducible refine k_i0 ?_)
  | (with_reducible refine k_addI ?_)
  | (with_reducible refine k_B ?_)
  | (with_reducible refine k_bk ?_)
  | (with_reducible refine k_if ?_)
  | (with_reducible refine k_ret ?_)
  | (with_reducible refine k_expr ?_)
  | (with_reducible refine k_next ?_)
  | (with_reducible refine k_not ?_)
  | (with_reducible refine k_and ?_)
  | (with_reducible refine k_or ?_)
  | (with_reducible refine k_ift ?_)
  | (with_reducible refine k_iff ?_)
  | (with_reducible refine k_ifnt ?_)
  | (with_reducible refine k_ifnf ?_)
  | (with_reducible refine k_fz ?_)
  | (with_reducible refine k_lc ?_)
  | (with_reducible refine k_dc ?_)
  | (with_reducible refine k_for ?_)
  | (with_reducible refine k_rng ?_)
  | (with_reducible refine k_iL ?_)
  | (with_reducible refine k_iLl ?_)
  | (with_reducible refine k_iT ?_)
  | (with_reducible refine k_iTt ?_)
  | (with_reducible refine k_zip ?_)
  | (with_reducible refine k_asgp ?_)
  | (with_reducible refine k_atn ?_)
  | (with_reducible refine k_par ?_)
  | (with_reducible refine k_parI ?_)
  | (with_reducible refine k_par3 ?_)
  | (with_reducible refine k_par3I ?_)
  | (with_reducible refine k_sub ?_)
  | (with_reducible refine k_andV ?_)
  | (with_reducible refine k_orV ?_)
  | (with_reducible refine k_notV ?_)
  | (with_reducible refine k_ifE ?_)
  | (with_reducible refine k_chain ?_)
  | (with_reducible refine k_am0 ?_)
  | (with_reducible refine k_am1 ?_)
  | (with_reducible refine k_int ?_)
  | (with_reducible refine k_eqI ?_)
  | (with_reducible refine k_neI ?_)
  | (with_reducible refine k_eqB ?_)
  | (with_reducible refine k_neB ?_)
  | (with_reducible refine k_iaddI ?_)
  | (with_reducible refine k_lenT ?_)
  | (with_reducible refine k_lenL ?_)
  | (with_reducible refine k_tru ?_)
  | (with_reducible refine k_cont ?_)
  | (with_reducible refine k_brk ?_)
  | (with_reducible refine k_retN ?_)
  | (with_reducible refine k_callK ?_)
  | (with_reducible refine k_callS1 ?_)
  | (with_reducible refine k_star ?_)
  | (with_reducible refine k_itL ?_)
  | (with_reducible refine k_itT ?_)
  | (with_reducible refine k_isi ?_)
  | (with_reducible refine k_isiT ?_)
  | (with_reducible refine k_bm ?_)
  | (with_reducible refine k_tup ?_)
  | (with_reducible refine k_lstF ?_)
  | (with_reducible refine k_lstM ?_)
  | (with_reducible refine k_aug (by with_unfolding_all rfl) ?_)
  | (with_reducible refine k_iSv (by with_unfolding_all rfl) ?_)
  | (with_reducible refine k_ixt (by with_unfolding_all rfl) ?_)
  | (with_reducible refine k_at (by with_unfolding_all rfl) ?_)
  | (with_reducible refine k_fzn ‹_› ?_)
  | (refine And.intro (by exact sz (by simp <;> omega)) ?_)
  | fail))
/-! ### the sides -/
structure Sd where
  s : Addr
  a : Addr
  d : Addr
  r : Addr
  rs : List Rw
  n : Int
def Sd.foot (x : Sd) : List Addr := [x.s, x.a, x.d, x.r]
def Sd.at (A : Adr) (m : Mem) (x : Sd) : Prop := SideAt A m x.s x.a x.d x.r x.rs x.n
theorem Sd.at.keep {A : Adr} {m m' : Mem} {x : Sd} (h : x.at A m) (kp : ∀ z ∈ x.foot, ∀ o, m z = some o → m' z = some o) : x.at A m' :=
  ⟨kp _ (.head _) _ h.sd, kp _ (.tail _ (.tail _ (.tail _ (.head _)))) _ h.rw_, ⟨kp _ (.tail _ (.head _)) _ h.bg.ob, kp _ (.tail _ (.tail _ (.head _))) _ h.bg.dc⟩, h.sr⟩
theorem Sd.at.some {A : Adr} {m : Mem} {x : Sd} (h : x.at A m) : ∀ z ∈ x.foot, ∃ o, m z = some o := by
  intro z hz
  simp only [Sd.foot, List.mem_cons, List.not_mem_nil, or_false] at hz
  rcases hz with rfl | rfl | rfl | rfl
  · exact ⟨_, h.sd⟩
  · exact ⟨_, h.bg.ob⟩
  · exact ⟨_, h.bg.dc⟩
  · exact ⟨_, h.rw_⟩
theorem Sd.at.not {A : Adr} {m : Mem} {x : Sd} (h : x.at A m) {b : Addr} {o : AO} (hb : m b = Option.some o) (h1 : ∀ ds, o ≠ .lst ds) (h2 : ∀ C fs, o ≠ .ins C fs) (h3 : ∀ ks, o ≠ .dK ks) : b ∉ x.foot := by
  intro hz
  simp only [Sd.foot, List.mem_cons, List.not_mem_nil, or_false] at hz
  rcases hz with rfl | rfl | rfl | rfl
  · rw [h.sd] at hb; exact h1 _ (Option.some.inj hb).symm
  · rw [h.bg.ob] at hb; exact h2 _ _ (Option.some.inj hb).symm
  · rw [h.bg.dc] at hb; exact h3 _ (Option.some.inj hb).symm
  · rw [h.rw_] at hb; exact h1 _ (Option.some.inj hb).symm
structure LW (A : Adr) (b q : Addr) (xs : List Sd) (k : Nat) (m : Mem) : Prop where
  hb : m b = some (.any BagP)
  ht : tabF A m
  hq : m q = some (.lst (xs.map fun x => D.ref x.s))
  each : ∀ x ∈ xs, x.at A m ∧ ROk x.rs x.n ∧ 0 ≤ x.n ∧ x.n ≤ k ∧ q ∉ x.foot
  apart : xs.Pairwise fun x y => ∀ z ∈ x.foot, z ∉ y.foot
  ne : xs ≠ []
  len : xs.length ≤ 3
variable {A : Adr} {b q : Addr} {xs : List Sd} {k : Nat} {m m' : Mem}
theorem apart_at : ∀ {xs : List Sd}, (xs.Pairwise fun x y => ∀ z ∈ x.foot, z ∉ y.foot) → ∀ {i j : Nat} {x y : Sd}, i ≠ j → xs[i]? = some x → xs[j]? = some y → ∀ z ∈ x.foot, z ∉ y.foot := by
  intro xs h i j x y hij hx hy z hz hz'
  obtain ⟨i1, rfl⟩ := List.getElem?_eq_some_iff.mp hx
  obtain ⟨j1, rfl⟩ := List.getElem?_eq_some_iff.mp hy
  rcases Nat.lt_or_gt_of_ne hij with h1 | h1
  · exact List.pairwise_iff_getElem.mp h i j i1 j1 h1 z hz hz'
  · exact List.pairwise_iff_getElem.mp h j i j1 i1 h1 z hz' hz
/-- one side did a deed -/
theorem LW.deed (h : LW A b q xs k m) {i : Nat} {x : Sd} (hx : xs[i]? = some x) {rs' : List Rw} {n' : Int} (kp : Keeps m m' (fun z => z = x.s ∨ z = x.a ∨ z = x.d ∨ z = x.r)) (hs : SideAt A m' x.s x.a x.d x.r rs' n') (ok : ROk rs' n') (h1 : x.n ≤ n') (h2 : n' ≤ x.n + 1) :
    LW A b q (xs.set i { x with rs := rs', n := n' }) (k + 1) m' := by
  have hi := (List.getElem?_eq_some_iff.mp hx).1
  have hxm := List.mem_of_getElem? hx
  have kf : ∀ z, z ∉ x.foot → ∀ o, m z = some o → m' z = some o := fun z hz o e => kp z o (fun w => hz (by
    simp only [Sd.foot, List.mem_cons, List.not_mem_nil, or_false]; exact w)) e
  have ex := h.each x hxm
  refine ⟨kf b (ex.1.not h.hb nofun nofun nofun) _ h.hb, kf _ (ex.1.not h.ht nofun nofun nofun) _ h.ht, ?_, fun y hy => ?_, ?_, ?_, by rw [List.length_set]; exact h.len⟩
  · rw [kf q ex.2.2.2.2 _ h.hq]
    congr 2
    apply List.ext_getElem?
    intro j
    rw [List.getElem?_map, List.getElem?_map, List.getElem?_set]
    by_cases e : i = j
    · subst e; rw [if_pos rfl, if_pos hi, hx]; rfl
    · rw [if_neg e]
  · obtain ⟨j, hj⟩ := List.getElem?_of_mem hy
    rw [List.getElem?_set] at hj
    by_cases e : i = j
    · subst e
      rw [if_pos rfl, if_pos hi] at hj
      cases hj
      exact ⟨hs, ok, by show 0 ≤ n'; omega, by show n' ≤ ((k + 1 : Nat) : Int); omega, ex.2.2.2.2⟩
    · rw [if_neg e] at hj
      obtain ⟨g1, g2, g3, g4, g5⟩ := h.each y (List.mem_of_getElem? hj)
      exact ⟨g1.keep fun z hz o w => kf z (fun hz' => apart_at h.apart e hx hj z hz' hz) o w, g2, g3, by omega, g5⟩
  · rw [List.pairwise_iff_getElem]
    intro j l hj hl hjl
    have e1 : ∀ (t : Nat) (ht : t < (xs.set i { x with rs := rs', n := n' }).length), ((xs.set i { x with rs := rs', n := n' })[t]).foot = (xs[t]'(by simpa using ht)).foot := by
      intro t ht
      rw [List.getElem_set]
      split
      · rename_i e
        subst e
        have := (List.getElem?_eq_some_iff.mp hx).2
        rw [this]; rfl
      · rfl
    rw [e1 j hj, e1 l hl]
    exact List.pairwise_iff_getElem.mp h.apart j l (by simpa using hj) (by simpa using hl) hjl
  · intro e
    have := congrArg List.length e
    rw [List.length_set] at this
    exact h.ne (List.length_eq_zero_iff.mp this)
/-- one side more -/
theorem LW.add (h : LW A b q xs k m) {m1 : Mem} {y : Sd} (hl : xs.length < 3) (g : Grows m m1) (hy : y.at A m1) (ok : ROk y.rs y.n) (h0 : 0 ≤ y.n) (h1 : y.n ≤ k) (new : ∀ z ∈ y.foot, m z = none) :
    LW A b q (xs ++ [y]) k (mset m1 q (.lst ((xs.map fun x => D.ref x.s) ++ [D.ref y.s]))) := by
  have hqy : q ∉ y.foot := fun z => by have := new q z; rw [h.hq] at this; cases this
  have kq : ∀ z, z ≠ q → ∀ o, m z = some o → mset m1 q (.lst ((xs.map fun x => D.ref x.s) ++ [D.ref y.s])) z = some o := fun z hz o e => by rw [mset_ne hz]; exact g.at e
  refine ⟨kq b (ne_obj h.hb h.hq (fun z => by cases z)) _ h.hb, kq _ (ne_obj h.ht h.hq (fun z => by cases z)) _ h.ht, by rw [mset_same, List.map_append]; rfl, fun x hx => ?_, ?_, by simp, by rw [List.length_append, List.length_singleton]; omega⟩
  · rcases List.mem_append.mp hx with hx | hx
    · obtain ⟨g1, g2, g3, g4, g5⟩ := h.each x hx
      exact ⟨g1.keep fun z hz o e => kq z (fun w : z = q => g5 (by rw [← w]; exact hz)) o e, g2, g3, g4, g5⟩
    · rw [List.mem_singleton.mp hx]
      exact ⟨hy.keep fun z hz o e => by rw [mset_ne (fun w : z = q => hqy (by rw [← w]; exact hz))]; exact e, ok, h0, h1, hqy⟩
  · refine List.pairwise_append.mpr ⟨h.apart, List.pairwise_singleton _ _, fun x hx y' hy' z hz hz' => ?_⟩
    rw [List.mem_singleton.mp hy'] at hz'
    obtain ⟨o, e⟩ := (h.each x hx).1.some z hz
    rw [new z hz'] at e; cases e
theorem atI_last {α : Type} {xs : List α} {x : α} (h : xs[xs.length - 1]? = some x) : L2.atI xs (-1) = some x := by
  have hi := (List.getElem?_eq_some_iff.mp h).1
  unfold L2.atI ixN
  rw [if_neg (by decide), if_pos (by omega)]
  show xs[(-1 + (xs.length : Int)).toNat]? = some x
  rw [show (-1 + (xs.length : Int)).toNat = xs.length - 1 by omega]; exact h
theorem turn_end {E : DE} {c0 c3 : Option D} {w4 : D} (h : LW A b q xs k m) (hk : k ≤ 200) (hn : E.nx [c0, some (.ref b), some (.ref q), c3, some w4, none, none] m) :
    sIf (qAnd (qB (qOp vEq (qCall (sp_law_draw A) (qCons (qVar 1) (qCons (qC (.int 2)) qNil))) (qC (.int 0)))) (qNot (qB (qCall (sp_law_looks A) (qCons (qVar 1) (qCons (qCall (sp_law_of A) (qCons (qVar 1) (qCons (qVar 2) qNil))) qNil)))))) (sRet (qC (.bl false))) sNext E [c0, some (.ref b), some (.ref q), c3, some w4, none, none] m := by
  walk_at "st"
  refine ⟨b, 2, rfl, h.hb, by decide, by decide, fun d d0 d1 => ?_⟩
  walk_at "st"
  refine qif (fun _ => ?_) (fun _ => ?_)
  · walk_at "st"
    refine ⟨b, _, h.hb, fun z => h.ne (List.map_eq_nil_iff.mp z), by rw [List.length_map]; have := h.len; omega, .inr ⟨q, rfl, h.hq⟩, fun x hx => ?_⟩
    obtain ⟨y, hy, rfl⟩ := List.mem_map.mp hx
    obtain ⟨g1, g2, g3, g4, g5⟩ := h.each y hy
    walk_at "st"
    refine ⟨b, y.s, y.a, y.d, y.r, y.rs, y.n, rfl, h.hb, g1, g2, g3, ?_⟩
    walk_at "st"
    exact hn
  · walk_at "st"
    exact hn
theorem len_law {T : List (Addr × Str)} : ∀ ds m Φ, lspLawTs T ds m Φ → ds.length = 1 := by rintro _ _ _ ⟨_, rfl, _⟩; rfl
set_option maxHeartbeats 2000000 in
theorem rd_law (A : Adr) : ∀ ds m Φ, lspLawTs [(A.tb_law_deed, lamq "_law_deed")] ds m Φ → qb_law A (bodyW Φ) (begin_ 7 ds) m := by
  rintro _ m Φ ⟨ns, rfl, hl, ht, _, k⟩
  unfold qb_law
  walk_at "st"
  refine ⟨ns, rfl, hl, fun b hb0 => ?_⟩
  have htb : tabF A (mset m b (.any BagP)) := by
    have e := ht _ (.head _)
    show mset m b _ _ = _
    rw [mset_ne (ne_none e hb0)]; exact e
  have hbb : mset m b (.any BagP) b = some (.any BagP) := mset_same
  generalize mset m b (.any BagP) = m at htb hbb
  clear ht
  walk_at "st"
  intro a1 na
  refine ⟨a1, rfl, mset_same, fun d1 m1 hd b1 kp => ?_⟩
  obtain ⟨had, nd⟩ := mset_none hd
  have g1 : Grows m m1 := fun x o _ e => kp x o (ne_none e na) (by rw [mset_ne (ne_none e na)]; exact e)
  walk_at "st"
  intro r1 hr1
  walk_at "st"
  intro s1 hs1
  walk_at "st"
  intro q hq
  walk_at "st"
  have g2 := g1.new (o := .lst []) hr1
  have g3 := g2.new (o := .lst [.ref a1, .ref r1, .int 0]) hs1
  have g4 := g3.new (o := .lst [.ref s1]) hq
  have hS : SideAt A (mset (mset (mset m1 r1 (.lst [])) s1 (.lst [.ref a1, .ref r1, .int 0])) q (.lst [.ref s1])) s1 a1 d1 r1 [] 0 := by
    obtain ⟨sr, hs1'⟩ := mset_none hs1
    obtain ⟨qs, hq'⟩ := mset_none hq
    obtain ⟨qr, hq''⟩ := mset_none hq'
    have n1 : a1 ≠ r1 := ne_none b1.ob hr1
    have n2 : a1 ≠ s1 := ne_none b1.ob hs1'
    have n3 : a1 ≠ q := ne_none b1.ob hq''
    have n4 : d1 ≠ r1 := ne_none b1.dc hr1
    have n5 : d1 ≠ s1 := ne_none b1.dc hs1'
    have n6 : d1 ≠ q := ne_none b1.dc hq''
    exact ⟨by rw [mset_ne (Ne.symm qs), mset_same], by rw [mset_ne (Ne.symm qr), mset_ne (Ne.symm sr), mset_same]; rfl, ⟨by rw [mset_ne n3, mset_ne n2, mset_ne n1]; exact b1.ob, by rw [mset_ne n6, mset_ne n5, mset_ne n4]; exact b1.dc⟩, sr⟩
  have hqf : q ∉ (Sd.mk s1 a1 d1 r1 [] 0).foot := by
    obtain ⟨qs, hq'⟩ := mset_none hq
    obtain ⟨qr, hq''⟩ := mset_none hq'
    intro hz
    simp only [Sd.foot, List.mem_cons, List.not_mem_nil, or_false] at hz
    rcases hz with rfl | rfl | rfl | rfl
    · exact qs rfl
    · rw [b1.ob] at hq''; cases hq''
    · rw [b1.dc] at hq''; cases hq''
    · exact qr rfl
  have hW : LW A b q [Sd.mk s1 a1 d1 r1 [] 0] 0 (mset (mset (mset m1 r1 (.lst [])) s1 (.lst [.ref a1, .ref r1, .int 0])) q (.lst [.ref s1])) :=
    ⟨g4.at hbb, g4.at htb, mset_same, fun x hx => by rw [List.mem_singleton.mp hx]; exact ⟨hS, ROk.nil, Int.le_refl _, Int.le_refl _, hqf⟩, List.pairwise_singleton _ _, by simp, by show 1 ≤ 3; decide⟩
  generalize mset (mset (mset m1 r1 (.lst [])) s1 (.lst [.ref a1, .ref r1, .int 0])) q (.lst [.ref s1]) = M at hW
  clear hS hqf g4 g3 g2 g1 kp b1 hs1 hr1 hq hd nd had na hbb htb
  refine ⟨b, 41, rfl, hW.hb, by decide, by decide, fun t t0 t1 => ?_⟩
  walk_at "st"
  obtain ⟨T, rfl⟩ := Int.eq_ofNat_of_zero_le t0
  rw [show ((10 : Int) + (T : Int)) = ((10 + T : Nat) : Int) by omega]
  refine k_rngI (by omega) ?_
  refine ⟨fun i s' m' => ∃ (xs : List Sd) (c3 c4 : Option D), LW A b q xs i m' ∧ s' = [some (.lst (ns.map .int)), some (.ref b), some (.ref q), c3, c4, none, none], ⟨_, none, none, hW, rfl⟩, fun _ _ _ _ _ => trivial, ?_, ?_⟩
  · rintro i x s' m' hx ⟨xs, c3, c4, hW, rfl⟩
    obtain ⟨hi, rfl⟩ := get_ints hx
    walk_at "st"
    refine ⟨b, _, hW.hb, fun z => hW.ne (List.map_eq_nil_iff.mp z), by rw [List.length_map]; have := hW.len; omega, .inr ⟨q, rfl, hW.hq⟩, fun x hx => ?_⟩
    obtain ⟨y, hy, rfl⟩ := List.mem_map.mp hx
    obtain ⟨j, hj⟩ := List.getElem?_of_mem hy
    obtain ⟨g1, g2, g3, g4, g5⟩ := hW.each y hy
    walk_at "st"
    refine ⟨b, y.s, y.a, y.d, y.r, y.rs, y.n, rfl, hW.hb, hW.ht, g1, g2, g3, by omega, fun m2 rs' n' kp hs ok' l1 l2 => ?_⟩
    have hW2 := hW.deed hj kp hs ok' l1 l2
    have hlen := hW2.len
    walk_at "st"
    refine k_lenR hW2.hq ?_
    walk_at "st"
    refine qif (fun h3 => ?_) (fun h3 => ?_)
    · have h3 := of_decide_eq_true h3
      rw [List.length_map] at h3
      walk_at "st"
      refine ⟨b, 9, rfl, hW2.hb, by decide, by decide, fun d d0 d1 => ?_⟩
      walk_at "st"
      refine qif (fun _ => ?_) (fun _ => ?_)
      · walk_at "st"
        refine ⟨k_tyL hW2.hq, ?_⟩
        walk_at "st"
        refine k_meth ?_
        walk_at "st"
        refine k_ixr hs.sd rfl ?_
        walk_at "st"
        refine k_methI hs.bg.ob rfl ?_
        walk_at "st"
        refine ⟨y.a, y.d, rs', n', rfl, hs.bg, fun a' d' m3 na nd b3 g3' => ?_⟩
        have hs3 : SideAt A m3 y.s y.a y.d y.r rs' n' := hs.keep g3'
        walk_at "st"
        refine k_ixr hs3.sd rfl ?_
        walk_at "st"
        refine k_list (.inr (.inr ⟨y.r, rfl, hs3.rw_⟩)) fun r' hr' => ?_
        have hs4 := hs3.keep ((Keeps.refl m3).new (o := .lst (rs'.map Rw.d)) hr')
        walk_at "st"
        refine k_ixr hs4.sd rfl ?_
        walk_at "st"
        intro s' hs'
        have g4' := (g3'.new (o := .lst (rs'.map Rw.d)) hr').new (o := .lst [.ref a', .ref r', .int n']) hs'
        refine k_app (g4'.at hW2.hq) (by rw [List.length_map]; show _ < 16777216; omega) ?_
        obtain ⟨sr', hs''⟩ := mset_none hs'
        have nr : m2 r' = none := by
          cases e : m2 r' with
          | none => rfl
          | some o => rw [g3'.at e] at hr'; cases hr'
        have ns' : m2 s' = none := by
          cases e : m2 s' with
          | none => rfl
          | some o => rw [g3'.at e] at hs''; cases hs''
        have n1 : a' ≠ r' := ne_none b3.ob hr'
        have n2 : a' ≠ s' := ne_none b3.ob hs''
        have n4 : d' ≠ r' := ne_none b3.dc hr'
        have n5 : d' ≠ s' := ne_none b3.dc hs''
        have hY : (Sd.mk s' a' d' r' rs' n').at A (mset (mset m3 r' (.lst (rs'.map Rw.d))) s' (.lst [.ref a', .ref r', .int n'])) :=
          ⟨mset_same, by rw [mset_ne (Ne.symm sr'), mset_same], ⟨by rw [mset_ne n2, mset_ne n1]; exact b3.ob, by rw [mset_ne n5, mset_ne n4]; exact b3.dc⟩, sr'⟩
        have hW3 := hW2.add (by rw [List.length_set] at h3 ⊢; exact_mod_cast h3) g4' hY ok' (by show 0 ≤ n'; omega) (by show n' ≤ ((i + 1 : Nat) : Int); omega) (fun z hz => by
          simp only [Sd.foot, List.mem_cons, List.not_mem_nil, or_false] at hz
          rcases hz with rfl | rfl | rfl | rfl
          · exact ns'
          · exact na
          · exact nd
          · exact nr)
        exact turn_end hW3 (by omega) ⟨_, _, _, hW3, rfl⟩
      · walk_at "st"
        exact turn_end hW2 (by omega) ⟨_, _, _, hW2, rfl⟩
    · walk_at "st"
      exact turn_end hW2 (by omega) ⟨_, _, _, hW2, rfl⟩
  · rintro s' m' ⟨xs, c3, c4, hW, rfl⟩
    rw [ints_len] at hW
    walk_at "st"
    refine k_iLr hW.hq ?_
    refine ⟨fun i s' m2 => m2 = m' ∧ ∃ (c3 c4 : Option D), s' = [some (.lst (ns.map .int)), some (.ref b), some (.ref q), c3, c4, none, none], ⟨rfl, c3, c4, rfl⟩, fun _ _ m2 _ h => by rw [h.1]; exact hW.hq, ?_, ?_⟩
    · rintro i x s' m2 hx ⟨rfl, c3, c4, rfl⟩
      obtain ⟨y, hy, rfl⟩ := get_map hx
      obtain ⟨g1, g2, g3, g4, g5⟩ := hW.each y (List.mem_of_getElem? hy)
      walk_at "st"
      refine ⟨b, y.s, y.a, y.d, y.r, y.rs, y.n, rfl, hW.hb, g1, g2, g3, ?_⟩
      walk_at "st"
      refine ⟨b, y.s, y.a, y.d, y.r, y.rs, y.n, rfl, hW.hb, g1, g2, g3, by omega, ?_⟩
      walk_at "st"
      exact ⟨rfl, _, _, rfl⟩
    rintro s' m2 ⟨rfl, c3, c4, rfl⟩
    have hpos : 0 < xs.length := List.length_pos_iff.mpr hW.ne
    have hx0 : xs[0]? = some (xs[0]'hpos) := List.getElem?_eq_getElem hpos
    have hxl : xs[xs.length - 1]? = some (xs[xs.length - 1]'(by omega)) := List.getElem?_eq_getElem (by omega)
    generalize xs[0]'hpos = x at hx0
    generalize xs[xs.length - 1]'(by omega) = y at hxl
    obtain ⟨p1, p2, p3, p4, p5⟩ := hW.each x (List.mem_of_getElem? hx0)
    obtain ⟨q1, q2, q3, q4, q5⟩ := hW.each y (List.mem_of_getElem? hxl)
    walk_at "st"
    refine k_ixr hW.hq (atI_nat (i := 0) (x := D.ref x.s) (by rw [List.getElem?_map, hx0]; rfl)) ?_
    walk_at "st"
    refine k_ixr hW.hq (atI_last (x := D.ref y.s) (by rw [List.length_map, List.getElem?_map, hxl]; rfl)) ?_
    walk_at "st"
    refine k_ixr p1.sd rfl ?_
    walk_at "st"
    refine k_ixr q1.sd rfl ?_
    walk_at "st"
    refine eq_gen_ok p2 q2 p1.bg q1.bg ?_
    walk_at "st"
    refine k_ixr p1.sd rfl ?_
    walk_at "st"
    refine k_ixr q1.sd rfl ?_
    walk_at "st"
    refine rows_eq p2 q2 p1.rw_ q1.rw_ ?_
    walk_at "st"
    refine qif (fun h => ?_) (fun h => ?_)
    · walk_at "st"
      refine k_ixr p1.sd rfl ?_
      walk_at "st"
      refine k_ixr q1.sd rfl ?_
      walk_at "st"
      rw [h, Bool.true_and]
      exact same_v rfl (flatS_bl _) (wk_at (k _))
    · walk_at "st"
      rw [h, Bool.false_and]
      exact same_v rfl (flatS_bl _) (wk_at (k _))
end K30
namespace K30
open PySem PySem.Spec PyProof.Rows L2 L3
set_option maxHeartbeats 40000000
def top (i : Nat) : Stmt := PySem.Challenge.pw_bandheld_k30_whole_bags.main.body.getD i (.Pass ⟨0, 0, 0, 0⟩)
abbrev s_NoSuchLetter_init : Stmt := inClass (top 2) 0
abbrev s_law_bag : Stmt := top 6
abbrev s_law_same : Stmt := top 11
abbrev s_law_draw : Stmt := top 7
abbrev s_law_of : Stmt := top 8
abbrev s_Bag_eq : Stmt := inClass (top 4) 8
abbrev s_Bag_init : Stmt := inClass (top 4) 0
abbrev s_law_chan : Stmt := top 14
abbrev s_law_amount : Stmt := top 10
abbrev s_law_some : Stmt := top 12
abbrev s_law_word : Stmt := top 13
abbrev s_Bag_put : Stmt := inClass (top 4) 1
abbrev s_law_strange : Stmt := top 16
abbrev s_law_refused : Stmt := top 15
abbrev s_Bag_contains : Stmt := inClass (top 4) 7
abbrev s_Bag_take : Stmt := inClass (top 4) 2
abbrev s_Bag_double : Stmt := inClass (top 4) 3
abbrev s_law_deed : Stmt := top 17
abbrev s_Bag_older : Stmt := inClass (top 4) 5
abbrev s_Bag_bool : Stmt := inClass (top 4) 10
abbrev s_Bag_letters : Stmt := inClass (top 4) 4
abbrev s_Bag_len : Stmt := inClass (top 4) 9
abbrev s_law_looks : Stmt := top 18
abbrev s_law_mixed : Stmt := top 9
abbrev s_Bag_copy : Stmt := inClass (top 4) 6
abbrev s_law_equal : Stmt := top 19
abbrev s_law : Stmt := top 20
structure Txt (K : PySem.W.Frag) (mg : Str → Option Value) (A : Adr) : Prop where
  c_Bag : Cls K A.Bag
  mk_Bag : Mk K A.Bag A.Bag_init
  g_Bag : mg "Bag" = some (.ref A.Bag)
  n_Bag_p_letters : NoAttr K A.Bag "_letters"
  n_Bag_p_next : NoAttr K A.Bag "_next"
  m_Bag_put : Meth K A.Bag "put" A.Bag_put
  m_Bag_take : Meth K A.Bag "take" A.Bag_take
  m_Bag_double : Meth K A.Bag "double" A.Bag_double
  m_Bag_letters : Meth K A.Bag "letters" A.Bag_letters
  m_Bag_older : Meth K A.Bag "older" A.Bag_older
  m_Bag_copy : Meth K A.Bag "copy" A.Bag_copy
  e_Bag : PySem.W.findIn K (.ref A.Bag) "__eq__" = some (some (.ref A.Bag_eq))
  ef_Bag : PySem.W.isFn K (.ref A.Bag_eq) = true
  dn_Bag_contains : PySem.W.findIn K (.ref A.Bag) "__contains__" = some (some (.ref A.Bag_contains))
  df_Bag_contains : PySem.W.isFn K (.ref A.Bag_contains) = true
  dn_Bag_len : PySem.W.findIn K (.ref A.Bag) "__len__" = some (some (.ref A.Bag_len))
  df_Bag_len : PySem.W.isFn K (.ref A.Bag_len) = true
  dn_Bag_bool : PySem.W.findIn K (.ref A.Bag) "__bool__" = some (some (.ref A.Bag_bool))
  df_Bag_bool : PySem.W.isFn K (.ref A.Bag_bool) = true
  kl_Bag : PySem.W.kitOne K (.type "list") (.ref A.Bag) = some false
  kn_Bag : PySem.W.kitOne K (.type "int") (.ref A.Bag) = some false
  nl_Bag : PySem.W.notFirst K A.Bag (.type "list") = true
  ni_Bag : PySem.W.notFirst K A.Bag (.type "int") = true
  is_Bag : C8.InsC K A.Bag
  ki_Bag_Bag : PySem.W.kitOne K (.ref A.Bag) (.ref A.Bag) = some true
  gc_Bag : mg "Bag" = some (.ref A.Bag)
  g_law_bag : mg "_law_bag" = some (.ref A.law_bag)
  k_law_bag : PySem.W.keepIn K (.ref A.law_bag) = true
  g_law_same : mg "_law_same" = some (.ref A.law_same)
  k_law_same : PySem.W.keepIn K (.ref A.law_same) = true
  g_law_draw : mg "_law_draw" = some (.ref A.law_draw)
  k_law_draw : PySem.W.keepIn K (.ref A.law_draw) = true
  g_law_of : mg "_law_of" = some (.ref A.law_of)
  k_law_of : PySem.W.keepIn K (.ref A.law_of) = true
  g_law_chan : mg "_law_chan" = some (.ref A.law_chan)
  k_law_chan : PySem.W.keepIn K (.ref A.law_chan) = true
  g_law_amount : mg "_law_amount" = some (.ref A.law_amount)
  k_law_amount : PySem.W.keepIn K (.ref A.law_amount) = true
  g_law_some : mg "_law_some" = some (.ref A.law_some)
  k_law_some : PySem.W.keepIn K (.ref A.law_some) = true
  g_law_word : mg "_law_word" = some (.ref A.law_word)
  k_law_word : PySem.W.keepIn K (.ref A.law_word) = true
  g_law_strange : mg "_law_strange" = some (.ref A.law_strange)
  k_law_strange : PySem.W.keepIn K (.ref A.law_strange) = true
  g_law_refused : mg "_law_refused" = some (.ref A.law_refused)
  k_law_refused : PySem.W.keepIn K (.ref A.law_refused) = true
  g_law_deed : mg "_law_deed" = some (.ref A.law_deed)
  k_law_deed : PySem.W.keepIn K (.ref A.law_deed) = true
  g_law_looks : mg "_law_looks" = some (.ref A.law_looks)
  k_law_looks : PySem.W.keepIn K (.ref A.law_looks) = true
  g_law_mixed : mg "_law_mixed" = some (.ref A.law_mixed)
  k_law_mixed : PySem.W.keepIn K (.ref A.law_mixed) = true
  g_law_equal : mg "_law_equal" = some (.ref A.law_equal)
  k_law_equal : PySem.W.keepIn K (.ref A.law_equal) = true
  z_int : mg "int" = none
  z_list : mg "list" = none
  z_isinstance : mg "isinstance" = none
  z_tuple : mg "tuple" = none
  z_len : mg "len" = none
  z_all : mg "all" = none
  z_zip : mg "zip" = none
  z_bool : mg "bool" = none
  z_str : mg "str" = none
  z_range : mg "range" = none
  z_dict : mg "dict" = none
  xk_NoSuchLetter : ExKG K mg "NoSuchLetter" A.NoSuchLetter A.NoSuchLetter_init "number"
  xg_NoSuchLetter : mg "NoSuchLetter" = some (.ref A.NoSuchLetter)
  xg_Missing : mg "Missing" = some (.ref A.Missing)
  xn_NoSuchLetter_number : PySem.W.findIn K (.ref A.NoSuchLetter) "number" = some none
  xm_NoSuchLetter_NoSuchLetter : PySem.W.exmOne K (.ref A.NoSuchLetter) (.ref A.NoSuchLetter) = some true
  xi_NoSuchLetter_Missing : PySem.W.kitOne K (.ref A.NoSuchLetter) (.ref A.Missing) = some true
section
variable {P : Program} {w : World} {K : PySem.W.Frag} {mg : Str → Option Value} {base : Heap} {A : Adr}
theorem sc_NoSuchLetter_init : FnScope ["self", "number"] ["self", "number"] (defScope s_NoSuchLetter_init) := ⟨rfl, rfl, rfl, by decide +kernel, rfl, by decide +kernel, by decide +kernel⟩
theorem ex_NoSuchLetter {fd : FuncData} (T : Txt K mg A) (F : Fun K "__init__" "NoSuchLetter.__init__" s_NoSuchLetter_init A.NoSuchLetter_init fd) (hb : Binds K fd ["self", "number"] []) : Ex1G P w K mg base "NoSuchLetter" A.NoSuchLetter "number" :=
  T.xk_NoSuchLetter.ex1 F sc_NoSuchLetter_init hb (by decide) (by decide) rfl (.inl rfl) (.inl rfl)
theorem sc_law_refused : FnScope ["_law_told", "_law_number_of", "error"] ["_law_told", "_law_number_of"] (defScope s_law_refused) := ⟨rfl, rfl, rfl, by decide +kernel, rfl, by decide +kernel, by decide +kernel⟩
theorem ds_law_refused {X : Cx} (T : Txt X.K X.mg A) {cdg : Value} {s : Shared} {H : Hp} {a : Addr} {oe : Obj} {cls : Value} {od : Option Addr} {pn : List (Addr × Obj)} (GH_law_same : FnDH X.prog X.w X.K X.mg X.base 6 A.law_same (sph_law_same 6 A)) (hr : Room 6 (cxOf C8.CX0 X.prog X.w X.K X.mg X.base ["_law_told", "_law_number_of", "error"] "_law_refused" (defScope s_law_refused) A.law_refused cdg X.A X.stack s H C8.E0).nox.A) (hz : L2N.Zn cls od oe) (hf : ∃ vs, oe.data = .fields vs) :
    PSs ((cxOf C8.CX0 X.prog X.w X.K X.mg X.base ["_law_told", "_law_number_of", "error"] "_law_refused" (defScope s_law_refused) A.law_refused cdg X.A X.stack s H C8.E0).nox.suite a ((a, oe) :: pn)) (match defBody s_law_refused with | .Try _ [.ExceptHandler _ _ b _] _ _ _ :: _ => b | _ => []) (liftS X.K (qs_law_refused A a cls od)) :=
  (dss_one (ds_ret (de_and (de_callH GH_law_same (room_suite (hr.mono (by decide))) (hot_suite hz hf) rfl T.g_law_same T.k_law_same (da_cons (de_xf T.xk_NoSuchLetter.xf T.xn_NoSuchLetter_number hz.zc hf (dv 2)) (da_cons (dv 1) da_nil))) (de_one (de_isEm (by intro t ht; simp only [List.mem_cons, List.not_mem_nil, or_false] at ht; rcases ht with rfl <;> first | exact ⟨T.xk_NoSuchLetter.xc, T.xi_NoSuchLetter_Missing⟩) hz.zc hf rfl T.z_isinstance rfl T.xg_Missing (dv 2))))))
theorem dr_law_refused {X : Cx} (T : Txt X.K X.mg A) {cdg : Value} {s : Shared} {H : Hp} : PSs (cxOf C8.CX0 X.prog X.w X.K X.mg X.base ["_law_told", "_law_number_of", "error"] "_law_refused" (defScope s_law_refused) A.law_refused cdg X.A X.stack s H C8.E0).nox ((defBody s_law_refused).drop 1) (liftS X.K (qr_law_refused A)) :=
  (dss_one (ds_ret de_bl))
theorem sc_law_bag : FnScope ["_law_script", "_law_seed", "_law_cell"] ["_law_script"] (defScope s_law_bag) := ⟨rfl, rfl, rfl, by decide +kernel, rfl, by decide +kernel, by decide +kernel⟩
theorem d_law_bag {fd : FuncData} (T : Txt K mg A) (F : Fun K "_law_bag" "_law_bag" s_law_bag A.law_bag fd) (hb : Binds K fd ["_law_script"] []) : FnD P w K mg base 1 A.law_bag (sp_law_bag A) :=
  def_ofW (N := ["_law_script", "_law_seed", "_law_cell"]) (qb := qb_law_bag A) F hb sc_law_bag (len_law_bag A) (fun cdv Ar outer s H E hr =>
    (dss_cons (ds_set 1 sc_law_bag.nd de_int)
    (dss_cons (ds_for PassesOwn.never rfl (di_lst (de_slL (dv 0) do_none (do_some de_int))) (pt_nm 2 sc_law_bag.nd) (dss_one (ds_set 1 sc_law_bag.nd (de_op do_mod (de_callTy db_int rfl T.z_int (by decide +kernel) (da_cons (de_op do_add (de_op do_add (de_op do_mul (dv 1) de_int) (de_op do_mod (de_callTy db_int rfl T.z_int (by decide +kernel) (da_cons (dv 2) da_nil)) de_int)) de_int) da_nil)) de_int))))
    (dss_one (ds_ret (de_lstM (da_cons (de_freeze (de_callTy db_list rfl T.z_list (by decide +kernel) (da_cons (de_slL (dv 0) do_none (do_some de_int)) da_nil))) (da_cons de_int (da_cons de_int (da_cons (dv 1) (da_cons de_int da_nil))))))))))) (rd_law_bag A)
theorem sc_law_same : FnScope ["_law_told", "_law_due", "_law_one", "_law_two"] ["_law_told", "_law_due"] (defScope s_law_same) := ⟨rfl, rfl, rfl, by decide +kernel, rfl, by decide +kernel, by decide +kernel⟩
theorem d_law_same {fd : FuncData} (T : Txt K mg A) (F : Fun K "_law_same" "_law_same" s_law_same A.law_same fd) (hb : Binds K fd ["_law_told", "_law_due"] []) : ∀ n : Nat, FnD P w K mg base n A.law_same (sp_law_same n A)
  | 0 => FnD.imp fnd_false fun _ _ _ h => h
  | n + 1 => by
    have G_law_same := d_law_same T F hb n
    exact def_ofW (N := ["_law_told", "_law_due", "_law_one", "_law_two"]) (qb := qb_law_same n A) F hb sc_law_same (len_law_same (n + 1) A) (fun cdv Ar outer s H E hr =>
    (dss_cons (ds_if (dt_val (de_isi2 rfl T.z_isinstance (dv 1) (pe_bltn rfl T.z_tuple (by decide +kernel) rfl) (pe_bltn rfl T.z_list (by decide +kernel) rfl))) (dss_cons (ds_if (PW.pt (dw_or (dt_cmp (do_ne2 (hu64 hr)) (de_isi rfl T.z_isinstance (dv 0) (pe_bltn rfl T.z_tuple (by decide +kernel) rfl)) (de_isi rfl T.z_isinstance (dv 1) (pe_bltn rfl T.z_tuple (by decide +kernel) rfl)) (by first | rfl | exact nobehind _ (by decide) (by decide))) (dw_or1 (dt_cmp (do_ne2 (hu64 hr)) (de_isi rfl T.z_isinstance (dv 0) (pe_bltn rfl T.z_list (by decide +kernel) rfl)) (de_isi rfl T.z_isinstance (dv 1) (pe_bltn rfl T.z_list (by decide +kernel) rfl)) (by first | rfl | exact nobehind _ (by decide) (by decide)))))) (dss_one (ds_ret de_bl)) dss_nil)
    (dss_one (ds_ret (de_and (de_cmp (do_eq2 (hu64 hr)) (de_callB db_len rfl T.z_len (by decide +kernel) (da_cons (dv 0) da_nil)) (de_callB db_len rfl T.z_len (by decide +kernel) (da_cons (dv 1) da_nil)) (by first | rfl | exact nobehind _ (by decide) (by decide))) (de_one (de_callB (db_all rfl) rfl T.z_all (by decide +kernel) (da_cons (de_freeze (de_lc rfl sc_law_same.nd (di_zip rfl T.z_zip (da_cons (dv 0) (da_cons (dv 1) da_nil))) (own := [("_law_one", 2), ("_law_two", 3)]) (by show BlkOk ["_law_told", "_law_due", "_law_one", "_law_two"] (defScope s_law_same) _ _; exact ⟨rfl, by decide +kernel, by decide +kernel, by decide +kernel, by decide +kernel⟩) (fun _ _ _ _ _ => (pt_tp rfl (pts_cn (pt_nm 2 sc_law_same.nd) (pts_cn (pt_nm 3 sc_law_same.nd) pts_nl)))) (fun _ _ _ _ _ => dts_nil (K := _)) (fun _ _ _ _ _ => (de_call G_law_same hr rfl T.g_law_same T.k_law_same (da_cons (dv 2) (da_cons (dv 3) da_nil)))))) da_nil))))))) dss_nil)
    (dss_cons (ds_if (PW.pt (dw_or (dt_cmp do_isN (dv 1) de_non (by first | rfl | exact nobehind _ (by decide) (by decide))) (dw_or1 (dt_cmp do_isN (dv 0) de_non (by first | rfl | exact nobehind _ (by decide) (by decide)))))) (dss_one (ds_ret (de_and (de_cmp do_isN (dv 1) de_non (by first | rfl | exact nobehind _ (by decide) (by decide))) (de_one (de_cmp do_isN (dv 0) de_non (by first | rfl | exact nobehind _ (by decide) (by decide))))))) dss_nil)
    (dss_cons (ds_if (PW.pt (dw_or (dt_cmp (do_ne2 (hu64 hr)) (de_isi rfl T.z_isinstance (dv 0) (pe_bltn rfl T.z_bool (by decide +kernel) rfl)) (de_isi rfl T.z_isinstance (dv 1) (pe_bltn rfl T.z_bool (by decide +kernel) rfl)) (by first | rfl | exact nobehind _ (by decide) (by decide))) (dw_or1 (dt_cmp (do_ne2 (hu64 hr)) (de_isi rfl T.z_isinstance (dv 0) (pe_bltn rfl T.z_int (by decide +kernel) rfl)) (de_isi rfl T.z_isinstance (dv 1) (pe_bltn rfl T.z_int (by decide +kernel) rfl)) (by first | rfl | exact nobehind _ (by decide) (by decide)))))) (dss_one (ds_ret de_bl)) dss_nil)
    (dss_one (ds_ret (de_and (de_cmp (do_eq2 (hu64 hr)) (de_isi rfl T.z_isinstance (dv 0) (pe_bltn rfl T.z_str (by decide +kernel) rfl)) (de_isi rfl T.z_isinstance (dv 1) (pe_bltn rfl T.z_str (by decide +kernel) rfl)) (by first | rfl | exact nobehind _ (by decide) (by decide))) (de_one (de_cmp (do_eq2 (hu64 hr)) (dv 0) (dv 1) (by first | rfl | exact nobehind _ (by decide) (by decide))))))))))) (rd_law_same n A)
theorem dh_law_same {fd : FuncData} (T : Txt K mg A) (F : Fun K "_law_same" "_law_same" s_law_same A.law_same fd) (hb : Binds K fd ["_law_told", "_law_due"] []) : ∀ n : Nat, FnDH P w K mg base n A.law_same (sph_law_same n A)
  | 0 => fndH_false hb fun _ _ _ h => h
  | n + 1 => by
    have GH_law_same := dh_law_same T F hb n
    exact defH_ofW (N := ["_law_told", "_law_due", "_law_one", "_law_two"]) (qb := qbh_law_same n A) F hb sc_law_same (lenh_law_same (n + 1) A) (by
    intro cdv Ar outer s H E p hp hr
    have hc := hot_body (P := P) (w := w) (K := K) (mg := mg) (base := base) (N := ["_law_told", "_law_due", "_law_one", "_law_two"]) (qual := "_law_same") (st := s_law_same) (f := A.law_same) (cdv := cdv) (A := Ar) (outer := outer) (s := s) (H := H) (E := E) (p := p) hp
    exact (dss_cons (ds_if (dt_val (de_isi2 rfl T.z_isinstance (dv 1) (pe_bltn rfl T.z_tuple (by decide +kernel) rfl) (pe_bltn rfl T.z_list (by decide +kernel) rfl))) (dss_cons (ds_if (PW.pt (dw_or (dt_cmp (do_ne2 (hu64H hr)) (de_isi rfl T.z_isinstance (dv 0) (pe_bltn rfl T.z_tuple (by decide +kernel) rfl)) (de_isi rfl T.z_isinstance (dv 1) (pe_bltn rfl T.z_tuple (by decide +kernel) rfl)) (by first | rfl | exact nobehind _ (by decide) (by decide))) (dw_or1 (dt_cmp (do_ne2 (hu64H hr)) (de_isi rfl T.z_isinstance (dv 0) (pe_bltn rfl T.z_list (by decide +kernel) rfl)) (de_isi rfl T.z_isinstance (dv 1) (pe_bltn rfl T.z_list (by decide +kernel) rfl)) (by first | rfl | exact nobehind _ (by decide) (by decide)))))) (dss_one (ds_ret de_bl)) dss_nil)
    (dss_one (ds_ret (de_and (de_cmp (do_eq2 (hu64H hr)) (de_callB db_len rfl T.z_len (by decide +kernel) (da_cons (dv 0) da_nil)) (de_callB db_len rfl T.z_len (by decide +kernel) (da_cons (dv 1) da_nil)) (by first | rfl | exact nobehind _ (by decide) (by decide))) (de_one (de_callB (db_allH hc) rfl T.z_all (by decide +kernel) (da_cons (de_freeze (de_lcH hc sc_law_same.nd (di_zipHD rfl T.z_zip (da_cons (dv 0) (da_cons (dv 1) da_nil))) (own := [("_law_one", 2), ("_law_two", 3)]) (by show BlkOk ["_law_told", "_law_due", "_law_one", "_law_two"] (defScope s_law_same) _ _; exact ⟨rfl, by decide +kernel, by decide +kernel, by decide +kernel, by decide +kernel⟩) (fun _ _ _ _ _ => (pt_tpH hc (pts_cn (pt_nm 2 sc_law_same.nd) (pts_cn (pt_nm 3 sc_law_same.nd) pts_nl)))) (fun _ _ _ _ _ => dts_nil (K := _)) (fun _ _ _ _ _ => (de_callH GH_law_same hr hc rfl T.g_law_same T.k_law_same (da_cons (dv 2) (da_cons (dv 3) da_nil)))))) da_nil))))))) dss_nil)
    (dss_cons (ds_if (PW.pt (dw_or (dt_cmp do_isN (dv 1) de_non (by first | rfl | exact nobehind _ (by decide) (by decide))) (dw_or1 (dt_cmp do_isN (dv 0) de_non (by first | rfl | exact nobehind _ (by decide) (by decide)))))) (dss_one (ds_ret (de_and (de_cmp do_isN (dv 1) de_non (by first | rfl | exact nobehind _ (by decide) (by decide))) (de_one (de_cmp do_isN (dv 0) de_non (by first | rfl | exact nobehind _ (by decide) (by decide))))))) dss_nil)
    (dss_cons (ds_if (PW.pt (dw_or (dt_cmp (do_ne2 (hu64H hr)) (de_isi rfl T.z_isinstance (dv 0) (pe_bltn rfl T.z_bool (by decide +kernel) rfl)) (de_isi rfl T.z_isinstance (dv 1) (pe_bltn rfl T.z_bool (by decide +kernel) rfl)) (by first | rfl | exact nobehind _ (by decide) (by decide))) (dw_or1 (dt_cmp (do_ne2 (hu64H hr)) (de_isi rfl T.z_isinstance (dv 0) (pe_bltn rfl T.z_int (by decide +kernel) rfl)) (de_isi rfl T.z_isinstance (dv 1) (pe_bltn rfl T.z_int (by decide +kernel) rfl)) (by first | rfl | exact nobehind _ (by decide) (by decide)))))) (dss_one (ds_ret de_bl)) dss_nil)
    (dss_one (ds_ret (de_and (de_cmp (do_eq2 (hu64H hr)) (de_isi rfl T.z_isinstance (dv 0) (pe_bltn rfl T.z_str (by decide +kernel) rfl)) (de_isi rfl T.z_isinstance (dv 1) (pe_bltn rfl T.z_str (by decide +kernel) rfl)) (by first | rfl | exact nobehind _ (by decide) (by decide))) (de_one (de_cmp (do_eq2 (hu64H hr)) (dv 0) (dv 1) (by first | rfl | exact nobehind _ (by decide) (by decide))))))))))) (rdh_law_same n A)
theorem sc_law_draw : FnScope ["_law_bag_here", "_law_many", "_law_cell", "_law_digit", "_law_seed"] ["_law_bag_here", "_law_many"] (defScope s_law_draw) := ⟨rfl, rfl, rfl, by decide +kernel, rfl, by decide +kernel, by decide +kernel⟩
theorem d_law_draw {fd : FuncData} (T : Txt K mg A) (F : Fun K "_law_draw" "_law_draw" s_law_draw A.law_draw fd) (hb : Binds K fd ["_law_bag_here", "_law_many"] []) : FnD P w K mg base 1 A.law_draw (sp_law_draw A) :=
  def_ofW (N := ["_law_bag_here", "_law_many", "_law_cell", "_law_digit", "_law_seed"]) (qb := qb_law_draw A) F hb sc_law_draw (len_law_draw A) (fun cdv Ar outer s H E hr =>
    (dss_open (dss_cons (ds_sub (hu1 hr) (dv 0) de_int (de_op do_add (de_idx (hu1 hr) (dv 0) de_int) de_int))
    (dss_cons (ds_if (PW.pt (dw_and (dt_cmp (do_eq2 (hu64 hr)) (de_idx (hu1 hr) (dv 0) de_int) de_int (by first | rfl | exact nobehind _ (by decide) (by decide))) (dw_and1 (dt_cmp do_lt (de_idx (hu1 hr) (dv 0) de_int) (de_callB db_len rfl T.z_len (by decide +kernel) (da_cons (de_idx (hu1 hr) (dv 0) de_int) da_nil)) (by first | rfl | exact nobehind _ (by decide) (by decide)))))) (dss_cons (ds_set 2 sc_law_draw.nd (de_idx (hu1 hr) (de_idx (hu1 hr) (dv 0) de_int) (de_idx (hu1 hr) (dv 0) de_int)))
    (dss_cons (ds_sub (hu1 hr) (dv 0) de_int (de_op do_add (de_idx (hu1 hr) (dv 0) de_int) de_int))
    (dss_one (ds_if (dt_cmp do_ge (dv 2) (de_op do_pow2 de_int de_int) (by first | rfl | exact nobehind _ (by decide) (by decide))) (dss_one (ds_sub (hu1 hr) (dv 0) de_int (dv 2))) (dss_one (ds_sub (hu1 hr) (dv 0) de_int (de_op do_mod (de_callTy db_int rfl T.z_int (by decide +kernel) (da_cons (de_op do_add (de_op do_add (de_op do_mul (de_idx (hu1 hr) (dv 0) de_int) de_int) (de_op do_mul (de_op do_mod (de_callTy db_int rfl T.z_int (by decide +kernel) (da_cons (dv 2) da_nil)) de_int) de_int)) de_int) da_nil)) de_int))))))) dss_nil)
    (dss_cons (ds_if (dt_cmp do_gt (de_idx (hu1 hr) (dv 0) de_int) de_int (by first | rfl | exact nobehind _ (by decide) (by decide))) (dss_cons (ds_set 3 sc_law_draw.nd (de_op do_mod (de_callTy db_int rfl T.z_int (by decide +kernel) (da_cons (de_idx (hu1 hr) (dv 0) de_int) da_nil)) (dv 1)))
    (dss_cons (ds_sub (hu1 hr) (dv 0) de_int (de_op do_fdiv (de_idx (hu1 hr) (dv 0) de_int) (dv 1)))
    (dss_one (ds_ret (dv 3))))) dss_nil)
    (dss_cons (ds_set 4 sc_law_draw.nd (de_idx (hu1 hr) (dv 0) de_int))
    (dss_cons (ds_sub (hu1 hr) (dv 0) de_int (de_op do_mod (de_callTy db_int rfl T.z_int (by decide +kernel) (da_cons (de_op do_add (de_op do_add (de_op do_add (de_op do_mul (de_op do_mul (dv 4) (dv 4)) de_int) (de_op do_mul (dv 4) de_int)) (de_op do_mul (de_idx (hu1 hr) (dv 0) de_int) de_int)) de_int) da_nil)) de_int))
    (dss_one (ds_ret (de_op do_mod (de_callTy db_int rfl T.z_int (by decide +kernel) (da_cons (de_op do_add (de_op do_fdiv (de_idx (hu1 hr) (dv 0) de_int) de_int) (de_op do_mul (de_op do_mod (de_callTy db_int rfl T.z_int (by decide +kernel) (da_cons (de_idx (hu1 hr) (dv 0) de_int) da_nil)) de_int) de_int)) da_nil)) (dv 1))))))))))) (rd_law_draw A)
theorem sc_law_of : FnScope ["_law_bag_here", "_law_things"] ["_law_bag_here", "_law_things"] (defScope s_law_of) := ⟨rfl, rfl, rfl, by decide +kernel, rfl, by decide +kernel, by decide +kernel⟩
theorem d_law_of {fd : FuncData} (T : Txt K mg A) (F : Fun K "_law_of" "_law_of" s_law_of A.law_of fd) (hb : Binds K fd ["_law_bag_here", "_law_things"] []) (G_law_draw : FnD P w K mg base 1 A.law_draw (sp_law_draw A)) : FnD P w K mg base 2 A.law_of (sp_law_of A) :=
  def_ofW (N := ["_law_bag_here", "_law_things"]) (qb := qb_law_of A) F hb sc_law_of (len_law_of A) (fun cdv Ar outer s H E hr =>
    (dss_one (ds_ret (de_idx (hu1 hr) (dv 1) (de_call G_law_draw (hr.mono (by decide)) rfl T.g_law_draw T.k_law_draw (da_cons (dv 0) (da_cons (de_callB db_len rfl T.z_len (by decide +kernel) (da_cons (dv 1) da_nil)) da_nil))))))) (rd_law_of A)
theorem sc_Bag_eq : FnScope ["self", "other"] ["self", "other"] (defScope s_Bag_eq) := ⟨rfl, rfl, rfl, by decide +kernel, rfl, by decide +kernel, by decide +kernel⟩
theorem d_Bag_eq {fd : FuncData} (T : Txt K mg A) (F : Fun K "__eq__" "Bag.__eq__" s_Bag_eq A.Bag_eq fd) (hb : Binds K fd ["self", "other"] []) : FnD P w K mg base 1 A.Bag_eq (sp_Bag_eq A) :=
  def_ofW (N := ["self", "other"]) (qb := qb_Bag_eq A) F hb sc_Bag_eq (len_Bag_eq A) (fun cdv Ar outer s H E hr =>
    (dss_one (ds_ret (de_and (de_isCL T.is_Bag T.ki_Bag_Bag T.kl_Bag T.kn_Bag rfl T.z_isinstance (dv 1) rfl T.gc_Bag) (de_and (de_cmp (do_eqDct (hu65 hr)) (de_fld T.c_Bag T.n_Bag_p_letters (dv 0)) (de_fld T.c_Bag T.n_Bag_p_letters (dv 1)) (by first | rfl | exact nobehind _ (by decide) (by decide))) (de_one (de_cmp (do_eq2 (hu64 hr)) (de_fld T.c_Bag T.n_Bag_p_next (dv 0)) (de_fld T.c_Bag T.n_Bag_p_next (dv 1)) (by first | rfl | exact nobehind _ (by decide) (by decide))))))))) (rd_Bag_eq A)
theorem sc_Bag_init : FnScope ["self"] ["self"] (defScope s_Bag_init) := ⟨rfl, rfl, rfl, by decide +kernel, rfl, by decide +kernel, by decide +kernel⟩
theorem d_Bag_init {fd : FuncData} (T : Txt K mg A) (F : Fun K "__init__" "Bag.__init__" s_Bag_init A.Bag_init fd) (hb : Binds K fd ["self"] []) : FnD P w K mg base 1 A.Bag_init (sp_Bag_init A) :=
  def_ofW (N := ["self"]) (qb := qb_Bag_init A) F hb sc_Bag_init (len_Bag_init A) (fun cdv Ar outer s H E hr =>
    (dss_cons (ds_setF T.c_Bag T.n_Bag_p_letters (dv 0) de_dnewK)
    (dss_one (ds_setF T.c_Bag T.n_Bag_p_next (dv 0) de_int)))) (rd_Bag_init A)
theorem sc_law_chan : FnScope ["_law_bag_here", "_law_found"] ["_law_bag_here"] (defScope s_law_chan) := ⟨rfl, rfl, rfl, by decide +kernel, rfl, by decide +kernel, by decide +kernel⟩
theorem d_law_chan {fd : FuncData} (T : Txt K mg A) (F : Fun K "_law_chan" "_law_chan" s_law_chan A.law_chan fd) (hb : Binds K fd ["_law_bag_here"] []) (G_law_of : FnD P w K mg base 2 A.law_of (sp_law_of A)) : FnD P w K mg base 3 A.law_chan (sp_law_chan A) :=
  def_ofW (N := ["_law_bag_here", "_law_found"]) (qb := qb_law_chan A) F hb sc_law_chan (len_law_chan A) (fun cdv Ar outer s H E hr =>
    (dss_cons (ds_set 1 sc_law_chan.nd (de_lstF (da_cons (de_tup (da_cons de_str (da_cons de_str (da_cons de_str (da_cons de_str da_nil))))) (da_cons (de_tup (da_cons de_str (da_cons de_str (da_cons de_str (da_cons de_str da_nil))))) (da_cons (de_tup (da_cons de_str (da_cons de_str (da_cons de_str (da_cons de_str da_nil))))) (da_cons (de_tup (da_cons de_str (da_cons de_str (da_cons de_str (da_cons de_str da_nil))))) da_nil))))))
    (dss_one (ds_ret (de_call G_law_of (hr.mono (by decide)) rfl T.g_law_of T.k_law_of (da_cons (dv 0) (da_cons (de_op do_add (dv 1) (de_lstF (da_cons (de_tup (da_cons de_str (da_cons de_str (da_cons de_str (da_cons de_str da_nil))))) (da_cons (de_tup (da_cons de_str (da_cons de_str (da_cons de_str (da_cons de_str da_nil))))) (da_cons (de_tup (da_cons de_str (da_cons de_str (da_cons de_str (da_cons de_str da_nil))))) da_nil))))) da_nil))))))) (rd_law_chan A)
theorem sc_law_amount : FnScope ["_law_top", "_law_bottom", "_law_one", "_law_two"] ["_law_top", "_law_bottom"] (defScope s_law_amount) := ⟨rfl, rfl, rfl, by decide +kernel, rfl, by decide +kernel, by decide +kernel⟩
theorem d_law_amount {fd : FuncData} (T : Txt K mg A) (F : Fun K "_law_amount" "_law_amount" s_law_amount A.law_amount fd) (hb : Binds K fd ["_law_top", "_law_bottom"] []) : FnD P w K mg base 1 A.law_amount (sp_law_amount A) :=
  def_ofW (N := ["_law_top", "_law_bottom", "_law_one", "_law_two"]) (qb := qb_law_amount A) F hb sc_law_amount (len_law_amount A) (fun cdv Ar outer s H E hr =>
    (dss_cons (ds_par 2 3 rfl sc_law_amount.nd (da_cons (dv 0) (da_cons (dv 1) da_nil)))
    (dss_cons (ds_while PassesOwn.never (dt_cmp do_gt (dv 3) de_int (by first | rfl | exact nobehind _ (by decide) (by decide))) (dss_one (ds_par 2 3 rfl sc_law_amount.nd (da_cons (dv 3) (da_cons (de_op do_mod (de_callTy db_int rfl T.z_int (by decide +kernel) (da_cons (dv 2) da_nil)) (dv 3)) da_nil)))))
    (dss_one (ds_ret (de_tup (da_cons (de_op do_fdiv (dv 0) (dv 2)) (da_cons (de_op do_fdiv (dv 1) (dv 2)) da_nil)))))))) (rd_law_amount A)
theorem sc_law_some : FnScope ["_law_bag_here", "_law_most", "_law_bottom"] ["_law_bag_here", "_law_most"] (defScope s_law_some) := ⟨rfl, rfl, rfl, by decide +kernel, rfl, by decide +kernel, by decide +kernel⟩
theorem d_law_some {fd : FuncData} (T : Txt K mg A) (F : Fun K "_law_some" "_law_some" s_law_some A.law_some fd) (hb : Binds K fd ["_law_bag_here", "_law_most"] []) (G_law_of : FnD P w K mg base 2 A.law_of (sp_law_of A)) (G_law_amount : FnD P w K mg base 1 A.law_amount (sp_law_amount A)) (G_law_draw : FnD P w K mg base 1 A.law_draw (sp_law_draw A)) : FnD P w K mg base 3 A.law_some (sp_law_some A) :=
  def_ofW (N := ["_law_bag_here", "_law_most", "_law_bottom"]) (qb := qb_law_some A) F hb sc_law_some (len_law_some A) (fun cdv Ar outer s H E hr =>
    (dss_cons (ds_set 2 sc_law_some.nd (de_call G_law_of (hr.mono (by decide)) rfl T.g_law_of T.k_law_of (da_cons (dv 0) (da_cons (de_lstF (da_cons de_int (da_cons de_int (da_cons de_int (da_cons de_int (da_cons de_int (da_cons de_int (da_cons de_int (da_cons de_int da_nil))))))))) da_nil))))
    (dss_one (ds_ret (de_call G_law_amount (hr.mono (by decide)) rfl T.g_law_amount T.k_law_amount (da_cons (de_call G_law_draw (hr.mono (by decide)) rfl T.g_law_draw T.k_law_draw (da_cons (dv 0) (da_cons (de_op do_add (de_op do_mul (dv 1) (dv 2)) de_int) da_nil))) (da_cons (dv 2) da_nil))))))) (rd_law_some A)
theorem sc_law_word : FnScope ["_law_bag_here", "_law_chan_here", "_law_words"] ["_law_bag_here", "_law_chan_here"] (defScope s_law_word) := ⟨rfl, rfl, rfl, by decide +kernel, rfl, by decide +kernel, by decide +kernel⟩
theorem d_law_word {fd : FuncData} (T : Txt K mg A) (F : Fun K "_law_word" "_law_word" s_law_word A.law_word fd) (hb : Binds K fd ["_law_bag_here", "_law_chan_here"] []) (G_law_draw : FnD P w K mg base 1 A.law_draw (sp_law_draw A)) (G_law_some : FnD P w K mg base 3 A.law_some (sp_law_some A)) (G_law_of : FnD P w K mg base 2 A.law_of (sp_law_of A)) : FnD P w K mg base 4 A.law_word (sp_law_word A) :=
  def_ofW (N := ["_law_bag_here", "_law_chan_here", "_law_words"]) (qb := qb_law_word A) F hb sc_law_word (len_law_word A) (fun cdv Ar outer s H E hr =>
    (dss_cons (ds_if (dt_cmp (do_eq2 (hu64 hr)) (de_idx (hu1 hr) (dv 1) de_int) de_str (by first | rfl | exact nobehind _ (by decide) (by decide))) (dss_one (ds_ret (de_cmp (do_eq2 (hu64 hr)) (de_call G_law_draw (hr.mono (by decide)) rfl T.g_law_draw T.k_law_draw (da_cons (dv 0) (da_cons de_int da_nil))) de_int (by first | rfl | exact nobehind _ (by decide) (by decide))))) dss_nil)
    (dss_cons (ds_set 2 sc_law_word.nd (de_lstF (da_cons (de_call G_law_some (hr.mono (by decide)) rfl T.g_law_some T.k_law_some (da_cons (dv 0) (da_cons de_int da_nil))) (da_cons (de_tup (da_cons de_int (da_cons de_int da_nil))) (da_cons (de_tup (da_cons de_int (da_cons de_int da_nil))) (da_cons (de_tup (da_cons de_int (da_cons de_int da_nil))) (da_cons (de_call G_law_some (hr.mono (by decide)) rfl T.g_law_some T.k_law_some (da_cons (dv 0) (da_cons de_int da_nil))) da_nil)))))))
    (dss_cons (ds_if (dt_cmp (do_eq2 (hu64 hr)) (de_idx (hu1 hr) (dv 1) de_int) de_str (by first | rfl | exact nobehind _ (by decide) (by decide))) (dss_one (ds_ret (de_if (dt_cmp (do_eq2 (hu64 hr)) (de_call G_law_draw (hr.mono (by decide)) rfl T.g_law_draw T.k_law_draw (da_cons (dv 0) (da_cons de_int da_nil))) de_int (by first | rfl | exact nobehind _ (by decide) (by decide))) (de_tup da_nil) (de_tup (da_cons (de_call G_law_of (hr.mono (by decide)) rfl T.g_law_of T.k_law_of (da_cons (dv 0) (da_cons (dv 2) da_nil))) (da_cons (de_call G_law_of (hr.mono (by decide)) rfl T.g_law_of T.k_law_of (da_cons (dv 0) (da_cons (dv 2) da_nil))) da_nil)))))) dss_nil)
    (dss_one (ds_ret (de_call G_law_of (hr.mono (by decide)) rfl T.g_law_of T.k_law_of (da_cons (dv 0) (da_cons (dv 2) da_nil))))))))) (rd_law_word A)
theorem sc_Bag_put : FnScope ["self", "channel", "tick", "value", "number"] ["self", "channel", "tick", "value"] (defScope s_Bag_put) := ⟨rfl, rfl, rfl, by decide +kernel, rfl, by decide +kernel, by decide +kernel⟩
theorem d_Bag_put {fd : FuncData} (T : Txt K mg A) (F : Fun K "put" "Bag.put" s_Bag_put A.Bag_put fd) (hb : Binds K fd ["self", "channel", "tick", "value"] []) : FnD P w K mg base 1 A.Bag_put (sp_Bag_put A) :=
  def_ofW (N := ["self", "channel", "tick", "value", "number"]) (qb := qb_Bag_put A) F hb sc_Bag_put (len_Bag_put A) (fun cdv Ar outer s H E hr =>
    (dss_cons (ds_set 4 sc_Bag_put.nd (de_fld T.c_Bag T.n_Bag_p_next (dv 0)))
    (dss_cons (ds_sub (hu1 hr) (de_fld T.c_Bag T.n_Bag_p_letters (dv 0)) (dv 4) (de_tup (da_cons (dv 4) (da_cons (dv 1) (da_cons (dv 2) (da_cons (dv 3) da_nil))))))
    (dss_cons (ds_setF T.c_Bag T.n_Bag_p_next (dv 0) (de_op do_add (dv 4) de_int))
    (dss_one (ds_ret (dv 4))))))) (rd_Bag_put A)
theorem sc_law_strange : FnScope ["_law_bag_here", "_law_rows", "_law_count", "_law_gone", "_law_found", "_law_row", "_law_k"] ["_law_bag_here", "_law_rows", "_law_count"] (defScope s_law_strange) := ⟨rfl, rfl, rfl, by decide +kernel, rfl, by decide +kernel, by decide +kernel⟩
theorem d_law_strange {fd : FuncData} (T : Txt K mg A) (F : Fun K "_law_strange" "_law_strange" s_law_strange A.law_strange fd) (hb : Binds K fd ["_law_bag_here", "_law_rows", "_law_count"] []) (G_law_draw : FnD P w K mg base 1 A.law_draw (sp_law_draw A)) (G_law_of : FnD P w K mg base 2 A.law_of (sp_law_of A)) : FnD P w K mg base 3 A.law_strange (sp_law_strange A) :=
  def_ofW (N := ["_law_bag_here", "_law_rows", "_law_count", "_law_gone", "_law_found", "_law_row", "_law_k"]) (qb := qb_law_strange A) F hb sc_law_strange (len_law_strange A) (fun cdv Ar outer s H E hr =>
    (dss_cons (ds_setLcF 3 rfl sc_law_strange.nd (di_range1 rfl T.z_range (da_cons (dv 2) da_nil)) (own := [("_law_k", 6)]) (by show BlkOk ["_law_bag_here", "_law_rows", "_law_count", "_law_gone", "_law_found", "_law_row", "_law_k"] (defScope s_law_strange) _ _; exact ⟨rfl, by decide +kernel, by decide +kernel, by decide +kernel, by decide +kernel⟩) (fun _ _ _ _ _ => (pt_nm 6 sc_law_strange.nd)) (fun _ _ _ _ _ => dts_one (dt_cmp (do_notIn2 (hu65 hr)) (dv 6) (de_freeze (de_lc rfl sc_law_strange.nd (di_lst (dv 1)) (own := [("_law_row", 5)]) (by refine (show BlkOk ["_law_bag_here", "_law_rows", "_law_count", "_law_gone", "_law_found", "_law_row", "_law_k"] _ _ _ from ⟨rfl, by decide +kernel, by decide +kernel, ?_, by decide +kernel⟩); repeat (first | exact nofun | refine List.forall_mem_cons.mpr ⟨(fun e => by first | (cases e; done) | exact .inl rfl | exact .inr rfl), ?_⟩)) (fun _ _ _ _ _ => (pt_nm 5 sc_law_strange.nd)) (fun _ _ _ _ _ => dts_nil (K := _)) (fun _ _ _ _ _ => (de_idx (hu1 hr) (dv 5) de_int)))) (by first | rfl | exact nobehind _ (by decide) (by decide)))) (fun _ _ _ _ _ => (dv 6)))
    (dss_cons (ds_set 4 sc_law_strange.nd (de_lstF (da_cons de_non (da_cons de_str (da_cons de_str (da_cons (de_lstF da_nil) (da_cons (de_lstF (da_cons de_int da_nil)) (da_cons (de_tup (da_cons de_int da_nil)) (da_cons (de_tup da_nil) (da_cons (de_neg de_int) (da_cons (dv 2) (da_cons (de_op do_add (dv 2) de_int) (da_cons de_int (da_cons (de_tup (da_cons de_str (da_cons de_str (da_cons de_str (da_cons de_str da_nil))))) (da_cons de_bl (da_cons de_bl (da_cons de_bl da_nil)))))))))))))))))
    (dss_cons (ds_if (PW.pt (dw_and (dt_cmp (do_ne2 (hu64 hr)) (dv 3) (de_lstF da_nil) (by first | rfl | exact nobehind _ (by decide) (by decide))) (dw_and1 (dt_cmp do_gt (de_call G_law_draw (hr.mono (by decide)) rfl T.g_law_draw T.k_law_draw (da_cons (dv 0) (da_cons de_int da_nil))) de_int (by first | rfl | exact nobehind _ (by decide) (by decide)))))) (dss_one (ds_ret (de_call G_law_of (hr.mono (by decide)) rfl T.g_law_of T.k_law_of (da_cons (dv 0) (da_cons (dv 3) da_nil))))) dss_nil)
    (dss_one (ds_ret (de_call G_law_of (hr.mono (by decide)) rfl T.g_law_of T.k_law_of (da_cons (dv 0) (da_cons (dv 4) da_nil))))))))) (rd_law_strange A)
theorem sc_Bag_contains : FnScope ["self", "number"] ["self", "number"] (defScope s_Bag_contains) := ⟨rfl, rfl, rfl, by decide +kernel, rfl, by decide +kernel, by decide +kernel⟩
theorem d_Bag_contains {fd : FuncData} (T : Txt K mg A) (F : Fun K "__contains__" "Bag.__contains__" s_Bag_contains A.Bag_contains fd) (hb : Binds K fd ["self", "number"] []) : FnD P w K mg base 1 A.Bag_contains (sp_Bag_contains A) :=
  def_ofW (N := ["self", "number"]) (qb := qb_Bag_contains A) F hb sc_Bag_contains (len_Bag_contains A) (fun cdv Ar outer s H E hr =>
    (dss_one (ds_ret (de_and (de_isi rfl T.z_isinstance (dv 1) (pe_bltn rfl T.z_int (by decide +kernel) rfl)) (de_and (de_not (de_isi rfl T.z_isinstance (dv 1) (pe_bltn rfl T.z_bool (by decide +kernel) rfl))) (de_one (de_cmp (do_in2 (hu65 hr)) (dv 1) (de_fld T.c_Bag T.n_Bag_p_letters (dv 0)) (by first | rfl | exact nobehind _ (by decide) (by decide))))))))) (rd_Bag_contains A)
theorem sc_Bag_take : FnScope ["self", "number"] ["self", "number"] (defScope s_Bag_take) := ⟨rfl, rfl, rfl, by decide +kernel, rfl, by decide +kernel, by decide +kernel⟩
theorem d_Bag_take {fd : FuncData} (T : Txt K mg A) (F : Fun K "take" "Bag.take" s_Bag_take A.Bag_take fd) (hb : Binds K fd ["self", "number"] []) (G_Bag_contains : FnD P w K mg base 1 A.Bag_contains (sp_Bag_contains A)) : FnD P w K mg base 3 A.Bag_take (sp_Bag_take A) :=
  def_ofW (N := ["self", "number"]) (qb := qb_Bag_take A) F hb sc_Bag_take (len_Bag_take A) (fun cdv Ar outer s H E hr =>
    (dss_cons (ds_if (dt_cmp (do_notInO G_Bag_contains (hr.mono (by decide)) T.dn_Bag_contains T.df_Bag_contains) (dv 1) (dv 0) (by first | rfl | exact nobehind _ (by decide) (by decide))) (dss_one ds_never) dss_nil)
    (dss_one (ds_ret (de_dpop1 (de_fld T.c_Bag T.n_Bag_p_letters (dv 0)) (dv 1)))))) (rd_Bag_take A)
theorem dx_Bag_take {fd : FuncData} (T : Txt K mg A) (F : Fun K "take" "Bag.take" s_Bag_take A.Bag_take fd) (hb : Binds K fd ["self", "number"] []) (X_NoSuchLetter : Ex1G P w K mg base "NoSuchLetter" A.NoSuchLetter "number") (G_Bag_contains : FnD P w K mg base 1 A.Bag_contains (sp_Bag_contains A)) : FnDX P w K mg base 3 A.Bag_take (spx_Bag_take A) :=
  defX_of (N := ["self", "number"]) (qb := qbx_Bag_take A) F hb sc_Bag_take (lenx_Bag_take A) (fun cdv Ar outer s H E hr =>
    (xss_cons (xs_if (dt_cmp (do_notInO G_Bag_contains (hr.mono (by decide)) T.dn_Bag_contains T.df_Bag_contains) (dv 1) (dv 0) (by first | rfl | exact nobehind _ (by decide) (by decide))) (xss_one (xs_raise1G rfl X_NoSuchLetter (hr.mono (by decide)) (L2N.takes_of rfl rfl rfl rfl) (dv 1))) (xss_of dss_nil))
    (xss_one (xs_of (ds_ret (de_dpop1 (de_fld T.c_Bag T.n_Bag_p_letters (dv 0)) (dv 1))))))) (rdx_Bag_take A)
theorem sc_Bag_double : FnScope ["self", "number", "_", "channel", "tick", "value"] ["self", "number"] (defScope s_Bag_double) := ⟨rfl, rfl, rfl, by decide +kernel, rfl, by decide +kernel, by decide +kernel⟩
theorem d_Bag_double {fd : FuncData} (T : Txt K mg A) (F : Fun K "double" "Bag.double" s_Bag_double A.Bag_double fd) (hb : Binds K fd ["self", "number"] []) (G_Bag_contains : FnD P w K mg base 1 A.Bag_contains (sp_Bag_contains A)) (G_Bag_put : FnD P w K mg base 1 A.Bag_put (sp_Bag_put A)) : FnD P w K mg base 3 A.Bag_double (sp_Bag_double A) :=
  def_ofW (N := ["self", "number", "_", "channel", "tick", "value"]) (qb := qb_Bag_double A) F hb sc_Bag_double (len_Bag_double A) (fun cdv Ar outer s H E hr =>
    (dss_cons (ds_if (dt_cmp (do_notInO G_Bag_contains (hr.mono (by decide)) T.dn_Bag_contains T.df_Bag_contains) (dv 1) (dv 0) (by first | rfl | exact nobehind _ (by decide) (by decide))) (dss_one ds_never) dss_nil)
    (dss_cons (ds_asg (de_idx (hu1 hr) (de_fld T.c_Bag T.n_Bag_p_letters (dv 0)) (dv 1)) (pt_tp rfl (pts_cn (pt_nm 2 sc_Bag_double.nd) (pts_cn (pt_nm 3 sc_Bag_double.nd) (pts_cn (pt_nm 4 sc_Bag_double.nd) (pts_cn (pt_nm 5 sc_Bag_double.nd) pts_nl))))))
    (dss_one (ds_ret (de_meth (dv 0) T.c_Bag T.m_Bag_put G_Bag_put (hr.mono (by decide)) (da_cons (dv 3) (da_cons (dv 4) (da_cons (dv 5) da_nil))))))))) (rd_Bag_double A)
theorem dx_Bag_double {fd : FuncData} (T : Txt K mg A) (F : Fun K "double" "Bag.double" s_Bag_double A.Bag_double fd) (hb : Binds K fd ["self", "number"] []) (X_NoSuchLetter : Ex1G P w K mg base "NoSuchLetter" A.NoSuchLetter "number") (G_Bag_contains : FnD P w K mg base 1 A.Bag_contains (sp_Bag_contains A)) (G_Bag_put : FnD P w K mg base 1 A.Bag_put (sp_Bag_put A)) : FnDX P w K mg base 3 A.Bag_double (spx_Bag_double A) :=
  defX_of (N := ["self", "number", "_", "channel", "tick", "value"]) (qb := qbx_Bag_double A) F hb sc_Bag_double (lenx_Bag_double A) (fun cdv Ar outer s H E hr =>
    (xss_cons (xs_if (dt_cmp (do_notInO G_Bag_contains (hr.mono (by decide)) T.dn_Bag_contains T.df_Bag_contains) (dv 1) (dv 0) (by first | rfl | exact nobehind _ (by decide) (by decide))) (xss_one (xs_raise1G rfl X_NoSuchLetter (hr.mono (by decide)) (L2N.takes_of rfl rfl rfl rfl) (dv 1))) (xss_of dss_nil))
    (xss_cons (xs_of (ds_asg (de_idx (hu1 hr) (de_fld T.c_Bag T.n_Bag_p_letters (dv 0)) (dv 1)) (pt_tp rfl (pts_cn (pt_nm 2 sc_Bag_double.nd) (pts_cn (pt_nm 3 sc_Bag_double.nd) (pts_cn (pt_nm 4 sc_Bag_double.nd) (pts_cn (pt_nm 5 sc_Bag_double.nd) pts_nl)))))))
    (xss_one (xs_of (ds_ret (de_meth (dv 0) T.c_Bag T.m_Bag_put G_Bag_put (hr.mono (by decide)) (da_cons (dv 3) (da_cons (dv 4) (da_cons (dv 5) da_nil)))))))))) (rdx_Bag_double A)
theorem sc_law_deed : FnScope ["_law_bag_here", "_law_side", "_law_told", "_law_rows", "_law_count", "_law_how", "_law_chan_here", "_law_item", "_law_made", "_law_row", "_law_wrong", "_law_x", "_law_y"] ["_law_bag_here", "_law_side"] (defScope s_law_deed) := ⟨rfl, rfl, rfl, by decide +kernel, rfl, by decide +kernel, by decide +kernel⟩
theorem d_law_deed {fd : FuncData} (T : Txt K mg A) (F : Fun K "_law_deed" "_law_deed" s_law_deed A.law_deed fd) (hb : Binds K fd ["_law_bag_here", "_law_side"] []) (hc : fd.code = .ref A.cb_law_deed) (TB : LamX.TabB base mg A.cb_law_deed A.tb_law_deed) (G_law_draw : FnD P w K mg base 1 A.law_draw (sp_law_draw A)) (G_law_chan : FnD P w K mg base 3 A.law_chan (sp_law_chan A)) (G_law_word : FnD P w K mg base 4 A.law_word (sp_law_word A)) (G_law_same : FnD P w K mg base 6 A.law_same (sp_law_same 6 A)) (G_Bag_put : FnD P w K mg base 1 A.Bag_put (sp_Bag_put A)) (G_law_of : FnD P w K mg base 2 A.law_of (sp_law_of A)) (G_Bag_take : FnD P w K mg base 3 A.Bag_take (sp_Bag_take A)) (G_Bag_double : FnD P w K mg base 3 A.Bag_double (sp_Bag_double A)) (G_law_strange : FnD P w K mg base 3 A.law_strange (sp_law_strange A)) (G_Bag_contains : FnD P w K mg base 1 A.Bag_contains (sp_Bag_contains A)) {fd_law_refused : FuncData} (F_law_refused : Fun K "_law_refused" "_law_refused" s_law_refused A.law_refused fd_law_refused) (b_law_refused : Binds K fd_law_refused ["_law_told", "_law_number_of"] []) (GX_Bag_take : FnDX P w K mg base 3 A.Bag_take (spx_Bag_take A)) (GX_Bag_double : FnDX P w K mg base 3 A.Bag_double (spx_Bag_double A)) (GH_law_same : FnDH P w K mg base 6 A.law_same (sph_law_same 6 A)) : FnD P w K mg base 9 A.law_deed (sp_law_deed A) :=
  fnr_of (fno_ofC (N := ["_law_bag_here", "_law_side", "_law_told", "_law_rows", "_law_count", "_law_how", "_law_chan_here", "_law_item", "_law_made", "_law_row", "_law_wrong", "_law_x", "_law_y"]) (qb := qb_law_deed A) F hc sc_law_deed (len_law_deed A) (fun Ar outer s H E hr =>
    (dss_cons (ds_asg (de_tup (da_cons (de_idx (hu1 hr) (dv 1) de_int) (da_cons (de_idx (hu1 hr) (dv 1) de_int) (da_cons (de_idx (hu1 hr) (dv 1) de_int) da_nil)))) (pt_tp rfl (pts_cn (pt_nm 2 sc_law_deed.nd) (pts_cn (pt_nm 3 sc_law_deed.nd) (pts_cn (pt_nm 4 sc_law_deed.nd) pts_nl)))))
    (dss_cons (ds_set 5 sc_law_deed.nd (de_call G_law_draw (hr.mono (by decide)) rfl T.g_law_draw T.k_law_draw (da_cons (dv 0) (da_cons de_int da_nil))))
    (dss_cons (ds_if (PW.pt (dw_or (dt_cmp do_lt (dv 5) de_int (by first | rfl | exact nobehind _ (by decide) (by decide))) (dw_or1 (PW.pt (dw_and (dt_cmp (do_eq2 (hu64 hr)) (dv 3) (de_lstF da_nil) (by first | rfl | exact nobehind _ (by decide) (by decide))) (dw_and1 (dt_cmp do_lt (dv 5) de_int (by first | rfl | exact nobehind _ (by decide) (by decide))))))))) (dss_cons (ds_set 6 sc_law_deed.nd (de_call G_law_chan (hr.mono (by decide)) rfl T.g_law_chan T.k_law_chan (da_cons (dv 0) da_nil)))
    (dss_cons (ds_par 7 8 rfl sc_law_deed.nd (da_cons (de_call G_law_word (hr.mono (by decide)) rfl T.g_law_word T.k_law_word (da_cons (dv 0) (da_cons (dv 6) da_nil))) (da_cons (de_op do_sub (de_call G_law_draw (hr.mono (by decide)) rfl T.g_law_draw T.k_law_draw (da_cons (dv 0) (da_cons de_int da_nil))) de_int) da_nil)))
    (dss_cons (ds_if (dt_not (dt_val (de_call G_law_same (hr.mono (by decide)) rfl T.g_law_same T.k_law_same (da_cons (de_meth (dv 2) T.c_Bag T.m_Bag_put G_Bag_put (hr.mono (by decide)) (da_cons (dv 6) (da_cons (dv 8) (da_cons (dv 7) da_nil)))) (da_cons (dv 4) da_nil))))) (dss_one (ds_ret de_bl)) dss_nil)
    (dss_cons (ds_expr (de_bm PySem.F.plainAttrs_list PySem.F.slot_list_append PySem.F.type_list_append dm_append (dv 3) (da_cons (de_tup (da_cons (dv 4) (da_cons (dv 6) (da_cons (dv 8) (da_cons (dv 7) da_nil))))) da_nil)))
    (dss_one (ds_sub (hu1 hr) (dv 1) de_int (de_op do_add (dv 4) de_int))))))) (dss_one (ds_if (dt_cmp do_lt (dv 5) de_int (by first | rfl | exact nobehind _ (by decide) (by decide))) (dss_cons (ds_set 9 sc_law_deed.nd (de_call G_law_of (hr.mono (by decide)) rfl T.g_law_of T.k_law_of (da_cons (dv 0) (da_cons (dv 3) da_nil))))
    (dss_cons (ds_if (dt_not (dt_val (de_call G_law_same (hr.mono (by decide)) rfl T.g_law_same T.k_law_same (da_cons (de_meth (dv 2) T.c_Bag T.m_Bag_take G_Bag_take (hr.mono (by decide)) (da_cons (de_idx (hu1 hr) (dv 9) de_int) da_nil)) (da_cons (dv 9) da_nil))))) (dss_one (ds_ret de_bl)) dss_nil)
    (dss_one (ds_expr (de_bm PySem.F.plainAttrs_list PySem.F.slot_list_remove PySem.F.type_list_remove (dm_remove (hu65 hr)) (dv 3) (da_cons (dv 9) da_nil)))))) (dss_one (ds_if (dt_cmp do_lt (dv 5) de_int (by first | rfl | exact nobehind _ (by decide) (by decide))) (dss_cons (ds_set 9 sc_law_deed.nd (de_call G_law_of (hr.mono (by decide)) rfl T.g_law_of T.k_law_of (da_cons (dv 0) (da_cons (dv 3) da_nil))))
    (dss_cons (ds_if (dt_not (dt_val (de_call G_law_same (hr.mono (by decide)) rfl T.g_law_same T.k_law_same (da_cons (de_meth (dv 2) T.c_Bag T.m_Bag_double G_Bag_double (hr.mono (by decide)) (da_cons (de_idx (hu1 hr) (dv 9) de_int) da_nil)) (da_cons (dv 4) da_nil))))) (dss_one (ds_ret de_bl)) dss_nil)
    (dss_cons (ds_expr (de_bm PySem.F.plainAttrs_list PySem.F.slot_list_append PySem.F.type_list_append dm_append (dv 3) (da_cons (de_tup (da_cons (dv 4) (da_cons (de_idx (hu1 hr) (dv 9) de_int) (da_cons (de_idx (hu1 hr) (dv 9) de_int) (da_cons (de_idx (hu1 hr) (dv 9) de_int) da_nil))))) da_nil)))
    (dss_one (ds_sub (hu1 hr) (dv 1) de_int (de_op do_add (dv 4) de_int)))))) (dss_cons (ds_set 10 sc_law_deed.nd (de_call G_law_strange (hr.mono (by decide)) rfl T.g_law_strange T.k_law_strange (da_cons (dv 0) (da_cons (dv 3) (da_cons (dv 4) da_nil)))))
    (dss_cons (ds_if (PW.pt (dw_or (dt_not (dt_val (de_call G_law_same (hr.mono (by decide)) rfl T.g_law_same T.k_law_same (da_cons (de_cmp (do_inO G_Bag_contains (hr.mono (by decide)) T.dn_Bag_contains T.df_Bag_contains) (dv 10) (dv 2) (by first | rfl | exact nobehind _ (by decide) (by decide))) (da_cons de_bl da_nil))))) (dw_or1 (dt_not (dt_val (de_ref F_law_refused b_law_refused sc_law_refused rfl (.inl rfl) (.inl rfl) rfl rfl T.xg_NoSuchLetter (by intro C hC; simp only [List.mem_cons, List.not_mem_nil, or_false] at hC; rcases hC with rfl <;> first | exact T.xm_NoSuchLetter_NoSuchLetter) (fun cdg s H e oe cls d pn hz hf => ds_law_refused T GH_law_same ((hr.mono (by decide) : Room (6 + 1) _).deeper _) hz hf) (fun cdg s H => dr_law_refused T) ((hr.mono (by decide)) : Room (6 + 2) _) TB rfl rfl T.g_law_refused T.k_law_refused (LamX.lamS1_by rfl) rfl sc_law_deed.nd rfl (by intro _ _ _ _ _ _; rfl) (fun Ar2 outer2 s2 H2 E2 f2 c2 hr =>
      (dn_meth (dv 2) T.c_Bag T.m_Bag_take GX_Bag_take (hr.mono (by decide)) (L2N.takes_of rfl rfl rfl rfl) (da_cons (dv 11) da_nil))) (dv 10))))))) (dss_one (ds_ret de_bl)) dss_nil)
    (dss_one (ds_ret (de_ref F_law_refused b_law_refused sc_law_refused rfl (.inl rfl) (.inl rfl) rfl rfl T.xg_NoSuchLetter (by intro C hC; simp only [List.mem_cons, List.not_mem_nil, or_false] at hC; rcases hC with rfl <;> first | exact T.xm_NoSuchLetter_NoSuchLetter) (fun cdg s H e oe cls d pn hz hf => ds_law_refused T GH_law_same ((hr.mono (by decide) : Room (6 + 1) _).deeper _) hz hf) (fun cdg s H => dr_law_refused T) ((hr.mono (by decide)) : Room (6 + 2) _) TB rfl rfl T.g_law_refused T.k_law_refused (LamX.lamS1_by rfl) rfl sc_law_deed.nd rfl (by intro _ _ _ _ _ _; rfl) (fun Ar2 outer2 s2 H2 E2 f2 c2 hr =>
      (dn_meth (dv 2) T.c_Bag T.m_Bag_double GX_Bag_double (hr.mono (by decide)) (L2N.takes_of rfl rfl rfl rfl) (da_cons (dv 12) da_nil))) (dv 10)))))))))))
    (dss_one (ds_ret de_bl)))))) (rd_law_deed A)) hb
theorem sc_Bag_older : FnScope ["self", "tick", "letter"] ["self", "tick"] (defScope s_Bag_older) := ⟨rfl, rfl, rfl, by decide +kernel, rfl, by decide +kernel, by decide +kernel⟩
theorem d_Bag_older {fd : FuncData} (T : Txt K mg A) (F : Fun K "older" "Bag.older" s_Bag_older A.Bag_older fd) (hb : Binds K fd ["self", "tick"] []) : FnD P w K mg base 1 A.Bag_older (sp_Bag_older A) :=
  def_ofW (N := ["self", "tick", "letter"]) (qb := qb_Bag_older A) F hb sc_Bag_older (len_Bag_older A) (fun cdv Ar outer s H E hr =>
    (dss_one (ds_ret (de_lock (de_lc rfl sc_Bag_older.nd (di_values (de_fld T.c_Bag T.n_Bag_p_letters (dv 0))) (own := [("letter", 2)]) (by show BlkOk ["self", "tick", "letter"] (defScope s_Bag_older) _ _; exact ⟨rfl, by decide +kernel, by decide +kernel, by decide +kernel, by decide +kernel⟩) (fun _ _ _ _ _ => (pt_nm 2 sc_Bag_older.nd)) (fun _ _ _ _ _ => dts_one (dt_cmp do_le (de_idx (hu1 hr) (dv 2) de_int) (dv 1) (by first | rfl | exact nobehind _ (by decide) (by decide)))) (fun _ _ _ _ _ => (dv 2))))))) (rd_Bag_older A)
theorem sc_Bag_bool : FnScope ["self"] ["self"] (defScope s_Bag_bool) := ⟨rfl, rfl, rfl, by decide +kernel, rfl, by decide +kernel, by decide +kernel⟩
theorem d_Bag_bool {fd : FuncData} (T : Txt K mg A) (F : Fun K "__bool__" "Bag.__bool__" s_Bag_bool A.Bag_bool fd) (hb : Binds K fd ["self"] []) : FnD P w K mg base 1 A.Bag_bool (sp_Bag_bool A) :=
  def_ofW (N := ["self"]) (qb := qb_Bag_bool A) F hb sc_Bag_bool (len_Bag_bool A) (fun cdv Ar outer s H E hr =>
    (dss_one (ds_ret de_bl))) (rd_Bag_bool A)
theorem sc_Bag_letters : FnScope ["self"] ["self"] (defScope s_Bag_letters) := ⟨rfl, rfl, rfl, by decide +kernel, rfl, by decide +kernel, by decide +kernel⟩
theorem d_Bag_letters {fd : FuncData} (T : Txt K mg A) (F : Fun K "letters" "Bag.letters" s_Bag_letters A.Bag_letters fd) (hb : Binds K fd ["self"] []) : FnD P w K mg base 1 A.Bag_letters (sp_Bag_letters A) :=
  def_ofW (N := ["self"]) (qb := qb_Bag_letters A) F hb sc_Bag_letters (len_Bag_letters A) (fun cdv Ar outer s H E hr =>
    (dss_one (ds_ret (de_listVals rfl (de_fld T.c_Bag T.n_Bag_p_letters (dv 0)) rfl T.z_list)))) (rd_Bag_letters A)
theorem sc_Bag_len : FnScope ["self"] ["self"] (defScope s_Bag_len) := ⟨rfl, rfl, rfl, by decide +kernel, rfl, by decide +kernel, by decide +kernel⟩
theorem d_Bag_len {fd : FuncData} (T : Txt K mg A) (F : Fun K "__len__" "Bag.__len__" s_Bag_len A.Bag_len fd) (hb : Binds K fd ["self"] []) : FnD P w K mg base 1 A.Bag_len (sp_Bag_len A) :=
  def_ofW (N := ["self"]) (qb := qb_Bag_len A) F hb sc_Bag_len (len_Bag_len A) (fun cdv Ar outer s H E hr =>
    (dss_one (ds_ret (de_callB db_len rfl T.z_len (by decide +kernel) (da_cons (de_fld T.c_Bag T.n_Bag_p_letters (dv 0)) da_nil))))) (rd_Bag_len A)
theorem sc_law_looks : FnScope ["_law_bag_here", "_law_side", "_law_told", "_law_rows", "_law_count", "_law_k", "_law_found", "_law_until", "_law_row"] ["_law_bag_here", "_law_side"] (defScope s_law_looks) := ⟨rfl, rfl, rfl, by decide +kernel, rfl, by decide +kernel, by decide +kernel⟩
theorem d_law_looks {fd : FuncData} (T : Txt K mg A) (F : Fun K "_law_looks" "_law_looks" s_law_looks A.law_looks fd) (hb : Binds K fd ["_law_bag_here", "_law_side"] []) (G_law_same : FnD P w K mg base 6 A.law_same (sp_law_same 6 A)) (G_Bag_len : FnD P w K mg base 1 A.Bag_len (sp_Bag_len A)) (G_Bag_bool : FnD P w K mg base 1 A.Bag_bool (sp_Bag_bool A)) (G_Bag_letters : FnD P w K mg base 1 A.Bag_letters (sp_Bag_letters A)) (G_law_draw : FnD P w K mg base 1 A.law_draw (sp_law_draw A)) (G_Bag_older : FnD P w K mg base 1 A.Bag_older (sp_Bag_older A)) (G_Bag_contains : FnD P w K mg base 1 A.Bag_contains (sp_Bag_contains A)) : FnD P w K mg base 7 A.law_looks (sp_law_looks A) :=
  def_ofW (N := ["_law_bag_here", "_law_side", "_law_told", "_law_rows", "_law_count", "_law_k", "_law_found", "_law_until", "_law_row"]) (qb := qb_law_looks A) F hb sc_law_looks (len_law_looks A) (fun cdv Ar outer s H E hr =>
    (dss_cons (ds_asg (de_tup (da_cons (de_idx (hu1 hr) (dv 1) de_int) (da_cons (de_idx (hu1 hr) (dv 1) de_int) (da_cons (de_idx (hu1 hr) (dv 1) de_int) da_nil)))) (pt_tp rfl (pts_cn (pt_nm 2 sc_law_looks.nd) (pts_cn (pt_nm 3 sc_law_looks.nd) (pts_cn (pt_nm 4 sc_law_looks.nd) pts_nl)))))
    (dss_cons (ds_if (PW.pt (dw_or (dt_not (dt_val (de_call G_law_same (hr.mono (by decide)) rfl T.g_law_same T.k_law_same (da_cons (de_callB (db_lenO G_Bag_len (hr.mono (by decide)) T.dn_Bag_len T.df_Bag_len) rfl T.z_len (by decide +kernel) (da_cons (dv 2) da_nil)) (da_cons (de_callB db_len rfl T.z_len (by decide +kernel) (da_cons (dv 3) da_nil)) da_nil))))) (dw_or1 (dt_not (dt_truO G_Bag_bool (hr.mono (by decide)) T.dn_Bag_bool T.df_Bag_bool (dv 2)))))) (dss_one (ds_ret de_bl)) dss_nil)
    (dss_cons (ds_for PassesOwn.never rfl (di_range1 rfl T.z_range (da_cons de_int da_nil)) (pt_nm 5 sc_law_looks.nd) (dss_cons (ds_set 6 sc_law_looks.nd (de_meth0 (dv 2) T.c_Bag T.m_Bag_letters G_Bag_letters (hr.mono (by decide))))
    (dss_cons (ds_if (dt_not (dt_val (de_call G_law_same (hr.mono (by decide)) rfl T.g_law_same T.k_law_same (da_cons (dv 6) (da_cons (dv 3) da_nil))))) (dss_one (ds_ret de_bl)) dss_nil)
    (dss_cons (ds_expr (de_bm PySem.F.plainAttrs_list PySem.F.slot_list_append PySem.F.type_list_append dm_append (dv 6) (da_cons de_non da_nil)))
    (dss_one (ds_expr (de_bm0 PySem.F.plainAttrs_list PySem.F.slot_list_reverse PySem.F.type_list_reverse dm_reverse (dv 6))))))))
    (dss_cons (ds_set 7 sc_law_looks.nd (de_op do_sub (de_call G_law_draw (hr.mono (by decide)) rfl T.g_law_draw T.k_law_draw (da_cons (dv 0) (da_cons de_int da_nil))) de_int))
    (dss_cons (ds_set 6 sc_law_looks.nd (de_meth (dv 2) T.c_Bag T.m_Bag_older G_Bag_older (hr.mono (by decide)) (da_cons (dv 7) da_nil)))
    (dss_cons (ds_if (dt_not (dt_val (de_call G_law_same (hr.mono (by decide)) rfl T.g_law_same T.k_law_same (da_cons (dv 6) (da_cons (de_freeze (de_lc rfl sc_law_looks.nd (di_lst (dv 3)) (own := [("_law_row", 8)]) (by show BlkOk ["_law_bag_here", "_law_side", "_law_told", "_law_rows", "_law_count", "_law_k", "_law_found", "_law_until", "_law_row"] (defScope s_law_looks) _ _; exact ⟨rfl, by decide +kernel, by decide +kernel, by decide +kernel, by decide +kernel⟩) (fun _ _ _ _ _ => (pt_nm 8 sc_law_looks.nd)) (fun _ _ _ _ _ => dts_one (dt_cmp do_le (de_idx (hu1 hr) (dv 8) de_int) (dv 7) (by first | rfl | exact nobehind _ (by decide) (by decide)))) (fun _ _ _ _ _ => (dv 8)))) da_nil))))) (dss_one (ds_ret de_bl)) dss_nil)
    (dss_cons (ds_expr (de_bm0 PySem.F.plainAttrs_list PySem.F.slot_list_clear PySem.F.type_list_clear dm_clear (dv 6)))
    (dss_one (ds_ret (de_callB (db_all rfl) rfl T.z_all (by decide +kernel) (da_cons (de_freeze (de_lc rfl sc_law_looks.nd (di_range1 rfl T.z_range (da_cons (de_op do_add (dv 4) de_int) da_nil)) (own := [("_law_k", 5)]) (by show BlkOk ["_law_bag_here", "_law_side", "_law_told", "_law_rows", "_law_count", "_law_k", "_law_found", "_law_until", "_law_row"] (defScope s_law_looks) _ _; exact ⟨rfl, by decide +kernel, by decide +kernel, by decide +kernel, by decide +kernel⟩) (fun _ _ _ _ _ => (pt_nm 5 sc_law_looks.nd)) (fun _ _ _ _ _ => dts_nil (K := _)) (fun _ _ _ _ _ => (de_call G_law_same (hr.mono (by decide)) rfl T.g_law_same T.k_law_same (da_cons (de_cmp (do_inO G_Bag_contains (hr.mono (by decide)) T.dn_Bag_contains T.df_Bag_contains) (dv 5) (dv 2) (by first | rfl | exact nobehind _ (by decide) (by decide))) (da_cons (de_cmp (do_in2 (hu65 hr)) (dv 5) (de_freeze (de_lc rfl sc_law_looks.nd (di_lst (dv 3)) (own := [("_law_row", 8)]) (by refine (show BlkOk ["_law_bag_here", "_law_side", "_law_told", "_law_rows", "_law_count", "_law_k", "_law_found", "_law_until", "_law_row"] _ _ _ from ⟨rfl, by decide +kernel, by decide +kernel, ?_, by decide +kernel⟩); repeat (first | exact nofun | refine List.forall_mem_cons.mpr ⟨(fun e => by first | (cases e; done) | exact .inl rfl | exact .inr rfl), ?_⟩)) (fun _ _ _ _ _ => (pt_nm 8 sc_law_looks.nd)) (fun _ _ _ _ _ => dts_nil (K := _)) (fun _ _ _ _ _ => (de_idx (hu1 hr) (dv 8) de_int)))) (by first | rfl | exact nobehind _ (by decide) (by decide))) da_nil)))))) da_nil)))))))))))) (rd_law_looks A)
theorem sc_law_mixed : FnScope ["_law_bag_here", "_law_things", "_law_found", "_law_thing"] ["_law_bag_here", "_law_things"] (defScope s_law_mixed) := ⟨rfl, rfl, rfl, by decide +kernel, rfl, by decide +kernel, by decide +kernel⟩
theorem d_law_mixed {fd : FuncData} (T : Txt K mg A) (F : Fun K "_law_mixed" "_law_mixed" s_law_mixed A.law_mixed fd) (hb : Binds K fd ["_law_bag_here", "_law_things"] []) (G_law_draw : FnD P w K mg base 1 A.law_draw (sp_law_draw A)) : FnD P w K mg base 2 A.law_mixed (sp_law_mixed A) :=
  def_ofW (N := ["_law_bag_here", "_law_things", "_law_found", "_law_thing"]) (qb := qb_law_mixed A) F hb sc_law_mixed (len_law_mixed A) (fun cdv Ar outer s H E hr =>
    (dss_cons (ds_set 2 sc_law_mixed.nd (de_lstM da_nil))
    (dss_cons (ds_for PassesOwn.never rfl (di_lst (dv 1)) (pt_nm 3 sc_law_mixed.nd) (dss_one (ds_expr (de_bm PySem.F.plainAttrs_list PySem.F.slot_list_insert PySem.F.type_list_insert dm_insert (dv 2) (da_cons (de_call G_law_draw (hr.mono (by decide)) rfl T.g_law_draw T.k_law_draw (da_cons (dv 0) (da_cons (de_op do_add (de_callB db_len rfl T.z_len (by decide +kernel) (da_cons (dv 2) da_nil)) de_int) da_nil))) (da_cons (dv 3) da_nil))))))
    (dss_one (ds_ret (dv 2)))))) (rd_law_mixed A)
theorem sc_Bag_copy : FnScope ["self", "twin"] ["self"] (defScope s_Bag_copy) := ⟨rfl, rfl, rfl, by decide +kernel, rfl, by decide +kernel, by decide +kernel⟩
theorem d_Bag_copy {fd : FuncData} (T : Txt K mg A) (F : Fun K "copy" "Bag.copy" s_Bag_copy A.Bag_copy fd) (hb : Binds K fd ["self"] []) (G_Bag_init : FnD P w K mg base 1 A.Bag_init (sp_Bag_init A)) : FnD P w K mg base 3 A.Bag_copy (sp_Bag_copy A) :=
  def_ofW (N := ["self", "twin"]) (qb := qb_Bag_copy A) F hb sc_Bag_copy (len_Bag_copy A) (fun cdv Ar outer s H E hr =>
    (dss_cons (ds_set 1 sc_Bag_copy.nd (de_make0 T.mk_Bag G_Bag_init (hr.mono (by decide)) rfl T.g_Bag))
    (dss_cons (ds_setF T.c_Bag T.n_Bag_p_letters (dv 1) (de_callTy db_dict rfl T.z_dict (by decide +kernel) (da_cons (de_fld T.c_Bag T.n_Bag_p_letters (dv 0)) da_nil)))
    (dss_cons (ds_setF T.c_Bag T.n_Bag_p_next (dv 1) (de_fld T.c_Bag T.n_Bag_p_next (dv 0)))
    (dss_one (ds_ret (dv 1))))))) (rd_Bag_copy A)
theorem sc_law_equal : FnScope ["_law_bag_here", "_law_side", "_law_told", "_law_rows", "_law_count", "_law_other", "_law_known", "_law_k", "_law_chan_here", "_law_row", "_law_fewer"] ["_law_bag_here", "_law_side"] (defScope s_law_equal) := ⟨rfl, rfl, rfl, by decide +kernel, rfl, by decide +kernel, by decide +kernel⟩
theorem d_law_equal {fd : FuncData} (T : Txt K mg A) (F : Fun K "_law_equal" "_law_equal" s_law_equal A.law_equal fd) (hb : Binds K fd ["_law_bag_here", "_law_side"] []) (G_Bag_init : FnD P w K mg base 1 A.Bag_init (sp_Bag_init A)) (G_law_chan : FnD P w K mg base 3 A.law_chan (sp_law_chan A)) (G_law_word : FnD P w K mg base 4 A.law_word (sp_law_word A)) (G_Bag_put : FnD P w K mg base 1 A.Bag_put (sp_Bag_put A)) (G_law_mixed : FnD P w K mg base 2 A.law_mixed (sp_law_mixed A)) (G_Bag_take : FnD P w K mg base 3 A.Bag_take (sp_Bag_take A)) (G_law_same : FnD P w K mg base 6 A.law_same (sp_law_same 6 A)) (G_Bag_eq : FnD P w K mg base 1 A.Bag_eq (sp_Bag_eq A)) (G_Bag_copy : FnD P w K mg base 3 A.Bag_copy (sp_Bag_copy A)) (G_law_of : FnD P w K mg base 2 A.law_of (sp_law_of A)) (G_Bag_len : FnD P w K mg base 1 A.Bag_len (sp_Bag_len A)) : FnD P w K mg base 7 A.law_equal (sp_law_equal A) :=
  def_ofW (N := ["_law_bag_here", "_law_side", "_law_told", "_law_rows", "_law_count", "_law_other", "_law_known", "_law_k", "_law_chan_here", "_law_row", "_law_fewer"]) (qb := qb_law_equal A) F hb sc_law_equal (len_law_equal A) (fun cdv Ar outer s H E hr =>
    (dss_cons (ds_par3 2 3 4 rfl sc_law_equal.nd (da_cons (de_idx (hu1 hr) (dv 1) de_int) (da_cons (de_idx (hu1 hr) (dv 1) de_int) (da_cons (de_idx (hu1 hr) (dv 1) de_int) da_nil))))
    (dss_cons (ds_asg (de_tup (da_cons (de_make0 T.mk_Bag G_Bag_init (hr.mono (by decide)) rfl T.g_Bag) (da_cons (de_freeze (de_lc rfl sc_law_equal.nd (di_lst (dv 3)) (own := [("_law_row", 9)]) (by show BlkOk ["_law_bag_here", "_law_side", "_law_told", "_law_rows", "_law_count", "_law_other", "_law_known", "_law_k", "_law_chan_here", "_law_row", "_law_fewer"] (defScope s_law_equal) _ _; exact ⟨rfl, by decide +kernel, by decide +kernel, by decide +kernel, by decide +kernel⟩) (fun _ _ _ _ _ => (pt_nm 9 sc_law_equal.nd)) (fun _ _ _ _ _ => dts_nil (K := _)) (fun _ _ _ _ _ => (de_idx (hu1 hr) (dv 9) de_int)))) da_nil))) (pt_tp rfl (pts_cn (pt_nm 5 sc_law_equal.nd) (pts_cn (pt_nm 6 sc_law_equal.nd) pts_nl))))
    (dss_cons (ds_for PassesOwn.never rfl (di_range1 rfl T.z_range (da_cons (dv 4) da_nil)) (pt_nm 7 sc_law_equal.nd) (dss_cons (ds_set 8 sc_law_equal.nd (de_call G_law_chan (hr.mono (by decide)) rfl T.g_law_chan T.k_law_chan (da_cons (dv 0) da_nil)))
    (dss_cons (ds_set 9 sc_law_equal.nd (de_if (dt_cmp (do_in2 (hu65 hr)) (dv 7) (dv 6) (by first | rfl | exact nobehind _ (by decide) (by decide))) (de_idx (hu1 hr) (dv 3) (de_bm PySem.F.plainAttrs_list PySem.F.slot_list_index PySem.F.type_list_index dm_index (dv 6) (da_cons (dv 7) da_nil))) (de_tup (da_cons (dv 7) (da_cons (dv 8) (da_cons de_int (da_cons (de_call G_law_word (hr.mono (by decide)) rfl T.g_law_word T.k_law_word (da_cons (dv 0) (da_cons (dv 8) da_nil))) da_nil)))))))
    (dss_one (ds_expr (de_meth (dv 5) T.c_Bag T.m_Bag_put G_Bag_put (hr.mono (by decide)) (da_cons (de_idx (hu1 hr) (dv 9) de_int) (da_cons (de_idx (hu1 hr) (dv 9) de_int) (da_cons (de_idx (hu1 hr) (dv 9) de_int) da_nil)))))))))
    (dss_cons (ds_for PassesOwn.never rfl (di_lst (de_call G_law_mixed (hr.mono (by decide)) rfl T.g_law_mixed T.k_law_mixed (da_cons (dv 0) (da_cons (de_freeze (de_lc rfl sc_law_equal.nd (di_range1 rfl T.z_range (da_cons (dv 4) da_nil)) (own := [("_law_k", 7)]) (by show BlkOk ["_law_bag_here", "_law_side", "_law_told", "_law_rows", "_law_count", "_law_other", "_law_known", "_law_k", "_law_chan_here", "_law_row", "_law_fewer"] (defScope s_law_equal) _ _; exact ⟨rfl, by decide +kernel, by decide +kernel, by decide +kernel, by decide +kernel⟩) (fun _ _ _ _ _ => (pt_nm 7 sc_law_equal.nd)) (fun _ _ _ _ _ => dts_one (dt_cmp (do_notIn2 (hu65 hr)) (dv 7) (dv 6) (by first | rfl | exact nobehind _ (by decide) (by decide)))) (fun _ _ _ _ _ => (dv 7)))) da_nil)))) (pt_nm 7 sc_law_equal.nd) (dss_one (ds_expr (de_meth (dv 5) T.c_Bag T.m_Bag_take G_Bag_take (hr.mono (by decide)) (da_cons (dv 7) da_nil)))))
    (dss_cons (ds_if (PW.pt (dw_or (dt_not (dt_val (de_call G_law_same (hr.mono (by decide)) rfl T.g_law_same T.k_law_same (da_cons (de_cmp (do_eqO G_Bag_eq (hr.mono (by decide)) T.e_Bag T.ef_Bag) (dv 2) (dv 5) (by first | rfl | exact nobehind _ (by decide) (by decide))) (da_cons de_bl da_nil))))) (dw_or (dt_not (dt_val (de_call G_law_same (hr.mono (by decide)) rfl T.g_law_same T.k_law_same (da_cons (de_cmp (do_eqO G_Bag_eq (hr.mono (by decide)) T.e_Bag T.ef_Bag) (dv 5) (dv 2) (by first | rfl | exact nobehind _ (by decide) (by decide))) (da_cons de_bl da_nil))))) (dw_or1 (dt_not (dt_val (de_call G_law_same (hr.mono (by decide)) rfl T.g_law_same T.k_law_same (da_cons (de_cmp (do_eqL G_Bag_eq (hr.mono (by decide)) T.e_Bag T.ef_Bag T.nl_Bag T.ni_Bag) (dv 2) (dv 3) (by first | rfl | exact nobehind _ (by decide) (by decide))) (da_cons de_bl da_nil))))))))) (dss_one (ds_ret de_bl)) dss_nil)
    (dss_cons (ds_set 10 sc_law_equal.nd (de_meth0 (dv 2) T.c_Bag T.m_Bag_copy G_Bag_copy (hr.mono (by decide))))
    (dss_cons (ds_if (dt_cmp (do_ne2 (hu64 hr)) (dv 3) (de_lstF da_nil) (by first | rfl | exact nobehind _ (by decide) (by decide))) (dss_cons (ds_set 9 sc_law_equal.nd (de_call G_law_of (hr.mono (by decide)) rfl T.g_law_of T.k_law_of (da_cons (dv 0) (da_cons (dv 3) da_nil))))
    (dss_cons (ds_expr (de_meth (dv 10) T.c_Bag T.m_Bag_take G_Bag_take (hr.mono (by decide)) (da_cons (de_idx (hu1 hr) (dv 9) de_int) da_nil)))
    (dss_one (ds_if (PW.pt (dw_or (dt_not (dt_val (de_call G_law_same (hr.mono (by decide)) rfl T.g_law_same T.k_law_same (da_cons (de_cmp (do_eqO G_Bag_eq (hr.mono (by decide)) T.e_Bag T.ef_Bag) (dv 2) (dv 10) (by first | rfl | exact nobehind _ (by decide) (by decide))) (da_cons de_bl da_nil))))) (dw_or1 (dt_not (dt_val (de_call G_law_same (hr.mono (by decide)) rfl T.g_law_same T.k_law_same (da_cons (de_callB (db_lenO G_Bag_len (hr.mono (by decide)) T.dn_Bag_len T.df_Bag_len) rfl T.z_len (by decide +kernel) (da_cons (dv 2) da_nil)) (da_cons (de_callB db_len rfl T.z_len (by decide +kernel) (da_cons (dv 3) da_nil)) da_nil)))))))) (dss_one (ds_ret de_bl)) dss_nil)))) dss_nil)
    (dss_cons (ds_set 8 sc_law_equal.nd (de_call G_law_chan (hr.mono (by decide)) rfl T.g_law_chan T.k_law_chan (da_cons (dv 0) da_nil)))
    (dss_cons (ds_if (PW.pt (dw_or (dt_not (dt_val (de_call G_law_same (hr.mono (by decide)) rfl T.g_law_same T.k_law_same (da_cons (de_meth (dv 5) T.c_Bag T.m_Bag_put G_Bag_put (hr.mono (by decide)) (da_cons (dv 8) (da_cons de_int (da_cons (de_call G_law_word (hr.mono (by decide)) rfl T.g_law_word T.k_law_word (da_cons (dv 0) (da_cons (dv 8) da_nil))) da_nil)))) (da_cons (dv 4) da_nil))))) (dw_or1 (dt_not (dt_val (de_call G_law_same (hr.mono (by decide)) rfl T.g_law_same T.k_law_same (da_cons (de_cmp (do_eqO G_Bag_eq (hr.mono (by decide)) T.e_Bag T.ef_Bag) (dv 2) (dv 5) (by first | rfl | exact nobehind _ (by decide) (by decide))) (da_cons de_bl da_nil)))))))) (dss_one (ds_ret de_bl)) dss_nil)
    (dss_cons (ds_expr (de_meth (dv 5) T.c_Bag T.m_Bag_take G_Bag_take (hr.mono (by decide)) (da_cons (dv 4) da_nil)))
    (dss_one (ds_ret (de_and (de_call G_law_same (hr.mono (by decide)) rfl T.g_law_same T.k_law_same (da_cons (de_cmp (do_eqO G_Bag_eq (hr.mono (by decide)) T.e_Bag T.ef_Bag) (dv 2) (dv 5) (by first | rfl | exact nobehind _ (by decide) (by decide))) (da_cons de_bl da_nil))) (de_one (de_call G_law_same (hr.mono (by decide)) rfl T.g_law_same T.k_law_same (da_cons (de_cmp (do_eqO G_Bag_eq (hr.mono (by decide)) T.e_Bag T.ef_Bag) (dv 2) (de_meth0 (dv 2) T.c_Bag T.m_Bag_copy G_Bag_copy (hr.mono (by decide))) (by first | rfl | exact nobehind _ (by decide) (by decide))) (da_cons de_bl da_nil)))))))))))))))))) (rd_law_equal A)
theorem sc_law : FnScope ["_law_script", "_law_bag_here", "_law_sides", "_law_k", "_law_side", "_law_first", "_law_last"] ["_law_script"] (defScope s_law) := ⟨rfl, rfl, rfl, by decide +kernel, rfl, by decide +kernel, by decide +kernel⟩
theorem d_law {fd : FuncData} (T : Txt K mg A) (F : Fun K "law" "law" s_law A.law fd) (G_law_bag : FnD P w K mg base 1 A.law_bag (sp_law_bag A)) (G_Bag_init : FnD P w K mg base 1 A.Bag_init (sp_Bag_init A)) (G_law_draw : FnD P w K mg base 1 A.law_draw (sp_law_draw A)) (G_law_of : FnD P w K mg base 2 A.law_of (sp_law_of A)) (G_law_deed : FnD P w K mg base 9 A.law_deed (sp_law_deed A)) (G_Bag_copy : FnD P w K mg base 3 A.Bag_copy (sp_Bag_copy A)) (G_law_looks : FnD P w K mg base 7 A.law_looks (sp_law_looks A)) (G_law_equal : FnD P w K mg base 7 A.law_equal (sp_law_equal A)) (G_law_same : FnD P w K mg base 6 A.law_same (sp_law_same 6 A)) (G_Bag_eq : FnD P w K mg base 1 A.Bag_eq (sp_Bag_eq A)) : FnOk P w K mg base CX0 10 A.law fd ["_law_script"] (liftSp K (lspLawTs [(A.tb_law_deed, lamq "_law_deed")])) :=
  fno_ofW (N := ["_law_script", "_law_bag_here", "_law_sides", "_law_k", "_law_side", "_law_first", "_law_last"]) (qb := qb_law A) F sc_law len_law (fun cdv Ar outer s H E hr =>
    (dss_cons (ds_set 1 sc_law.nd (de_call G_law_bag (hr.mono (by decide)) rfl T.g_law_bag T.k_law_bag (da_cons (dv 0) da_nil)))
    (dss_cons (ds_set 2 sc_law.nd (de_lstM (da_cons (de_lstM (da_cons (de_make0 T.mk_Bag G_Bag_init (hr.mono (by decide)) rfl T.g_Bag) (da_cons (de_lstM da_nil) (da_cons de_int da_nil)))) da_nil)))
    (dss_cons (ds_for PassesOwn.never rfl (di_range1 rfl T.z_range (da_cons (de_op do_add de_int (de_call G_law_draw (hr.mono (by decide)) rfl T.g_law_draw T.k_law_draw (da_cons (dv 1) (da_cons de_int da_nil)))) da_nil)) (pt_nm 3 sc_law.nd) (dss_cons (ds_set 4 sc_law.nd (de_call G_law_of (hr.mono (by decide)) rfl T.g_law_of T.k_law_of (da_cons (dv 1) (da_cons (dv 2) da_nil))))
    (dss_cons (ds_if (dt_not (dt_val (de_call G_law_deed (hr.mono (by decide)) rfl T.g_law_deed T.k_law_deed (da_cons (dv 1) (da_cons (dv 4) da_nil))))) (dss_one (ds_ret de_bl)) dss_nil)
    (dss_cons (ds_if (PW.pt (dw_and (dt_cmp do_lt (de_callB db_len rfl T.z_len (by decide +kernel) (da_cons (dv 2) da_nil)) de_int (by first | rfl | exact nobehind _ (by decide) (by decide))) (dw_and1 (dt_cmp (do_eq2 (hu64 hr)) (de_call G_law_draw (hr.mono (by decide)) rfl T.g_law_draw T.k_law_draw (da_cons (dv 1) (da_cons de_int da_nil))) de_int (by first | rfl | exact nobehind _ (by decide) (by decide)))))) (dss_one (ds_expr (de_bm PySem.F.plainAttrs_list PySem.F.slot_list_append PySem.F.type_list_append dm_append (dv 2) (da_cons (de_lstM (da_cons (de_meth0 (de_idx (hu1 hr) (dv 4) de_int) T.c_Bag T.m_Bag_copy G_Bag_copy (hr.mono (by decide))) (da_cons (de_callTy db_list rfl T.z_list (by decide +kernel) (da_cons (de_idx (hu1 hr) (dv 4) de_int) da_nil)) (da_cons (de_idx (hu1 hr) (dv 4) de_int) da_nil)))) da_nil)))) dss_nil)
    (dss_one (ds_if (PW.pt (dw_and (dt_cmp (do_eq2 (hu64 hr)) (de_call G_law_draw (hr.mono (by decide)) rfl T.g_law_draw T.k_law_draw (da_cons (dv 1) (da_cons de_int da_nil))) de_int (by first | rfl | exact nobehind _ (by decide) (by decide))) (dw_and1 (dt_not (dt_val (de_call G_law_looks (hr.mono (by decide)) rfl T.g_law_looks T.k_law_looks (da_cons (dv 1) (da_cons (de_call G_law_of (hr.mono (by decide)) rfl T.g_law_of T.k_law_of (da_cons (dv 1) (da_cons (dv 2) da_nil))) da_nil)))))))) (dss_one (ds_ret de_bl)) dss_nil))))))
    (dss_cons (ds_for PassesOwn.never rfl (di_lst (dv 2)) (pt_nm 4 sc_law.nd) (dss_one (ds_if (PW.pt (dw_or (dt_not (dt_val (de_call G_law_looks (hr.mono (by decide)) rfl T.g_law_looks T.k_law_looks (da_cons (dv 1) (da_cons (dv 4) da_nil))))) (dw_or1 (dt_not (dt_val (de_call G_law_equal (hr.mono (by decide)) rfl T.g_law_equal T.k_law_equal (da_cons (dv 1) (da_cons (dv 4) da_nil)))))))) (dss_one (ds_ret de_bl)) dss_nil)))
    (dss_cons (ds_par 5 6 rfl sc_law.nd (da_cons (de_idx (hu1 hr) (dv 2) de_int) (da_cons (de_idx (hu1 hr) (dv 2) (de_neg de_int)) da_nil)))
    (dss_one (ds_ret (de_call G_law_same (hr.mono (by decide)) rfl T.g_law_same T.k_law_same (da_cons (de_cmp (do_eqO G_Bag_eq (hr.mono (by decide)) T.e_Bag T.ef_Bag) (de_idx (hu1 hr) (dv 5) de_int) (de_idx (hu1 hr) (dv 6) de_int) (by first | rfl | exact nobehind _ (by decide) (by decide))) (da_cons (de_and (de_cmp (do_eq2 (hu64 hr)) (de_idx (hu1 hr) (dv 5) de_int) (de_idx (hu1 hr) (dv 6) de_int) (by first | rfl | exact nobehind _ (by decide) (by decide))) (de_one (de_cmp (do_eq2 (hu64 hr)) (de_idx (hu1 hr) (dv 5) de_int) (de_idx (hu1 hr) (dv 6) de_int) (by first | rfl | exact nobehind _ (by decide) (by decide))))) da_nil))))))))))) (rd_law A)
end
theorem all_mk {l : PySem.W.OpenLaw} {w : World} {K : PySem.W.Frag} {h : Heap} {mg : Str → Option Value} {fa x_Bag x_NoSuchLetter x_Missing x_NoSuchLetter_init x_law_bag x_law_same x_law_draw x_law_of x_Bag_eq x_Bag_init x_law_chan x_law_amount x_law_some x_law_word x_Bag_put x_law_strange x_law_refused x_Bag_contains x_Bag_take x_Bag_double x_law_deed x_Bag_older x_Bag_bool x_Bag_letters x_Bag_len x_law_looks x_law_mixed x_Bag_copy x_law_equal x_law x_cb_law_deed x_tb_law_deed : Addr} (X : K.In h) (G : h.Ns mainGlobals mg) (hfa : mg "law" = some (.ref fa))
    {oc_NoSuchLetter_init kV_NoSuchLetter_init dc_NoSuchLetter_init pm_NoSuchLetter_init cd_NoSuchLetter_init ct_NoSuchLetter_init : Value} {od_NoSuchLetter_init an_NoSuchLetter_init : Option Addr} {sl_NoSuchLetter_init : Array (Option Value)} {oc_law_bag kV_law_bag dc_law_bag pm_law_bag cd_law_bag ct_law_bag : Value} {od_law_bag an_law_bag : Option Addr} {sl_law_bag : Array (Option Value)} {oc_law_same kV_law_same dc_law_same pm_law_same cd_law_same ct_law_same : Value} {od_law_same an_law_same : Option Addr} {sl_law_same : Array (Option Value)} {oc_law_draw kV_law_draw dc_law_draw pm_law_draw cd_law_draw ct_law_draw : Value} {od_law_draw an_law_draw : Option Addr} {sl_law_draw : Array (Option Value)} {oc_law_of kV_law_of dc_law_of pm_law_of cd_law_of ct_law_of : Value} {od_law_of an_law_of : Option Addr} {sl_law_of : Array (Option Value)} {oc_Bag_eq kV_Bag_eq dc_Bag_eq pm_Bag_eq cd_Bag_eq ct_Bag_eq : Value} {od_Bag_eq an_Bag_eq : Option Addr} {sl_Bag_eq : Array (Option Value)} {oc_Bag_init kV_Bag_init dc_Bag_init pm_Bag_init cd_Bag_init ct_Bag_init : Value} {od_Bag_init an_Bag_init : Option Addr} {sl_Bag_init : Array (Option Value)} {oc_law_chan kV_law_chan dc_law_chan pm_law_chan cd_law_chan ct_law_chan : Value} {od_law_chan an_law_chan : Option Addr} {sl_law_chan : Array (Option Value)} {oc_law_amount kV_law_amount dc_law_amount pm_law_amount cd_law_amount ct_law_amount : Value} {od_law_amount an_law_amount : Option Addr} {sl_law_amount : Array (Option Value)} {oc_law_some kV_law_some dc_law_some pm_law_some cd_law_some ct_law_some : Value} {od_law_some an_law_some : Option Addr} {sl_law_some : Array (Option Value)} {oc_law_word kV_law_word dc_law_word pm_law_word cd_law_word ct_law_word : Value} {od_law_word an_law_word : Option Addr} {sl_law_word : Array (Option Value)} {oc_Bag_put kV_Bag_put dc_Bag_put pm_Bag_put cd_Bag_put ct_Bag_put : Value} {od_Bag_put an_Bag_put : Option Addr} {sl_Bag_put : Array (Option Value)} {oc_law_strange kV_law_strange dc_law_strange pm_law_strange cd_law_strange ct_law_strange : Value} {od_law_strange an_law_strange : Option Addr} {sl_law_strange : Array (Option Value)} {oc_law_refused kV_law_refused dc_law_refused pm_law_refused cd_law_refused ct_law_refused : Value} {od_law_refused an_law_refused : Option Addr} {sl_law_refused : Array (Option Value)} {oc_Bag_contains kV_Bag_contains dc_Bag_contains pm_Bag_contains cd_Bag_contains ct_Bag_contains : Value} {od_Bag_contains an_Bag_contains : Option Addr} {sl_Bag_contains : Array (Option Value)} {oc_Bag_take kV_Bag_take dc_Bag_take pm_Bag_take cd_Bag_take ct_Bag_take : Value} {od_Bag_take an_Bag_take : Option Addr} {sl_Bag_take : Array (Option Value)} {oc_Bag_double kV_Bag_double dc_Bag_double pm_Bag_double cd_Bag_double ct_Bag_double : Value} {od_Bag_double an_Bag_double : Option Addr} {sl_Bag_double : Array (Option Value)} {oc_law_deed kV_law_deed dc_law_deed pm_law_deed cd_law_deed ct_law_deed : Value} {od_law_deed an_law_deed : Option Addr} {sl_law_deed : Array (Option Value)} {oc_Bag_older kV_Bag_older dc_Bag_older pm_Bag_older cd_Bag_older ct_Bag_older : Value} {od_Bag_older an_Bag_older : Option Addr} {sl_Bag_older : Array (Option Value)} {oc_Bag_bool kV_Bag_bool dc_Bag_bool pm_Bag_bool cd_Bag_bool ct_Bag_bool : Value} {od_Bag_bool an_Bag_bool : Option Addr} {sl_Bag_bool : Array (Option Value)} {oc_Bag_letters kV_Bag_letters dc_Bag_letters pm_Bag_letters cd_Bag_letters ct_Bag_letters : Value} {od_Bag_letters an_Bag_letters : Option Addr} {sl_Bag_letters : Array (Option Value)} {oc_Bag_len kV_Bag_len dc_Bag_len pm_Bag_len cd_Bag_len ct_Bag_len : Value} {od_Bag_len an_Bag_len : Option Addr} {sl_Bag_len : Array (Option Value)} {oc_law_looks kV_law_looks dc_law_looks pm_law_looks cd_law_looks ct_law_looks : Value} {od_law_looks an_law_looks : Option Addr} {sl_law_looks : Array (Option Value)} {oc_law_mixed kV_law_mixed dc_law_mixed pm_law_mixed cd_law_mixed ct_law_mixed : Value} {od_law_mixed an_law_mixed : Option Addr} {sl_law_mixed : Array (Option Value)} {oc_Bag_copy kV_Bag_copy dc_Bag_copy pm_Bag_copy cd_Bag_copy ct_Bag_copy : Value} {od_Bag_copy an_Bag_copy : Option Addr} {sl_Bag_copy : Array (Option Value)} {oc_law_equal kV_law_equal dc_law_equal pm_law_equal cd_law_equal ct_law_equal : Value} {od_law_equal an_law_equal : Option Addr} {sl_law_equal : Array (Option Value)} {oc_law kV_law dc_law pm_law cd_law ct_law : Value} {od_law an_law : Option Addr} {sl_law : Array (Option Value)}
    (a_Bag : PySem.W.nsIn K mainGlobals "Bag" = some (some (.ref x_Bag)))
    (pg_Bag : PySem.W.plainGet K x_Bag Str.empty = true)
    (hd_Bag : PySem.W.hasDictIn K x_Bag = true)
    (po_Bag : PySem.W.plainOver K x_Bag = true)
    (sa_Bag : PySem.W.findIn K (.ref x_Bag) "__setattr__" = some (some (.builtin "object.__setattr__")))
    (mm_Bag : PySem.W.makesIn K x_Bag = true)
    (kc_Bag : PySem.W.keepIn K (.ref x_Bag) = true)
    (ai_Bag : PySem.W.findIn K (.ref x_Bag) "__init__" = some (some (.ref x_Bag_init)))
    (if_Bag : PySem.W.isFn K (.ref x_Bag_init) = true)
    (n_Bag_p_letters : PySem.W.findIn K (.ref x_Bag) "_letters" = some none)
    (n_Bag_p_next : PySem.W.findIn K (.ref x_Bag) "_next" = some none)
    (am_Bag_put : PySem.W.findIn K (.ref x_Bag) "put" = some (some (.ref x_Bag_put)))
    (im_Bag_put : PySem.W.isFn K (.ref x_Bag_put) = true)
    (am_Bag_take : PySem.W.findIn K (.ref x_Bag) "take" = some (some (.ref x_Bag_take)))
    (im_Bag_take : PySem.W.isFn K (.ref x_Bag_take) = true)
    (am_Bag_double : PySem.W.findIn K (.ref x_Bag) "double" = some (some (.ref x_Bag_double)))
    (im_Bag_double : PySem.W.isFn K (.ref x_Bag_double) = true)
    (am_Bag_letters : PySem.W.findIn K (.ref x_Bag) "letters" = some (some (.ref x_Bag_letters)))
    (im_Bag_letters : PySem.W.isFn K (.ref x_Bag_letters) = true)
    (am_Bag_older : PySem.W.findIn K (.ref x_Bag) "older" = some (some (.ref x_Bag_older)))
    (im_Bag_older : PySem.W.isFn K (.ref x_Bag_older) = true)
    (am_Bag_copy : PySem.W.findIn K (.ref x_Bag) "copy" = some (some (.ref x_Bag_copy)))
    (im_Bag_copy : PySem.W.isFn K (.ref x_Bag_copy) = true)
    (e_Bag : PySem.W.findIn K (.ref x_Bag) "__eq__" = some (some (.ref x_Bag_eq)))
    (ef_Bag : PySem.W.isFn K (.ref x_Bag_eq) = true)
    (dn_Bag_contains : PySem.W.findIn K (.ref x_Bag) "__contains__" = some (some (.ref x_Bag_contains)))
    (df_Bag_contains : PySem.W.isFn K (.ref x_Bag_contains) = true)
    (dn_Bag_len : PySem.W.findIn K (.ref x_Bag) "__len__" = some (some (.ref x_Bag_len)))
    (df_Bag_len : PySem.W.isFn K (.ref x_Bag_len) = true)
    (dn_Bag_bool : PySem.W.findIn K (.ref x_Bag) "__bool__" = some (some (.ref x_Bag_bool)))
    (df_Bag_bool : PySem.W.isFn K (.ref x_Bag_bool) = true)
    (kl_Bag : PySem.W.kitOne K (.type "list") (.ref x_Bag) = some false)
    (kn_Bag : PySem.W.kitOne K (.type "int") (.ref x_Bag) = some false)
    (nl_Bag : PySem.W.notFirst K x_Bag (.type "list") = true)
    (ni_Bag : PySem.W.notFirst K x_Bag (.type "int") = true)
    (ihn : PySem.W.specialIn K (.builtin "object.__class__") "__get__" = some (some (.builtin "getset_descriptor.__get__")))
    (iht : PySem.W.takesIn K (.builtin "object.__class__") = some true)
    (iha_Bag : PySem.W.findIn K (.ref x_Bag) "__class__" = some (some (.builtin "object.__class__")))
    (ihm_Bag : PySem.W.mroIn K x_Bag (.type "object") = some true)
    (ihe_Bag : PySem.W.kitOne K (.ref x_Bag) (.ref x_Bag) = some true)
    (ki_Bag_Bag : PySem.W.kitOne K (.ref x_Bag) (.ref x_Bag) = some true)
    (a_NoSuchLetter : PySem.W.nsIn K mainGlobals "NoSuchLetter" = some (some (.ref x_NoSuchLetter)))
    (a_Missing : PySem.W.nsIn K mainGlobals "Missing" = some (some (.ref x_Missing)))
    (lk_NoSuchLetter : ClsLkG K x_NoSuchLetter)
    (xs_NoSuchLetter : PySem.W.findIn K (.ref x_NoSuchLetter) "__setattr__" = some (some (.builtin "object.__setattr__")))
    (xb_NoSuchLetter : PySem.W.subIn K (.ref x_NoSuchLetter) (.type "BaseException") = some true)
    (xt_NoSuchLetter : PySem.W.typeIn K (.ref x_NoSuchLetter) = some (.type "type"))
    (xp_NoSuchLetter : PySem.W.keepIn K (.ref x_NoSuchLetter) = true)
    (xa_NoSuchLetter : PySem.W.findIn K (.ref x_NoSuchLetter) "__getattribute__" = some (some (.builtin "BaseException.__getattribute__")))
    (xe_NoSuchLetter : PySem.W.findIn K (.ref x_NoSuchLetter) "__getattr__" = some none)
    (xd_NoSuchLetter : PySem.W.hasDictIn K x_NoSuchLetter = true)
    (xc_NoSuchLetter : PySem.W.findIn K (.ref x_NoSuchLetter) "__class__" = some (some (.builtin "object.__class__")))
    (xo_NoSuchLetter : PySem.W.mroIn K x_NoSuchLetter (.type "object") = some true)
    (xf_NoSuchLetter : PySem.W.findIn K (.ref x_NoSuchLetter) "number" = some none)
    (xi_NoSuchLetter : PySem.W.findIn K (.ref x_NoSuchLetter) "__init__" = some (some (.ref x_NoSuchLetter_init)))
    (xy_NoSuchLetter : PySem.W.typeIn K (.ref x_NoSuchLetter_init) = some (.type "function"))
    (xm_NoSuchLetter_NoSuchLetter : PySem.W.exmOne K (.ref x_NoSuchLetter) (.ref x_NoSuchLetter) = some true)
    (xj_NoSuchLetter_Missing : PySem.W.kitOne K (.ref x_NoSuchLetter) (.ref x_Missing) = some true)
    (l_NoSuchLetter_init : K.lookup x_NoSuchLetter_init = some ⟨oc_NoSuchLetter_init, od_NoSuchLetter_init, .func (PySem.W.fnOf "__init__" "NoSuchLetter.__init__" (defArgs s_NoSuchLetter_init) (defBody s_NoSuchLetter_init) (defScope s_NoSuchLetter_init) .none kV_NoSuchLetter_init dc_NoSuchLetter_init pm_NoSuchLetter_init an_NoSuchLetter_init cd_NoSuchLetter_init ct_NoSuchLetter_init), sl_NoSuchLetter_init⟩)
    (co_NoSuchLetter_init : PySem.W.codeIn K cd_NoSuchLetter_init "NoSuchLetter.__init__" = true)
    (kp_NoSuchLetter_init : PySem.W.keepIn K (.ref x_NoSuchLetter_init) = true)
    (a_law_bag : PySem.W.nsIn K mainGlobals "_law_bag" = some (some (.ref x_law_bag)))
    (l_law_bag : K.lookup x_law_bag = some ⟨oc_law_bag, od_law_bag, .func (PySem.W.fnOf "_law_bag" "_law_bag" (defArgs s_law_bag) (defBody s_law_bag) (defScope s_law_bag) .none kV_law_bag dc_law_bag pm_law_bag an_law_bag cd_law_bag ct_law_bag), sl_law_bag⟩)
    (co_law_bag : PySem.W.codeIn K cd_law_bag "_law_bag" = true)
    (kp_law_bag : PySem.W.keepIn K (.ref x_law_bag) = true)
    (a_law_same : PySem.W.nsIn K mainGlobals "_law_same" = some (some (.ref x_law_same)))
    (l_law_same : K.lookup x_law_same = some ⟨oc_law_same, od_law_same, .func (PySem.W.fnOf "_law_same" "_law_same" (defArgs s_law_same) (defBody s_law_same) (defScope s_law_same) .none kV_law_same dc_law_same pm_law_same an_law_same cd_law_same ct_law_same), sl_law_same⟩)
    (co_law_same : PySem.W.codeIn K cd_law_same "_law_same" = true)
    (kp_law_same : PySem.W.keepIn K (.ref x_law_same) = true)
    (a_law_draw : PySem.W.nsIn K mainGlobals "_law_draw" = some (some (.ref x_law_draw)))
    (l_law_draw : K.lookup x_law_draw = some ⟨oc_law_draw, od_law_draw, .func (PySem.W.fnOf "_law_draw" "_law_draw" (defArgs s_law_draw) (defBody s_law_draw) (defScope s_law_draw) .none kV_law_draw dc_law_draw pm_law_draw an_law_draw cd_law_draw ct_law_draw), sl_law_draw⟩)
    (co_law_draw : PySem.W.codeIn K cd_law_draw "_law_draw" = true)
    (kp_law_draw : PySem.W.keepIn K (.ref x_law_draw) = true)
    (a_law_of : PySem.W.nsIn K mainGlobals "_law_of" = some (some (.ref x_law_of)))
    (l_law_of : K.lookup x_law_of = some ⟨oc_law_of, od_law_of, .func (PySem.W.fnOf "_law_of" "_law_of" (defArgs s_law_of) (defBody s_law_of) (defScope s_law_of) .none kV_law_of dc_law_of pm_law_of an_law_of cd_law_of ct_law_of), sl_law_of⟩)
    (co_law_of : PySem.W.codeIn K cd_law_of "_law_of" = true)
    (kp_law_of : PySem.W.keepIn K (.ref x_law_of) = true)
    (l_Bag_eq : K.lookup x_Bag_eq = some ⟨oc_Bag_eq, od_Bag_eq, .func (PySem.W.fnOf "__eq__" "Bag.__eq__" (defArgs s_Bag_eq) (defBody s_Bag_eq) (defScope s_Bag_eq) .none kV_Bag_eq dc_Bag_eq pm_Bag_eq an_Bag_eq cd_Bag_eq ct_Bag_eq), sl_Bag_eq⟩)
    (co_Bag_eq : PySem.W.codeIn K cd_Bag_eq "Bag.__eq__" = true)
    (kp_Bag_eq : PySem.W.keepIn K (.ref x_Bag_eq) = true)
    (l_Bag_init : K.lookup x_Bag_init = some ⟨oc_Bag_init, od_Bag_init, .func (PySem.W.fnOf "__init__" "Bag.__init__" (defArgs s_Bag_init) (defBody s_Bag_init) (defScope s_Bag_init) .none kV_Bag_init dc_Bag_init pm_Bag_init an_Bag_init cd_Bag_init ct_Bag_init), sl_Bag_init⟩)
    (co_Bag_init : PySem.W.codeIn K cd_Bag_init "Bag.__init__" = true)
    (kp_Bag_init : PySem.W.keepIn K (.ref x_Bag_init) = true)
    (a_law_chan : PySem.W.nsIn K mainGlobals "_law_chan" = some (some (.ref x_law_chan)))
    (l_law_chan : K.lookup x_law_chan = some ⟨oc_law_chan, od_law_chan, .func (PySem.W.fnOf "_law_chan" "_law_chan" (defArgs s_law_chan) (defBody s_law_chan) (defScope s_law_chan) .none kV_law_chan dc_law_chan pm_law_chan an_law_chan cd_law_chan ct_law_chan), sl_law_chan⟩)
    (co_law_chan : PySem.W.codeIn K cd_law_chan "_law_chan" = true)
    (kp_law_chan : PySem.W.keepIn K (.ref x_law_chan) = true)
    (a_law_amount : PySem.W.nsIn K mainGlobals "_law_amount" = some (some (.ref x_law_amount)))
    (l_law_amount : K.lookup x_law_amount = some ⟨oc_law_amount, od_law_amount, .func (PySem.W.fnOf "_law_amount" "_law_amount" (defArgs s_law_amount) (defBody s_law_amount) (defScope s_law_amount) .none kV_law_amount dc_law_amount pm_law_amount an_law_amount cd_law_amount ct_law_amount), sl_law_amount⟩)
    (co_law_amount : PySem.W.codeIn K cd_law_amount "_law_amount" = true)
    (kp_law_amount : PySem.W.keepIn K (.ref x_law_amount) = true)
    (a_law_some : PySem.W.nsIn K mainGlobals "_law_some" = some (some (.ref x_law_some)))
    (l_law_some : K.lookup x_law_some = some ⟨oc_law_some, od_law_some, .func (PySem.W.fnOf "_law_some" "_law_some" (defArgs s_law_some) (defBody s_law_some) (defScope s_law_some) .none kV_law_some dc_law_some pm_law_some an_law_some cd_law_some ct_law_some), sl_law_some⟩)
    (co_law_some : PySem.W.codeIn K cd_law_some "_law_some" = true)
    (kp_law_some : PySem.W.keepIn K (.ref x_law_some) = true)
    (a_law_word : PySem.W.nsIn K mainGlobals "_law_word" = some (some (.ref x_law_word)))
    (l_law_word : K.lookup x_law_word = some ⟨oc_law_word, od_law_word, .func (PySem.W.fnOf "_law_word" "_law_word" (defArgs s_law_word) (defBody s_law_word) (defScope s_law_word) .none kV_law_word dc_law_word pm_law_word an_law_word cd_law_word ct_law_word), sl_law_word⟩)
    (co_law_word : PySem.W.codeIn K cd_law_word "_law_word" = true)
    (kp_law_word : PySem.W.keepIn K (.ref x_law_word) = true)
    (l_Bag_put : K.lookup x_Bag_put = some ⟨oc_Bag_put, od_Bag_put, .func (PySem.W.fnOf "put" "Bag.put" (defArgs s_Bag_put) (defBody s_Bag_put) (defScope s_Bag_put) .none kV_Bag_put dc_Bag_put pm_Bag_put an_Bag_put cd_Bag_put ct_Bag_put), sl_Bag_put⟩)
    (co_Bag_put : PySem.W.codeIn K cd_Bag_put "Bag.put" = true)
    (kp_Bag_put : PySem.W.keepIn K (.ref x_Bag_put) = true)
    (a_law_strange : PySem.W.nsIn K mainGlobals "_law_strange" = some (some (.ref x_law_strange)))
    (l_law_strange : K.lookup x_law_strange = some ⟨oc_law_strange, od_law_strange, .func (PySem.W.fnOf "_law_strange" "_law_strange" (defArgs s_law_strange) (defBody s_law_strange) (defScope s_law_strange) .none kV_law_strange dc_law_strange pm_law_strange an_law_strange cd_law_strange ct_law_strange), sl_law_strange⟩)
    (co_law_strange : PySem.W.codeIn K cd_law_strange "_law_strange" = true)
    (kp_law_strange : PySem.W.keepIn K (.ref x_law_strange) = true)
    (a_law_refused : PySem.W.nsIn K mainGlobals "_law_refused" = some (some (.ref x_law_refused)))
    (l_law_refused : K.lookup x_law_refused = some ⟨oc_law_refused, od_law_refused, .func (PySem.W.fnOf "_law_refused" "_law_refused" (defArgs s_law_refused) (defBody s_law_refused) (defScope s_law_refused) .none kV_law_refused dc_law_refused pm_law_refused an_law_refused cd_law_refused ct_law_refused), sl_law_refused⟩)
    (co_law_refused : PySem.W.codeIn K cd_law_refused "_law_refused" = true)
    (kp_law_refused : PySem.W.keepIn K (.ref x_law_refused) = true)
    (l_Bag_contains : K.lookup x_Bag_contains = some ⟨oc_Bag_contains, od_Bag_contains, .func (PySem.W.fnOf "__contains__" "Bag.__contains__" (defArgs s_Bag_contains) (defBody s_Bag_contains) (defScope s_Bag_contains) .none kV_Bag_contains dc_Bag_contains pm_Bag_contains an_Bag_contains cd_Bag_contains ct_Bag_contains), sl_Bag_contains⟩)
    (co_Bag_contains : PySem.W.codeIn K cd_Bag_contains "Bag.__contains__" = true)
    (kp_Bag_contains : PySem.W.keepIn K (.ref x_Bag_contains) = true)
    (l_Bag_take : K.lookup x_Bag_take = some ⟨oc_Bag_take, od_Bag_take, .func (PySem.W.fnOf "take" "Bag.take" (defArgs s_Bag_take) (defBody s_Bag_take) (defScope s_Bag_take) .none kV_Bag_take dc_Bag_take pm_Bag_take an_Bag_take cd_Bag_take ct_Bag_take), sl_Bag_take⟩)
    (co_Bag_take : PySem.W.codeIn K cd_Bag_take "Bag.take" = true)
    (kp_Bag_take : PySem.W.keepIn K (.ref x_Bag_take) = true)
    (l_Bag_double : K.lookup x_Bag_double = some ⟨oc_Bag_double, od_Bag_double, .func (PySem.W.fnOf "double" "Bag.double" (defArgs s_Bag_double) (defBody s_Bag_double) (defScope s_Bag_double) .none kV_Bag_double dc_Bag_double pm_Bag_double an_Bag_double cd_Bag_double ct_Bag_double), sl_Bag_double⟩)
    (co_Bag_double : PySem.W.codeIn K cd_Bag_double "Bag.double" = true)
    (kp_Bag_double : PySem.W.keepIn K (.ref x_Bag_double) = true)
    (a_law_deed : PySem.W.nsIn K mainGlobals "_law_deed" = some (some (.ref x_law_deed)))
    (l_law_deed : K.lookup x_law_deed = some ⟨oc_law_deed, od_law_deed, .func (PySem.W.fnOf "_law_deed" "_law_deed" (defArgs s_law_deed) (defBody s_law_deed) (defScope s_law_deed) .none kV_law_deed dc_law_deed pm_law_deed an_law_deed cd_law_deed ct_law_deed), sl_law_deed⟩)
    (co_law_deed : PySem.W.codeIn K cd_law_deed "_law_deed" = true)
    (kp_law_deed : PySem.W.keepIn K (.ref x_law_deed) = true)
    (l_Bag_older : K.lookup x_Bag_older = some ⟨oc_Bag_older, od_Bag_older, .func (PySem.W.fnOf "older" "Bag.older" (defArgs s_Bag_older) (defBody s_Bag_older) (defScope s_Bag_older) .none kV_Bag_older dc_Bag_older pm_Bag_older an_Bag_older cd_Bag_older ct_Bag_older), sl_Bag_older⟩)
    (co_Bag_older : PySem.W.codeIn K cd_Bag_older "Bag.older" = true)
    (kp_Bag_older : PySem.W.keepIn K (.ref x_Bag_older) = true)
    (l_Bag_bool : K.lookup x_Bag_bool = some ⟨oc_Bag_bool, od_Bag_bool, .func (PySem.W.fnOf "__bool__" "Bag.__bool__" (defArgs s_Bag_bool) (defBody s_Bag_bool) (defScope s_Bag_bool) .none kV_Bag_bool dc_Bag_bool pm_Bag_bool an_Bag_bool cd_Bag_bool ct_Bag_bool), sl_Bag_bool⟩)
    (co_Bag_bool : PySem.W.codeIn K cd_Bag_bool "Bag.__bool__" = true)
    (kp_Bag_bool : PySem.W.keepIn K (.ref x_Bag_bool) = true)
    (l_Bag_letters : K.lookup x_Bag_letters = some ⟨oc_Bag_letters, od_Bag_letters, .func (PySem.W.fnOf "letters" "Bag.letters" (defArgs s_Bag_letters) (defBody s_Bag_letters) (defScope s_Bag_letters) .none kV_Bag_letters dc_Bag_letters pm_Bag_letters an_Bag_letters cd_Bag_letters ct_Bag_letters), sl_Bag_letters⟩)
    (co_Bag_letters : PySem.W.codeIn K cd_Bag_letters "Bag.letters" = true)
    (kp_Bag_letters : PySem.W.keepIn K (.ref x_Bag_letters) = true)
    (l_Bag_len : K.lookup x_Bag_len = some ⟨oc_Bag_len, od_Bag_len, .func (PySem.W.fnOf "__len__" "Bag.__len__" (defArgs s_Bag_len) (defBody s_Bag_len) (defScope s_Bag_len) .none kV_Bag_len dc_Bag_len pm_Bag_len an_Bag_len cd_Bag_len ct_Bag_len), sl_Bag_len⟩)
    (co_Bag_len : PySem.W.codeIn K cd_Bag_len "Bag.__len__" = true)
    (kp_Bag_len : PySem.W.keepIn K (.ref x_Bag_len) = true)
    (a_law_looks : PySem.W.nsIn K mainGlobals "_law_looks" = some (some (.ref x_law_looks)))
    (l_law_looks : K.lookup x_law_looks = some ⟨oc_law_looks, od_law_looks, .func (PySem.W.fnOf "_law_looks" "_law_looks" (defArgs s_law_looks) (defBody s_law_looks) (defScope s_law_looks) .none kV_law_looks dc_law_looks pm_law_looks an_law_looks cd_law_looks ct_law_looks), sl_law_looks⟩)
    (co_law_looks : PySem.W.codeIn K cd_law_looks "_law_looks" = true)
    (kp_law_looks : PySem.W.keepIn K (.ref x_law_looks) = true)
    (a_law_mixed : PySem.W.nsIn K mainGlobals "_law_mixed" = some (some (.ref x_law_mixed)))
    (l_law_mixed : K.lookup x_law_mixed = some ⟨oc_law_mixed, od_law_mixed, .func (PySem.W.fnOf "_law_mixed" "_law_mixed" (defArgs s_law_mixed) (defBody s_law_mixed) (defScope s_law_mixed) .none kV_law_mixed dc_law_mixed pm_law_mixed an_law_mixed cd_law_mixed ct_law_mixed), sl_law_mixed⟩)
    (co_law_mixed : PySem.W.codeIn K cd_law_mixed "_law_mixed" = true)
    (kp_law_mixed : PySem.W.keepIn K (.ref x_law_mixed) = true)
    (l_Bag_copy : K.lookup x_Bag_copy = some ⟨oc_Bag_copy, od_Bag_copy, .func (PySem.W.fnOf "copy" "Bag.copy" (defArgs s_Bag_copy) (defBody s_Bag_copy) (defScope s_Bag_copy) .none kV_Bag_copy dc_Bag_copy pm_Bag_copy an_Bag_copy cd_Bag_copy ct_Bag_copy), sl_Bag_copy⟩)
    (co_Bag_copy : PySem.W.codeIn K cd_Bag_copy "Bag.copy" = true)
    (kp_Bag_copy : PySem.W.keepIn K (.ref x_Bag_copy) = true)
    (a_law_equal : PySem.W.nsIn K mainGlobals "_law_equal" = some (some (.ref x_law_equal)))
    (l_law_equal : K.lookup x_law_equal = some ⟨oc_law_equal, od_law_equal, .func (PySem.W.fnOf "_law_equal" "_law_equal" (defArgs s_law_equal) (defBody s_law_equal) (defScope s_law_equal) .none kV_law_equal dc_law_equal pm_law_equal an_law_equal cd_law_equal ct_law_equal), sl_law_equal⟩)
    (co_law_equal : PySem.W.codeIn K cd_law_equal "_law_equal" = true)
    (kp_law_equal : PySem.W.keepIn K (.ref x_law_equal) = true)
    (a_law : PySem.W.nsIn K mainGlobals "law" = some (some (.ref x_law)))
    (l_law : K.lookup x_law = some ⟨oc_law, od_law, .func (PySem.W.fnOf "law" "law" (defArgs s_law) (defBody s_law) (defScope s_law) .none kV_law dc_law pm_law an_law cd_law ct_law), sl_law⟩)
    (co_law : PySem.W.codeIn K cd_law "law" = true)
    (kp_law : PySem.W.keepIn K (.ref x_law) = true)
    (z_int : PySem.W.nsIn K mainGlobals "int" = some none)
    (z_list : PySem.W.nsIn K mainGlobals "list" = some none)
    (z_isinstance : PySem.W.nsIn K mainGlobals "isinstance" = some none)
    (z_tuple : PySem.W.nsIn K mainGlobals "tuple" = some none)
    (z_len : PySem.W.nsIn K mainGlobals "len" = some none)
    (z_all : PySem.W.nsIn K mainGlobals "all" = some none)
    (z_zip : PySem.W.nsIn K mainGlobals "zip" = some none)
    (z_bool : PySem.W.nsIn K mainGlobals "bool" = some none)
    (z_str : PySem.W.nsIn K mainGlobals "str" = some none)
    (z_range : PySem.W.nsIn K mainGlobals "range" = some none)
    (z_dict : PySem.W.nsIn K mainGlobals "dict" = some none)
    (tb_law_deed : h.get? x_tb_law_deed = some { cls := .none, data := .fields #[] })
    (tn_law_deed : K.lookup x_tb_law_deed = none)
    (tc_law_deed : PySem.W.CodeHd h x_cb_law_deed x_tb_law_deed)
    (te_law_deed : cd_law_deed = .ref x_cb_law_deed)
    (hnd : ([x_tb_law_deed] : List Addr).Nodup) :
    ∃ (fd : FuncData) (cs : List (Addr × Addr)), (∀ p ∈ cs, h.get? p.2 = some { cls := .none, data := .fields #[] }) ∧ (∀ p ∈ cs, K.lookup p.2 = none) ∧ (∀ p ∈ cs, PySem.W.CodeHd h p.1 p.2) ∧ (∀ (s : Shared) (v : Value), BindsTo s fd ⟨[v], []⟩ [("_law_script", v)]) ∧ ∀ base : Heap, K.In base → base.Ns mainGlobals mg → (∀ p ∈ cs, LamX.TabB base mg p.1 p.2) → FnOk l.prog w K mg base CX0 10 fa fd ["_law_script"] (spLawTs K (cs.map (·.2))) := by
  have e := hfa.symm.trans (PySem.W.mg_of X G a_law)
  cases e
  have T : Txt K mg (Adr.mk x_Bag x_NoSuchLetter x_Missing x_NoSuchLetter_init x_law_bag x_law_same x_law_draw x_law_of x_Bag_eq x_Bag_init x_law_chan x_law_amount x_law_some x_law_word x_Bag_put x_law_strange x_law_refused x_Bag_contains x_Bag_take x_Bag_double x_law_deed x_Bag_older x_Bag_bool x_Bag_letters x_Bag_len x_law_looks x_law_mixed x_Bag_copy x_law_equal fa x_cb_law_deed x_tb_law_deed) := ⟨⟨pg_Bag, hd_Bag, po_Bag, sa_Bag⟩, ⟨mm_Bag, ai_Bag, if_Bag, kc_Bag⟩, PySem.W.mg_of X G a_Bag, n_Bag_p_letters, n_Bag_p_next, ⟨am_Bag_put, im_Bag_put, kp_Bag_put⟩, ⟨am_Bag_take, im_Bag_take, kp_Bag_take⟩, ⟨am_Bag_double, im_Bag_double, kp_Bag_double⟩, ⟨am_Bag_letters, im_Bag_letters, kp_Bag_letters⟩, ⟨am_Bag_older, im_Bag_older, kp_Bag_older⟩, ⟨am_Bag_copy, im_Bag_copy, kp_Bag_copy⟩, e_Bag, ef_Bag, dn_Bag_contains, df_Bag_contains, dn_Bag_len, df_Bag_len, dn_Bag_bool, df_Bag_bool, kl_Bag, kn_Bag, nl_Bag, ni_Bag, ⟨⟨pg_Bag, hd_Bag, po_Bag, sa_Bag⟩, iha_Bag, ihn, iht, ihm_Bag, ihe_Bag⟩, ki_Bag_Bag, PySem.W.mg_of X G a_Bag, PySem.W.mg_of X G a_law_bag, kp_law_bag, PySem.W.mg_of X G a_law_same, kp_law_same, PySem.W.mg_of X G a_law_draw, kp_law_draw, PySem.W.mg_of X G a_law_of, kp_law_of, PySem.W.mg_of X G a_law_chan, kp_law_chan, PySem.W.mg_of X G a_law_amount, kp_law_amount, PySem.W.mg_of X G a_law_some, kp_law_some, PySem.W.mg_of X G a_law_word, kp_law_word, PySem.W.mg_of X G a_law_strange, kp_law_strange, PySem.W.mg_of X G a_law_refused, kp_law_refused, PySem.W.mg_of X G a_law_deed, kp_law_deed, PySem.W.mg_of X G a_law_looks, kp_law_looks, PySem.W.mg_of X G a_law_mixed, kp_law_mixed, PySem.W.mg_of X G a_law_equal, kp_law_equal, PySem.W.mg_none_of X G z_int, PySem.W.mg_none_of X G z_list, PySem.W.mg_none_of X G z_isinstance, PySem.W.mg_none_of X G z_tuple, PySem.W.mg_none_of X G z_len, PySem.W.mg_none_of X G z_all, PySem.W.mg_none_of X G z_zip, PySem.W.mg_none_of X G z_bool, PySem.W.mg_none_of X G z_str, PySem.W.mg_none_of X G z_range, PySem.W.mg_none_of X G z_dict, ⟨PySem.W.mg_of X G a_NoSuchLetter, ⟨lk_NoSuchLetter, xs_NoSuchLetter, xb_NoSuchLetter, xt_NoSuchLetter, xp_NoSuchLetter⟩, ⟨xa_NoSuchLetter, xe_NoSuchLetter, xb_NoSuchLetter, xd_NoSuchLetter⟩, ⟨xa_NoSuchLetter, xe_NoSuchLetter, xb_NoSuchLetter, xd_NoSuchLetter, xc_NoSuchLetter, ihn, iht, xo_NoSuchLetter⟩, xf_NoSuchLetter, xi_NoSuchLetter, xy_NoSuchLetter⟩, PySem.W.mg_of X G a_NoSuchLetter, PySem.W.mg_of X G a_Missing, xf_NoSuchLetter, xm_NoSuchLetter_NoSuchLetter, xj_NoSuchLetter_Missing⟩
  have F_NoSuchLetter_init := fun_mk (st := s_NoSuchLetter_init) l_NoSuchLetter_init co_NoSuchLetter_init kp_NoSuchLetter_init
  have F_law_bag := fun_mk (st := s_law_bag) l_law_bag co_law_bag kp_law_bag
  have F_law_same := fun_mk (st := s_law_same) l_law_same co_law_same kp_law_same
  have F_law_draw := fun_mk (st := s_law_draw) l_law_draw co_law_draw kp_law_draw
  have F_law_of := fun_mk (st := s_law_of) l_law_of co_law_of kp_law_of
  have F_Bag_eq := fun_mk (st := s_Bag_eq) l_Bag_eq co_Bag_eq kp_Bag_eq
  have F_Bag_init := fun_mk (st := s_Bag_init) l_Bag_init co_Bag_init kp_Bag_init
  have F_law_chan := fun_mk (st := s_law_chan) l_law_chan co_law_chan kp_law_chan
  have F_law_amount := fun_mk (st := s_law_amount) l_law_amount co_law_amount kp_law_amount
  have F_law_some := fun_mk (st := s_law_some) l_law_some co_law_some kp_law_some
  have F_law_word := fun_mk (st := s_law_word) l_law_word co_law_word kp_law_word
  have F_Bag_put := fun_mk (st := s_Bag_put) l_Bag_put co_Bag_put kp_Bag_put
  have F_law_strange := fun_mk (st := s_law_strange) l_law_strange co_law_strange kp_law_strange
  have F_law_refused := fun_mk (st := s_law_refused) l_law_refused co_law_refused kp_law_refused
  have F_Bag_contains := fun_mk (st := s_Bag_contains) l_Bag_contains co_Bag_contains kp_Bag_contains
  have F_Bag_take := fun_mk (st := s_Bag_take) l_Bag_take co_Bag_take kp_Bag_take
  have F_Bag_double := fun_mk (st := s_Bag_double) l_Bag_double co_Bag_double kp_Bag_double
  have F_law_deed := fun_mk (st := s_law_deed) l_law_deed co_law_deed kp_law_deed
  have F_Bag_older := fun_mk (st := s_Bag_older) l_Bag_older co_Bag_older kp_Bag_older
  have F_Bag_bool := fun_mk (st := s_Bag_bool) l_Bag_bool co_Bag_bool kp_Bag_bool
  have F_Bag_letters := fun_mk (st := s_Bag_letters) l_Bag_letters co_Bag_letters kp_Bag_letters
  have F_Bag_len := fun_mk (st := s_Bag_len) l_Bag_len co_Bag_len kp_Bag_len
  have F_law_looks := fun_mk (st := s_law_looks) l_law_looks co_law_looks kp_law_looks
  have F_law_mixed := fun_mk (st := s_law_mixed) l_law_mixed co_law_mixed kp_law_mixed
  have F_Bag_copy := fun_mk (st := s_Bag_copy) l_Bag_copy co_Bag_copy kp_Bag_copy
  have F_law_equal := fun_mk (st := s_law_equal) l_law_equal co_law_equal kp_law_equal
  have F_law := fun_mk (st := s_law) l_law co_law kp_law
  have b_NoSuchLetter_init := F_NoSuchLetter_init.binds (ps := ["self", "number"]) fun _ _ _ _ _ _ us hl => match us, hl with | [_, _], _ => rfl
  have b_law_bag := F_law_bag.binds (ps := ["_law_script"]) fun _ _ _ _ _ _ us hl => match us, hl with | [_], _ => rfl
  have b_law_same := F_law_same.binds (ps := ["_law_told", "_law_due"]) fun _ _ _ _ _ _ us hl => match us, hl with | [_, _], _ => rfl
  have b_law_draw := F_law_draw.binds (ps := ["_law_bag_here", "_law_many"]) fun _ _ _ _ _ _ us hl => match us, hl with | [_, _], _ => rfl
  have b_law_of := F_law_of.binds (ps := ["_law_bag_here", "_law_things"]) fun _ _ _ _ _ _ us hl => match us, hl with | [_, _], _ => rfl
  have b_Bag_eq := F_Bag_eq.binds (ps := ["self", "other"]) fun _ _ _ _ _ _ us hl => match us, hl with | [_, _], _ => rfl
  have b_Bag_init := F_Bag_init.binds (ps := ["self"]) fun _ _ _ _ _ _ us hl => match us, hl with | [_], _ => rfl
  have b_law_chan := F_law_chan.binds (ps := ["_law_bag_here"]) fun _ _ _ _ _ _ us hl => match us, hl with | [_], _ => rfl
  have b_law_amount := F_law_amount.binds (ps := ["_law_top", "_law_bottom"]) fun _ _ _ _ _ _ us hl => match us, hl with | [_, _], _ => rfl
  have b_law_some := F_law_some.binds (ps := ["_law_bag_here", "_law_most"]) fun _ _ _ _ _ _ us hl => match us, hl with | [_, _], _ => rfl
  have b_law_word := F_law_word.binds (ps := ["_law_bag_here", "_law_chan_here"]) fun _ _ _ _ _ _ us hl => match us, hl with | [_, _], _ => rfl
  have b_Bag_put := F_Bag_put.binds (ps := ["self", "channel", "tick", "value"]) fun _ _ _ _ _ _ us hl => match us, hl with | [_, _, _, _], _ => rfl
  have b_law_strange := F_law_strange.binds (ps := ["_law_bag_here", "_law_rows", "_law_count"]) fun _ _ _ _ _ _ us hl => match us, hl with | [_, _, _], _ => rfl
  have b_law_refused := F_law_refused.binds (ps := ["_law_told", "_law_number_of"]) fun _ _ _ _ _ _ us hl => match us, hl with | [_, _], _ => rfl
  have b_Bag_contains := F_Bag_contains.binds (ps := ["self", "number"]) fun _ _ _ _ _ _ us hl => match us, hl with | [_, _], _ => rfl
  have b_Bag_take := F_Bag_take.binds (ps := ["self", "number"]) fun _ _ _ _ _ _ us hl => match us, hl with | [_, _], _ => rfl
  have b_Bag_double := F_Bag_double.binds (ps := ["self", "number"]) fun _ _ _ _ _ _ us hl => match us, hl with | [_, _], _ => rfl
  have b_law_deed := F_law_deed.binds (ps := ["_law_bag_here", "_law_side"]) fun _ _ _ _ _ _ us hl => match us, hl with | [_, _], _ => rfl
  have b_Bag_older := F_Bag_older.binds (ps := ["self", "tick"]) fun _ _ _ _ _ _ us hl => match us, hl with | [_, _], _ => rfl
  have b_Bag_bool := F_Bag_bool.binds (ps := ["self"]) fun _ _ _ _ _ _ us hl => match us, hl with | [_], _ => rfl
  have b_Bag_letters := F_Bag_letters.binds (ps := ["self"]) fun _ _ _ _ _ _ us hl => match us, hl with | [_], _ => rfl
  have b_Bag_len := F_Bag_len.binds (ps := ["self"]) fun _ _ _ _ _ _ us hl => match us, hl with | [_], _ => rfl
  have b_law_looks := F_law_looks.binds (ps := ["_law_bag_here", "_law_side"]) fun _ _ _ _ _ _ us hl => match us, hl with | [_, _], _ => rfl
  have b_law_mixed := F_law_mixed.binds (ps := ["_law_bag_here", "_law_things"]) fun _ _ _ _ _ _ us hl => match us, hl with | [_, _], _ => rfl
  have b_Bag_copy := F_Bag_copy.binds (ps := ["self"]) fun _ _ _ _ _ _ us hl => match us, hl with | [_], _ => rfl
  have b_law_equal := F_law_equal.binds (ps := ["_law_bag_here", "_law_side"]) fun _ _ _ _ _ _ us hl => match us, hl with | [_, _], _ => rfl
  refine ⟨PySem.W.fnOf "law" "law" (defArgs s_law) (defBody s_law) (defScope s_law) .none kV_law dc_law pm_law an_law cd_law ct_law, [(x_cb_law_deed, x_tb_law_deed)], (by intro p hp; simp only [List.mem_cons, List.not_mem_nil, or_false] at hp; rcases hp with rfl <;> first | exact tb_law_deed), (by intro p hp; simp only [List.mem_cons, List.not_mem_nil, or_false] at hp; rcases hp with rfl <;> first | exact tn_law_deed), (by intro p hp; simp only [List.mem_cons, List.not_mem_nil, or_false] at hp; rcases hp with rfl <;> first | exact tc_law_deed), fun s v => .of_eq rfl, fun base _ _ TBs => ?_⟩
  have TB_law_deed := TBs (x_cb_law_deed, x_tb_law_deed) (by simp)
  have X_NoSuchLetter := ex_NoSuchLetter (P := l.prog) (w := w) (base := base) T F_NoSuchLetter_init b_NoSuchLetter_init
  have G_law_bag := d_law_bag (P := l.prog) (w := w) (base := base) T F_law_bag b_law_bag
  have GH_law_same := dh_law_same (P := l.prog) (w := w) (base := base) T F_law_same b_law_same 6
  have G_law_same := d_law_same (P := l.prog) (w := w) (base := base) T F_law_same b_law_same 6
  have G_law_draw := d_law_draw (P := l.prog) (w := w) (base := base) T F_law_draw b_law_draw
  have G_law_of := d_law_of (P := l.prog) (w := w) (base := base) T F_law_of b_law_of G_law_draw
  have G_Bag_eq := d_Bag_eq (P := l.prog) (w := w) (base := base) T F_Bag_eq b_Bag_eq
  have G_Bag_init := d_Bag_init (P := l.prog) (w := w) (base := base) T F_Bag_init b_Bag_init
  have G_law_chan := d_law_chan (P := l.prog) (w := w) (base := base) T F_law_chan b_law_chan G_law_of
  have G_law_amount := d_law_amount (P := l.prog) (w := w) (base := base) T F_law_amount b_law_amount
  have G_law_some := d_law_some (P := l.prog) (w := w) (base := base) T F_law_some b_law_some G_law_of G_law_amount G_law_draw
  have G_law_word := d_law_word (P := l.prog) (w := w) (base := base) T F_law_word b_law_word G_law_draw G_law_some G_law_of
  have G_Bag_put := d_Bag_put (P := l.prog) (w := w) (base := base) T F_Bag_put b_Bag_put
  have G_law_strange := d_law_strange (P := l.prog) (w := w) (base := base) T F_law_strange b_law_strange G_law_draw G_law_of
  have G_Bag_contains := d_Bag_contains (P := l.prog) (w := w) (base := base) T F_Bag_contains b_Bag_contains
  have GX_Bag_take := dx_Bag_take (P := l.prog) (w := w) (base := base) T F_Bag_take b_Bag_take X_NoSuchLetter G_Bag_contains
  have G_Bag_take := d_Bag_take (P := l.prog) (w := w) (base := base) T F_Bag_take b_Bag_take G_Bag_contains
  have GX_Bag_double := dx_Bag_double (P := l.prog) (w := w) (base := base) T F_Bag_double b_Bag_double X_NoSuchLetter G_Bag_contains G_Bag_put
  have G_Bag_double := d_Bag_double (P := l.prog) (w := w) (base := base) T F_Bag_double b_Bag_double G_Bag_contains G_Bag_put
  have G_law_deed := d_law_deed (P := l.prog) (w := w) (base := base) T F_law_deed b_law_deed te_law_deed TB_law_deed G_law_draw G_law_chan G_law_word G_law_same G_Bag_put G_law_of G_Bag_take G_Bag_double G_law_strange G_Bag_contains F_law_refused b_law_refused GX_Bag_take GX_Bag_double GH_law_same
  have G_Bag_older := d_Bag_older (P := l.prog) (w := w) (base := base) T F_Bag_older b_Bag_older
  have G_Bag_bool := d_Bag_bool (P := l.prog) (w := w) (base := base) T F_Bag_bool b_Bag_bool
  have G_Bag_letters := d_Bag_letters (P := l.prog) (w := w) (base := base) T F_Bag_letters b_Bag_letters
  have G_Bag_len := d_Bag_len (P := l.prog) (w := w) (base := base) T F_Bag_len b_Bag_len
  have G_law_looks := d_law_looks (P := l.prog) (w := w) (base := base) T F_law_looks b_law_looks G_law_same G_Bag_len G_Bag_bool G_Bag_letters G_law_draw G_Bag_older G_Bag_contains
  have G_law_mixed := d_law_mixed (P := l.prog) (w := w) (base := base) T F_law_mixed b_law_mixed G_law_draw
  have G_Bag_copy := d_Bag_copy (P := l.prog) (w := w) (base := base) T F_Bag_copy b_Bag_copy G_Bag_init
  have G_law_equal := d_law_equal (P := l.prog) (w := w) (base := base) T F_law_equal b_law_equal G_Bag_init G_law_chan G_law_word G_Bag_put G_law_mixed G_Bag_take G_law_same G_Bag_eq G_Bag_copy G_law_of G_Bag_len
  exact FnOk.imp_lawTs (T := [(x_tb_law_deed, lamq "_law_deed")]) hnd (d_law T F_law G_law_bag G_Bag_init G_law_draw G_law_of G_law_deed G_Bag_copy G_law_looks G_law_equal G_law_same G_Bag_eq)
theorem walk {l : PySem.W.OpenLaw} {q : Program} {loose : List Str} {XP : (Str → Option Value) → Heap → Prop} {YP : World → Heap → Prop} {d : DefRec} {K : Params → PySem.W.Frag} (hn : l.most = some 63) (hdf : d.params.defaults = [])
    (hY : ∀ (w : World) (h : Heap), YP w h → (K w.params).In h)
    (F : ∀ (w : World) (mg : Str → Option Value) (fa : Addr) (h : Heap) (s₀ : Shared) (mb : Str → Option Value), PySem.W.Ground q loose [] XP w s₀ mg mb h → (K w.params).In h → h.Ns mainGlobals mg → mg d.name = some (.ref fa) →
      ∃ (fd : FuncData) (cs : List (Addr × Addr)), (∀ p ∈ cs, h.get? p.2 = some { cls := .none, data := .fields #[] }) ∧ (∀ p ∈ cs, (K w.params).lookup p.2 = none) ∧ (∀ p ∈ cs, PySem.W.CodeHd h p.1 p.2) ∧ (∀ (s : Shared) (u : Value), BindsTo s fd ⟨[u], []⟩ [("_law_script", u)]) ∧
        ∀ base : Heap, (K w.params).In base → base.Ns mainGlobals mg → (∀ p ∈ cs, LamX.TabB base mg p.1 p.2) → FnOk l.prog w (K w.params) mg base CX0 10 fa fd ["_law_script"] (spLawTs (K w.params) (cs.map (·.2)))) :
    PySem.W.WalkO q loose XP YP l.row.toRowW d [] (fun f vs => PySem.call f vs) :=
  walk_Ts (x := "_law_script") (kk := 10) hn hdf ⟨rfl, by decide, by decide⟩ hY F
end K30
open PySem PySem.W PyProof.Rows
set_option maxRecDepth 100000 in
set_option maxHeartbeats 0 in
theorem PySem.Challenge.cw_bandheld_k30_whole_bags_holds : PySem.Challenge.rw_bandheld_k30_whole_bags.Holds := by
  w_on; o_law; k_head; (case hw => w_witness2)
  k_fill
  refine K30.walk (l := PySem.Challenge.rw_bandheld_k30_whole_bags) rfl rfl (fun w h Y => PySem.W.km_in_of Y) ?F
  case F =>
    intro w mg fa h s₀ mb GG KX G hmg
    refine' K30.all_mk KX G hmg ?a_Bag ?pg_Bag ?hd_Bag ?po_Bag ?sa_Bag ?mm_Bag ?kc_Bag ?ai_Bag ?if_Bag ?n_Bag_p_letters ?n_Bag_p_next ?am_Bag_put ?im_Bag_put ?am_Bag_take ?im_Bag_take ?am_Bag_double ?im_Bag_double ?am_Bag_letters ?im_Bag_letters ?am_Bag_older ?im_Bag_older ?am_Bag_copy ?im_Bag_copy ?e_Bag ?ef_Bag ?dn_Bag_contains ?df_Bag_contains ?dn_Bag_len ?df_Bag_len ?dn_Bag_bool ?df_Bag_bool ?kl_Bag ?kn_Bag ?nl_Bag ?ni_Bag ?ihn ?iht ?iha_Bag ?ihm_Bag ?ihe_Bag ?ki_Bag_Bag ?a_NoSuchLetter ?a_Missing ?lk_NoSuchLetter ?xs_NoSuchLetter ?xb_NoSuchLetter ?xt_NoSuchLetter ?xp_NoSuchLetter ?xa_NoSuchLetter ?xe_NoSuchLetter ?xd_NoSuchLetter ?xc_NoSuchLetter ?xo_NoSuchLetter ?xf_NoSuchLetter ?xi_NoSuchLetter ?xy_NoSuchLetter ?xm_NoSuchLetter_NoSuchLetter ?xj_NoSuchLetter_Missing ?l_NoSuchLetter_init ?co_NoSuchLetter_init ?kp_NoSuchLetter_init ?a_law_bag ?l_law_bag ?co_law_bag ?kp_law_bag ?a_law_same ?l_law_same ?co_law_same ?kp_law_same ?a_law_draw ?l_law_draw ?co_law_draw ?kp_law_draw ?a_law_of ?l_law_of ?co_law_of ?kp_law_of ?l_Bag_eq ?co_Bag_eq ?kp_Bag_eq ?l_Bag_init ?co_Bag_init ?kp_Bag_init ?a_law_chan ?l_law_chan ?co_law_chan ?kp_law_chan ?a_law_amount ?l_law_amount ?co_law_amount ?kp_law_amount ?a_law_some ?l_law_some ?co_law_some ?kp_law_some ?a_law_word ?l_law_word ?co_law_word ?kp_law_word ?l_Bag_put ?co_Bag_put ?kp_Bag_put ?a_law_strange ?l_law_strange ?co_law_strange ?kp_law_strange ?a_law_refused ?l_law_refused ?co_law_refused ?kp_law_refused ?l_Bag_contains ?co_Bag_contains ?kp_Bag_contains ?l_Bag_take ?co_Bag_take ?kp_Bag_take ?l_Bag_double ?co_Bag_double ?kp_Bag_double ?a_law_deed ?l_law_deed ?co_law_deed ?kp_law_deed ?l_Bag_older ?co_Bag_older ?kp_Bag_older ?l_Bag_bool ?co_Bag_bool ?kp_Bag_bool ?l_Bag_letters ?co_Bag_letters ?kp_Bag_letters ?l_Bag_len ?co_Bag_len ?kp_Bag_len ?a_law_looks ?l_law_looks ?co_law_looks ?kp_law_looks ?a_law_mixed ?l_law_mixed ?co_law_mixed ?kp_law_mixed ?l_Bag_copy ?co_Bag_copy ?kp_Bag_copy ?a_law_equal ?l_law_equal ?co_law_equal ?kp_law_equal ?a_law ?l_law ?co_law ?kp_law ?z_int ?z_list ?z_isinstance ?z_tuple ?z_len ?z_all ?z_zip ?z_bool ?z_str ?z_range ?z_dict ?tb_law_deed ?tn_law_deed ?tc_law_deed ?te_law_deed ?hnd
    (case a_Bag => k_is)
    (case pg_Bag => k_is)
    (case hd_Bag => k_is)
    (case po_Bag => k_is)
    (case sa_Bag => k_is)
    (case mm_Bag => k_is)
    (case kc_Bag => k_is)
    (case ai_Bag => k_is)
    (case if_Bag => k_is)
    (case n_Bag_p_letters => k_is)
    (case n_Bag_p_next => k_is)
    (case am_Bag_put => k_is)
    (case im_Bag_put => k_is)
    (case am_Bag_take => k_is)
    (case im_Bag_take => k_is)
    (case am_Bag_double => k_is)
    (case im_Bag_double => k_is)
    (case am_Bag_letters => k_is)
    (case im_Bag_letters => k_is)
    (case am_Bag_older => k_is)
    (case im_Bag_older => k_is)
    (case am_Bag_copy => k_is)
    (case im_Bag_copy => k_is)
    (case e_Bag => k_is)
    (case ef_Bag => k_is)
    (case dn_Bag_contains => k_is)
    (case df_Bag_contains => k_is)
    (case dn_Bag_len => k_is)
    (case df_Bag_len => k_is)
    (case dn_Bag_bool => k_is)
    (case df_Bag_bool => k_is)
    (case kl_Bag => refine L3.kit_of ?q0 ?q1 ?q2 ?q3; (case q0 => rfl); (case q1 => k_is); (case q2 => k_is); (case q3 => first | k_is | rfl | kernel_rfl))
    (case kn_Bag => refine L3.kit_of ?q0 ?q1 ?q2 ?q3; (case q0 => rfl); (case q1 => k_is); (case q2 => k_is); (case q3 => first | k_is | rfl | kernel_rfl))
    (case nl_Bag => k_is)
    (case ni_Bag => k_is)
    (case ihn => k_is)
    (case iht => k_is)
    (case iha_Bag => k_is)
    (case ihm_Bag => k_is)
    (case ihe_Bag => exact if_pos (beq_self_eq_true _))
    (case ki_Bag_Bag => exact if_pos (beq_self_eq_true _))
    (case a_NoSuchLetter => k_is)
    (case a_Missing => k_is)
    (case lk_NoSuchLetter => refine' L3.clsLkG_of PySem.BX.base_LE ?q1 ?q2; (case q1 => k_is); (case q2 => rfl))
    (case xs_NoSuchLetter => k_is)
    (case xb_NoSuchLetter => k_is)
    (case xt_NoSuchLetter => k_is)
    (case xp_NoSuchLetter => k_is)
    (case xa_NoSuchLetter => k_is)
    (case xe_NoSuchLetter => k_is)
    (case xd_NoSuchLetter => k_is)
    (case xc_NoSuchLetter => k_is)
    (case xo_NoSuchLetter => k_is)
    (case xf_NoSuchLetter => k_is)
    (case xi_NoSuchLetter => k_is)
    (case xy_NoSuchLetter => k_is)
    (case xm_NoSuchLetter_NoSuchLetter => refine L3.exm_of ?q1 ?q2 ?q3 ?q4; (case q1 => k_is); (case q2 => k_is); (case q3 => k_is); (case q4 => k_is))
    (case xj_NoSuchLetter_Missing => refine L3.kit_of ?q0 ?q1 ?q2 ?q3; (case q0 => rfl); (case q1 => k_is); (case q2 => k_is); (case q3 => k_is))
    (case l_NoSuchLetter_init => k_is)
    (case co_NoSuchLetter_init => k_is)
    (case kp_NoSuchLetter_init => k_is)
    (case a_law_bag => k_is)
    (case l_law_bag => k_is)
    (case co_law_bag => k_is)
    (case kp_law_bag => k_is)
    (case a_law_same => k_is)
    (case l_law_same => k_is)
    (case co_law_same => k_is)
    (case kp_law_same => k_is)
    (case a_law_draw => k_is)
    (case l_law_draw => k_is)
    (case co_law_draw => k_is)
    (case kp_law_draw => k_is)
    (case a_law_of => k_is)
    (case l_law_of => k_is)
    (case co_law_of => k_is)
    (case kp_law_of => k_is)
    (case l_Bag_eq => k_is)
    (case co_Bag_eq => k_is)
    (case kp_Bag_eq => k_is)
    (case l_Bag_init => k_is)
    (case co_Bag_init => k_is)
    (case kp_Bag_init => k_is)
    (case a_law_chan => k_is)
    (case l_law_chan => k_is)
    (case co_law_chan => k_is)
    (case kp_law_chan => k_is)
    (case a_law_amount => k_is)
    (case l_law_amount => k_is)
    (case co_law_amount => k_is)
    (case kp_law_amount => k_is)
    (case a_law_some => k_is)
    (case l_law_some => k_is)
    (case co_law_some => k_is)
    (case kp_law_some => k_is)
    (case a_law_word => k_is)
    (case l_law_word => k_is)
    (case co_law_word => k_is)
    (case kp_law_word => k_is)
    (case l_Bag_put => k_is)
    (case co_Bag_put => k_is)
    (case kp_Bag_put => k_is)
    (case a_law_strange => k_is)
    (case l_law_strange => k_is)
    (case co_law_strange => k_is)
    (case kp_law_strange => k_is)
    (case a_law_refused => k_is)
    (case l_law_refused => k_is)
    (case co_law_refused => k_is)
    (case kp_law_refused => k_is)
    (case l_Bag_contains => k_is)
    (case co_Bag_contains => k_is)
    (case kp_Bag_contains => k_is)
    (case l_Bag_take => k_is)
    (case co_Bag_take => k_is)
    (case kp_Bag_take => k_is)
    (case l_Bag_double => k_is)
    (case co_Bag_double => k_is)
    (case kp_Bag_double => k_is)
    (case a_law_deed => k_is)
    (case l_law_deed => k_is)
    (case co_law_deed => k_is)
    (case kp_law_deed => k_is)
    (case l_Bag_older => k_is)
    (case co_Bag_older => k_is)
    (case kp_Bag_older => k_is)
    (case l_Bag_bool => k_is)
    (case co_Bag_bool => k_is)
    (case kp_Bag_bool => k_is)
    (case l_Bag_letters => k_is)
    (case co_Bag_letters => k_is)
    (case kp_Bag_letters => k_is)
    (case l_Bag_len => k_is)
    (case co_Bag_len => k_is)
    (case kp_Bag_len => k_is)
    (case a_law_looks => k_is)
    (case l_law_looks => k_is)
    (case co_law_looks => k_is)
    (case kp_law_looks => k_is)
    (case a_law_mixed => k_is)
    (case l_law_mixed => k_is)
    (case co_law_mixed => k_is)
    (case kp_law_mixed => k_is)
    (case l_Bag_copy => k_is)
    (case co_Bag_copy => k_is)
    (case kp_Bag_copy => k_is)
    (case a_law_equal => k_is)
    (case l_law_equal => k_is)
    (case co_law_equal => k_is)
    (case kp_law_equal => k_is)
    (case a_law => k_is)
    (case l_law => k_is)
    (case co_law => k_is)
    (case kp_law => k_is)
    (case z_int => k_is)
    (case z_list => k_is)
    (case z_isinstance => k_is)
    (case z_tuple => k_is)
    (case z_len => k_is)
    (case z_all => k_is)
    (case z_zip => k_is)
    (case z_bool => k_is)
    (case z_str => k_is)
    (case z_range => k_is)
    (case z_dict => k_is)
    (case tb_law_deed => exact (PySem.W.tab_of (x := "_law_deed") (c := 214) (P := 210) GG.T KX rfl (by kernel_rfl)).2)
    (case tn_law_deed => kernel_rfl)
    (case tc_law_deed => exact (PySem.W.tab_of (x := "_law_deed") (c := 214) (P := 210) GG.T KX rfl (by kernel_rfl)).1)
    (case te_law_deed => rfl)
    (case hnd => decide)
