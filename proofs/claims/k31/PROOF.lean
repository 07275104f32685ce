import PyProof.Rows.All
import Wide.All
import OpenK.AllK
import Wide.FinOn
import HandS.Lambda
import HandS.ForMost
import HandS.Star
import HandS.Wide
import HandS.Gcd
import HandS.DictComp
import HandS.IsInst
import HandS.Zip
import HandS.Style
import HandS.Property
import HandS.Deep
import HandS.TupSets
import HandS.Keys
import KE.KMathG
import HandS.Defaults
import PyProof.Rows.Walk
import HandS.ExcInit
import HandS.ExcField
import HandS.ExcIs
import HandS.WordsExc
import HandS.ExcOwn
import HandS.ExcCtx
import KE.KExcIs
import HandS.HotCalls
import PyProof.Seq
import PySem.Challenge.RW_bandheld_k31_wires_buffers_hops_told
set_option Elab.async false
set_option linter.all false
set_option maxRecDepth 100000
/-! L3: a layer over HandS: tuples and never-changed lists are values; memory holds only what may change. -/
namespace L3
open PySem L2
inductive D where
  | non | bl (b : Bool) | int (i : Int) | str (x : Str) | tup (ds : List D) | lst (ds : List D) | ref (a : Addr)
/-- what grows: the facts that never cease (tuples, lists that are never changed) -/
def Sub (G G' : Hp) : Prop := ∀ a o, G a = some o → G' a = some o
theorem Sub.refl (G : Hp) : Sub G G := fun _ _ h => h
theorem Sub.trans {G G1 G2 : Hp} (a : Sub G G1) (b : Sub G1 G2) : Sub G G2 := fun x o h => b x o (a x o h)
theorem Sub.new {G : Hp} {p : Addr} {o : HO} (h : G p = none) : Sub G (upd G p o) := fun a u e => by
  rw [upd_ne (ne_of_none e h)]; exact e
theorem Sub.rd {G G' : Hp} (e : Sub G G') {a : Addr} {u : HO} (h : Rd G a u) : Rd G' a u := by
  rcases h with h | ⟨o, h⟩
  · exact .inl (e a _ h)
  · exact .inr ⟨o, e a _ h⟩
theorem Sub.l {K : PySem.W.Frag} {G G' : Hp} (e : Sub G G') {a : Addr} {xs : List V} (h : SqL K G a xs) : SqL K G' a xs := by
  rcases h with h | h
  · exact .inl (e.rd h)
  · exact .inr h
theorem Sub.t {K : PySem.W.Frag} {G G' : Hp} (e : Sub G G') {a : Addr} {xs : List V} (h : SqT K G a xs) : SqT K G' a xs := by
  rcases h with h | h
  · exact .inl (e.rd h)
  · exact .inr h
section
variable (K : PySem.W.Frag) (G : Hp)
mutual
/-- the value of V that a datum stands for -/
def RV : D → V → Prop
  | .non, v => v = .non
  | .bl b, v => v = .bl b
  | .int i, v => v = .int i
  | .str x, v => v = .str x
  | .ref a, v => v = .ref a
  | .tup ds, v => ∃ a xs, v = .ref a ∧ SqT K G a xs ∧ RVs ds xs
  | .lst ds, v => ∃ a xs, v = .ref a ∧ SqL K G a xs ∧ RVs ds xs
def RVs : List D → List V → Prop
  | [], xs => xs = []
  | d :: ds, xs => ∃ x r, xs = x :: r ∧ RV d x ∧ RVs ds r
end
end
section
variable {K : PySem.W.Frag} {G G' : Hp}
mutual
theorem RV.mono (e : Sub G G') : ∀ (d : D) {v : V}, RV K G d v → RV K G' d v
  | .non, _, h => h
  | .bl _, _, h => h
  | .int _, _, h => h
  | .str _, _, h => h
  | .ref _, _, h => h
  | .tup ds, _, ⟨a, xs, h1, h2, h3⟩ => ⟨a, xs, h1, e.t h2, RVs.mono e ds h3⟩
  | .lst ds, _, ⟨a, xs, h1, h2, h3⟩ => ⟨a, xs, h1, e.l h2, RVs.mono e ds h3⟩
theorem RVs.mono (e : Sub G G') : ∀ (ds : List D) {xs : List V}, RVs K G ds xs → RVs K G' ds xs
  | [], _, h => h
  | d :: ds, _, ⟨x, r, h1, h2, h3⟩ => ⟨x, r, h1, RV.mono e d h2, RVs.mono e ds h3⟩
end
theorem RVs.length : ∀ {ds : List D} {xs : List V}, RVs K G ds xs → ds.length = xs.length
  | [], _, h => by rw [show _ = [] from h]; rfl
  | d :: ds, _, ⟨x, r, h1, h2, h3⟩ => by rw [h1, List.length_cons, List.length_cons, RVs.length h3]
theorem RVs.nil : RVs K G [] [] := rfl
theorem RVs.cons {d : D} {ds : List D} {x : V} {xs : List V} (h : RV K G d x) (t : RVs K G ds xs) : RVs K G (d :: ds) (x :: xs) := ⟨x, xs, rfl, h, t⟩
theorem RVs.get : ∀ {ds : List D} {xs : List V} {i : Nat} {d : D}, RVs K G ds xs → ds[i]? = some d → ∃ x, xs[i]? = some x ∧ RV K G d x
  | [], _, _, _, _, e => by simp at e
  | _ :: _, _, 0, d, ⟨x, r, h1, h2, h3⟩, e => by
    have e : _ = d := Option.some.inj e
    subst e; subst h1
    exact ⟨x, rfl, h2⟩
  | _ :: _, _, i + 1, d, ⟨x, r, h1, h2, h3⟩, e => by
    subst h1
    exact RVs.get (i := i) h3 e
theorem RVs.getV : ∀ {ds : List D} {xs : List V} {i : Nat} {x : V}, RVs K G ds xs → xs[i]? = some x → ∃ d, ds[i]? = some d ∧ RV K G d x
  | [], _, _, _, h, e => by rw [show _ = [] from h] at e; simp at e
  | d :: _, _, 0, y, ⟨x, r, h1, h2, h3⟩, e => by
    subst h1
    have e : x = y := Option.some.inj e
    subst e
    exact ⟨d, rfl, h2⟩
  | _ :: _, _, i + 1, _, ⟨x, r, h1, h2, h3⟩, e => by
    subst h1
    exact RVs.getV (i := i) h3 e
theorem RVs.append : ∀ {ds es : List D} {xs ys : List V}, RVs K G ds xs → RVs K G es ys → RVs K G (ds ++ es) (xs ++ ys)
  | [], _, _, _, h, t => by rw [show _ = [] from h]; exact t
  | _ :: _, _, _, _, ⟨x, r, h1, h2, h3⟩, t => by subst h1; exact ⟨x, _, rfl, h2, RVs.append h3 t⟩
theorem RVs.one {d : D} {x : V} (h : RV K G d x) : RVs K G [d] [x] := RVs.cons h RVs.nil
theorem RVs.take : ∀ {ds : List D} {xs : List V} (n : Nat), RVs K G ds xs → RVs K G (ds.take n) (xs.take n)
  | _, _, 0, _ => rfl
  | [], _, _ + 1, h => by rw [show _ = [] from h]; rfl
  | _ :: _, _, n + 1, ⟨x, r, h1, h2, h3⟩ => by subst h1; exact ⟨x, _, rfl, h2, RVs.take n h3⟩
theorem RVs.drop : ∀ {ds : List D} {xs : List V} (n : Nat), RVs K G ds xs → RVs K G (ds.drop n) (xs.drop n)
  | _, _, 0, h => h
  | [], _, _ + 1, h => by rw [show _ = [] from h]; rfl
  | _ :: _, _, n + 1, ⟨x, r, h1, h2, h3⟩ => by subst h1; exact RVs.drop n h3
theorem RVs.set {d : D} {x : V} (r : RV K G d x) : ∀ {ds : List D} {xs : List V} (i : Nat), RVs K G ds xs → RVs K G (ds.set i d) (xs.set i x)
  | [], _, _, h => by rw [show _ = [] from h]; rfl
  | _ :: _, _, 0, ⟨y, q, h1, h2, h3⟩ => by subst h1; exact ⟨x, _, rfl, r, h3⟩
  | _ :: _, _, i + 1, ⟨y, q, h1, h2, h3⟩ => by subst h1; exact ⟨y, _, rfl, h2, RVs.set r i h3⟩
theorem RVs.reverse : ∀ {ds : List D} {xs : List V}, RVs K G ds xs → RVs K G ds.reverse xs.reverse
  | [], _, h => by rw [show _ = [] from h]; rfl
  | d :: ds, _, ⟨x, r, h1, h2, h3⟩ => by
    subst h1
    rw [List.reverse_cons, List.reverse_cons]
    exact RVs.append (RVs.reverse h3) (RVs.one h2)
theorem RVs.eraseIdx : ∀ {ds : List D} {xs : List V} (i : Nat), RVs K G ds xs → RVs K G (ds.eraseIdx i) (xs.eraseIdx i)
  | [], _, _, h => by rw [show _ = [] from h]; rfl
  | _ :: _, _, 0, ⟨y, q, h1, h2, h3⟩ => by subst h1; exact h3
  | _ :: _, _, i + 1, ⟨y, q, h1, h2, h3⟩ => by subst h1; exact ⟨y, _, rfl, h2, RVs.eraseIdx i h3⟩
theorem RVs.insertIdx {d : D} {x : V} (r : RV K G d x) : ∀ {ds : List D} {xs : List V} (i : Nat), RVs K G ds xs → RVs K G (ds.insertIdx i d) (xs.insertIdx i x)
  | ds, _, 0, h => RVs.cons r h
  | [], _, _ + 1, h => by rw [show _ = [] from h]; rfl
  | _ :: _, _, i + 1, ⟨y, q, h1, h2, h3⟩ => by
    subst h1
    exact ⟨y, _, rfl, h2, RVs.insertIdx r i h3⟩
theorem RVs.ints : ∀ {ns : List Int} {xs : List V}, RVs K G (ns.map D.int) xs → xs = ns.map V.int
  | [], _, h => h
  | n :: ns, _, ⟨x, r, h1, h2, h3⟩ => by
    subst h1
    rw [show x = V.int n from h2, RVs.ints h3]; rfl
theorem RVs.of_ints : ∀ (ns : List Int), RVs K G (ns.map D.int) (ns.map V.int)
  | [] => rfl
  | n :: ns => ⟨_, _, rfl, rfl, RVs.of_ints ns⟩
theorem RVs.bls : ∀ {ns : List Bool} {xs : List V}, RVs K G (ns.map D.bl) xs → xs = ns.map V.bl
  | [], _, h => h
  | n :: ns, _, ⟨x, r, h1, h2, h3⟩ => by
    subst h1
    rw [show x = V.bl n from h2, RVs.bls h3]; rfl
theorem RVs.strs : ∀ {ns : List Str} {xs : List V}, RVs K G (ns.map D.str) xs → xs = ns.map V.str
  | [], _, h => h
  | n :: ns, _, ⟨x, r, h1, h2, h3⟩ => by
    subst h1
    rw [show x = V.str n from h2, RVs.strs h3]; rfl
end
/-- what may change, as it stands at an address -/
inductive AO where
  | lst (ds : List D)
  | dK (kvs : List (Key × D))
  | dT (kvs : List (List Key × D))
  | ins (C : Addr) (fs : List (Str × D))
  /-- a list of which just P is known -/
  | any (P : List D → Prop)
  /-- a dict that is walked -/
  | fz (kvs : List (Key × D))
  | fzT (kvs : List (List Key × D))
  /-- the fields of an exception that was made -/
  | xd (fs : List (Str × D))
  /-- a def's table of code objects, each of the name q -/
  | tab (q : Str)
section
variable (K : PySem.W.Frag) (G : Hp)
/-- pairs of the same keys -/
def RKs {κ : Type} : List (κ × D) → List (κ × V) → Prop
  | [], xs => xs = []
  | p :: ds, xs => ∃ x r, xs = (p.1, x) :: r ∧ RV K G p.2 x ∧ RKs ds r
def RO : AO → HO → Prop
  | .lst ds, u => ∃ xs, u = .lst xs ∧ RVs K G ds xs
  | .any P, u => ∃ ds xs, P ds ∧ u = .lst xs ∧ RVs K G ds xs
  | .dK ks, u => ∃ xs, u = .dK xs ∧ RKs K G ks xs
  | .dT ks, u => ∃ xs, u = .dT xs ∧ RKs K G ks xs
  | .ins C fs, u => ∃ dx xs, u = .ins C dx xs ∧ RKs K G fs xs
  | .fz ks, u => ∃ o xs, u = .frz o (.dK xs) ∧ RKs K G ks xs
  | .fzT ks, u => ∃ o xs, u = .frz o (.dT xs) ∧ RKs K G ks xs
  | .xd fs, u => ∃ xs, u = .xd xs ∧ RKs K G fs xs
  | .tab q, u => ∃ ps : Array Value, u = .tbl ps ∧ TriplesOk ps.toList ∧ ∀ (pos : Pos) (cv : Value), codeAmong pos ps.toList = some cv → ∃ c, cv = .ref c ∧ G c = some (LamX.CodeO c q)
end
section
variable {K : PySem.W.Frag} {G G' : Hp} {κ : Type}
theorem RKs.mono (e : Sub G G') : ∀ {ds : List (κ × D)} {xs : List (κ × V)}, RKs K G ds xs → RKs K G' ds xs
  | [], _, h => h
  | p :: ds, _, ⟨x, r, h1, h2, h3⟩ => ⟨x, r, h1, RV.mono e _ h2, RKs.mono e h3⟩
theorem RO.mono (e : Sub G G') : ∀ {o : AO} {u : HO}, RO K G o u → RO K G' o u
  | .lst ds, _, ⟨xs, h1, h2⟩ => ⟨xs, h1, RVs.mono e _ h2⟩
  | .any P, _, ⟨ds, xs, h0, h1, h2⟩ => ⟨ds, xs, h0, h1, RVs.mono e _ h2⟩
  | .dK ds, _, ⟨xs, h1, h2⟩ => ⟨xs, h1, RKs.mono e h2⟩
  | .dT ds, _, ⟨xs, h1, h2⟩ => ⟨xs, h1, RKs.mono e h2⟩
  | .ins C fs, _, ⟨dx, xs, h1, h2⟩ => ⟨dx, xs, h1, RKs.mono e h2⟩
  | .fz ds, _, ⟨o, xs, h1, h2⟩ => ⟨o, xs, h1, RKs.mono e h2⟩
  | .fzT ds, _, ⟨o, xs, h1, h2⟩ => ⟨o, xs, h1, RKs.mono e h2⟩
  | .xd ds, _, ⟨xs, h1, h2⟩ => ⟨xs, h1, RKs.mono e h2⟩
  | .tab q, _, ⟨ps, h1, h2, h3⟩ => ⟨ps, h1, h2, fun pos cv h => let ⟨c, e1, e2⟩ := h3 pos cv h; ⟨c, e1, e c _ e2⟩⟩
theorem RKs.length : ∀ {ds : List (κ × D)} {xs : List (κ × V)}, RKs K G ds xs → ds.length = xs.length
  | [], _, h => by rw [show _ = [] from h]; rfl
  | _ :: _, _, ⟨x, r, h1, h2, h3⟩ => by rw [h1, List.length_cons, List.length_cons, RKs.length h3]
theorem RKs.get : ∀ {ds : List (κ × D)} {xs : List (κ × V)} {i : Nat} {p : κ × D}, RKs K G ds xs → ds[i]? = some p → ∃ x, xs[i]? = some (p.1, x) ∧ RV K G p.2 x
  | [], _, _, _, _, e => by simp at e
  | _ :: _, _, 0, d, ⟨x, r, h1, h2, h3⟩, e => by
    have e : _ = d := Option.some.inj e
    subst e; subst h1
    exact ⟨x, rfl, h2⟩
  | _ :: _, _, i + 1, d, ⟨x, r, h1, h2, h3⟩, e => by
    subst h1
    exact RKs.get (i := i) h3 e
theorem RKs.append : ∀ {ds es : List (κ × D)} {xs ys : List (κ × V)}, RKs K G ds xs → RKs K G es ys → RKs K G (ds ++ es) (xs ++ ys)
  | [], _, _, _, h, t => by rw [show _ = [] from h]; exact t
  | _ :: _, _, _, _, ⟨x, r, h1, h2, h3⟩, t => by subst h1; exact ⟨x, _, rfl, h2, RKs.append h3 t⟩
end
/-! ### dicts and fields by keys -/
section
variable {κ : Type} [DecidableEq κ]
def valD (kvs : List (κ × D)) (k : κ) : Option D := (kvs.find? fun kv => decide (kv.1 = k)).map (·.2)
def putD (kvs : List (κ × D)) (k : κ) (v : D) : List (κ × D) :=
  if (kvs.any fun kv => decide (kv.1 = k)) = true then kvs.map (fun kv => if kv.1 = k then (kv.1, v) else kv) else kvs ++ [(k, v)]
def dropD (kvs : List (κ × D)) (k : κ) : List (κ × D) := kvs.filter fun kv => decide (kv.1 ≠ k)
end
def RVo (K : PySem.W.Frag) (G : Hp) : Option D → Option V → Prop
  | some d, some v => RV K G d v
  | none, none => True
  | _, _ => False
section
variable {K : PySem.W.Frag} {G : Hp} {κ : Type} [DecidableEq κ]
theorem RKs.val (k : κ) : ∀ {ds : List (κ × D)} {xs : List (κ × V)}, RKs K G ds xs → RVo K G (valD ds k) (valV xs k)
  | [], _, h => by rw [show _ = [] from h]; trivial
  | p :: ds, _, ⟨x, r, h1, h2, h3⟩ => by
    subst h1
    have ih := RKs.val k h3
    by_cases e : p.1 = k
    · unfold valD valV
      rw [List.find?_cons_of_pos (by simp [e]), List.find?_cons_of_pos (by simp [e])]
      exact h2
    · unfold valD valV at ih ⊢
      rw [List.find?_cons_of_neg (by simp [e]), List.find?_cons_of_neg (by simp [e])]
      exact ih
theorem RVo.some {d : D} {o : Option V} (h : RVo K G (some d) o) : ∃ v, o = some v ∧ RV K G d v := by
  cases o with
  | none => exact h.elim
  | some v => exact ⟨v, rfl, h⟩
theorem RVo.none {o : Option V} (h : RVo K G none o) : o = none := by
  cases o with
  | none => rfl
  | some v => exact h.elim
theorem RVo.isSome {o : Option V} {d : Option D} (h : RVo K G d o) : d.isSome = o.isSome := by
  cases o <;> cases d <;> first | rfl | exact h.elim
theorem RVo.getD {o : Option V} {d : Option D} {x : V} {y : D} (h : RVo K G d o) (r : RV K G y x) : RV K G (d.getD y) (o.getD x) := by
  cases o <;> cases d <;> first | exact r | exact h | exact h.elim
theorem RKs.any (f : κ → Bool) : ∀ {ds : List (κ × D)} {xs : List (κ × V)}, RKs K G ds xs → (ds.any fun kv => f kv.1) = (xs.any fun kv => f kv.1)
  | [], _, h => by rw [show _ = [] from h]; rfl
  | p :: ds, _, ⟨x, r, h1, h2, h3⟩ => by
    subst h1
    rw [List.any_cons, List.any_cons, RKs.any f h3]
theorem RKs.rep (k : κ) {d : D} {v : V} (r : RV K G d v) : ∀ {ds : List (κ × D)} {xs : List (κ × V)}, RKs K G ds xs → RKs K G (ds.map fun kv => if kv.1 = k then (kv.1, d) else kv) (xs.map fun kv => if kv.1 = k then (kv.1, v) else kv)
  | [], _, h => by rw [show _ = [] from h]; rfl
  | p :: ds, _, ⟨x, q, h1, h2, h3⟩ => by
    subst h1
    have ih := RKs.rep k r h3
    rw [List.map_cons, List.map_cons]
    by_cases e : p.1 = k
    · rw [if_pos e, if_pos e]; exact ⟨v, _, rfl, r, ih⟩
    · rw [if_neg e, if_neg e]; exact ⟨x, _, rfl, h2, ih⟩
theorem RKs.put (k : κ) {d : D} {v : V} (r : RV K G d v) {ds : List (κ × D)} {xs : List (κ × V)} (h : RKs K G ds xs) : RKs K G (putD ds k d) (putK xs k v) := by
  unfold putD putK
  rw [RKs.any (fun z => decide (z = k)) h]
  split
  · exact RKs.rep k r h
  · exact RKs.append h ⟨v, [], rfl, r, rfl⟩
theorem RKs.drop (k : κ) : ∀ {ds : List (κ × D)} {xs : List (κ × V)}, RKs K G ds xs → RKs K G (dropD ds k) (dropK xs k)
  | [], _, h => by rw [show _ = [] from h]; rfl
  | p :: ds, _, ⟨x, q, h1, h2, h3⟩ => by
    subst h1
    have ih := RKs.drop k h3
    unfold dropD dropK at ih ⊢
    by_cases e : p.1 = k
    · rw [List.filter_cons_of_neg (by simp [e]), List.filter_cons_of_neg (by simp [e])]; exact ih
    · rw [List.filter_cons_of_pos (by simp [e]), List.filter_cons_of_pos (by simp [e])]
      exact ⟨x, _, rfl, h2, ih⟩
end
/-- fields -/
def putFD (f : Str) (v : D) : List (Str × D) → List (Str × D)
  | [] => [(f, v)]
  | (g, x) :: r => if g = f then (g, v) :: r else (g, x) :: putFD f v r
theorem RKs.putF {K : PySem.W.Frag} {G : Hp} {f : Str} {d : D} {v : V} (r : RV K G d v) : ∀ {ds : List (Str × D)} {xs : List (Str × V)}, RKs K G ds xs → RKs K G (putFD f d ds) (putF f v xs)
  | [], _, h => by rw [show _ = [] from h]; exact ⟨v, [], rfl, r, rfl⟩
  | p :: ds, _, ⟨x, q, h1, h2, h3⟩ => by
    subst h1
    have ih := RKs.putF r h3 (f := f)
    obtain ⟨g, y⟩ := p
    unfold putFD L2.putF
    by_cases e : g = f
    · rw [if_pos e, if_pos e]; exact ⟨v, _, rfl, r, h3⟩
    · rw [if_neg e, if_neg e]; exact ⟨x, _, rfl, h2, ih⟩
theorem RKs.lookup {K : PySem.W.Frag} {G : Hp} (f : Str) : ∀ {ds : List (Str × D)} {xs : List (Str × V)}, RKs K G ds xs → RVo K G (ds.lookup f) (xs.lookup f)
  | [], _, h => by rw [show _ = [] from h]; trivial
  | p :: ds, _, ⟨x, q, h1, h2, h3⟩ => by
    subst h1
    have ih := RKs.lookup f h3
    obtain ⟨g, y⟩ := p
    rw [List.lookup_cons, List.lookup_cons]
    show RVo K G (match f == g with | true => some y | false => List.lookup f ds) (match f == g with | true => some x | false => List.lookup f q)
    cases f == g with
    | true => exact h2
    | false => exact ih
/-! ### the state -/
abbrev Mem := Addr → Option AO
abbrev DSt := List (Option D)
def mset (m : Mem) (a : Addr) (o : AO) : Mem := fun b => if b = a then some o else m b
def mdel (m : Mem) (a : Addr) : Mem := fun b => if b = a then none else m b
theorem mset_same {m : Mem} {a : Addr} {o : AO} : mset m a o a = some o := if_pos rfl
theorem mset_ne {m : Mem} {a b : Addr} {o : AO} (h : b ≠ a) : mset m a o b = m b := if_neg h
theorem mset_mset {m : Mem} {a : Addr} {o u : AO} : mset (mset m a o) a u = mset m a u := by
  funext b; unfold mset; split <;> rfl
theorem mset_id {m : Mem} {a : Addr} {o : AO} (h : m a = some o) : mset m a o = m := by
  funext b; unfold mset; split
  · rename_i e; rw [e, h]
  · rfl
theorem mset_comm {m : Mem} {a b : Addr} {o u : AO} (h : a ≠ b) : mset (mset m a o) b u = mset (mset m b u) a o := by
  funext c; unfold mset; split
  · rename_i e; subst e; rw [if_neg (Ne.symm h)]
  · rfl
theorem mdel_same {m : Mem} {a : Addr} : mdel m a a = none := if_pos rfl
theorem mdel_ne {m : Mem} {a b : Addr} (h : b ≠ a) : mdel m a b = m b := if_neg h
theorem mdel_mset {m : Mem} {a : Addr} {o : AO} (h : m a = none) : mdel (mset m a o) a = m := by
  funext b; unfold mdel mset; split
  · rename_i e; rw [e, h]
  · rfl
theorem mne {m : Mem} {a b : Addr} {o : AO} (h : m a = some o) (h' : m b = none) : a ≠ b := by
  intro e; subst e; rw [h] at h'; cases h'
/-- what is walked stands among the facts; what may change does not -/
def GC (o : AO) (g h : Option HO) : Prop := match o with
  | .fz _ => g = h
  | .fzT _ => g = h
  | _ => g = none
def NF (o : AO) : Prop := match o with
  | .fz _ => False
  | .fzT _ => False
  | _ => True
theorem GC.none_ {o : AO} {g h : Option HO} (n : NF o) (c : GC o g h) : g = none := by cases o <;> first | exact c | exact n.elim
theorem NF.gc {o : AO} {h : Option HO} (n : NF o) : GC o none h := by cases o <;> first | exact rfl | exact n.elim
structure RelM (K : PySem.W.Frag) (m : Mem) (G H : Hp) : Prop where
  sub : Sub G H
  mem : ∀ a o, m a = some o → GC o (G a) (H a) ∧ ∃ u, H a = some u ∧ RO K G o u
structure RelS (K : PySem.W.Frag) (s : DSt) (G : Hp) (σ : St) : Prop where
  len : s.length = σ.length
  loc : ∀ (i : Nat) (d : D), s[i]? = some (some d) → ∃ v, σ[i]? = some (some v) ∧ RV K G d v
section
variable {K : PySem.W.Frag} {s : DSt} {m m' : Mem} {G G' H H' : Hp} {σ : St} {a p : Addr} {o : AO} {u : HO} {d : D} {v : V}
theorem RelS.mono (r : RelS K s G σ) (e : Sub G G') : RelS K s G' σ := ⟨r.len, fun i d h => let ⟨v, h1, h2⟩ := r.loc i d h; ⟨v, h1, RV.mono e d h2⟩⟩
theorem RelS.set (r : RelS K s G σ) (i : Nat) (h : RV K G d v) : RelS K (s.set i (some d)) G (σ.set i (some v)) := by
  refine ⟨by rw [List.length_set, List.length_set]; exact r.len, fun j e hj => ?_⟩
  rw [List.getElem?_set] at hj
  rw [List.getElem?_set]
  split at hj
  · rename_i e1
    subst e1
    split at hj
    · rename_i h2
      have hj : d = e := Option.some.inj (Option.some.inj hj)
      subst hj
      rw [if_pos rfl, if_pos (by rw [← r.len]; exact h2)]
      exact ⟨v, rfl, h⟩
    · cases hj
  · rename_i e1
    rw [if_neg e1]
    exact r.loc j e hj
theorem RelS.wipe (r : RelS K s G σ) (vs : List Nat) : ∀ {s' : DSt}, s'.length = s.length → (∀ i d, s'[i]? = some (some d) → s[i]? = some (some d) ∧ i ∉ vs) → RelS K s' G (L2.wipe σ vs) := fun hl h => by
  refine ⟨by rw [wipe_length, hl]; exact r.len, fun i d hi => ?_⟩
  obtain ⟨h1, h2⟩ := h i d hi
  obtain ⟨v, h3, h4⟩ := r.loc i d h1
  exact ⟨v, by rw [wipe_out h2]; exact h3, h4⟩
/-- a thing that may change is laid -/
theorem RelM.new (r : RelM K m G H) (hp : H p = none) (h : RO K G o u) (n : NF o := by exact trivial) : RelM K (mset m p o) G (upd H p u) := by
  have gp : G p = none := by
    cases e : G p with
    | none => rfl
    | some w => have := r.sub p w e; rw [hp] at this; cases this
  refine ⟨fun a w e => by rw [upd_ne (ne_of_none e gp)]; exact r.sub a w e, fun a w e => ?_⟩
  by_cases ha : a = p
  · subst ha
    rw [mset_same] at e; cases e
    rw [gp]
    exact ⟨n.gc, u, upd_same, h⟩
  · rw [mset_ne ha] at e
    obtain ⟨h1, w', h2, h3⟩ := r.mem a w e
    exact ⟨by rw [upd_ne ha]; exact h1, w', by rw [upd_ne ha]; exact h2, h3⟩
/-- a fact that never ceases is laid -/
theorem RelM.lay (r : RelM K m G H) (hp : H p = none) : RelM K m (upd G p u) (upd H p u) ∧ Sub G (upd G p u) := by
  have gp : G p = none := by
    cases e : G p with
    | none => rfl
    | some w => have := r.sub p w e; rw [hp] at this; cases this
  have s1 : Sub G (upd G p u) := Sub.new gp
  refine ⟨⟨fun a w e => ?_, fun a w e => ?_⟩, s1⟩
  · by_cases ha : a = p
    · subst ha; rw [upd_same] at e ⊢; exact e
    · rw [upd_ne ha] at e ⊢; exact r.sub a w e
  · obtain ⟨h1, w', h2, h3⟩ := r.mem a w e
    have ha : a ≠ p := ne_of_none h2 hp
    exact ⟨by rw [upd_ne ha, upd_ne ha]; exact h1, w', by rw [upd_ne ha]; exact h2, h3.mono s1⟩
/-- what may change is changed -/
theorem RelM.put (r : RelM K m G H) {o' : AO} (hm : m a = some o') (h : RO K G o u) (n : NF o := by exact trivial) (n' : NF o' := by exact trivial) : RelM K (mset m a o) G (upd H a u) := by
  obtain ⟨g, _⟩ := r.mem a o' hm
  have g := g.none_ n'
  refine ⟨fun b w e => by rw [upd_ne (fun z => by subst z; rw [g] at e; cases e)]; exact r.sub b w e, fun b w e => ?_⟩
  by_cases hb : b = a
  · subst hb
    rw [mset_same] at e; cases e
    rw [g]
    exact ⟨n.gc, u, upd_same, h⟩
  · rw [mset_ne hb] at e
    obtain ⟨h1, w', h2, h3⟩ := r.mem b w e
    exact ⟨by rw [upd_ne hb]; exact h1, w', by rw [upd_ne hb]; exact h2, h3⟩
theorem RelM.free (r : RelM K m G H) (hp : H p = none) : m p = none := by
  cases e : m p with
  | none => rfl
  | some o => obtain ⟨_, u, h, _⟩ := r.mem p o e; rw [hp] at h; cases h
theorem RelM.gfree (r : RelM K m G H) (hp : H p = none) : G p = none := by
  cases e : G p with
  | none => rfl
  | some w => have := r.sub p w e; rw [hp] at this; cases this
/-- less is known -/
theorem RelM.less (r : RelM K m G H) (h : ∀ a o, m' a = some o → m a = some o) : RelM K m' G H := ⟨r.sub, fun a o e => r.mem a o (h a o e)⟩
/-- an untracked change of the heap at new places (a dict of an instance) -/
theorem RelM.frame (r : RelM K m G H) (h : ∀ a o, H a = some o → H' a = some o) : RelM K m G H' :=
  ⟨fun a o e => h a o (r.sub a o e), fun a o e => let ⟨h1, u, h2, h3⟩ := r.mem a o e; ⟨by rw [h2] at h1; rw [h a u h2]; exact h1, u, h a u h2, h3⟩⟩
/-- a list that is never changed any more -/
theorem RelM.freeze {ds : List D} (r : RelM K m G H) (hm : m a = some (.lst ds)) : ∃ G', Sub G G' ∧ RelM K (mdel m a) G' H ∧ RV K G' (.lst ds) (.ref a) := by
  obtain ⟨g, u, hu, xs, rfl, h⟩ := r.mem a _ hm
  have s1 : Sub G (upd G a (.lst xs)) := Sub.new g
  refine ⟨upd G a (.lst xs), s1, ⟨fun b w e => ?_, fun b w e => ?_⟩, a, xs, rfl, .inl (.inl upd_same), RVs.mono s1 _ h⟩
  · by_cases hb : b = a
    · subst hb; rw [upd_same] at e; rw [hu]; exact e
    · rw [upd_ne hb] at e; exact r.sub b w e
  · by_cases hb : b = a
    · subst hb; rw [mdel_same] at e; cases e
    · rw [mdel_ne hb] at e
      obtain ⟨h1, w', h2, h3⟩ := r.mem b w e
      exact ⟨by rw [upd_ne hb]; exact h1, w', h2, h3.mono s1⟩
end
def unl (G : Hp) (a : Addr) : Hp := fun b => if b = a then none else G b
theorem unl_ne {G : Hp} {a b : Addr} (h : b ≠ a) : unl G a b = G b := if_neg h
theorem unl_same {G : Hp} {a : Addr} : unl G a a = none := if_pos rfl
-- what is walked: no fact about tuples and lists hangs on it
mutual
theorem RV.unfz {K : PySem.W.Frag} {G : Hp} {a : Addr} {od : Obj} {w : HO} (h : G a = some (.frz od w)) (hw : ∀ xs, w ≠ .tup xs ∧ w ≠ .lst xs) : ∀ (d : D) {v : V}, RV K G d v → RV K (unl G a) d v
  | .non, _, h => h
  | .bl _, _, h => h
  | .int _, _, h => h
  | .str _, _, h => h
  | .ref _, _, h => h
  | .tup ds, _, ⟨b, xs, h1, h2, h3⟩ => ⟨b, xs, h1, by
      rcases h2 with (h2 | ⟨o, h2⟩) | h2
      · exact .inl (.inl (by rw [unl_ne (fun z => by subst z; rw [h] at h2; cases h2)]; exact h2))
      · exact .inl (.inr ⟨o, by rw [unl_ne (fun z => by subst z; rw [h] at h2; cases h2; exact (hw xs).1 rfl)]; exact h2⟩)
      · exact .inr h2, RVs.unfz h hw ds h3⟩
  | .lst ds, _, ⟨b, xs, h1, h2, h3⟩ => ⟨b, xs, h1, by
      rcases h2 with (h2 | ⟨o, h2⟩) | h2
      · exact .inl (.inl (by rw [unl_ne (fun z => by subst z; rw [h] at h2; cases h2)]; exact h2))
      · exact .inl (.inr ⟨o, by rw [unl_ne (fun z => by subst z; rw [h] at h2; cases h2; exact (hw xs).2 rfl)]; exact h2⟩)
      · exact .inr h2, RVs.unfz h hw ds h3⟩
theorem RVs.unfz {K : PySem.W.Frag} {G : Hp} {a : Addr} {od : Obj} {w : HO} (h : G a = some (.frz od w)) (hw : ∀ xs, w ≠ .tup xs ∧ w ≠ .lst xs) : ∀ (ds : List D) {vs : List V}, RVs K G ds vs → RVs K (unl G a) ds vs
  | [], _, h => h
  | d :: ds, _, ⟨x, r, h1, h2, h3⟩ => ⟨x, r, h1, RV.unfz h hw d h2, RVs.unfz h hw ds h3⟩
end
theorem RKs.unfz {K : PySem.W.Frag} {G : Hp} {a : Addr} {od : Obj} {w : HO} {κ : Type} (h : G a = some (.frz od w)) (hw : ∀ xs, w ≠ .tup xs ∧ w ≠ .lst xs) : ∀ {ds : List (κ × D)} {vs : List (κ × V)}, RKs K G ds vs → RKs K (unl G a) ds vs
  | [], _, h => h
  | p :: ds, _, ⟨x, r, h1, h2, h3⟩ => ⟨x, r, h1, RV.unfz h hw _ h2, RKs.unfz h hw h3⟩
theorem RO.unfz {K : PySem.W.Frag} {G : Hp} {a : Addr} {od : Obj} {w : HO} (h : G a = some (.frz od w)) (hw : ∀ xs, w ≠ .tup xs ∧ w ≠ .lst xs) : ∀ {o : AO} {u : HO}, RO K G o u → RO K (unl G a) o u
  | .lst ds, _, ⟨xs, h1, h2⟩ => ⟨xs, h1, RVs.unfz h hw _ h2⟩
  | .any P, _, ⟨ds, xs, h0, h1, h2⟩ => ⟨ds, xs, h0, h1, RVs.unfz h hw _ h2⟩
  | .dK ds, _, ⟨xs, h1, h2⟩ => ⟨xs, h1, RKs.unfz h hw h2⟩
  | .dT ds, _, ⟨xs, h1, h2⟩ => ⟨xs, h1, RKs.unfz h hw h2⟩
  | .ins C fs, _, ⟨dx, xs, h1, h2⟩ => ⟨dx, xs, h1, RKs.unfz h hw h2⟩
  | .fz ds, _, ⟨o, xs, h1, h2⟩ => ⟨o, xs, h1, RKs.unfz h hw h2⟩
  | .fzT ds, _, ⟨o, xs, h1, h2⟩ => ⟨o, xs, h1, RKs.unfz h hw h2⟩
  | .xd ds, _, ⟨xs, h1, h2⟩ => ⟨xs, h1, RKs.unfz h hw h2⟩
  | .tab q, _, ⟨ps, h1, h2, h3⟩ => ⟨ps, h1, h2, fun pos cv z => let ⟨c, e1, e2⟩ := h3 pos cv z; ⟨c, e1, by rw [unl_ne (fun z => by subst z; rw [h] at e2; unfold LamX.CodeO at e2; cases e2)]; exact e2⟩⟩
/-- a dict is locked for a walk -/
theorem RelM.lock {K : PySem.W.Frag} {m : Mem} {G H : Hp} {a : Addr} {ks : List (Key × D)} {xs : List (Key × V)} (r : RelM K m G H) (hm : m a = some (.dK ks)) (hH : H a = some (.dK xs)) (od : Obj) :
    RelM K (mset m a (.fz ks)) (upd G a (.frz od (.dK xs))) (upd H a (.frz od (.dK xs))) ∧ Sub G (upd G a (.frz od (.dK xs))) := by
  obtain ⟨g, u, hu, ys, rfl, hr⟩ := r.mem a _ hm
  rw [hH] at hu; cases hu
  have s1 : Sub G (upd G a (.frz od (.dK xs))) := Sub.new g
  refine ⟨⟨fun b w e => ?_, fun b w e => ?_⟩, s1⟩
  · by_cases hb : b = a
    · subst hb; rw [upd_same] at e ⊢; exact e
    · rw [upd_ne hb] at e ⊢; exact r.sub b w e
  · by_cases hb : b = a
    · subst hb
      rw [mset_same] at e; cases e
      exact ⟨by rw [upd_same, upd_same]; rfl, _, upd_same, od, xs, rfl, RKs.mono s1 hr⟩
    · rw [mset_ne hb] at e
      obtain ⟨h1, w', h2, h3⟩ := r.mem b w e
      exact ⟨by rw [upd_ne hb, upd_ne hb]; exact h1, w', by rw [upd_ne hb]; exact h2, h3.mono s1⟩
/-- .. and unlocked behind it -/
theorem RelM.unlock {K : PySem.W.Frag} {m : Mem} {G0 G H : Hp} {a : Addr} {ks : List (Key × D)} {xs : List (Key × V)} {od : Obj} (r : RelM K m G H) (g0 : G0 a = none) (hs : Sub (upd G0 a (.frz od (.dK xs))) G) (hk : RKs K G0 ks xs) :
    H a = some (.frz od (.dK xs)) ∧ Sub G0 (unl G a) ∧ RelM K (mset m a (.dK ks)) (unl G a) (upd H a (.dK xs)) := by
  have ga : G a = some (.frz od (.dK xs)) := hs a _ upd_same
  have s0 : Sub G0 (unl G a) := fun b w e => by
    have hb : b ≠ a := fun z => by subst z; rw [g0] at e; cases e
    rw [unl_ne hb]
    exact hs b w (by rw [upd_ne hb]; exact e)
  have hw : ∀ ys, (HO.dK xs) ≠ .tup ys ∧ (HO.dK xs) ≠ .lst ys := fun ys => ⟨(fun z => by cases z), fun z => by cases z⟩
  refine ⟨r.sub a _ ga, s0, ⟨fun b w e => ?_, fun b w e => ?_⟩⟩
  · by_cases hb : b = a
    · rw [hb, unl_same] at e; cases e
    · rw [unl_ne hb] at e; rw [upd_ne hb]; exact r.sub b w e
  · by_cases hb : b = a
    · subst hb
      rw [mset_same] at e; cases e
      exact ⟨unl_same, _, upd_same, xs, rfl, RKs.mono s0 hk⟩
    · rw [mset_ne hb] at e
      obtain ⟨h1, w', h2, h3⟩ := r.mem b w e
      refine ⟨?_, w', by rw [upd_ne hb]; exact h2, RO.unfz ga hw h3⟩
      rw [unl_ne hb, upd_ne hb]
      exact h1
/-- m' tells less than m -/
def ALe : AO → AO → Prop
  | .lst ds, .any P => P ds
  | .any P, .any P' => ∀ ds, P ds → P' ds
  | o, o' => o = o'
def MLe (m m' : Mem) : Prop := ∀ a o', m' a = some o' → ∃ o, m a = some o ∧ (o = o' ∨ (∃ ds P, o = .lst ds ∧ o' = .any P ∧ P ds) ∨ ∃ P P', o = .any P ∧ o' = .any P' ∧ ∀ ds, P ds → P' ds)
theorem MLe.refl (m : Mem) : MLe m m := fun _ o h => ⟨o, h, .inl rfl⟩
theorem RelM.le {K : PySem.W.Frag} {m m' : Mem} {G H : Hp} (r : RelM K m G H) (h : MLe m m') : RelM K m' G H := ⟨r.sub, fun a o e => by
  obtain ⟨o', h1, h2⟩ := h a o e
  obtain ⟨g, u, hu, ho⟩ := r.mem a o' h1
  rcases h2 with rfl | ⟨ds, P, rfl, rfl, p⟩ | ⟨P, P', rfl, rfl, p⟩
  · exact ⟨g, u, hu, ho⟩
  · obtain ⟨xs, e1, e2⟩ := ho; exact ⟨g, u, hu, ds, xs, p, e1, e2⟩
  · obtain ⟨ds, xs, p0, e1, e2⟩ := ho; exact ⟨g, u, hu, ds, xs, p ds p0, e1, e2⟩⟩
theorem MLe.close {m : Mem} {a : Addr} {ds : List D} {P : List D → Prop} (hm : m a = some (.any P)) (p : P ds) : MLe (mset m a (.lst ds)) m := fun b o h => by
  by_cases hb : b = a
  · subst hb
    rw [hm] at h; cases h
    exact ⟨_, mset_same, .inr (.inl ⟨ds, P, rfl, rfl, p⟩)⟩
  · exact ⟨o, by rw [mset_ne hb]; exact h, .inl rfl⟩
theorem MLe.drop {m : Mem} {a : Addr} {o : AO} (hm : m a = none) : MLe (mset m a o) m := fun b u h => ⟨u, by rw [mset_ne (mne h hm)]; exact h, .inl rfl⟩
theorem MLe.trans {m m1 m2 : Mem} (h : MLe m m1) (h' : MLe m1 m2) : MLe m m2 := fun a o e => by
  obtain ⟨o1, e1, r1⟩ := h' a o e
  obtain ⟨o2, e2, r2⟩ := h a o1 e1
  refine ⟨o2, e2, ?_⟩
  rcases r1 with rfl | ⟨ds, P, rfl, rfl, p⟩ | ⟨P, P', rfl, rfl, p⟩
  · exact r2
  · rcases r2 with rfl | ⟨ds', P', h1, h2, p'⟩ | ⟨P', P'', h1, h2, p'⟩
    · exact .inr (.inl ⟨ds, P, rfl, rfl, p⟩)
    · cases h2
    · cases h2
  · rcases r2 with rfl | ⟨ds', P'', rfl, h2, p'⟩ | ⟨P1, P2, rfl, h2, p'⟩
    · exact .inr (.inr ⟨P, P', rfl, rfl, p⟩)
    · cases h2; exact .inr (.inl ⟨ds', P', rfl, rfl, p ds' p'⟩)
    · cases h2; exact .inr (.inr ⟨P1, P', rfl, rfl, fun ds z => p ds (p' ds z)⟩)
end L3
namespace L3
open PySem L2
/-! ### readings over data -/
abbrev DK := D → Mem → Prop
abbrev QE := DSt → Mem → DK → Prop
abbrev QT := DSt → Mem → (Bool → Mem → Prop) → Prop
abbrev QA := DSt → Mem → (List D → Mem → Prop) → Prop
/-- what is wanted of an exception: its class, its own fields -/
abbrev DX := Value → List (Str × D) → Mem → Prop
structure DE where
  nx : DSt → Mem → Prop
  rt : DK
  bk : DSt → Mem → Prop
  ct : DSt → Mem → Prop
abbrev QS := DE → DSt → Mem → Prop
abbrev LSp := List D → Mem → DK → Prop
abbrev LSpX := List D → Mem → DK → DX → Prop
section
variable (K : PySem.W.Frag)
def KQ (G : Hp) (Φ : DK) (Q : VK) : Prop := ∀ G' d m' v H', Sub G G' → RelM K m' G' H' → RV K G' d v → Φ d m' → Q v H'
def KB (G : Hp) (Φ : Bool → Mem → Prop) (Q : Bool → Hp → Prop) : Prop := ∀ G' b m' H', Sub G G' → RelM K m' G' H' → Φ b m' → Q b H'
def KA (G : Hp) (Φ : List D → Mem → Prop) (Q : List V → Hp → Prop) : Prop := ∀ G' ds m' vs H', Sub G G' → RelM K m' G' H' → RVs K G' ds vs → Φ ds m' → Q vs H'
def KS (G : Hp) (Φ : DSt → Mem → Prop) (Q : St → Hp → Prop) : Prop := ∀ G' s' m' σ' H', Sub G G' → RelM K m' G' H' → RelS K s' G' σ' → Φ s' m' → Q σ' H'
def KX (G : Hp) (Ψ : DX) (E : XK) : Prop := ∀ G' cls fs m' od H', Sub G G' → RelM K m' G' H' → ((od = none ∧ fs = []) ∨ ∃ d xs, od = some d ∧ H' d = some (.xd xs) ∧ RKs K G' fs xs) → Ψ cls fs m' → E cls od H'
def liftE (q : QE) : TE := fun σ H Q => ∃ G s m Φ, RelM K m G H ∧ RelS K s G σ ∧ q s m Φ ∧ KQ K G Φ Q
def liftT (q : QT) : TT := fun σ H Q => ∃ G s m Φ, RelM K m G H ∧ RelS K s G σ ∧ q s m Φ ∧ KB K G Φ Q
def liftA (q : QA) : TA := fun σ H Q => ∃ G s m Φ, RelM K m G H ∧ RelS K s G σ ∧ q s m Φ ∧ KA K G Φ Q
def liftS (q : QS) : TS := fun D σ H => ∃ (G : Hp) (s : DSt) (m : Mem) (E : DE), RelM K m G H ∧ RelS K s G σ ∧ q E s m ∧ KS K G E.nx D.nx ∧ KQ K G E.rt D.rt ∧ KS K G E.bk D.bk ∧ KS K G E.ct D.ct
def liftSp (sp : LSp) : Sp := fun vs H Q _ => ∃ G m ds Φ, RelM K m G H ∧ RVs K G ds vs ∧ sp ds m Φ ∧ KQ K G Φ Q
def liftSpX (sp : LSpX) : Sp := fun vs H Q E => ∃ G m ds Φ Ψ, RelM K m G H ∧ RVs K G ds vs ∧ sp ds m Φ Ψ ∧ KQ K G Φ Q ∧ KX K G Ψ E
def liftR (q : D → D → Mem → DK → Prop) : R2 := fun x y H Q => ∃ G m dx dy Φ, RelM K m G H ∧ RV K G dx x ∧ RV K G dy y ∧ q dx dy m Φ ∧ KQ K G Φ Q
def liftU (q : D → Mem → DK → Prop) : V → Hp → VK → Prop := fun x H Q => ∃ G m dx Φ, RelM K m G H ∧ RV K G dx x ∧ q dx m Φ ∧ KQ K G Φ Q
def liftTr (q : D → Mem → (Bool → Mem → Prop) → Prop) : V → Hp → (Bool → Hp → Prop) → Prop := fun x H Q => ∃ G m dx Φ, RelM K m G H ∧ RV K G dx x ∧ q dx m Φ ∧ KB K G Φ Q
def liftC (q : LSp) : List V → Hp → VK → Prop := fun vs H Q => ∃ G m ds Φ, RelM K m G H ∧ RVs K G ds vs ∧ q ds m Φ ∧ KQ K G Φ Q
def liftMt (q : D → LSp) : V → List V → Hp → VK → Prop := fun x vs H Q => ∃ G m dx ds Φ, RelM K m G H ∧ RV K G dx x ∧ RVs K G ds vs ∧ q dx ds m Φ ∧ KQ K G Φ Q
end
section
variable {K : PySem.W.Frag} {G G' : Hp}
theorem KQ.mono {Φ : DK} {Q : VK} (k : KQ K G Φ Q) (e : Sub G G') : KQ K G' Φ Q := fun G2 d m v H e2 => k G2 d m v H (e.trans e2)
theorem KB.mono {Φ : Bool → Mem → Prop} {Q : Bool → Hp → Prop} (k : KB K G Φ Q) (e : Sub G G') : KB K G' Φ Q := fun G2 d m H e2 => k G2 d m H (e.trans e2)
theorem KA.mono {Φ : List D → Mem → Prop} {Q : List V → Hp → Prop} (k : KA K G Φ Q) (e : Sub G G') : KA K G' Φ Q := fun G2 d m v H e2 => k G2 d m v H (e.trans e2)
theorem KS.mono {Φ : DSt → Mem → Prop} {Q : St → Hp → Prop} (k : KS K G Φ Q) (e : Sub G G') : KS K G' Φ Q := fun G2 d m v H e2 => k G2 d m v H (e.trans e2)
theorem KX.mono {Ψ : DX} {E : XK} (k : KX K G Ψ E) (e : Sub G G') : KX K G' Ψ E := fun G2 c f m o H e2 => k G2 c f m o H (e.trans e2)
end
/-! ### consequence -/
section
variable {X : Cx}
theorem pe_imp {e : Expr} {t t' : TE} (h : PE X e t) (i : ∀ σ H Q, t' σ H Q → t σ H Q) : PE X e t' := ⟨fun pins s σ H Q I w => h.run pins s σ H Q I (i σ H Q w)⟩
theorem pt_imp {e : Expr} {t t' : TT} (h : PT X e t) (i : ∀ σ H Q, t' σ H Q → t σ H Q) : PT X e t' := ⟨fun pins s σ H Q I w => h.run pins s σ H Q I (i σ H Q w)⟩
theorem pw_imp {e : Expr} {t t' : TT} (h : PW X e t) (i : ∀ σ H Q, t' σ H Q → t σ H Q) : PW X e t' := ⟨fun wh pins s σ H Q I w => h.run wh pins s σ H Q I (i σ H Q w)⟩
theorem pa_imp {e : List Expr} {t t' : TA} (h : PA X e t) (i : ∀ σ H Q, t' σ H Q → t σ H Q) : PA X e t' := ⟨fun pos pins s σ H Q I w => h.run pos pins s σ H Q I (i σ H Q w)⟩
theorem ps_imp {e : Stmt} {t t' : TS} (h : PS X e t) (i : ∀ D σ H, t' D σ H → t D σ H) : PS X e t' := ⟨fun pins s σ H D I w => h.run pins s σ H D I (i D σ H w)⟩
theorem pss_imp {e : List Stmt} {t t' : TS} (h : PSs X e t) (i : ∀ D σ H, t' D σ H → t D σ H) : PSs X e t' := ⟨fun pins s σ H D I w => h.run pins s σ H D I (i D σ H w)⟩
theorem op_imp {f : Value → Value → Sem Value} {r r' : R2} (h : OpR X f r) (i : ∀ x y H Q, r' x y H Q → r x y H Q) : OpR X f r' := fun pins s σ H x y v u Q I rx ry w => h pins s σ H x y v u Q I rx ry (i x y H Q w)
theorem call_imp {f : Value} {r r' : List V → Hp → VK → Prop} (h : CallR X f r) (i : ∀ x H Q, r' x H Q → r x H Q) : CallR X f r' := fun pins s σ H x u Q I rx w => h pins s σ H x u Q I rx (i x H Q w)
theorem ix_imp {r r' : R2} (h : IxR X r) (i : ∀ x y H Q, r' x y H Q → r x y H Q) : IxR X r' := fun value slice pins s σ H x y v u Q I rx ry w => h value slice pins s σ H x y v u Q I rx ry (i x y H Q w)
theorem mt_imp {id : String} {r r' : V → List V → Hp → VK → Prop} (h : MtR X id r) (i : ∀ x xs H Q, r' x xs H Q → r x xs H Q) : MtR X id r' := fun pins s σ H x xs v us Q I rx ry w => h pins s σ H x xs v us Q I rx ry (i x xs H Q w)
theorem pe_or2 {e : Expr} {t t' : TE} (h : PE X e t) (h' : PE X e t') : PE X e (fun σ H Q => t σ H Q ∨ t' σ H Q) := ⟨fun pins s σ H Q I w => w.elim (h.run pins s σ H Q I) (h'.run pins s σ H Q I)⟩
end
/-! ### names and constants -/
def look : DSt → Nat → Option D
  | [], _ => none
  | x :: _, 0 => x
  | _ :: r, n + 1 => look r n
theorem look_get : ∀ {s : DSt} {i : Nat} {d : D}, look s i = some d → s[i]? = some (some d)
  | [], _, _, h => by cases h
  | x :: _, 0, d, h => by rw [show x = some d from h]; rfl
  | _ :: r, n + 1, d, h => by
    have := look_get (s := r) (i := n) h
    simpa using this
def qVar (i : Nat) : QE := fun s m Φ => match look s i with | some d => Φ d m | none => False
def qC (d : D) : QE := fun _ m Φ => Φ d m
section
variable {X : Cx}
theorem de_var {e : Expr} {i : Nat} (h : PE X e (tVar i)) : PE X e (liftE X.K (qVar i)) := pe_imp h fun σ H Q ⟨G, s, m, Φ, r, rs, q, k⟩ => by
  unfold qVar at q
  cases e : look s i with
  | none => rw [e] at q; exact q.elim
  | some d =>
    rw [e] at q
    obtain ⟨v, h1, h2⟩ := rs.loc i d (look_get e)
    exact ⟨v, h1, k G d m v H (Sub.refl G) r h2 q⟩
/-- the name that stands in the i-th slot -/
theorem dv (i : Nat) {x : Str} {pos : Pos} (hN : X.N[i]? = some x := by rfl) (hv : Vis X.env.scope x := by first | exact Or.inl rfl | exact Or.inr (Or.inl rfl) | exact Or.inr (Or.inr rfl)) (hd : (x == ("__debug__" : Str)) = false := by decide)
    (hcd : (x == ("__classdict__" : Str)) = false := by decide) : PE X (.Name x pos) (liftE X.K (qVar i)) := de_var (pe_var hN hv hd hcd)
theorem de_c {e : Expr} {v : V} (d : D) (h : PE X e (tC v)) (r : ∀ G, RV X.K G d v) : PE X e (liftE X.K (qC d)) := pe_imp h fun σ H Q ⟨G, s, m, Φ, rm, rs, q, k⟩ => k G d m v H (Sub.refl G) rm (r G) q
theorem de_int {i j pos} : PE X (.Constant (.int i) j pos) (liftE X.K (qC (.int i))) := de_c _ pe_int fun _ => rfl
theorem de_bl {i j pos} : PE X (.Constant (.bool i) j pos) (liftE X.K (qC (.bl i))) := de_c _ pe_bl fun _ => rfl
theorem de_non {j pos} : PE X (.Constant .none j pos) (liftE X.K (qC .non)) := de_c _ pe_non fun _ => rfl
theorem de_str {i j pos} : PE X (.Constant (.str i) j pos) (liftE X.K (qC (.str i))) := de_c _ pe_str fun _ => rfl
end
/-! ### two-place operations -/
def qOp (r : D → D → Mem → DK → Prop) (qa qb : QE) : QE := fun s m Φ => qa s m fun x m1 => qb s m1 fun y m2 => r x y m2 Φ
section
variable {X : Cx} {a b c : Expr} {qa qb qc : QE} {pos : Pos}
theorem lift_op {K : PySem.W.Frag} {r : D → D → Mem → DK → Prop} : ∀ σ H Q, liftE K (qOp r qa qb) σ H Q → tOp (liftR K r) (liftE K qa) (liftE K qb) σ H Q := fun σ H Q ⟨G, s, m, Φ, rm, rs, q, k⟩ =>
  ⟨G, s, m, _, rm, rs, q, fun G1 x m1 v H1 e1 r1 rx q1 => ⟨G1, s, m1, _, r1, rs.mono e1, q1, fun G2 y m2 u H2 e2 r2 ry q2 => ⟨G2, m2, x, y, Φ, r2, RV.mono e2 x rx, ry, q2, k.mono (e1.trans e2)⟩⟩⟩
theorem de_op {op : Operator} {r : D → D → Mem → DK → Prop} (ho : OpR X (binaryOp op) (liftR X.K r)) (ha : PE X a (liftE X.K qa)) (hb : PE X b (liftE X.K qb)) : PE X (.BinOp a op b pos) (liftE X.K (qOp r qa qb)) := pe_imp (pe_op ho ha hb) lift_op
theorem de_cmp {op : CmpOp} {r : D → D → Mem → DK → Prop} (ho : OpR X (compareOp op) (liftR X.K r)) (ha : PE X a (liftE X.K qa)) (hb : PE X b (liftE X.K qb)) (hm : behindInMarks op b = false) : PE X (.Compare a [op] [b] pos) (liftE X.K (qOp r qa qb)) := pe_imp (pe_cmpR ho ha hb hm) lift_op
/-- a value that is a bool, as a test -/
def qB (q : QE) : QT := fun s m Φ => q s m fun d m1 => match d with | .bl b => Φ b m1 | _ => False
theorem lift_B {K : PySem.W.Frag} : ∀ σ H Q, liftT K (qB qa) σ H Q → tB (liftE K qa) σ H Q := fun σ H Q ⟨G, s, m, Φ, rm, rs, q, k⟩ =>
  ⟨G, s, m, _, rm, rs, q, fun G1 x m1 v H1 e1 r1 rx q1 => by
    cases x with
    | bl b => exact ⟨b, rx, k G1 b m1 H1 e1 r1 q1⟩
    | _ => exact q1.elim⟩
theorem lift_test {K : PySem.W.Frag} : ∀ σ H Q, liftT K (qB qa) σ H Q → tTest (liftE K qa) σ H Q := lift_B
theorem dt_cmp {op : CmpOp} {r : D → D → Mem → DK → Prop} (ho : OpR X (compareOp op) (liftR X.K r)) (ha : PE X a (liftE X.K qa)) (hb : PE X b (liftE X.K qb)) (hm : behindInMarks op b = false) : PT X (.Compare a [op] [b] pos) (liftT X.K (qB (qOp r qa qb))) :=
  pt_imp (pt_cmpR ho ha hb hm) fun σ H Q h => by
    obtain ⟨G, s, m, Φ, rm, rs, q, k⟩ := lift_B (K := X.K) σ H Q h
    exact lift_op σ H _ ⟨G, s, m, Φ, rm, rs, q, k⟩
theorem dt_val {e : Expr} {qe : QE} (h : PE X e (liftE X.K qe)) (he : ∀ whole, isTrue e X.env whole = (do let v ← whole; standAt e.pos; holding [v] (truthy v)) := by intro _; rfl) : PT X e (liftT X.K (qB qe)) := pt_imp (pt_val h he) lift_B
/-- a branch on a known bool -/
@[irreducible] def qIf (c : Bool) (A B : Prop) : Prop := if c = true then A else B
theorem qif {c : Bool} {A B : Prop} (h1 : c = true → A) (h2 : c = false → B) : qIf c A B := by
  unfold qIf; split
  · rename_i h; exact h1 h
  · rename_i h; exact h2 (by simpa using h)
theorem qif_t {c : Bool} {A B : Prop} (h : c = true) (a : A) : qIf c A B := qif (fun _ => a) (fun z => by rw [h] at z; cases z)
theorem qif_f {c : Bool} {A B : Prop} (h : c = false) (b : B) : qIf c A B := qif (fun z => by rw [h] at z; cases z) (fun _ => b)
theorem qif_e {c : Bool} {A B : Prop} (h : qIf c A B) : if c = true then A else B := by unfold qIf at h; exact h
/-- a op1 b op2 c -/
def qChain (r r' : D → D → Mem → DK → Prop) (qa qb qc : QE) : QE := fun s m Φ => qa s m fun x m1 => qb s m1 fun y m2 => r x y m2 fun z m3 => match z with
  | .bl c => qIf c (qc s m3 fun w m4 => r' y w m4 Φ) (Φ (.bl false) m3)
  | _ => False
theorem lift_chain {K : PySem.W.Frag} {r r' : D → D → Mem → DK → Prop} : ∀ σ H Q, liftE K (qChain r r' qa qb qc) σ H Q → tChain (liftR K r) (liftR K r') (liftE K qa) (liftE K qb) (liftE K qc) σ H Q := fun σ H Q ⟨G, s, m, Φ, rm, rs, q, k⟩ =>
  ⟨G, s, m, _, rm, rs, q, fun G1 x m1 v H1 e1 r1 rx q1 => ⟨G1, s, m1, _, r1, rs.mono e1, q1, fun G2 y m2 u H2 e2 r2 ry q2 =>
    ⟨G2, m2, x, y, _, r2, RV.mono e2 x rx, ry, q2, fun G3 z m3 w H3 e3 r3 rz q3 => by
      cases z with
      | bl b =>
        refine ⟨b, rz, ?_⟩
        have q3 := qif_e q3
        cases b with
        | true =>
          rw [if_pos rfl]
          exact ⟨G3, s, m3, _, r3, rs.mono ((e1.trans e2).trans e3), (by rwa [if_pos rfl] at q3), fun G4 t m4 t' H4 e4 r4 rt q4 => ⟨G4, m4, y, t, Φ, r4, RV.mono (e3.trans e4) y ry, rt, q4, k.mono (((e1.trans e2).trans e3).trans e4)⟩⟩
        | false =>
          rw [if_neg Bool.false_ne_true]
          exact k G3 (.bl false) m3 _ H3 ((e1.trans e2).trans e3) r3 rfl (by rwa [if_neg Bool.false_ne_true] at q3)
      | _ => exact q3.elim⟩⟩⟩
theorem de_chain {op op' : CmpOp} {r r' : D → D → Mem → DK → Prop} (ho : OpR X (compareOp op) (liftR X.K r)) (ho' : OpR X (compareOp op') (liftR X.K r')) (ha : PE X a (liftE X.K qa)) (hb : PE X b (liftE X.K qb)) (hc : PE X c (liftE X.K qc))
    (hm : lastMarks [op, op'] [b, c] = false := by with_unfolding_all rfl) : PE X (.Compare a [op, op'] [b, c] pos) (liftE X.K (qChain r r' qa qb qc)) := pe_imp (pe_chain ho ho' ha hb hc hm) lift_chain
theorem dt_chain {op op' : CmpOp} {r r' : D → D → Mem → DK → Prop} (ho : OpR X (compareOp op) (liftR X.K r)) (ho' : OpR X (compareOp op') (liftR X.K r')) (ha : PE X a (liftE X.K qa)) (hb : PE X b (liftE X.K qb)) (hc : PE X c (liftE X.K qc))
    (hm : lastMarks [op, op'] [b, c] = false := by with_unfolding_all rfl) : PT X (.Compare a [op, op'] [b, c] pos) (liftT X.K (qB (qChain r r' qa qb qc))) :=
  pt_imp (pt_chain ho ho' ha hb hc hm) fun σ H Q h => by
    obtain ⟨G, s, m, Φ, rm, rs, q, k⟩ := lift_B (K := X.K) σ H Q h
    exact lift_chain σ H _ ⟨G, s, m, Φ, rm, rs, q, k⟩
end
/-! ### truth -/
def truD (d : D) (m : Mem) (Φ : Bool → Mem → Prop) : Prop := match d with
  | .non => Φ false m
  | .bl b => Φ b m
  | .int i => Φ (i != 0) m
  | .str y => y.length ≤ sizeLine ∧ Φ ((y.length : Int) != 0) m
  | .tup ds => Φ (!ds.isEmpty) m
  | .lst ds => Φ (!ds.isEmpty) m
  | .ref a => (∃ ds, m a = some (.lst ds) ∧ Φ (!ds.isEmpty) m) ∨ ∃ ks, m a = some (.dK ks) ∧ Φ (!ks.isEmpty) m
theorem RVs.isEmpty {K : PySem.W.Frag} {G : Hp} {ds : List D} {xs : List V} (h : RVs K G ds xs) : ds.isEmpty = xs.isEmpty := by
  have := h.length
  cases ds <;> cases xs <;> simp_all
theorem RKs.isEmpty {K : PySem.W.Frag} {G : Hp} {κ : Type} {ds : List (κ × D)} {xs : List (κ × V)} (h : RKs K G ds xs) : ds.isEmpty = xs.isEmpty := by
  have := h.length
  cases ds <;> cases xs <;> simp_all
theorem tru_lift {K : PySem.W.Frag} {d : D} {v : V} {m : Mem} {G H : Hp} {Φ : Bool → Mem → Prop} (rm : RelM K m G H) (rv : RV K G d v) (h : truD d m Φ) : ∃ k, TruV K v H k ∧ Φ k m := by
  cases d with
  | non => obtain rfl : v = .non := rv; exact ⟨_, rfl, h⟩
  | bl b => obtain rfl : v = .bl b := rv; exact ⟨_, rfl, h⟩
  | int i => obtain rfl : v = .int i := rv; exact ⟨_, rfl, h⟩
  | str y => obtain rfl : v = .str y := rv; exact ⟨_, ⟨h.1, rfl⟩, h.2⟩
  | tup ds =>
    obtain ⟨a, xs, rfl, h1, h2⟩ := rv
    exact ⟨_, .inr (.inl ⟨xs, rm.sub.t h1, rfl⟩), by rw [← h2.isEmpty]; exact h⟩
  | lst ds =>
    obtain ⟨a, xs, rfl, h1, h2⟩ := rv
    exact ⟨_, .inl ⟨xs, rm.sub.l h1, rfl⟩, by rw [← h2.isEmpty]; exact h⟩
  | ref a =>
    obtain rfl : v = .ref a := rv
    rcases h with ⟨ds, hm, h⟩ | ⟨ks, hm, h⟩
    · obtain ⟨_, u, hu, xs, rfl, h2⟩ := rm.mem a _ hm
      exact ⟨_, .inl ⟨xs, .inl (.inl hu), rfl⟩, by rw [← h2.isEmpty]; exact h⟩
    · obtain ⟨_, u, hu, xs, rfl, h2⟩ := rm.mem a _ hm
      exact ⟨_, .inr (.inr ⟨xs, hu, rfl⟩), by rw [← h2.isEmpty]; exact h⟩
def qTru (q : QE) : QT := fun s m Φ => q s m fun d m1 => truD d m1 Φ
section
variable {X : Cx} {a b : Expr} {qa qb : QE} {ta tb : QT} {pos : Pos} {rest : List Expr}
theorem dt_tru (h : PE X a (liftE X.K qa)) (he : ∀ whole, isTrue a X.env whole = (do let v ← whole; standAt a.pos; holding [v] (truthy v)) := by intro _; rfl) : PT X a (liftT X.K (qTru qa)) :=
  pt_imp (pt_truth h he) fun σ H Q ⟨G, s, m, Φ, rm, rs, q, k⟩ => ⟨G, s, m, _, rm, rs, q, fun G1 x m1 v H1 e1 r1 rx q1 => by
    obtain ⟨b, h1, h2⟩ := tru_lift r1 rx q1
    exact ⟨b, h1, k G1 b m1 H1 e1 r1 h2⟩⟩
/-- and, or, not as tests -/
def qAnd (t u : QT) : QT := fun s m Φ => t s m fun c m1 => qIf c (u s m1 Φ) (Φ false m1)
def qOr (t u : QT) : QT := fun s m Φ => t s m fun c m1 => qIf c (Φ true m1) (u s m1 Φ)
def qNot (t : QT) : QT := fun s m Φ => t s m fun c m1 => Φ (!c) m1
theorem dw_and1 (ha : PT X a (liftT X.K ta)) : PW X (.BoolOp .And [a] pos) (liftT X.K ta) := pw_and1 ha
theorem dw_or1 (ha : PT X a (liftT X.K ta)) : PW X (.BoolOp .Or [a] pos) (liftT X.K ta) := pw_or1 ha
theorem dw_and (ha : PT X a (liftT X.K ta)) (hb : PW X (.BoolOp .And (b :: rest) pos) (liftT X.K tb)) : PW X (.BoolOp .And (a :: b :: rest) pos) (liftT X.K (qAnd ta tb)) :=
  pw_imp (pw_and ha hb) fun σ H Q ⟨G, s, m, Φ, rm, rs, q, k⟩ => ⟨G, s, m, _, rm, rs, q, fun G1 c m1 H1 e1 r1 q1 => by
    have q1 := qif_e q1
    dsimp only
    cases c with
    | true => rw [if_pos rfl] at q1 ⊢; exact ⟨G1, s, m1, Φ, r1, rs.mono e1, q1, k.mono e1⟩
    | false => rw [if_neg Bool.false_ne_true] at q1 ⊢; exact k G1 false m1 H1 e1 r1 q1⟩
theorem dw_or (ha : PT X a (liftT X.K ta)) (hb : PW X (.BoolOp .Or (b :: rest) pos) (liftT X.K tb)) : PW X (.BoolOp .Or (a :: b :: rest) pos) (liftT X.K (qOr ta tb)) :=
  pw_imp (pw_or ha hb) fun σ H Q ⟨G, s, m, Φ, rm, rs, q, k⟩ => ⟨G, s, m, _, rm, rs, q, fun G1 c m1 H1 e1 r1 q1 => by
    have q1 := qif_e q1
    dsimp only
    cases c with
    | false => rw [if_neg Bool.false_ne_true] at q1 ⊢; exact ⟨G1, s, m1, Φ, r1, rs.mono e1, q1, k.mono e1⟩
    | true => rw [if_pos rfl] at q1 ⊢; exact k G1 true m1 H1 e1 r1 q1⟩
theorem dt_not (ha : PT X a (liftT X.K ta)) : PT X (.UnaryOp .Not a pos) (liftT X.K (qNot ta)) :=
  pt_imp (pt_not ha) fun σ H Q ⟨G, s, m, Φ, rm, rs, q, k⟩ => ⟨G, s, m, _, rm, rs, q, fun G1 c m1 H1 e1 r1 q1 => k G1 _ m1 H1 e1 r1 q1⟩
/-- .. as values that are bools -/
def qAndV (qa qb : QE) : QE := fun s m Φ => qa s m fun x m1 => match x with | .bl c => qIf c (qb s m1 Φ) (Φ (.bl false) m1) | _ => False
def qOrV (qa qb : QE) : QE := fun s m Φ => qa s m fun x m1 => match x with | .bl c => qIf c (Φ (.bl true) m1) (qb s m1 Φ) | _ => False
def qNotV (qa : QE) : QE := fun s m Φ => qa s m fun x m1 => match x with | .bl c => Φ (.bl (!c)) m1 | _ => False
theorem de_one {op} (h : PE X a (liftE X.K qa)) : PE X (.BoolOp op [a] pos) (liftE X.K qa) := pe_one h
theorem de_and (ha : PE X a (liftE X.K qa)) (hb : PE X (.BoolOp .And (b :: rest) pos) (liftE X.K qb)) : PE X (.BoolOp .And (a :: b :: rest) pos) (liftE X.K (qAndV qa qb)) :=
  pe_imp (pe_and ha hb) fun σ H Q ⟨G, s, m, Φ, rm, rs, q, k⟩ => ⟨G, s, m, _, rm, rs, q, fun G1 x m1 v H1 e1 r1 rx q1 => by
    cases x with
    | bl c =>
      obtain rfl : v = .bl c := rx
      have q1 := qif_e q1
      refine ⟨c, rfl, ?_⟩
      cases c with
      | true => rw [if_pos rfl] at q1 ⊢; exact ⟨G1, s, m1, Φ, r1, rs.mono e1, q1, k.mono e1⟩
      | false => rw [if_neg Bool.false_ne_true] at q1 ⊢; exact k G1 (.bl _) m1 _ H1 e1 r1 rfl q1
    | _ => exact q1.elim⟩
theorem de_or (ha : PE X a (liftE X.K qa)) (hb : PE X (.BoolOp .Or (b :: rest) pos) (liftE X.K qb)) : PE X (.BoolOp .Or (a :: b :: rest) pos) (liftE X.K (qOrV qa qb)) :=
  pe_imp (pe_or ha hb) fun σ H Q ⟨G, s, m, Φ, rm, rs, q, k⟩ => ⟨G, s, m, _, rm, rs, q, fun G1 x m1 v H1 e1 r1 rx q1 => by
    cases x with
    | bl c =>
      obtain rfl : v = .bl c := rx
      have q1 := qif_e q1
      refine ⟨c, rfl, ?_⟩
      cases c with
      | false => rw [if_neg Bool.false_ne_true] at q1 ⊢; exact ⟨G1, s, m1, Φ, r1, rs.mono e1, q1, k.mono e1⟩
      | true => rw [if_pos rfl] at q1 ⊢; exact k G1 (.bl _) m1 _ H1 e1 r1 rfl q1
    | _ => exact q1.elim⟩
theorem de_not (ha : PE X a (liftE X.K qa)) : PE X (.UnaryOp .Not a pos) (liftE X.K (qNotV qa)) :=
  pe_imp (pe_not ha) fun σ H Q ⟨G, s, m, Φ, rm, rs, q, k⟩ => ⟨G, s, m, _, rm, rs, q, fun G1 x m1 v H1 e1 r1 rx q1 => by
    cases x with
    | bl c => exact ⟨c, rx, k G1 (.bl _) m1 _ H1 e1 r1 rfl q1⟩
    | _ => exact q1.elim⟩
/-- a if t else b -/
def qIfE (t : QT) (qa qb : QE) : QE := fun s m Φ => t s m fun c m1 => qIf c (qa s m1 Φ) (qb s m1 Φ)
theorem de_if {c : Expr} (hc : PT X c (liftT X.K ta)) (ha : PE X a (liftE X.K qa)) (hb : PE X b (liftE X.K qb)) : PE X (.IfExp c a b pos) (liftE X.K (qIfE ta qa qb)) :=
  pe_imp (pe_ifExp hc ha hb) fun σ H Q ⟨G, s, m, Φ, rm, rs, q, k⟩ => ⟨G, s, m, _, rm, rs, q, fun G1 c m1 H1 e1 r1 q1 => by
    have q1 := qif_e q1
    dsimp only
    cases c with
    | true => rw [if_pos rfl] at q1 ⊢; exact ⟨G1, s, m1, Φ, r1, rs.mono e1, q1, k.mono e1⟩
    | false => rw [if_neg Bool.false_ne_true] at q1 ⊢; exact ⟨G1, s, m1, Φ, r1, rs.mono e1, q1, k.mono e1⟩⟩
end
/-! ### argument lists, displays -/
def qNil : QA := fun _ m Φ => Φ [] m
def qCons (qa : QE) (qr : QA) : QA := fun s m Φ => qa s m fun x m1 => qr s m1 fun xs m2 => Φ (x :: xs) m2
def qTup (qa : QA) : QE := fun s m Φ => qa s m fun ds m1 => ds.length ≤ sizeLine ∧ Φ (.tup ds) m1
/-- a list display: one that will not be changed | one that may be -/
def qLstF (qa : QA) : QE := fun s m Φ => qa s m fun ds m1 => ds.length ≤ sizeLine ∧ Φ (.lst ds) m1
def qLstM (qa : QA) : QE := fun s m Φ => qa s m fun ds m1 => ds.length ≤ sizeLine ∧ ∀ p, m1 p = none → Φ (.ref p) (mset m1 p (.lst ds))
section
variable {X : Cx} {e : Expr} {es : List Expr} {qe : QE} {qa : QA} {pos : Pos}
theorem da_nil : PA X [] (liftA X.K qNil) := pa_imp pa_nil fun σ H Q ⟨G, s, m, Φ, rm, rs, q, k⟩ => k G [] m [] H (Sub.refl G) rm rfl q
theorem da_cons (ha : PE X e (liftE X.K qe)) (hr : PA X es (liftA X.K qa)) (hs : starEach (e :: es) X.env = (false, eval e X.env) :: starEach es X.env := by rfl) : PA X (e :: es) (liftA X.K (qCons qe qa)) :=
  pa_imp (pa_cons ha hr hs) fun σ H Q ⟨G, s, m, Φ, rm, rs, q, k⟩ => ⟨G, s, m, _, rm, rs, q, fun G1 x m1 v H1 e1 r1 rx q1 => ⟨G1, s, m1, _, r1, rs.mono e1, q1, fun G2 xs m2 vs H2 e2 r2 rxs q2 =>
    k G2 _ m2 _ H2 (e1.trans e2) r2 (RVs.cons (RV.mono e2 x rx) rxs) q2⟩⟩
theorem lift_tup {K : PySem.W.Frag} {G H : Hp} {m : Mem} {ds : List D} {vs : List V} {Φ : DK} {Q : VK} (rm : RelM K m G H) (r : RVs K G ds vs) (q : Φ (.tup ds) m) (k : KQ K G Φ Q) : ∀ p, H p = none → Q (.ref p) (upd H p (.tup vs)) := fun p hp => by
  obtain ⟨r1, e1⟩ := rm.lay (u := .tup vs) hp
  exact k _ (.tup ds) m _ _ e1 r1 ⟨p, vs, rfl, .inl (.inl upd_same), RVs.mono e1 _ r⟩ q
theorem lift_lstF {K : PySem.W.Frag} {G H : Hp} {m : Mem} {ds : List D} {vs : List V} {Φ : DK} {Q : VK} (rm : RelM K m G H) (r : RVs K G ds vs) (q : Φ (.lst ds) m) (k : KQ K G Φ Q) : ∀ p, H p = none → Q (.ref p) (upd H p (.lst vs)) := fun p hp => by
  obtain ⟨r1, e1⟩ := rm.lay (u := .lst vs) hp
  exact k _ (.lst ds) m _ _ e1 r1 ⟨p, vs, rfl, .inl (.inl upd_same), RVs.mono e1 _ r⟩ q
theorem lift_lstM {K : PySem.W.Frag} {G H : Hp} {m : Mem} {ds : List D} {vs : List V} {Φ : DK} {Q : VK} (rm : RelM K m G H) (r : RVs K G ds vs) (q : ∀ p, m p = none → Φ (.ref p) (mset m p (.lst ds))) (k : KQ K G Φ Q) : ∀ p, H p = none → Q (.ref p) (upd H p (.lst vs)) := fun p hp =>
  k G (.ref p) _ _ _ (Sub.refl G) (rm.new (o := .lst ds) hp ⟨vs, rfl, r⟩) rfl (q p (rm.free hp))
theorem de_tup {x1} (h : PA X es (liftA X.K qa)) : PE X (.Tuple es x1 pos) (liftE X.K (qTup qa)) :=
  pe_imp (pe_tup h) fun σ H Q ⟨G, s, m, Φ, rm, rs, q, k⟩ => ⟨G, s, m, _, rm, rs, q, fun G1 ds m1 vs H1 e1 r1 rd q1 => ⟨by rw [← rd.length]; exact q1.1, lift_tup r1 rd q1.2 (k.mono e1)⟩⟩
theorem de_lstF (h : PA X es (liftA X.K qa)) : PE X (.List es pos) (liftE X.K (qLstF qa)) :=
  pe_imp (pe_lst h) fun σ H Q ⟨G, s, m, Φ, rm, rs, q, k⟩ => ⟨G, s, m, _, rm, rs, q, fun G1 ds m1 vs H1 e1 r1 rd q1 => ⟨by rw [← rd.length]; exact q1.1, lift_lstF r1 rd q1.2 (k.mono e1)⟩⟩
theorem de_lstM (h : PA X es (liftA X.K qa)) : PE X (.List es pos) (liftE X.K (qLstM qa)) :=
  pe_imp (pe_lst h) fun σ H Q ⟨G, s, m, Φ, rm, rs, q, k⟩ => ⟨G, s, m, _, rm, rs, q, fun G1 ds m1 vs H1 e1 r1 rd q1 => ⟨by rw [← rd.length]; exact q1.1, lift_lstM r1 rd q1.2 (k.mono e1)⟩⟩
/-- {} -/
def qDNewK : QE := fun _ m Φ => ∀ p, m p = none → Φ (.ref p) (mset m p (.dK []))
def qDNewT : QE := fun _ m Φ => ∀ p, m p = none → Φ (.ref p) (mset m p (.dT []))
theorem de_dnewK : PE X (.Dict [] [] pos) (liftE X.K qDNewK) := pe_imp pe_dnewK fun σ H Q ⟨G, s, m, Φ, rm, rs, q, k⟩ p hp => k G (.ref p) _ _ _ (Sub.refl G) (rm.new (o := .dK []) hp ⟨[], rfl, rfl⟩) rfl (q p (rm.free hp))
theorem de_dnewT : PE X (.Dict [] [] pos) (liftE X.K qDNewT) := pe_imp pe_dnewT fun σ H Q ⟨G, s, m, Φ, rm, rs, q, k⟩ p hp => k G (.ref p) _ _ _ (Sub.refl G) (rm.new (o := .dT []) hp ⟨[], rfl, rfl⟩) rfl (q p (rm.free hp))
end
/-- a list that was just made, taken as one that never changes -/
def qFreeze (qe : QE) : QE := fun s m Φ => qe s m fun d m1 => match d with
  | .ref a => ∃ ds, m1 a = some (.lst ds) ∧ Φ (.lst ds) (mdel m1 a)
  | _ => False
theorem de_freeze {X : Cx} {e : Expr} {qe : QE} (h : PE X e (liftE X.K qe)) : PE X e (liftE X.K (qFreeze qe)) :=
  pe_imp h fun σ H Q ⟨G, s, m, Φ, rm, rs, q, k⟩ => ⟨G, s, m, _, rm, rs, q, fun G1 d m1 v H1 e1 r1 rd q1 => by
    cases d with
    | ref a =>
      obtain rfl : v = .ref a := rd
      obtain ⟨ds, hm, q1⟩ := q1
      obtain ⟨G2, e2, r2, rv⟩ := r1.freeze hm
      exact k G2 _ _ _ H1 (e1.trans e2) r2 rv q1
    | _ => exact q1.elim⟩
/-! ### defs and calls -/
/-- f(..), its promise sp; dds: the defaults -/
def qCall (sp : LSp) (qa : QA) : QE := fun s m Φ => qa s m fun ds m1 => sp ds m1 Φ
def FnD (P : Program) (w : World) (K : PySem.W.Frag) (mg : Str → Option Value) (base : Heap) (k : Nat) (f : Addr) (sp : LSp) : Prop := FnR P w K mg base CX0 k f (liftSp K sp)
section
variable {X : Cx} {k : Nat} {f : Addr} {sp : Sp} {E : XK} {x : Str} {p pos : Pos} {e : Expr} {es : List Expr} {t : TA} {CX : CXT}
theorem pe_callR (F : FnR X.prog X.w X.K X.mg X.base CX k f sp) (hr : Room k X.A) (hg : Gl X x) (hm : X.mg x = some (.ref f)) (hk : PySem.W.keepIn X.K (.ref f) = true) (hx : Passes CX X E)
    (ha : PA X (e :: es) t) (hdb : (x == ("__debug__" : Str)) = false := by decide) (he : starEach (e :: es) X.env = (false, eval e X.env) :: starEach es X.env := by rfl) (hpl : (backTo pos (starEach es X.env)).any (·.1) = false := by rfl) :
    PE X (.Call (.Name x p) (e :: es) [] pos) (fun σ H Q => t σ H fun vs H1 => sp vs H1 Q E) := by
  refine ⟨fun pins s σ H Q I h => ?_⟩
  refine wpAny_Call_Name_kw (ld_glob I hg hm ?_ hdb)
  refine PySem.W.callWith_K (h₀ := X.base) I.ok.mod.kin hk (thn (ha.run pos pins s σ H _ I h) fun us s1 ⟨vs, H1, I1, r, q⟩ => ⟨I1.kIn, ?_⟩) he hpl
  exact wpAny_call (run_fnR F hr hx I1 r q)
theorem lift_call {K : PySem.W.Frag} {qa : QA} {sp : LSp} : ∀ σ H Q, liftE K (qCall sp qa) σ H Q → liftA K qa σ H fun vs H1 => liftSp K sp vs H1 Q E0 := fun σ H Q ⟨G, s, m, Φ, rm, rs, q, k⟩ =>
  ⟨G, s, m, _, rm, rs, q, fun G1 ds m1 vs H1 e1 r1 rd q1 => ⟨G1, m1, ds, Φ, r1, rd, q1, k.mono e1⟩⟩
theorem de_call {sp : LSp} {qa : QA} (F : FnD X.prog X.w X.K X.mg X.base k f sp) (hr : Room k X.A) (hg : Gl X x) (hm : X.mg x = some (.ref f)) (hk : PySem.W.keepIn X.K (.ref f) = true)
    (ha : PA X (e :: es) (liftA X.K qa)) (hdb : (x == ("__debug__" : Str)) = false := by decide) (he : starEach (e :: es) X.env = (false, eval e X.env) :: starEach es X.env := by rfl) (hpl : (backTo pos (starEach es X.env)).any (·.1) = false := by rfl) :
    PE X (.Call (.Name x p) (e :: es) [] pos) (liftE X.K (qCall sp qa)) := pe_imp (pe_callR F hr hg hm hk pass0 ha hdb he hpl) lift_call
/-- f(e, .., *y) -/
theorem de_callS2 {sp : LSp} {qa : QA} (F : FnD X.prog X.w X.K X.mg X.base k f sp) (hr : Room k X.A) (hk : PySem.W.keepIn X.K (.ref f) = true) (hg : Gl X x) (hm : X.mg x = some (.ref f)) (ha : PA X (e :: es) (liftA X.K qa)) (hd : (x == ("__debug__" : Str)) = false := by decide)
    (he : starEach (e :: es) X.env = (false, eval e X.env) :: starEach es X.env := by rfl) (hst : (backTo pos (starEach es X.env)).any (·.1) = true := by rfl) :
    PE X (.Call (.Name x p) (e :: es) [] pos) (liftE X.K (qCall sp qa)) := pe_imp (StX.pe_callS2 F hr hk hg hm pass0 ha hd he hst) lift_call
/-- the items of a list or a tuple -/
def itemsQ (d : D) (m : Mem) (R : List D → Prop) : Prop := match d with
  | .tup ds => R ds
  | .lst ds => R ds
  | .ref a => ∃ ds, m a = some (.lst ds) ∧ R ds
  | _ => False
theorem items_lift {K : PySem.W.Frag} {d : D} {v : V} {m : Mem} {G H : Hp} {R : List D → Prop} (rm : RelM K m G H) (rv : RV K G d v) (h : itemsQ d m R) : ∃ a ds xs, v = .ref a ∧ (SqT K H a xs ∨ SqL K H a xs) ∧ RVs K G ds xs ∧ R ds := by
  cases d with
  | tup ds => obtain ⟨a, xs, rfl, h1, h2⟩ := rv; exact ⟨a, ds, xs, rfl, .inl (rm.sub.t h1), h2, h⟩
  | lst ds => obtain ⟨a, xs, rfl, h1, h2⟩ := rv; exact ⟨a, ds, xs, rfl, .inr (rm.sub.l h1), h2, h⟩
  | ref a =>
    obtain rfl : v = .ref a := rv
    obtain ⟨ds, hm, h⟩ := h
    obtain ⟨_, u, hu, xs, rfl, h2⟩ := rm.mem a _ hm
    exact ⟨a, ds, xs, rfl, .inr (.inl (.inl hu)), h2, h⟩
  | _ => exact h.elim
/-- f(*y) -/
def qCallS1 (sp : LSp) (qe : QE) : QE := fun s m Φ => qe s m fun d m1 => itemsQ d m1 fun ds => sp ds m1 Φ
theorem de_callS1 {sp : LSp} {qe : QE} {sp_ : Pos} (F : FnD X.prog X.w X.K X.mg X.base k f sp) (hr : Room k X.A) (hk : PySem.W.keepIn X.K (.ref f) = true) (hg : Gl X x) (hm : X.mg x = some (.ref f)) (he : PE X e (liftE X.K qe)) (hd : (x == ("__debug__" : Str)) = false := by decide)
    (hst : starEach [.Starred e sp_] X.env = [(true, eval e X.env)] := by rfl) :
    PE X (.Call (.Name x p) [.Starred e sp_] [] pos) (liftE X.K (qCallS1 sp qe)) :=
  pe_imp (StX.pe_callS1 F hr hk hg hm pass0 he hd hst) fun σ H Q ⟨G, s, m, Φ, rm, rs, q, k⟩ => ⟨G, s, m, _, rm, rs, q, fun G1 d m1 v H1 e1 r1 rd q1 => by
    obtain ⟨a, ds, xs, rfl, h1, h2, h3⟩ := items_lift r1 rd q1
    exact ⟨a, xs, rfl, h1, G1, m1, ds, Φ, r1, h2, h3, k.mono e1⟩⟩
def qStar (qe : QE) (qr : QA) : QA := fun s m Φ => qe s m fun d m1 => itemsQ d m1 fun ds => qr s m1 fun es m2 => Φ (ds ++ es) m2
theorem da_star {qe : QE} {qa : QA} (he : PE X e (liftE X.K qe)) (hr : PA X es (liftA X.K qa)) (hs : starEach (.Starred e p :: es) X.env = (true, eval e X.env) :: starEach es X.env := by rfl) : PA X (.Starred e p :: es) (liftA X.K (qStar qe qa)) :=
  pa_imp (StX.pa_star he hr hs) fun σ H Q ⟨G, s, m, Φ, rm, rs, q, k⟩ => ⟨G, s, m, _, rm, rs, q, fun G1 d m1 v H1 e1 r1 rd q1 => by
    obtain ⟨a, ds, xs, rfl, h1, h2, h3⟩ := items_lift r1 rd q1
    exact ⟨a, xs, rfl, h1, G1, s, m1, _, r1, rs.mono e1, h3, fun G2 es m2 vs H2 e2 r2 re q2 => k G2 _ m2 _ H2 (e1.trans e2) r2 (RVs.append (RVs.mono e2 _ h2) re) q2⟩⟩
end
/-- a def keeps its promise: its body, from the parameters' data -/
def begin_ (n : Nat) (ds : List D) : DSt := ds.map some ++ List.replicate (n - ds.length) none
theorem relS_start {K : PySem.W.Frag} {G : Hp} {N : List Str} : ∀ {ds : List D} {vs : List V}, RVs K G ds vs → RelS K (begin_ N.length ds) G (L2.start N vs) := fun {ds vs} r => by
  have hl := r.length
  refine ⟨by simp [begin_, L2.start, hl], fun i d h => ?_⟩
  unfold begin_ at h
  unfold L2.start
  by_cases hi : i < ds.length
  · rw [List.getElem?_append_left (by simpa using hi), List.getElem?_map] at h
    cases e : ds[i]? with
    | none => rw [e] at h; cases h
    | some d' =>
      rw [e] at h
      have h : d' = d := Option.some.inj (Option.some.inj h)
      subst h
      obtain ⟨v, h1, h2⟩ := r.get e
      exact ⟨v, by rw [List.getElem?_append_left (by rw [List.length_map, ← hl]; exact hi), List.getElem?_map, h1]; rfl, h2⟩
  · rw [List.getElem?_append_right (by simpa using hi)] at h
    rw [List.getElem?_replicate] at h
    split at h <;> cases h
def bodyE (Φ : DK) : DE := { nx := fun _ m => Φ .non m, rt := Φ, bk := fun _ _ => False, ct := fun _ _ => False }
theorem body_lift {K : PySem.W.Frag} {sp : LSp} {qb : QS} {N : List Str} (h : ∀ ds m Φ, sp ds m Φ → qb (bodyE Φ) (begin_ N.length ds) m) {vs : List V} {H : Hp} {Q : VK} {E : XK} (hs : liftSp K sp vs H Q E) :
    liftS K qb { nx := fun _ H' => Q .non H', rt := Q } (L2.start N vs) H := by
  obtain ⟨G, m, ds, Φ, rm, rd, q, k⟩ := hs
  refine ⟨G, begin_ N.length ds, m, bodyE Φ, rm, relS_start rd, h ds m Φ q, ?_, k, fun _ _ _ _ _ _ _ _ z => z.elim, fun _ _ _ _ _ _ _ _ z => z.elim⟩
  exact fun G' s' m' σ' H' e1 r1 _ q1 => k G' .non m' .non H' e1 r1 rfl q1
section
variable {P : Program} {w : World} {K : PySem.W.Frag} {mg : Str → Option Value} {base : Heap}
/-- THE RULE for a def: its body's derivation, once for every entry; what it reckons, over data -/
theorem fnd_of {x qual : Str} {st : Stmt} {f : Addr} {fd : FuncData} {N ps : List Str} {k : Nat} {sp : LSp} {qb : QS} (F : Fun K x qual st f fd) (S : FnScope N ps (defScope st)) (hb : Binds K fd ps []) (len : ∀ ds m Φ, sp ds m Φ → ds.length = ps.length)
    (hd : ∀ X : Cx, X.prog = P → X.w = w → X.K = K → X.mg = mg → X.base = base → X.N = N → X.env.scope = defScope st → X.calm = true → X.fn = (fun _ => true) → X.xe = (fun _ _ => False) → Room k X.A → PSs X (defBody st) (liftS K qb))
    (h : ∀ ds m Φ, sp ds m Φ → qb (bodyE Φ) (begin_ N.length ds) m) : FnD P w K mg base (k + 1) f sp := by
  have F1 : FnOk P w K mg base CX0 (k + 1) f fd ps (liftSp K sp) := by
    refine F.ok S (fun vs H Q E hs => ?_) (fun cdv A outer s H vs Q E hr hs => ⟨liftS K qb, ?_, body_lift h hs⟩)
    · obtain ⟨G, m, ds, Φ, rm, rd, q, k⟩ := hs
      rw [← rd.length]; exact len ds m Φ q
    · exact hd _ rfl rfl rfl rfl rfl rfl rfl rfl rfl rfl hr
  intro A outer s H us vs Q E hr e0 r hs
  have hl : vs.length = ps.length := F1.len vs H Q E hs
  exact F1.run A outer s H ⟨us, []⟩ us vs Q E hr e0 (by
    have := hb s us (e0.mod.kin.keeps fun b o z => (e0.bs b o z).1) (by rw [List.append_nil, ← r.length]; exact hl)
    rwa [List.append_nil] at this) r hs
end
end L3
/-! L3v: two lists joined, whichever they are -/
namespace L3
open PySem PySem.Spec PyProof.Rows L2
def rCatQ (K : PySem.W.Frag) : R2 := fun x y H Q => ∃ l b xs zs, x = .ref l ∧ y = .ref b ∧ SqL K H l xs ∧ SqL K H b zs ∧ xs.length + zs.length ≤ sizeLine ∧ ∀ p, H p = none → Q (.ref p) (upd H p (.lst (xs ++ zs)))
theorem op_catQ {X : Cx} : OpR X (binaryOp .Add) (rCatQ X.K) := by
  intro pins s σ H x y v u Q I rx ry h
  obtain ⟨l, b, xs, zs, rfl, rfl, hH, hB, hz, q⟩ := h
  cases rx
  cases ry
  obtain ⟨its, r, p1, _⟩ := I.list hH
  obtain ⟨its2, r2, p2, _⟩ := I.list hB
  have e1 := r.length
  have e2 := r2.length
  obtain ⟨⟨cls, dd, data, sl⟩, n, ho, hc, _, hd⟩ := p1
  obtain ⟨⟨cls2, dd2, data2, sl2⟩, n2, ho2, hc2, _, hd2⟩ := p2
  simp only at hc hd hc2 hd2
  subst hc hd hc2 hd2
  have ea : its.toArray ++ its2.toArray = (its ++ its2).toArray := by simp
  refine concat_meets ⟨_, ho, rfl⟩ ⟨_, ho2, rfl⟩ noFill_list_add seq_list_add PySem.F.slot_list_add PySem.F.entry_list_add (PySem.F.args_list_add_2 _ _) (list_addW l b its.toArray its2.toArray n n2 dd dd2 sl sl2 (by rw [List.size_toArray, List.size_toArray]; omega)) ⟨ho, ho2, ?_⟩
  rw [ea]
  exact ⟨.ref _, _, I.lnew (t' := s.toks) (r.append r2) (by rw [List.length_append]; omega), rfl, q _ I.fresh⟩
end L3
/-! L3u: unpacking a list -/
namespace L3
open PySem PySem.Spec PyProof.Rows L2
section
variable {prog : Program} {w : World} {A : Around} {E : Value → Shared → Prop} {s : Shared}
theorem draw_list {it l : Addr} {items : Array Value} (hne : l ≠ it) : ∀ (n i : Nat) (s : Shared) (Q : List Value → Shared → Prop), s.heap.IsListIter it l i → PlainL s.heap l items → i + n ≤ items.size →
    (∀ h', h'.IsListIter it l (i + n) → Heap.SameBut it s.heap h' → Q ((items.toList.drop i).take n) { s with heap := h' }) → wpAny (model prog w) A (draw (.ref it) n) Q E s
  | 0, i, s, Q, hit, _, _, hQ => by
    show wpAny _ _ (pure []) Q E s
    exact wpAny_pure (by simpa using hQ s.heap hit (Heap.SameBut.refl ..))
  | n + 1, i, s, Q, hit, ht, hle, hQ => by
    have hlt : i < items.size := by omega
    show wpAny _ _ (pyNext (.ref it) >>= _) Q E s
    refine wpAny_bind (wpAny_pyNext_list_item hit ht.isList (x := items[i]) (by simp [hlt]) fun h₁ hit₁ hs₁ => ?_)
    refine wpAny_bind (wpAny_holding (draw_list hne n (i + 1) _ _ hit₁ (ht.extBut hs₁.extBut hne) (by omega) fun h₂ hit₂ hs₂ => wpAny_pure ?_))
    have hd : items.toList.drop i = items[i] :: items.toList.drop (i + 1) := by simp [List.drop_eq_getElem_cons, hlt]
    have := hQ h₂ (by rw [show i + (n + 1) = i + 1 + n by omega]; exact hit₂) (hs₁.trans hs₂)
    rw [hd, List.take_succ_cons] at this
    exact this
theorem unpackItems_list {l : Addr} {items : Array Value} {Q : List Value → Shared → Prop} (hh : A.handled = none) (ht : PlainL s.heap l items)
    (hQ : ∀ h', Heap.ExtBut s.heap.objs.size s.heap h' → Q items.toList { s with heap := h' }) : wpAny (model prog w) A (unpackItems (.ref l) items.size none) Q E s := by
  have hlt : l ≠ s.heap.objs.size := by obtain ⟨o, n, ho, _⟩ := ht; exact Nat.ne_of_lt (Heap.lt_size ho)
  unfold unpackItems
  refine wpAny_bind ?_
  · unfold notIterableAtAll
    refine wpAny_bind (wpAny_specialOf ht.isList.typeIs slot_list_iter.lookup ?_)
    refine wpAny_pure ?_
    simp only [Bool.false_eq_true, if_false]
    refine wpAny_bind (wpAny_holding (wpAny_pyIter_list ht.isList ?_))
    have ht0 : PlainL (s.heap.push { cls := .type "list_iterator", data := .fields #[.ref l, .int 0 0] }) l items := ht.keeps fun b o e => Heap.get?_push_of_some _ e
    refine wpAny_bind (wpAny_holding (draw_list hlt items.size 0 _ _ ⟨_, Heap.get?_push_size _ rfl, rfl, rfl⟩ ht0 (by omega) fun h₁ hit₁ hs₁ => ?_))
    have hall : List.take items.size (List.drop 0 items.toList) = items.toList := by
      rw [List.drop_zero]; exact List.take_of_length_le (by simp)
    rw [hall]
    rw [if_neg (by simp)]
    have ht₁ : PlainL h₁ l items := ht0.extBut hs₁.extBut hlt
    refine wpAny_bind (wpAny_holding (wpAny_pyNext_list_end hh hit₁ ht₁.isList (by simp) fun h₂ he₂ => ?_))
    simp only [Option.isSome_none, Bool.false_eq_true, if_false]
    refine wpAny_pure (hQ h₂ fun b o hb e => he₂ b o hb (hs₁.extBut b o hb (Heap.get?_push_of_some _ e)))
theorem assign_Tuple_list {env : Env} {elts : List Expr} {x1} {pos : Pos} {l : Addr} {items : Array Value} {Q : Unit → Shared → Prop} (hh : A.handled = none) (ht : PlainL s.heap l items)
    (hn : (assignEach elts env).length = items.size) (hstar : (assignEach elts env).findIdx? (·.1) = none)
    (h : ∀ h', Heap.ExtBut s.heap.objs.size s.heap h' → wpAny (model prog w) A (assignInOrder ((assignEach elts env).map (·.2)) items.toList) Q E { s with heap := h' }) :
    wpAny (model prog w) A (assign (.Tuple elts x1 pos) env (.ref l)) Q E s := by
  rw [assign_Tuple]
  refine wpAny_bind (wpAny_standAt ?_)
  unfold unpack
  rw [hn, hstar]
  exact wpAny_bind (wpAny_holding (unpackItems_list hh ht h))
end
/-- a, b = xs of a tuple or of a list -/
def gSeqT (K : PySem.W.Frag) (n : Nat) (t : TGs) : TG := fun v σ H Q => ∃ a xs, v = .ref a ∧ (SqT K H a xs ∨ SqL K H a xs) ∧ xs.length = n ∧ t xs σ H Q
section
variable {X : Cx} {pos : Pos}
theorem pg_seq {es : List Expr} {k : Nat} {t : TGs} {n : Nat} (hc : X.calm = true) (h : PGs X es t)
    (hn : (assignEach es X.env).length = n := by rfl) (hst : (assignEach es X.env).findIdx? (·.1) = none := by rfl) : PG X (.Tuple es k pos) (gSeqT X.K n t) := by
  refine ⟨fun pins s σ H v u Q I r hw => ?_⟩
  obtain ⟨a, xs, e1, hq, hl, hw⟩ := hw
  subst e1
  cases r
  rcases hq with hq | hq
  · obtain ⟨its, rv, ht, hz⟩ := I.tuple hq
    refine assign_Tuple_tuple (I.ok.hd hc) ht (by simp [hn, ← hl, rv.length]) hst fun h' hx => ?_
    have I1 : Inv X pins σ H { s with heap := h' } := I.kept (t' := s.toks) fun b o e => hx b o (Nat.ne_of_lt (Heap.lt_size e)) e
    exact h.run pins _ σ H xs _ Q I1 (by simpa using rv) hw
  · obtain ⟨its, rv, ht, hz⟩ := I.list hq
    refine assign_Tuple_list (I.ok.hd hc) ht (by simp [hn, ← hl, rv.length]) hst fun h' hx => ?_
    have I1 : Inv X pins σ H { s with heap := h' } := I.kept (t' := s.toks) fun b o e => hx b o (Nat.ne_of_lt (Heap.lt_size e)) e
    exact h.run pins _ σ H xs _ Q I1 (by simpa using rv) hw
end
end L3
namespace L3
open PySem L2
/-! ### ints -/
def qI0 (g : Int → Int → D) : D → D → Mem → DK → Prop := fun x y m Φ => match x, y with | .int i, .int j => Φ (g i j) m | _, _ => False
def qIC (C : Int → Int → Prop) (g : Int → Int → D) : D → D → Mem → DK → Prop := fun x y m Φ => match x, y with | .int i, .int j => C i j ∧ Φ (g i j) m | _, _ => False
section
variable {X : Cx}
theorem do_I0 {f : Value → Value → Sem Value} {g : Int → Int → V} (g' : Int → Int → D) (h : OpR X f (rI0 g)) (r : ∀ G i j, RV X.K G (g' i j) (g i j)) : OpR X f (liftR X.K (qI0 g')) := op_imp h fun x y H Q ⟨G, m, dx, dy, Φ, rm, rx, ry, q, k⟩ => by
  cases dx with
  | int i => cases dy with
    | int j => exact ⟨i, j, rx, ry, k G _ m _ H (Sub.refl G) rm (r G i j) q⟩
    | _ => exact q.elim
  | _ => exact q.elim
theorem do_IC {f : Value → Value → Sem Value} {C : Int → Int → Prop} {g : Int → Int → V} (g' : Int → Int → D) (h : OpR X f (rI C g)) (r : ∀ G i j, RV X.K G (g' i j) (g i j)) : OpR X f (liftR X.K (qIC C g')) := op_imp h fun x y H Q ⟨G, m, dx, dy, Φ, rm, rx, ry, q, k⟩ => by
  cases dx with
  | int i => cases dy with
    | int j => exact ⟨i, j, rx, ry, q.1, k G _ m _ H (Sub.refl G) rm (r G i j) q.2⟩
    | _ => exact q.elim
  | _ => exact q.elim
theorem do_sub : OpR X (binaryOp .Sub) (liftR X.K (qI0 fun i j => .int (i - j))) := do_I0 _ op_sub fun _ _ _ => rfl
theorem do_isub : OpR X (inplaceOp .Sub) (liftR X.K (qI0 fun i j => .int (i - j))) := do_I0 _ iop_sub fun _ _ _ => rfl
def CM (i j : Int) : Prop := CMul i j ∨ CMulW i j
theorem do_mul : OpR X (binaryOp .Mult) (liftR X.K (qIC CM fun i j => .int (i * j))) := do_IC _ (C := CM) (g := fun i j => .int (i * j)) (op_imp (OpR.or op_mul op_mulW) fun x y H Q ⟨i, j, h1, h2, c, q⟩ => c.elim (fun c => .inl ⟨i, j, h1, h2, c, q⟩) fun c => .inr ⟨i, j, h1, h2, c, q⟩) fun _ _ _ => rfl
theorem do_fdiv : OpR X (binaryOp .FloorDiv) (liftR X.K (qIC CDivW fun i j => .int (i / j))) := do_IC _ op_fdivW fun _ _ _ => rfl
theorem do_mod : OpR X (binaryOp .Mod) (liftR X.K (qIC (fun _ j => 0 < j) fun i j => .int (i % j))) := do_IC _ op_mod fun _ _ _ => rfl
theorem do_pow : OpR X (binaryOp .Pow) (liftR X.K (qIC CPow fun i j => .int (i ^ j.toNat))) := do_IC _ op_pow fun _ _ _ => rfl
theorem do_shl : OpR X (binaryOp .LShift) (liftR X.K (qIC CPow fun i j => .int (i * 2 ^ j.toNat))) := do_IC _ op_shl fun _ _ _ => rfl
theorem do_lt : OpR X (compareOp .Lt) (liftR X.K (qI0 fun i j => .bl (decide (i < j)))) := do_I0 _ op_lt fun _ _ _ => rfl
theorem do_le : OpR X (compareOp .LtE) (liftR X.K (qI0 fun i j => .bl (decide (i ≤ j)))) := do_I0 _ op_le fun _ _ _ => rfl
theorem do_gt : OpR X (compareOp .Gt) (liftR X.K (qI0 fun i j => .bl (decide (j < i)))) := do_I0 _ op_gt fun _ _ _ => rfl
theorem do_ge : OpR X (compareOp .GtE) (liftR X.K (qI0 fun i j => .bl (decide (j ≤ i)))) := do_I0 _ op_ge fun _ _ _ => rfl
/-- +: ints, texts, lists (a new list that may change) -/
def qAdd : D → D → Mem → DK → Prop := fun x y m Φ => match x, y with
  | .int i, .int j => Φ (.int (i + j)) m
  | .str i, .str j => i.length + j.length ≤ sizeLine ∧ Φ (.str (i ++ j)) m
  | .ref a, .ref b => ∃ xs ys, m a = some (.lst xs) ∧ m b = some (.lst ys) ∧ xs.length + ys.length ≤ sizeLine ∧ ∀ p, m p = none → Φ (.ref p) (mset m p (.lst (xs ++ ys)))
  | .lst xs, .lst ys => xs.length + ys.length ≤ sizeLine ∧ Φ (.lst (xs ++ ys)) m
  | .ref a, .lst ys => ∃ xs, m a = some (.lst xs) ∧ xs.length + ys.length ≤ sizeLine ∧ Φ (.lst (xs ++ ys)) m
  | .lst xs, .ref b => ∃ ys, m b = some (.lst ys) ∧ xs.length + ys.length ≤ sizeLine ∧ Φ (.lst (xs ++ ys)) m
  | _, _ => False
theorem add_lift {f : Value → Value → Sem Value} (h1 : OpR X f (rI0 fun i j => .int (i + j))) (h2 : OpR X f (fun x y H Q => ∃ i j, x = .str i ∧ y = .str j ∧ i.length + j.length ≤ sizeLine ∧ Q (.str (i ++ j)) H)) (h3 : OpR X f (rCatQ X.K)) :
    OpR X f (liftR X.K qAdd) := op_imp (OpR.or h1 (OpR.or h2 h3)) fun x y H Q ⟨G, m, dx, dy, Φ, rm, rx, ry, q, k⟩ => by
  cases dx with
  | int i => cases dy with
    | int j => exact .inl ⟨i, j, rx, ry, k G (.int _) m _ H (Sub.refl G) rm rfl q⟩
    | _ => exact q.elim
  | str i => cases dy with
    | str j => exact .inr (.inl ⟨i, j, rx, ry, q.1, k G (.str _) m _ H (Sub.refl G) rm rfl q.2⟩)
    | _ => exact q.elim
  | ref a => cases dy with
    | ref b =>
      obtain ⟨xs, ys, hx, hy, hl, q⟩ := q
      obtain ⟨_, u, hu, vs, rfl, r1⟩ := rm.mem a _ hx
      obtain ⟨_, u', hu', ws, rfl, r2⟩ := rm.mem b _ hy
      exact .inr (.inr ⟨a, b, vs, ws, rx, ry, .inl (.inl hu), .inl (.inl hu'), by rw [← r1.length, ← r2.length]; exact hl, lift_lstM rm (r1.append r2) q k⟩)
    | lst ys =>
      obtain ⟨xs, hx, hl, q⟩ := q
      obtain ⟨_, u, hu, vs, rfl, r1⟩ := rm.mem a _ hx
      obtain ⟨b, ws, rfl, h1, r2⟩ := ry
      exact .inr (.inr ⟨a, b, vs, ws, rx, rfl, .inl (.inl hu), rm.sub.l h1, by rw [← r1.length, ← r2.length]; exact hl, lift_lstF rm (r1.append r2) q k⟩)
    | _ => exact q.elim
  | lst xs => cases dy with
    | lst ys =>
      obtain ⟨a, vs, rfl, h0, r1⟩ := rx
      obtain ⟨b, ws, rfl, h1, r2⟩ := ry
      exact .inr (.inr ⟨a, b, vs, ws, rfl, rfl, rm.sub.l h0, rm.sub.l h1, by rw [← r1.length, ← r2.length]; exact q.1, lift_lstF rm (r1.append r2) q.2 k⟩)
    | ref b =>
      obtain ⟨ys, hx, hl, q⟩ := q
      obtain ⟨a, vs, rfl, h0, r1⟩ := rx
      obtain ⟨_, u, hu, ws, rfl, r2⟩ := rm.mem b _ hx
      exact .inr (.inr ⟨a, b, vs, ws, rfl, ry, rm.sub.l h0, .inl (.inl hu), by rw [← r1.length, ← r2.length]; exact hl, lift_lstF rm (r1.append r2) q k⟩)
    | _ => exact q.elim
  | _ => exact q.elim
theorem do_add : OpR X (binaryOp .Add) (liftR X.K qAdd) := add_lift op_add op_add_str op_catQ
def qIAdd : D → D → Mem → DK → Prop := fun x y m Φ => match x, y with
  | .int i, .int j => Φ (.int (i + j)) m
  | .str i, .str j => i.length + j.length ≤ sizeLine ∧ Φ (.str (i ++ j)) m
  | _, _ => False
theorem do_iadd : OpR X (inplaceOp .Add) (liftR X.K qIAdd) := op_imp (OpR.or iop_add iop_add_str) fun x y H Q ⟨G, m, dx, dy, Φ, rm, rx, ry, q, k⟩ => by
  cases dx with
  | int i => cases dy with
    | int j => exact .inl ⟨i, j, rx, ry, k G (.int _) m _ H (Sub.refl G) rm rfl q⟩
    | _ => exact q.elim
  | str i => cases dy with
    | str j => exact .inr ⟨i, j, rx, ry, q.1, k G (.str _) m _ H (Sub.refl G) rm rfl q.2⟩
    | _ => exact q.elim
  | _ => exact q.elim
/-- -e -/
def qNeg (qa : QE) : QE := fun s m Φ => qa s m fun x m1 => match x with | .int i => Φ (.int (-i)) m1 | _ => False
theorem de_neg {a : Expr} {qa : QE} {pos : Pos} (ha : PE X a (liftE X.K qa)) : PE X (.UnaryOp .USub a pos) (liftE X.K (qNeg qa)) := pe_imp (pe_un un_neg ha) fun σ H Q ⟨G, s, m, Φ, rm, rs, q, k⟩ => ⟨G, s, m, _, rm, rs, q, fun G1 x m1 v H1 e1 r1 rx q1 => by
  cases x with
  | int i => exact ⟨i, rx, k G1 (.int (-i)) m1 _ H1 e1 r1 rfl q1⟩
  | _ => exact q1.elim⟩
end
/-! ### data as a whole -/
mutual
def toPy : D → Option PyData
  | .non => some .none
  | .bl b => some (.bool b)
  | .int i => some (.int i)
  | .str x => some (.str x)
  | .tup ds => (toPys ds).map .tuple
  | .lst ds => (toPys ds).map .list
  | .ref _ => none
def toPys : List D → Option (List PyData)
  | [] => some []
  | d :: ds => match toPy d, toPys ds with
    | some p, some ps => some (p :: ps)
    | _, _ => none
end
section
variable {K : PySem.W.Frag} {G H : Hp}
mutual
theorem RV.dp (e : Sub G H) : ∀ (d : D) {v : V} {p : PyData}, RV K G d v → toPy d = some p → Dp K H v p
  | .non, v, p, h, t => by
    obtain rfl : v = .non := h
    obtain rfl : PyData.none = p := Option.some.inj t
    exact .non
  | .bl b, v, p, h, t => by
    obtain rfl : v = .bl b := h
    obtain rfl : PyData.bool b = p := Option.some.inj t
    exact .bl b
  | .int b, v, p, h, t => by
    obtain rfl : v = .int b := h
    obtain rfl : PyData.int b = p := Option.some.inj t
    exact .int b
  | .str b, v, p, h, t => by
    obtain rfl : v = .str b := h
    obtain rfl : PyData.str b = p := Option.some.inj t
    exact .str b
  | .ref _, v, p, h, t => by cases t
  | .tup ds, v, p, ⟨a, xs, h1, h2, h3⟩, t => by
    subst h1
    rw [toPy] at t
    cases e1 : toPys ds with
    | none => rw [e1] at t; cases t
    | some ps =>
      rw [e1] at t
      obtain rfl : PyData.tuple ps = p := Option.some.inj t
      exact .tup (e.t h2) (RVs.dp e ds h3 e1)
  | .lst ds, v, p, ⟨a, xs, h1, h2, h3⟩, t => by
    subst h1
    rw [toPy] at t
    cases e1 : toPys ds with
    | none => rw [e1] at t; cases t
    | some ps =>
      rw [e1] at t
      obtain rfl : PyData.list ps = p := Option.some.inj t
      exact .lst (e.l h2) (RVs.dp e ds h3 e1)
theorem RVs.dp (e : Sub G H) : ∀ (ds : List D) {vs : List V} {ps : List PyData}, RVs K G ds vs → toPys ds = some ps → DpAll K H vs ps
  | [], vs, ps, h, t => by
    rw [show vs = [] from h]
    obtain rfl : [] = ps := Option.some.inj t
    exact .nil
  | d :: ds, vs, ps, ⟨x, r, h1, h2, h3⟩, t => by
    subst h1
    rw [toPys] at t
    cases e1 : toPy d with
    | none => rw [e1] at t; cases t
    | some p =>
      cases e2 : toPys ds with
      | none => rw [e1, e2] at t; cases t
      | some qs =>
        rw [e1, e2] at t
        obtain rfl : p :: qs = ps := Option.some.inj t
        exact .cons (RV.dp e d h2 e1) (RVs.dp e ds h3 e2)
end
/-- the data at d, a changing list's items read off the memory -/
def pyOf (m : Mem) (d : D) (p : PyData) : Prop := toPy d = some p ∨ ∃ a ds ps, d = .ref a ∧ m a = some (.lst ds) ∧ toPys ds = some ps ∧ p = .list ps
theorem py_lift {m : Mem} {d : D} {v : V} {p : PyData} (rm : RelM K m G H) (rv : RV K G d v) (h : pyOf m d p) : Dp K H v p := by
  rcases h with h | ⟨a, ds, ps, rfl, hm, h, rfl⟩
  · exact RV.dp rm.sub d rv h
  · obtain rfl : v = .ref a := rv
    obtain ⟨_, u, hu, xs, rfl, h2⟩ := rm.mem a _ hm
    exact .lst (.inl (.inl hu)) (RVs.dp rm.sub ds h2 h)
end
def qEq : D → D → Mem → DK → Prop := fun x y m Φ => ∃ p q, pyOf m x p ∧ pyOf m y q ∧ SeqAt.shaped p = true ∧ SeqAt.shaped q = true ∧ Φ (.bl (PyData.eqv p q)) m
def qNe : D → D → Mem → DK → Prop := fun x y m Φ => ∃ p q, pyOf m x p ∧ pyOf m y q ∧ SeqAt.shaped p = true ∧ SeqAt.shaped q = true ∧ Φ (.bl (!PyData.eqv p q)) m
/-- x in a list (or a tuple of flat items) -/
def qIn : D → D → Mem → DK → Prop := fun x y m Φ => ∃ p qs, toPy x = some p ∧ pyOf m y (.list qs) ∧ SeqAt.shaped p = true ∧ SeqAt.shaped (.list qs) = true ∧ Φ (.bl (qs.any fun z => PyData.eqv z p)) m
def qNotIn : D → D → Mem → DK → Prop := fun x y m Φ => ∃ p qs, toPy x = some p ∧ pyOf m y (.list qs) ∧ SeqAt.shaped p = true ∧ SeqAt.shaped (.list qs) = true ∧ Φ (.bl (!(qs.any fun z => PyData.eqv z p))) m
/-- is None -/
def isNonD : D → Bool | .non => true | _ => false
def qIsN : D → D → Mem → DK → Prop := fun x y m Φ => match y with | .non => Φ (.bl (isNonD x)) m | _ => False
def qNotN : D → D → Mem → DK → Prop := fun x y m Φ => match y with | .non => Φ (.bl (!isNonD x)) m | _ => False
theorem RV.isNon {K : PySem.W.Frag} {G : Hp} {d : D} {v : V} (h : RV K G d v) : decide (v = .non) = isNonD d := by
  cases d with
  | non => obtain rfl : v = .non := h; rfl
  | tup ds => obtain ⟨a, xs, rfl, _⟩ := h; rfl
  | lst ds => obtain ⟨a, xs, rfl, _⟩ := h; rfl
  | bl b => obtain rfl : v = .bl b := h; rfl
  | int b => obtain rfl : v = .int b := h; rfl
  | str b => obtain rfl : v = .str b := h; rfl
  | ref b => obtain rfl : v = .ref b := h; rfl
section
variable {X : Cx}
theorem do_eq (hu : X.A.units + 64 < cLine) : OpR X (compareOp .Eq) (liftR X.K qEq) := op_imp (op_eqD hu) fun x y H Q ⟨G, m, dx, dy, Φ, rm, rx, ry, ⟨p, q, h1, h2, s1, s2, h⟩, k⟩ =>
  ⟨p, q, py_lift rm rx h1, py_lift rm ry h2, s1, s2, k G (.bl _) m _ H (Sub.refl G) rm rfl h⟩
theorem do_ne (hu : X.A.units + 64 < cLine) : OpR X (compareOp .NotEq) (liftR X.K qNe) := op_imp (op_neD hu) fun x y H Q ⟨G, m, dx, dy, Φ, rm, rx, ry, ⟨p, q, h1, h2, s1, s2, h⟩, k⟩ =>
  ⟨p, q, py_lift rm rx h1, py_lift rm ry h2, s1, s2, k G (.bl _) m _ H (Sub.refl G) rm rfl h⟩
theorem do_in (hu : X.A.units + 65 < cLine) : OpR X (compareOp .In) (liftR X.K qIn) := op_imp (op_inD hu) fun x y H Q ⟨G, m, dx, dy, Φ, rm, rx, ry, ⟨p, q, h1, h2, s1, s2, h⟩, k⟩ =>
  ⟨p, q, RV.dp rm.sub dx rx h1, py_lift rm ry h2, s1, s2, k G (.bl _) m _ H (Sub.refl G) rm rfl h⟩
theorem do_notIn (hu : X.A.units + 65 < cLine) : OpR X (compareOp .NotIn) (liftR X.K qNotIn) := op_imp (op_notInD hu) fun x y H Q ⟨G, m, dx, dy, Φ, rm, rx, ry, ⟨p, q, h1, h2, s1, s2, h⟩, k⟩ =>
  ⟨p, q, RV.dp rm.sub dx rx h1, py_lift rm ry h2, s1, s2, k G (.bl _) m _ H (Sub.refl G) rm rfl h⟩
theorem do_isN : OpR X (compareOp .Is) (liftR X.K qIsN) := op_imp op_isN fun x y H Q ⟨G, m, dx, dy, Φ, rm, rx, ry, h, k⟩ => by
  cases dy with
  | non => exact ⟨ry, by rw [rx.isNon]; exact k G (.bl _) m _ H (Sub.refl G) rm rfl h⟩
  | _ => exact h.elim
theorem do_notN : OpR X (compareOp .IsNot) (liftR X.K qNotN) := op_imp op_notN fun x y H Q ⟨G, m, dx, dy, Φ, rm, rx, ry, h, k⟩ => by
  cases dy with
  | non => exact ⟨ry, by rw [rx.isNon]; exact k G (.bl _) m _ H (Sub.refl G) rm rfl h⟩
  | _ => exact h.elim
end
/-! ### subscripts -/
/-- xs[i] of a list, a tuple, a text -/
def qIx : D → D → Mem → DK → Prop := fun x y m Φ => match x, y with
  | .tup ds, .int i => ∃ d, atI ds i = some d ∧ Φ d m
  | .lst ds, .int i => ∃ d, atI ds i = some d ∧ Φ d m
  | .ref a, .int i => ∃ ds d, m a = some (.lst ds) ∧ atI ds i = some d ∧ Φ d m
  | .str z, .int i => ∃ c, z.length ≤ sizeLine ∧ atI z.cps.toList i = some c ∧ Φ (.str ⟨#[c]⟩) m
  | _, _ => False
theorem RVs.atI {K : PySem.W.Frag} {G : Hp} {ds : List D} {xs : List V} {i : Int} {d : D} (r : RVs K G ds xs) (h : L2.atI ds i = some d) : ∃ v, L2.atI xs i = some v ∧ RV K G d v := by
  unfold L2.atI at h ⊢
  rw [← r.length]
  cases e : ixN ds.length i with
  | none => rw [e] at h; cases h
  | some j =>
    rw [e] at h
    obtain ⟨v, h1, h2⟩ := r.get (i := j) (d := d) h
    exact ⟨v, h1, h2⟩
section
variable {X : Cx} {a b : Expr} {qa qb : QE} {pos : Pos}
theorem ix_lift {K : PySem.W.Frag} {x y : V} {H : Hp} {Q : VK} (h : liftR K qIx x y H Q) : rIx K x y H Q := by
  obtain ⟨G, m, dx, dy, Φ, rm, rx, ry, q, k⟩ := h
  cases dx with
  | tup ds => cases dy with
    | int i =>
      obtain ⟨d, h1, h2⟩ := q
      obtain ⟨p, xs, rfl, e1, e2⟩ := rx
      obtain ⟨v, e3, e4⟩ := e2.atI h1
      exact .inr (.inl ⟨p, xs, i, v, rfl, ry, rm.sub.t e1, e3, k G d m v H (Sub.refl G) rm e4 h2⟩)
    | _ => exact q.elim
  | lst ds => cases dy with
    | int i =>
      obtain ⟨d, h1, h2⟩ := q
      obtain ⟨p, xs, rfl, e1, e2⟩ := rx
      obtain ⟨v, e3, e4⟩ := e2.atI h1
      exact .inl ⟨p, xs, i, v, rfl, ry, rm.sub.l e1, e3, k G d m v H (Sub.refl G) rm e4 h2⟩
    | _ => exact q.elim
  | ref p => cases dy with
    | int i =>
      obtain ⟨ds, d, hm, h1, h2⟩ := q
      obtain rfl : x = .ref p := rx
      obtain ⟨_, u, hu, xs, rfl, e2⟩ := rm.mem p _ hm
      obtain ⟨v, e3, e4⟩ := e2.atI h1
      exact .inl ⟨p, xs, i, v, rfl, ry, .inl (.inl hu), e3, k G d m v H (Sub.refl G) rm e4 h2⟩
    | _ => exact q.elim
  | str z => cases dy with
    | int i =>
      obtain ⟨c, h0, h1, h2⟩ := q
      exact .inr (.inr ⟨z, i, c, rx, ry, h0, h1, k G (.str _) m _ H (Sub.refl G) rm rfl h2⟩)
    | _ => exact q.elim
  | _ => exact q.elim
theorem de_ix (ha : PE X a (liftE X.K qa)) (hb : PE X b (liftE X.K qb)) (hs : PlainIx b := by exact fun _ _ => rfl) : PE X (.Subscript a b pos) (liftE X.K (qOp qIx qa qb)) :=
  pe_imp (pe_ix (ix_imp ix_seq fun x y H Q h => ix_lift (K := X.K) h) ha hb hs) lift_op
/-- a key -/
def keyD : D → Option Key
  | .int i => some (.inl i)
  | .str x => some (.inr x)
  | _ => none
def keysD : List D → Option (List Key)
  | [] => some []
  | d :: ds => match keyD d, keysD ds with
    | some k, some ks => some (k :: ks)
    | _, _ => none
theorem RV.key {K : PySem.W.Frag} {G : Hp} {d : D} {v : V} {k : Key} (r : RV K G d v) (h : keyD d = some k) : v = kV k := by
  cases d <;> first | (cases h; exact r) | cases h
theorem RVs.keys {K : PySem.W.Frag} {G : Hp} : ∀ {ds : List D} {vs : List V} {ks : List Key}, RVs K G ds vs → keysD ds = some ks → vs = ks.map kV
  | [], vs, ks, r, h => by
    obtain rfl : [] = ks := Option.some.inj h
    exact r
  | d :: ds, vs, ks, ⟨x, q, h1, h2, h3⟩, h => by
    subst h1
    rw [keysD] at h
    cases e1 : keyD d with
    | none => rw [e1] at h; cases h
    | some k =>
      cases e2 : keysD ds with
      | none => rw [e1, e2] at h; cases h
      | some js =>
        rw [e1, e2] at h
        obtain rfl : k :: js = ks := Option.some.inj h
        rw [h2.key e1, RVs.keys h3 e2]; rfl
/-- what a dict at a holds at y -/
def dGet (m : Mem) (a : Addr) (y : D) (o : Option D) : Prop := ∃ ks k, (m a = some (.dK ks) ∨ m a = some (.fz ks)) ∧ keyD y = some k ∧ o = valD ks k
theorem dget_lift {K : PySem.W.Frag} {G H : Hp} {m : Mem} {a : Addr} {y : D} {v : V} {o : Option D} (rm : RelM K m G H) (ry : RV K G y v) (g : dGet m a y o) : ∃ o', DGet H a v o' ∧ RVo K G o o' := by
  obtain ⟨ks, k, hm, hk, rfl⟩ := g
  have ev := ry.key hk
  rcases hm with hm | hm
  · obtain ⟨_, u, hu, xs, rfl, r⟩ := rm.mem a _ hm
    exact ⟨valV xs k, .inl ⟨xs, k, .inl hu, ev, rfl⟩, r.val k⟩
  · obtain ⟨_, u, hu, ob, xs, rfl, r⟩ := rm.mem a _ hm
    exact ⟨valV xs k, .inl ⟨xs, k, .inr ⟨ob, hu⟩, ev, rfl⟩, r.val k⟩
/-- d[y] -/
def qDGet (qd qy : QE) : QE := fun s m Φ => qd s m fun x m1 => qy s m1 fun y m2 => match x with
  | .ref a => ∃ d, dGet m2 a y (some d) ∧ Φ d m2
  | _ => False
theorem de_dget (hu : X.A.units + 1 < cLine) (ho : PE X a (liftE X.K qa)) (hi : PE X b (liftE X.K qb)) (hs : NoSl b := by exact fun _ _ => rfl) : PE X (.Subscript a b pos) (liftE X.K (qDGet qa qb)) :=
  pe_imp (pe_dget hu ho hi hs) fun σ H Q ⟨G, s, m, Φ, rm, rs, q, k⟩ => ⟨G, s, m, _, rm, rs, q, fun G1 x m1 v H1 e1 r1 rx q1 => ⟨G1, s, m1, _, r1, rs.mono e1, q1, fun G2 y m2 u H2 e2 r2 ry q2 => by
    cases x with
    | ref p =>
      obtain rfl : v = .ref p := rx
      obtain ⟨d, g, q2⟩ := q2
      obtain ⟨o', g', ro⟩ := dget_lift r2 ry g
      obtain ⟨w, rfl, rw'⟩ := ro.some
      exact ⟨p, w, rfl, g', k G2 d m2 w H2 (e1.trans e2) r2 rw' q2⟩
    | _ => exact q2.elim⟩⟩
/-- y in d -/
def qDIn (neg : Bool) (qy qd : QE) : QE := fun s m Φ => qy s m fun y m1 => qd s m1 fun x m2 => match x with
  | .ref a => ∃ o, dGet m2 a y o ∧ Φ (.bl (if neg then !o.isSome else o.isSome)) m2
  | _ => False
theorem lift_din {K : PySem.W.Frag} : ∀ σ H Q, liftE K (qDIn false qa qb) σ H Q → tDIn (liftE K qa) (liftE K qb) σ H Q := fun σ H Q ⟨G, s, m, Φ, rm, rs, q, k⟩ => ⟨G, s, m, _, rm, rs, q, fun G1 y m1 v H1 e1 r1 ry q1 => ⟨G1, s, m1, _, r1, rs.mono e1, q1, fun G2 x m2 u H2 e2 r2 rx q2 => by
    cases x with
    | ref p =>
      obtain rfl : u = .ref p := rx
      obtain ⟨o, g, q2⟩ := q2
      obtain ⟨o', g', ro⟩ := dget_lift r2 (RV.mono e2 y ry) g
      exact ⟨p, o', rfl, g', by rw [← ro.isSome]; exact k G2 (.bl _) m2 _ H2 (e1.trans e2) r2 rfl q2⟩
    | _ => exact q2.elim⟩⟩
theorem lift_dnotin {K : PySem.W.Frag} : ∀ σ H Q, liftE K (qDIn true qa qb) σ H Q → tDNotIn (liftE K qa) (liftE K qb) σ H Q := fun σ H Q ⟨G, s, m, Φ, rm, rs, q, k⟩ => ⟨G, s, m, _, rm, rs, q, fun G1 y m1 v H1 e1 r1 ry q1 => ⟨G1, s, m1, _, r1, rs.mono e1, q1, fun G2 x m2 u H2 e2 r2 rx q2 => by
    cases x with
    | ref p =>
      obtain rfl : u = .ref p := rx
      obtain ⟨o, g, q2⟩ := q2
      obtain ⟨o', g', ro⟩ := dget_lift r2 (RV.mono e2 y ry) g
      exact ⟨p, o', rfl, g', by rw [← ro.isSome]; exact k G2 (.bl _) m2 _ H2 (e1.trans e2) r2 rfl q2⟩
    | _ => exact q2.elim⟩⟩
theorem dc_din (hu : X.A.units + 1 < cLine) (ha : PE X a (liftE X.K qa)) (hb : PE X b (liftE X.K qb)) : PC X .In a b (liftE X.K (qDIn false qa qb)) := ⟨fun pins s σ H Q I w => (pc_din hu ha hb).run pins s σ H Q I (lift_din σ H Q w)⟩
theorem dc_dnotin (hu : X.A.units + 1 < cLine) (ha : PE X a (liftE X.K qa)) (hb : PE X b (liftE X.K qb)) : PC X .NotIn a b (liftE X.K (qDIn true qa qb)) := ⟨fun pins s σ H Q I w => (pc_dnotin hu ha hb).run pins s σ H Q I (lift_dnotin σ H Q w)⟩
theorem dt_pc {op : CmpOp} (h : PC X op a b (liftE X.K qa)) (h1 : behindInMarks op b = false := by first | exact nobehind _ (by decide) (by decide) | rfl) : PT X (.Compare a [op] [b] pos) (liftT X.K (qB qa)) := pt_imp (pt_cmp h h1) lift_B
theorem de_pc {op : CmpOp} (h : PC X op a b (liftE X.K qa)) (h1 : behindInMarks op b = false := by first | exact nobehind _ (by decide) (by decide) | rfl) : PE X (.Compare a [op] [b] pos) (liftE X.K qa) := pe_cmp h h1
theorem isD_lift {K : PySem.W.Frag} {G H : Hp} {m : Mem} {a : Addr} (rm : RelM K m G H) (h : ∃ ks, m a = some (.dK ks) ∨ m a = some (.fz ks)) : IsD H a := by
  obtain ⟨ks, hm | hm⟩ := h
  · obtain ⟨_, u, hu, xs, rfl, r⟩ := rm.mem a _ hm
    exact .inl ⟨xs, .inl hu⟩
  · obtain ⟨_, u, hu, ob, xs, rfl, r⟩ := rm.mem a _ hm
    exact .inl ⟨xs, .inr ⟨ob, hu⟩⟩
/-- d.get(y), d.get(y, z) -/
def qDGet1 (qd qy : QE) : QE := fun s m Φ => qd s m fun x m1 => match x with
  | .ref a => (∃ ks, m1 a = some (.dK ks) ∨ m1 a = some (.fz ks)) ∧ qy s m1 fun y m2 => ∃ o, dGet m2 a y o ∧ Φ (o.getD .non) m2
  | _ => False
theorem de_dget1 {apos cpos : Pos} (hu : X.A.units + 1 < cLine) (ho : PE X a (liftE X.K qa)) (he : PE X b (liftE X.K qb)) (m : M1 X a "get" apos b cpos := by exact ⟨rfl, rfl, rfl, rfl⟩) : PE X (.Call (.Attribute a "get" apos) [b] [] cpos) (liftE X.K (qDGet1 qa qb)) :=
  pe_imp (pe_dget1 hu ho he m) fun σ H Q ⟨G, s, m, Φ, rm, rs, q, k⟩ => ⟨G, s, m, _, rm, rs, q, fun G1 x m1 v H1 e1 r1 rx q1 => by
    cases x with
    | ref p =>
      obtain rfl : v = .ref p := rx
      obtain ⟨hd, q1⟩ := q1
      exact ⟨p, rfl, isD_lift r1 hd, G1, s, m1, _, r1, rs.mono e1, q1, fun G2 y m2 u H2 e2 r2 ry ⟨o, g, q2⟩ => by
        obtain ⟨o', g', ro⟩ := dget_lift r2 ry g
        exact ⟨o', g', k G2 _ m2 _ H2 (e1.trans e2) r2 (ro.getD (x := .non) (y := .non) rfl) q2⟩⟩
    | _ => exact q1.elim⟩
def qDGet2 (qd qy qz : QE) : QE := fun s m Φ => qd s m fun x m1 => match x with
  | .ref a => (∃ ks, m1 a = some (.dK ks) ∨ m1 a = some (.fz ks)) ∧ qy s m1 fun y m2 => qz s m2 fun z m3 => ∃ o, dGet m3 a y o ∧ Φ (o.getD z) m3
  | _ => False
theorem de_dget2 {c : Expr} {qc : QE} {apos cpos : Pos} (hu : X.A.units + 1 < cLine) (ho : PE X a (liftE X.K qa)) (he : PE X b (liftE X.K qb)) (hf : PE X c (liftE X.K qc)) (m : M2 X a "get" apos b c cpos := by exact ⟨rfl, rfl, rfl, rfl⟩) : PE X (.Call (.Attribute a "get" apos) [b, c] [] cpos) (liftE X.K (qDGet2 qa qb qc)) :=
  pe_imp (pe_dget2 hu ho he hf m) fun σ H Q ⟨G, s, m, Φ, rm, rs, q, k⟩ => ⟨G, s, m, _, rm, rs, q, fun G1 x m1 v H1 e1 r1 rx q1 => by
    cases x with
    | ref p =>
      obtain rfl : v = .ref p := rx
      obtain ⟨hd, q1⟩ := q1
      exact ⟨p, rfl, isD_lift r1 hd, G1, s, m1, _, r1, rs.mono e1, q1, fun G2 y m2 u H2 e2 r2 ry q2 => ⟨G2, s, m2, _, r2, rs.mono (e1.trans e2), q2, fun G3 z m3 w H3 e3 r3 rz ⟨o, g, q3⟩ => by
        obtain ⟨o', g', ro⟩ := dget_lift r3 (RV.mono e3 y ry) g
        exact ⟨o', g', k G3 _ m3 _ H3 ((e1.trans e2).trans e3) r3 (ro.getD rz) q3⟩⟩⟩
    | _ => exact q1.elim⟩
/-- d.pop(k), there -/
def qDPop1 (qd qy : QE) : QE := fun s m Φ => qd s m fun x m1 => match x with
  | .ref a => (∃ ks, m1 a = some (.dK ks) ∨ m1 a = some (.fz ks)) ∧ qy s m1 fun y m2 => ∃ ks k d, m2 a = some (.dK ks) ∧ keyD y = some k ∧ valD ks k = some d ∧ Φ d (mset m2 a (.dK (dropD ks k)))
  | _ => False
theorem de_dpop1 {apos cpos : Pos} (ho : PE X a (liftE X.K qa)) (he : PE X b (liftE X.K qb)) (m : M1 X a "pop" apos b cpos := by exact ⟨rfl, rfl, rfl, rfl⟩) : PE X (.Call (.Attribute a "pop" apos) [b] [] cpos) (liftE X.K (qDPop1 qa qb)) :=
  pe_imp (pe_dpop1 ho he m) fun σ H Q ⟨G, s, m, Φ, rm, rs, q, k⟩ => ⟨G, s, m, _, rm, rs, q, fun G1 x m1 v H1 e1 r1 rx q1 => by
    cases x with
    | ref p =>
      obtain rfl : v = .ref p := rx
      obtain ⟨hd, q1⟩ := q1
      exact ⟨p, rfl, isD_lift r1 hd, G1, s, m1, _, r1, rs.mono e1, q1, fun G2 y m2 u H2 e2 r2 ry ⟨ks, j, d, hm, hk, hv, q2⟩ => by
        obtain ⟨_, w, hw, xs, rfl, r⟩ := r2.mem p _ hm
        have ro := r.val j
        rw [hv] at ro
        obtain ⟨w', e3, rw'⟩ := ro.some
        exact ⟨xs, j, w', hw, ry.key hk, e3, k G2 d _ w' _ (e1.trans e2) (r2.put (o := .dK (dropD ks j)) hm ⟨_, rfl, r.drop j⟩) rw' q2⟩⟩
    | _ => exact q1.elim⟩
/-! ### slices -/
abbrev QO := DSt → Mem → (Option Int → Mem → Prop) → Prop
def KO (K : PySem.W.Frag) (G : Hp) (Φ : Option Int → Mem → Prop) (Q : Option Int → Hp → Prop) : Prop := ∀ G' o m' H', Sub G G' → RelM K m' G' H' → Φ o m' → Q o H'
def liftO (K : PySem.W.Frag) (q : QO) : TO := fun σ H Q => ∃ G s m Φ, RelM K m G H ∧ RelS K s G σ ∧ q s m Φ ∧ KO K G Φ Q
def qNoPart : QO := fun _ m Φ => Φ none m
def qPart (q : QE) : QO := fun s m Φ => q s m fun x m1 => match x with | .int i => Φ (some i) m1 | _ => False
theorem po_imp {e : Option Expr} {t t' : TO} (h : PO X e t) (i : ∀ σ H Q, t' σ H Q → t σ H Q) : PO X e t' := ⟨fun pins s σ H Q I w => h.run pins s σ H Q I (i σ H Q w)⟩
theorem do_none : PO X none (liftO X.K qNoPart) := po_imp po_none fun σ H Q ⟨G, s, m, Φ, rm, rs, q, k⟩ => k G none m H (Sub.refl G) rm q
theorem do_some {e : Expr} {qe : QE} (h : PE X e (liftE X.K qe)) : PO X (some e) (liftO X.K (qPart qe)) := po_imp (po_some h) fun σ H Q ⟨G, s, m, Φ, rm, rs, q, k⟩ => ⟨G, s, m, _, rm, rs, q, fun G1 x m1 v H1 e1 r1 rx q1 => by
  cases x with
  | int i => exact ⟨i, rx, k G1 (some i) m1 H1 e1 r1 q1⟩
  | _ => exact q1.elim⟩
def cutD (xs : List D) (lo hi : Option Int) : List D := (xs.drop (HT.sIx xs.length 0 lo)).take (HT.sIx xs.length xs.length hi - HT.sIx xs.length 0 lo)
theorem RVs.cut {K : PySem.W.Frag} {G : Hp} {ds : List D} {xs : List V} (r : RVs K G ds xs) (lo hi : Option Int) : RVs K G (cutD ds lo hi) (cutV xs lo hi) := by
  unfold cutD cutV
  rw [r.length]
  exact (r.drop _).take _
/-- xs[lo:hi] of a list: a new list, taken as one that never changes -/
def qSlL (qe : QE) (ql qh : QO) : QE := fun s m Φ => qe s m fun x m1 => ql s m1 fun l m2 => qh s m2 fun u m3 => match x with
  | .lst ds => Φ (.lst (cutD ds l u)) m3
  | .ref a => ∃ ds, m3 a = some (.lst ds) ∧ Φ (.lst (cutD ds l u)) m3
  | _ => False
theorem de_slL {e : Expr} {qe : QE} {ql qh : QO} {lo hi : Option Expr} {p2 : Pos} (he : PE X e (liftE X.K qe)) (hl : PO X lo (liftO X.K ql)) (hu : PO X hi (liftO X.K qh)) : PE X (.Subscript e (.Slice lo hi none p2) pos) (liftE X.K (qSlL qe ql qh)) :=
  pe_imp (pe_slice sl_list he hl hu) fun σ H Q ⟨G, s, m, Φ, rm, rs, q, k⟩ => ⟨G, s, m, _, rm, rs, q, fun G1 x m1 v H1 e1 r1 rx q1 => ⟨G1, s, m1, _, r1, rs.mono e1, q1, fun G2 l m2 H2 e2 r2 q2 => ⟨G2, s, m2, _, r2, rs.mono (e1.trans e2), q2, fun G3 u m3 H3 e3 r3 q3 => by
    cases x with
    | lst ds =>
      obtain ⟨a, xs, rfl, h1, h2⟩ := rx
      exact ⟨a, xs, rfl, r3.sub.l ((e2.trans e3).l h1), lift_lstF r3 (RVs.mono (e2.trans e3) _ (h2.cut l u)) q3 (k.mono ((e1.trans e2).trans e3))⟩
    | ref a =>
      obtain rfl : v = .ref a := rx
      obtain ⟨ds, hm, q3⟩ := q3
      obtain ⟨_, w, hw, xs, rfl, h2⟩ := r3.mem a _ hm
      exact ⟨a, xs, rfl, .inl (.inl hw), lift_lstF r3 (h2.cut l u) q3 (k.mono ((e1.trans e2).trans e3))⟩
    | _ => exact q3.elim⟩⟩⟩
/-- t[lo:hi], not the whole -/
def qSlT (qe : QE) (ql qh : QO) : QE := fun s m Φ => qe s m fun x m1 => ql s m1 fun l m2 => qh s m2 fun u m3 => match x with
  | .tup ds => ¬ (HT.sIx ds.length 0 l = 0 ∧ HT.sIx ds.length ds.length u = ds.length) ∧ Φ (.tup (cutD ds l u)) m3
  | _ => False
theorem de_slT {e : Expr} {qe : QE} {ql qh : QO} {lo hi : Option Expr} {p2 : Pos} (he : PE X e (liftE X.K qe)) (hl : PO X lo (liftO X.K ql)) (hu : PO X hi (liftO X.K qh)) : PE X (.Subscript e (.Slice lo hi none p2) pos) (liftE X.K (qSlT qe ql qh)) :=
  pe_imp (pe_slice sl_tup he hl hu) fun σ H Q ⟨G, s, m, Φ, rm, rs, q, k⟩ => ⟨G, s, m, _, rm, rs, q, fun G1 x m1 v H1 e1 r1 rx q1 => ⟨G1, s, m1, _, r1, rs.mono e1, q1, fun G2 l m2 H2 e2 r2 q2 => ⟨G2, s, m2, _, r2, rs.mono (e1.trans e2), q2, fun G3 u m3 H3 e3 r3 q3 => by
    cases x with
    | tup ds =>
      obtain ⟨a, xs, rfl, h1, h2⟩ := rx
      exact ⟨a, xs, rfl, r3.sub.t ((e2.trans e3).t h1), by rw [← h2.length]; exact q3.1, lift_tup r3 (RVs.mono (e2.trans e3) _ (h2.cut l u)) q3.2 (k.mono ((e1.trans e2).trans e3))⟩
    | _ => exact q3.elim⟩⟩⟩
end
/-! ### calls of built-ins -/
def qCB (r : LSp) (qa : QA) : QE := fun s m Φ => qa s m fun ds m1 => r ds m1 Φ
section
variable {X : Cx} {x : Str} {p pos : Pos} {e : Expr} {es : List Expr} {qa : QA} {id T : String} {r : LSp}
theorem lift_CB {K : PySem.W.Frag} : ∀ σ H Q, liftE K (qCB r qa) σ H Q → tCB (liftC K r) (liftA K qa) σ H Q := fun σ H Q ⟨G, s, m, Φ, rm, rs, q, k⟩ =>
  ⟨G, s, m, _, rm, rs, q, fun G1 ds m1 vs H1 e1 r1 rd q1 => ⟨G1, m1, ds, Φ, r1, rd, q1, k.mono e1⟩⟩
theorem de_callB (hc : CallR X (.builtin id) (liftC X.K r)) (hg : Gl X x) (hm : X.mg x = none) (hv : bootBuiltins x = some (.builtin id)) (ha : PA X (e :: es) (liftA X.K qa)) (hn : x ≠ "__name__" := by decide) (hdb : (x == ("__debug__" : Str)) = false := by decide)
    (he : starEach (e :: es) X.env = (false, eval e X.env) :: starEach es X.env := by rfl) (hpl : (backTo pos (starEach es X.env)).any (·.1) = false := by rfl) : PE X (.Call (.Name x p) (e :: es) [] pos) (liftE X.K (qCB r qa)) := pe_imp (pe_callB hc hg hm hv ha hn hdb he hpl) lift_CB
theorem de_callTy (hc : CallR X (.type T) (liftC X.K r)) (hg : Gl X x) (hm : X.mg x = none) (hv : bootBuiltins x = some (.type T)) (ha : PA X (e :: es) (liftA X.K qa)) (hn : x ≠ "__name__" := by decide) (hdb : (x == ("__debug__" : Str)) = false := by decide)
    (he : starEach (e :: es) X.env = (false, eval e X.env) :: starEach es X.env := by rfl) (hpl : (backTo pos (starEach es X.env)).any (·.1) = false := by rfl) : PE X (.Call (.Name x p) (e :: es) [] pos) (liftE X.K (qCB r qa)) := pe_imp (pe_callTy hc hg hm hv ha hn hdb he hpl) lift_CB
theorem de_callBfun (hc : CallR X (.builtin id) (liftC X.K r)) (hg : Gl X x) (hm : X.mg x = some (.builtin id)) (ha : PA X (e :: es) (liftA X.K qa)) (hdb : (x == ("__debug__" : Str)) = false := by decide)
    (he : starEach (e :: es) X.env = (false, eval e X.env) :: starEach es X.env := by rfl) (hpl : (backTo pos (starEach es X.env)).any (·.1) = false := by rfl) : PE X (.Call (.Name x p) (e :: es) [] pos) (liftE X.K (qCB r qa)) := pe_imp (pe_callBfun hc hg hm ha hdb he hpl) lift_CB
theorem rv1 {K : PySem.W.Frag} {G : Hp} {a : D} {vs : List V} (h : RVs K G [a] vs) : ∃ v, vs = [v] ∧ RV K G a v := by
  obtain ⟨x, r, rfl, h2, h3⟩ := h
  exact ⟨x, by rw [show r = [] from h3], h2⟩
theorem rv2 {K : PySem.W.Frag} {G : Hp} {a b : D} {vs : List V} (h : RVs K G [a, b] vs) : ∃ v u, vs = [v, u] ∧ RV K G a v ∧ RV K G b u := by
  obtain ⟨x, r, rfl, h2, h3⟩ := h
  obtain ⟨u, rfl, h4⟩ := rv1 h3
  exact ⟨x, u, rfl, h2, h4⟩
/-- int(x) of an int -/
def bInt : LSp := fun ds m Φ => match ds with | [.int i] => Φ (.int i) m | [.bl b] => Φ (.int (if b then 1 else 0)) m | _ => False
theorem db_int : CallR X (.type "int") (liftC X.K bInt) := call_imp call_int1 fun vs H Q ⟨G, m, ds, Φ, rm, rd, q, k⟩ => by
  unfold bInt at q
  split at q
  · rename_i i
    obtain ⟨v, rfl, h⟩ := rv1 rd
    obtain rfl : v = .int i := h
    exact .inl ⟨i, rfl, k G (.int i) m _ H (Sub.refl G) rm rfl q⟩
  · rename_i i
    obtain ⟨v, rfl, h⟩ := rv1 rd
    obtain rfl : v = .bl i := h
    exact .inr ⟨i, rfl, k G (.int _) m _ H (Sub.refl G) rm rfl q⟩
  · exact q.elim
/-- len -/
def bLen : LSp := fun ds m Φ => match ds with
  | [.tup xs] => Φ (.int xs.length) m
  | [.lst xs] => Φ (.int xs.length) m
  | [.str z] => z.length ≤ sizeLine ∧ Φ (.int z.length) m
  | [.ref a] => (∃ xs, m a = some (.lst xs) ∧ Φ (.int xs.length) m) ∨ ∃ ks, m a = some (.dK ks) ∧ Φ (.int ks.length) m
  | _ => False
theorem db_len : CallR X (.builtin "len") (liftC X.K bLen) := call_imp (CallR.or call_len_seq (CallR.or call_len_str call_lenD)) fun vs H Q ⟨G, m, ds, Φ, rm, rd, q, k⟩ => by
  unfold bLen at q
  split at q
  · obtain ⟨v, rfl, a, xs, rfl, h1, h2⟩ := rv1 rd
    exact .inl ⟨a, xs, rfl, .inr (rm.sub.t h1), k G (.int _) m _ H (Sub.refl G) rm (by rw [h2.length]; rfl) q⟩
  · obtain ⟨v, rfl, a, xs, rfl, h1, h2⟩ := rv1 rd
    exact .inl ⟨a, xs, rfl, .inl (rm.sub.l h1), k G (.int _) m _ H (Sub.refl G) rm (by rw [h2.length]; rfl) q⟩
  · rename_i z
    obtain ⟨v, rfl, h⟩ := rv1 rd
    obtain rfl : v = .str z := h
    exact .inr (.inl ⟨z, rfl, q.1, k G (.int _) m _ H (Sub.refl G) rm rfl q.2⟩)
  · rename_i a
    obtain ⟨v, rfl, h⟩ := rv1 rd
    obtain rfl : v = .ref a := h
    rcases q with ⟨xs, hm, q⟩ | ⟨ks, hm, q⟩
    · obtain ⟨_, w, hw, ys, rfl, h2⟩ := rm.mem a _ hm
      exact .inl ⟨a, ys, rfl, .inl (.inl (.inl hw)), k G (.int _) m _ H (Sub.refl G) rm (by rw [h2.length]; rfl) q⟩
    · obtain ⟨_, w, hw, ys, rfl, h2⟩ := rm.mem a _ hm
      exact .inr (.inr ⟨a, ys, rfl, hw, k G (.int _) m _ H (Sub.refl G) rm (by rw [h2.length]; rfl) q⟩)
  · exact q.elim
/-- list(xs): a new list that may change -/
def bList : LSp := fun ds m Φ => match ds with
  | [d] => itemsQ d m fun xs => ∀ p, m p = none → Φ (.ref p) (mset m p (.lst xs))
  | _ => False
theorem db_list : CallR X (.type "list") (liftC X.K bList) := call_imp call_list_of fun vs H Q ⟨G, m, ds, Φ, rm, rd, q, k⟩ => by
  unfold bList at q
  split at q
  · obtain ⟨v, rfl, h⟩ := rv1 rd
    obtain ⟨a, xs, ys, rfl, h1, h2, h3⟩ := items_lift rm h q
    exact ⟨a, ys, rfl, h1.symm, lift_lstM rm h2 h3 k⟩
  · exact q.elim
/-- tuple(xs) -/
def bTuple : LSp := fun ds m Φ => match ds with
  | [.tup xs] => Φ (.tup xs) m
  | [.lst xs] => Φ (.tup xs) m
  | [.ref a] => ∃ xs, m a = some (.lst xs) ∧ Φ (.tup xs) m
  | _ => False
theorem db_tuple : CallR X (.type "tuple") (liftC X.K bTuple) := call_imp call_tuple_of fun vs H Q ⟨G, m, ds, Φ, rm, rd, q, k⟩ => by
  unfold bTuple at q
  split at q
  · rename_i xs
    obtain ⟨v, rfl, a, ys, rfl, h1, h2⟩ := rv1 rd
    exact ⟨a, ys, rfl, .inr ⟨rm.sub.t h1, k G (.tup xs) m _ H (Sub.refl G) rm ⟨a, ys, rfl, h1, h2⟩ q⟩⟩
  · rename_i xs
    obtain ⟨v, rfl, a, ys, rfl, h1, h2⟩ := rv1 rd
    exact ⟨a, ys, rfl, .inl ⟨rm.sub.l h1, lift_tup rm h2 q k⟩⟩
  · rename_i a
    obtain ⟨v, rfl, h⟩ := rv1 rd
    obtain rfl : v = .ref a := h
    obtain ⟨xs, hm, q⟩ := q
    obtain ⟨_, w, hw, ys, rfl, h2⟩ := rm.mem a _ hm
    exact ⟨a, ys, rfl, .inl ⟨.inl (.inl hw), lift_tup rm h2 q k⟩⟩
  · exact q.elim
/-- the items of a list -/
def itemsL (d : D) (m : Mem) (R : List D → Prop) : Prop := match d with
  | .lst ds => R ds
  | .ref a => ∃ ds, m a = some (.lst ds) ∧ R ds
  | _ => False
theorem itemsL_lift {K : PySem.W.Frag} {d : D} {v : V} {m : Mem} {G H : Hp} {R : List D → Prop} (rm : RelM K m G H) (rv : RV K G d v) (h : itemsL d m R) : ∃ a ds xs, v = .ref a ∧ SqL K H a xs ∧ RVs K G ds xs ∧ R ds := by
  cases d with
  | lst ds => obtain ⟨a, xs, rfl, h1, h2⟩ := rv; exact ⟨a, ds, xs, rfl, rm.sub.l h1, h2, h⟩
  | ref a =>
    obtain rfl : v = .ref a := rv
    obtain ⟨ds, hm, h⟩ := h
    obtain ⟨_, u, hu, xs, rfl, h2⟩ := rm.mem a _ hm
    exact ⟨a, ds, xs, rfl, .inl (.inl hu), h2, h⟩
  | _ => exact h.elim
/-- sum, all, any of lists of ints, of bools -/
def bSum : LSp := fun ds m Φ => match ds with
  | [d] => itemsL d m fun xs => ∃ ns : List Int, xs = ns.map D.int ∧ Φ (.int ns.sum) m
  | _ => False
def bAll : LSp := fun ds m Φ => match ds with
  | [d] => itemsL d m fun xs => ∃ bs : List Bool, xs = bs.map D.bl ∧ Φ (.bl (bs.all _root_.id)) m
  | _ => False
def bAny : LSp := fun ds m Φ => match ds with
  | [d] => itemsL d m fun xs => ∃ bs : List Bool, xs = bs.map D.bl ∧ Φ (.bl (bs.any _root_.id)) m
  | _ => False
theorem db_sum (hc : X.calm = true) : CallR X (.builtin "sum") (liftC X.K bSum) := call_imp (cr_sum hc) fun vs H Q ⟨G, m, ds, Φ, rm, rd, q, k⟩ => by
  unfold bSum at q
  split at q
  · obtain ⟨v, rfl, h⟩ := rv1 rd
    obtain ⟨a, xs, ys, rfl, h1, h2, ns, rfl, h3⟩ := itemsL_lift rm h q
    have e := h2.ints
    subst e
    exact ⟨a, ns, rfl, h1, k G (.int _) m _ H (Sub.refl G) rm rfl h3⟩
  · exact q.elim
theorem db_all (hc : X.calm = true) : CallR X (.builtin "all") (liftC X.K bAll) := call_imp (cr_all hc) fun vs H Q ⟨G, m, ds, Φ, rm, rd, q, k⟩ => by
  unfold bAll at q
  split at q
  · obtain ⟨v, rfl, h⟩ := rv1 rd
    obtain ⟨a, xs, ys, rfl, h1, h2, ns, rfl, h3⟩ := itemsL_lift rm h q
    have e := h2.bls
    subst e
    exact ⟨a, ns, rfl, h1, k G (.bl _) m _ H (Sub.refl G) rm rfl h3⟩
  · exact q.elim
theorem db_any (hc : X.calm = true) : CallR X (.builtin "any") (liftC X.K bAny) := call_imp (cr_any hc) fun vs H Q ⟨G, m, ds, Φ, rm, rd, q, k⟩ => by
  unfold bAny at q
  split at q
  · obtain ⟨v, rfl, h⟩ := rv1 rd
    obtain ⟨a, xs, ys, rfl, h1, h2, ns, rfl, h3⟩ := itemsL_lift rm h q
    have e := h2.bls
    subst e
    exact ⟨a, ns, rfl, h1, k G (.bl _) m _ H (Sub.refl G) rm rfl h3⟩
  · exact q.elim
def bMax2 : LSp := fun ds m Φ => match ds with | [.int i, .int j] => Φ (.int (if j > i then j else i)) m | _ => False
def bMin2 : LSp := fun ds m Φ => match ds with | [.int i, .int j] => Φ (.int (if j < i then j else i)) m | _ => False
theorem db_max2 (hc : X.calm = true) : CallR X (.builtin "max") (liftC X.K bMax2) := call_imp (call_max2 hc) fun vs H Q ⟨G, m, ds, Φ, rm, rd, q, k⟩ => by
  unfold bMax2 at q
  split at q
  · rename_i i j
    obtain ⟨v, u, rfl, h, h'⟩ := rv2 rd
    obtain rfl : v = .int i := h
    obtain rfl : u = .int j := h'
    exact ⟨i, j, rfl, k G (.int _) m _ H (Sub.refl G) rm rfl q⟩
  · exact q.elim
theorem db_min2 (hc : X.calm = true) : CallR X (.builtin "min") (liftC X.K bMin2) := call_imp (call_min2 hc) fun vs H Q ⟨G, m, ds, Φ, rm, rd, q, k⟩ => by
  unfold bMin2 at q
  split at q
  · rename_i i j
    obtain ⟨v, u, rfl, h, h'⟩ := rv2 rd
    obtain rfl : v = .int i := h
    obtain rfl : u = .int j := h'
    exact ⟨i, j, rfl, k G (.int _) m _ H (Sub.refl G) rm rfl q⟩
  · exact q.elim
def bGcd : LSp := fun ds m Φ => match ds with | [.int i, .int j] => Φ (.int ((Nat.gcd i.natAbs j.natAbs : Nat) : Int)) m | _ => False
theorem db_gcd : CallR X (.builtin "math.gcd") (liftC X.K bGcd) := call_imp cr_gcd fun vs H Q ⟨G, m, ds, Φ, rm, rd, q, k⟩ => by
  unfold bGcd at q
  split at q
  · rename_i i j
    obtain ⟨v, u, rfl, h, h'⟩ := rv2 rd
    obtain rfl : v = .int i := h
    obtain rfl : u = .int j := h'
    exact ⟨i, j, rfl, k G (.int _) m _ H (Sub.refl G) rm rfl q⟩
  · exact q.elim
/-- dict(d): a copy -/
def bDict : LSp := fun ds m Φ => match ds with
  | [.ref a] => ∃ ks, (m a = some (.dK ks) ∨ m a = some (.fz ks)) ∧ ∀ p, m p = none → Φ (.ref p) (mset m p (.dK ks))
  | _ => False
theorem db_dict : CallR X (.type "dict") (liftC X.K bDict) := by
  intro pins s σ H xs us Q I r h
  obtain ⟨G, m, ds, Φ, rm, rd, q, k⟩ := h
  unfold bDict at q
  split at q
  · rename_i a
    obtain ⟨v, rfl, h⟩ := rv1 rd
    obtain rfl : v = .ref a := h
    obtain ⟨u, rfl, ru⟩ := vals1 r
    cases ru
    obtain ⟨ks, hm, q⟩ := q
    obtain ⟨ys, hr, h2⟩ : ∃ ys, Rd H a (.dK ys) ∧ RKs X.K G ks ys := by
      rcases hm with hm | hm
      · obtain ⟨_, w, hw, ys, rfl, h2⟩ := rm.mem a _ hm
        exact ⟨ys, .inl hw, h2⟩
      · obtain ⟨_, w, hw, ob, ys, rfl, h2⟩ := rm.mem a _ hm
        exact ⟨ys, .inr ⟨ob, hw⟩, h2⟩
    exact d_copyOf I hr fun p s' hp I' => ⟨.ref p, _, I', rfl, k G (.ref p) _ _ _ (Sub.refl G) (rm.new (o := .dK ks) hp ⟨ys, rfl, h2⟩) rfl (q p (rm.free hp))⟩
  · exact q.elim
/-! ### isinstance -/
/-- the type's name of a datum that is no instance -/
def tyN (d : D) (m : Mem) : String → Prop := fun T => match d with
  | .non => T = "NoneType"
  | .bl _ => T = "bool"
  | .int _ => T = "int"
  | .str _ => T = "str"
  | .tup _ => T = "tuple"
  | .lst _ => T = "list"
  | .ref a => (T = "list" ∧ ∃ ds, m a = some (.lst ds)) ∨ (T = "dict" ∧ ∃ ks, m a = some (.dK ks))
theorem SqL.ty {K : PySem.W.Frag} {H : Hp} {a : Addr} {xs : List V} (h : SqL K H a xs) : TyX K H (.ref a) (.type "list") := by
  rcases h with (h | ⟨o, h⟩) | ⟨o, its, n, h1, h2, _⟩
  · exact .base (.lst h)
  · exact .base (.frz h)
  · exact .kList h1 h2
theorem SqT.ty {K : PySem.W.Frag} {H : Hp} {a : Addr} {xs : List V} (h : SqT K H a xs) : TyX K H (.ref a) (.type "tuple") := by
  rcases h with (h | ⟨o, h⟩) | ⟨o, its, n, h1, h2, _⟩
  · exact .base (.tup h)
  · exact .fTuple h
  · exact .kTuple h1 h2
theorem tyN_lift {K : PySem.W.Frag} {d : D} {v : V} {m : Mem} {G H : Hp} {T : String} (rm : RelM K m G H) (rv : RV K G d v) (h : tyN d m T) : TyX K H v (.type T) := by
  cases d with
  | non => obtain rfl : v = .non := rv; obtain rfl : T = _ := h; exact .base .non
  | bl b => obtain rfl : v = .bl b := rv; obtain rfl : T = _ := h; exact .base (.bl b)
  | int b => obtain rfl : v = .int b := rv; obtain rfl : T = _ := h; exact .base (.int b)
  | str b => obtain rfl : v = .str b := rv; obtain rfl : T = _ := h; exact .base (.str b)
  | tup ds => obtain ⟨a, xs, rfl, h1, h2⟩ := rv; obtain rfl : T = _ := h; exact SqT.ty (rm.sub.t h1)
  | lst ds => obtain ⟨a, xs, rfl, h1, h2⟩ := rv; obtain rfl : T = _ := h; exact SqL.ty (rm.sub.l h1)
  | ref a =>
    obtain rfl : v = .ref a := rv
    rcases h with ⟨rfl, ds, hm⟩ | ⟨rfl, ks, hm⟩
    · obtain ⟨_, w, hw, ys, rfl, h2⟩ := rm.mem a _ hm
      exact .base (.lst hw)
    · obtain ⟨_, w, hw, ys, rfl, h2⟩ := rm.mem a _ hm
      exact .base (.dK hw)
/-- isinstance(x, T), T a built-in type | a written tuple of such -/
def qIsi (T : String) (qa : QE) : QE := fun s m Φ => qa s m fun x m1 => ∃ t b, tyN x m1 t ∧ kitB t T = some b ∧ Φ (.bl b) m1
theorem de_isi {T : String} {a : Expr} {qa : QE} {tn : Str} {p2 : Pos} (hg : Gl X "isinstance") (hm : X.mg "isinstance" = none) (ha : PE X a (liftE X.K qa)) (hT : PE X (.Name tn p2) (tC (.ty T)))
    (he : starEach (a :: [.Name tn p2]) X.env = (false, eval a X.env) :: starEach [.Name tn p2] X.env := by rfl) (he2 : starEach (.Name tn p2 :: []) X.env = (false, eval (.Name tn p2) X.env) :: starEach [] X.env := by rfl) (hpl : (backTo pos (starEach [.Name tn p2] X.env)).any (·.1) = false := by rfl) :
    PE X (.Call (.Name "isinstance" p) [a, .Name tn p2] [] pos) (liftE X.K (qIsi T qa)) :=
  pe_imp (pe_callB call_isi hg hm (by decide +kernel) (pa_cons ha (pa_cons hT pa_nil he2) he) (by decide) (by decide) he hpl) fun σ H Q ⟨G, s, m, Φ, rm, rs, q, k⟩ => ⟨G, s, m, _, rm, rs, q, fun G1 x m1 v H1 e1 r1 rx ⟨t, b, ht, hb, q1⟩ =>
    ⟨v, .ty T, .type t, .type T, b, rfl, .ty T, tyN_lift r1 rx ht, kit_ty hb, k G1 (.bl b) m1 _ H1 e1 r1 rfl q1⟩⟩
def kitBs (t : String) : List String → Option Bool
  | [] => some false
  | T :: Ts => match kitB t T with
    | some true => some true
    | some false => kitBs t Ts
    | none => none
theorem kitBs_ok {K : PySem.W.Frag} {t : String} : ∀ {Ts : List String} {b : Bool}, kitBs t Ts = some b → PySem.W.kitAny K (.type t) (Ts.map Value.type) = some b
  | [], b, h => by
    obtain rfl : false = b := Option.some.inj h
    exact kitAny_nil
  | T :: Ts, b, h => by
    rw [kitBs] at h
    cases e : kitB t T with
    | none => rw [e] at h; cases h
    | some c =>
      rw [e] at h
      cases c with
      | true =>
        obtain rfl : true = b := Option.some.inj h
        exact kitAny_cons (kit_ty e) (fun z => by cases z) (fun _ => rfl)
      | false => exact kitAny_cons (kit_ty e) (fun _ => kitBs_ok h) (fun z => by cases z)
def qIsiT (Ts : List String) (qa : QE) : QE := fun s m Φ => qa s m fun x m1 => ∃ t b, tyN x m1 t ∧ kitBs t Ts = some b ∧ Φ (.bl b) m1
theorem de_isi2 {T U : String} {a : Expr} {qa : QE} {tn un : Str} {p2 p3 p4 : Pos} {x1} (hg : Gl X "isinstance") (hm : X.mg "isinstance" = none) (ha : PE X a (liftE X.K qa)) (hT : PE X (.Name tn p2) (tC (.ty T))) (hU : PE X (.Name un p3) (tC (.ty U)))
    (he : starEach (a :: [.Tuple [.Name tn p2, .Name un p3] x1 p4]) X.env = (false, eval a X.env) :: starEach [.Tuple [.Name tn p2, .Name un p3] x1 p4] X.env := by rfl)
    (he2 : starEach (.Tuple [.Name tn p2, .Name un p3] x1 p4 :: []) X.env = (false, eval (.Tuple [.Name tn p2, .Name un p3] x1 p4) X.env) :: starEach [] X.env := by rfl)
    (he3 : starEach (.Name tn p2 :: [.Name un p3]) X.env = (false, eval (.Name tn p2) X.env) :: starEach [.Name un p3] X.env := by rfl) (he4 : starEach (.Name un p3 :: []) X.env = (false, eval (.Name un p3) X.env) :: starEach [] X.env := by rfl)
    (hpl : (backTo pos (starEach [.Tuple [.Name tn p2, .Name un p3] x1 p4] X.env)).any (·.1) = false := by rfl) :
    PE X (.Call (.Name "isinstance" p) [a, .Tuple [.Name tn p2, .Name un p3] x1 p4] [] pos) (liftE X.K (qIsiT [T, U] qa)) :=
  pe_imp (pe_callB call_isiT hg hm (by decide +kernel) (pa_cons ha (pa_cons (pe_tup (pa_cons hT (pa_cons hU pa_nil he4) he3)) pa_nil he2) he) (by decide) (by decide) he hpl) fun σ H Q ⟨G, s, m, Φ, rm, rs, q, k⟩ => ⟨G, s, m, _, rm, rs, q, fun G1 x m1 v H1 e1 r1 rx ⟨t, b, ht, hb, q1⟩ =>
    ⟨by show 2 ≤ sizeLine; decide, fun tp htp => ⟨v, tp, [.ty T, .ty U], .type t, [.type T, .type U], b, rfl, upd_same, .cons (.ty T) (.cons (.ty U) .nil), tyN_lift (RelM.frame r1 fun a o z => by rw [upd_ne (ne_of_none z htp)]; exact z) rx ht, kitBs_ok (Ts := [T, U]) hb,
      k G1 (.bl b) m1 _ _ e1 (RelM.frame r1 fun a o z => by rw [upd_ne (ne_of_none z htp)]; exact z) rfl q1⟩⟩⟩
end
end L3
namespace L3
open PySem L2
/-! ### instances -/
section
variable {X : Cx} {e o : Expr} {es : List Expr} {qe qo qv : QE} {qa : QA} {f m : Str} {pos apos pos' tpos : Pos} {C g : Addr} {k : Nat}
/-- e.f of an instance of the class at C -/
def qFld (C : Addr) (f : Str) (qe : QE) : QE := fun s m Φ => qe s m fun x m1 => match x with
  | .ref a => ∃ fs d, m1 a = some (.ins C fs) ∧ fs.lookup f = some d ∧ Φ d m1
  | _ => False
theorem de_fld (c : Cls X.K C) (n : NoAttr X.K C f) (he : PE X e (liftE X.K qe)) (hb : attributeBase e f X.env (eval e X.env) = eval e X.env := by rfl) : PE X (.Attribute e f pos) (liftE X.K (qFld C f qe)) :=
  pe_imp (pe_fld he hb) fun σ H Q ⟨G, s, m, Φ, rm, rs, q, k⟩ => ⟨G, s, m, _, rm, rs, q, fun G1 x m1 v H1 e1 r1 rx q1 => by
    cases x with
    | ref a =>
      obtain rfl : v = .ref a := rx
      obtain ⟨fs, d, hm, hl, q1⟩ := q1
      obtain ⟨_, w, hw, dx, xs, rfl, r⟩ := r1.mem a _ hm
      have rl := r.lookup f
      rw [hl] at rl
      obtain ⟨u, h1, h2⟩ := rl.some
      exact ⟨a, C, dx, xs, u, rfl, hw, c, n, h1, k G1 d m1 u H1 e1 r1 h2 q1⟩
    | _ => exact q1.elim⟩
/-- e.f = v -/
def sSetF (C : Addr) (f : Str) (qo qv : QE) : QS := fun E s m => qv s m fun y m1 => qo s m1 fun x m2 => match x with
  | .ref a => ∃ fs, m2 a = some (.ins C fs) ∧ fs.length < 1000 ∧ E.nx s (mset m2 a (.ins C (putFD f y fs)))
  | _ => False
theorem ds_setF {value : Expr} (c : Cls X.K C) (n : NoAttr X.K C f) (ho : PE X o (liftE X.K qo)) (hv : PE X value (liftE X.K qv)) (hs : swapsWith value (some (.Attribute o f pos')) pos.line X.env = pure false := by rfl) : PS X (.Assign [.Attribute o f pos'] value pos) (liftS X.K (sSetF C f qo qv)) :=
  ps_imp (ps_fld ho hv hs) fun D σ H ⟨G, s, m, E, rm, rs, q, kn, kr, kb, kc⟩ => ⟨G, s, m, _, rm, rs, q, fun G1 y m1 u H1 e1 r1 ry q1 => ⟨G1, s, m1, _, r1, rs.mono e1, q1, fun G2 x m2 v H2 e2 r2 rx q2 => by
    cases x with
    | ref a =>
      obtain rfl : v = .ref a := rx
      obtain ⟨fs, hm, hl, q2⟩ := q2
      obtain ⟨_, w, hw, dx, xs, rfl, r⟩ := r2.mem a _ hm
      exact ⟨a, C, dx, xs, rfl, hw, c, n, by rw [← r.length]; exact hl, kn G2 s _ σ _ (e1.trans e2) (r2.put (o := .ins C (putFD f y fs)) hm ⟨dx, _, rfl, RKs.putF (RV.mono e2 y ry) r⟩) (rs.mono (e1.trans e2)) q2⟩
    | _ => exact q2.elim⟩⟩
/-- o.m(..) -/
def qMeth (C : Addr) (m : Str) (sp : LSp) (qo : QE) (qa : QA) : QE := fun s mm Φ => qo s mm fun x m1 => match x with
  | .ref a => ∃ fs, m1 a = some (.ins C fs) ∧ fs.lookup m = none ∧ qa s m1 fun ds m2 => sp (x :: ds) m2 Φ
  | _ => False
end
section
variable {X : Cx} {CX : CXT} {k : Nat} {f C : Addr} {sp : Sp} {E : XK} {m x : Str} {pos apos p : Pos} {e o : Expr} {es : List Expr} {ta : TE} {t : TA}
theorem pe_methR {pl : Sem Bool} (he : PE X o ta) (c : Cls X.K C) (hm : Meth X.K C m f) (F : FnR X.prog X.w X.K X.mg X.base CX k f sp) (hr : Room k X.A) (hx : Passes CX X E) (ha : PA X (e :: es) t)
    (hst : starEach (e :: es) X.env = (false, eval e X.env) :: starEach es X.env := by rfl) (hpl : (backTo pos (starEach es X.env)).any (·.1) = false := by rfl)
    (ht : eval (.Call (.Attribute o m apos) (e :: es) [] pos) X.env = (do
      let ov ← eval o X.env
      standAt apos.atName
      let (f, first) ← holding [ov] (getMethod ov m pl)
      callWith pos f first (backTo pos (starEach (e :: es) X.env)) (backToKw pos (keywordEach [] X.env))) := by rfl) :
    PE X (.Call (.Attribute o m apos) (e :: es) [] pos) (fun σ H Q => ta σ H fun x H1 => ∃ a dx fs, x = .ref a ∧ H1 a = some (.ins C dx fs) ∧ fs.lookup m = none ∧ t σ H1 fun vs H2 => sp (x :: vs) H2 Q E) := by
  refine ⟨fun pins s σ H Q I h => ?_⟩
  refine PySem.W.methodCall_KW (pl := pl) (thn (he.run pins s σ H _ I h) fun u s1 ⟨x, H1, I1, rx, a, dx, fs, ex, ea, l, q⟩ => ?_) ht
  subst ex
  obtain rfl : u = Value.ref a := rx
  refine getmeth_ok I1 ea c hm l ?_
  refine PySem.W.callWith_K (first := [.ref a]) (h₀ := X.base) I.ok.mod.kin hm.kp (thn (ha.run pos pins s1 σ H1 _ I1 q) fun us s2 ⟨vs, H2, I2, r, q2⟩ => ⟨I2.kIn, ?_⟩) hst hpl
  exact wpAny_call (run_fnR (us := .ref a :: us) (vs := .ref a :: vs) F hr hx I2 (.cons rfl r) q2)
theorem pe_meth0R {pl : Sem Bool} (he : PE X o ta) (c : Cls X.K C) (hm : Meth X.K C m f) (F : FnR X.prog X.w X.K X.mg X.base CX k f sp) (hr : Room k X.A) (hx : Passes CX X E)
    (ht : eval (.Call (.Attribute o m apos) [] [] pos) X.env = (do
      let ov ← eval o X.env
      standAt apos.atName
      let (f, first) ← holding [ov] (getMethod ov m pl)
      callWith pos f first (backTo pos (starEach [] X.env)) (backToKw pos (keywordEach [] X.env))) := by rfl) :
    PE X (.Call (.Attribute o m apos) [] [] pos) (fun σ H Q => ta σ H fun x H1 => ∃ a dx fs, x = .ref a ∧ H1 a = some (.ins C dx fs) ∧ fs.lookup m = none ∧ sp [x] H1 Q E) := by
  refine ⟨fun pins s σ H Q I h => ?_⟩
  refine PySem.W.methodCall_KW (pl := pl) (thn (he.run pins s σ H _ I h) fun u s1 ⟨x, H1, I1, rx, a, dx, fs, ex, ea, l, q⟩ => ?_) ht
  subst ex
  obtain rfl : u = Value.ref a := rx
  refine getmeth_ok I1 ea c hm l ?_
  exact PySem.W.callWith_K0 (first := [.ref a]) I1.kIn hm.kp (wpAny_call (run_fnR (us := [.ref a]) (vs := [.ref a]) F hr hx I1 (.cons rfl .nil) q))
theorem pe_call0R (F : FnR X.prog X.w X.K X.mg X.base CX k f sp) (hr : Room k X.A) (hg : Gl X x) (hm : X.mg x = some (.ref f)) (hk : PySem.W.keepIn X.K (.ref f) = true) (hx : Passes CX X E)
    (hdb : (x == ("__debug__" : Str)) = false := by decide) : PE X (.Call (.Name x p) [] [] pos) (fun σ H Q => sp [] H Q E) := by
  refine ⟨fun pins s σ H Q I h => ?_⟩
  refine wpAny_Call_Name_kw (ld_glob I hg hm ?_ hdb)
  exact PySem.W.callWith_K0 I.kIn hk (wpAny_call (run_fnR (us := []) (vs := []) F hr hx I .nil h))
theorem pe_make0R (M : Mk X.K C f) (F : FnR X.prog X.w X.K X.mg X.base CX k f sp) (hr : Room (k + 1) X.A) (hg : Gl X x) (hm : X.mg x = some (.ref C)) (hx : Passes CX X E)
    (hdb : (x == ("__debug__" : Str)) = false := by decide) : PE X (.Call (.Name x p) [] [] pos) (StX.tMakeR C sp E tNil) := by
  refine ⟨fun pins s σ H Q I h => ?_⟩
  refine wpAny_Call_Name_kw (ld_glob I hg hm ?_ hdb)
  exact PySem.W.callWith_K0 I.kIn M.kp (StX.run_makeR M F hr hx I .nil h)
end
section
variable {X : Cx} {k : Nat} {f C : Addr} {sp : LSp} {m x : Str} {pos apos p : Pos} {e o : Expr} {es : List Expr} {qo qe : QE} {qa : QA}
theorem de_meth {pl : Sem Bool} (he : PE X o (liftE X.K qo)) (c : Cls X.K C) (hm : Meth X.K C m f) (F : FnD X.prog X.w X.K X.mg X.base k f sp) (hr : Room k X.A) (ha : PA X (e :: es) (liftA X.K qa))
    (hst : starEach (e :: es) X.env = (false, eval e X.env) :: starEach es X.env := by rfl) (hpl : (backTo pos (starEach es X.env)).any (·.1) = false := by rfl)
    (ht : eval (.Call (.Attribute o m apos) (e :: es) [] pos) X.env = (do
      let ov ← eval o X.env
      standAt apos.atName
      let (f, first) ← holding [ov] (getMethod ov m pl)
      callWith pos f first (backTo pos (starEach (e :: es) X.env)) (backToKw pos (keywordEach [] X.env))) := by rfl) :
    PE X (.Call (.Attribute o m apos) (e :: es) [] pos) (liftE X.K (qMeth C m sp qo qa)) :=
  pe_imp (pe_methR he c hm F hr pass0 ha hst hpl ht) fun σ H Q ⟨G, s, mm, Φ, rm, rs, q, k⟩ => ⟨G, s, mm, _, rm, rs, q, fun G1 d m1 v H1 e1 r1 rd q1 => by
    cases d with
    | ref a =>
      obtain rfl : v = .ref a := rd
      obtain ⟨fs, hm', hl, q1⟩ := q1
      obtain ⟨_, w, hw, dx, xs, rfl, r⟩ := r1.mem a _ hm'
      have rl := r.lookup m
      rw [hl] at rl
      exact ⟨a, dx, xs, rfl, hw, rl.none, G1, s, m1, _, r1, rs.mono e1, q1, fun G2 ds m2 vs H2 e2 r2 rds q2 => ⟨G2, m2, _, Φ, r2, RVs.cons (show RV X.K G2 (.ref a) (.ref a) from rfl) rds, q2, k.mono (e1.trans e2)⟩⟩
    | _ => exact q1.elim⟩
theorem de_meth0 {pl : Sem Bool} (he : PE X o (liftE X.K qo)) (c : Cls X.K C) (hm : Meth X.K C m f) (F : FnD X.prog X.w X.K X.mg X.base k f sp) (hr : Room k X.A)
    (ht : eval (.Call (.Attribute o m apos) [] [] pos) X.env = (do
      let ov ← eval o X.env
      standAt apos.atName
      let (f, first) ← holding [ov] (getMethod ov m pl)
      callWith pos f first (backTo pos (starEach [] X.env)) (backToKw pos (keywordEach [] X.env))) := by rfl) :
    PE X (.Call (.Attribute o m apos) [] [] pos) (liftE X.K (qMeth C m sp qo qNil)) :=
  pe_imp (pe_meth0R he c hm F hr pass0 ht) fun σ H Q ⟨G, s, mm, Φ, rm, rs, q, k⟩ => ⟨G, s, mm, _, rm, rs, q, fun G1 d m1 v H1 e1 r1 rd q1 => by
    cases d with
    | ref a =>
      obtain rfl : v = .ref a := rd
      obtain ⟨fs, hm', hl, q1⟩ := q1
      obtain ⟨_, w, hw, dx, xs, rfl, r⟩ := r1.mem a _ hm'
      have rl := r.lookup m
      rw [hl] at rl
      exact ⟨a, dx, xs, rfl, hw, rl.none, G1, m1, [.ref a], Φ, r1, RVs.one (show RV X.K G1 (.ref a) (.ref a) from rfl), q1, k.mono e1⟩
    | _ => exact q1.elim⟩
theorem de_call0 (F : FnD X.prog X.w X.K X.mg X.base k f sp) (hr : Room k X.A) (hg : Gl X x) (hm : X.mg x = some (.ref f)) (hk : PySem.W.keepIn X.K (.ref f) = true)
    (hdb : (x == ("__debug__" : Str)) = false := by decide) : PE X (.Call (.Name x p) [] [] pos) (liftE X.K (qCall sp qNil)) :=
  pe_imp (pe_call0R F hr hg hm hk pass0 hdb) fun σ H Q ⟨G, s, mm, Φ, rm, rs, q, k⟩ => ⟨G, mm, [], Φ, rm, rfl, q, k⟩
/-- C(..) -/
def qMake (C : Addr) (sp : LSp) (qa : QA) : QE := fun s m Φ => qa s m fun ds m1 => ∀ a, m1 a = none → sp (.ref a :: ds) (mset m1 a (.ins C [])) fun d m2 => match d with | .non => Φ (.ref a) m2 | _ => False
theorem lift_make {K : PySem.W.Frag} {G H : Hp} {mm : Mem} {ds : List D} {vs : List V} {Φ : DK} {Q : VK} (rm : RelM K mm G H) (rd : RVs K G ds vs) (k : KQ K G Φ Q) (q : ∀ a, mm a = none → sp (.ref a :: ds) (mset mm a (.ins C [])) fun d m2 => match d with | .non => Φ (.ref a) m2 | _ => False) :
    ∀ x dx, H x = Option.none → H dx = Option.none → dx ≠ x → liftSp K sp (V.ref x :: vs) (upd (upd H dx (.own x)) x (.ins C dx [])) (fun v H2 => v = .non ∧ Q (.ref x) H2) E0 := fun x dx hx hdx hne => by
  have r1 : RelM K mm G (upd H dx (.own x)) := rm.frame fun a o z => by rw [upd_ne (ne_of_none z hdx)]; exact z
  have hx' : upd H dx (.own x) x = none := by rw [upd_ne hne.symm]; exact hx
  refine ⟨G, _, _, _, r1.new (o := .ins C []) (u := .ins C dx []) hx' ⟨dx, [], rfl, rfl⟩, RVs.cons (show RV K G (.ref x) (.ref x) from rfl) rd, q x (rm.free hx), fun G2 d m2 v H2 e2 r2 rv q2 => ?_⟩
  cases d with
  | non => exact ⟨rv, k G2 (.ref x) m2 _ H2 e2 r2 rfl q2⟩
  | _ => exact q2.elim
theorem de_make (M : Mk X.K C f) (F : FnD X.prog X.w X.K X.mg X.base k f sp) (hr : Room (k + 1) X.A) (hg : Gl X x) (hm : X.mg x = some (.ref C)) (ha : PA X (e :: es) (liftA X.K qa)) (hdb : (x == ("__debug__" : Str)) = false := by decide)
    (he : starEach (e :: es) X.env = (false, eval e X.env) :: starEach es X.env := by rfl) (hpl : (backTo pos (starEach es X.env)).any (·.1) = false := by rfl) :
    PE X (.Call (.Name x p) (e :: es) [] pos) (liftE X.K (qMake C sp qa)) :=
  pe_imp (StX.pe_makeR M F hr hg hm pass0 ha hdb he hpl) fun σ H Q ⟨G, s, mm, Φ, rm, rs, q, k⟩ => ⟨G, s, mm, _, rm, rs, q, fun G1 ds m1 vs H1 e1 r1 rd q1 => lift_make r1 rd (k.mono e1) q1⟩
theorem de_make0 (M : Mk X.K C f) (F : FnD X.prog X.w X.K X.mg X.base k f sp) (hr : Room (k + 1) X.A) (hg : Gl X x) (hm : X.mg x = some (.ref C)) (hdb : (x == ("__debug__" : Str)) = false := by decide) :
    PE X (.Call (.Name x p) [] [] pos) (liftE X.K (qMake C sp qNil)) :=
  pe_imp (pe_make0R M F hr hg hm pass0 hdb) fun σ H Q ⟨G, s, mm, Φ, rm, rs, q, k⟩ => lift_make rm (show RVs X.K G [] [] from rfl) k q
/-- e.f, a property whose getter keeps the promise -/
def qProp (C : Addr) (sp : LSp) (qe : QE) : QE := fun s m Φ => qe s m fun x m1 => match x with
  | .ref a => (∃ fs, m1 a = some (.ins C fs)) ∧ sp [x] m1 Φ
  | _ => False
end
/-! ### methods of built-in types -/
def tyD (T : String) (x : D) (m : Mem) : Prop := match x with
  | .str _ => T = "str"
  | .lst _ => T = "list"
  | .ref a => (T = "list" ∧ ∃ ds, m a = some (.lst ds)) ∨ (T = "dict" ∧ ∃ ks, m a = some (.dK ks))
  | _ => False
theorem tyD_lift {K : PySem.W.Frag} {T : String} {x : D} {v : V} {m : Mem} {G H : Hp} (rm : RelM K m G H) (rx : RV K G x v) (h : tyD T x m) : tyV K T v H := by
  cases x with
  | str z => obtain rfl : v = .str z := rx; exact h
  | lst ds => obtain ⟨a, xs, rfl, h1, h2⟩ := rx; exact .inl ⟨h, xs, rm.sub.l h1⟩
  | ref a =>
    obtain rfl : v = .ref a := rx
    rcases h with ⟨rfl, ds, hm⟩ | ⟨rfl, ks, hm⟩
    · obtain ⟨_, w, hw, ys, rfl, h2⟩ := rm.mem a _ hm
      exact .inl ⟨rfl, ys, .inl (.inl hw)⟩
    · obtain ⟨_, w, hw, ys, rfl, h2⟩ := rm.mem a _ hm
      exact .inr (.inr (.inl ⟨rfl, .inl ⟨ys, hw⟩⟩))
  | _ => exact h.elim
def qBM (T : String) (r : D → LSp) (qo : QE) (qa : QA) : QE := fun s m Φ => qo s m fun x m1 => tyD T x m1 ∧ qa s m1 fun ds m2 => r x ds m2 Φ
section
variable {X : Cx} {o e : Expr} {es : List Expr} {qo : QE} {qa : QA} {name : Str} {apos cpos : Pos} {T id : String} {r : D → LSp}
theorem de_bm (pa : PlainAttrs T) (slot : Slot T name id) (hty : typeOf (.builtin id) = pure (.type "method_descriptor")) (hm : MtR X id (liftMt X.K r)) (ho : PE X o (liftE X.K qo)) (ha : PA X (e :: es) (liftA X.K qa))
    (hbase : attributeBase o name X.env (eval o X.env) = eval o X.env := by rfl)
    (hfew : ((backTo cpos (starEach (e :: es) X.env)).all (fun x => !x.1) && (backToKw cpos (keywordEach [] X.env)).all (fun x => x.1.isSome)
      && decide ((e :: es).length + ([] : List Keyword).length + (if ([] : List Keyword).isEmpty then 0 else 1) < 30)) = true := by rfl)
    (hline : (apos.endLine == cpos.line) = true := by rfl) (hs : starEach (e :: es) X.env = (false, eval e X.env) :: starEach es X.env := by rfl) (hplain : (backTo cpos (starEach es X.env)).any (·.1) = false := by rfl) :
    PE X (.Call (.Attribute o name apos) (e :: es) [] cpos) (liftE X.K (qBM T r qo qa)) :=
  pe_imp (pe_bm pa slot hty hm ho ha hbase hfew hline hs hplain) fun σ H Q ⟨G, s, mm, Φ, rm, rs, q, k⟩ => ⟨G, s, mm, _, rm, rs, q, fun G1 x m1 v H1 e1 r1 rx ⟨ht, q1⟩ =>
    ⟨tyD_lift r1 rx ht, G1, s, m1, _, r1, rs.mono e1, q1, fun G2 ds m2 vs H2 e2 r2 rd q2 => ⟨G2, m2, x, ds, Φ, r2, RV.mono e2 x rx, rd, q2, k.mono (e1.trans e2)⟩⟩⟩
theorem de_bm0 (pa : PlainAttrs T) (slot : Slot T name id) (hty : typeOf (.builtin id) = pure (.type "method_descriptor")) (hm : MtR X id (liftMt X.K r)) (ho : PE X o (liftE X.K qo)) (hbase : attributeBase o name X.env (eval o X.env) = eval o X.env := by rfl) (hline : (apos.endLine == cpos.line) = true := by rfl) :
    PE X (.Call (.Attribute o name apos) [] [] cpos) (liftE X.K (qBM T r qo qNil)) :=
  pe_imp (pe_bm0 pa slot hty hm ho hbase hline) fun σ H Q ⟨G, s, mm, Φ, rm, rs, q, k⟩ => ⟨G, s, mm, _, rm, rs, q, fun G1 x m1 v H1 e1 r1 rx ⟨ht, q1⟩ =>
    ⟨tyD_lift r1 rx ht, G1, m1, x, [], Φ, r1, rx, rfl, q1, k.mono e1⟩⟩
/-- a method of a list that may change: with its arguments, the list's items; the value and the items behind -/
def mtL (g : List D → List D → (D → List D → Prop) → Prop) : D → LSp := fun x ds m Φ => match x with
  | .ref a => ∃ xs, m a = some (.lst xs) ∧ g ds xs fun d ys => Φ d (mset m a (.lst ys))
  | _ => False
def gAppend : List D → List D → (D → List D → Prop) → Prop := fun ds xs R => match ds with | [y] => xs.length < sizeLine ∧ R .non (xs ++ [y]) | _ => False
theorem dm_append : MtR X "list.append" (liftMt X.K (mtL gAppend)) := mt_imp mt_append fun x vs H Q ⟨G, m, dx, ds, Φ, rm, rx, rd, q, k⟩ => by
  cases dx with
  | ref a =>
    obtain rfl : x = .ref a := rx
    obtain ⟨xs, hm, q⟩ := q
    unfold gAppend at q
    split at q
    · obtain ⟨v, rfl, hv⟩ := rv1 rd
      obtain ⟨_, w, hw, ys, rfl, h2⟩ := rm.mem a _ hm
      exact ⟨a, ys, v, rfl, rfl, hw, by rw [← h2.length]; exact q.1, k G .non _ _ _ (Sub.refl G) (rm.put (o := .lst _) hm ⟨_, rfl, h2.append (RVs.one hv)⟩) rfl q.2⟩
    · exact q.elim
  | _ => exact q.elim
def gInsert : List D → List D → (D → List D → Prop) → Prop := fun ds xs R => match ds with | [.int i, y] => xs.length < sizeLine ∧ 0 ≤ i ∧ i < 2 ^ 63 ∧ R .non (xs.take i.toNat ++ [y] ++ xs.drop i.toNat) | _ => False
theorem dm_insert : MtR X "list.insert" (liftMt X.K (mtL gInsert)) := mt_imp mt_insert fun x vs H Q ⟨G, m, dx, ds, Φ, rm, rx, rd, q, k⟩ => by
  cases dx with
  | ref a =>
    obtain rfl : x = .ref a := rx
    obtain ⟨xs, hm, q⟩ := q
    unfold gInsert at q
    split at q
    · rename_i i y
      obtain ⟨v, u, rfl, hv, hu⟩ := rv2 rd
      obtain rfl : v = .int i := hv
      obtain ⟨_, w, hw, ys, rfl, h2⟩ := rm.mem a _ hm
      exact ⟨a, ys, i, u, rfl, rfl, hw, by rw [← h2.length]; exact q.1, q.2.1, q.2.2.1, k G .non _ _ _ (Sub.refl G) (rm.put (o := .lst _) hm ⟨_, rfl, ((h2.take _).append (RVs.one hu)).append (h2.drop _)⟩) rfl q.2.2.2⟩
    · exact q.elim
  | _ => exact q.elim
def gPop : List D → List D → (D → List D → Prop) → Prop := fun ds xs R => match ds with | [] => ∃ y, xs[xs.length - 1]? = some y ∧ R y xs.dropLast | _ => False
theorem RVs.dropLast {K : PySem.W.Frag} {G : Hp} {ds : List D} {xs : List V} (h : RVs K G ds xs) : RVs K G ds.dropLast xs.dropLast := by
  rw [List.dropLast_eq_take, List.dropLast_eq_take, ← h.length]
  exact h.take _
theorem dm_pop : MtR X "list.pop" (liftMt X.K (mtL gPop)) := mt_imp mt_pop fun x vs H Q ⟨G, m, dx, ds, Φ, rm, rx, rd, q, k⟩ => by
  cases dx with
  | ref a =>
    obtain rfl : x = .ref a := rx
    obtain ⟨xs, hm, q⟩ := q
    unfold gPop at q
    split at q
    · obtain ⟨y, h1, q⟩ := q
      obtain ⟨_, w, hw, ys, rfl, h2⟩ := rm.mem a _ hm
      obtain ⟨v, h3, h4⟩ := h2.get h1
      exact ⟨a, ys, v, rfl, rd, hw, by rw [← h2.length]; exact h3, k G y _ _ _ (Sub.refl G) (rm.put (o := .lst _) hm ⟨_, rfl, h2.dropLast⟩) h4 q⟩
    · exact q.elim
  | _ => exact q.elim
def gPopAt : List D → List D → (D → List D → Prop) → Prop := fun ds xs R => match ds with | [.int i] => ∃ k y, -(2 ^ 63) ≤ i ∧ i < 2 ^ 63 ∧ seqIndex? i xs.length = some k ∧ xs[k]? = some y ∧ R y (xs.eraseIdx k) | _ => False
theorem dm_popAt : MtR X "list.pop" (liftMt X.K (mtL gPopAt)) := mt_imp mt_popAt fun x vs H Q ⟨G, m, dx, ds, Φ, rm, rx, rd, q, k⟩ => by
  cases dx with
  | ref a =>
    obtain rfl : x = .ref a := rx
    obtain ⟨xs, hm, q⟩ := q
    unfold gPopAt at q
    split at q
    · rename_i i
      obtain ⟨v, rfl, hv⟩ := rv1 rd
      obtain rfl : v = .int i := hv
      obtain ⟨j, y, a1, a2, a3, a4, q⟩ := q
      obtain ⟨_, w, hw, ys, rfl, h2⟩ := rm.mem a _ hm
      obtain ⟨v, h3, h4⟩ := h2.get a4
      exact ⟨a, ys, i, j, v, rfl, rfl, hw, a1, a2, by rw [← h2.length]; exact a3, h3, k G y _ _ _ (Sub.refl G) (rm.put (o := .lst _) hm ⟨_, rfl, h2.eraseIdx j⟩) h4 q⟩
    · exact q.elim
  | _ => exact q.elim
def gReverse : List D → List D → (D → List D → Prop) → Prop := fun ds xs R => match ds with | [] => R .non xs.reverse | _ => False
theorem dm_reverse : MtR X "list.reverse" (liftMt X.K (mtL gReverse)) := mt_imp mt_reverse fun x vs H Q ⟨G, m, dx, ds, Φ, rm, rx, rd, q, k⟩ => by
  cases dx with
  | ref a =>
    obtain rfl : x = .ref a := rx
    obtain ⟨xs, hm, q⟩ := q
    unfold gReverse at q
    split at q
    · obtain ⟨_, w, hw, ys, rfl, h2⟩ := rm.mem a _ hm
      exact ⟨a, ys, rfl, rd, hw, k G .non _ _ _ (Sub.refl G) (rm.put (o := .lst _) hm ⟨_, rfl, h2.reverse⟩) rfl q⟩
    · exact q.elim
  | _ => exact q.elim
def gClear : List D → List D → (D → List D → Prop) → Prop := fun ds xs R => match ds with | [] => R .non [] | _ => False
theorem dm_clear : MtR X "list.clear" (liftMt X.K (mtL gClear)) := mt_imp mt_clear fun x vs H Q ⟨G, m, dx, ds, Φ, rm, rx, rd, q, k⟩ => by
  cases dx with
  | ref a =>
    obtain rfl : x = .ref a := rx
    obtain ⟨xs, hm, q⟩ := q
    unfold gClear at q
    split at q
    · obtain ⟨_, w, hw, ys, rfl, h2⟩ := rm.mem a _ hm
      exact ⟨a, ys, rfl, rd, hw, k G .non _ _ _ (Sub.refl G) (rm.put (o := .lst []) hm ⟨[], rfl, rfl⟩) rfl q⟩
    · exact q.elim
  | _ => exact q.elim
/-- xs.extend(ys), ys a list that may change -/
def mExtend : D → LSp := fun x ds m Φ => match x, ds with
  | .ref a, [.ref b] => ∃ xs ys, m a = some (.lst xs) ∧ m b = some (.lst ys) ∧ xs.length + ys.length ≤ sizeLine ∧ Φ .non (mset m a (.lst (xs ++ ys)))
  | _, _ => False
theorem dm_extend : MtR X "list.extend" (liftMt X.K mExtend) := mt_imp mt_extend fun x vs H Q ⟨G, m, dx, ds, Φ, rm, rx, rd, q, k⟩ => by
  unfold mExtend at q
  split at q
  · rename_i a b
    obtain rfl : x = .ref a := rx
    obtain ⟨v, rfl, hv⟩ := rv1 rd
    obtain rfl : v = .ref b := hv
    obtain ⟨xs, ys, h1, h2, h3, q⟩ := q
    obtain ⟨_, w, hw, vs, rfl, r1⟩ := rm.mem a _ h1
    obtain ⟨_, w', hw', us, rfl, r2⟩ := rm.mem b _ h2
    exact ⟨a, b, vs, us, rfl, rfl, hw, hw', by rw [← r1.length, ← r2.length]; exact h3, k G .non _ _ _ (Sub.refl G) (rm.put (o := .lst _) h1 ⟨_, rfl, r1.append r2⟩) rfl q⟩
  · exact q.elim
end
end L3
namespace L3
open PySem L2
/-! ### targets -/
inductive Pat where
  | nm (i : Nat)
  | tp (ps : List Pat)
section
variable (K : PySem.W.Frag)
mutual
/-- the layer's own reading of a target -/
def tgOf : Pat → TG
  | .nm i => gName i
  | .tp ps => gSeqT K ps.length (tgsOf ps)
def tgsOf : List Pat → TGs
  | [] => gNil
  | p :: ps => gCons (tgOf p) (tgsOf ps)
end
end
mutual
/-- the slots behind the store of a datum -/
def asg : Pat → D → DSt → Option DSt
  | .nm i, d, s => some (s.set i (some d))
  | .tp ps, d, s => match d with
    | .tup ds => asgs ps ds s
    | .lst ds => asgs ps ds s
    | _ => none
def asgs : List Pat → List D → DSt → Option DSt
  | [], [], s => some s
  | p :: ps, d :: ds, s => match asg p d s with
    | some s1 => asgs ps ds s1
    | none => none
  | _, _, _ => none
end
mutual
def slots : Pat → List Nat
  | .nm i => [i]
  | .tp ps => slotss ps
def slotss : List Pat → List Nat
  | [] => []
  | p :: ps => slots p ++ slotss ps
end
theorem wipe_set {σ : St} {i : Nat} {x : Option V} : ∀ {vs : List Nat}, i ∈ vs → wipe (σ.set i x) vs = wipe σ vs
  | v :: vs, h => by
    show (wipe (σ.set i x) vs).set v none = (wipe σ vs).set v none
    by_cases hv : i ∈ vs
    · rw [wipe_set hv]
    · have e : i = v := by
        rcases List.mem_cons.mp h with h | h
        · exact h
        · exact absurd h hv
      subst e
      have q : ∀ (us : List Nat), i ∉ us → wipe (σ.set i x) us = (wipe σ us).set i x := by
        intro us
        induction us with
        | nil => intro _; rfl
        | cons u us ih =>
          intro hu
          show (wipe (σ.set i x) us).set u none = ((wipe σ us).set u none).set i x
          rw [ih (fun z => hu (List.mem_cons_of_mem _ z)), List.set_comm _ _ (fun z => hu (by rw [z]; exact List.mem_cons_self))]
      rw [q vs hv, List.set_set]
theorem asgs_len : ∀ {ps : List Pat} {ds : List D} {s s2 : DSt}, asgs ps ds s = some s2 → ds.length = ps.length
  | [], [], _, _, _ => rfl
  | [], _ :: _, _, _, h => by simp [asgs] at h
  | _ :: _, [], _, _, h => by simp [asgs] at h
  | p :: ps, d :: ds, s, s2, h => by
    rw [asgs] at h
    cases e : asg p d s with
    | none => rw [e] at h; cases h
    | some s1 => rw [e] at h; rw [List.length_cons, List.length_cons, asgs_len h]
section
variable {K : PySem.W.Frag} {G H : Hp}
mutual
theorem asg_run (e : Sub G H) : ∀ (p : Pat) {d : D} {v : V} {s s2 : DSt} {σ : St}, RV K G d v → RelS K s G σ → asg p d s = some s2 →
    ∃ σ2, RelS K s2 G σ2 ∧ (∀ Q : St → Hp → Prop, Q σ2 H → tgOf K p v σ H Q) ∧ ∀ vs : List Nat, (∀ i ∈ slots p, i ∈ vs) → wipe σ2 vs = wipe σ vs
  | .nm i, d, v, s, s2, σ, rv, rs, h => by
    obtain rfl : s.set i (some d) = s2 := Option.some.inj h
    exact ⟨σ.set i (some v), rs.set i rv, fun Q q => q, fun vs hv => wipe_set (hv i (by simp [slots]))⟩
  | .tp ps, d, v, s, s2, σ, rv, rs, h => by
    cases d with
    | tup ds =>
      obtain ⟨a, xs, rfl, h1, h2⟩ := rv
      have h' : asgs ps ds s = some s2 := h
      obtain ⟨σ2, r2, run, w⟩ := asgs_run e ps h2 rs h'
      exact ⟨σ2, r2, fun Q q => ⟨a, xs, rfl, .inl (e.t h1), by rw [← h2.length]; exact asgs_len h', run Q q⟩, w⟩
    | lst ds =>
      obtain ⟨a, xs, rfl, h1, h2⟩ := rv
      have h' : asgs ps ds s = some s2 := h
      obtain ⟨σ2, r2, run, w⟩ := asgs_run e ps h2 rs h'
      exact ⟨σ2, r2, fun Q q => ⟨a, xs, rfl, .inr (e.l h1), by rw [← h2.length]; exact asgs_len h', run Q q⟩, w⟩
    | _ => cases h
theorem asgs_run (e : Sub G H) : ∀ (ps : List Pat) {ds : List D} {xs : List V} {s s2 : DSt} {σ : St}, RVs K G ds xs → RelS K s G σ → asgs ps ds s = some s2 →
    ∃ σ2, RelS K s2 G σ2 ∧ (∀ Q : St → Hp → Prop, Q σ2 H → tgsOf K ps xs σ H Q) ∧ ∀ vs : List Nat, (∀ i ∈ slotss ps, i ∈ vs) → wipe σ2 vs = wipe σ vs
  | [], ds, xs, s, s2, σ, rv, rs, h => by
    cases ds with
    | nil =>
      obtain rfl : s = s2 := Option.some.inj h
      exact ⟨σ, rs, fun Q q => ⟨rv, q⟩, fun _ _ => rfl⟩
    | cons d ds => simp [asgs] at h
  | p :: ps, ds, xs, s, s2, σ, rv, rs, h => by
    cases ds with
    | nil => simp [asgs] at h
    | cons d ds =>
      obtain ⟨x, r, rfl, h2, h3⟩ := rv
      rw [asgs] at h
      cases e1 : asg p d s with
      | none => rw [e1] at h; cases h
      | some s1 =>
        rw [e1] at h
        obtain ⟨σ1, r1, run1, w1⟩ := asg_run e p h2 rs e1
        obtain ⟨σ2, r2, run2, w2⟩ := asgs_run e ps h3 r1 h
        exact ⟨σ2, r2, fun Q q => ⟨x, r, rfl, run1 _ (run2 Q q)⟩, fun vs hv => (w2 vs fun i hi => hv i (by simp [slotss, hi])).trans (w1 vs fun i hi => hv i (by simp [slotss, hi]))⟩
end
end
section
variable {X : Cx} {pos : Pos}
theorem pt_nm (i : Nat) {x : Str} (hN : X.N.Nodup) (hi : X.N[i]? = some x := by rfl) (hx : Loc X.env.scope x := by first | exact Or.inl rfl | exact Or.inr rfl) (hf : X.fn x = true ∨ X.env.scope.names.lookup x = some .local := by first | exact .inr rfl | exact .inl rfl | assumption) : PG X (.Name x pos) (tgOf X.K (.nm i)) := pg_name hN hi hx hf
theorem pt_tp {es : List Expr} {k : Nat} {ps : List Pat} (hc : X.calm = true) (h : PGs X es (tgsOf X.K ps)) (hn : (assignEach es X.env).length = ps.length := by rfl) (hst : (assignEach es X.env).findIdx? (·.1) = none := by rfl) : PG X (.Tuple es k pos) (tgOf X.K (.tp ps)) := pg_seq hc h hn hst
theorem pts_nl : PGs X [] (tgsOf X.K []) := pgs_nil
theorem pts_cn {e : Expr} {es : List Expr} {p : Pat} {ps : List Pat} (h1 : PG X e (tgOf X.K p)) (h2 : PGs X es (tgsOf X.K ps)) (hs : (assignEach (e :: es) X.env).map (·.2) = assign e X.env :: (assignEach es X.env).map (·.2) := by rfl) : PGs X (e :: es) (tgsOf X.K (p :: ps)) := pgs_cons h1 h2 hs
end
/-! ### statements -/
def sNext : QS := fun E s m => E.nx s m
def sSeq (t u : QS) : QS := fun E s m => t { E with nx := u E } s m
def sBreak : QS := fun E s m => E.bk s m
def sCont : QS := fun E s m => E.ct s m
def sExpr (qe : QE) : QS := fun E s m => qe s m fun _ m1 => E.nx s m1
def sRet (qe : QE) : QS := fun E s m => qe s m E.rt
def sRetN : QS := fun E _ m => E.rt .non m
def sIf (c : QT) (t u : QS) : QS := fun E s m => c s m fun b m1 => qIf b (t E s m1) (u E s m1)
def sNever : QS := fun _ _ _ => False
/-- target = value -/
def sAsg (p : Pat) (qe : QE) : QS := fun E s m => qe s m fun d m1 => match asg p d s with | some s2 => E.nx s2 m1 | none => False
def sPar (i j : Nat) (qa : QA) : QS := fun E s m => qa s m fun ds m1 => match ds with | [d, e] => E.nx ((s.set i (some d)).set j (some e)) m1 | _ => False
def sPar3 (i j l : Nat) (qa : QA) : QS := fun E s m => qa s m fun ds m1 => match ds with | [d, e, f] => E.nx (((s.set i (some d)).set j (some e)).set l (some f)) m1 | _ => False
def sAug (i : Nat) (r : D → D → Mem → DK → Prop) (qe : QE) : QS := fun E s m => match look s i with
  | some x => qe s m fun y m1 => r x y m1 fun z m2 => E.nx (s.set i (some z)) m2
  | none => False
section
variable {X : Cx} {st : Stmt} {rest : List Stmt} {t u : QS} {e : Expr} {qe : QE} {qa : QA} {pos : Pos}
theorem dss_nil : PSs X [] (liftS X.K sNext) := pss_imp pss_nil fun D σ H ⟨G, s, m, E, rm, rs, q, kn, kr, kb, kc⟩ => kn G s m σ H (Sub.refl G) rm rs q
theorem lift_next {K : PySem.W.Frag} : ∀ D σ H, liftS K sNext D σ H → tNext D σ H := fun D σ H ⟨G, s, m, E, rm, rs, q, kn, kr, kb, kc⟩ => kn G s m σ H (Sub.refl G) rm rs q
theorem dss_cons (h1 : PS X st (liftS X.K t)) (h2 : PSs X rest (liftS X.K u)) : PSs X (st :: rest) (liftS X.K (sSeq t u)) :=
  pss_imp (pss_cons h1 h2) fun D σ H ⟨G, s, m, E, rm, rs, q, kn, kr, kb, kc⟩ => ⟨G, s, m, { E with nx := u E }, rm, rs, q, fun G1 s1 m1 σ1 H1 e1 r1 rs1 q1 => ⟨G1, s1, m1, E, r1, rs1, q1, kn.mono e1, kr.mono e1, kb.mono e1, kc.mono e1⟩, kr, kb, kc⟩
theorem dss_one (h1 : PS X st (liftS X.K t)) : PSs X [st] (liftS X.K t) := pss_one h1
theorem ds_pass : PS X (.Pass pos) (liftS X.K sNext) := ps_imp ps_pass lift_next
theorem ds_break : PS X (.Break pos) (liftS X.K sBreak) := ps_imp ps_break fun D σ H ⟨G, s, m, E, rm, rs, q, kn, kr, kb, kc⟩ => kb G s m σ H (Sub.refl G) rm rs q
theorem ds_continue : PS X (.Continue pos) (liftS X.K sCont) := ps_imp ps_continue fun D σ H ⟨G, s, m, E, rm, rs, q, kn, kr, kb, kc⟩ => kc G s m σ H (Sub.refl G) rm rs q
theorem ds_never : PS X st (liftS X.K sNever) := ps_imp ps_never fun D σ H ⟨_, _, _, _, _, _, q, _⟩ => q
theorem dss_never {sts : List Stmt} : PSs X sts (liftS X.K sNever) := pss_imp pss_never fun D σ H ⟨_, _, _, _, _, _, q, _⟩ => q
theorem ds_doc {x j pos'} : PS X (.Expr (.Constant (.str x) j pos) pos') (liftS X.K sNext) := ps_imp ps_doc lift_next
theorem ds_expr (he : PE X e (liftE X.K qe)) (hs : swapsWith e none pos.line X.env = pure false := by rfl) : PS X (.Expr e pos) (liftS X.K (sExpr qe)) :=
  ps_imp (ps_expr he hs) fun D σ H ⟨G, s, m, E, rm, rs, q, kn, kr, kb, kc⟩ => ⟨G, s, m, _, rm, rs, q, fun G1 d m1 v H1 e1 r1 rv q1 => kn G1 s m1 σ H1 e1 r1 (rs.mono e1) q1⟩
theorem ds_ret (he : PE X e (liftE X.K qe)) : PS X (.Return (some e) pos) (liftS X.K (sRet qe)) :=
  ps_imp (ps_ret he) fun D σ H ⟨G, s, m, E, rm, rs, q, kn, kr, kb, kc⟩ => ⟨G, s, m, _, rm, rs, q, kr⟩
theorem ds_retN : PS X (.Return none pos) (liftS X.K sRetN) := ps_imp ps_retN fun D σ H ⟨G, s, m, E, rm, rs, q, kn, kr, kb, kc⟩ => kr G .non m .non H (Sub.refl G) rm rfl q
theorem ds_if {c : Expr} {a b : List Stmt} {qc : QT} (hc : PT X c (liftT X.K qc)) (ha : PSs X a (liftS X.K t)) (hb : PSs X b (liftS X.K u)) : PS X (.If c a b pos) (liftS X.K (sIf qc t u)) :=
  ps_imp (ps_if hc ha hb) fun D σ H ⟨G, s, m, E, rm, rs, q, kn, kr, kb, kc⟩ => ⟨G, s, m, _, rm, rs, q, fun G1 c m1 H1 e1 r1 q1 => by
    have q1 := qif_e q1
    dsimp only
    cases c with
    | true => rw [if_pos rfl] at q1 ⊢; exact ⟨G1, s, m1, E, r1, rs.mono e1, q1, kn.mono e1, kr.mono e1, kb.mono e1, kc.mono e1⟩
    | false => rw [if_neg Bool.false_ne_true] at q1 ⊢; exact ⟨G1, s, m1, E, r1, rs.mono e1, q1, kn.mono e1, kr.mono e1, kb.mono e1, kc.mono e1⟩⟩
theorem lift_asg {K : PySem.W.Frag} {p : Pat} : ∀ D σ H, liftS K (sAsg p qe) D σ H → tAsg (liftE K qe) (tgOf K p) D σ H := fun D σ H ⟨G, s, m, E, rm, rs, q, kn, kr, kb, kc⟩ => ⟨G, s, m, _, rm, rs, q, fun G1 d m1 v H1 e1 r1 rv q1 => by
  cases h : asg p d s with
  | none => rw [h] at q1; exact q1.elim
  | some s2 =>
    rw [h] at q1
    obtain ⟨σ2, r2, run, _⟩ := asg_run r1.sub p rv (rs.mono e1) h
    exact run _ (kn G1 s2 m1 σ2 H1 e1 r1 r2 q1)⟩
/-- name = value -/
theorem ds_set (i : Nat) {x : Str} {pos' : Pos} (hN : X.N.Nodup) (he : PE X e (liftE X.K qe)) (hi : X.N[i]? = some x := by rfl) (hx : Loc X.env.scope x := by first | exact Or.inl rfl | exact Or.inr rfl) (hs : swapsWith e (some (.Name x pos')) pos.line X.env = pure false := by rfl)
    (hf : X.fn x = true ∨ X.env.scope.names.lookup x = some .local := by first | exact .inr rfl | exact .inl rfl | assumption) : PS X (.Assign [.Name x pos'] e pos) (liftS X.K (sAsg (.nm i) qe)) := ps_imp (ps_set hN hi hx he hs hf) lift_asg
/-- pattern = value -/
theorem ds_asg {tg : Expr} {p : Pat} (he : PE X e (liftE X.K qe)) (hg : PG X tg (tgOf X.K p)) (hs : swapsWithSole [tg] e pos.line X.env = pure false := by rfl) (hw : swappedStores [tg] e X.env = pure none := by rfl)
    (h1 : (assignEach [tg] X.env).map (·.2) = [assign tg X.env] := by rfl) : PS X (.Assign [tg] e pos) (liftS X.K (sAsg p qe)) := ps_imp (ps_asg he hg hs hw h1) lift_asg
theorem ds_par {x y : Str} {a b : Expr} {px py pt : Pos} {kt k2 pt2} (i j : Nat) (hc : X.calm = true) (hN : X.N.Nodup) (ha : PA X [a, b] (liftA X.K qa)) (hij : i ≠ j := by decide) (hi : X.N[i]? = some x := by rfl) (hj : X.N[j]? = some y := by rfl)
    (hx : X.env.scope.names.lookup x = some .local := by rfl) (hy : X.env.scope.names.lookup y = some .local := by rfl)
    (hw : swappedStores [.Tuple [.Name x px, .Name y py] kt pt] (.Tuple [a, b] k2 pt2) X.env = pure (some [x, y]) := by rfl)
    (hs : swapsWithSole [.Tuple [.Name x px, .Name y py] kt pt] (.Tuple [a, b] k2 pt2) pos.line X.env = pure false := by rfl) :
    PS X (.Assign [.Tuple [.Name x px, .Name y py] kt pt] (.Tuple [a, b] k2 pt2) pos) (liftS X.K (sPar i j qa)) :=
  ps_imp (ps_par hc hN hi hj hij hx hy ha hw hs) fun D σ H ⟨G, s, m, E, rm, rs, q, kn, kr, kb, kc⟩ => ⟨G, s, m, _, rm, rs, q, fun G1 ds m1 vs H1 e1 r1 rd q1 => by
    split at q1
    · obtain ⟨v, w, rfl, h1, h2⟩ := rv2 rd
      exact ⟨v, w, rfl, kn G1 _ m1 _ H1 e1 r1 (((rs.mono e1).set i h1).set j h2) q1⟩
    · exact q1.elim⟩
theorem ds_par3 {x y z : Str} {a b c : Expr} {px py pz pt : Pos} {kt k2 pt2} (i j l : Nat) (hc : X.calm = true) (hN : X.N.Nodup) (ha : PA X [a, b, c] (liftA X.K qa)) (hij : i ≠ j := by decide) (hil : i ≠ l := by decide) (hjl : j ≠ l := by decide) (hi : X.N[i]? = some x := by rfl) (hj : X.N[j]? = some y := by rfl) (hl : X.N[l]? = some z := by rfl)
    (hx : X.env.scope.names.lookup x = some .local := by rfl) (hy : X.env.scope.names.lookup y = some .local := by rfl) (hz : X.env.scope.names.lookup z = some .local := by rfl)
    (hw : swappedStores [.Tuple [.Name x px, .Name y py, .Name z pz] kt pt] (.Tuple [a, b, c] k2 pt2) X.env = pure (some [x, y, z]) := by rfl)
    (hs : swapsWithSole [.Tuple [.Name x px, .Name y py, .Name z pz] kt pt] (.Tuple [a, b, c] k2 pt2) pos.line X.env = pure false := by rfl) :
    PS X (.Assign [.Tuple [.Name x px, .Name y py, .Name z pz] kt pt] (.Tuple [a, b, c] k2 pt2) pos) (liftS X.K (sPar3 i j l qa)) :=
  ps_imp (ps_par3 hc hN hi hj hl hij hil hjl hx hy hz ha hw hs) fun D σ H ⟨G, s, m, E, rm, rs, q, kn, kr, kb, kc⟩ => ⟨G, s, m, _, rm, rs, q, fun G1 ds m1 vs H1 e1 r1 rd q1 => by
    split at q1
    · obtain ⟨v, r, rfl, h1, h2⟩ := rd
      obtain ⟨w, u, rfl, h3, h4⟩ := rv2 h2
      exact ⟨v, w, u, rfl, kn G1 _ m1 _ H1 e1 r1 ((((rs.mono e1).set i h1).set j h3).set l h4) q1⟩
    · exact q1.elim⟩
/-- name op= e -/
theorem ds_aug {op : Operator} {r : D → D → Mem → DK → Prop} (i : Nat) {x : Str} {pos' : Pos} (hN : X.N.Nodup) (ho : OpR X (inplaceOp op) (liftR X.K r)) (he : PE X e (liftE X.K qe)) (hi : X.N[i]? = some x := by rfl) (hx : Loc X.env.scope x := by first | exact Or.inl rfl | exact Or.inr rfl)
    (hf : X.fn x = true ∨ X.env.scope.names.lookup x = some .local := by first | exact .inr rfl | exact .inl rfl | assumption) : PS X (.AugAssign (.Name x pos') op e pos) (liftS X.K (sAug i r qe)) :=
  ps_imp (ps_aug (ti := liftR X.K r) hN hi hx he ho hf) fun D σ H ⟨G, s, m, E, rm, rs, q, kn, kr, kb, kc⟩ => by
    unfold sAug at q
    cases h : look s i with
    | none => rw [h] at q; exact q.elim
    | some d =>
      rw [h] at q
      obtain ⟨v, h1, h2⟩ := rs.loc i d (look_get h)
      exact ⟨v, h1, G, s, m, _, rm, rs, q, fun G1 y m1 w H1 e1 r1 ry q1 => ⟨G1, m1, d, y, _, r1, RV.mono e1 d h2, ry, q1, fun G2 z m2 u H2 e2 r2 rz q2 => kn G2 _ m2 _ H2 (e1.trans e2) r2 ((rs.mono (e1.trans e2)).set i rz) q2⟩⟩
/-! ### o[i] = v -/
def sSub (qo qi qv : QE) : QS := fun E s m => qv s m fun v m1 => qo s m1 fun o m2 => qi s m2 fun i m3 => match o with
  | .ref a => (∃ ds k j, i = .int k ∧ m3 a = some (.lst ds) ∧ ixN ds.length k = some j ∧ E.nx s (mset m3 a (.lst (ds.set j v)))) ∨
      ∃ ks k, m3 a = some (.dK ks) ∧ keyD i = some k ∧ ks.length < sizeLine ∧ E.nx s (mset m3 a (.dK (putD ks k v)))
  | _ => False
def rSetA : TSet := fun o i v H Q => rSetL o i v H Q ∨ ∃ a H', o = .ref a ∧ DPut H a i v H' ∧ Q H'
theorem set_any (hu : X.A.units + 1 < cLine) : PSet X rSetA := by
  intro pins s σ H o i v ov iv u Q I ro ri rv h
  rcases h with h | ⟨a, H', rfl, g, q⟩
  · exact set_list pins s σ H o i v ov iv u Q I ro ri rv h
  · obtain rfl : ov = Value.ref a := ro
    exact d_setItem hu I g ri rv fun s' I' => ⟨H', I', q⟩
theorem ds_sub {o i value : Expr} {qo qi qv : QE} {pos' : Pos} (hu : X.A.units + 1 < cLine) (ho : PE X o (liftE X.K qo)) (hi : PE X i (liftE X.K qi)) (hv : PE X value (liftE X.K qv))
    (ha : ∀ v, assign (.Subscript o i pos') X.env v = (do
      let ov ← holding [v] (eval o X.env)
      let iv ← holding [v, ov] (eval i X.env)
      standAt pos'
      holding [v, ov, iv] (setItem ov iv v)
      release [v, ov, iv] []) := by intro _; rfl)
    (hs : swapsWithSole [.Subscript o i pos'] value pos.line X.env = pure false := by rfl) (hw : swappedStores [.Subscript o i pos'] value X.env = pure none := by rfl)
    (h1 : (assignEach [.Subscript o i pos'] X.env).map (·.2) = [assign (.Subscript o i pos') X.env] := by rfl) :
    PS X (.Assign [.Subscript o i pos'] value pos) (liftS X.K (sSub qo qi qv)) :=
  ps_imp (ps_asg hv (pg_sub ho hi (set_any hu) ha) hs hw h1) fun D σ H ⟨G, s, m, E, rm, rs, q, kn, kr, kb, kc⟩ => ⟨G, s, m, _, rm, rs, q, fun G1 v m1 w1 H1 e1 r1 rv q1 => ⟨G1, s, m1, _, r1, rs.mono e1, q1, fun G2 o m2 w2 H2 e2 r2 ro q2 =>
    ⟨G2, s, m2, _, r2, rs.mono (e1.trans e2), q2, fun G3 i m3 w3 H3 e3 r3 ri q3 => by
      cases o with
      | ref a =>
        obtain rfl : w2 = .ref a := ro
        rcases q3 with ⟨ds, k, j, rfl, hm, hj, q3⟩ | ⟨ks, k, hm, hk, hl, q3⟩
        · obtain rfl : w3 = .int k := ri
          obtain ⟨_, w, hw, ys, rfl, h2⟩ := r3.mem a _ hm
          exact .inl ⟨a, ys, k, j, rfl, rfl, hw, by rw [← h2.length]; exact hj, kn G3 s _ σ _ ((e1.trans e2).trans e3) (r3.put (o := .lst _) hm ⟨_, rfl, RVs.set (RV.mono (e2.trans e3) v rv) j h2⟩) (rs.mono ((e1.trans e2).trans e3)) q3⟩
        · obtain ⟨_, w, hw, ys, rfl, h2⟩ := r3.mem a _ hm
          exact .inr ⟨a, _, rfl, .inl ⟨ys, k, hw, ri.key hk, by rw [← h2.length]; exact hl, rfl⟩, kn G3 s _ σ _ ((e1.trans e2).trans e3) (r3.put (o := .dK _) hm ⟨_, rfl, RKs.put k (RV.mono (e2.trans e3) v rv) h2⟩) (rs.mono ((e1.trans e2).trans e3)) q3⟩
      | _ => exact q3.elim⟩⟩⟩
/-! ### weakening what is known, opening what is hidden -/
def sWk (t : QS) : QS := fun E s m => ∃ m', MLe m m' ∧ t E s m'
end
/-! ### loops -/
/-- a walk over data: n turns -/
structure Wk (K : PySem.W.Frag) (J : It) (ds : List D) (C : Mem → Prop) (G0 : Hp) : Prop where
  stop : ∀ G m H, Sub G0 G → RelM K m G H → C m → J.stop ds.length H
  go : ∀ G m H i, Sub G0 G → RelM K m G H → C m → i < ds.length → J.go i H
  yld : ∀ G m H i x H', Sub G0 G → RelM K m G H → C m → i < ds.length → J.yld i H x H' → ∃ G' d, Sub G G' ∧ RelM K m G' H' ∧ ds[i]? = some d ∧ RV K G' d x
abbrev QI := DSt → Mem → (List D → (Mem → Prop) → Mem → Prop) → Prop
def liftI (K : PySem.W.Frag) (q : QI) : TI := fun σ H R => ∃ G s m Φ, RelM K m G H ∧ RelS K s G σ ∧ q s m Φ ∧ ∀ G' ds C m' J H', Sub G G' → RelM K m' G' H' → Wk K J ds C G' → Φ ds C m' → R J H'
theorem pi_imp {X : Cx} {tg e : Expr} {t t' : TI} (h : PI X tg e t) (i : ∀ σ H Q, t' σ H Q → t σ H Q) : PI X tg e t' := ⟨fun pins s σ H Q I w => h.run pins s σ H Q I (i σ H Q w)⟩
theorem pi_or2 {X : Cx} {tg e : Expr} {t t' : TI} (h : PI X tg e t) (h' : PI X tg e t') : PI X tg e (fun σ H Q => t σ H Q ∨ t' σ H Q) := ⟨fun pins s σ H Q I w => w.elim (h.run pins s σ H Q I) (h'.run pins s σ H Q I)⟩
/-- for target in iter: I: the word by the turn -/
def sFor (qi : QI) (p : Pat) (qb : QS) : QS := fun E s m => qi s m fun ds C m1 => ∃ I : Nat → DSt → Mem → Prop, I 0 s m1 ∧ (∀ i s' m', i ≤ ds.length → I i s' m' → C m') ∧
  (∀ i d s' m', ds[i]? = some d → I i s' m' → match asg p d s' with
    | some s2 => qb { E with nx := I (i + 1), ct := I (i + 1), bk := E.nx } s2 m'
    | none => False) ∧ ∀ s' m', I ds.length s' m' → E.nx s' m'
theorem ds_for {X : Cx} {tg iter : Expr} {body : List Stmt} {qi : QI} {p : Pat} {qb : QS} {pos : Pos} (hp : PassesOwn (model X.prog X.w) X.A X.env X.xe) (hc : X.calm = true) (hi : PI X tg iter (liftI X.K qi)) (hg : PG X tg (tgOf X.K p)) (hb : PSs X body (liftS X.K qb))
    (hs : ∀ x, foldedSetIterable iter X.env x = pure x := by intro _; rfl) : PS X (.For tg iter body [] pos) (liftS X.K (sFor qi p qb)) :=
  ps_imp (ps_for hp hc hi hg hb hs) fun D σ H ⟨G, s, m, E, rm, rs, q, kn, kr, kb, kc⟩ => ⟨G, s, m, _, rm, rs, q, fun G1 ds C m1 J H1 e1 r1 wk ⟨I, h0, hC, hS, hE⟩ => by
    refine ⟨fun i n σ' H' => n = ds.length - i ∧ i ≤ ds.length ∧ ∃ G2 s2 m2, Sub G1 G2 ∧ RelM X.K m2 G2 H' ∧ RelS X.K s2 G2 σ' ∧ I i s2 m2, ⟨_, rfl, Nat.zero_le _, G1, s, m1, Sub.refl G1, r1, rs.mono e1, h0⟩, ?_⟩
    rintro i n σ' H' ⟨rfl, hi', G2, s2, m2, e2, r2, rs2, h2⟩
    by_cases hlt : i < ds.length
    · refine .inr ⟨wk.go G2 m2 H' i e2 r2 (hC i s2 m2 hi' h2) hlt, fun σ3 H3 => ∃ G3 s3 m3, Sub G1 G3 ∧ RelM X.K m3 G3 H3 ∧ RelS X.K s3 G3 σ3 ∧ I (i + 1) s3 m3, fun σ3 H3 ⟨G3, s3, m3, a, b, c, d⟩ => ⟨_, by omega, rfl, hlt, G3, s3, m3, a, b, c, d⟩, fun x H3 y => ?_⟩
      obtain ⟨G3, d, e3, r3, hd, rd⟩ := wk.yld G2 m2 H' i x H3 e2 r2 (hC i s2 m2 hi' h2) hlt y
      have hs := hS i d s2 m2 hd h2
      cases ha : asg p d s2 with
      | none => rw [ha] at hs; exact hs.elim
      | some s3 =>
        rw [ha] at hs
        obtain ⟨σ3, rs3, run, _⟩ := asg_run r3.sub p rd (rs2.mono e3) ha
        have ee := e2.trans e3
        refine run _ ⟨G3, s3, m2, _, r3, rs3, hs, ?_, kr.mono (e1.trans ee), kn.mono (e1.trans ee), ?_⟩
        · exact fun G4 s4 m4 σ4 H4 e4 r4 rs4 h4 => ⟨G4, s4, m4, ee.trans e4, r4, rs4, h4⟩
        · exact fun G4 s4 m4 σ4 H4 e4 r4 rs4 h4 => ⟨G4, s4, m4, ee.trans e4, r4, rs4, h4⟩
    · have e : i = ds.length := by omega
      subst e
      exact .inl ⟨wk.stop G2 m2 H' e2 r2 (hC _ s2 m2 hi' h2), kn G2 s2 m2 σ' H' (e1.trans e2) r2 rs2 (hE s2 m2 h2)⟩⟩
/-- while: I by a measure -/
def sWhile (c : QT) (qb : QS) : QS := fun E s m => ∃ I : Nat → DSt → Mem → Prop, (∃ n, I n s m) ∧ ∀ n s' m', I n s' m' → c s' m' fun b m1 => qIf b (qb { E with nx := fun s2 m2 => ∃ n', n' < n ∧ I n' s2 m2, ct := fun s2 m2 => ∃ n', n' < n ∧ I n' s2 m2, bk := E.nx } s' m1) (E.nx s' m1)
theorem ds_while {X : Cx} {c : Expr} {body : List Stmt} {qc : QT} {qb : QS} {pos : Pos} (hp : PassesOwn (model X.prog X.w) X.A X.env X.xe) (hc : PT X c (liftT X.K qc)) (hb : PSs X body (liftS X.K qb)) : PS X (.While c body [] pos) (liftS X.K (sWhile qc qb)) :=
  ps_imp (ps_while hp hc hb) fun D σ H ⟨G, s, m, E, rm, rs, ⟨I, ⟨n0, h0⟩, hS⟩, kn, kr, kb, kc⟩ => by
    refine ⟨fun n σ' H' => ∃ G2 s2 m2, Sub G G2 ∧ RelM X.K m2 G2 H' ∧ RelS X.K s2 G2 σ' ∧ I n s2 m2, ⟨n0, G, s, m, Sub.refl G, rm, rs, h0⟩, ?_⟩
    rintro n σ' H' ⟨G2, s2, m2, e2, r2, rs2, h2⟩
    refine ⟨G2, s2, m2, _, r2, rs2, hS n s2 m2 h2, fun G3 b m3 H3 e3 r3 q3 => ?_⟩
    have q3 := qif_e q3
    dsimp only
    have ee := e2.trans e3
    cases b with
    | true =>
      rw [if_pos rfl] at q3 ⊢
      refine ⟨fun σ4 H4 => ∃ n', n' < n ∧ ∃ G4 s4 m4, Sub G G4 ∧ RelM X.K m4 G4 H4 ∧ RelS X.K s4 G4 σ4 ∧ I n' s4 m4, fun σ4 H4 z => z, G3, s2, m3, _, r3, rs2.mono e3, q3, ?_, kr.mono ee, kn.mono ee, ?_⟩
      · exact fun G4 s4 m4 σ4 H4 e4 r4 rs4 ⟨n', hn, h4⟩ => ⟨n', hn, G4, s4, m4, ee.trans e4, r4, rs4, h4⟩
      · exact fun G4 s4 m4 σ4 H4 e4 r4 rs4 ⟨n', hn, h4⟩ => ⟨n', hn, G4, s4, m4, ee.trans e4, r4, rs4, h4⟩
    | false =>
      rw [if_neg Bool.false_ne_true] at q3 ⊢
      exact kn G3 s2 m3 σ' H3 ee r3 (rs2.mono e3) q3
/-! ### sources -/
section
variable {X : Cx} {tg e : Expr} {qe : QE} {qa : QA}
theorem wk_list {K : PySem.W.Frag} {G0 : Hp} {a : Addr} {ds : List D} {xs : List V} (h : SqL K G0 a xs) (r : RVs K G0 ds xs) : Wk K (Itl K a) ds (fun _ => True) G0 where
  stop := fun G m H e rm _ => ⟨xs, rm.sub.l (e.l h), by rw [r.length]; exact Nat.le_refl _⟩
  go := fun G m H i e rm _ hi => ⟨xs, xs[i]'(by rw [← r.length]; exact hi), rm.sub.l (e.l h), by simp [show i < xs.length by rw [← r.length]; exact hi]⟩
  yld := fun G m H i x H' e rm _ hi y => by
    obtain ⟨rfl, y⟩ := y
    obtain ⟨d, h1, h2⟩ := r.getV (y xs (rm.sub.l (e.l h)))
    exact ⟨G, d, Sub.refl G, rm, h1, RV.mono e d h2⟩
theorem wk_tup {K : PySem.W.Frag} {G0 : Hp} {a : Addr} {ds : List D} {xs : List V} (h : SqT K G0 a xs) (r : RVs K G0 ds xs) : Wk K (Itt K a) ds (fun _ => True) G0 where
  stop := fun G m H e rm _ => ⟨xs, rm.sub.t (e.t h), by rw [r.length]; exact Nat.le_refl _⟩
  go := fun G m H i e rm _ hi => ⟨xs, xs[i]'(by rw [← r.length]; exact hi), rm.sub.t (e.t h), by simp [show i < xs.length by rw [← r.length]; exact hi]⟩
  yld := fun G m H i x H' e rm _ hi y => by
    obtain ⟨rfl, y⟩ := y
    obtain ⟨d, h1, h2⟩ := r.getV (y xs (rm.sub.t (e.t h)))
    exact ⟨G, d, Sub.refl G, rm, h1, RV.mono e d h2⟩
/-- a list that may change, but does not while it is walked -/
theorem wk_ref {K : PySem.W.Frag} {G0 : Hp} {a : Addr} {ds : List D} : Wk K (Itl K a) ds (fun m => m a = some (.lst ds)) G0 where
  stop := fun G m H e rm hm => by
    obtain ⟨_, w, hw, xs, rfl, h2⟩ := rm.mem a _ hm
    exact ⟨xs, .inl (.inl hw), by rw [h2.length]; exact Nat.le_refl _⟩
  go := fun G m H i e rm hm hi => by
    obtain ⟨_, w, hw, xs, rfl, h2⟩ := rm.mem a _ hm
    exact ⟨xs, xs[i]'(by rw [← h2.length]; exact hi), .inl (.inl hw), by simp [show i < xs.length by rw [← h2.length]; exact hi]⟩
  yld := fun G m H i x H' e rm hm hi y => by
    obtain ⟨_, w, hw, xs, rfl, h2⟩ := rm.mem a _ hm
    obtain ⟨rfl, y⟩ := y
    obtain ⟨d, h3, h4⟩ := h2.getV (y xs (.inl (.inl hw)))
    exact ⟨G, d, Sub.refl G, rm, h3, h4⟩
theorem wk_range {K : PySem.W.Frag} {G0 : Hp} {lo : Int} {n : Nat} : Wk K (Itr lo n) ((List.range n).map fun (i : Nat) => D.int (lo + i)) (fun _ => True) G0 where
  stop := fun G m H e rm _ => by rw [List.length_map, List.length_range]; exact Nat.le_refl _
  go := fun G m H i e rm _ hi => by rw [List.length_map, List.length_range] at hi; exact hi
  yld := fun G m H i x H' e rm _ hi y => by
    obtain ⟨rfl, rfl⟩ := y
    rw [List.length_map, List.length_range] at hi
    exact ⟨G, .int (lo + i), Sub.refl G, rm, by simp [hi], rfl⟩
def iLst (qe : QE) : QI := fun s m Φ => qe s m fun x m1 => match x with
  | .lst ds => Φ ds (fun _ => True) m1
  | .ref a => ∃ ds, m1 a = some (.lst ds) ∧ Φ ds (fun m => m a = some (.lst ds)) m1
  | _ => False
theorem di_lst (h : PE X e (liftE X.K qe)) : PI X tg e (liftI X.K (iLst qe)) := pi_imp (pi_list h) fun σ H R ⟨G, s, m, Φ, rm, rs, q, k⟩ => ⟨G, s, m, _, rm, rs, q, fun G1 x m1 v H1 e1 r1 rx q1 => by
  cases x with
  | lst ds =>
    obtain ⟨a, xs, rfl, h1, h2⟩ := rx
    exact ⟨a, rfl, ⟨xs, r1.sub.l h1⟩, k G1 ds _ m1 _ H1 e1 r1 (wk_list h1 h2) q1⟩
  | ref a =>
    obtain rfl : v = .ref a := rx
    obtain ⟨ds, hm, q1⟩ := q1
    obtain ⟨_, w, hw, xs, rfl, h2⟩ := r1.mem a _ hm
    exact ⟨a, rfl, ⟨xs, .inl (.inl hw)⟩, k G1 ds _ m1 _ H1 e1 r1 wk_ref q1⟩
  | _ => exact q1.elim⟩
def iTup (qe : QE) : QI := fun s m Φ => qe s m fun x m1 => match x with
  | .tup ds => Φ ds (fun _ => True) m1
  | _ => False
theorem di_tup (h : PE X e (liftE X.K qe)) : PI X tg e (liftI X.K (iTup qe)) := pi_imp (pi_tup h) fun σ H R ⟨G, s, m, Φ, rm, rs, q, k⟩ => ⟨G, s, m, _, rm, rs, q, fun G1 x m1 v H1 e1 r1 rx q1 => by
  cases x with
  | tup ds =>
    obtain ⟨a, xs, rfl, h1, h2⟩ := rx
    exact ⟨a, rfl, ⟨xs, r1.sub.t h1⟩, k G1 ds _ m1 _ H1 e1 r1 (wk_tup h1 h2) q1⟩
  | _ => exact q1.elim⟩
/-- range(n), range(i, j) -/
def intsD (lo : Int) (n : Nat) : List D := (List.range n).map fun (i : Nat) => D.int (lo + i)
def iRange1 (qa : QA) : QI := fun s m Φ => qa s m fun ds m1 => match ds with
  | [.int j] => -(2 ^ 62) ≤ j ∧ j < 2 ^ 62 ∧ Φ (intsD 0 j.toNat) (fun _ => True) m1
  | _ => False
theorem di_range1 {a : Expr} {p pos : Pos} (hg : Gl X "range") (hm : X.mg "range" = none) (ha : PA X [a] (liftA X.K qa)) (hs : starEach [a] X.env = [(false, eval a X.env)] := by rfl) : PI X tg (.Call (.Name "range" p) [a] [] pos) (liftI X.K (iRange1 qa)) :=
  pi_imp (pi_range1 hg hm ha hs) fun σ H R ⟨G, s, m, Φ, rm, rs, q, k⟩ => ⟨G, s, m, _, rm, rs, q, fun G1 ds m1 vs H1 e1 r1 rd q1 => by
    split at q1
    · rename_i j
      obtain ⟨v, rfl, h⟩ := rv1 rd
      obtain rfl : v = .int j := h
      exact ⟨j, rfl, q1.1, q1.2.1, k G1 _ _ m1 _ H1 e1 r1 wk_range q1.2.2⟩
    · exact q1.elim⟩
def iRange2 (qa : QA) : QI := fun s m Φ => qa s m fun ds m1 => match ds with
  | [.int i, .int j] => (-(2 ^ 62) ≤ i ∧ i < 2 ^ 62 ∧ -(2 ^ 62) ≤ j ∧ j < 2 ^ 62) ∧ Φ (intsD i (j - i).toNat) (fun _ => True) m1
  | _ => False
theorem di_range2 {a b : Expr} {p pos : Pos} (hg : Gl X "range") (hm : X.mg "range" = none) (ha : PA X [a, b] (liftA X.K qa)) (hs : starEach [a, b] X.env = [(false, eval a X.env), (false, eval b X.env)] := by rfl) (hs2 : starEach [b] X.env = [(false, eval b X.env)] := by rfl) :
    PI X tg (.Call (.Name "range" p) [a, b] [] pos) (liftI X.K (iRange2 qa)) :=
  pi_imp (pi_range2 hg hm ha hs hs2) fun σ H R ⟨G, s, m, Φ, rm, rs, q, k⟩ => ⟨G, s, m, _, rm, rs, q, fun G1 ds m1 vs H1 e1 r1 rd q1 => by
    split at q1
    · rename_i i j
      obtain ⟨v, u, rfl, h, h'⟩ := rv2 rd
      obtain rfl : v = .int i := h
      obtain rfl : u = .int j := h'
      exact ⟨i, j, rfl, q1.1, k G1 _ _ m1 _ H1 e1 r1 wk_range q1.2⟩
    · exact q1.elim⟩
end
end L3
namespace L3
open PySem L2
/-! ### dicts walked -/
def dKey : Key → D
  | .inl i => .int i
  | .inr x => .str x
theorem rv_dKey {K : PySem.W.Frag} {G : Hp} : ∀ k : Key, RV K G (dKey k) (kV k)
  | .inl _ => rfl
  | .inr _ => rfl
theorem keyD_dKey : ∀ k : Key, keyD (dKey k) = some k
  | .inl _ => rfl
  | .inr _ => rfl
theorem RKs.getV {K : PySem.W.Frag} {G : Hp} {κ : Type} : ∀ {ds : List (κ × D)} {xs : List (κ × V)} {i : Nat} {k : κ} {x : V}, RKs K G ds xs → xs[i]? = some (k, x) → ∃ d, ds[i]? = some (k, d) ∧ RV K G d x
  | [], _, _, _, _, h, e => by rw [show _ = [] from h] at e; simp at e
  | p :: _, _, 0, k, y, ⟨x, r, h1, h2, h3⟩, e => by
    subst h1
    have e : (p.1, x) = (k, y) := Option.some.inj e
    cases e
    exact ⟨p.2, rfl, h2⟩
  | _ :: _, _, i + 1, _, _, ⟨x, r, h1, h2, h3⟩, e => by
    subst h1
    exact RKs.getV (i := i) h3 e
section
variable {K : PySem.W.Frag} {G0 : Hp} {a : Addr} {o : Obj} {ks : List (Key × D)} {xs : List (Key × V)}
theorem wk_items (g : G0 a = some (.frz o (.dK xs))) (r : RKs K G0 ks xs) : Wk K (Iti a o xs) (ks.map fun p => .tup [dKey p.1, p.2]) (fun m => m a = some (.fz ks)) G0 where
  stop := fun G m H e rm _ => ⟨rm.sub _ _ (e _ _ g), by rw [List.length_map, r.length]; exact Nat.le_refl _⟩
  go := fun G m H i e rm _ hi => ⟨rm.sub _ _ (e _ _ g), by rw [List.length_map, r.length] at hi; exact hi⟩
  yld := fun G m H i x H' e rm _ hi y => by
    obtain ⟨T, k, v, h1, rfl, h2, rfl⟩ := y
    obtain ⟨d, h3, h4⟩ := r.getV h1
    obtain ⟨r1, e1⟩ := rm.lay (u := .tup [kV k, v]) h2
    exact ⟨_, .tup [dKey k, d], e1, r1, by rw [List.getElem?_map, h3]; rfl, T, _, rfl, .inl (.inl upd_same), RVs.cons (rv_dKey k) (RVs.one (RV.mono (e.trans e1) d h4))⟩
theorem wk_keys (g : G0 a = some (.frz o (.dK xs))) (r : RKs K G0 ks xs) : Wk K (Itk a o xs) (ks.map fun p => dKey p.1) (fun m => m a = some (.fz ks)) G0 where
  stop := fun G m H e rm _ => ⟨rm.sub _ _ (e _ _ g), by rw [List.length_map, r.length]; exact Nat.le_refl _⟩
  go := fun G m H i e rm _ hi => ⟨rm.sub _ _ (e _ _ g), by rw [List.length_map, r.length] at hi; exact hi⟩
  yld := fun G m H i x H' e rm _ hi y => by
    obtain ⟨rfl, k, v, h1, rfl⟩ := y
    obtain ⟨d, h3, h4⟩ := r.getV h1
    exact ⟨G, dKey k, Sub.refl G, rm, by rw [List.getElem?_map, h3]; rfl, rv_dKey k⟩
theorem wk_vals (g : G0 a = some (.frz o (.dK xs))) (r : RKs K G0 ks xs) : Wk K (Itd a o xs) (ks.map fun p => p.2) (fun m => m a = some (.fz ks)) G0 where
  stop := fun G m H e rm _ => ⟨rm.sub _ _ (e _ _ g), by rw [List.length_map, r.length]; exact Nat.le_refl _⟩
  go := fun G m H i e rm _ hi => ⟨rm.sub _ _ (e _ _ g), by rw [List.length_map, r.length] at hi; exact hi⟩
  yld := fun G m H i x H' e rm _ hi y => by
    obtain ⟨rfl, k, h1⟩ := y
    obtain ⟨d, h3, h4⟩ := r.getV h1
    exact ⟨G, d, Sub.refl G, rm, by rw [List.getElem?_map, h3]; rfl, RV.mono e d h4⟩
end
def iDict (f : Key × D → D) (qe : QE) : QI := fun s m Φ => qe s m fun x m1 => match x with
  | .ref a => ∃ ks, m1 a = some (.fz ks) ∧ Φ (ks.map f) (fun m => m a = some (.fz ks)) m1
  | _ => False
abbrev fItem : Key × D → D := fun p => .tup [dKey p.1, p.2]
abbrev fKey : Key × D → D := fun p => dKey p.1
abbrev fVal : Key × D → D := fun p => p.2
section
variable {X : Cx} {tg e : Expr} {qe : QE} {apos cpos : Pos} {s : Shared}
theorem fz_at {K : PySem.W.Frag} {m : Mem} {G H : Hp} {a : Addr} {ks : List (Key × D)} (rm : RelM K m G H) (hm : m a = some (.fz ks)) : ∃ o xs, G a = some (.frz o (.dK xs)) ∧ H a = some (.frz o (.dK xs)) ∧ RKs K G ks xs := by
  obtain ⟨g, u, hu, o, xs, rfl, r⟩ := rm.mem a _ hm
  have g : G a = H a := g
  exact ⟨o, xs, by rw [g]; exact hu, hu, r⟩
theorem di_items {elts : List Expr} {kk : Nat} {tpos : Pos} (h : PE X e (liftE X.K qe)) (hbase : attributeBase e "items" X.env (eval e X.env) = eval e X.env := by rfl) (hline : (apos.endLine == cpos.line) = true := by rfl) :
    PI X (.Tuple elts kk tpos) (.Call (.Attribute e "items" apos) [] [] cpos) (liftI X.K (iDict fItem qe)) :=
  pi_imp (pi_items h hbase hline) fun σ H R ⟨G, s, m, Φ, rm, rs, q, k⟩ => ⟨G, s, m, _, rm, rs, q, fun G1 x m1 v H1 e1 r1 rx q1 => by
    cases x with
    | ref a =>
      obtain rfl : v = .ref a := rx
      obtain ⟨ks, hm, q1⟩ := q1
      obtain ⟨o, xs, g, hH, r⟩ := fz_at r1 hm
      exact ⟨a, o, xs, rfl, hH, k G1 _ _ m1 _ H1 e1 r1 (wk_items g r) q1⟩
    | _ => exact q1.elim⟩
theorem di_values (h : PE X e (liftE X.K qe)) (hbase : attributeBase e "values" X.env (eval e X.env) = eval e X.env := by rfl) (hline : (apos.endLine == cpos.line) = true := by rfl) :
    PI X tg (.Call (.Attribute e "values" apos) [] [] cpos) (liftI X.K (iDict fVal qe)) :=
  pi_imp (pi_values h hbase hline) fun σ H R ⟨G, s, m, Φ, rm, rs, q, k⟩ => ⟨G, s, m, _, rm, rs, q, fun G1 x m1 v H1 e1 r1 rx q1 => by
    cases x with
    | ref a =>
      obtain rfl : v = .ref a := rx
      obtain ⟨ks, hm, q1⟩ := q1
      obtain ⟨o, xs, g, hH, r⟩ := fz_at r1 hm
      exact ⟨a, o, xs, rfl, hH, k G1 _ _ m1 _ H1 e1 r1 (wk_vals g r) q1⟩
    | _ => exact q1.elim⟩
theorem di_keys (h : PE X e (liftE X.K qe)) : PI X tg e (liftI X.K (iDict fKey qe)) :=
  pi_imp (pi_keys h) fun σ H R ⟨G, s, m, Φ, rm, rs, q, k⟩ => ⟨G, s, m, _, rm, rs, q, fun G1 x m1 v H1 e1 r1 rx q1 => by
    cases x with
    | ref a =>
      obtain rfl : v = .ref a := rx
      obtain ⟨ks, hm, q1⟩ := q1
      obtain ⟨o, xs, g, hH, r⟩ := fz_at r1 hm
      exact ⟨a, o, rfl, .inl ⟨xs, hH, k G1 _ _ m1 _ H1 e1 r1 (wk_keys g r) q1⟩⟩
    | _ => exact q1.elim⟩
/-- an expression, a statement, while a dict is locked -/
def qLock (q : QE) : QE := fun s m Φ => ∃ a ks, m a = some (.dK ks) ∧ q s (mset m a (.fz ks)) fun d m' => Φ d (mset m' a (.dK ks))
theorem de_lock (h : PE X e (liftE X.K qe)) : PE X e (liftE X.K (qLock qe)) := pe_imp (pe_lock h) fun σ H Q ⟨G, s, m, Φ, rm, rs, ⟨a, ks, hm, q⟩, k⟩ => by
  obtain ⟨g, u, hu, xs, rfl, r⟩ := rm.mem a _ hm
  have g : G a = none := g
  refine ⟨a, .dK xs, hu, trivial, fun od => ?_⟩
  obtain ⟨r1, e1⟩ := rm.lock hm hu od
  refine ⟨_, s, _, _, r1, rs.mono e1, q, fun G2 d m2 v H2 e2 r2 rv q2 => ?_⟩
  obtain ⟨h1, h2, h3⟩ := r2.unlock g e2 r
  have ga := e2 a _ upd_same
  exact ⟨h1, k _ d _ v _ h2 h3 (RV.unfz ga (fun ys => ⟨(fun z => by cases z), fun z => by cases z⟩) d rv) q2⟩
def sLock (q : QS) : QS := fun E s m => ∃ a ks, m a = some (.dK ks) ∧ q ⟨fun s' m' => E.nx s' (mset m' a (.dK ks)), fun d m' => E.rt d (mset m' a (.dK ks)), fun s' m' => E.bk s' (mset m' a (.dK ks)), fun s' m' => E.ct s' (mset m' a (.dK ks))⟩ s (mset m a (.fz ks))
theorem RelS.unfz {K : PySem.W.Frag} {G : Hp} {a : Addr} {od : Obj} {w : HO} {s : DSt} {σ : St} (h : G a = some (.frz od w)) (hw : ∀ xs, w ≠ .tup xs ∧ w ≠ .lst xs) (r : RelS K s G σ) : RelS K s (unl G a) σ :=
  ⟨r.len, fun i d e => let ⟨v, h1, h2⟩ := r.loc i d e; ⟨v, h1, RV.unfz h hw d h2⟩⟩
theorem ds_lock {st : Stmt} {t : QS} (h : PS X st (liftS X.K t)) : PS X st (liftS X.K (sLock t)) := ps_imp (ps_lock h) fun D σ H ⟨G, s, m, E, rm, rs, ⟨a, ks, hm, q⟩, kn, kr, kb, kc⟩ => by
  obtain ⟨g, u, hu, xs, rfl, r⟩ := rm.mem a _ hm
  have g : G a = none := g
  refine ⟨a, .dK xs, hu, trivial, fun od => ?_⟩
  obtain ⟨r1, e1⟩ := rm.lock hm hu od
  have hw : ∀ ys, (HO.dK xs) ≠ .tup ys ∧ (HO.dK xs) ≠ .lst ys := fun ys => ⟨(fun z => by cases z), fun z => by cases z⟩
  refine ⟨_, s, _, _, r1, rs.mono e1, q, ?_, ?_, ?_, ?_⟩
  · exact fun G2 s2 m2 σ2 H2 e2 r2 rs2 q2 => let ⟨h1, h2, h3⟩ := r2.unlock g e2 r; ⟨h1, kn _ s2 _ σ2 _ h2 h3 (rs2.unfz (e2 a _ upd_same) hw) q2⟩
  · exact fun G2 d m2 v H2 e2 r2 rv q2 => let ⟨h1, h2, h3⟩ := r2.unlock g e2 r; ⟨h1, kr _ d _ v _ h2 h3 (RV.unfz (e2 a _ upd_same) hw d rv) q2⟩
  · exact fun G2 s2 m2 σ2 H2 e2 r2 rs2 q2 => let ⟨h1, h2, h3⟩ := r2.unlock g e2 r; ⟨h1, kb _ s2 _ σ2 _ h2 h3 (rs2.unfz (e2 a _ upd_same) hw) q2⟩
  · exact fun G2 s2 m2 σ2 H2 e2 r2 rs2 q2 => let ⟨h1, h2, h3⟩ := r2.unlock g e2 r; ⟨h1, kc _ s2 _ σ2 _ h2 h3 (rs2.unfz (e2 a _ upd_same) hw) q2⟩
end
/-! ### zip, enumerate -/
/-- pairs of the items, up to the shorter -/
def zipD : List D → List D → List D
  | x :: xs, y :: ys => .tup [x, y] :: zipD xs ys
  | _, _ => []
theorem zipD_length : ∀ xs ys : List D, (zipD xs ys).length = min xs.length ys.length
  | [], _ => by simp [zipD]
  | _ :: _, [] => by simp [zipD]
  | x :: xs, y :: ys => by
    rw [zipD, List.length_cons, zipD_length xs ys, List.length_cons, List.length_cons]; omega
theorem zipD_get : ∀ {xs ys : List D} {i : Nat} {x y : D}, xs[i]? = some x → ys[i]? = some y → (zipD xs ys)[i]? = some (.tup [x, y])
  | [], _, _, _, _, h, _ => by simp at h
  | _ :: _, [], _, _, _, _, h => by simp at h
  | a :: xs, b :: ys, 0, x, y, h1, h2 => by
    cases h1; cases h2; rfl
  | a :: xs, b :: ys, i + 1, x, y, h1, h2 => by
    rw [zipD]
    exact zipD_get (xs := xs) (ys := ys) (i := i) h1 h2
section
variable {K : PySem.W.Frag} {G0 : Hp} {a b : Addr} {ds es : List D}
/-- what tells the list at a -/
def LsAt (K : PySem.W.Frag) (C : Mem → Prop) (G0 : Hp) (a : Addr) (ds : List D) : Prop := ∀ G m H, Sub G0 G → RelM K m G H → C m → ∃ xs, SqL K H a xs ∧ RVs K G ds xs
theorem lsAt_lst {xs : List V} (h : SqL K G0 a xs) (r : RVs K G0 ds xs) : LsAt K (fun _ => True) G0 a ds := fun G m H e rm _ => ⟨xs, rm.sub.l (e.l h), RVs.mono e _ r⟩
theorem lsAt_ref : LsAt K (fun m => m a = some (.lst ds)) G0 a ds := fun G m H e rm hm => by
  obtain ⟨_, w, hw, xs, rfl, h2⟩ := rm.mem a _ hm
  exact ⟨xs, .inl (.inl hw), h2⟩
theorem wk_zip {C1 C2 : Mem → Prop} (h1 : LsAt K C1 G0 a ds) (h2 : LsAt K C2 G0 b es) : Wk K (Itz K a b) (zipD ds es) (fun m => C1 m ∧ C2 m) G0 where
  stop := fun G m H e rm hc => by
    obtain ⟨xs, s1, r1⟩ := h1 G m H e rm hc.1
    obtain ⟨ys, s2, r2⟩ := h2 G m H e rm hc.2
    exact ⟨xs, ys, s1, s2, by rw [zipD_length, r1.length, r2.length]; omega⟩
  go := fun G m H i e rm hc hi => by
    obtain ⟨xs, s1, r1⟩ := h1 G m H e rm hc.1
    obtain ⟨ys, s2, r2⟩ := h2 G m H e rm hc.2
    rw [zipD_length, r1.length, r2.length] at hi
    have a1 : i < xs.length := by omega
    have a2 : i < ys.length := by omega
    exact ⟨xs, ys, xs[i], ys[i], s1, s2, by simp [a1], by simp [a2]⟩
  yld := fun G m H i x H' e rm hc hi y => by
    obtain ⟨xs, s1, r1⟩ := h1 G m H e rm hc.1
    obtain ⟨ys, s2, r2⟩ := h2 G m H e rm hc.2
    obtain ⟨T, u, v, rfl, hT, rfl, y1, y2⟩ := y
    obtain ⟨d1, a1, b1⟩ := r1.getV (y1 xs s1)
    obtain ⟨d2, a2, b2⟩ := r2.getV (y2 ys s2)
    obtain ⟨r3, e3⟩ := rm.lay (u := .tup [u, v]) hT
    exact ⟨_, .tup [d1, d2], e3, r3, zipD_get a1 a2, T, _, rfl, .inl (.inl upd_same), RVs.cons (RV.mono e3 d1 b1) (RVs.one (RV.mono e3 d2 b2))⟩
theorem wk_zipT {xs ys : List V} (h1 : SqT K G0 a xs) (r1 : RVs K G0 ds xs) (h2 : SqT K G0 b ys) (r2 : RVs K G0 es ys) : Wk K (RZ.ItzT K a b) (zipD ds es) (fun _ => True) G0 where
  stop := fun G m H e rm hc => ⟨xs, ys, rm.sub.t (e.t h1), rm.sub.t (e.t h2), by rw [zipD_length, r1.length, r2.length]; omega⟩
  go := fun G m H i e rm hc hi => by
    rw [zipD_length, r1.length, r2.length] at hi
    have a1 : i < xs.length := by omega
    have a2 : i < ys.length := by omega
    exact ⟨xs, ys, xs[i], ys[i], rm.sub.t (e.t h1), rm.sub.t (e.t h2), by simp [a1], by simp [a2]⟩
  yld := fun G m H i x H' e rm hc hi y => by
    obtain ⟨T, u, v, rfl, hT, rfl, y1, y2⟩ := y
    obtain ⟨d1, a1, b1⟩ := r1.getV (y1 xs (rm.sub.t (e.t h1)))
    obtain ⟨d2, a2, b2⟩ := r2.getV (y2 ys (rm.sub.t (e.t h2)))
    obtain ⟨r3, e3⟩ := rm.lay (u := .tup [u, v]) hT
    exact ⟨_, .tup [d1, d2], e3, r3, zipD_get a1 a2, T, _, rfl, .inl (.inl upd_same), RVs.cons (RV.mono (e.trans e3) d1 b1) (RVs.one (RV.mono (e.trans e3) d2 b2))⟩
/-- enumerate -/
def enumD (ds : List D) (n : Nat) : List D := match ds with
  | [] => []
  | d :: ds => .tup [.int n, d] :: enumD ds (n + 1)
theorem enumD_length : ∀ (ds : List D) (n : Nat), (enumD ds n).length = ds.length
  | [], _ => rfl
  | d :: ds, n => by rw [enumD, List.length_cons, List.length_cons, enumD_length ds (n + 1)]
theorem enumD_get : ∀ {ds : List D} {n i : Nat} {d : D}, ds[i]? = some d → (enumD ds n)[i]? = some (.tup [.int ((n + i : Nat) : Int), d])
  | [], _, _, _, h => by simp at h
  | a :: ds, n, 0, d, h => by cases h; rfl
  | a :: ds, n, i + 1, d, h => by
    rw [enumD]
    have := enumD_get (ds := ds) (n := n + 1) (i := i) (d := d) h
    rw [show n + (i + 1) = n + 1 + i from by omega]
    exact this
theorem wk_enum {C : Mem → Prop} (h1 : LsAt K C G0 a ds) : Wk K (Ite K a) (enumD ds 0) C G0 where
  stop := fun G m H e rm hc => by
    obtain ⟨xs, s1, r1⟩ := h1 G m H e rm hc
    exact ⟨xs, s1, by rw [enumD_length, r1.length]; exact Nat.le_refl _⟩
  go := fun G m H i e rm hc hi => by
    obtain ⟨xs, s1, r1⟩ := h1 G m H e rm hc
    rw [enumD_length, r1.length] at hi
    exact ⟨xs, xs[i], s1, by simp [hi]⟩
  yld := fun G m H i x H' e rm hc hi y => by
    obtain ⟨xs, s1, r1⟩ := h1 G m H e rm hc
    obtain ⟨T, u, rfl, hT, rfl, y1⟩ := y
    obtain ⟨d1, a1, b1⟩ := r1.getV (y1 xs s1)
    obtain ⟨r3, e3⟩ := rm.lay (u := .tup [.int (i : Nat), u]) hT
    refine ⟨_, .tup [.int ((0 + i : Nat) : Int), d1], e3, r3, enumD_get a1, T, _, rfl, .inl (.inl upd_same), RVs.cons ?_ (RVs.one (RV.mono e3 d1 b1))⟩
    rw [Nat.zero_add]; rfl
end
/-- zip(x, y): two lists (each one that may change, or not), or two tuples -/
def iZipD (qa : QA) : QI := fun s m Φ => qa s m fun ds m1 => match ds with
  | [.lst xs, .lst ys] => Φ (zipD xs ys) (fun _ => True) m1
  | [.tup xs, .tup ys] => Φ (zipD xs ys) (fun _ => True) m1
  | [.ref a, .ref b] => ∃ xs ys, m1 a = some (.lst xs) ∧ m1 b = some (.lst ys) ∧ Φ (zipD xs ys) (fun m => m a = some (.lst xs) ∧ m b = some (.lst ys)) m1
  | [.ref a, .lst ys] => ∃ xs, m1 a = some (.lst xs) ∧ Φ (zipD xs ys) (fun m => m a = some (.lst xs)) m1
  | [.lst xs, .ref b] => ∃ ys, m1 b = some (.lst ys) ∧ Φ (zipD xs ys) (fun m => m b = some (.lst ys)) m1
  | _ => False
theorem Wk.imp {K : PySem.W.Frag} {J : It} {ds : List D} {C C' : Mem → Prop} {G0 : Hp} (w : Wk K J ds C G0) (h : ∀ m, C' m → C m) : Wk K J ds C' G0 :=
  ⟨fun G m H e rm c => w.stop G m H e rm (h m c), fun G m H i e rm c => w.go G m H i e rm (h m c), fun G m H i x H' e rm c => w.yld G m H i x H' e rm (h m c)⟩
section
variable {X : Cx} {tg e : Expr} {qe : QE} {qa : QA}
theorem di_zip {e2 : Expr} {p pos tpos : Pos} {elts : List Expr} {kk : Nat} (hg : Gl X "zip") (hm : X.mg "zip" = none) (ha : PA X [e, e2] (liftA X.K qa)) (hs : starEach [e, e2] X.env = (false, eval e X.env) :: starEach [e2] X.env := by rfl) (hpl : (backTo pos (starEach [e2] X.env)).any (·.1) = false := by rfl) :
    PI X (.Tuple elts kk tpos) (.Call (.Name "zip" p) [e, e2] [] pos) (liftI X.K (iZipD qa)) :=
  pi_imp (RZ.pi_zipA hg hm ha hs hpl) fun σ H R ⟨G, s, m, Φ, rm, rs, q, k⟩ => ⟨G, s, m, _, rm, rs, q, fun G1 ds m1 vs H1 e1 r1 rd q1 => by
    split at q1
    · obtain ⟨v, u, rfl, ⟨a, xs, rfl, h1, h2⟩, b, ys, rfl, h3, h4⟩ := rv2 rd
      exact ⟨a, b, xs, ys, rfl, .inl ⟨r1.sub.l h1, r1.sub.l h3, k G1 _ _ m1 _ H1 e1 r1 ((wk_zip (lsAt_lst h1 h2) (lsAt_lst h3 h4)).imp fun m _ => ⟨trivial, trivial⟩) q1⟩⟩
    · obtain ⟨v, u, rfl, ⟨a, xs, rfl, h1, h2⟩, b, ys, rfl, h3, h4⟩ := rv2 rd
      exact ⟨a, b, xs, ys, rfl, .inr ⟨r1.sub.t h1, r1.sub.t h3, k G1 _ _ m1 _ H1 e1 r1 (wk_zipT h1 h2 h3 h4) q1⟩⟩
    · rename_i a b
      obtain ⟨v, u, rfl, h1, h2⟩ := rv2 rd
      obtain rfl : v = .ref a := h1
      obtain rfl : u = .ref b := h2
      obtain ⟨xs, ys, hx, hy, q1⟩ := q1
      obtain ⟨_, w, hw, vs, rfl, g1⟩ := r1.mem a _ hx
      obtain ⟨_, w', hw', us, rfl, g2⟩ := r1.mem b _ hy
      exact ⟨a, b, vs, us, rfl, .inl ⟨.inl (.inl hw), .inl (.inl hw'), k G1 _ _ m1 _ H1 e1 r1 (wk_zip lsAt_ref lsAt_ref) q1⟩⟩
    · rename_i a zs
      obtain ⟨v, u, rfl, h1, b, us, rfl, h3, h4⟩ := rv2 rd
      obtain rfl : v = .ref a := h1
      obtain ⟨xs, hx, q1⟩ := q1
      obtain ⟨_, w, hw, vs, rfl, g1⟩ := r1.mem a _ hx
      exact ⟨a, b, vs, us, rfl, .inl ⟨.inl (.inl hw), r1.sub.l h3, k G1 _ _ m1 _ H1 e1 r1 ((wk_zip lsAt_ref (lsAt_lst h3 h4)).imp fun m c => ⟨c, trivial⟩) q1⟩⟩
    · rename_i zs b
      obtain ⟨v, u, rfl, ⟨a, vs, rfl, h3, h4⟩, h1⟩ := rv2 rd
      obtain rfl : u = .ref b := h1
      obtain ⟨xs, hx, q1⟩ := q1
      obtain ⟨_, w, hw, us, rfl, g1⟩ := r1.mem b _ hx
      exact ⟨a, b, vs, us, rfl, .inl ⟨r1.sub.l h3, .inl (.inl hw), k G1 _ _ m1 _ H1 e1 r1 ((wk_zip (lsAt_lst h3 h4) lsAt_ref).imp fun m c => ⟨trivial, c⟩) q1⟩⟩
    · exact q1.elim⟩
def iEnumD (qa : QA) : QI := fun s m Φ => qa s m fun ds m1 => match ds with
  | [.lst xs] => Φ (enumD xs 0) (fun _ => True) m1
  | [.ref a] => ∃ xs, m1 a = some (.lst xs) ∧ Φ (enumD xs 0) (fun m => m a = some (.lst xs)) m1
  | _ => False
theorem di_enum {p pos tpos : Pos} {elts : List Expr} {kk : Nat} (hg : Gl X "enumerate") (hm : X.mg "enumerate" = none) (ha : PA X [e] (liftA X.K qa)) (hs : starEach [e] X.env = [(false, eval e X.env)] := by rfl) :
    PI X (.Tuple elts kk tpos) (.Call (.Name "enumerate" p) [e] [] pos) (liftI X.K (iEnumD qa)) :=
  pi_imp (pi_enum hg hm ha hs) fun σ H R ⟨G, s, m, Φ, rm, rs, q, k⟩ => ⟨G, s, m, _, rm, rs, q, fun G1 ds m1 vs H1 e1 r1 rd q1 => by
    split at q1
    · obtain ⟨v, rfl, a, xs, rfl, h1, h2⟩ := rv1 rd
      exact ⟨a, xs, rfl, r1.sub.l h1, k G1 _ _ m1 _ H1 e1 r1 (wk_enum (lsAt_lst h1 h2)) q1⟩
    · rename_i a
      obtain ⟨v, rfl, h1⟩ := rv1 rd
      obtain rfl : v = .ref a := h1
      obtain ⟨xs, hx, q1⟩ := q1
      obtain ⟨_, w, hw, vs, rfl, g1⟩ := r1.mem a _ hx
      exact ⟨a, vs, rfl, .inl (.inl hw), k G1 _ _ m1 _ H1 e1 r1 (wk_enum lsAt_ref) q1⟩
    · exact q1.elim⟩
end
/-! ### comprehensions -/
def wipeD (s : DSt) : List Nat → DSt
  | [] => s
  | v :: vs => (wipeD s vs).set v none
theorem wipeD_rel {K : PySem.W.Frag} {G : Hp} {s : DSt} {σ : St} (r : RelS K s G σ) : ∀ vs : List Nat, RelS K (wipeD s vs) G (wipe σ vs)
  | [] => r
  | v :: vs => by
    have ih := wipeD_rel r vs
    refine ⟨by show ((wipeD s vs).set v none).length = ((wipe σ vs).set v none).length; rw [List.length_set, List.length_set]; exact ih.len, fun i d h => ?_⟩
    have h : ((wipeD s vs).set v none)[i]? = some (some d) := h
    show ∃ u, ((wipe σ vs).set v none)[i]? = some (some u) ∧ RV K G d u
    rw [List.getElem?_set] at h
    rw [List.getElem?_set]
    split at h
    · split at h
      · cases h
      · cases h
    · rename_i e
      rw [if_neg e]
      exact ih.loc i d h
abbrev QTs := QT
def qYes : QT := fun _ m Φ => Φ true m
theorem pts_imp {X : Cx} {e : List Expr} {t t' : TT} (h : PTs X e t) (i : ∀ σ H Q, t' σ H Q → t σ H Q) : PTs X e t' := ⟨fun pins s σ H Q I w => h.run pins s σ H Q I (i σ H Q w)⟩
theorem dts_nil {X : Cx} {K : PySem.W.Frag} : PTs X [] (liftT K qYes) := pts_imp pts_nil fun σ H Q ⟨G, s, m, Φ, rm, rs, q, k⟩ => k G true m H (Sub.refl G) rm q
/-- a list comprehension: J by the turn, the list so far, the memory (the new list at a within) -/
def LcIn (p : Pat) (qt : QT) (qe : QE) (s1 : DSt) (ds : List D) (C : Mem → Prop) (m1 : Mem) (Φ : DK) : Prop := ∀ a, m1 a = none → ∃ J : Nat → List D → Mem → Prop, J 0 [] (mset m1 a (.lst [])) ∧
  (∀ i acc m', i ≤ ds.length → J i acc m' → C m' ∧ m' a = some (.lst acc)) ∧
  (∀ i d acc m', ds[i]? = some d → J i acc m' → match asg p d s1 with
    | some s2 => qt s2 m' fun b m2 => qIf b (qe s2 m2 fun y m3 => ∃ acc', m3 a = some (.lst acc') ∧ acc'.length < sizeLine ∧ J (i + 1) (acc' ++ [y]) (mset m3 a (.lst (acc' ++ [y])))) (∃ acc', J (i + 1) acc' m2)
    | none => False) ∧
  ∀ acc m', J ds.length acc m' → m' a = some (.lst acc) → Φ (.ref a) m'
def qLc (qi : QI) (p : Pat) (qt : QT) (qe : QE) (vs : List Nat) : QE := fun s m Φ => qi s m fun ds C m1 => LcIn p qt qe (wipeD s vs) ds C m1 Φ
theorem lift_lc {K : PySem.W.Frag} {qi : QI} {p : Pat} {qt : QT} {qe : QE} {vs : List Nat} (hv : ∀ i ∈ slots p, i ∈ vs) : ∀ σ H Q, liftE K (qLc qi p qt qe vs) σ H Q → tLc (liftI K qi) (tgOf K p) (liftT K qt) (liftE K qe) vs σ H Q :=
  fun σ H Q ⟨G, s, m, Φ, rm, rs, q, k⟩ => ⟨G, s, m, _, rm, rs, q, fun G1 ds C m1 J0 H1 e1 r1 wk h => by
    intro D hD
    obtain ⟨J, h0, hC, hS, hE⟩ := h D (r1.free hD)
    have rw0 := r1.new (o := .lst []) (u := .lst []) hD ⟨[], rfl, rfl⟩
    refine ⟨fun i n H' => n = ds.length - i ∧ i ≤ ds.length ∧ ∃ G2 acc m2, Sub G1 G2 ∧ RelM K m2 G2 H' ∧ J i acc m2, ⟨_, rfl, Nat.zero_le _, G1, [], _, Sub.refl G1, rw0, h0⟩, ?_⟩
    rintro i n H' ⟨rfl, hi, G2, acc, m2, e2, r2, h2⟩
    by_cases hlt : i < ds.length
    · refine .inr ⟨wk.go G2 m2 H' i e2 r2 (hC i acc m2 hi h2).1 hlt, fun H3 => ∃ G3 acc m3, Sub G1 G3 ∧ RelM K m3 G3 H3 ∧ J (i + 1) acc m3, fun H3 ⟨G3, acc, m3, a, b, c⟩ => ⟨_, by omega, rfl, hlt, G3, acc, m3, a, b, c⟩, fun x H3 y => ?_⟩
      obtain ⟨G3, d, e3, r3, hd, rd⟩ := wk.yld G2 m2 H' i x H3 e2 r2 (hC i acc m2 hi h2).1 hlt y
      have hs := hS i d acc m2 hd h2
      cases ha : asg p d (wipeD s vs) with
      | none => rw [ha] at hs; exact hs.elim
      | some s3 =>
        rw [ha] at hs
        have ee := e1.trans (e2.trans e3)
        obtain ⟨σ3, rs3, run, wp⟩ := asg_run r3.sub p rd (wipeD_rel (rs.mono ee) vs) ha
        refine run _ ⟨?_, G3, s3, m2, _, r3, rs3, hs, fun G4 b m4 H4 e4 r4 q4 => ?_⟩
        · have w0 : wipe (wipe σ vs) vs = wipe σ vs := by
            have aux : ∀ us : List Nat, (∀ u ∈ us, u ∈ vs) → wipe (wipe σ us) vs = wipe σ vs := by
              intro us
              induction us with
              | nil => intro _; rfl
              | cons u us ih =>
                intro hu
                show wipe ((wipe σ us).set u none) vs = wipe σ vs
                rw [wipe_set (hu u List.mem_cons_self)]
                exact ih fun z hz => hu z (List.mem_cons_of_mem _ hz)
            exact aux vs fun _ h => h
          rw [wp vs hv, w0]
        · have q4 := qif_e q4
          cases b with
          | true =>
            rw [if_pos rfl] at q4
            dsimp only
            rw [if_pos rfl]
            refine ⟨G4, s3, m4, _, r4, rs3.mono e4, q4, fun G5 y m5 v H5 e5 r5 rv ⟨acc', hm5, hl, hj⟩ => ?_⟩
            obtain ⟨_, w, hw, xs, rfl, hr⟩ := r5.mem D _ hm5
            exact ⟨xs, hw, by rw [← hr.length]; exact hl, G5, _, _, (e2.trans e3).trans (e4.trans e5), r5.put (o := .lst _) hm5 ⟨_, rfl, hr.append (RVs.one rv)⟩, hj⟩
          | false =>
            rw [if_neg Bool.false_ne_true] at q4
            dsimp only
            rw [if_neg Bool.false_ne_true]
            obtain ⟨acc', hj⟩ := q4
            exact ⟨G4, acc', m4, (e2.trans e3).trans e4, r4, hj⟩
    · have e : i = ds.length := by omega
      subst e
      obtain ⟨c1, c2⟩ := hC _ acc m2 hi h2
      exact .inl ⟨wk.stop G2 m2 H' e2 r2 c1, k G2 (.ref D) m2 _ H' (e1.trans e2) r2 rfl (hE acc m2 h2 c2)⟩⟩
theorem de_lc {X : Cx} {elt tg iter : Expr} {ifs : List Expr} {scope : Scope} {own : List (Str × Nat)} {pos : Pos} {qi : QI} {p : Pat} {qt : QT} {qe : QE} (hc : X.calm = true) (hN : X.N.Nodup) (hi : PI X tg iter (liftI X.K qi)) (ok : BlkOk X.N X.env.scope scope own)
    (hg : ∀ (s : Shared) (H : Hp) (C : Addr) (cl : List (Str × Addr)) (fp : List Addr), PG (X.blk s H scope (compEnvC scope cl C X.env) fp) tg (tgOf X.K p))
    (ht : ∀ (s : Shared) (H : Hp) (C : Addr) (cl : List (Str × Addr)) (fp : List Addr), PTs (X.blk s H scope (compEnvC scope cl C X.env) fp) ifs (liftT X.K qt))
    (he : ∀ (s : Shared) (H : Hp) (C : Addr) (cl : List (Str × Addr)) (fp : List Addr), PE (X.blk s H scope (compEnvC scope cl C X.env) fp) elt (liftE X.K qe))
    (hv : ∀ i ∈ slots p, i ∈ own.map (·.2) := by decide) (hs : ∀ x, foldedSetIterable iter X.env x = pure x := by intro _; rfl) :
    PE X (.ListComp elt [⟨tg, iter, ifs, 0⟩] scope pos) (liftE X.K (qLc qi p qt qe (own.map (·.2)))) := pe_imp (pe_lc hc hN hi ok hg ht he hs) (lift_lc hv)
/-- the word where the block leaves the memory as it is -/
def Jp (P : Nat → List D → Prop) (m1 : Mem) (a : Addr) : Nat → List D → Mem → Prop := fun i acc m' => m' = mset m1 a (.lst acc) ∧ acc.length ≤ i ∧ P i acc
theorem lc_by {p : Pat} {qt : QT} {qe : QE} {s1 : DSt} {ds : List D} {C : Mem → Prop} {m1 : Mem} {Φ : DK} (P : Nat → List D → Prop) (h0 : P 0 []) (hC : ∀ a o, m1 a = none → C (mset m1 a o))
    (hs : ∀ i d acc a, m1 a = none → ds[i]? = some d → acc.length ≤ i → P i acc → match asg p d s1 with
      | some s2 => qt s2 (mset m1 a (.lst acc)) fun b m2 => qIf b (qe s2 m2 fun y m3 => ∃ acc', m3 a = some (.lst acc') ∧ acc'.length < sizeLine ∧ Jp P m1 a (i + 1) (acc' ++ [y]) (mset m3 a (.lst (acc' ++ [y])))) (∃ acc', Jp P m1 a (i + 1) acc' m2)
      | none => False)
    (hd : ∀ acc a, m1 a = none → acc.length ≤ ds.length → P ds.length acc → Φ (.ref a) (mset m1 a (.lst acc))) : LcIn p qt qe s1 ds C m1 Φ := fun a ha =>
  ⟨Jp P m1 a, ⟨rfl, Nat.le_refl _, h0⟩, fun i acc m' _ h => by obtain ⟨rfl, _, _⟩ := h; exact ⟨hC a _ ha, mset_same⟩, fun i d acc m' hd' h => by obtain ⟨rfl, h1, h2⟩ := h; exact hs i d acc a ha hd' h1 h2,
    fun acc m' h _ => by obtain ⟨rfl, h1, h2⟩ := h; exact hd acc a ha h1 h2⟩
theorem lc_ok {P : Nat → List D → Prop} {m1 : Mem} {a : Addr} {i : Nat} {acc : List D} {y : D} (hl : acc.length ≤ i) (hi : i < sizeLine) (h : P (i + 1) (acc ++ [y])) :
    ∃ acc', mset m1 a (.lst acc) a = some (.lst acc') ∧ acc'.length < sizeLine ∧ Jp P m1 a (i + 1) (acc' ++ [y]) (mset (mset m1 a (.lst acc)) a (.lst (acc' ++ [y]))) :=
  ⟨acc, mset_same, Nat.lt_of_le_of_lt hl hi, mset_mset, by rw [List.length_append]; exact Nat.succ_le_succ hl, h⟩
theorem lc_skip {P : Nat → List D → Prop} {m1 : Mem} {a : Addr} {i : Nat} {acc : List D} (hl : acc.length ≤ i) (h : P (i + 1) acc) : ∃ acc', Jp P m1 a (i + 1) acc' (mset m1 a (.lst acc)) := ⟨acc, rfl, Nat.le_succ_of_le hl, h⟩
theorem fz_done {m1 : Mem} {a : Addr} {acc : List D} {Φ : DK} (ha : m1 a = none) (h : Φ (.lst acc) m1) : ∃ ds, mset m1 a (.lst acc) a = some (.lst ds) ∧ Φ (.lst ds) (mdel (mset m1 a (.lst acc)) a) := ⟨acc, mset_same, by rw [mdel_mset ha]; exact h⟩
/-! ### dict comprehensions -/
def DcIn (p : Pat) (qt : QT) (qk qe : QE) (s1 : DSt) (ds : List D) (C : Mem → Prop) (m1 : Mem) (Φ : DK) : Prop := ∀ a, m1 a = none → ∃ J : Nat → List (Key × D) → Mem → Prop, J 0 [] (mset m1 a (.dK [])) ∧
  (∀ i acc m', i ≤ ds.length → J i acc m' → C m' ∧ m' a = some (.dK acc)) ∧
  (∀ i d acc m', ds[i]? = some d → J i acc m' → match asg p d s1 with
    | some s2 => qt s2 m' fun b m2 => qIf b (qk s2 m2 fun x m3 => qe s2 m3 fun y m4 => ∃ acc' k, keyD x = some k ∧ m4 a = some (.dK acc') ∧ acc'.length < sizeLine ∧ J (i + 1) (putD acc' k y) (mset m4 a (.dK (putD acc' k y)))) (∃ acc', J (i + 1) acc' m2)
    | none => False) ∧
  ∀ acc m', J ds.length acc m' → m' a = some (.dK acc) → Φ (.ref a) m'
def qDc (qi : QI) (p : Pat) (qt : QT) (qk qe : QE) (vs : List Nat) : QE := fun s m Φ => qi s m fun ds C m1 => DcIn p qt qk qe (wipeD s vs) ds C m1 Φ
theorem wipe_wipe (σ : St) (vs : List Nat) : wipe (wipe σ vs) vs = wipe σ vs := by
  have aux : ∀ us : List Nat, (∀ u ∈ us, u ∈ vs) → wipe (wipe σ us) vs = wipe σ vs := by
    intro us
    induction us with
    | nil => intro _; rfl
    | cons u us ih =>
      intro hu
      show wipe ((wipe σ us).set u none) vs = wipe σ vs
      rw [wipe_set (hu u List.mem_cons_self)]
      exact ih fun z hz => hu z (List.mem_cons_of_mem _ hz)
  exact aux vs fun _ h => h
theorem lift_dc {K : PySem.W.Frag} {qi : QI} {p : Pat} {qt : QT} {qk qe : QE} {vs : List Nat} (hv : ∀ i ∈ slots p, i ∈ vs) : ∀ σ H Q, liftE K (qDc qi p qt qk qe vs) σ H Q → tDc (liftI K qi) (tgOf K p) (liftT K qt) (liftE K qk) (liftE K qe) vs σ H Q :=
  fun σ H Q ⟨G, s, m, Φ, rm, rs, q, k⟩ => ⟨G, s, m, _, rm, rs, q, fun G1 ds C m1 J0 H1 e1 r1 wk h => by
    intro D hD
    obtain ⟨J, h0, hC, hS, hE⟩ := h D (r1.free hD)
    have rw0 := r1.new (o := .dK []) (u := .dK []) hD ⟨[], rfl, rfl⟩
    refine ⟨fun i n H' => n = ds.length - i ∧ i ≤ ds.length ∧ ∃ G2 acc m2, Sub G1 G2 ∧ RelM K m2 G2 H' ∧ J i acc m2, ⟨_, rfl, Nat.zero_le _, G1, [], _, Sub.refl G1, rw0, h0⟩, ?_⟩
    rintro i n H' ⟨rfl, hi, G2, acc, m2, e2, r2, h2⟩
    by_cases hlt : i < ds.length
    · refine .inr ⟨wk.go G2 m2 H' i e2 r2 (hC i acc m2 hi h2).1 hlt, fun H3 => ∃ G3 acc m3, Sub G1 G3 ∧ RelM K m3 G3 H3 ∧ J (i + 1) acc m3, fun H3 ⟨G3, acc, m3, a, b, c⟩ => ⟨_, by omega, rfl, hlt, G3, acc, m3, a, b, c⟩, fun x H3 y => ?_⟩
      obtain ⟨G3, d, e3, r3, hd, rd⟩ := wk.yld G2 m2 H' i x H3 e2 r2 (hC i acc m2 hi h2).1 hlt y
      have hs := hS i d acc m2 hd h2
      cases ha : asg p d (wipeD s vs) with
      | none => rw [ha] at hs; exact hs.elim
      | some s3 =>
        rw [ha] at hs
        have ee := e1.trans (e2.trans e3)
        obtain ⟨σ3, rs3, run, wp⟩ := asg_run r3.sub p rd (wipeD_rel (rs.mono ee) vs) ha
        refine run _ ⟨by rw [wp vs hv, wipe_wipe], G3, s3, m2, _, r3, rs3, hs, fun G4 b m4 H4 e4 r4 q4 => ?_⟩
        have q4 := qif_e q4
        cases b with
        | true =>
          rw [if_pos rfl] at q4
          dsimp only
          rw [if_pos rfl]
          refine ⟨G4, s3, m4, _, r4, rs3.mono e4, q4, fun G5 x m5 v H5 e5 r5 rv q5 => ⟨G5, s3, m5, _, r5, rs3.mono (e4.trans e5), q5, fun G6 y m6 u H6 e6 r6 ru ⟨acc', k', hk, hm6, hl, hj⟩ => ?_⟩⟩
          obtain ⟨_, w, hw, xs, rfl, hr⟩ := r6.mem D _ hm6
          exact ⟨xs, k', rv.key hk, hw, by rw [← hr.length]; exact hl, G6, _, _, (e2.trans e3).trans ((e4.trans e5).trans e6), r6.put (o := .dK _) hm6 ⟨_, rfl, hr.put k' ru⟩, hj⟩
        | false =>
          rw [if_neg Bool.false_ne_true] at q4
          dsimp only
          rw [if_neg Bool.false_ne_true]
          obtain ⟨acc', hj⟩ := q4
          exact ⟨G4, acc', m4, (e2.trans e3).trans e4, r4, hj⟩
    · have e : i = ds.length := by omega
      subst e
      obtain ⟨c1, c2⟩ := hC _ acc m2 hi h2
      exact .inl ⟨wk.stop G2 m2 H' e2 r2 c1, k G2 (.ref D) m2 _ H' (e1.trans e2) r2 rfl (hE acc m2 h2 c2)⟩⟩
theorem de_dc {X : Cx} {kx vx tg iter : Expr} {ifs : List Expr} {scope : Scope} {own : List (Str × Nat)} {pos : Pos} {qi : QI} {p : Pat} {qt : QT} {qk qe : QE} (hc : X.calm = true) (hN : X.N.Nodup) (hi : PI X tg iter (liftI X.K qi)) (ok : BlkOk X.N X.env.scope scope own)
    (hg : ∀ (s : Shared) (H : Hp) (C : Addr) (cl : List (Str × Addr)) (fp : List Addr), PG (X.blk s H scope (compEnvC scope cl C X.env) fp) tg (tgOf X.K p))
    (ht : ∀ (s : Shared) (H : Hp) (C : Addr) (cl : List (Str × Addr)) (fp : List Addr), PTs (X.blk s H scope (compEnvC scope cl C X.env) fp) ifs (liftT X.K qt))
    (hk : ∀ (s : Shared) (H : Hp) (C : Addr) (cl : List (Str × Addr)) (fp : List Addr), PE (X.blk s H scope (compEnvC scope cl C X.env) fp) kx (liftE X.K qk))
    (he : ∀ (s : Shared) (H : Hp) (C : Addr) (cl : List (Str × Addr)) (fp : List Addr), PE (X.blk s H scope (compEnvC scope cl C X.env) fp) vx (liftE X.K qe))
    (hv : ∀ i ∈ slots p, i ∈ own.map (·.2) := by decide) (hs : ∀ x, foldedSetIterable iter X.env x = pure x := by intro _; rfl) :
    PE X (.DictComp kx vx [⟨tg, iter, ifs, 0⟩] scope pos) (liftE X.K (qDc qi p qt qk qe (own.map (·.2)))) := pe_imp (pe_dc hc hN hi ok hg ht hk he hs) (lift_dc hv)
def Jd (P : Nat → List (Key × D) → Prop) (m1 : Mem) (a : Addr) : Nat → List (Key × D) → Mem → Prop := fun i acc m' => m' = mset m1 a (.dK acc) ∧ acc.length ≤ i ∧ P i acc
theorem putD_len {κ : Type} [DecidableEq κ] (kvs : List (κ × D)) (k : κ) (d : D) : (putD kvs k d).length ≤ kvs.length + 1 := by
  unfold putD; split
  · rw [List.length_map]; exact Nat.le_succ _
  · rw [List.length_append]; exact Nat.le_refl _
theorem dc_by {p : Pat} {qt : QT} {qk qe : QE} {s1 : DSt} {ds : List D} {C : Mem → Prop} {m1 : Mem} {Φ : DK} (P : Nat → List (Key × D) → Prop) (h0 : P 0 []) (hC : ∀ a o, m1 a = none → C (mset m1 a o))
    (hs : ∀ i d acc a, m1 a = none → ds[i]? = some d → acc.length ≤ i → P i acc → match asg p d s1 with
      | some s2 => qt s2 (mset m1 a (.dK acc)) fun b m2 => qIf b (qk s2 m2 fun x m3 => qe s2 m3 fun y m4 => ∃ acc' k, keyD x = some k ∧ m4 a = some (.dK acc') ∧ acc'.length < sizeLine ∧ Jd P m1 a (i + 1) (putD acc' k y) (mset m4 a (.dK (putD acc' k y)))) (∃ acc', Jd P m1 a (i + 1) acc' m2)
      | none => False)
    (hd : ∀ acc a, m1 a = none → acc.length ≤ ds.length → P ds.length acc → Φ (.ref a) (mset m1 a (.dK acc))) : DcIn p qt qk qe s1 ds C m1 Φ := fun a ha =>
  ⟨Jd P m1 a, ⟨rfl, Nat.le_refl _, h0⟩, fun i acc m' _ h => by obtain ⟨rfl, _, _⟩ := h; exact ⟨hC a _ ha, mset_same⟩, fun i d acc m' hd' h => by obtain ⟨rfl, h1, h2⟩ := h; exact hs i d acc a ha hd' h1 h2,
    fun acc m' h _ => by obtain ⟨rfl, h1, h2⟩ := h; exact hd acc a ha h1 h2⟩
theorem dc_ok {P : Nat → List (Key × D) → Prop} {m1 : Mem} {a : Addr} {i : Nat} {acc : List (Key × D)} {x y : D} (k : Key) (hk : keyD x = some k) (hl : acc.length ≤ i) (hi : i < sizeLine) (h : P (i + 1) (putD acc k y)) :
    ∃ acc' k, keyD x = some k ∧ mset m1 a (.dK acc) a = some (.dK acc') ∧ acc'.length < sizeLine ∧ Jd P m1 a (i + 1) (putD acc' k y) (mset (mset m1 a (.dK acc)) a (.dK (putD acc' k y))) :=
  ⟨acc, k, hk, mset_same, Nat.lt_of_le_of_lt hl hi, mset_mset, Nat.le_trans (putD_len _ _ _) (Nat.succ_le_succ hl), h⟩
theorem dc_skip {P : Nat → List (Key × D) → Prop} {m1 : Mem} {a : Addr} {i : Nat} {acc : List (Key × D)} (hl : acc.length ≤ i) (h : P (i + 1) acc) : ∃ acc', Jd P m1 a (i + 1) acc' (mset m1 a (.dK acc)) := ⟨acc, rfl, Nat.le_succ_of_le hl, h⟩
end L3
namespace L3
open PySem PySem.Spec PyProof.Rows L2
theorem hu1 {A : Around} {k : Nat} (hr : Room k A) : A.units + 1 < cLine := Nat.lt_of_le_of_lt (Nat.add_le_add_left (by decide : 1 ≤ 64) _) hr.units
theorem hu64 {A : Around} {k : Nat} (hr : Room k A) : A.units + 64 < cLine := hr.units
theorem hu65 {A : Around} {k : Nat} (hr : Room k A) : A.units + 65 < cLine := by have := hr.un; omega
/-! ### xs[i], t[i], s[i], d[k] by one rule -/
section
variable {X : Cx} {a b : Expr} {qa qb : QE} {pos : Pos}
def rIxD : R2 := fun x y H Q => ∃ p v, x = .ref p ∧ DGet H p y (some v) ∧ Q v H
theorem tail_of {prog : Program} {w : World} {A : Around} {E : Value → Shared → Prop} {s : Shared} {value slice : Expr} {o i : Value} {T id : String} {Q : Value → Shared → Prop} (hT : s.TypeIs o T)
    (hl : typeLookup (.type T) "__getitem__" = pure (some (.builtin id))) (h : wpAny (model prog w) A (getItem o i) Q E s)
    (hs : subscripted slice false o i = operate [o, i] (getItem o i)) :
    wpAny (model prog w) A (subscriptTail value slice o i) Q E s := by
  unfold subscriptTail
  refine wpAny_bind ?_
  rw [getitemInPython_of_ne hT.not_modules]
  refine wpAny_bind (wpAny_specialOf hT hl ?_)
  have fin : wpAny (model prog w) A (subscripted slice false o i) (fun r s₃ => wpAny (model prog w) A (letTemporaryGo value o r >>= fun _ => pure r) Q E s₃) E s := by
    rw [hs]
    exact wpAny_operating (wpAny_mono h (fun r s₃ h₃ => wpAny_bind (wpAny_letTemporaryGo (wpAny_pure h₃))) fun _ _ x => x)
  first
    | exact wpAny_pure (wpAny_bind fin)
    | exact wpAny_bind (wpAny_pure (wpAny_bind fin))
    | exact wpAny_bind fin
theorem ix_dict (hu : X.A.units + 1 < cLine) : IxR X rIxD := by
  intro value slice pins s σ H x y v u Q I rx ry h hs
  obtain ⟨p, w, rfl, g, q⟩ := h
  obtain rfl : v = Value.ref p := rx
  exact tail_of (dict_typeIs I g) PySem.F.slot_dict_getitem.lookup (d_getItem hu I g ry fun w' s' I' rw' => ⟨w, H, I', rw', q⟩) hs
/-- xs[i]; d[k] -/
def vIx : D → D → Mem → DK → Prop := fun x y m Φ => match x, y with
  | .tup ds, .int i => ∃ d, atI ds i = some d ∧ Φ d m
  | .lst ds, .int i => ∃ d, atI ds i = some d ∧ Φ d m
  | .ref a, y => (∃ ds i d, y = .int i ∧ m a = some (.lst ds) ∧ atI ds i = some d ∧ Φ d m) ∨ ∃ d, dGet m a y (some d) ∧ Φ d m
  | .str z, .int i => ∃ c, z.length ≤ sizeLine ∧ atI z.cps.toList i = some c ∧ Φ (.str ⟨#[c]⟩) m
  | _, _ => False
theorem vix_lift {K : PySem.W.Frag} {x y : V} {H : Hp} {Q : VK} (h : liftR K vIx x y H Q) : rIx K x y H Q ∨ rIxD x y H Q := by
  obtain ⟨G, m, dx, dy, Φ, rm, rx, ry, q, k⟩ := h
  cases dx with
  | tup ds => cases dy with
    | int i => exact .inl (ix_lift ⟨G, m, .tup ds, .int i, Φ, rm, rx, ry, q, k⟩)
    | _ => exact q.elim
  | lst ds => cases dy with
    | int i => exact .inl (ix_lift ⟨G, m, .lst ds, .int i, Φ, rm, rx, ry, q, k⟩)
    | _ => exact q.elim
  | str z => cases dy with
    | int i => exact .inl (ix_lift ⟨G, m, .str z, .int i, Φ, rm, rx, ry, q, k⟩)
    | _ => exact q.elim
  | ref p =>
    rcases q with ⟨ds, i, d, rfl, hm, h1, h2⟩ | ⟨d, g, h2⟩
    · exact .inl (ix_lift ⟨G, m, .ref p, .int i, Φ, rm, rx, ry, ⟨ds, d, hm, h1, h2⟩, k⟩)
    · obtain rfl : x = .ref p := rx
      obtain ⟨o', g', ro⟩ := dget_lift rm ry g
      obtain ⟨w, rfl, rw'⟩ := ro.some
      exact .inr ⟨p, w, rfl, g', k G d m w H (Sub.refl G) rm rw' h2⟩
  | _ => exact q.elim
theorem de_idx (hu : X.A.units + 1 < cLine) (ha : PE X a (liftE X.K qa)) (hb : PE X b (liftE X.K qb)) (hs : PlainIx b := by exact fun _ _ => rfl) : PE X (.Subscript a b pos) (liftE X.K (qOp vIx qa qb)) :=
  pe_imp (pe_ix (ix_imp (IxR.or ix_seq (ix_dict hu)) fun x y H Q h => vix_lift (K := X.K) h) ha hb hs) lift_op
/-- the list's items as data: of a list that never changes, or of one in the memory -/
def lsQ (y : D) (m : Mem) (R : List PyData → Prop) : Prop := match y with
  | .lst ds => ∃ ps, toPys ds = some ps ∧ R ps
  | .ref a => ∃ ds ps, m a = some (.lst ds) ∧ toPys ds = some ps ∧ R ps
  | _ => False
/-- x in y: a dict, a list, a text, a tuple of flat items -/
def vIn (neg : Bool) : D → D → Mem → DK → Prop := fun x y m Φ =>
  match y with
  | .str z => ∃ w, x = .str w ∧ Φ (.bl (if neg then !(!(Builtin.Str.occurrences z w 0 z.length 1).isEmpty) else !(Builtin.Str.occurrences z w 0 z.length 1).isEmpty)) m
  | .ref a => (∃ o, dGet m a x o ∧ Φ (.bl (if neg then !o.isSome else o.isSome)) m) ∨ ∃ p ds ps, toPy x = some p ∧ m a = some (.lst ds) ∧ toPys ds = some ps ∧ SeqAt.shaped p = true ∧ SeqAt.shaped (.list ps) = true ∧ Φ (.bl (if neg then !(ps.any fun z => PyData.eqv z p) else ps.any fun z => PyData.eqv z p)) m
  | .lst ds => ∃ p ps, toPy x = some p ∧ toPys ds = some ps ∧ SeqAt.shaped p = true ∧ SeqAt.shaped (.list ps) = true ∧ Φ (.bl (if neg then !(ps.any fun z => PyData.eqv z p) else ps.any fun z => PyData.eqv z p)) m
  | _ => False
def rInDct (neg : Bool) : R2 := fun x y H Q => ∃ a o, y = .ref a ∧ DGet H a x o ∧ Q (.bl (if neg then !o.isSome else o.isSome)) H
theorem op_inDct (hu : X.A.units + 1 < cLine) : OpR X (compareOp .In) (rInDct false) := by
  intro pins s σ H x y v u Q I rx ry h
  obtain ⟨a, o, rfl, g, q⟩ := h
  obtain rfl : u = Value.ref a := ry
  exact d_in hu I g rx fun s' I' => ⟨.bl o.isSome, H, I', rfl, q⟩
theorem op_notInDct (hu : X.A.units + 1 < cLine) : OpR X (compareOp .NotIn) (rInDct true) := by
  intro pins s σ H x y v u Q I rx ry h
  obtain ⟨a, o, rfl, g, q⟩ := h
  obtain rfl : u = Value.ref a := ry
  exact d_notIn hu I g rx fun s' I' => ⟨.bl (!o.isSome), H, I', rfl, q⟩
theorem do_in2 (hu : X.A.units + 65 < cLine) : OpR X (compareOp .In) (liftR X.K (vIn false)) := op_imp (OpR.or op_in_str (OpR.or (op_inDct (by omega)) (op_inD hu))) fun x y H Q ⟨G, m, dx, dy, Φ, rm, rx, ry, q, k⟩ => by
  cases dy with
  | str z =>
    obtain ⟨w, rfl, q⟩ := q
    exact .inl ⟨w, z, rx, ry, k G (.bl _) m _ H (Sub.refl G) rm rfl q⟩
  | lst ds =>
    obtain ⟨p, ps, h1, h2, s1, s2, q⟩ := q
    obtain ⟨a, xs, rfl, g1, g2⟩ := ry
    exact .inr (.inr ⟨p, ps, RV.dp rm.sub dx rx h1, .lst (rm.sub.l g1) (RVs.dp rm.sub ds g2 h2), s1, s2, k G (.bl _) m _ H (Sub.refl G) rm rfl q⟩)
  | ref a =>
    rcases q with ⟨o, g, q⟩ | ⟨p, ds, ps, h1, hm, h2, s1, s2, q⟩
    · obtain rfl : y = .ref a := ry
      obtain ⟨o', g', ro⟩ := dget_lift rm rx g
      exact .inr (.inl ⟨a, o', rfl, g', by rw [← ro.isSome]; exact k G (.bl _) m _ H (Sub.refl G) rm rfl q⟩)
    · obtain rfl : y = .ref a := ry
      obtain ⟨_, w, hw, xs, rfl, g2⟩ := rm.mem a _ hm
      exact .inr (.inr ⟨p, ps, RV.dp rm.sub dx rx h1, .lst (.inl (.inl hw)) (RVs.dp rm.sub ds g2 h2), s1, s2, k G (.bl _) m _ H (Sub.refl G) rm rfl q⟩)
  | _ => exact q.elim
theorem do_notIn2 (hu : X.A.units + 65 < cLine) : OpR X (compareOp .NotIn) (liftR X.K (vIn true)) := op_imp (OpR.or op_notin_str (OpR.or (op_notInDct (by omega)) (op_notInD hu))) fun x y H Q ⟨G, m, dx, dy, Φ, rm, rx, ry, q, k⟩ => by
  cases dy with
  | str z =>
    obtain ⟨w, rfl, q⟩ := q
    exact .inl ⟨w, z, rx, ry, k G (.bl _) m _ H (Sub.refl G) rm rfl q⟩
  | lst ds =>
    obtain ⟨p, ps, h1, h2, s1, s2, q⟩ := q
    obtain ⟨a, xs, rfl, g1, g2⟩ := ry
    exact .inr (.inr ⟨p, ps, RV.dp rm.sub dx rx h1, .lst (rm.sub.l g1) (RVs.dp rm.sub ds g2 h2), s1, s2, k G (.bl _) m _ H (Sub.refl G) rm rfl q⟩)
  | ref a =>
    rcases q with ⟨o, g, q⟩ | ⟨p, ds, ps, h1, hm, h2, s1, s2, q⟩
    · obtain rfl : y = .ref a := ry
      obtain ⟨o', g', ro⟩ := dget_lift rm rx g
      exact .inr (.inl ⟨a, o', rfl, g', by rw [← ro.isSome]; exact k G (.bl _) m _ H (Sub.refl G) rm rfl q⟩)
    · obtain rfl : y = .ref a := ry
      obtain ⟨_, w, hw, xs, rfl, g2⟩ := rm.mem a _ hm
      exact .inr (.inr ⟨p, ps, RV.dp rm.sub dx rx h1, .lst (.inl (.inl hw)) (RVs.dp rm.sub ds g2 h2), s1, s2, k G (.bl _) m _ H (Sub.refl G) rm rfl q⟩)
  | _ => exact q.elim
end
/-- name = [..] on one line -/
theorem ds_setLc {X : Cx} (i : Nat) {y : Str} {py : Pos} {elt tg iter : Expr} {ifs : List Expr} {scope : Scope} {own : List (Str × Nat)} {pos spos : Pos} {qi : QI} {p : Pat} {qt : QT} {qe : QE} (hc : X.calm = true) (hN : X.N.Nodup) (hi : PI X tg iter (liftI X.K qi)) (ok : BlkOk X.N X.env.scope scope own)
    (hg : ∀ (s : Shared) (H : Hp) (C : Addr) (cl : List (Str × Addr)) (fp : List Addr), PG (X.blk s H scope (compEnvC scope cl C X.env) fp) tg (tgOf X.K p))
    (ht : ∀ (s : Shared) (H : Hp) (C : Addr) (cl : List (Str × Addr)) (fp : List Addr), PTs (X.blk s H scope (compEnvC scope cl C X.env) fp) ifs (liftT X.K qt))
    (he : ∀ (s : Shared) (H : Hp) (C : Addr) (cl : List (Str × Addr)) (fp : List Addr), PE (X.blk s H scope (compEnvC scope cl C X.env) fp) elt (liftE X.K qe))
    (hsw : swapsWith (.ListComp elt [⟨tg, iter, ifs, 0⟩] scope pos) (some (.Name y py)) spos.line X.env = pure true := by exact sw_true rfl rfl rfl (by decide +kernel))
    (hy : X.N[i]? = some y := by rfl) (hyl : X.env.scope.names.lookup y = some .local := by rfl)
    (hv : ∀ i ∈ slots p, i ∈ own.map (·.2) := by decide) (hs : ∀ x, foldedSetIterable iter X.env x = pure x := by intro _; rfl) :
    PS X (.Assign [.Name y py] (.ListComp elt [⟨tg, iter, ifs, 0⟩] scope pos) spos) (liftS X.K (sAsg (.nm i) (qLc qi p qt qe (own.map (·.2))))) :=
  ps_imp (ps_setLc hc hN hy hyl hsw hi ok hg ht he hs) fun D σ H h => by
    obtain ⟨G, s, m, Φ, rm, rs, q, k⟩ := (show liftE X.K (qLc qi p qt qe (own.map (·.2))) σ H (fun x H1 => gName i x σ H1 D.nx) by
      obtain ⟨G, s, m, E, rm, rs, q, kn, kr, kb, kc⟩ := h
      exact ⟨G, s, m, _, rm, rs, q, fun G1 d m1 v H1 e1 r1 rv q1 => kn G1 _ m1 _ H1 e1 r1 ((rs.mono e1).set i rv) q1⟩)
    exact lift_lc hv σ H _ ⟨G, s, m, Φ, rm, rs, q, k⟩
/-! ### defs -/
section
variable {P : Program} {w : World} {K : PySem.W.Frag} {mg : Str → Option Value} {base : Heap}
/-- the context in which a def's body is derived -/
abbrev cxB (P : Program) (w : World) (K : PySem.W.Frag) (mg : Str → Option Value) (base : Heap) (N : List Str) (qual : Str) (st : Stmt) (f : Addr) (cdv : Value) (A : Around) (outer : List Env) (s : Shared) (H : Hp) (E : XK) : Cx := (cxOf CX0 P w K mg base N qual (defScope st) f cdv A outer s H E).nox
theorem fno_of {x qual : Str} {st : Stmt} {f : Addr} {fd : FuncData} {N ps : List Str} {k : Nat} {sp : LSp} {qb : QS} (F : Fun K x qual st f fd) (S : FnScope N ps (defScope st)) (len : ∀ ds m Φ, sp ds m Φ → ds.length = ps.length)
    (hd : ∀ (cdv : Value) (A : Around) (outer : List Env) (s : Shared) (H : Hp) (E : XK), Room k (A.deeper (envOfC qual (defScope st) s.heap.objs.size f cdv)) → PSs (cxB P w K mg base N qual st f cdv A outer s H E) (defBody st) (liftS K qb))
    (h : ∀ ds m Φ, sp ds m Φ → qb (bodyE Φ) (begin_ N.length ds) m) : FnOk P w K mg base CX0 (k + 1) f fd ps (liftSp K sp) := by
  refine F.ok S (fun vs H Q E hs => ?_) (fun cdv A outer s H vs Q E hr hs => ⟨liftS K qb, hd cdv A outer s H E hr, body_lift h hs⟩)
  obtain ⟨G, m, ds, Φ, rm, rd, q, k⟩ := hs
  rw [← rd.length]; exact len ds m Φ q
theorem fnr_of {f : Addr} {fd : FuncData} {ps : List Str} {k : Nat} {sp : Sp} (F1 : FnOk P w K mg base CX0 k f fd ps sp) (hb : Binds K fd ps []) : FnR P w K mg base CX0 k f sp := by
  intro A outer s H us vs Q E hr e0 r hs
  have hl : vs.length = ps.length := F1.len vs H Q E hs
  exact F1.run A outer s H ⟨us, []⟩ us vs Q E hr e0 (by
    have := hb s us (e0.mod.kin.keeps fun b o z => (e0.bs b o z).1) (by rw [List.append_nil, ← r.length]; exact hl)
    rwa [List.append_nil] at this) r hs
/-- THE RULE for a def -/
theorem def_of {x qual : Str} {st : Stmt} {f : Addr} {fd : FuncData} {N ps : List Str} {k : Nat} {sp : LSp} {qb : QS} (F : Fun K x qual st f fd) (hb : Binds K fd ps []) (S : FnScope N ps (defScope st)) (len : ∀ ds m Φ, sp ds m Φ → ds.length = ps.length)
    (hd : ∀ (cdv : Value) (A : Around) (outer : List Env) (s : Shared) (H : Hp) (E : XK), Room k (A.deeper (envOfC qual (defScope st) s.heap.objs.size f cdv)) → PSs (cxB P w K mg base N qual st f cdv A outer s H E) (defBody st) (liftS K qb))
    (h : ∀ ds m Φ, sp ds m Φ → qb (bodyE Φ) (begin_ N.length ds) m) : FnD P w K mg base (k + 1) f sp := fnr_of (fno_of F S len hd h) hb
/-- def f(a, .., *v) -/
theorem star_of {x qual : Str} {st : Stmt} {f : Addr} {fd : FuncData} {N ps : List Str} {pv : Str} {k : Nat} {sp : LSp} {qb : QS} (F : Fun K x qual st f fd) (S : FnScope N (ps ++ [pv]) (defScope st))
    (hb : ∀ (kV doc pm : Value) (an : Option Addr) (cdv ct : Value) (us rest : List Value), us.length = ps.length → bindArgs (PySem.W.fnOf x qual (defArgs st) (defBody st) (defScope st) .none kV doc pm an cdv ct) ⟨us ++ rest, []⟩ = (newTuple rest >>= fun t => pure (ps.zip us ++ [(pv, t)])))
    (hd : ∀ (cdv : Value) (A : Around) (outer : List Env) (s : Shared) (H : Hp) (E : XK), Room k (A.deeper (envOfC qual (defScope st) s.heap.objs.size f cdv)) → PSs (cxB P w K mg base N qual st f cdv A outer s H E) (defBody st) (liftS K qb))
    (h : ∀ ds m Φ, sp ds m Φ → qb (bodyE Φ) (begin_ N.length ds) m) : FnD P w K mg base (k + 1) f (fun ds m Φ => ∃ ws rest, ds = ws ++ rest ∧ ws.length = ps.length ∧ rest.length ≤ sizeLine ∧ sp (ws ++ [.tup rest]) m Φ) := by
  obtain ⟨oc, od, kV, doc, pm, an, cdv, ct, osl, rfl, lk, hcd⟩ := F.ex
  have z := StX.fn_star (CX := CX0) (P := P) (w := w) (mg := mg) (base := base) (k := k) (sp := liftSp K sp) lk hcd S StX.cxUp_none (hb kV doc pm an cdv ct) (fun A outer s H vs Q E hr hs => ⟨liftS K qb, PSs.nox (hd cdv A outer s H E hr), body_lift h hs⟩)
  refine FnR.imp z fun vs H Q E ⟨G, m, ds, Φ, rm, rd, ⟨ws, rest, e, hl, hz, q⟩, k⟩ => ?_
  subst e
  obtain ⟨xs, ys, rfl, r1, r2⟩ : ∃ xs ys, vs = xs ++ ys ∧ RVs K G ws xs ∧ RVs K G rest ys := by
    have l := rd.length
    refine ⟨vs.take ws.length, vs.drop ws.length, (List.take_append_drop _ _).symm, ?_, ?_⟩
    · have := rd.take ws.length; rwa [List.take_left] at this
    · have := rd.drop ws.length; rwa [List.drop_left] at this
  refine ⟨xs, ys, rfl, by rw [← r1.length]; exact hl, by rw [← r2.length]; exact hz, fun p hp => ?_⟩
  obtain ⟨r3, e3⟩ := rm.lay (u := .tup ys) hp
  exact ⟨_, m, _, Φ, r3, RVs.append (RVs.mono e3 _ r1) (RVs.one (show RV K _ (.tup rest) (.ref p) from ⟨p, ys, rfl, .inl (.inl upd_same), RVs.mono e3 _ r2⟩)), q, k.mono e3⟩
end
/-! ### the law itself -/
def spLaw (K : PySem.W.Frag) : Sp := fun vs H Q _ => ∃ (a : Addr) (ns : List Int), vs = [.ref a] ∧ SqL K H a (ns.map V.int) ∧ ns.length ≤ 63 ∧ ∀ H', Q (.bl true) H'
/-- law(script): True for each list of at most 63 ints -/
def lspLaw : LSp := fun ds m Φ => ∃ ns : List Int, ds = [.lst (ns.map D.int)] ∧ ns.length ≤ 63 ∧ (∀ a, m a = none) ∧ ∀ m', Φ (.bl true) m'
theorem law_imp {K : PySem.W.Frag} : ∀ vs H Q E, spLaw K vs H Q E → liftSp K lspLaw vs H Q E := fun vs H Q E ⟨a, ns, h1, h2, h3, h4⟩ =>
  ⟨H, fun _ => none, [.lst (ns.map D.int)], fun d _ => d = .bl true, ⟨Sub.refl H, fun a o e => by cases e⟩, by
    subst h1
    exact RVs.one (show RV K H (.lst (ns.map D.int)) (.ref a) from ⟨a, _, rfl, h2, RVs.of_ints ns⟩), ⟨ns, rfl, h3, fun _ => rfl, fun _ => rfl⟩, fun G' d m' v H' e r rv q => by
    subst q
    obtain rfl : v = .bl true := rv
    exact h4 H'⟩
end L3
namespace L3
open PySem PySem.Spec PyProof.Rows L2
theorem dts_one {X : Cx} {c : Expr} {t : QT} (h : PT X c (liftT X.K t)) : PTs X [c] (liftT X.K t) := pts_one h
/-- a constant of the top that is a tuple -/
theorem de_glob {X : Cx} {x : Str} {pos : Pos} {a : Addr} (d : D) (hg : Gl X x) (hm : X.mg x = some (.ref a)) (rd : ∀ G, RV X.K G d (.ref a)) (hd : (x == ("__debug__" : Str)) = false := by decide) : PE X (.Name x pos) (liftE X.K (qC d)) :=
  de_c d (pe_glob (v := .ref a) hg hm rfl hd) rd
theorem ktup_of {K : PySem.W.Frag} {a : Addr} {od : Option Addr} {its : Array Value} {n : Nat} {sl : Array (Option Value)} {ds : List D} {xs : List V} (h : K.lookup a = some ⟨.type "tuple", od, .seq its n, sl⟩) (hz : its.size ≤ sizeLine) (hv : Vals xs its.toList) (hd : ∀ G, RVs K G ds xs) : ∀ G, RV K G (.tup ds) (.ref a) :=
  fun G => ⟨a, xs, rfl, .inr ⟨_, its, n, h, rfl, rfl, hz, hv⟩, hd G⟩
/-! ### weakening at the end of a def -/
def bodyW (Φ : DK) : DE := { nx := fun _ m => ∃ m', MLe m m' ∧ Φ .non m', rt := fun d m => ∃ m', MLe m m' ∧ Φ d m', bk := fun _ _ => False, ct := fun _ _ => False }
theorem wk_at {P : Mem → Prop} {m : Mem} (h : P m) : ∃ m', MLe m m' ∧ P m' := ⟨m, MLe.refl m, h⟩
theorem body_liftW {K : PySem.W.Frag} {sp : LSp} {qb : QS} {N : List Str} (h : ∀ ds m Φ, sp ds m Φ → qb (bodyW Φ) (begin_ N.length ds) m) {vs : List V} {H : Hp} {Q : VK} {E : XK} (hs : liftSp K sp vs H Q E) :
    liftS K qb { nx := fun _ H' => Q .non H', rt := Q } (L2.start N vs) H := by
  obtain ⟨G, m, ds, Φ, rm, rd, q, k⟩ := hs
  refine ⟨G, begin_ N.length ds, m, bodyW Φ, rm, relS_start rd, h ds m Φ q, ?_, ?_, fun _ _ _ _ _ _ _ _ z => z.elim, fun _ _ _ _ _ _ _ _ z => z.elim⟩
  · exact fun G' s' m' σ' H' e1 r1 _ ⟨m2, le, q1⟩ => k G' .non m2 .non H' e1 (r1.le le) rfl q1
  · exact fun G' d m' v H' e1 r1 rv ⟨m2, le, q1⟩ => k G' d m2 v H' e1 (r1.le le) rv q1
/-- a list known by a property alone is looked into -/
def sOpen (q : QS) : QS := fun E s m => ∃ b P, m b = some (.any P) ∧ ∀ ds, P ds → q E s (mset m b (.lst ds))
theorem RelM.look {K : PySem.W.Frag} {m : Mem} {G H : Hp} {b : Addr} {P : List D → Prop} (r : RelM K m G H) (hb : m b = some (.any P)) : ∃ ds, P ds ∧ RelM K (mset m b (.lst ds)) G H := by
  obtain ⟨g, u, hu, ds, xs, p, e1, e2⟩ := r.mem b _ hb
  refine ⟨ds, p, r.sub, fun a o e => ?_⟩
  by_cases ha : a = b
  · subst ha
    rw [mset_same] at e; cases e
    exact ⟨g, u, hu, xs, e1, e2⟩
  · rw [mset_ne ha] at e
    exact r.mem a o e
theorem open_lift {K : PySem.W.Frag} {q : QS} : ∀ D σ H, liftS K (sOpen q) D σ H → liftS K q D σ H := fun D σ H ⟨G, s, m, E, rm, rs, ⟨b, P, hb, q⟩, kn, kr, kb, kc⟩ => by
  obtain ⟨ds, p, r⟩ := rm.look hb
  exact ⟨G, s, _, E, r, rs, q ds p, kn, kr, kb, kc⟩
theorem dss_open {X : Cx} {st : List Stmt} {q : QS} (h : PSs X st (liftS X.K q)) : PSs X st (liftS X.K (sOpen q)) := pss_imp h open_lift
/-! ### loops with weakening -/
def DE.wk (E : DE) : DE := { E with nx := fun s m => ∃ m', MLe m m' ∧ E.nx s m', ct := fun s m => ∃ m', MLe m m' ∧ E.ct s m' }
def sDone (q : QS) : QS := fun E s m => q E.wk s m
theorem done_lift {K : PySem.W.Frag} {q : QS} : ∀ D σ H, liftS K (sDone q) D σ H → liftS K q D σ H := fun D σ H ⟨G, s, m, E, rm, rs, q, kn, kr, kb, kc⟩ =>
  ⟨G, s, m, E.wk, rm, rs, q, fun G' s' m' σ' H' e1 r1 r2 ⟨m2, le, q1⟩ => kn G' s' m2 σ' H' e1 (r1.le le) r2 q1, kr, kb, fun G' s' m' σ' H' e1 r1 r2 ⟨m2, le, q1⟩ => kc G' s' m2 σ' H' e1 (r1.le le) r2 q1⟩
theorem dss_done {X : Cx} {st : List Stmt} {q : QS} (h : PSs X st (liftS X.K q)) : PSs X st (liftS X.K (sDone q)) := pss_imp h done_lift
/-! ### name = a comprehension, on one line -/
section
variable {X : Cx}
theorem lift_freeze {K : PySem.W.Frag} {qe : QE} : ∀ σ H Q, liftE K (qFreeze qe) σ H Q → liftE K qe σ H Q := fun σ H Q ⟨G, s, m, Φ, rm, rs, q, k⟩ => ⟨G, s, m, _, rm, rs, q, fun G1 d m1 v H1 e1 r1 rd q1 => by
    cases d with
    | ref a =>
      obtain rfl : v = .ref a := rd
      obtain ⟨ds, hm, q1⟩ := q1
      obtain ⟨G2, e2, r2, rv⟩ := r1.freeze hm
      exact k G2 _ _ _ H1 (e1.trans e2) r2 rv q1
    | _ => exact q1.elim⟩
theorem lift_nm {K : PySem.W.Frag} {i : Nat} {qe : QE} {D : Ends} {σ : L2.St} {H : Hp} (h : liftS K (sAsg (.nm i) qe) D σ H) : liftE K qe σ H (fun x H1 => gName i x σ H1 D.nx) := by
  obtain ⟨G, s, m, E, rm, rs, q, kn, kr, kb, kc⟩ := h
  exact ⟨G, s, m, _, rm, rs, q, fun G1 d m1 v H1 e1 r1 rv q1 => kn G1 _ m1 _ H1 e1 r1 ((rs.mono e1).set i rv) q1⟩
theorem ds_setLcF (i : Nat) {y : Str} {py : Pos} {elt tg iter : Expr} {ifs : List Expr} {scope : Scope} {own : List (Str × Nat)} {pos spos : Pos} {qi : QI} {p : Pat} {qt : QT} {qe : QE} (hc : X.calm = true) (hN : X.N.Nodup) (hi : PI X tg iter (liftI X.K qi)) (ok : BlkOk X.N X.env.scope scope own)
    (hg : ∀ (s : Shared) (H : Hp) (C : Addr) (cl : List (Str × Addr)) (fp : List Addr), PG (X.blk s H scope (compEnvC scope cl C X.env) fp) tg (tgOf X.K p))
    (ht : ∀ (s : Shared) (H : Hp) (C : Addr) (cl : List (Str × Addr)) (fp : List Addr), PTs (X.blk s H scope (compEnvC scope cl C X.env) fp) ifs (liftT X.K qt))
    (he : ∀ (s : Shared) (H : Hp) (C : Addr) (cl : List (Str × Addr)) (fp : List Addr), PE (X.blk s H scope (compEnvC scope cl C X.env) fp) elt (liftE X.K qe))
    (hsw : swapsWith (.ListComp elt [⟨tg, iter, ifs, 0⟩] scope pos) (some (.Name y py)) spos.line X.env = pure true := by exact sw_true rfl rfl rfl (by decide +kernel))
    (hy : X.N[i]? = some y := by rfl) (hyl : X.env.scope.names.lookup y = some .local := by rfl)
    (hv : ∀ i ∈ slots p, i ∈ own.map (·.2) := by decide) (hs : ∀ x, foldedSetIterable iter X.env x = pure x := by intro _; rfl) :
    PS X (.Assign [.Name y py] (.ListComp elt [⟨tg, iter, ifs, 0⟩] scope pos) spos) (liftS X.K (sAsg (.nm i) (qFreeze (qLc qi p qt qe (own.map (·.2)))))) :=
  ps_imp (ps_setLc hc hN hy hyl hsw hi ok hg ht he hs) fun D σ H h => lift_lc hv σ H _ (lift_freeze σ H _ (lift_nm h))
/-- name = {..} on one line -/
theorem ps_setDc {i : Nat} {y : Str} {py : Pos} {kx vx tg iter : Expr} {ifs : List Expr} {scope : Scope} {own : List (Str × Nat)} {pos spos : Pos} {wi : TI} {g : TG} {tt : TT} {tk tv : TE} (hc : X.calm = true) (hN : X.N.Nodup) (hy : X.N[i]? = some y) (hyl : X.env.scope.names.lookup y = some .local)
    (hsw : swapsWith (.DictComp kx vx [⟨tg, iter, ifs, 0⟩] scope pos) (some (.Name y py)) spos.line X.env = pure true) (hi : PI X tg iter wi) (ok : BlkOk X.N X.env.scope scope own)
    (hg : ∀ (s : Shared) (H : Hp) (C : Addr) (cl : List (Str × Addr)) (fp : List Addr), PG (X.blk s H scope (compEnvC scope cl C X.env) fp) tg g) (ht : ∀ (s : Shared) (H : Hp) (C : Addr) (cl : List (Str × Addr)) (fp : List Addr), PTs (X.blk s H scope (compEnvC scope cl C X.env) fp) ifs tt)
    (hk : ∀ (s : Shared) (H : Hp) (C : Addr) (cl : List (Str × Addr)) (fp : List Addr), PE (X.blk s H scope (compEnvC scope cl C X.env) fp) kx tk)
    (he : ∀ (s : Shared) (H : Hp) (C : Addr) (cl : List (Str × Addr)) (fp : List Addr), PE (X.blk s H scope (compEnvC scope cl C X.env) fp) vx tv) (hs : ∀ x, foldedSetIterable iter X.env x = pure x := by intro _; rfl) :
    PS X (.Assign [.Name y py] (.DictComp kx vx [⟨tg, iter, ifs, 0⟩] scope pos) spos) (tAsg (tDc wi g tt tk tv (own.map (·.2))) (gName i)) := by
  refine ⟨fun pins s σ H D I h => ?_⟩
  rw [exec_Assign_Name_used _ _ _ _ hsw]
  refine wpAny_bind (wpAny_standAt (wpAny_bind ?_))
  show wpAny _ X.A (do let _ ← comprehension (.DictComp kx vx [⟨tg, iter, ifs, 0⟩] scope pos) scope X.env (firstIterPos [⟨tg, iter, ifs, 0⟩] pos) newDict false (eval iter X.env) (some (assign (.Name y py) X.env))) _ _ s
  have h : tDc wi g tt tk tv (own.map (·.2)) σ H (fun x H1 => gName i x σ H1 D.nx) := h
  refine wpAny_bind (thn (dc_core (Qf := fun _ s' => SP X pins D .next s') hc hN I hi ok hg ht hk he hs h fun L C s' m H' I' q hn f => ?_) fun _ s' hq => wpAny_pure (wpAny_pure hq))
  show wpAny _ _ (assign (.Name y py) X.env (.ref L)) _ _ _
  refine wpAny_assign_Name (store_ok2 (v := V.ref L) I' hN hy (.inl hyl) rfl (fun s2 I2 ⟨a, sb, ha⟩ => ?_) (.inr hyl))
  obtain ⟨f0, f1, f2, f3, f4, f5⟩ := f
  have haC : C ≠ a := by
    rcases ha with z | z
    · rw [z]; exact f1
    · exact fun e => f4 y a z e.symm
  refine ⟨m, hn.sameBut sb haC, fun h3 sb3 => ?_⟩
  exact ⟨_, H', I2.turned (t' := s2.toks) (fun b o hb e => (sb3.2 b hb).trans e) f0 f1 f3 f4 f5, q⟩
theorem sw_trueD {kx vx : Expr} {gs : List Comprehension} {scope : Scope} {pos py : Pos} {y : Str} {l : Nat} {env : Env} (hk : env.scope.kind = .function) (hy : env.scope.names.lookup y = some .local) (hl : (py.line == pos.line) = true)
    (ha : (scope.names.any fun (n, k) => n == y && (k == .local || k == .cell)) = false) : swapsWith (.DictComp kx vx gs scope pos) (some (.Name y py)) l env = pure true := by
  have ky : env.kindOf y = some .local := hy
  have hb : env.blockKind = .function := by unfold Env.blockKind; rw [hk]; rfl
  unfold swapsWith
  simp only [hb, ky, ha, Expr.pos, hl]
  rfl
theorem ds_setDc (i : Nat) {y : Str} {py : Pos} {kx vx tg iter : Expr} {ifs : List Expr} {scope : Scope} {own : List (Str × Nat)} {pos spos : Pos} {qi : QI} {p : Pat} {qt : QT} {qk qe : QE} (hc : X.calm = true) (hN : X.N.Nodup) (hi : PI X tg iter (liftI X.K qi)) (ok : BlkOk X.N X.env.scope scope own)
    (hg : ∀ (s : Shared) (H : Hp) (C : Addr) (cl : List (Str × Addr)) (fp : List Addr), PG (X.blk s H scope (compEnvC scope cl C X.env) fp) tg (tgOf X.K p))
    (ht : ∀ (s : Shared) (H : Hp) (C : Addr) (cl : List (Str × Addr)) (fp : List Addr), PTs (X.blk s H scope (compEnvC scope cl C X.env) fp) ifs (liftT X.K qt))
    (hk : ∀ (s : Shared) (H : Hp) (C : Addr) (cl : List (Str × Addr)) (fp : List Addr), PE (X.blk s H scope (compEnvC scope cl C X.env) fp) kx (liftE X.K qk))
    (he : ∀ (s : Shared) (H : Hp) (C : Addr) (cl : List (Str × Addr)) (fp : List Addr), PE (X.blk s H scope (compEnvC scope cl C X.env) fp) vx (liftE X.K qe))
    (hsw : swapsWith (.DictComp kx vx [⟨tg, iter, ifs, 0⟩] scope pos) (some (.Name y py)) spos.line X.env = pure true := by exact sw_trueD rfl rfl rfl (by decide +kernel))
    (hy : X.N[i]? = some y := by rfl) (hyl : X.env.scope.names.lookup y = some .local := by rfl)
    (hv : ∀ i ∈ slots p, i ∈ own.map (·.2) := by decide) (hs : ∀ x, foldedSetIterable iter X.env x = pure x := by intro _; rfl) :
    PS X (.Assign [.Name y py] (.DictComp kx vx [⟨tg, iter, ifs, 0⟩] scope pos) spos) (liftS X.K (sAsg (.nm i) (qDc qi p qt qk qe (own.map (·.2))))) :=
  ps_imp (ps_setDc hc hN hy hyl hsw hi ok hg ht hk he hs) fun D σ H h => lift_dc hv σ H _ (lift_nm h)
end
/-! ### a property -/
section
variable {X : Cx} {k : Nat} {C p g a dx : Addr} {fs : List (Str × V)} {f : Str} {e : Expr} {pos : Pos}
theorem getpropR {CX : CXT} {sp : Sp} {E : XK} {pins : List (Addr × Obj)} {σ : L2.St} {H : Hp} {s : Shared} {Q : VK} {b : Bool} {E' : Value → Shared → Prop} (I : L2.Inv X pins σ H s) (ea : H a = some (.ins C dx fs)) (c : Cls X.K C) (hp : PropOf X.K C f p g)
    (F : FnR X.prog X.w X.K X.mg X.base CX k g sp) (hr : Room (k + 1) X.A) (hx : Passes CX X.nox E) (h : sp [.ref a] H Q E) :
    wpAny (model X.prog X.w) X.A (getAttr (.ref a) f b) (EP X pins σ Q) E' s := by
  obtain ⟨mA, O, _, _, _, _⟩ := ins_get I.hok ea
  obtain ⟨od, J, _⟩ := O.look
  obtain ⟨rest, hrec⟩ := hp.rec_
  have I1 := I.tok (s.toks + 1)
  have hc : (PySem.W.clsIn X.K C).isSome = true := by
    obtain ⟨cd, hc, _⟩ := PySem.W.any_some c.hd
    rw [hc]
    rfl
  refine PySem.W.get_bind I.kIn J (PySem.W.plainGet_of (c.get f)).1 (PySem.W.findObj_data hc hp.at_ hp.get hp.tak) (PySem.W.plainGet_of (c.get f)).2 (wpAny_call (PySem.W.prop_get (s := { s with toks := s.toks + 1 }) I.kIn hrec ?_))
  refine codeAny_mono (F X.A.in1 X.stack { s with toks := s.toks + 1 } H [.ref a] [.ref a] Q E hr.in1 I1.env0.in1 (.cons rfl .nil) h) fun r s' hq => ?_
  cases r with
  | error er => exact False.elim (hx pins σ H { s with toks := s.toks + 1 } er s' (I1.wish _) hq)
  | ok fl =>
    cases fl with
    | ret u =>
      obtain ⟨v, H', I3, rv, q3⟩ := I1.after hq
      show wpAny _ _ (handedOut u) _ _ _
      rw [PySem.W.handedOut_of (handed_of rv)]
      exact wpAny_pure ⟨v, H', I3, rv, q3⟩
    | next => exact False.elim hq
    | brk => exact False.elim hq
    | cont => exact False.elim hq
theorem de_prop {sp : LSp} {qe : QE} (he : PE X e (liftE X.K qe)) (c : Cls X.K C) (hp : PropOf X.K C f p g) (F : FnD X.prog X.w X.K X.mg X.base k g sp) (hr : Room (k + 1) X.A) (hab : attributeBase e f X.env (eval e X.env) = eval e X.env := by rfl) :
    PE X (.Attribute e f pos) (liftE X.K (qProp C sp qe)) := by
  refine ⟨fun pins s σ H Q I h => ?_⟩
  obtain ⟨G, s0, m, Φ, rm, rs, q, k0⟩ := h
  refine attr_of hab (thn (he.run pins s σ H _ I ⟨G, s0, m, _, rm, rs, q, fun G1 d m1 v H1 e1 r1 rd q1 => (?_ : ∃ G1 d m1 Φ, RelM X.K m1 G1 H1 ∧ RV X.K G1 d v ∧ qProp C sp (fun _ m2 Φ2 => Φ2 d m2) s0 m1 Φ ∧ KQ X.K G1 Φ Q)⟩) fun u s1 hh => ?_)
  · exact ⟨G1, d, m1, Φ, r1, rd, q1, k0.mono e1⟩
  · obtain ⟨x, H1, I1, rx, G1, d, m1, Φ, r1, rd, q1, k1⟩ := hh
    cases d with
    | ref a =>
      obtain rfl : x = .ref a := rd
      obtain rfl : u = Value.ref a := rx
      obtain ⟨⟨fs, hm⟩, q1⟩ := q1
      obtain ⟨_, w, hw, dx, xs, rfl, r⟩ := r1.mem a _ hm
      exact getpropR I1 hw c hp F hr (X := X) (CX := CX0) (E := E0) pass0 ⟨G1, m1, _, Φ, r1, RVs.one (show RV X.K G1 (.ref a) (.ref a) from rfl), q1, k1⟩
    | _ => exact q1.elim
end
/-! ### defs, with weakening behind -/
section
variable {P : Program} {w : World} {K : PySem.W.Frag} {mg : Str → Option Value} {base : Heap}
theorem fno_ofW {x qual : Str} {st : Stmt} {f : Addr} {fd : FuncData} {N ps : List Str} {k : Nat} {sp : LSp} {qb : QS} (F : Fun K x qual st f fd) (S : FnScope N ps (defScope st)) (len : ∀ ds m Φ, sp ds m Φ → ds.length = ps.length)
    (hd : ∀ (cdv : Value) (A : Around) (outer : List Env) (s : Shared) (H : Hp) (E : XK), Room k (A.deeper (envOfC qual (defScope st) s.heap.objs.size f cdv)) → PSs (cxB P w K mg base N qual st f cdv A outer s H E) (defBody st) (liftS K qb))
    (h : ∀ ds m Φ, sp ds m Φ → qb (bodyW Φ) (begin_ N.length ds) m) : FnOk P w K mg base CX0 (k + 1) f fd ps (liftSp K sp) := by
  refine F.ok S (fun vs H Q E hs => ?_) (fun cdv A outer s H vs Q E hr hs => ⟨liftS K qb, hd cdv A outer s H E hr, body_liftW h hs⟩)
  obtain ⟨G, m, ds, Φ, rm, rd, q, k⟩ := hs
  rw [← rd.length]; exact len ds m Φ q
/-- THE RULE for a def -/
theorem def_ofW {x qual : Str} {st : Stmt} {f : Addr} {fd : FuncData} {N ps : List Str} {k : Nat} {sp : LSp} {qb : QS} (F : Fun K x qual st f fd) (hb : Binds K fd ps []) (S : FnScope N ps (defScope st)) (len : ∀ ds m Φ, sp ds m Φ → ds.length = ps.length)
    (hd : ∀ (cdv : Value) (A : Around) (outer : List Env) (s : Shared) (H : Hp) (E : XK), Room k (A.deeper (envOfC qual (defScope st) s.heap.objs.size f cdv)) → PSs (cxB P w K mg base N qual st f cdv A outer s H E) (defBody st) (liftS K qb))
    (h : ∀ ds m Φ, sp ds m Φ → qb (bodyW Φ) (begin_ N.length ds) m) : FnD P w K mg base (k + 1) f sp := fnr_of (fno_ofW F S len hd h) hb
/-- def f(a, .., *v) -/
theorem star_ofW {x qual : Str} {st : Stmt} {f : Addr} {fd : FuncData} {N ps : List Str} {pv : Str} {k : Nat} {sp : LSp} {qb : QS} (F : Fun K x qual st f fd) (S : FnScope N (ps ++ [pv]) (defScope st))
    (hb : ∀ (kV doc pm : Value) (an : Option Addr) (cdv ct : Value) (us rest : List Value), us.length = ps.length → bindArgs (PySem.W.fnOf x qual (defArgs st) (defBody st) (defScope st) .none kV doc pm an cdv ct) ⟨us ++ rest, []⟩ = (newTuple rest >>= fun t => pure (ps.zip us ++ [(pv, t)])))
    (hd : ∀ (cdv : Value) (A : Around) (outer : List Env) (s : Shared) (H : Hp) (E : XK), Room k (A.deeper (envOfC qual (defScope st) s.heap.objs.size f cdv)) → PSs (cxB P w K mg base N qual st f cdv A outer s H E) (defBody st) (liftS K qb))
    (h : ∀ ds m Φ, sp ds m Φ → qb (bodyW Φ) (begin_ N.length ds) m) : FnD P w K mg base (k + 1) f (fun ds m Φ => ∃ ws rest, ds = ws ++ rest ∧ ws.length = ps.length ∧ rest.length ≤ sizeLine ∧ sp (ws ++ [.tup rest]) m Φ) := by
  obtain ⟨oc, od, kV, doc, pm, an, cdv, ct, osl, rfl, lk, hcd⟩ := F.ex
  have z := StX.fn_star (CX := CX0) (P := P) (w := w) (mg := mg) (base := base) (k := k) (sp := liftSp K sp) lk hcd S StX.cxUp_none (hb kV doc pm an cdv ct) (fun A outer s H vs Q E hr hs => ⟨liftS K qb, PSs.nox (hd cdv A outer s H E hr), body_liftW h hs⟩)
  refine FnR.imp z fun vs H Q E ⟨G, m, ds, Φ, rm, rd, ⟨ws, rest, e, hl, hz, q⟩, k⟩ => ?_
  subst e
  obtain ⟨xs, ys, rfl, r1, r2⟩ : ∃ xs ys, vs = xs ++ ys ∧ RVs K G ws xs ∧ RVs K G rest ys := by
    have l := rd.length
    refine ⟨vs.take ws.length, vs.drop ws.length, (List.take_append_drop _ _).symm, ?_, ?_⟩
    · have := rd.take ws.length; rwa [List.take_left] at this
    · have := rd.drop ws.length; rwa [List.drop_left] at this
  refine ⟨xs, ys, rfl, by rw [← r1.length]; exact hl, by rw [← r2.length]; exact hz, fun p hp => ?_⟩
  obtain ⟨r3, e3⟩ := rm.lay (u := .tup ys) hp
  exact ⟨_, m, _, Φ, r3, RVs.append (RVs.mono e3 _ r1) (RVs.one (show RV K _ (.tup rest) (.ref p) from ⟨p, ys, rfl, .inl (.inl upd_same), RVs.mono e3 _ r2⟩)), q, k.mono e3⟩
/-- no promise is kept -/
theorem fnd_false {k : Nat} {f : Addr} : FnD P w K mg base k f (fun _ _ _ => False) := fun A outer s H us vs Q E hr e0 r ⟨_, _, _, _, _, _, h, _⟩ => h.elim
theorem FnD.imp {k : Nat} {f : Addr} {sp sp' : LSp} (h : FnD P w K mg base k f sp) (i : ∀ ds m Φ, sp' ds m Φ → sp ds m Φ) : FnD P w K mg base k f sp' := FnR.imp h fun vs H Q E ⟨G, m, ds, Φ, rm, rd, q, k⟩ => ⟨G, m, ds, Φ, rm, rd, i ds m Φ q, k⟩
end
end L3
namespace L3
open PySem PySem.Spec PyProof.Rows L2
/-! ### == by kinds -/
theorem eqv_int (i j : Int) : PyData.eqv (.int i) (.int j) = decide (i = j) := by
  simp [PyData.eqv]
  exact Bool.eq_iff_iff.mpr (by simp)
theorem eqv_bl (i j : Bool) : PyData.eqv (.bool i) (.bool j) = decide (i = j) := by
  cases i <;> cases j <;> rfl
theorem sh_int (i : Int) : SeqAt.shaped (.int i) = true := by rfl
theorem sh_bl (i : Bool) : SeqAt.shaped (.bool i) = true := by rfl
def vEq : D → D → Mem → DK → Prop := fun x y m Φ => match x, y with
  | .int i, .int j => Φ (.bl (decide (i = j))) m
  | .bl i, .bl j => Φ (.bl (decide (i = j))) m
  | x, y => qEq x y m Φ
def vNe : D → D → Mem → DK → Prop := fun x y m Φ => match x, y with
  | .int i, .int j => Φ (.bl (!decide (i = j))) m
  | .bl i, .bl j => Φ (.bl (!decide (i = j))) m
  | x, y => qNe x y m Φ
theorem veq_of {x y : D} {m : Mem} {Φ : DK} (h : vEq x y m Φ) : qEq x y m Φ := by
  unfold vEq at h
  split at h
  · exact ⟨_, _, .inl rfl, .inl rfl, sh_int _, sh_int _, by rw [eqv_int]; exact h⟩
  · exact ⟨_, _, .inl rfl, .inl rfl, sh_bl _, sh_bl _, by rw [eqv_bl]; exact h⟩
  · exact h
theorem vne_of {x y : D} {m : Mem} {Φ : DK} (h : vNe x y m Φ) : qNe x y m Φ := by
  unfold vNe at h
  split at h
  · exact ⟨_, _, .inl rfl, .inl rfl, sh_int _, sh_int _, by rw [eqv_int]; exact h⟩
  · exact ⟨_, _, .inl rfl, .inl rfl, sh_bl _, sh_bl _, by rw [eqv_bl]; exact h⟩
  · exact h
section
variable {X : Cx}
theorem do_eq2 (hu : X.A.units + 64 < cLine) : OpR X (compareOp .Eq) (liftR X.K vEq) := op_imp (do_eq hu) fun x y H Q ⟨G, m, dx, dy, Φ, rm, rx, ry, q, k⟩ => ⟨G, m, dx, dy, Φ, rm, rx, ry, veq_of q, k⟩
theorem do_ne2 (hu : X.A.units + 64 < cLine) : OpR X (compareOp .NotEq) (liftR X.K vNe) := op_imp (do_ne hu) fun x y H Q ⟨G, m, dx, dy, Φ, rm, rx, ry, q, k⟩ => ⟨G, m, dx, dy, Φ, rm, rx, ry, vne_of q, k⟩
end
end L3
namespace L3
open PySem PySem.Spec PyProof.Rows L2
open Rat (divInt)
/-! ### amounts: fractions in lowest terms -/
def am (q : Rat) : D := .tup [.int q.num, .int q.den]
theorem am_low {t b g : Int} (hb : 0 < b) (hg : g = (Int.gcd t b : Nat)) : D.tup [.int (t / g), .int (b / g)] = am (divInt t b) := by
  have h1 : (divInt t b).num = t / g := by rw [Rat.num_divInt, Int.sign_eq_one_of_pos hb, Int.one_mul, Int.gcd_comm, hg]
  have h2 : ((divInt t b).den : Int) = b / g := by
    rw [Rat.den_divInt, if_neg (by omega), Int.gcd_comm, hg, Int.natCast_ediv]
    congr 1
    omega
  unfold am
  rw [h1, h2]
theorem divInt_num_den (q : Rat) : divInt q.num q.den = q := Rat.num_divInt_den q
theorem den_pos (q : Rat) : (0 : Int) < q.den := by have := q.den_pos; omega
theorem den_ne (q : Rat) : (q.den : Int) ≠ 0 := by have := q.den_pos; omega
theorem am_add (p q : Rat) : divInt (p.num * q.den + q.num * p.den) (p.den * q.den) = p + q := by
  conv => rhs; rw [← divInt_num_den p, ← divInt_num_den q]
  rw [Rat.divInt_add_divInt _ _ (den_ne p) (den_ne q)]
theorem am_sub (p q : Rat) : divInt (p.num * q.den - q.num * p.den) (p.den * q.den) = p - q := by
  conv => rhs; rw [← divInt_num_den p, ← divInt_num_den q]
  rw [Rat.divInt_sub_divInt _ _ (den_ne p) (den_ne q)]
theorem am_scale (p : Rat) (t b : Int) : divInt (p.num * t) (p.den * b) = p * (divInt t b) := by
  conv => rhs; rw [← divInt_num_den p]
  rw [Rat.divInt_mul_divInt]
theorem am_lt (p q : Rat) : p < q ↔ p.num * q.den < q.num * p.den := Rat.lt_iff p q
theorem am_le (p q : Rat) : p ≤ q ↔ p.num * q.den ≤ q.num * p.den := Rat.le_iff p q
theorem am_nonneg {p : Rat} : 0 ≤ p ↔ 0 ≤ p.num := Rat.num_nonneg.symm
/-- q's denominator divides N -/
def Dn (N : Nat) (q : Rat) : Prop := ∃ z : Int, q * (N : Rat) = z
theorem Dn.zero (N : Nat) : Dn N 0 := ⟨0, by rw [Rat.zero_mul]; rfl⟩
theorem Dn.add {N : Nat} {p q : Rat} (h : Dn N p) (k : Dn N q) : Dn N (p + q) := by
  obtain ⟨z, h⟩ := h
  obtain ⟨w, k⟩ := k
  exact ⟨z + w, by rw [Rat.intCast_add]; grind⟩
theorem Dn.sub {N : Nat} {p q : Rat} (h : Dn N p) (k : Dn N q) : Dn N (p - q) := by
  obtain ⟨z, h⟩ := h
  obtain ⟨w, k⟩ := k
  exact ⟨z - w, by rw [Rat.intCast_sub]; grind⟩
theorem Dn.mono {N : Nat} (M : Nat) {p : Rat} (h : Dn N p) : Dn (N * M) p := by
  obtain ⟨z, h⟩ := h
  exact ⟨z * M, by rw [Rat.natCast_mul, Rat.intCast_mul, Rat.intCast_natCast]; grind⟩
theorem Dn.of {N : Nat} {t b : Int} (hb : b ≠ 0) (M : Nat) (e : b * M = N) : Dn N (divInt t b) := by
  refine ⟨t * M, ?_⟩
  have hN : (N : Rat) = (b : Rat) * (M : Rat) := by rw [← Rat.intCast_natCast, ← e, Rat.intCast_mul, Rat.intCast_natCast]
  have hb' : (b : Rat) ≠ 0 := by intro z; exact hb (Rat.intCast_eq_zero_iff.mp z)
  rw [Rat.divInt_eq_div, hN, Rat.intCast_mul, Rat.intCast_natCast]
  grind
theorem Dn.mul {N M : Nat} {p q : Rat} (h : Dn N p) (k : Dn M q) : Dn (N * M) (p * q) := by
  obtain ⟨z, h⟩ := h
  obtain ⟨w, k⟩ := k
  exact ⟨z * w, by rw [Rat.natCast_mul, Rat.intCast_mul]; grind⟩
theorem Dn.dvd {N : Nat} {q : Rat} (h : Dn N q) (hN : N ≠ 0) : q.den ∣ N := by
  obtain ⟨z, h⟩ := h
  have e : q = divInt z (N : Int) := by
    rw [Rat.divInt_eq_div, ← h]
    have : ((N : Int) : Rat) ≠ 0 := by intro z; have := Rat.intCast_eq_zero_iff.mp z; omega
    rw [Rat.intCast_natCast] at this ⊢
    grind
  rw [e, Rat.den_divInt, if_neg (by omega)]
  rw [Int.natAbs_natCast]
  exact Nat.div_dvd_of_dvd (by
    have := Int.gcd_dvd_left (a := (N : Int)) (b := z)
    exact Int.ofNat_dvd.mp this)
theorem Dn.le {N : Nat} {q : Rat} (h : Dn N q) (hN : 0 < N) : q.den ≤ N := Nat.le_of_dvd hN (h.dvd (by omega))
theorem gcd_step {x y : Int} (hx : 0 ≤ x) (hy : 0 ≤ y) : Int.gcd y (x % y) = Int.gcd y x := by
  obtain ⟨a, rfl⟩ := Int.eq_ofNat_of_zero_le hx
  obtain ⟨b, rfl⟩ := Int.eq_ofNat_of_zero_le hy
  show Nat.gcd b (a % b) = Nat.gcd b a
  rw [Nat.gcd_comm b (a % b), ← Nat.gcd_rec]
theorem MLe.any {m : Mem} {a : Addr} {ds : List D} {P : List D → Prop} (p : P ds) : MLe (mset m a (.lst ds)) (mset m a (.any P)) := fun b o h => by
  by_cases hb : b = a
  · subst hb
    rw [mset_same] at h
    cases h
    exact ⟨_, mset_same, .inr (.inl ⟨ds, P, rfl, rfl, p⟩)⟩
  · rw [mset_ne hb] at h
    exact ⟨o, by rw [mset_ne hb]; exact h, .inl rfl⟩
end L3
open PySem PySem.Spec PyProof.Rows L2 L3
theorem L2.FnOk.imp_law {P : Program} {w : World} {K : PySem.W.Frag} {mg : Str → Option Value} {base : Heap} {CX : CXT} {k : Nat} {f : Addr} {fd : FuncData} {ps : List Str} (F : FnOk P w K mg base CX k f fd ps (liftSp K lspLaw)) : FnOk P w K mg base CX k f fd ps (spLaw K) := F.imp law_imp
namespace L3
/-- i ** j, its value kept as a name (so that no test over it is reckoned out) -/
def qPow : D → D → Mem → DK → Prop := fun x y m Φ => match x, y with
  | .int i, .int j => CPow i j ∧ ∀ n : Int, n = i ^ j.toNat → Φ (.int n) m
  | _, _ => False
theorem do_pow2 {X : Cx} : OpR X (binaryOp .Pow) (liftR X.K qPow) := op_imp do_pow fun x y H Q ⟨G, m, dx, dy, Φ, rm, rx, ry, q, k⟩ => by
  refine ⟨G, m, dx, dy, Φ, rm, rx, ry, ?_, k⟩
  unfold qPow at q
  split at q
  · exact ⟨q.1, q.2 _ rfl⟩
  · exact q.elim
end L3
namespace L3
open PySem PySem.Spec PyProof.Rows L2
/-! ### {k: v, ..} -/
def qPairs : List (QE × QE) → DSt → Mem → (List (D × D) → Mem → Prop) → Prop
  | [], _, m, Φ => Φ [] m
  | p :: r, s, m, Φ => p.1 s m fun x m1 => p.2 s m1 fun y m2 => qPairs r s m2 fun ps m3 => Φ ((x, y) :: ps) m3
def keysP : List (D × D) → Option (List (Key × D))
  | [] => some []
  | p :: r => match keyD p.1, keysP r with
    | some k, some ks => some ((k, p.2) :: ks)
    | _, _ => none
def mergeD (ks more : List (Key × D)) : List (Key × D) := more.foldl (fun acc kv => putD acc kv.1 kv.2) ks
def qDisp (ps : List (QE × QE)) : QE := fun s m Φ => ∀ p, m p = none → qPairs ps s (mset m p (.dK [])) fun xs m2 => m2 p = some (.dK []) ∧ ∃ kvs, keysP xs = some kvs ∧ kvs.length ≤ 15 ∧ Φ (.ref p) (mset m2 p (.dK (mergeD [] kvs)))
section
variable {K : PySem.W.Frag}
def RPs (K : PySem.W.Frag) (G : Hp) : List (D × D) → List (V × V) → Prop
  | [], [] => True
  | p :: r, q :: t => RV K G p.1 q.1 ∧ RV K G p.2 q.2 ∧ RPs K G r t
  | _, _ => False
theorem RPs.keys {G : Hp} : ∀ {xs : List (D × D)} {vs : List (V × V)} {kvs : List (Key × D)}, RPs K G xs vs → keysP xs = some kvs → ∃ kws : List (Key × V), vs = kws.map (fun kv => (kV kv.1, kv.2)) ∧ RKs K G kvs kws
  | [], [], kvs, _, e => by cases e; exact ⟨[], rfl, rfl⟩
  | p :: r, q :: t, kvs, ⟨h1, h2, h3⟩, e => by
    unfold keysP at e
    cases k1 : keyD p.1 with
    | none => rw [k1] at e; cases e
    | some k =>
      cases k2 : keysP r with
      | none => rw [k1, k2] at e; cases e
      | some ks =>
        rw [k1, k2] at e
        cases e
        obtain ⟨kws, rfl, hr⟩ := RPs.keys h3 k2
        refine ⟨(k, q.2) :: kws, ?_, q.2, kws, rfl, h2, hr⟩
        rw [List.map_cons]
        have : q.1 = kV k := RV.key h1 k1
        rw [← this]
  | [], _ :: _, _, h, _ => h.elim
  | _ :: _, [], _, h, _ => h.elim
theorem RKs.merge {G : Hp} : ∀ {more : List (Key × D)} {rs : List (Key × V)} {ks : List (Key × D)} {vs : List (Key × V)}, RKs K G more rs → RKs K G ks vs → RKs K G (mergeD ks more) (mergeK vs rs)
  | [], _, ks, vs, h, r0 => by rw [show _ = [] from h]; exact r0
  | p :: more, _, ks, vs, ⟨x, q, h1, h2, h3⟩, r0 => by
    subst h1
    exact RKs.merge (more := more) (rs := q) h3 (RKs.put p.1 h2 r0)
theorem pairs_lift {G : Hp} {s : DSt} {σ : L2.St} : ∀ {ps : List (QE × QE)} {G' : Hp} {m : Mem} {H : Hp} {Φ : List (D × D) → Mem → Prop} {Q : List (V × V) → Hp → Prop}, RelS K s G σ → Sub G G' → RelM K m G' H → qPairs ps s m Φ →
    (∀ G2 xs m2 vs H2, Sub G' G2 → RelM K m2 G2 H2 → RPs K G2 xs vs → Φ xs m2 → Q vs H2) → tPairs (ps.map fun p => (liftE K p.1, liftE K p.2)) σ H Q
  | [], G', m, H, Φ, Q, rs, e, rm, q, k => k G' [] m [] H (Sub.refl G') rm trivial q
  | p :: ps, G', m, H, Φ, Q, rs, e, rm, q, k => ⟨G', s, m, _, rm, rs.mono e, q, fun G1 x m1 v H1 e1 r1 rx q1 => ⟨G1, s, m1, _, r1, rs.mono (e.trans e1), q1, fun G2 y m2 u H2 e2 r2 ry q2 =>
      pairs_lift rs ((e.trans e1).trans e2) r2 q2 fun G3 xs m3 vs H3 e3 r3 rx3 q3 => k G3 ((x, y) :: xs) m3 ((v, u) :: vs) H3 ((e1.trans e2).trans e3) r3 ⟨RV.mono (e2.trans e3) _ rx, RV.mono e3 _ ry, rx3⟩ q3⟩⟩
theorem lift_disp {ps : List (QE × QE)} : ∀ σ H Q, liftE K (qDisp ps) σ H Q → tDisp (ps.map fun p => (liftE K p.1, liftE K p.2)) σ H Q := fun σ H Q ⟨G, s, m, Φ, rm, rs, q, k⟩ p hp => by
  refine pairs_lift rs (Sub.refl G) (rm.new (o := .dK []) hp ⟨[], rfl, rfl⟩) (q p (rm.free hp)) fun G2 xs m2 vs H2 e2 r2 rx ⟨hm, kvs, hk, hl, q2⟩ => ?_
  obtain ⟨g, u, hu, ws, rfl, rw0⟩ := r2.mem p _ hm
  have hw : ws = [] := rw0
  subst hw
  obtain ⟨kws, rfl, rk⟩ := rx.keys hk
  refine ⟨hu, kws, rfl, by rw [← rk.length]; exact hl, k G2 (.ref p) _ _ _ e2 (r2.put (o := .dK (mergeD [] kvs)) hm ⟨_, rfl, RKs.merge rk (show RKs K G2 [] [] from rfl)⟩) rfl q2⟩
end
section
variable {X : Cx} {pos : Pos} {k v : Expr} {ks : List (Option Expr)} {vs : List Expr} {qk qv : QE} {ps : List (QE × QE)}
theorem dps_nil : PPs X pos [] [] (([] : List (QE × QE)).map fun p => (liftE X.K p.1, liftE X.K p.2)) := pps_nil
theorem dps_cons (hk : PE X k (liftE X.K qk)) (hv : PE X v (liftE X.K qv)) (hr : PPs X pos ks vs (ps.map fun p => (liftE X.K p.1, liftE X.K p.2))) : PPs X pos (some k :: ks) (v :: vs) (((qk, qv) :: ps).map fun p => (liftE X.K p.1, liftE X.K p.2)) := pps_cons hk hv hr
theorem de_disp {keys : List (Option Expr)} {values : List Expr} (h : PPs X pos keys values (ps.map fun p => (liftE X.K p.1, liftE X.K p.2))) (hall : keys.all (·.isSome) = true := by rfl) (hl : keys.length = values.length := by rfl) (h0 : keys ≠ [] := by simp) (h15 : keys.length ≤ 15 := by decide) :
    PE X (.Dict keys values pos) (liftE X.K (qDisp ps)) := pe_imp (pe_disp h hall hl h0 h15) lift_disp
end
end L3
/-! L3l: lcm; sorted of pairs of ints -/
namespace L3
open PySem PySem.Spec PyProof.Rows L2 PySem.W
theorem lcm_call {prog : Program} {w : World} {A : Around} {E : Value → Shared → Prop} {s : Shared} {Q : Value → Shared → Prop} {a b : Int} {t u : Tok} (ha : a.natAbs.log2 < 9000) (hb : b.natAbs.log2 < 9000)
    (h : Q (.int ((Nat.lcm a.natAbs b.natAbs : Nat) : Int) s.toks) { s with toks := s.toks + 1 }) : wpAny (model prog w) A (call (.builtin "math.lcm") [.int a t, .int b u]) Q E s := by
  have mx : ∀ x y : Nat, x.log2 < 9000 → y.log2 < 9000 → (max x y).log2 < 9000 := fun x y h k => by
    rcases Nat.le_total x y with z | z
    · rw [Nat.max_eq_right z]; exact k
    · rw [Nat.max_eq_left z]; exact h
  have h1 : (max 1 a.natAbs).log2 < 9000 := mx 1 _ (by decide) ha
  have h2 := mx _ _ ha hb
  have l1 : Nat.lcm 1 a.natAbs = a.natAbs := Nat.lcm_one_left _
  have hs : (((Nat.lcm a.natAbs b.natAbs : Nat) : Int)).natAbs.log2 < bitsLine := by
    rw [Int.natAbs_natCast]
    show _ < 134217728
    have a1 : a.natAbs < 2 ^ 9000 := by
      rcases Nat.eq_zero_or_pos a.natAbs with z | z
      · rw [z]; exact Nat.two_pow_pos _
      · exact (Nat.log2_lt (by omega)).mp ha
    have a2 : b.natAbs < 2 ^ 9000 := by
      rcases Nat.eq_zero_or_pos b.natAbs with z | z
      · rw [z]; exact Nat.two_pow_pos _
      · exact (Nat.log2_lt (by omega)).mp hb
    rcases Nat.eq_zero_or_pos (Nat.lcm a.natAbs b.natAbs) with z | z
    · rw [z]; decide
    · refine Nat.lt_of_lt_of_le ((Nat.log2_lt (k := 18000) (by omega)).mpr ?_) (by decide)
      have a3 : Nat.lcm a.natAbs b.natAbs ≤ a.natAbs * b.natAbs := by unfold Nat.lcm; exact Nat.div_le_self _ _
      have a4 : a.natAbs * b.natAbs < 2 ^ 9000 * 2 ^ 9000 := Nat.mul_lt_mul_of_lt_of_lt a1 a2
      rw [← Nat.pow_add] at a4
      exact Nat.lt_of_le_of_lt a3 a4
  have g := PySem.W.mg_run_lcm a t b u (by omega) (by omega) (by rw [l1]; exact hs)
  rw [l1] at g
  exact call_function_meets MGF.kind_lcm MGF.plain_lcm MGF.entry_lcm (MGF.args_lcm _ _) g.meets h
def bLcm : LSp := fun ds m Φ => match ds with | [.int i, .int j] => i.natAbs.log2 < 9000 ∧ j.natAbs.log2 < 9000 ∧ Φ (.int ((Nat.lcm i.natAbs j.natAbs : Nat) : Int)) m | _ => False
theorem db_lcm {X : Cx} : CallR X (.builtin "math.lcm") (liftC X.K bLcm) := by
  intro pins s σ H vs us Q I r h
  obtain ⟨G, m, ds, Φ, rm, rd, q, k⟩ := h
  unfold bLcm at q
  split at q
  · rename_i i j
    obtain ⟨v, u, rfl, h, h'⟩ := rv2 rd
    obtain rfl : v = .int i := h
    obtain rfl : u = .int j := h'
    obtain ⟨t, u, rfl⟩ := Vals.int2 r
    exact lcm_call q.1 q.2.1 ⟨.int _, H, I.tok _, ⟨_, rfl⟩, k G (.int _) m _ H (Sub.refl G) rm rfl q.2.2⟩
  · exact q.elim
/-! ### sorted of pairs -/
abbrev pairD (p : Int × Int) : D := .tup [.int p.1, .int p.2]
theorem RVs.perm {K : PySem.W.Frag} {G : Hp} : ∀ {ys xs : List V}, ys.Perm xs → ∀ {ds : List D}, RVs K G ds xs → ∃ ds', ds'.Perm ds ∧ RVs K G ds' ys := by
  intro ys xs h
  induction h with
  | nil => intro ds r; exact ⟨ds, .refl _, r⟩
  | cons x h ih =>
    intro ds r
    cases ds with
    | nil => cases r
    | cons d ds =>
      obtain ⟨y, rr, e, h1, h2⟩ := r
      cases e
      obtain ⟨ds', p, r'⟩ := ih h2
      exact ⟨d :: ds', p.cons d, _, _, rfl, h1, r'⟩
  | swap x y l =>
    intro ds r
    cases ds with
    | nil => cases r
    | cons d ds =>
      obtain ⟨y1, rr, e, h1, h2⟩ := r
      cases e
      cases ds with
      | nil => cases h2
      | cons d2 ds =>
        obtain ⟨y2, rr2, e, h3, h4⟩ := h2
        cases e
        exact ⟨d2 :: d :: ds, .swap _ _ _, _, _, rfl, h3, _, _, rfl, h1, h4⟩
  | trans h1 h2 ih1 ih2 =>
    intro ds r
    obtain ⟨d1, p1, r1⟩ := ih2 r
    obtain ⟨d2, p2, r2⟩ := ih1 r1
    exact ⟨d2, p2.trans p1, r2⟩
theorem pair_inj {p q : Int × Int} (h : pairD p = pairD q) : p = q := by
  have := D.tup.inj h
  simp only [List.cons.injEq, and_true, D.int.injEq] at this
  exact Prod.ext this.1 this.2
theorem RVs.at_mem {K : PySem.W.Frag} {G : Hp} : ∀ {ds : List D} {vs : List V}, RVs K G ds vs → ∀ v ∈ vs, ∃ d ∈ ds, RV K G d v
  | [], _, r, v, hv => by rw [show _ = [] from r] at hv; cases hv
  | d :: ds, _, ⟨x, rr, e, h1, h2⟩, v, hv => by
    subst e
    rcases List.mem_cons.mp hv with rfl | hv
    · exact ⟨d, List.mem_cons_self, h1⟩
    · obtain ⟨d', hd, r'⟩ := RVs.at_mem h2 v hv
      exact ⟨d', List.mem_cons_of_mem _ hd, r'⟩
theorem rv_pair {K : PySem.W.Frag} {G H : Hp} (e : Sub G H) {p : Int × Int} {v : V} (h : RV K G (pairD p) v) : TupI K H v [p.1, p.2] := by
  obtain ⟨a, xs, rfl, h1, h2⟩ := h
  obtain ⟨x, r, rfl, h3, y, r2, rfl, h4, h5⟩ := h2
  obtain rfl : x = .int p.1 := h3
  obtain rfl : y = .int p.2 := h4
  rw [show r2 = [] from h5] at h1
  refine ⟨a, rfl, ?_⟩
  rcases h1 with (h1 | ⟨o, h1⟩) | h1
  · exact .inl (.inl (e a _ h1))
  · exact .inl (.inr ⟨o, e a _ h1⟩)
  · exact .inr h1
/-- sorted(xs), xs pairs of ints from nought below B: a new list -/
def bSortP (B : Int) : LSp := fun ds m Φ => match ds with
  | [d] => itemsL d m fun xs => ∃ L : List (Int × Int), xs = L.map pairD ∧ L.length < 64 ∧ (∀ p ∈ L, 0 ≤ p.1 ∧ p.1 < B ∧ 0 ≤ p.2 ∧ p.2 < B) ∧
    ∀ L' : List (Int × Int), L'.Perm L → L'.Pairwise (fun p q => p.1 < q.1 ∨ (p.1 = q.1 ∧ p.2 ≤ q.2)) → ∀ a, m a = none → Φ (.ref a) (mset m a (.lst (L'.map pairD)))
  | _ => False
theorem rvs_pairwise {K : PySem.W.Frag} {G : Hp} {R : V → V → Prop} {S : D → D → Prop} (h : ∀ d e v u, RV K G d v → RV K G e u → R v u → S d e) : ∀ {ds : List D} {vs : List V}, RVs K G ds vs → vs.Pairwise R → ds.Pairwise S
  | [], _, _, _ => .nil
  | d :: ds, _, ⟨x, rr, e, h1, h2⟩, p => by
    subst e
    obtain ⟨p1, p2⟩ := List.pairwise_cons.mp p
    refine List.pairwise_cons.mpr ⟨fun e he => ?_, rvs_pairwise h h2 p2⟩
    obtain ⟨i, hi⟩ := List.getElem?_of_mem he
    obtain ⟨u, hu, ru⟩ := h2.get hi
    exact h d e x u h1 ru (p1 u (List.mem_of_getElem? hu))
theorem db_sortP {X : Cx} {B : Int} : CallR X (.builtin "sorted") (liftC X.K (bSortP B)) := call_imp (cr_sortT (d := 2) (B := B) (by decide)) fun vs H Q ⟨G, m, ds, Φ, rm, rd, q, k⟩ => by
  unfold bSortP at q
  split at q
  · rename_i d
    obtain ⟨v, rfl, rv⟩ := rv1 rd
    obtain ⟨a, es, xs, rfl, hs, rs, L, rfl, h64, hb, hq⟩ := itemsL_lift rm rv q
    have hbd : ∀ p ∈ L, TS.Bd B [p.1, p.2] := fun p hp m hm => by
      obtain ⟨b1, b2, b3, b4⟩ := hb p hp
      simp only [List.mem_cons, List.not_mem_nil, or_false] at hm
      rcases hm with rfl | rfl
      · exact ⟨b1, b2⟩
      · exact ⟨b3, b4⟩
    refine ⟨a, xs, rfl, hs, by rw [← rs.length, List.length_map]; exact h64, fun x hx => ?_, fun ys p hp ho hpn => ?_⟩
    · obtain ⟨d, hd, r⟩ := rs.at_mem x hx
      obtain ⟨p, hp, rfl⟩ := List.mem_map.mp hd
      exact ⟨[p.1, p.2], rv_pair rm.sub r, rfl, hbd p hp⟩
    · obtain ⟨ds', hp1, r'⟩ := RVs.perm hp rs
      obtain ⟨L', hL, rfl⟩ := perm_lift pairD hp1 L rfl
      have pw : (L'.map pairD).Pairwise (fun d e => ∀ p q : Int × Int, d = pairD p → e = pairD q → TS.code B [p.1, p.2] ≤ TS.code B [q.1, q.2]) :=
        rvs_pairwise (fun d e v u rv ru h p q e1 e2 => by subst e1 e2; exact h _ _ (rv_pair rm.sub rv) (rv_pair rm.sub ru)) r' ho
      have pw2 : L'.Pairwise (fun p q => p.1 < q.1 ∨ (p.1 = q.1 ∧ p.2 ≤ q.2)) := by
        rw [List.pairwise_map] at pw
        refine List.Pairwise.imp_of_mem (fun {p q} hp hq h => ?_) pw
        exact code_lex (hbd p (hL.mem_iff.mp hp)) (hbd q (hL.mem_iff.mp hq)) (h p q rfl rfl)
      exact k G (.ref p) _ _ _ (Sub.refl G) (rm.new (o := .lst (L'.map pairD)) hpn ⟨ys, rfl, r'⟩) rfl (hq L' hL pw2 p (rm.free hpn))
  · exact q.elim
end L3
/-! L3m: calls with keywords -/
namespace L3
open PySem PySem.Spec PyProof.Rows L2
def pick {α : Type} (is : List Nat) (l : List α) : List α := is.filterMap fun i => l[i]?
theorem vals_get {vs : List V} {us : List Value} (r : Vals vs us) : ∀ i : Nat, match vs[i]?, us[i]? with | some v, some u => RelV v u | none, none => True | _, _ => False := by
  induction r with
  | nil => intro i; simp
  | cons h t ih =>
    intro i
    cases i with
    | zero => exact h
    | succ i => exact ih i
theorem Vals.pick {vs : List V} {us : List Value} (r : Vals vs us) : ∀ is : List Nat, Vals (L3.pick is vs) (L3.pick is us)
  | [] => .nil
  | i :: is => by
    have h := vals_get r i
    have ih := Vals.pick r is
    unfold L3.pick at ih ⊢
    rw [List.filterMap_cons, List.filterMap_cons]
    cases e1 : vs[i]? with
    | none =>
      cases e2 : us[i]? with
      | none => exact ih
      | some u => rw [e1, e2] at h; exact h.elim
    | some v =>
      cases e2 : us[i]? with
      | none => rw [e1, e2] at h; exact h.elim
      | some u => rw [e1, e2] at h; exact .cons h ih
theorem rvs_get {K : PySem.W.Frag} {G : Hp} {ds : List D} {vs : List V} (r : RVs K G ds vs) (i : Nat) : match ds[i]?, vs[i]? with | some d, some v => RV K G d v | none, none => True | _, _ => False := by
  cases e1 : ds[i]? with
  | some d =>
    obtain ⟨v, hv, h⟩ := r.get e1
    rw [hv]; exact h
  | none =>
    have h1 := List.getElem?_eq_none_iff.mp e1
    rw [List.getElem?_eq_none (by rw [← r.length]; exact h1)]
    trivial
theorem RVs.pick {K : PySem.W.Frag} {G : Hp} {ds : List D} {vs : List V} (r : RVs K G ds vs) : ∀ is : List Nat, RVs K G (L3.pick is ds) (L3.pick is vs)
  | [] => rfl
  | i :: is => by
    have h := rvs_get r i
    have ih := RVs.pick r is
    unfold L3.pick at ih ⊢
    rw [List.filterMap_cons, List.filterMap_cons]
    cases e1 : ds[i]? with
    | none =>
      cases e2 : vs[i]? with
      | none => exact ih
      | some u => rw [e1, e2] at h; exact h.elim
    | some v =>
      cases e2 : vs[i]? with
      | none => rw [e1, e2] at h; exact h.elim
      | some u => rw [e1, e2] at h; exact RVs.cons h ih
/-- n arguments by place, then k by name: the parameters' places among them -/
def pick2 {α : Type} (n k : Nat) (is : List Nat) (us ws : List α) : List α := if us.length = n ∧ ws.length = k then pick is (us ++ ws) else []
/-- how a call with keywords binds -/
def KwB (K : PySem.W.Frag) (fd : FuncData) (ps ks : List Str) (n : Nat) (is : List Nat) : Prop := KBinds K fd ps ks (pick2 n ks.length is) (pick2 n ks.length is)
theorem kb_of {K : PySem.W.Frag} {fd : FuncData} {ps ks : List Str} {n : Nat} {is : List Nat} (hp : 0 < ps.length) (h : ∀ (us ws : List Value), us.length = n → ws.length = ks.length → bindArgs fd ⟨us, ks.zip ws⟩ = pure (ps.zip (pick is (us ++ ws)))) : KwB K fd ps ks n is := by
  refine ⟨fun s us ws _ hl => ?_, fun {vs us zs ws} r rz => ?_⟩
  · unfold pick2 at hl ⊢
    by_cases c : us.length = n ∧ ws.length = ks.length
    · rw [if_pos c] at hl ⊢
      exact .of_eq (h us ws c.1 c.2)
    · rw [if_neg c] at hl
      rw [← hl] at hp
      exact absurd hp (by simp)
  · unfold pick2
    by_cases c : us.length = n ∧ ws.length = ks.length
    · rw [if_pos c, if_pos (by rw [r.length, rz.length]; exact c)]
      exact Vals.pick (r.append rz) is
    · rw [if_neg c, if_neg (by rw [r.length, rz.length]; exact c)]
      exact .nil
section
variable {X : Cx} {k : Nat} {f : Addr} {fd : FuncData} {ps ks : List Str} {sp : LSp} {n : Nat} {is : List Nat} {x : Str} {p pos kpos : Pos} {e : Expr} {es : List Expr} {kws : List Keyword} {qe : QE} {qa qk : QA} {nm : Option Str}
theorem dk_nil : PK X [] (liftA X.K qNil) := ⟨fun pos pins s σ H Q I h => (pk_nil (X := X)).run pos pins s σ H Q I (by
  obtain ⟨G, s0, m, Φ, rm, rs, q, k⟩ := h
  exact k G [] m [] H (Sub.refl G) rm rfl q)⟩
theorem dk_cons (ha : PE X e (liftE X.K qe)) (hr : PK X kws (liftA X.K qa)) : PK X (⟨nm, e, kpos⟩ :: kws) (liftA X.K (qCons qe qa)) := ⟨fun pos pins s σ H Q I h => (pk_cons ha hr).run pos pins s σ H Q I (by
  obtain ⟨G, s0, m, Φ, rm, rs, q, k⟩ := h
  exact ⟨G, s0, m, _, rm, rs, q, fun G1 x m1 v H1 e1 r1 rx q1 => ⟨G1, s0, m1, _, r1, rs.mono e1, q1, fun G2 xs m2 vs H2 e2 r2 rxs q2 => k G2 _ m2 _ H2 (e1.trans e2) r2 (RVs.cons (RV.mono e2 x rx) rxs) q2⟩⟩)⟩
def qCallK (sp : LSp) (n k : Nat) (is : List Nat) (qa qk : QA) : QE := fun s m Φ => qa s m fun ds m1 => qk s m1 fun es m2 => (ds.length = n ∧ es.length = k) ∧ sp (pick is (ds ++ es)) m2 Φ
theorem lift_callK {K : PySem.W.Frag} {ks : List Str} : ∀ σ H Q, liftE K (qCallK sp n ks.length is qa qk) σ H Q → tCallK (liftSp K sp) (pick2 n ks.length is) E0 (liftA K qa) (liftA K qk) σ H Q := fun σ H Q ⟨G, s, m, Φ, rm, rs, q, k⟩ =>
  ⟨G, s, m, _, rm, rs, q, fun G1 ds m1 vs H1 e1 r1 rd q1 => ⟨G1, s, m1, _, r1, rs.mono e1, q1, fun G2 es m2 zs H2 e2 r2 re q2 => by
    obtain ⟨c, q2⟩ := q2
    unfold pick2
    rw [if_pos (by rw [← rd.length, ← re.length]; exact c)]
    exact ⟨G2, m2, _, Φ, r2, RVs.pick (RVs.append (RVs.mono e2 _ rd) re) is, q2, k.mono (e1.trans e2)⟩⟩⟩
theorem de_callK {kk : Nat} (F : FnOk X.prog X.w X.K X.mg X.base CX0 k f fd ps (liftSp X.K sp)) (hr : Room k X.A) (hg : Gl X x) (hm : X.mg x = some (.ref f)) (hk : PySem.W.keepIn X.K (.ref f) = true) (hb : KwB X.K fd ps ks n is)
    (ha : PA X (e :: es) (liftA X.K qa)) (hkw : PK X kws (liftA X.K qk)) (hall : (backToKw pos (keywordEach kws X.env)).all (·.1.isSome) = true := by rfl) (hks : (backToKw pos (keywordEach kws X.env)).filterMap (·.1) = ks := by rfl)
    (hdb : (x == ("__debug__" : Str)) = false := by decide) (he : starEach (e :: es) X.env = (false, eval e X.env) :: starEach es X.env := by rfl)
    (hpl : ((backTo pos (starEach (e :: es) X.env)).any (·.1) || (backToKw pos (keywordEach kws X.env)).any (·.1.isNone)) = false := by rfl)
    (hkk : ks.length = kk := by rfl) : PE X (.Call (.Name x p) (e :: es) kws pos) (liftE X.K (qCallK sp n kk is qa qk)) := by
  subst hkk
  exact pe_imp (pe_callK F hr hg hm hk hb pass0 ha hkw hall hks hdb he hpl) lift_callK
/-- f(k = v, ..) -/
theorem de_callK0 {kk : Nat} (F : FnOk X.prog X.w X.K X.mg X.base CX0 k f fd ps (liftSp X.K sp)) (hr : Room k X.A) (hg : Gl X x) (hm : X.mg x = some (.ref f)) (hk : PySem.W.keepIn X.K (.ref f) = true) (hb : KwB X.K fd ps ks n is)
    (hkw : PK X kws (liftA X.K qk)) (hall : (backToKw pos (keywordEach kws X.env)).all (·.1.isSome) = true := by rfl) (hks : (backToKw pos (keywordEach kws X.env)).filterMap (·.1) = ks := by rfl)
    (hdb : (x == ("__debug__" : Str)) = false := by decide)
    (hpl : ((backTo pos (starEach [] X.env)).any (·.1) || (backToKw pos (keywordEach kws X.env)).any (·.1.isNone)) = false := by rfl)
    (hkk : ks.length = kk := by rfl) : PE X (.Call (.Name x p) [] kws pos) (liftE X.K (qCallK sp n kk is qNil qk)) := by
  subst hkk
  refine ⟨fun pins s σ H Q I h => ?_⟩
  obtain ⟨G, s0, m, Φ, rm, rs, q, k0⟩ := h
  refine wpAny_Call_Name_kw (ld_glob I hg hm ?_ hdb)
  refine PySem.W.callWith_KW0 (h₀ := X.base) I.ok.mod.kin hk hall ?_ hpl
  refine thn (hkw.run pos pins s σ H _ I ⟨G, s0, m, _, rm, rs, q, fun G2 es m2 zs H2 e2 r2 re q2 => (by
    obtain ⟨c, q2⟩ := q2
    unfold pick2
    rw [if_pos (by rw [← re.length]; exact c)]
    exact ⟨G2, m2, _, Φ, r2, RVs.pick re is, q2, k0.mono e2⟩ : liftSp X.K sp (pick2 n ks.length is [] zs) H2 Q E0)⟩) fun ws s2 ⟨zs, H2, I2, rz, q2⟩ => ⟨I2.kIn, ?_⟩
  rw [hks]
  exact run_fnk F hr hb pass0 I2 .nil rz q2
end
end L3
/-! L3n: defs with default values -/
namespace L3
open PySem PySem.Spec PyProof.Rows L2
section
variable {P : Program} {w : World} {K : PySem.W.Frag} {mg : Str → Option Value} {base : Heap}
abbrev FunT (K : PySem.W.Frag) (x qual : Str) (st : Stmt) (dvs : List V) (f : Addr) (fd : FuncData) : Prop := FunD K x qual (defArgs st) (defBody st) (defScope st) dvs [] f fd
theorem fnoD_ofW {x qual : Str} {st : Stmt} {f : Addr} {fd : FuncData} {dvs : List V} {N ps : List Str} {k : Nat} {sp : LSp} {qb : QS} (F : FunT K x qual st dvs f fd) (S : FnScope N ps (defScope st)) (len : ∀ ds m Φ, sp ds m Φ → ds.length = ps.length)
    (hd : ∀ (cdv : Value) (A : Around) (outer : List Env) (s : Shared) (H : Hp) (E : XK), Room k (A.deeper (envOfC qual (defScope st) s.heap.objs.size f cdv)) → PSs (cxB P w K mg base N qual st f cdv A outer s H E) (defBody st) (liftS K qb))
    (h : ∀ ds m Φ, sp ds m Φ → qb (bodyW Φ) (begin_ N.length ds) m) : FnOk P w K mg base CX0 (k + 1) f fd ps (liftSp K sp) := by
  refine FunD.ok F S (fun vs H Q E hs => ?_) (fun cdv A outer s H vs Q E hr hs => ⟨liftS K qb, (hd cdv A outer s H E hr).nox, body_liftW h hs⟩)
  obtain ⟨G, m, ds, Φ, rm, rd, q, k⟩ := hs
  rw [← rd.length]; exact len ds m Φ q
/-- called with fewer arguments: the defaults behind -/
theorem fnr_dfl {f : Addr} {fd : FuncData} {ps : List Str} {k : Nat} {sp : LSp} {dds : List D} {dvs : List V} {dv : List Value} (F1 : FnOk P w K mg base CX0 k f fd ps (liftSp K sp)) (hb : Binds K fd ps dv) (r2 : Vals dvs dv) (rd2 : ∀ G, RVs K G dds dvs) :
    FnD P w K mg base k f (fun ds m Φ => sp (ds ++ dds) m Φ) := by
  intro A outer s H us vs Q E hr e0 r hs
  obtain ⟨G, m, ds, Φ, rm, rd, q, k⟩ := hs
  have hs' : liftSp K sp (vs ++ dvs) H Q E := ⟨G, m, ds ++ dds, Φ, rm, RVs.append rd (rd2 G), q, k⟩
  have hl := F1.len _ H Q E hs'
  exact F1.run A outer s H ⟨us, []⟩ (us ++ dv) (vs ++ dvs) Q E hr e0 (hb s us (e0.mod.kin.keeps fun b o z => (e0.bs b o z).1) (by rw [← (r.append r2).length]; exact hl)) (r.append r2) hs'
theorem fund_mk {x qual : Str} {st : Stmt} {f T : Addr} {oc : Value} {od an ot : Option Addr} {osl tsl : Array (Option Value)} {kV doc pm cdv ct : Value} {dvs : List V} {its : List Value} {n : Nat}
    (l : K.lookup f = some ⟨oc, od, .func (PySem.W.fnOf x qual (defArgs st) (defBody st) (defScope st) (.ref T) kV doc pm an cdv ct), osl⟩) (lT : K.lookup T = some ⟨.type "tuple", ot, .seq its.toArray n, tsl⟩) (hv : Vals dvs its) (hn : dvs ≠ [])
    (c : PySem.W.codeIn K cdv qual = true) (k : PySem.W.keepIn K (.ref f) = true) : FunT K x qual st dvs f (PySem.W.fnOf x qual (defArgs st) (defBody st) (defScope st) (.ref T) kV doc pm an cdv ct) :=
  ⟨⟨oc, od, .ref T, kV, doc, pm, an, cdv, ct, osl, rfl, l, c, .inr ⟨hn, T, _, its, n, rfl, lT, rfl, hv⟩, .inl rfl⟩, k⟩
/-- all arguments are given -/
theorem FunT.all {x qual : Str} {st : Stmt} {f : Addr} {fd : FuncData} {dvs : List V} {ps : List Str} (F : FunT K x qual st dvs f fd) (hd : dvs ≠ [])
    (h : ∀ (T : Addr) (kV doc pm : Value) (an : Option Addr) (cdv ct : Value) (us its : List Value), us.length = ps.length → its.length = dvs.length →
      ∃ k, bindArgs (PySem.W.fnOf x qual (defArgs st) (defBody st) (defScope st) (.ref T) kV doc pm an cdv ct) ⟨us, []⟩ = seqItems? (.ref T) >>= k ∧ k (some its.toArray) = pure (ps.zip us)) : Binds K fd ps [] := by
  obtain ⟨ds, r, b⟩ := FunD.binds1 (ps := ps) F ps.length dvs.length hd (by omega) fun T kV doc pm an cdv ct us its h1 h2 => by
    obtain ⟨k, e1, e2⟩ := h T kV doc pm an cdv ct us its h1 h2
    refine ⟨k, e1, ?_⟩
    rw [e2, List.drop_eq_nil_of_le (by omega), List.append_nil]
  rw [List.drop_eq_nil_of_le (Nat.le_refl _)] at r
  cases r
  exact b
end
/-! ### a list or a tuple -/
def ItemsAt (w : D) (m : Mem) (xs : List D) : Prop := w = .lst xs ∨ w = .tup xs ∨ ∃ a, w = .ref a ∧ m a = some (.lst xs)
def LItems (w : D) (m : Mem) (xs : List D) : Prop := w = .lst xs ∨ ∃ a, w = .ref a ∧ m a = some (.lst xs)
theorem LItems.to {w : D} {m : Mem} {xs : List D} (h : LItems w m xs) : ItemsAt w m xs := h.elim .inl fun h => .inr (.inr h)
theorem ItemsAt.new {w : D} {m : Mem} {xs : List D} (h : ItemsAt w m xs) {a : Addr} {o : AO} (ha : m a = none) : ItemsAt w (mset m a o) xs := by
  rcases h with h | h | ⟨b, h, e⟩
  · exact .inl h
  · exact .inr (.inl h)
  · exact .inr (.inr ⟨b, h, by rw [mset_ne fun z => by subst z; rw [e] at ha; cases ha]; exact e⟩)
theorem LItems.new {w : D} {m : Mem} {xs : List D} (h : LItems w m xs) {a : Addr} {o : AO} (ha : m a = none) : LItems w (mset m a o) xs := by
  rcases h with h | ⟨b, h, e⟩
  · exact .inl h
  · exact .inr ⟨b, h, by rw [mset_ne fun z => by subst z; rw [e] at ha; cases ha]; exact e⟩
def iSeq (qe : QE) : QI := fun s m Φ => iLst qe s m Φ ∨ iTup qe s m Φ
theorem di_seq {X : Cx} {tg e : Expr} {qe : QE} (h : PE X e (liftE X.K qe)) : PI X tg e (liftI X.K (iSeq qe)) := ⟨fun pins s σ H R I h1 => by
  obtain ⟨G, s0, m, Φ, rm, rs, q, k⟩ := h1
  rcases q with q | q
  · exact (di_lst h).run pins s σ H R I ⟨G, s0, m, Φ, rm, rs, q, k⟩
  · exact (di_tup h).run pins s σ H R I ⟨G, s0, m, Φ, rm, rs, q, k⟩⟩
theorem iseq_var {i : Nat} {s : DSt} {m : Mem} {w : D} {xs : List D} {Φ : List D → (Mem → Prop) → Mem → Prop} (h : look s i = some w) (hi : ItemsAt w m xs) (k : ∀ C : Mem → Prop, (∀ m', ItemsAt w m' xs → C m') → Φ xs C m) : iSeq (qVar i) s m Φ := by
  rcases hi with rfl | rfl | ⟨a, rfl, e⟩
  · refine .inl ?_
    show match look s i with | some x => _ | none => False
    rw [h]
    exact k _ fun _ _ => trivial
  · refine .inr ?_
    show match look s i with | some x => _ | none => False
    rw [h]
    exact k _ fun _ _ => trivial
  · refine .inl ?_
    show match look s i with | some x => _ | none => False
    rw [h]
    refine ⟨xs, e, k _ fun m' h' => ?_⟩
    rcases h' with h' | h' | ⟨b, h', e'⟩
    · cases h'
    · cases h'
    · cases h'; exact e'
theorem ilst_var {i : Nat} {s : DSt} {m : Mem} {w : D} {xs : List D} {Φ : List D → (Mem → Prop) → Mem → Prop} (h : look s i = some w) (hi : LItems w m xs) (k : ∀ C : Mem → Prop, (∀ m', LItems w m' xs → C m') → Φ xs C m) : iLst (qVar i) s m Φ := by
  rcases hi with rfl | ⟨a, rfl, e⟩
  · show match look s i with | some x => _ | none => False
    rw [h]
    exact k _ fun _ _ => trivial
  · show match look s i with | some x => _ | none => False
    rw [h]
    refine ⟨xs, e, k _ fun m' h' => ?_⟩
    rcases h' with h' | ⟨b, h', e'⟩
    · cases h'
    · cases h'; exact e'
theorem vix_items {w : D} {m : Mem} {xs : List D} {i : Int} {d : D} {Φ : DK} (h : ItemsAt w m xs) (e : atI xs i = some d) (k : Φ d m) : vIx w (.int i) m Φ := by
  rcases h with rfl | rfl | ⟨a, rfl, e'⟩
  · exact ⟨d, e, k⟩
  · exact ⟨d, e, k⟩
  · exact .inl ⟨xs, i, d, rfl, e', e, k⟩
theorem blen_items {w : D} {m : Mem} {xs : List D} {Φ : DK} (h : ItemsAt w m xs) (k : Φ (.int xs.length) m) : bLen [w] m Φ := by
  rcases h with rfl | rfl | ⟨a, rfl, e'⟩
  · exact k
  · exact k
  · exact .inl ⟨xs, e', k⟩
/-- a comprehension that reads and changes nothing -/
theorem lc_pure {α : Type} {p : Pat} {qt : QT} {qe : QE} {s1 : DSt} {C : Mem → Prop} {m1 : Mem} {Φ : DK} (l : List α) (dOf : α → D) (t : α → Bool) (g : α → D) (hl : l.length < sizeLine) (hC : ∀ a o, m1 a = none → C (mset m1 a o))
    (hs : ∀ (i : Nat) (x : α), l[i]? = some x → ∀ (a : Addr) (o : AO), m1 a = none → match asg p (dOf x) s1 with
      | some s2 => (∀ Q : Bool → Mem → Prop, Q (t x) (mset m1 a o) → qt s2 (mset m1 a o) Q) ∧ (t x = true → ∀ Q : DK, Q (g x) (mset m1 a o) → qe s2 (mset m1 a o) Q)
      | none => False)
    (hd : ∀ a, m1 a = none → Φ (.ref a) (mset m1 a (.lst ((l.filter t).map g)))) : LcIn p qt qe s1 (l.map dOf) C m1 Φ := by
  have take_more : ∀ {l : List α} {i : Nat} {x : α}, l[i]? = some x → l.take (i + 1) = l.take i ++ [x] := by
    intro l i x h
    obtain ⟨hi, rfl⟩ := List.getElem?_eq_some_iff.mp h
    rw [List.take_succ_eq_append_getElem hi]
  refine lc_by (fun i acc => acc = ((l.take i).filter t).map g) rfl hC ?_ ?_
  · intro i d acc a ha hd' hle hP
    rw [List.getElem?_map] at hd'
    cases hx : l[i]? with
    | none => rw [hx] at hd'; cases hd'
    | some x =>
      rw [hx] at hd'
      cases hd'
      have hi : i < l.length := (List.getElem?_eq_some_iff.mp hx).1
      have h := hs i x hx a (.lst acc) ha
      cases e : asg p (dOf x) s1 with
      | none => rw [e] at h; exact h
      | some s2 =>
        rw [e] at h
        refine h.1 _ (qif (fun ht => ?_) (fun ht => ?_))
        · refine h.2 ht _ (lc_ok hle (by omega) ?_)
          rw [take_more hx, List.filter_append, List.map_append, hP]
          simp [ht]
        · refine lc_skip hle ?_
          rw [take_more hx, List.filter_append, List.map_append, hP]
          simp [ht]
  · intro acc a ha _ hP
    rw [List.length_map, List.take_of_length_le (Nat.le_refl _)] at hP
    subst hP
    exact hd a ha
theorem filter_yes {α : Type} (l : List α) : l.filter (fun _ => true) = l := List.filter_eq_self.mpr fun _ _ => rfl
/-- the same without a test, frozen -/
theorem lc_pureF {α : Type} {p : Pat} {qe : QE} {s1 : DSt} {C : Mem → Prop} {m1 : Mem} {Φ : DK} (l : List α) (dOf : α → D) (g : α → D) (hl : l.length < sizeLine) (hC : ∀ a o, m1 a = none → C (mset m1 a o))
    (hs : ∀ (i : Nat) (x : α), l[i]? = some x → ∀ (a : Addr) (o : AO), m1 a = none → match asg p (dOf x) s1 with
      | some s2 => ∀ Q : DK, Q (g x) (mset m1 a o) → qe s2 (mset m1 a o) Q
      | none => False)
    (hd : Φ (.lst (l.map g)) m1) : LcIn p qYes qe s1 (l.map dOf) C m1 (fun d m2 => match d with
      | .ref a => ∃ ds, m2 a = some (.lst ds) ∧ Φ (.lst ds) (mdel m2 a)
      | _ => False) := lc_pure l dOf (fun _ => true) g hl hC (fun i x hx a o ha => by
    have h := hs i x hx a o ha
    cases e : asg p (dOf x) s1 with
    | none => rw [e] at h; exact h
    | some s2 => rw [e] at h; exact ⟨fun Q q => q, fun _ => h⟩) fun a ha => by
  rw [filter_yes]
  exact fz_done ha hd
end L3
/-! L4a: plain mathematics of amounts, sums, tables -/
namespace L4
open PySem PySem.Spec PyProof.Rows L2 L3
open Rat (divInt)
theorem dec_t {p : Prop} [Decidable p] (h : decide p = true) : p := of_decide_eq_true h
theorem dec_f {p : Prop} [Decidable p] (h : decide p = false) : ¬ p := of_decide_eq_false h
theorem cm_r {i j : Int} (h : 0 ≤ j) (h2 : j < 2 ^ 62) : CM i j := .inl (.inr ⟨by omega, by omega⟩)
theorem cm_l {i j : Int} (h : 0 ≤ i) (h2 : i < 2 ^ 62) : CM i j := .inl (.inl ⟨by omega, by omega⟩)
theorem cm_b {i j : Int} (h : i.natAbs.log2 < 9000) (h2 : j.natAbs.log2 < 9000) : CM i j := .inr (show _ < 1000000 by omega)
theorem log2_le {a b : Nat} (h : a ≤ b) : a.log2 ≤ b.log2 := by
  rcases Nat.eq_zero_or_pos a with z | z
  · subst z; simp
  · exact (Nat.le_log2 (by omega)).mpr (Nat.le_trans (Nat.log2_self_le (by omega)) h)
theorem log2_mul (a b : Nat) : (a * b).log2 ≤ a.log2 + b.log2 + 1 := by
  rcases Nat.eq_zero_or_pos (a * b) with z | z
  · rw [z]; simp
  · have ha : a ≠ 0 := fun e => by subst e; simp at z
    have hb : b ≠ 0 := fun e => by subst e; simp at z
    have h1 : a < 2 ^ (a.log2 + 1) := (Nat.log2_lt ha).mp (by omega)
    have h2 : b < 2 ^ (b.log2 + 1) := (Nat.log2_lt hb).mp (by omega)
    have h3 : a * b < 2 ^ (a.log2 + 1) * 2 ^ (b.log2 + 1) := Nat.mul_lt_mul_of_lt_of_lt h1 h2
    rw [← Nat.pow_add] at h3
    have := (Nat.log2_lt (by omega)).mpr h3
    omega
theorem log2_small {a : Nat} {k : Nat} (h : a < 2 ^ k) (hk : 0 < k) : a.log2 < k := by
  rcases Nat.eq_zero_or_pos a with z | z
  · subst z; simpa using hk
  · exact (Nat.log2_lt (by omega)).mpr h
theorem cd_of {i j : Int} (h : 0 < j) (h2 : j.natAbs.log2 < 9000) : CDivW i j := ⟨h, h2⟩
theorem cd_le {i g b : Int} (h : 0 < g) (h1 : g ≤ b) (h2 : b.natAbs.log2 < 9000) : CDivW i g := ⟨h, Nat.lt_of_le_of_lt (log2_le (by omega)) h2⟩
theorem cd_s {i j : Int} (h : 0 < j) (h2 : j < 2 ^ 62) : CDivW i j := ⟨h, by
  have := log2_small (a := j.natAbs) (k := 62) (by omega) (by decide)
  omega⟩
/-! ### bounded amounts -/
def Bg (q : Rat) : Prop := q.num.natAbs.log2 < 4000 ∧ q.den.log2 < 4000
/-- not below nought, at most M, the denominator divides N -/
structure Okb (N M : Nat) (q : Rat) : Prop where
  nn : 0 ≤ q
  le : q ≤ (M : Rat)
  dn : Dn N q
theorem Okb.bg {N M : Nat} {q : Rat} (h : Okb N M q) (h0 : 0 < N) (h1 : N.log2 < 1900) (h2 : M.log2 < 2000) : Bg q := by
  have hd : q.den ≤ N := h.dn.le h0
  have h3 : q.num * 1 ≤ (M : Int) * q.den := by
    have := (am_le q (M : Rat)).mp h.le
    rw [Rat.den_natCast, Rat.num_natCast] at this
    exact this
  have h4 : 0 ≤ q.num := am_nonneg.mp h.nn
  have h5 : q.num.natAbs ≤ M * N := by
    have h6 : ((q.num.natAbs : Nat) : Int) = q.num := by omega
    have h7 : (M : Int) * q.den ≤ (M : Int) * N := Int.mul_le_mul_of_nonneg_left (by omega) (by omega)
    have h8 : ((q.num.natAbs : Nat) : Int) ≤ ((M * N : Nat) : Int) := by rw [h6, Int.natCast_mul]; omega
    omega
  have a1 := log2_le h5
  have a2 := log2_mul M N
  have a3 := log2_le hd
  exact ⟨by omega, by omega⟩
theorem Okb.zero (N M : Nat) : Okb N M 0 := ⟨Rat.le_refl, by exact Rat.natCast_nonneg, Dn.zero N⟩
theorem Okb.add {N M M' : Nat} {p q : Rat} (h : Okb N M p) (k : Okb N M' q) : Okb N (M + M') (p + q) := by
  have h1 := h.nn; have h2 := k.nn; have h3 := h.le; have h4 := k.le
  exact ⟨by grind, by rw [Rat.natCast_add]; grind, h.dn.add k.dn⟩
theorem natCast_mono {M M' : Nat} (e : M ≤ M') : (M : Rat) ≤ (M' : Rat) := by
  have := Rat.intCast_le_intCast.mpr (show (M : Int) ≤ (M' : Int) by omega)
  rwa [Rat.intCast_natCast, Rat.intCast_natCast] at this
theorem Okb.up {N M M' : Nat} {q : Rat} (h : Okb N M q) (e : M ≤ M') : Okb N M' q := ⟨h.nn, Rat.le_trans h.le (natCast_mono e), h.dn⟩
theorem Okb.wide {N M : Nat} {q : Rat} (h : Okb N M q) (k : Nat) : Okb (N * k) M q := ⟨h.nn, h.le, h.dn.mono k⟩
theorem Okb.less {N M : Nat} {p q : Rat} (h : Okb N M p) (h0 : 0 ≤ q) (h1 : q ≤ p) (hd : Dn N q) : Okb N M q := ⟨h0, Rat.le_trans h1 h.le, hd⟩
theorem divInt_nn {t b : Int} (h : 0 ≤ t) (hb : 0 < b) : 0 ≤ divInt t b := by
  rw [am_nonneg, Rat.num_divInt, Int.sign_eq_one_of_pos hb, Int.one_mul]
  exact Int.ediv_nonneg h (by omega)
theorem divInt_le {t b M : Int} (hb : 0 < b) (h : t ≤ M * b) : divInt t b ≤ (M : Rat) := by
  rw [Rat.divInt_eq_div]
  have h1 : (0 : Rat) < (b : Rat) := by have := Rat.intCast_lt_intCast.mpr hb; exact this
  have h2 : (t : Rat) ≤ (M : Rat) * (b : Rat) := by rw [← Rat.intCast_mul]; exact Rat.intCast_le_intCast.mpr h
  refine Rat.le_of_mul_le_mul_right (c := (b : Rat)) ?_ h1
  have h3 : (b : Rat) ≠ 0 := by grind
  have h4 : (t : Rat) / (b : Rat) * (b : Rat) = t := by grind
  rw [h4]; exact h2
theorem den_abs (q : Rat) : ((q.den : Int)).natAbs = q.den := Int.natAbs_natCast _
theorem cm_nd {p q : Rat} (h : Bg p) (k : Bg q) : CM p.num (q.den : Int) := cm_b (by have := h.1; omega) (by rw [den_abs]; have := k.2; omega)
theorem cm_dd {p q : Rat} (h : Bg p) (k : Bg q) : CM (p.den : Int) (q.den : Int) := cm_b (by rw [den_abs]; have := h.2; omega) (by rw [den_abs]; have := k.2; omega)
theorem den_mul_pos (p q : Rat) : 0 < (p.den : Int) * (q.den : Int) := Int.mul_pos (den_pos p) (den_pos q)
theorem dd_log {p q : Rat} (h : Bg p) (k : Bg q) : ((p.den : Int) * (q.den : Int)).natAbs.log2 < 9000 := by
  rw [Int.natAbs_mul, den_abs, den_abs]
  have := log2_mul p.den q.den
  have := h.2; have := k.2; omega
theorem am0 : am 0 = .tup [.int 0, .int 1] := rfl
theorem am1 (n : Int) : am (n : Rat) = .tup [.int n, .int 1] := by unfold am; rw [Rat.num_intCast, Rat.den_intCast]; rfl
theorem am_eq (p q : Rat) : p = q ↔ p.num * q.den = q.num * p.den := by
  constructor
  · rintro rfl; rfl
  · intro h
    exact Rat.le_antisymm ((am_le p q).mpr (by omega)) ((am_le q p).mpr (by omega))
theorem am_inj {p q : Rat} (h : am p = am q) : p = q := by
  unfold am at h
  have h1 := (D.tup.inj h)
  simp only [List.cons.injEq, and_true, D.int.injEq] at h1
  exact Rat.ext h1.1 (by omega)
/-- what is left -/
def rest (p q : Rat) : Rat := if q ≤ p then p - q else 0
theorem rest_eq (p q : Rat) : divInt (if 0 > p.num * q.den - q.num * p.den then 0 else p.num * q.den - q.num * p.den) (p.den * q.den) = rest p q := by
  unfold rest
  by_cases h : q ≤ p
  · rw [if_pos h, if_neg (by have := (am_le q p).mp h; omega), am_sub]
  · have h' : p < q := Rat.not_le.mp h
    rw [if_neg h, if_pos (by have := (am_lt p q).mp h'; omega), Rat.zero_divInt]
theorem rest_nn (p q : Rat) : 0 ≤ rest p q := by
  unfold rest
  split
  · rename_i h; grind
  · exact Rat.le_refl
theorem rest_le {p q : Rat} (h : 0 ≤ p) (k : 0 ≤ q) : rest p q ≤ p := by
  unfold rest
  split <;> grind
theorem rest_pos {p q : Rat} (h : q ≤ p) : rest p q = p - q := if_pos h
theorem rest_dn {N : Nat} {p q : Rat} (h : Dn N p) (k : Dn N q) : Dn N (rest p q) := by
  unfold rest
  split
  · exact h.sub k
  · exact Dn.zero N
theorem rest_ok {N M : Nat} {p q : Rat} (h : Okb N M p) (k0 : 0 ≤ q) (kd : Dn N q) : Okb N M (rest p q) := h.less (rest_nn p q) (rest_le h.nn k0) (rest_dn h.dn kd)
def mn (p q : Rat) : Rat := if q < p then q else p
def mx (p q : Rat) : Rat := if p < q then q else p
theorem mx_le {p q r : Rat} (h : p ≤ r) (k : q ≤ r) : mx p q ≤ r := by unfold mx; split <;> assumption
theorem mx_bg {p q : Rat} (h : Bg p) (k : Bg q) : Bg (mx p q) := by unfold mx; split <;> assumption
theorem mn_bg {p q : Rat} (h : Bg p) (k : Bg q) : Bg (mn p q) := by unfold mn; split <;> assumption
theorem mx_ok {N M : Nat} {p q : Rat} (h : Okb N M p) (k : Okb N M q) : Okb N M (mx p q) := by unfold mx; split <;> assumption
theorem mn_ok {N M : Nat} {p q : Rat} (h : Okb N M p) (k : Okb N M q) : Okb N M (mn p q) := by unfold mn; split <;> assumption
def total : List Rat → Rat
  | [] => 0
  | q :: r => q + total r
theorem total_app (a b : List Rat) : total (a ++ b) = total a + total b := by
  induction a with
  | nil => show total b = 0 + total b; rw [Rat.zero_add]
  | cons x a ih => show x + total (a ++ b) = x + total a + total b; rw [ih, Rat.add_assoc]
theorem total_ok {N M : Nat} : ∀ {l : List Rat}, (∀ q ∈ l, Okb N M q) → Okb N (l.length * M) (total l)
  | [], _ => Okb.zero N _
  | q :: l, h => by
    have := (h q List.mem_cons_self).add (total_ok (l := l) fun x hx => h x (List.mem_cons_of_mem _ hx))
    have e : (q :: l).length * M = M + l.length * M := by rw [List.length_cons, Nat.succ_mul]; omega
    rw [e]; exact this
theorem take_more {α : Type} : ∀ {l : List α} {i : Nat} {x : α}, l[i]? = some x → l.take (i + 1) = l.take i ++ [x]
  | [], i, x, h => by simp at h
  | a :: l, 0, x, h => by
    have e : a = x := Option.some.inj h
    subst e
    rfl
  | a :: l, i + 1, x, h => by
    have ih := take_more (l := l) (i := i) (x := x) h
    show a :: l.take (i + 1) = a :: l.take i ++ [x]
    rw [ih]
    rfl
theorem total_more {l : List Rat} {i : Nat} {q : Rat} (h : l[i]? = some q) : total (l.take (i + 1)) = total (l.take i) + q := by
  rw [take_more h, total_app]
  show _ + (q + 0) = _
  rw [Rat.add_zero]
theorem get_map {α β : Type} {f : α → β} {l : List α} {i : Nat} {y : β} (h : (l.map f)[i]? = some y) : ∃ x, l[i]? = some x ∧ f x = y := by
  rw [List.getElem?_map] at h
  cases e : l[i]? with
  | none => rw [e] at h; cases h
  | some x => rw [e] at h; exact ⟨x, rfl, Option.some.inj h⟩
theorem get_ints {lo : Int} {n i : Nat} {d : D} (h : (intsD lo n)[i]? = some d) : i < n ∧ d = .int (lo + i) := by
  obtain ⟨j, hj, rfl⟩ := get_map h
  have hi := (List.getElem?_eq_some_iff.mp hj).1
  rw [List.length_range] at hi
  rw [List.getElem?_range hi] at hj
  cases hj
  exact ⟨hi, rfl⟩
theorem ints_len {lo : Int} {n : Nat} : (intsD lo n).length = n := by unfold intsD; rw [List.length_map, List.length_range]
theorem atI_in {α : Type} (xs : List α) {d : Int} (h0 : 0 ≤ d) (h1 : d < xs.length) : ∃ x ∈ xs, atI xs d = some x := by
  obtain ⟨j, rfl⟩ : ∃ j : Nat, d = j := ⟨d.toNat, by omega⟩
  have hj : j < xs.length := by omega
  exact ⟨xs[j], List.getElem_mem hj, atI_nat (List.getElem?_eq_getElem hj)⟩
theorem plus_same {t b : Int} {q : Rat} (e : (q.den : Int) = b) (hb : 0 < b) : divInt (t + q.num) b = divInt t b + q := by
  conv => rhs; rw [← divInt_num_den q]
  rw [e, Rat.divInt_add_divInt _ _ (by omega) (by omega), ← Int.add_mul, Rat.divInt_mul_right (by omega)]
theorem plus_else {t : Int} {bn : Nat} {q : Rat} (hb : 0 < bn) : divInt (t * ((q.den / Nat.gcd bn q.den : Nat) : Int) + q.num * ((bn / Nat.gcd bn q.den : Nat) : Int)) ((bn / Nat.gcd bn q.den * q.den : Nat) : Int) = divInt t bn + q := by
  have hg : 0 < Nat.gcd bn q.den := Nat.gcd_pos_of_pos_left _ hb
  obtain ⟨b', hb'⟩ := Nat.gcd_dvd_left bn q.den
  obtain ⟨p', hp'⟩ := Nat.gcd_dvd_right bn q.den
  generalize hgg : Nat.gcd bn q.den = g at *
  have e1 : bn / g = b' := by rw [hb', Nat.mul_div_cancel_left _ hg]
  have e2 : q.den / g = p' := by rw [hp', Nat.mul_div_cancel_left _ hg]
  have hb0 : 0 < b' := by
    rcases Nat.eq_zero_or_pos b' with z | z
    · subst z; omega
    · exact z
  rw [e1, e2]
  conv => rhs; rw [← divInt_num_den q]
  rw [Rat.divInt_add_divInt _ _ (by omega) (den_ne q)]
  have hd := den_pos q
  rw [Rat.divInt_eq_divInt_iff (by have := Nat.mul_pos hb0 q.den_pos; omega) (by have := Int.mul_pos (show (0 : Int) < bn by omega) hd; omega)]
  have h3 : (bn : Int) = g * b' := by rw [← Int.natCast_mul, ← hb']
  have h4 : (q.den : Int) = g * p' := by rw [← Int.natCast_mul, ← hp']
  rw [Int.natCast_mul, h3, h4]
  grind
/-! ### the memory -/
theorem ne_none {m : Mem} {a b : Addr} {o : AO} (h : m a = some o) (k : m b = none) : a ≠ b := fun e => by subst e; rw [h] at k; cases k
theorem ne_obj {m : Mem} {a b : Addr} {o u : AO} (h : m a = some o) (k : m b = some u) (d : o ≠ u) : a ≠ b := fun e => by subst e; rw [h] at k; exact d (Option.some.inj k)
theorem mset_none {m : Mem} {a b : Addr} {o : AO} (h : mset m a o b = none) : b ≠ a ∧ m b = none := by
  by_cases e : b = a
  · subst e; rw [mset_same] at h; cases h
  · rw [mset_ne e] at h; exact ⟨e, h⟩
/-- all that stood stands, but for what P tells -/
def Keeps (m m' : Mem) (P : Addr → Prop) : Prop := ∀ a o, ¬ P a → m a = some o → m' a = some o
abbrev Grows (m m' : Mem) : Prop := Keeps m m' (fun _ => False)
theorem Keeps.refl (m : Mem) : Grows m m := fun _ _ _ e => e
theorem Keeps.le {m m' : Mem} (k : Grows m m') : MLe m' m := fun a o e => ⟨o, k a o id e, .inl rfl⟩
theorem Keeps.at {m m' : Mem} (k : Grows m m') {a : Addr} {o : AO} (e : m a = some o) : m' a = some o := k a o id e
theorem Keeps.new {m m' : Mem} (k : Grows m m') {p : Addr} {o : AO} (h : m' p = none) : Grows m (mset m' p o) := fun a u _ e => by rw [mset_ne (ne_none (k.at e) h)]; exact k.at e
theorem Keeps.trans {m m' m2 : Mem} (k : Grows m m') (k' : Grows m' m2) : Grows m m2 := fun a u _ e => k'.at (k.at e)
theorem lock_back {m : Mem} {d : Addr} {ks : List (Key × D)} (h : m d = some (.dK ks)) : mset (mset m d (.fz ks)) d (.dK ks) = m := by rw [mset_mset, mset_id h]
theorem lock_lst {m : Mem} {d a : Addr} {ks : List (Key × D)} {F L : AO} (h : m d = some (.dK ks)) (ha : m a = none) (had : a ≠ d) : mdel (mset (mset (mset m d F) a L) d (.dK ks)) a = m := by
  funext b
  by_cases hb : b = a
  · subst hb; rw [mdel_same, ha]
  · rw [mdel_ne hb]
    by_cases hd : b = d
    · subst hd; rw [mset_same, h]
    · rw [mset_ne hd, mset_ne hb, mset_ne hd]
/-! ### tables of amounts by ticks -/
abbrev Tab := List (Int × Rat)
def tabD (t : Tab) : List (Key × D) := t.map fun p => (Sum.inl p.1, am p.2)
def inW (lo hi : Int) (p : Int × Rat) : Bool := decide (lo < p.1) && decide (p.1 < hi)
def taken (t : Tab) (lo hi : Int) : Rat := total ((t.filter (inW lo hi)).map (·.2))
def putT (t : Tab) (k : Int) (q : Rat) : Tab := if (t.any fun p => decide (p.1 = k)) = true then t.map (fun p => if p.1 = k then (p.1, q) else p) else t ++ [(k, q)]
theorem tab_put (t : Tab) (k : Int) (q : Rat) : putD (tabD t) (Sum.inl k : Key) (am q) = tabD (putT t k q) := by
  unfold putD putT
  have e : ((tabD t).any fun kv => decide (kv.1 = (Sum.inl k : Key))) = t.any fun p => decide (p.1 = k) := by
    unfold tabD
    rw [List.any_map]
    congr 1
    funext p
    show decide ((Sum.inl p.1 : Key) = Sum.inl k) = decide (p.1 = k)
    simp
  rw [e]
  by_cases h : (t.any fun p => decide (p.1 = k)) = true
  · rw [if_pos h, if_pos h]
    unfold tabD
    rw [List.map_map, List.map_map]
    congr 1
    funext p
    show (if (Sum.inl p.1 : Key) = Sum.inl k then ((Sum.inl p.1 : Key), am q) else (Sum.inl p.1, am p.2)) = _
    show _ = ((Sum.inl (if p.1 = k then (p.1, q) else p).1 : Key), am (if p.1 = k then (p.1, q) else p).2)
    by_cases z : p.1 = k
    · rw [if_pos (by rw [z]), if_pos z]
    · rw [if_neg (fun w => z (Sum.inl.inj w)), if_neg z]
  · rw [if_neg h, if_neg h]
    unfold tabD
    rw [List.map_append]
    rfl
theorem putT_new {t : Tab} {k : Int} {q : Rat} (h : k ∉ t.map (·.1)) : putT t k q = t ++ [(k, q)] := by
  unfold putT
  rw [if_neg]
  intro w
  obtain ⟨p, hp, e⟩ := List.any_eq_true.mp w
  exact h (List.mem_map.mpr ⟨p, hp, of_decide_eq_true e⟩)
theorem nd_get {α β : Type} {f : α → β} : ∀ {l : List α} {i : Nat} {x : α}, (l.map f).Nodup → l[i]? = some x → f x ∉ (l.take i).map f
  | [], i, x, _, h => by simp at h
  | a :: l, 0, x, _, _ => by simp
  | a :: l, i + 1, x, nd, h => by
    have nd := List.nodup_cons.mp nd
    have hm : x ∈ l := List.mem_of_getElem? h
    intro w
    rcases List.mem_cons.mp w with w | w
    · exact nd.1 (by rw [← w]; exact List.mem_map_of_mem hm)
    · exact nd_get nd.2 h w
theorem take_filter_more {α : Type} {f : α → Bool} {l : List α} {i : Nat} {x : α} (h : l[i]? = some x) : (l.take (i + 1)).filter f = (l.take i).filter f ++ (if f x = true then [x] else []) := by
  rw [take_more h, List.filter_append]
  congr 1
  by_cases e : f x = true
  · rw [if_pos e]; simp [e]
  · rw [if_neg e]; simp [e]
theorem items_tab (t : Tab) : (tabD t).map fItem = t.map fun p => D.tup [.int p.1, am p.2] := by
  unfold tabD
  rw [List.map_map]; rfl
theorem keys_tab (t : Tab) : (tabD t).map fKey = t.map fun p => D.int p.1 := by
  unfold tabD
  rw [List.map_map]; rfl
theorem flen (t : Tab) (f : Int × Rat → Bool) : (((t.filter f).map (·.2)).map am).length ≤ t.length := by
  rw [List.length_map, List.length_map]
  exact List.length_filter_le _ _
theorem tabD_len (t : Tab) : (tabD t).length = t.length := by unfold tabD; rw [List.length_map]
theorem tab_val {t : Tab} (nd : (t.map (·.1)).Nodup) {p : Int × Rat} (h : p ∈ t) : valD (tabD t) (Sum.inl p.1 : Key) = some (am p.2) := by
  unfold valD tabD
  induction t with
  | nil => cases h
  | cons x t ih =>
    have nd' := List.nodup_cons.mp nd
    rw [List.map_cons, List.find?_cons]
    by_cases e : x.1 = p.1
    · rw [decide_eq_true (by rw [e])]
      rcases List.mem_cons.mp h with rfl | h
      · rfl
      · exact absurd (List.mem_map.mpr ⟨p, h, e.symm⟩) nd'.1
    · rw [decide_eq_false (fun z => e (Sum.inl.inj z))]
      rcases List.mem_cons.mp h with rfl | h
      · exact absurd rfl e
      · exact ih nd'.2 h
/-- the amount at a tick, where there is one -/
def getT (t : Tab) (k : Int) : Option Rat := (t.find? fun p => decide (p.1 = k)).map (·.2)
theorem tab_get (t : Tab) (k : Int) : valD (tabD t) (Sum.inl k : Key) = (getT t k).map am := by
  unfold valD tabD getT
  induction t with
  | nil => rfl
  | cons x t ih =>
    rw [List.map_cons, List.find?_cons, List.find?_cons]
    by_cases e : x.1 = k
    · rw [decide_eq_true (show (Sum.inl x.1 : Key) = Sum.inl k by rw [e]), decide_eq_true e]; rfl
    · rw [decide_eq_false (fun z => e (Sum.inl.inj z)), decide_eq_false e]
      exact ih
/-- a table of waters -/
structure TabOk (N M : Nat) (t : Tab) : Prop where
  nd : (t.map (·.1)).Nodup
  ok : ∀ p ∈ t, Okb N M p.2
  len : t.length ≤ 1000
theorem taken_ok {N M : Nat} {t : Tab} (h : TabOk N M t) (lo hi : Int) : Okb N (1000 * M) (taken t lo hi) := by
  have h1 := total_ok (N := N) (M := M) (l := (t.filter (inW lo hi)).map (·.2)) fun q hq => by
    obtain ⟨p, hp', rfl⟩ := List.mem_map.mp hq
    exact h.ok p (List.mem_filter.mp hp').1
  refine h1.up (Nat.mul_le_mul_right _ ?_)
  rw [List.length_map]
  exact Nat.le_trans (List.length_filter_le _ _) h.len
def cutF (c : Int) (p : Int × Rat) : Bool := decide (c ≤ p.1)
theorem taken_cut {u : Tab} {c lo hi : Int} (h : c ≤ lo + 1) : taken (u.filter (cutF c)) lo hi = taken u lo hi := by
  unfold taken
  rw [List.filter_filter]
  congr 2
  apply List.filter_congr
  intro p _
  unfold inW cutF
  by_cases h1 : lo < p.1
  · rw [decide_eq_true (show c ≤ p.1 by omega), Bool.and_true]
  · rw [decide_eq_false h1]; rfl
theorem nd_filter {u : Tab} (f : Int × Rat → Bool) (nd : (u.map (·.1)).Nodup) : ((u.filter f).map (·.1)).Nodup := List.Nodup.sublist (List.Sublist.map _ List.filter_sublist) nd
theorem any_filter {u : Tab} {c j : Int} (h : c ≤ j) : ((u.filter (cutF c)).any fun p => decide (p.1 = j)) = u.any fun p => decide (p.1 = j) := by
  induction u with
  | nil => rfl
  | cons x u ih =>
    rw [List.filter_cons, List.any_cons]
    by_cases e : cutF c x = true
    · rw [if_pos e, List.any_cons, ih]
    · rw [if_neg e, ih]
      have z : ¬ x.1 = j := fun z => e (by unfold cutF; rw [z]; exact decide_eq_true h)
      rw [decide_eq_false z, Bool.false_or]
theorem put_filter {u : Tab} {c j : Int} {q : Rat} (h : c ≤ j) : putT (u.filter (cutF c)) j q = (putT u j q).filter (cutF c) := by
  unfold putT
  rw [any_filter h]
  by_cases e : (u.any fun p => decide (p.1 = j)) = true
  · rw [if_pos e, if_pos e, List.filter_map]
    congr 1
    apply List.filter_congr
    intro p _
    show cutF c p = cutF c (if p.1 = j then (p.1, q) else p)
    by_cases z : p.1 = j
    · rw [if_pos z]; rfl
    · rw [if_neg z]
  · rw [if_neg e, if_neg e, List.filter_append]
    congr 1
    have : cutF c (j, q) = true := decide_eq_true h
    simp [this]
theorem put_keys {u : Tab} {j : Int} {q : Rat} : (putT u j q).map (·.1) = if (u.any fun p => decide (p.1 = j)) = true then u.map (·.1) else u.map (·.1) ++ [j] := by
  unfold putT
  split
  · rw [List.map_map]
    congr 1
    funext p
    show (if p.1 = j then (p.1, q) else p).1 = p.1
    split <;> rfl
  · rw [List.map_append]; rfl
theorem put_nd {u : Tab} {j : Int} {q : Rat} (nd : (u.map (·.1)).Nodup) : ((putT u j q).map (·.1)).Nodup := by
  rw [put_keys]
  split
  · exact nd
  · rename_i h
    refine List.nodup_append.mpr ⟨nd, by simp, ?_⟩
    intro x hx y hy e
    obtain rfl : y = j := by simpa using hy
    subst e
    obtain ⟨p, hp, rfl⟩ := List.mem_map.mp hx
    exact h (List.any_eq_true.mpr ⟨p, hp, decide_eq_true rfl⟩)
theorem put_mem {u : Tab} {j : Int} {q : Rat} {p : Int × Rat} (h : p ∈ putT u j q) : p ∈ u ∨ p.2 = q := by
  unfold putT at h
  split at h
  · obtain ⟨x, hx, e⟩ := List.mem_map.mp h
    by_cases z : x.1 = j
    · rw [if_pos z] at e; subst e; exact .inr rfl
    · rw [if_neg z] at e; subst e; exact .inl hx
  · rcases List.mem_append.mp h with h | h
    · exact .inl h
    · obtain rfl : p = (j, q) := by simpa using h
      exact .inr rfl
theorem put_len {u : Tab} {j : Int} {q : Rat} : (putT u j q).length ≤ u.length + 1 := by
  unfold putT
  split
  · rw [List.length_map]; omega
  · rw [List.length_append]; exact Nat.le_refl _
/-! ### data looked at as a whole -/
def flat : Nat → D → Prop
  | _, .non => True
  | _, .bl _ => True
  | _, .int _ => True
  | n + 1, .tup ds => ds.length < 1000000 ∧ ∀ d ∈ ds, flat n d
  | n + 1, .lst ds => ds.length < 1000000 ∧ ∀ d ∈ ds, flat n d
  | _, _ => False
theorem flat_am (n : Nat) (q : Rat) : flat (n + 1) (am q) := ⟨by show 2 < 1000000; decide, fun d hd => by
  simp only [List.mem_cons, List.not_mem_nil, or_false] at hd
  rcases hd with rfl | rfl <;> (cases n <;> trivial)⟩
theorem zip_self : ∀ (ds : List D) {i : Nat} {d : D}, (zipD ds ds)[i]? = some d → ∃ x ∈ ds, d = .tup [x, x]
  | [], i, d, h => by simp [zipD] at h
  | x :: ds, 0, d, h => ⟨x, List.mem_cons_self, (Option.some.inj h).symm⟩
  | x :: ds, i + 1, d, h => by
    obtain ⟨y, hy, e⟩ := zip_self ds (i := i) h
    exact ⟨y, List.mem_cons_of_mem _ hy, e⟩
theorem all_true (n : Nat) : (List.replicate n true).all id = true := by induction n with | zero => rfl | succ n ih => simp [List.replicate_succ]
def sumI : List Int → Int
  | [] => 0
  | x :: r => x + sumI r
theorem sumI_sum : ∀ l : List Int, l.sum = sumI l
  | [] => rfl
  | x :: r => by rw [List.sum_cons, sumI_sum r]; rfl
theorem total_cast : ∀ l : List Int, total (l.map fun z : Int => (z : Rat)) = ((sumI l : Int) : Rat)
  | [] => rfl
  | x :: r => by
    show (x : Rat) + total (r.map fun z : Int => (z : Rat)) = ((x + sumI r : Int) : Rat)
    rw [total_cast r, Rat.intCast_add]
end L4
/-! L3o: readings step by step, each step by its head -/
namespace L3
open PySem PySem.Spec PyProof.Rows L2
section
variable {E : DE} {s s2 : DSt} {m : Mem} {t u qb : QS} {qe qa' qb' qc' : QE} {c d' : QT} {qa qr : QA} {Φ : DK} {Ψ : Bool → Mem → Prop} {Θ : List D → Mem → Prop} {i j l : Nat} {d e f : D} {r r' : D → D → Mem → DK → Prop}
  {p : Pat} {ps : List Pat} {sp : LSp} {qi : QI} {qt : QT} {vs : List Nat} {F : DSt → Prop} {b : Bool} {A B : Prop}
def AsgK (p : Pat) (d : D) (s : DSt) (F : DSt → Prop) : Prop := match asg p d s with | some s2 => F s2 | none => False
theorem k_at (e : asg p d s = some s2) (h : F s2) : AsgK p d s F := by unfold AsgK; rw [e]; exact h
theorem k_atn (h : F (s.set i (some d))) : AsgK (.nm i) d s F := h
def ForK (p : Pat) (qb : QS) (E : DE) (s : DSt) (ds : List D) (C : Mem → Prop) (m1 : Mem) : Prop := ∃ I : Nat → DSt → Mem → Prop, I 0 s m1 ∧ (∀ i s' m', i ≤ ds.length → I i s' m' → C m') ∧
  (∀ i d s' m', ds[i]? = some d → I i s' m' → AsgK p d s' fun s2 => qb { E with nx := I (i + 1), ct := I (i + 1), bk := E.nx } s2 m') ∧ ∀ s' m', I ds.length s' m' → E.nx s' m'
theorem k_seq (h : t { E with nx := u E } s m) : sSeq t u E s m := h
theorem k_next (h : E.nx s m) : sNext E s m := h
theorem k_brk (h : E.bk s m) : sBreak E s m := h
theorem k_cont (h : E.ct s m) : sCont E s m := h
theorem k_expr (h : qe s m fun _ m1 => E.nx s m1) : sExpr qe E s m := h
theorem k_ret (h : qe s m E.rt) : sRet qe E s m := h
theorem k_retN (h : E.rt .non m) : sRetN E s m := h
theorem k_if (h : c s m fun b m1 => qIf b (t E s m1) (u E s m1)) : sIf c t u E s m := h
theorem k_asg (h : qe s m fun d m1 => E.nx (s.set i (some d)) m1) : sAsg (.nm i) qe E s m := h
theorem k_asgp (h : qe s m fun d m1 => AsgK (.tp ps) d s fun s2 => E.nx s2 m1) : sAsg (.tp ps) qe E s m := h
def ParK (i j : Nat) (E : DE) (s : DSt) (ds : List D) (m1 : Mem) : Prop := match ds with | [d, e] => E.nx ((s.set i (some d)).set j (some e)) m1 | _ => False
theorem k_par (h : qa s m fun ds m1 => ParK i j E s ds m1) : sPar i j qa E s m := h
theorem k_parI (h : E.nx ((s.set i (some d)).set j (some e)) m) : ParK i j E s [d, e] m := h
def ParK3 (i j l : Nat) (E : DE) (s : DSt) (ds : List D) (m1 : Mem) : Prop := match ds with | [d, e, f] => E.nx (((s.set i (some d)).set j (some e)).set l (some f)) m1 | _ => False
theorem k_par3 (h : qa s m fun ds m1 => ParK3 i j l E s ds m1) : sPar3 i j l qa E s m := h
theorem k_par3I (h : E.nx (((s.set i (some d)).set j (some e)).set l (some f)) m) : ParK3 i j l E s [d, e, f] m := h
theorem k_aug {x : D} (e : look s i = some x) (h : qe s m fun y m1 => r x y m1 fun z m2 => E.nx (s.set i (some z)) m2) : sAug i r qe E s m := by unfold sAug; rw [e]; exact h
theorem k_for (h : qi s m fun ds C m1 => ForK p qb E s ds C m1) : sFor qi p qb E s m := h
def SubK (o i v : D) (F : Mem → Prop) (m : Mem) : Prop := match o with
  | .ref a => (∃ ds k j, i = .int k ∧ m a = some (.lst ds) ∧ ixN ds.length k = some j ∧ F (mset m a (.lst (ds.set j v)))) ∨
      ∃ ks k, m a = some (.dK ks) ∧ keyD i = some k ∧ ks.length < sizeLine ∧ F (mset m a (.dK (putD ks k v)))
  | _ => False
theorem k_sub {qo qi' qv : QE} (h : qv s m fun v m1 => qo s m1 fun o m2 => qi' s m2 fun i m3 => SubK o i v (E.nx s) m3) : sSub qo qi' qv E s m := h
theorem k_subL {a : Addr} {k : Int} {v : D} {ds : List D} {F : Mem → Prop} (hm : m a = some (.lst ds)) (hj : ixN ds.length k = some j) (h : F (mset m a (.lst (ds.set j v)))) : SubK (.ref a) (.int k) v F m := .inl ⟨ds, k, j, rfl, hm, hj, h⟩
theorem k_subD {a : Addr} {x v : D} {k : Key} {ks : List (Key × D)} {F : Mem → Prop} (hm : m a = some (.dK ks)) (hk : keyD x = some k) (hl : ks.length < sizeLine) (h : F (mset m a (.dK (putD ks k v)))) : SubK (.ref a) x v F m := .inr ⟨ks, k, hm, hk, hl, h⟩
-- values
theorem k_var (e : look s i = some d) (h : Φ d m) : qVar i s m Φ := by unfold qVar; rw [e]; exact h
theorem k_c (h : Φ d m) : qC d s m Φ := h
theorem k_op (h : qa' s m fun x m1 => qb' s m1 fun y m2 => r x y m2 Φ) : qOp r qa' qb' s m Φ := h
def BK (d : D) (m : Mem) (Ψ : Bool → Mem → Prop) : Prop := match d with | .bl b => Ψ b m | _ => False
theorem k_B (h : qe s m fun d m1 => BK d m1 Ψ) : qB qe s m Ψ := h
theorem k_bk (h : Ψ b m) : BK (.bl b) m Ψ := h
theorem k_tru (h : qe s m fun d m1 => truD d m1 Ψ) : qTru qe s m Ψ := h
theorem k_and (h : c s m fun b m1 => qIf b (d' s m1 Ψ) (Ψ false m1)) : qAnd c d' s m Ψ := h
theorem k_or (h : c s m fun b m1 => qIf b (Ψ true m1) (d' s m1 Ψ)) : qOr c d' s m Ψ := h
theorem k_not (h : c s m fun b m1 => Ψ (!b) m1) : qNot c s m Ψ := h
theorem k_andV (h : qa' s m fun x m1 => BK x m1 fun c m2 => qIf c (qb' s m2 Φ) (Φ (.bl false) m2)) : qAndV qa' qb' s m Φ := h
theorem k_orV (h : qa' s m fun x m1 => BK x m1 fun c m2 => qIf c (Φ (.bl true) m2) (qb' s m2 Φ)) : qOrV qa' qb' s m Φ := h
theorem k_notV (h : qe s m fun x m1 => BK x m1 fun c m2 => Φ (.bl (!c)) m2) : qNotV qe s m Φ := h
theorem k_ifE (h : c s m fun b m1 => qIf b (qa' s m1 Φ) (qb' s m1 Φ)) : qIfE c qa' qb' s m Φ := h
theorem k_ift (h : A) : qIf true A B := qif_t rfl h
theorem k_iff (h : B) : qIf false A B := qif_f rfl h
theorem k_ifnt (h : B) : qIf (!true) A B := qif_f rfl h
theorem k_ifnf (h : A) : qIf (!false) A B := qif_t rfl h
theorem k_nil (h : Θ [] m) : qNil s m Θ := h
theorem k_cons (h : qe s m fun x m1 => qr s m1 fun xs m2 => Θ (x :: xs) m2) : qCons qe qr s m Θ := h
theorem k_tup (h : qa s m fun ds m1 => ds.length ≤ sizeLine ∧ Φ (.tup ds) m1) : qTup qa s m Φ := h
theorem k_lstF (h : qa s m fun ds m1 => ds.length ≤ sizeLine ∧ Φ (.lst ds) m1) : qLstF qa s m Φ := h
theorem k_lstM (h : qa s m fun ds m1 => ds.length ≤ sizeLine ∧ ∀ p, m1 p = none → Φ (.ref p) (mset m1 p (.lst ds))) : qLstM qa s m Φ := h
theorem k_call (h : qa s m fun ds m1 => sp ds m1 Φ) : qCall sp qa s m Φ := h
theorem k_cb (h : qa s m fun ds m1 => sp ds m1 Φ) : qCB sp qa s m Φ := h
theorem k_callS1 (h : qe s m fun d m1 => itemsQ d m1 fun ds => sp ds m1 Φ) : qCallS1 sp qe s m Φ := h
theorem k_star (h : qe s m fun d m1 => itemsQ d m1 fun ds => qr s m1 fun es m2 => Θ (ds ++ es) m2) : qStar qe qr s m Θ := h
theorem k_itL {ds : List D} {R : List D → Prop} (h : R ds) : itemsQ (.lst ds) m R := h
theorem k_itT {ds : List D} {R : List D → Prop} (h : R ds) : itemsQ (.tup ds) m R := h
theorem k_callK {n k : Nat} {is : List Nat} {qk : QA} (h : qa s m fun ds m1 => qk s m1 fun es m2 => (ds.length = n ∧ es.length = k) ∧ sp (pick is (ds ++ es)) m2 Φ) : qCallK sp n k is qa qk s m Φ := h
def FzK (d : D) (m1 : Mem) (Φ : DK) : Prop := match d with
  | .ref a => ∃ ds, m1 a = some (.lst ds) ∧ Φ (.lst ds) (mdel m1 a)
  | _ => False
theorem k_fz (h : qe s m fun d m1 => FzK d m1 Φ) : qFreeze qe s m Φ := h
theorem k_fzI {a : Addr} {ds : List D} (hm : m a = some (.lst ds)) (h : Φ (.lst ds) (mdel m a)) : FzK (.ref a) m Φ := ⟨ds, hm, h⟩
/-- a new list is frozen at once -/
theorem k_fzn {a : Addr} {ds : List D} (ha : m a = none) (h : Φ (.lst ds) m) : FzK (.ref a) (mset m a (.lst ds)) Φ := fz_done ha h
theorem k_lc {qe : QE} (h : qi s m fun ds C m1 => LcIn p qt qe (wipeD s vs) ds C m1 Φ) : qLc qi p qt qe vs s m Φ := h
theorem k_dc {qk : QE} (h : qi s m fun ds C m1 => DcIn p qt qk qe (wipeD s vs) ds C m1 Φ) : qDc qi p qt qk qe vs s m Φ := h
theorem k_chain (h : qa' s m fun x m1 => qb' s m1 fun y m2 => r x y m2 fun z m3 => BK z m3 fun c m4 => qIf c (qc' s m4 fun w m5 => r' y w m5 Φ) (Φ (.bl false) m4)) : qChain r r' qa' qb' qc' s m Φ := h
theorem k_neg (h : qe s m fun x m1 => ∃ i, x = .int i ∧ Φ (.int (-i)) m1) : qNeg qe s m Φ := by
  refine (?_ : qe s m (fun x m1 => match x with | .int i => Φ (.int (-i)) m1 | _ => False))
  have e : (fun x m1 => ∃ i, x = .int i ∧ Φ (.int (-i)) m1) = (fun x m1 => match x with | .int i => Φ (.int (-i)) m1 | _ => False : DK) := by
    funext x m1
    apply propext
    constructor
    · rintro ⟨i, rfl, h⟩; exact h
    · intro h
      cases x with
      | int i => exact ⟨i, rfl, h⟩
      | _ => exact h.elim
  rw [← e]; exact h
-- operations
theorem k_i0 {g : Int → Int → D} {x y : Int} (h : Φ (g x y) m) : qI0 g (.int x) (.int y) m Φ := h
theorem k_ic {C : Int → Int → Prop} {g : Int → Int → D} {x y : Int} (c : C x y) (h : Φ (g x y) m) : qIC C g (.int x) (.int y) m Φ := ⟨c, h⟩
theorem k_addI {x y : Int} (h : Φ (.int (x + y)) m) : qAdd (.int x) (.int y) m Φ := h
theorem k_iaddI {x y : Int} (h : Φ (.int (x + y)) m) : qIAdd (.int x) (.int y) m Φ := h
theorem k_eqI {x y : Int} (h : Φ (.bl (decide (x = y))) m) : vEq (.int x) (.int y) m Φ := h
theorem k_neI {x y : Int} (h : Φ (.bl (!decide (x = y))) m) : vNe (.int x) (.int y) m Φ := h
theorem k_eqB {x y : Bool} (h : Φ (.bl (decide (x = y))) m) : vEq (.bl x) (.bl y) m Φ := h
theorem k_neB {x y : Bool} (h : Φ (.bl (!decide (x = y))) m) : vNe (.bl x) (.bl y) m Φ := h
theorem k_ixt {ds : List D} {x : Int} (e : L2.atI ds x = some d) (h : Φ d m) : vIx (.tup ds) (.int x) m Φ := ⟨d, e, h⟩
theorem k_ixl {ds : List D} {x : Int} (e : L2.atI ds x = some d) (h : Φ d m) : vIx (.lst ds) (.int x) m Φ := ⟨d, e, h⟩
theorem k_ixr {a : Addr} {ds : List D} {x : Int} (hm : m a = some (.lst ds)) (e : L2.atI ds x = some d) (h : Φ d m) : vIx (.ref a) (.int x) m Φ := .inl ⟨ds, x, d, rfl, hm, e, h⟩
theorem k_am0 {q : Rat} (h : Φ (.int q.num) m) : vIx (am q) (.int 0) m Φ := ⟨_, rfl, h⟩
theorem k_am1 {q : Rat} (h : Φ (.int q.den) m) : vIx (am q) (.int 1) m Φ := ⟨_, rfl, h⟩
theorem k_lenT {ds : List D} (h : Φ (.int ds.length) m) : bLen [.tup ds] m Φ := h
theorem k_lenL {ds : List D} (h : Φ (.int ds.length) m) : bLen [.lst ds] m Φ := h
theorem k_lenR {a : Addr} {ds : List D} (hm : m a = some (.lst ds)) (h : Φ (.int ds.length) m) : bLen [.ref a] m Φ := .inl ⟨ds, hm, h⟩
theorem k_int {x : Int} (h : Φ (.int x) m) : bInt [.int x] m Φ := h
def RngK (ds : List D) (m : Mem) (Ξ : List D → (Mem → Prop) → Mem → Prop) : Prop := match ds with
  | [.int j] => -(2 ^ 62) ≤ j ∧ j < 2 ^ 62 ∧ Ξ (intsD 0 j.toNat) (fun _ => True) m
  | _ => False
theorem k_rng {Ξ : List D → (Mem → Prop) → Mem → Prop} (h : qa s m fun ds m1 => RngK ds m1 Ξ) : iRange1 qa s m Ξ := h
theorem k_rngI {n : Nat} {Ξ : List D → (Mem → Prop) → Mem → Prop} (h1 : n < 2 ^ 62) (h : Ξ (intsD 0 n) (fun _ => True) m) : RngK [.int n] m Ξ := ⟨by omega, by omega, h⟩
theorem k_lstI {Ξ : List D → (Mem → Prop) → Mem → Prop} {ds : List D} (h : Ξ ds (fun _ => True) m) : iLst (fun s m k => k (.lst ds) m) s m Ξ := h
def LstK (x : D) (m1 : Mem) (Ξ : List D → (Mem → Prop) → Mem → Prop) : Prop := match x with
  | .lst ds => Ξ ds (fun _ => True) m1
  | .ref a => ∃ ds, m1 a = some (.lst ds) ∧ Ξ ds (fun m => m a = some (.lst ds)) m1
  | _ => False
theorem k_iL {Ξ : List D → (Mem → Prop) → Mem → Prop} (h : qe s m fun x m1 => LstK x m1 Ξ) : iLst qe s m Ξ := h
theorem k_iLl {Ξ : List D → (Mem → Prop) → Mem → Prop} {ds : List D} (h : Ξ ds (fun _ => True) m) : LstK (.lst ds) m Ξ := h
theorem k_iLr {Ξ : List D → (Mem → Prop) → Mem → Prop} {a : Addr} {ds : List D} (hm : m a = some (.lst ds)) (h : Ξ ds (fun m => m a = some (.lst ds)) m) : LstK (.ref a) m Ξ := ⟨ds, hm, h⟩
theorem k_iLi {Ξ : List D → (Mem → Prop) → Mem → Prop} {w : D} {xs : List D} (hi : LItems w m xs) (k : ∀ C : Mem → Prop, (∀ m', LItems w m' xs → C m') → Ξ xs C m) : LstK w m Ξ := by
  rcases hi with rfl | ⟨a, rfl, e⟩
  · exact k _ fun _ _ => trivial
  · refine ⟨xs, e, k _ fun m' h' => ?_⟩
    rcases h' with h' | ⟨b, h', e'⟩
    · cases h'
    · cases h'; exact e'
def TupK (x : D) (m1 : Mem) (Ξ : List D → (Mem → Prop) → Mem → Prop) : Prop := match x with
  | .tup ds => Ξ ds (fun _ => True) m1
  | _ => False
theorem k_iT {Ξ : List D → (Mem → Prop) → Mem → Prop} (h : qe s m fun x m1 => TupK x m1 Ξ) : iTup qe s m Ξ := h
theorem k_iTt {Ξ : List D → (Mem → Prop) → Mem → Prop} {ds : List D} (h : Ξ ds (fun _ => True) m) : TupK (.tup ds) m Ξ := h
def SeqK (x : D) (m1 : Mem) (Ξ : List D → (Mem → Prop) → Mem → Prop) : Prop := LstK x m1 Ξ ∨ TupK x m1 Ξ
theorem k_iSv {Ξ : List D → (Mem → Prop) → Mem → Prop} (e : look s i = some d) (h : SeqK d m Ξ) : iSeq (qVar i) s m Ξ := by
  rcases h with h | h
  · exact .inl (k_iL (k_var e h))
  · exact .inr (k_iT (k_var e h))
theorem k_iSi {Ξ : List D → (Mem → Prop) → Mem → Prop} {w : D} {xs : List D} (hi : ItemsAt w m xs) (k : ∀ C : Mem → Prop, (∀ m', ItemsAt w m' xs → C m') → Ξ xs C m) : SeqK w m Ξ := by
  rcases hi with rfl | rfl | ⟨a, rfl, e⟩
  · exact .inl (k _ fun _ _ => trivial)
  · exact .inr (k _ fun _ _ => trivial)
  · refine .inl ⟨xs, e, k _ fun m' h' => ?_⟩
    rcases h' with h' | h' | ⟨b, h', e'⟩
    · cases h'
    · cases h'
    · cases h'; exact e'
/-- zip(x, y) over two sources -/
def ZipK (ds : List D) (m1 : Mem) (Ξ : List D → (Mem → Prop) → Mem → Prop) : Prop := iZipD (fun _ m k => k ds m) [] m1 Ξ
theorem k_zip {Ξ : List D → (Mem → Prop) → Mem → Prop} (h : qa s m fun ds m1 => ZipK ds m1 Ξ) : iZipD qa s m Ξ := h
theorem k_zipi {Ξ : List D → (Mem → Prop) → Mem → Prop} {x y : D} {xs ys : List D} (lx : LItems x m xs) (ly : LItems y m ys) (k : ∀ C : Mem → Prop, (∀ m', LItems x m' xs → LItems y m' ys → C m') → Ξ (zipD xs ys) C m) : ZipK [x, y] m Ξ := by
  rcases lx with rfl | ⟨a, rfl, e⟩
  · rcases ly with rfl | ⟨b, rfl, f⟩
    · exact k _ fun _ _ _ => trivial
    · refine ⟨ys, f, k _ fun m' _ h => ?_⟩
      rcases h with h | ⟨b', h, e'⟩
      · cases h
      · cases h; exact e'
  · rcases ly with rfl | ⟨b, rfl, f⟩
    · refine ⟨xs, e, k _ fun m' h _ => ?_⟩
      rcases h with h | ⟨b', h, e'⟩
      · cases h
      · cases h; exact e'
    · refine ⟨xs, ys, e, f, k _ fun m' h h2 => ?_⟩
      rcases h with h | ⟨b', h, e'⟩
      · cases h
      · cases h
        rcases h2 with h2 | ⟨b2, h2, e2⟩
        · cases h2
        · cases h2; exact ⟨e', e2⟩
theorem LItems.ty {x : D} {m : Mem} {xs : List D} (h : LItems x m xs) : tyN x m "list" := by
  rcases h with rfl | ⟨a, rfl, e⟩
  · rfl
  · exact .inl ⟨rfl, xs, e⟩
theorem k_isi {T : String} (h : qe s m fun x m1 => ∃ t b, tyN x m1 t ∧ kitB t T = some b ∧ Φ (.bl b) m1) : qIsi T qe s m Φ := h
theorem k_isiT {Ts : List String} (h : qe s m fun x m1 => ∃ t b, tyN x m1 t ∧ kitBs t Ts = some b ∧ Φ (.bl b) m1) : qIsiT Ts qe s m Φ := h
-- methods of lists
theorem k_bm {T : String} {rr : D → LSp} (h : qe s m fun x m1 => tyD T x m1 ∧ qa s m1 fun ds m2 => rr x ds m2 Φ) : qBM T rr qe qa s m Φ := h
theorem k_app {a : Addr} {xs : List D} (hm : m a = some (.lst xs)) (hl : xs.length < sizeLine) (h : Φ .non (mset m a (.lst (xs ++ [d])))) : mtL gAppend (.ref a) [d] m Φ := ⟨xs, hm, hl, h⟩
theorem k_rev {a : Addr} {xs : List D} (hm : m a = some (.lst xs)) (h : Φ .non (mset m a (.lst xs.reverse))) : mtL gReverse (.ref a) [] m Φ := ⟨xs, hm, h⟩
theorem k_tyL {a : Addr} {xs : List D} (hm : m a = some (.lst xs)) : tyD "list" (.ref a) m := .inl ⟨rfl, xs, hm⟩
theorem k_list {w : D} {xs : List D} (h : ItemsAt w m xs) (k : ∀ p, m p = none → Φ (.ref p) (mset m p (.lst xs))) : bList [w] m Φ := by
  rcases h with rfl | rfl | ⟨a, rfl, e⟩
  · exact k
  · exact k
  · exact ⟨xs, e, k⟩
theorem k_tuple {w : D} {xs : List D} (h : ItemsAt w m xs) (k : Φ (.tup xs) m) : bTuple [w] m Φ := by
  rcases h with rfl | rfl | ⟨a, rfl, e⟩
  · exact k
  · exact k
  · exact ⟨xs, e, k⟩
theorem k_catR {a b' : Addr} {xs ys : List D} (h1 : m a = some (.lst xs)) (h2 : m b' = some (.lst ys)) (hl : xs.length + ys.length ≤ sizeLine) (h : ∀ p, m p = none → Φ (.ref p) (mset m p (.lst (xs ++ ys)))) : qAdd (.ref a) (.ref b') m Φ := ⟨xs, ys, h1, h2, hl, h⟩
theorem k_all {w : D} {bs : List Bool} (h : LItems w m (bs.map D.bl)) (k : Φ (.bl (bs.all _root_.id)) m) : bAll [w] m Φ := by
  rcases h with rfl | ⟨a, rfl, e⟩
  · exact ⟨bs, rfl, k⟩
  · exact ⟨_, e, bs, rfl, k⟩
theorem k_any {w : D} {bs : List Bool} (h : LItems w m (bs.map D.bl)) (k : Φ (.bl (bs.any _root_.id)) m) : bAny [w] m Φ := by
  rcases h with rfl | ⟨a, rfl, e⟩
  · exact ⟨bs, rfl, k⟩
  · exact ⟨_, e, bs, rfl, k⟩
theorem k_sum {w : D} {ns : List Int} (h : LItems w m (ns.map D.int)) (k : Φ (.int ns.sum) m) : bSum [w] m Φ := by
  rcases h with rfl | ⟨a, rfl, e⟩
  · exact ⟨ns, rfl, k⟩
  · exact ⟨_, e, ns, rfl, k⟩
theorem k_len {w : D} {xs : List D} (h : ItemsAt w m xs) (k : Φ (.int xs.length) m) : bLen [w] m Φ := blen_items h k
theorem k_ix {w : D} {xs : List D} {x : Int} (h : ItemsAt w m xs) (e : L2.atI xs x = some d) (k : Φ d m) : vIx w (.int x) m Φ := vix_items h e k
end
theorem sz {n : Nat} (h : n ≤ 1000000) : n ≤ sizeLine := by show n ≤ 16777216; omega
theorem sz' {n : Nat} (h : n < 1000000) : n < sizeLine := by show n < 16777216; omega
/-! ### comprehensions that change nothing -/
section
variable {α : Type} {p : Pat} {qt : QT} {qe : QE} {s1 : DSt} {C : Mem → Prop} {m1 : Mem} {Φ : DK}
theorem k_lcT (l : List α) (dOf : α → D) (t : α → Bool) (g : α → D) (hl : l.length < 1000000) (hC : ∀ a o, m1 a = none → C (mset m1 a o))
    (hs : ∀ (i : Nat) (x : α), l[i]? = some x → ∀ (a : Addr) (o : AO), m1 a = none → AsgK p (dOf x) s1 fun s2 =>
      (∀ Q : Bool → Mem → Prop, Q (t x) (mset m1 a o) → qt s2 (mset m1 a o) Q) ∧ (t x = true → ∀ Q : DK, Q (g x) (mset m1 a o) → qe s2 (mset m1 a o) Q))
    (hd : ∀ a, m1 a = none → Φ (.ref a) (mset m1 a (.lst ((l.filter t).map g)))) : LcIn p qt qe s1 (l.map dOf) C m1 Φ := lc_pure l dOf t g (sz' hl) hC hs hd
theorem k_lcTF (l : List α) (dOf : α → D) (t : α → Bool) (g : α → D) (hl : l.length < 1000000) (hC : ∀ a o, m1 a = none → C (mset m1 a o))
    (hs : ∀ (i : Nat) (x : α), l[i]? = some x → ∀ (a : Addr) (o : AO), m1 a = none → AsgK p (dOf x) s1 fun s2 =>
      (∀ Q : Bool → Mem → Prop, Q (t x) (mset m1 a o) → qt s2 (mset m1 a o) Q) ∧ (t x = true → ∀ Q : DK, Q (g x) (mset m1 a o) → qe s2 (mset m1 a o) Q))
    (hd : Φ (.lst ((l.filter t).map g)) m1) : LcIn p qt qe s1 (l.map dOf) C m1 (fun d m2 => FzK d m2 Φ) := k_lcT l dOf t g hl hC hs fun a ha => k_fzn ha hd
/-- no test -/
theorem k_lcM (l : List α) (dOf : α → D) (g : α → D) (hl : l.length < 1000000) (hC : ∀ a o, m1 a = none → C (mset m1 a o))
    (hs : ∀ (i : Nat) (x : α), l[i]? = some x → ∀ (a : Addr) (o : AO), m1 a = none → AsgK p (dOf x) s1 fun s2 => ∀ Q : DK, Q (g x) (mset m1 a o) → qe s2 (mset m1 a o) Q)
    (hd : ∀ a, m1 a = none → Φ (.ref a) (mset m1 a (.lst (l.map g)))) : LcIn p qYes qe s1 (l.map dOf) C m1 Φ := k_lcT l dOf (fun _ => true) g hl hC (fun i x hx a o ha => by
      have h := hs i x hx a o ha
      unfold AsgK at h ⊢
      cases e : asg p (dOf x) s1 with
      | none => rw [e] at h; exact h
      | some s2 => rw [e] at h; exact ⟨fun Q q => q, fun _ => h⟩) fun a ha => by rw [filter_yes]; exact hd a ha
theorem k_lcF (l : List α) (dOf : α → D) (g : α → D) (hl : l.length < 1000000) (hC : ∀ a o, m1 a = none → C (mset m1 a o))
    (hs : ∀ (i : Nat) (x : α), l[i]? = some x → ∀ (a : Addr) (o : AO), m1 a = none → AsgK p (dOf x) s1 fun s2 => ∀ Q : DK, Q (g x) (mset m1 a o) → qe s2 (mset m1 a o) Q)
    (hd : Φ (.lst (l.map g)) m1) : LcIn p qYes qe s1 (l.map dOf) C m1 (fun d m2 => FzK d m2 Φ) := k_lcM l dOf g hl hC hs fun a ha => k_fzn ha hd
end
theorem zipD_map {α β : Type} (f : α → D) (g : β → D) : ∀ (xs : List α) (ys : List β), zipD (xs.map f) (ys.map g) = (xs.zip ys).map fun p => .tup [f p.1, g p.2]
  | [], _ => by simp [zipD]
  | _ :: _, [] => by simp [zipD]
  | x :: xs, y :: ys => by
    rw [List.map_cons, List.map_cons, zipD, List.zip_cons_cons, List.map_cons, zipD_map f g xs ys]
theorem zipD_map1 {α : Type} (f g : α → D) : ∀ (xs : List α), zipD (xs.map f) (xs.map g) = xs.map fun x => .tup [f x, g x]
  | [] => rfl
  | x :: xs => by rw [List.map_cons, List.map_cons, zipD, List.map_cons, zipD_map1 f g xs]
theorem intsD_map (n : Nat) : intsD 0 n = (List.range n).map fun (i : Nat) => D.int i := by
  unfold intsD
  apply List.map_congr_left
  intro i _
  rw [Int.zero_add]
end L3
/-! L4b: == and in over clean data (no bools, no things that change) -/
namespace L3
open PySem PySem.Spec PyProof.Rows L2
/-- data without bools: == tells just the same -/
def Cl : Nat → D → Prop
  | _, .non => True
  | _, .int _ => True
  | _, .str z => PyData.strOk z = true
  | n + 1, .tup ds => ∀ d ∈ ds, Cl n d
  | n + 1, .lst ds => ∀ d ∈ ds, Cl n d
  | _, _ => False
theorem strs_eq {x y : Str} : (x == y) = decide (x = y) := by
  cases h : x == y with
  | true => rw [eq_of_beq h]; simp
  | false => rw [decide_eq_false]; intro e; subst e; simp at h
structure PyAt (n : Nat) (d : D) (p : PyData) : Prop where
  py : toPy d = some p
  lay : p.canLay0 = true
  dep : p.depth ≤ n
theorem toPys_mem {n : Nat} : ∀ {ds : List D}, (∀ d ∈ ds, ∃ p, PyAt n d p) → ∃ ps, toPys ds = some ps ∧ PyData.canLayAll0 ps = true ∧ PyData.depthAll ps ≤ n
  | [], _ => ⟨[], rfl, rfl, Nat.zero_le _⟩
  | d :: ds, h => by
    obtain ⟨p, hp⟩ := h d List.mem_cons_self
    obtain ⟨ps, h1, h2, h3⟩ := toPys_mem fun x hx => h x (List.mem_cons_of_mem _ hx)
    refine ⟨p :: ps, ?_, ?_, ?_⟩
    · rw [toPys, hp.py, h1]
    · rw [PyData.canLayAll0, hp.lay, h2]; rfl
    · rw [PyData.depthAll]; have := hp.dep; omega
theorem cl_py : ∀ (n : Nat) (d : D), Cl n d → ∃ p, PyAt n d p
  | n, .non, _ => ⟨.none, rfl, rfl, Nat.zero_le _⟩
  | n, .int i, _ => ⟨.int i, rfl, rfl, Nat.zero_le _⟩
  | n, .str z, h => ⟨.str z, rfl, by cases n <;> exact h, Nat.zero_le _⟩
  | n + 1, .tup ds, h => by
    obtain ⟨ps, h1, h2, h3⟩ := toPys_mem fun d hd => cl_py n d (h d hd)
    exact ⟨.tuple ps, by rw [toPy, h1]; rfl, h2, by rw [PyData.depth]; omega⟩
  | n + 1, .lst ds, h => by
    obtain ⟨ps, h1, h2, h3⟩ := toPys_mem fun d hd => cl_py n d (h d hd)
    exact ⟨.list ps, by rw [toPy, h1]; rfl, h2, by rw [PyData.depth]; omega⟩
  | 0, .tup _, h => h.elim
  | 0, .lst _, h => h.elim
  | n, .bl _, h => by cases n <;> exact h.elim
  | n, .ref _, h => by cases n <;> exact h.elim
theorem toPys_cons {d : D} {ds : List D} {ps : List PyData} (h : toPys (d :: ds) = some ps) : ∃ p qs, toPy d = some p ∧ toPys ds = some qs ∧ ps = p :: qs := by
  rw [toPys] at h
  cases e1 : toPy d with
  | none => rw [e1] at h; cases h
  | some p =>
    cases e2 : toPys ds with
    | none => rw [e1, e2] at h; cases h
    | some qs => rw [e1, e2] at h; cases h; exact ⟨p, qs, rfl, rfl, rfl⟩
theorem eqvAll_of {n : Nat} (ih : ∀ (x y : D) (p q : PyData), Cl n x → Cl n y → toPy x = some p → toPy y = some q → (PyData.eqv p q = true ↔ x = y)) : ∀ (xs ys : List D) (ps qs : List PyData), (∀ d ∈ xs, Cl n d) → (∀ d ∈ ys, Cl n d) → toPys xs = some ps → toPys ys = some qs → (PyData.eqvAll ps qs = true ↔ xs = ys)
  | [], [], ps, qs, _, _, h1, h2 => by cases h1; cases h2; simp [PyData.eqvAll]
  | [], y :: ys, ps, qs, _, _, h1, h2 => by
    obtain ⟨q, qs', _, _, rfl⟩ := toPys_cons h2
    cases h1; simp [PyData.eqvAll]
  | x :: xs, [], ps, qs, _, _, h1, h2 => by
    obtain ⟨q, qs', _, _, rfl⟩ := toPys_cons h1
    cases h2; simp [PyData.eqvAll]
  | x :: xs, y :: ys, ps, qs, c1, c2, h1, h2 => by
    obtain ⟨p, ps', a1, a2, rfl⟩ := toPys_cons h1
    obtain ⟨q, qs', b1, b2, rfl⟩ := toPys_cons h2
    have i1 := ih x y p q (c1 x List.mem_cons_self) (c2 y List.mem_cons_self) a1 b1
    have i2 := eqvAll_of ih xs ys ps' qs' (fun d hd => c1 d (List.mem_cons_of_mem _ hd)) (fun d hd => c2 d (List.mem_cons_of_mem _ hd)) a2 b2
    rw [PyData.eqvAll, Bool.and_eq_true, i1, i2]
    simp
theorem toPy_tup {ds : List D} {p : PyData} (h : toPy (.tup ds) = some p) : ∃ ps, toPys ds = some ps ∧ p = .tuple ps := by
  rw [toPy] at h
  cases e : toPys ds with
  | none => rw [e] at h; cases h
  | some ps => rw [e] at h; cases h; exact ⟨ps, rfl, rfl⟩
theorem toPy_lst {ds : List D} {p : PyData} (h : toPy (.lst ds) = some p) : ∃ ps, toPys ds = some ps ∧ p = .list ps := by
  rw [toPy] at h
  cases e : toPys ds with
  | none => rw [e] at h; cases h
  | some ps => rw [e] at h; cases h; exact ⟨ps, rfl, rfl⟩
theorem eqv_of : ∀ (n : Nat) (x y : D) (p q : PyData), Cl n x → Cl n y → toPy x = some p → toPy y = some q → (PyData.eqv p q = true ↔ x = y) := by
  have fin : ∀ (n : Nat) (ih : ∀ (xs ys : List D) (ps qs : List PyData), Cl n (.tup xs) → Cl n (.tup ys) → toPys xs = some ps → toPys ys = some qs → (PyData.eqvAll ps qs = true ↔ xs = ys)) (x y : D) (p q : PyData), Cl n x → Cl n y → toPy x = some p → toPy y = some q → (PyData.eqv p q = true ↔ x = y) := by
    intro n ih x y p q c1 c2 h1 h2
    cases x with
    | non =>
      cases h1
      cases y with
      | non => cases h2; simp [PyData.eqv]
      | int j => cases h2; simp [PyData.eqv]
      | str w => cases h2; simp [PyData.eqv]
      | tup ds => obtain ⟨ps, _, rfl⟩ := toPy_tup h2; simp [PyData.eqv]
      | lst ds => obtain ⟨ps, _, rfl⟩ := toPy_lst h2; simp [PyData.eqv]
      | bl b => cases n <;> exact c2.elim
      | ref a => cases n <;> exact c2.elim
    | int i =>
      cases h1
      cases y with
      | non => cases h2; simp [PyData.eqv]
      | int j => cases h2; simp [PyData.eqv]
      | str w => cases h2; simp [PyData.eqv]
      | tup ds => obtain ⟨ps, _, rfl⟩ := toPy_tup h2; simp [PyData.eqv]
      | lst ds => obtain ⟨ps, _, rfl⟩ := toPy_lst h2; simp [PyData.eqv]
      | bl b => cases n <;> exact c2.elim
      | ref a => cases n <;> exact c2.elim
    | str z =>
      cases h1
      cases y with
      | non => cases h2; simp [PyData.eqv]
      | int j => cases h2; simp [PyData.eqv]
      | str w => cases h2; simp only [PyData.eqv]; rw [strs_eq, decide_eq_true_eq]; simp
      | tup ds => obtain ⟨ps, _, rfl⟩ := toPy_tup h2; simp [PyData.eqv]
      | lst ds => obtain ⟨ps, _, rfl⟩ := toPy_lst h2; simp [PyData.eqv]
      | bl b => cases n <;> exact c2.elim
      | ref a => cases n <;> exact c2.elim
    | tup xs =>
      obtain ⟨ps, h1', rfl⟩ := toPy_tup h1
      cases y with
      | non => cases h2; simp [PyData.eqv]
      | int j => cases h2; simp [PyData.eqv]
      | str w => cases h2; simp [PyData.eqv]
      | tup ys =>
        obtain ⟨qs, h2', rfl⟩ := toPy_tup h2
        simp only [PyData.eqv]
        rw [ih xs ys ps qs c1 c2 h1' h2']; simp
      | lst ds => obtain ⟨ps, _, rfl⟩ := toPy_lst h2; simp [PyData.eqv]
      | bl b => cases n <;> exact c2.elim
      | ref a => cases n <;> exact c2.elim
    | lst xs =>
      obtain ⟨ps, h1', rfl⟩ := toPy_lst h1
      cases y with
      | non => cases h2; simp [PyData.eqv]
      | int j => cases h2; simp [PyData.eqv]
      | str w => cases h2; simp [PyData.eqv]
      | lst ys =>
        obtain ⟨qs, h2', rfl⟩ := toPy_lst h2
        simp only [PyData.eqv]
        rw [ih xs ys ps qs (by cases n with | zero => exact c1.elim | succ n => exact c1) (by cases n with | zero => exact c2.elim | succ n => exact c2) h1' h2']; simp
      | tup ds => obtain ⟨ps, _, rfl⟩ := toPy_tup h2; simp [PyData.eqv]
      | bl b => cases n <;> exact c2.elim
      | ref a => cases n <;> exact c2.elim
    | bl b => cases n <;> exact c1.elim
    | ref a => cases n <;> exact c1.elim
  intro n
  induction n with
  | zero => exact fin 0 fun xs ys ps qs c1 => c1.elim
  | succ n ih => exact fin (n + 1) fun xs ys ps qs c1 c2 h1 h2 => eqvAll_of ih xs ys ps qs c1 c2 h1 h2
theorem shaped_at {n : Nat} {d : D} {p : PyData} (h : PyAt n d p) (hn : n ≤ 64) : SeqAt.shaped p = true := by
  unfold SeqAt.shaped
  rw [h.lay, decide_eq_true (by have := h.dep; omega)]; rfl
section
variable {m : Mem} {Φ : DK} {x y : D} {n : Nat}
theorem qeq_cl (hn : n ≤ 64) (h1 : Cl n x) (h2 : Cl n y) (k : ∀ b : Bool, (b = true ↔ x = y) → Φ (.bl b) m) : qEq x y m Φ := by
  obtain ⟨p, hp⟩ := cl_py n x h1
  obtain ⟨q, hq⟩ := cl_py n y h2
  exact ⟨p, q, .inl hp.py, .inl hq.py, shaped_at hp hn, shaped_at hq hn, k _ (eqv_of n x y p q h1 h2 hp.py hq.py)⟩
theorem qne_cl (hn : n ≤ 64) (h1 : Cl n x) (h2 : Cl n y) (k : ∀ b : Bool, (b = true ↔ x = y) → Φ (.bl (!b)) m) : qNe x y m Φ := by
  obtain ⟨p, hp⟩ := cl_py n x h1
  obtain ⟨q, hq⟩ := cl_py n y h2
  exact ⟨p, q, .inl hp.py, .inl hq.py, shaped_at hp hn, shaped_at hq hn, k _ (eqv_of n x y p q h1 h2 hp.py hq.py)⟩
theorem k_eqC (n : Nat) (hn : n ≤ 64) (h1 : Cl n x) (h2 : Cl n y) (k : ∀ b : Bool, (b = true ↔ x = y) → Φ (.bl b) m) : vEq x y m Φ := by
  unfold vEq
  split
  · refine k _ ?_; rw [decide_eq_true_eq]; simp
  · cases n <;> exact h1.elim
  · exact qeq_cl hn h1 h2 k
theorem k_neC (n : Nat) (hn : n ≤ 64) (h1 : Cl n x) (h2 : Cl n y) (k : ∀ b : Bool, (b = true ↔ x = y) → Φ (.bl (!b)) m) : vNe x y m Φ := by
  unfold vNe
  split
  · refine k _ ?_; rw [decide_eq_true_eq]; simp
  · cases n <;> exact h1.elim
  · exact qne_cl hn h1 h2 k
theorem cl_am (n : Nat) (q : Rat) : Cl (n + 1) (am q) := fun d hd => by
  simp only [List.mem_cons, List.not_mem_nil, or_false] at hd
  rcases hd with rfl | rfl <;> (cases n <;> trivial)
theorem cl_int (n : Nat) (i : Int) : Cl n (.int i) := by cases n <;> trivial
theorem am_eq_iff {p q : Rat} : am p = am q ↔ p = q := ⟨fun h => L4.am_inj h, fun h => by rw [h]⟩
theorem k_eqA {p q : Rat} (k : Φ (.bl (decide (p = q))) m) : vEq (am p) (am q) m Φ := k_eqC 1 (by decide) (cl_am 0 p) (cl_am 0 q) fun b hb => by
  have : b = decide (p = q) := by
    cases b with
    | true => exact (decide_eq_true (am_eq_iff.mp (hb.mp rfl))).symm
    | false => symm; apply decide_eq_false; intro e; have := hb.mpr (by rw [e]); cases this
  rw [this]; exact k
theorem k_neA {p q : Rat} (k : Φ (.bl (!decide (p = q))) m) : vNe (am p) (am q) m Φ := k_neC 1 (by decide) (cl_am 0 p) (cl_am 0 q) fun b hb => by
  have : b = decide (p = q) := by
    cases b with
    | true => exact (decide_eq_true (am_eq_iff.mp (hb.mp rfl))).symm
    | false => symm; apply decide_eq_false; intro e; have := hb.mpr (by rw [e]); cases this
  rw [this]; exact k
/-- is a list empty -/
theorem k_eqNil {ds : List D} (h : ∀ d ∈ ds, Cl 8 d) (k : Φ (.bl ds.isEmpty) m) : vEq (.lst ds) (.lst []) m Φ := k_eqC 9 (by decide) h (fun d hd => by cases hd) fun b hb => by
  have : b = ds.isEmpty := by
    cases ds with
    | nil => exact hb.mpr rfl
    | cons d ds => cases b with
      | false => rfl
      | true => have := hb.mp rfl; cases this
  rw [this]; exact k
theorem any_ints {ks : List Int} {i : Int} : ((ks.map PyData.int).any fun z => PyData.eqv z (.int i)) = decide (i ∈ ks) := by
  induction ks with
  | nil => rfl
  | cons k ks ih =>
    rw [List.map_cons, List.any_cons, ih, eqv_int]
    by_cases h : k = i
    · subst h; simp
    · have h2 : i ≠ k := fun e => h e.symm
      by_cases h3 : i ∈ ks <;> simp [h, h2, h3]
theorem toPys_ints : ∀ ks : List Int, toPys (ks.map D.int) = some (ks.map PyData.int)
  | [] => rfl
  | k :: ks => by rw [List.map_cons, toPys, toPys_ints ks]; rfl
theorem shaped_ints (ks : List Int) : SeqAt.shaped (.list (ks.map PyData.int)) = true := by
  obtain ⟨p, hp⟩ := cl_py 1 (.lst (ks.map D.int)) fun d hd => by
    obtain ⟨k, _, rfl⟩ := List.mem_map.mp hd
    trivial
  have h1 := hp.py
  rw [toPy, toPys_ints] at h1
  cases h1
  exact shaped_at hp (by decide)
/-- an int among ints -/
theorem k_inI {neg : Bool} {ks : List Int} {i : Int} (k : Φ (.bl (if neg then !decide (i ∈ ks) else decide (i ∈ ks))) m) : vIn neg (.int i) (.lst (ks.map D.int)) m Φ :=
  ⟨.int i, ks.map .int, rfl, toPys_ints ks, rfl, shaped_ints ks, by rw [any_ints]; exact k⟩
end
end L3
namespace L4
open L3
theorem Okb.dv {N N' M : Nat} {q : Rat} (h : Okb N M q) (d : N ∣ N') : Okb N' M q := by
  obtain ⟨k, rfl⟩ := d
  exact h.wide k
theorem set_range {α : Type} {n k : Nat} (F : Nat → α) (v : α) : ((List.range n).map F).set k v = (List.range n).map fun j => if j = k then v else F j := by
  apply List.ext_getElem
  · simp
  · intro i h1 h2
    rw [List.getElem_set]
    simp only [List.getElem_map, List.getElem_range]
    by_cases e : k = i
    · subst e; simp
    · rw [if_neg e, if_neg (fun z => e z.symm)]
end L4
namespace L3
open PySem PySem.Spec PyProof.Rows L2
section
variable {m : Mem} {Φ : DK}
theorem cl_nats (n : Nat) (ks : List Nat) : ∀ d ∈ ks.map (fun k : Nat => D.int k), Cl n d := fun d hd => by
  obtain ⟨k, _, rfl⟩ := List.mem_map.mp hd
  exact cl_int n _
theorem k_inN {neg : Bool} {ks : List Nat} {i : Nat} (k : Φ (.bl (if neg then !decide (i ∈ ks) else decide (i ∈ ks))) m) : vIn neg (.int i) (.lst (ks.map fun k : Nat => D.int k)) m Φ := by
  have e : (ks.map fun k : Nat => D.int k) = (ks.map fun k : Nat => (k : Int)).map D.int := by rw [List.map_map]; rfl
  rw [e]
  refine k_inI ?_
  have e2 : decide ((i : Int) ∈ ks.map fun k : Nat => (k : Int)) = decide (i ∈ ks) := by
    congr 1
    apply propext
    rw [List.mem_map]
    constructor
    · rintro ⟨x, hx, e⟩
      have : x = i := by omega
      subst this; exact hx
    · intro h; exact ⟨i, h, rfl⟩
  rw [e2]; exact k
theorem ixN_nat {n k : Nat} (h : k < n) : ixN n (k : Int) = some k := by
  have h1 := atI_nat (xs := List.range n) (j := k) (v := k) (by simp [h])
  unfold L2.atI at h1
  rw [List.length_range] at h1
  cases e : ixN n (k : Int) with
  | none => rw [e] at h1; cases h1
  | some j =>
    rw [e] at h1
    have h2 : (List.range n)[j]? = some k := h1
    obtain ⟨h3, h4⟩ := List.getElem?_eq_some_iff.mp h2
    rw [List.getElem_range] at h4
    rw [h4]
end
end L3
namespace L4
open L3
open Rat (divInt)
theorem okz {N M : Nat} {q : Rat} (h : Okb N M q) (h0 : 0 < N) : q.num.natAbs.log2 ≤ M.log2 + N.log2 + 1 ∧ q.den.log2 ≤ N.log2 := by
  have hd : q.den ≤ N := h.dn.le h0
  have h3 : q.num * 1 ≤ (M : Int) * q.den := by
    have := (am_le q (M : Rat)).mp h.le
    rw [Rat.den_natCast, Rat.num_natCast] at this
    exact this
  have h4 : 0 ≤ q.num := am_nonneg.mp h.nn
  have h5 : q.num.natAbs ≤ M * N := by
    have h6 : ((q.num.natAbs : Nat) : Int) = q.num := by omega
    have h7 : (M : Int) * q.den ≤ (M : Int) * N := Int.mul_le_mul_of_nonneg_left (by omega) (by omega)
    have h8 : ((q.num.natAbs : Nat) : Int) ≤ ((M * N : Nat) : Int) := by rw [h6, Int.natCast_mul]; omega
    omega
  have a1 := log2_le h5
  have a2 := log2_mul M N
  have a3 := log2_le hd
  exact ⟨by omega, by omega⟩
end L4
/-! C13: the laws' shared helpers (the bag of draws whose first seed is 13965; amounts reckoned by Euclid) -/
namespace C13
open PySem PySem.Spec PyProof.Rows L2 L3 L4
open Rat (divInt)
/-- the bag of draws -/
def BagP (ds : List D) : Prop := ∃ (cells : List Int) (i : Nat) (big seed cnt : Int), ds = [.lst (cells.map D.int), .int i, .int big, .int seed, .int cnt] ∧ i ≤ cells.length ∧ cells.length ≤ 63 ∧ 0 ≤ big ∧ 0 ≤ seed ∧ seed < 2147483648
def sp_law_bag : LSp := fun ds m Φ => ∃ ns : List Int, ds = [.lst (ns.map D.int)] ∧ ns.length ≤ 63 ∧ ∀ b, m b = none → Φ (.ref b) (mset m b (.any BagP))
def sp_law_draw : LSp := fun ds m Φ => ∃ (b : Addr) (n : Int), ds = [.ref b, .int n] ∧ m b = some (.any BagP) ∧ 1 ≤ n ∧ n < 2 ^ 62 ∧ ∀ d, 0 ≤ d → d < n → Φ (.int d) m
def sp_law_of : LSp := fun ds m Φ => ∃ (b : Addr) (xs : List D), m b = some (.any BagP) ∧ xs ≠ [] ∧ xs.length < 1000000 ∧ (ds = [.ref b, .lst xs] ∨ ∃ a, ds = [.ref b, .ref a] ∧ m a = some (.lst xs)) ∧ ∀ x ∈ xs, Φ x m
def sp_law_amount : LSp := fun ds m Φ => ∃ (t b : Int), ds = [.int t, .int b] ∧ 0 ≤ t ∧ 0 < b ∧ b.natAbs.log2 < 9000 ∧ Φ (am (divInt t b)) m
def sp_law_sum : LSp := fun ds m Φ => ∃ (p q : Rat), ds = [am p, am q] ∧ 0 ≤ p ∧ 0 ≤ q ∧ Bg p ∧ Bg q ∧ Φ (am (p + q)) m
def sp_law_rest : LSp := fun ds m Φ => ∃ (p q : Rat), ds = [am p, am q] ∧ 0 ≤ p ∧ 0 ≤ q ∧ Bg p ∧ Bg q ∧ Φ (am (rest p q)) m
def sp_law_scaled : LSp := fun ds m Φ => ∃ (p : Rat) (t b : Int), ds = [am p, .int t, .int b] ∧ 0 ≤ p ∧ Bg p ∧ 0 ≤ t ∧ t < 2 ^ 30 ∧ 0 < b ∧ b < 2 ^ 30 ∧ Φ (am (p * divInt t b)) m
def sp_law_less : LSp := fun ds m Φ => ∃ (p q : Rat), ds = [am p, am q] ∧ Bg p ∧ Bg q ∧ Φ (.bl (decide (p < q))) m
def sp_law_min : LSp := fun ds m Φ => ∃ (p q : Rat), ds = [am p, am q] ∧ Bg p ∧ Bg q ∧ Φ (am (mn p q)) m
def sp_law_max : LSp := fun ds m Φ => ∃ (p q : Rat), ds = [am p, am q] ∧ Bg p ∧ Bg q ∧ Φ (am (mx p q)) m
def sp_law_all : LSp := fun ds m Φ => ∃ (qs : List Rat) (N M : Nat), ds = [.lst (qs.map am)] ∧ (∀ q ∈ qs, Okb N M q) ∧ qs.length ≤ 1000000 ∧ 0 < N ∧ N.log2 < 1900 ∧ M.log2 < 1900 ∧ Φ (am (total qs)) m
def sp_law_same : Nat → LSp
  | 0 => fun _ _ _ => False
  | n + 1 => fun ds m Φ => ∃ x, ds = [x, x] ∧ flat n x ∧ Φ (.bl true) m
def sp_law_some : LSp := fun ds m Φ => ∃ (b : Addr) (n : Nat), ds = [.ref b, .int n] ∧ m b = some (.any BagP) ∧ n < 2 ^ 30 ∧ ∀ q, Okb 30 n q → Φ (am q) m
def sp_law_part : LSp := fun ds m Φ => ∃ (b : Addr) (p : Rat), ds = [.ref b, am p] ∧ m b = some (.any BagP) ∧ 0 ≤ p ∧ Bg p ∧ ∀ q, 0 ≤ q → q ≤ p → (∀ N, Dn N p → Dn (N * 30) q) → Φ (am q) m
/-- _law_bag: 0 _law_script, 1 _law_seed, 2 _law_cell -/
def qb_law_bag : QS :=
  (sSeq (sAsg (.nm 1) (qC (.int 13965)))
    (sSeq (sFor (iLst (qSlL (qVar 0) qNoPart (qPart (qC (.int 63))))) (.nm 2) (sAsg (.nm 1) (qOp (qIC (fun _ j => 0 < j) fun i j => .int (i % j)) (qCB bInt (qCons (qOp qAdd (qOp qAdd (qOp (qIC CM fun i j => .int (i * j)) (qVar 1) (qC (.int 69621))) (qOp (qIC (fun _ j => 0 < j) fun i j => .int (i % j)) (qCB bInt (qCons (qVar 2) qNil)) (qC (.int 2147483629)))) (qC (.int 17))) qNil)) (qC (.int 2147483587)))))
    (sRet (qLstM (qCons (qFreeze (qCB bList (qCons (qSlL (qVar 0) qNoPart (qPart (qC (.int 63)))) qNil))) (qCons (qC (.int 0)) (qCons (qC (.int 0)) (qCons (qVar 1) (qCons (qC (.int 0)) qNil)))))))))
/-- _law_draw: 0 _law_bag_here, 1 _law_many, 2 _law_cell, 3 _law_digit, 4 _law_seed -/
def qb_law_draw : QS :=
  (sOpen (sSeq (sSub (qVar 0) (qC (.int 4)) (qOp qAdd (qOp vIx (qVar 0) (qC (.int 4))) (qC (.int 1))))
    (sSeq (sIf (qAnd (qB (qOp vEq (qOp vIx (qVar 0) (qC (.int 2))) (qC (.int 0)))) (qB (qOp (qI0 fun i j => .bl (decide (i < j))) (qOp vIx (qVar 0) (qC (.int 1))) (qCB bLen (qCons (qOp vIx (qVar 0) (qC (.int 0))) qNil))))) (sSeq (sAsg (.nm 2) (qOp vIx (qOp vIx (qVar 0) (qC (.int 0))) (qOp vIx (qVar 0) (qC (.int 1)))))
    (sSeq (sSub (qVar 0) (qC (.int 1)) (qOp qAdd (qOp vIx (qVar 0) (qC (.int 1))) (qC (.int 1))))
    (sIf (qB (qOp (qI0 fun i j => .bl (decide (j ≤ i))) (qVar 2) (qOp qPow (qC (.int 10)) (qC (.int 18))))) (sSub (qVar 0) (qC (.int 2)) (qVar 2)) (sSub (qVar 0) (qC (.int 3)) (qOp (qIC (fun _ j => 0 < j) fun i j => .int (i % j)) (qCB bInt (qCons (qOp qAdd (qOp qAdd (qOp (qIC CM fun i j => .int (i * j)) (qOp vIx (qVar 0) (qC (.int 3))) (qC (.int 39373))) (qOp (qIC CM fun i j => .int (i * j)) (qOp (qIC (fun _ j => 0 < j) fun i j => .int (i % j)) (qCB bInt (qCons (qVar 2) qNil)) (qC (.int 2147483549))) (qC (.int 24571)))) (qC (.int 59))) qNil)) (qC (.int 2147483579))))))) sNext)
    (sSeq (sIf (qB (qOp (qI0 fun i j => .bl (decide (j < i))) (qOp vIx (qVar 0) (qC (.int 2))) (qC (.int 0)))) (sSeq (sAsg (.nm 3) (qOp (qIC (fun _ j => 0 < j) fun i j => .int (i % j)) (qCB bInt (qCons (qOp vIx (qVar 0) (qC (.int 2))) qNil)) (qVar 1)))
    (sSeq (sSub (qVar 0) (qC (.int 2)) (qOp (qIC CDivW fun i j => .int (i / j)) (qOp vIx (qVar 0) (qC (.int 2))) (qVar 1)))
    (sRet (qVar 3)))) sNext)
    (sSeq (sAsg (.nm 4) (qOp vIx (qVar 0) (qC (.int 3))))
    (sSeq (sSub (qVar 0) (qC (.int 3)) (qOp (qIC (fun _ j => 0 < j) fun i j => .int (i % j)) (qCB bInt (qCons (qOp qAdd (qOp qAdd (qOp qAdd (qOp (qIC CM fun i j => .int (i * j)) (qOp (qIC CM fun i j => .int (i * j)) (qVar 4) (qVar 4)) (qC (.int 29))) (qOp (qIC CM fun i j => .int (i * j)) (qVar 4) (qC (.int 48673)))) (qOp (qIC CM fun i j => .int (i * j)) (qOp vIx (qVar 0) (qC (.int 4))) (qC (.int 1500007)))) (qC (.int 70001))) qNil)) (qC (.int 2147483579))))
    (sRet (qOp (qIC (fun _ j => 0 < j) fun i j => .int (i % j)) (qCB bInt (qCons (qOp qAdd (qOp (qIC CDivW fun i j => .int (i / j)) (qOp vIx (qVar 0) (qC (.int 3))) (qC (.int 101))) (qOp (qIC CM fun i j => .int (i * j)) (qOp (qIC (fun _ j => 0 < j) fun i j => .int (i % j)) (qCB bInt (qCons (qOp vIx (qVar 0) (qC (.int 3))) qNil)) (qC (.int 6007))) (qC (.int 83)))) qNil)) (qVar 1)))))))))
/-- _law_of: 0 _law_bag_here, 1 _law_things -/
def qb_law_of : QS :=
  (sRet (qOp vIx (qVar 1) (qCall sp_law_draw (qCons (qVar 0) (qCons (qCB bLen (qCons (qVar 1) qNil)) qNil)))))
/-- _law_amount: 0 _law_top, 1 _law_bottom, 2 _law_one, 3 _law_two -/
def qb_law_amount : QS :=
  (sSeq (sPar 2 3 (qCons (qVar 0) (qCons (qVar 1) qNil)))
    (sSeq (sWhile (qB (qOp (qI0 fun i j => .bl (decide (j < i))) (qVar 3) (qC (.int 0)))) (sPar 2 3 (qCons (qVar 3) (qCons (qOp (qIC (fun _ j => 0 < j) fun i j => .int (i % j)) (qCB bInt (qCons (qVar 2) qNil)) (qVar 3)) qNil))))
    (sRet (qTup (qCons (qOp (qIC CDivW fun i j => .int (i / j)) (qVar 0) (qVar 2)) (qCons (qOp (qIC CDivW fun i j => .int (i / j)) (qVar 1) (qVar 2)) qNil))))))
/-- _law_sum: 0 _law_one, 1 _law_two -/
def qb_law_sum : QS :=
  (sRet (qCall sp_law_amount (qCons (qOp qAdd (qOp (qIC CM fun i j => .int (i * j)) (qOp vIx (qVar 0) (qC (.int 0))) (qOp vIx (qVar 1) (qC (.int 1)))) (qOp (qIC CM fun i j => .int (i * j)) (qOp vIx (qVar 1) (qC (.int 0))) (qOp vIx (qVar 0) (qC (.int 1))))) (qCons (qOp (qIC CM fun i j => .int (i * j)) (qOp vIx (qVar 0) (qC (.int 1))) (qOp vIx (qVar 1) (qC (.int 1)))) qNil))))
/-- _law_rest: 0 _law_one, 1 _law_two -/
def qb_law_rest : QS :=
  (sRet (qCall sp_law_amount (qCons (qCB bMax2 (qCons (qOp (qI0 fun i j => .int (i - j)) (qOp (qIC CM fun i j => .int (i * j)) (qOp vIx (qVar 0) (qC (.int 0))) (qOp vIx (qVar 1) (qC (.int 1)))) (qOp (qIC CM fun i j => .int (i * j)) (qOp vIx (qVar 1) (qC (.int 0))) (qOp vIx (qVar 0) (qC (.int 1))))) (qCons (qC (.int 0)) qNil))) (qCons (qOp (qIC CM fun i j => .int (i * j)) (qOp vIx (qVar 0) (qC (.int 1))) (qOp vIx (qVar 1) (qC (.int 1)))) qNil))))
/-- _law_scaled: 0 _law_one, 1 _law_top, 2 _law_bottom -/
def qb_law_scaled : QS :=
  (sRet (qCall sp_law_amount (qCons (qOp (qIC CM fun i j => .int (i * j)) (qOp vIx (qVar 0) (qC (.int 0))) (qVar 1)) (qCons (qOp (qIC CM fun i j => .int (i * j)) (qOp vIx (qVar 0) (qC (.int 1))) (qVar 2)) qNil))))
/-- _law_all: 0 _law_row, 1 _law_found, 2 _law_one -/
def qb_law_all : QS :=
  (sSeq (sAsg (.nm 1) (qTup (qCons (qC (.int 0)) (qCons (qC (.int 1)) qNil))))
    (sSeq (sFor (iLst (qVar 0)) (.nm 2) (sAsg (.nm 1) (qCall sp_law_sum (qCons (qVar 1) (qCons (qVar 2) qNil)))))
    (sRet (qVar 1))))
/-- _law_same: 0 _law_told, 1 _law_due, 2 _law_one, 3 _law_two -/
def qb_law_same (n : Nat) : QS :=
  (sSeq (sIf (qB (qIsiT ["tuple", "list"] (qVar 1))) (sSeq (sIf (qOr (qB (qOp vNe (qIsi "tuple" (qVar 0)) (qIsi "tuple" (qVar 1)))) (qB (qOp vNe (qIsi "list" (qVar 0)) (qIsi "list" (qVar 1))))) (sRet (qC (.bl false))) sNext)
    (sRet (qAndV (qOp vEq (qCB bLen (qCons (qVar 0) qNil)) (qCB bLen (qCons (qVar 1) qNil))) (qCB bAll (qCons (qFreeze (qLc (iZipD (qCons (qVar 0) (qCons (qVar 1) qNil))) (.tp [(.nm 2), (.nm 3)]) qYes (qCall (sp_law_same n) (qCons (qVar 2) (qCons (qVar 3) qNil))) [2, 3])) qNil))))) sNext)
    (sSeq (sIf (qOr (qB (qOp qIsN (qVar 1) (qC .non))) (qB (qOp qIsN (qVar 0) (qC .non)))) (sRet (qAndV (qOp qIsN (qVar 1) (qC .non)) (qOp qIsN (qVar 0) (qC .non)))) sNext)
    (sSeq (sIf (qOr (qB (qOp vNe (qIsi "bool" (qVar 0)) (qIsi "bool" (qVar 1)))) (qB (qOp vNe (qIsi "int" (qVar 0)) (qIsi "int" (qVar 1))))) (sRet (qC (.bl false))) sNext)
    (sRet (qAndV (qOp vEq (qIsi "str" (qVar 0)) (qIsi "str" (qVar 1))) (qOp vEq (qVar 0) (qVar 1)))))))
/-- _law_some: 0 _law_bag_here, 1 _law_most, 2 _law_bottom -/
def qb_law_some : QS :=
  (sSeq (sAsg (.nm 2) (qCall sp_law_of (qCons (qVar 0) (qCons (qLstF (qCons (qC (.int 1)) (qCons (qC (.int 1)) (qCons (qC (.int 2)) (qCons (qC (.int 1)) (qCons (qC (.int 3)) (qCons (qC (.int 1)) (qCons (qC (.int 2)) (qCons (qC (.int 5)) qNil))))))))) qNil))))
    (sRet (qCall sp_law_amount (qCons (qCall sp_law_draw (qCons (qVar 0) (qCons (qOp qAdd (qOp (qIC CM fun i j => .int (i * j)) (qVar 1) (qVar 2)) (qC (.int 1))) qNil))) (qCons (qVar 2) qNil)))))
/-- _law_part: 0 _law_bag_here, 1 _law_one, 2 _law_top, 3 _law_bottom -/
def qb_law_part : QS :=
  (sSeq (sAsg (.tp [(.nm 2), (.nm 3)]) (qCall sp_law_of (qCons (qVar 0) (qCons (qLstF (qCons (qTup (qCons (qC (.int 1)) (qCons (qC (.int 1)) qNil))) (qCons (qTup (qCons (qC (.int 0)) (qCons (qC (.int 1)) qNil))) (qCons (qTup (qCons (qC (.int 1)) (qCons (qC (.int 2)) qNil))) (qCons (qTup (qCons (qC (.int 1)) (qCons (qC (.int 1)) qNil))) (qCons (qTup (qCons (qC (.int 2)) (qCons (qC (.int 3)) qNil))) (qCons (qTup (qCons (qC (.int 1)) (qCons (qC (.int 5)) qNil))) qNil))))))) qNil))))
    (sRet (qCall sp_law_scaled (qCons (qVar 1) (qCons (qVar 2) (qCons (qVar 3) qNil))))))
/-- _law_less: 0 _law_one, 1 _law_two -/
def qb_law_less : QS :=
  (sRet (qOp (qI0 fun i j => .bl (decide (i < j))) (qOp (qIC CM fun i j => .int (i * j)) (qOp vIx (qVar 0) (qC (.int 0))) (qOp vIx (qVar 1) (qC (.int 1)))) (qOp (qIC CM fun i j => .int (i * j)) (qOp vIx (qVar 1) (qC (.int 0))) (qOp vIx (qVar 0) (qC (.int 1))))))
/-- _law_min -/
def qb_law_min : QS :=
  (sRet (qIfE (qB (qCall sp_law_less (qCons (qVar 1) (qCons (qVar 0) qNil)))) (qVar 1) (qVar 0)))
/-- _law_max -/
def qb_law_max : QS :=
  (sRet (qIfE (qB (qCall sp_law_less (qCons (qVar 0) (qCons (qVar 1) qNil)))) (qVar 1) (qVar 0)))
theorem bag_ok {cells : List Int} {i : Nat} {big seed cnt : Int} (h1 : i ≤ cells.length) (h2 : cells.length ≤ 63) (h3 : 0 ≤ big) (h4 : 0 ≤ seed) (h5 : seed < 2147483648) : BagP [.lst (cells.map D.int), .int i, .int big, .int seed, .int cnt] := ⟨cells, i, big, seed, cnt, rfl, h1, h2, h3, h4, h5⟩
theorem len_law_draw : ∀ ds m Φ, sp_law_draw ds m Φ → ds.length = 2 := by rintro _ _ _ ⟨_, _, rfl, _⟩; rfl
theorem rd_law_draw : ∀ ds m Φ, sp_law_draw ds m Φ → qb_law_draw (bodyW Φ) (begin_ 5 ds) m := by
  rintro _ m Φ ⟨b, n, rfl, hb, h1, h2, k⟩
  refine ⟨b, _, hb, ?_⟩
  rintro _ ⟨cells, i, big, seed, cnt, rfl, c1, c2, c3, c4, c5⟩
  refine Or.inl ⟨_, _, _, rfl, mset_same, rfl, Or.inl ⟨_, _, _, rfl, mset_same, rfl, ?_⟩⟩
  rw [mset_mset]
  -- the second statement leaves such a bag, whatever it does
  have go : ∀ (s2 : DSt) (i : Nat) (big seed cnt : Int), look s2 0 = some (.ref b) → look s2 1 = some (.int n) → s2.length = 5 → i ≤ cells.length → 0 ≤ big → 0 ≤ seed → seed < 2147483648 → (sSeq (sIf (qB (qOp (qI0 fun i j => .bl (decide (j < i))) (qOp vIx (qVar 0) (qC (.int 2))) (qC (.int 0)))) (sSeq (sAsg (.nm 3) (qOp (qIC (fun _ j => 0 < j) fun i j => .int (i % j)) (qCB bInt (qCons (qOp vIx (qVar 0) (qC (.int 2))) qNil)) (qVar 1)))
    (sSeq (sSub (qVar 0) (qC (.int 2)) (qOp (qIC CDivW fun i j => .int (i / j)) (qOp vIx (qVar 0) (qC (.int 2))) (qVar 1)))
    (sRet (qVar 3)))) sNext)
    (sSeq (sAsg (.nm 4) (qOp vIx (qVar 0) (qC (.int 3))))
    (sSeq (sSub (qVar 0) (qC (.int 3)) (qOp (qIC (fun _ j => 0 < j) fun i j => .int (i % j)) (qCB bInt (qCons (qOp qAdd (qOp qAdd (qOp qAdd (qOp (qIC CM fun i j => .int (i * j)) (qOp (qIC CM fun i j => .int (i * j)) (qVar 4) (qVar 4)) (qC (.int 29))) (qOp (qIC CM fun i j => .int (i * j)) (qVar 4) (qC (.int 48673)))) (qOp (qIC CM fun i j => .int (i * j)) (qOp vIx (qVar 0) (qC (.int 4))) (qC (.int 1500007)))) (qC (.int 70001))) qNil)) (qC (.int 2147483579))))
    (sRet (qOp (qIC (fun _ j => 0 < j) fun i j => .int (i % j)) (qCB bInt (qCons (qOp qAdd (qOp (qIC CDivW fun i j => .int (i / j)) (qOp vIx (qVar 0) (qC (.int 3))) (qC (.int 101))) (qOp (qIC CM fun i j => .int (i * j)) (qOp (qIC (fun _ j => 0 < j) fun i j => .int (i % j)) (qCB bInt (qCons (qOp vIx (qVar 0) (qC (.int 3))) qNil)) (qC (.int 6007))) (qC (.int 83)))) qNil)) (qVar 1)))))) (bodyW Φ) s2 (mset m b (.lst [.lst (cells.map D.int), .int i, .int big, .int seed, .int cnt])) := by
    intro s2 i big seed cnt l0 l1 hl c1 c3 c4 c5
    obtain ⟨x0, x1, x2, x3, x4, rfl⟩ : ∃ x0 x1 x2 x3 x4, s2 = [x0, x1, x2, x3, x4] := by
      match s2, hl with | [x0, x1, x2, x3, x4], _ => exact ⟨_, _, _, _, _, rfl⟩
    obtain rfl : x0 = some (.ref b) := l0
    obtain rfl : x1 = some (.int n) := l1
    refine Or.inl ⟨_, _, _, rfl, mset_same, rfl, ?_⟩
    refine qif (fun h => ?_) (fun h => ?_)
    · refine Or.inl ⟨_, _, _, rfl, mset_same, rfl, ?_, Or.inl ⟨_, _, _, rfl, mset_same, rfl, ?_, Or.inl ⟨_, _, _, rfl, mset_same, rfl, ?_⟩⟩⟩
      · show 0 < n; omega
      · exact cd_s (by omega) (by omega)
      · rw [mset_mset]
        refine ⟨m, MLe.close hb (bag_ok (cnt := cnt) c1 c2 (Int.ediv_nonneg c3 (by omega)) c4 c5), ?_⟩
        exact k _ (Int.emod_nonneg _ (by omega)) (Int.emod_lt_of_pos _ (by omega))
    · refine Or.inl ⟨_, _, _, rfl, mset_same, rfl, ?_⟩
      refine ⟨cm_l c4 (by omega), cm_r (by omega) (by omega), cm_r (by omega) (by omega), Or.inl ⟨_, _, _, rfl, mset_same, rfl, cm_r (by omega) (by omega), ?_, Or.inl ⟨_, _, _, rfl, mset_same, rfl, ?_⟩⟩⟩
      · show (0 : Int) < 2147483579; omega
      · rw [mset_mset]
        refine Or.inl ⟨_, _, _, rfl, mset_same, rfl, cd_s (by omega) (by omega), Or.inl ⟨_, _, _, rfl, mset_same, rfl, ?_, cm_r (by omega) (by omega), ?_, ?_⟩⟩
        · show (0 : Int) < 6007; omega
        · show 0 < n; omega
        · refine ⟨m, MLe.close hb (bag_ok c1 c2 c3 (Int.emod_nonneg _ (by omega)) ?_), ?_⟩
          · exact Int.lt_trans (Int.emod_lt_of_pos _ (by omega)) (by omega)
          · exact k _ (Int.emod_nonneg _ (by omega)) (Int.emod_lt_of_pos _ (by omega))
  refine Or.inl ⟨_, _, _, rfl, mset_same, rfl, ?_⟩
  refine qif (fun h => ?_) (fun h => ?_)
  · have hz : big = 0 := dec_t h
    refine Or.inl ⟨_, _, _, rfl, mset_same, rfl, Or.inl ⟨_, _, _, rfl, mset_same, rfl, ?_⟩⟩
    refine qif (fun h => ?_) (fun h => ?_)
    · have hi : (i : Int) < ((cells.map D.int).length : Int) := dec_t h
      rw [List.length_map] at hi
      have hi : i < cells.length := by omega
      refine Or.inl ⟨_, _, _, rfl, mset_same, rfl, Or.inl ⟨_, _, _, rfl, mset_same, rfl, D.int cells[i], atI_nat (by rw [List.getElem?_map, List.getElem?_eq_getElem hi]; rfl), ?_⟩⟩
      refine Or.inl ⟨_, _, _, rfl, mset_same, rfl, Or.inl ⟨_, _, _, rfl, mset_same, rfl, ?_⟩⟩
      rw [mset_mset]
      refine ⟨⟨by decide, by decide, by decide⟩, fun n18 hn18 => ?_⟩
      have hp18 : (0 : Int) ≤ n18 := by rw [hn18]; decide
      refine qif (fun h => ?_) (fun h => ?_)
      · have h : n18 ≤ cells[i] := dec_t h
        refine Or.inl ⟨_, _, _, rfl, mset_same, rfl, ?_⟩
        rw [mset_mset]
        exact go [some (.ref b), some (.int n), some (.int cells[i]), none, none] (i + 1) cells[i] seed (cnt + 1) rfl rfl rfl hi (by omega) c4 c5
      · refine Or.inl ⟨_, _, _, rfl, mset_same, rfl, cm_r (by omega) (by omega), ?_, cm_r (by omega) (by omega), ?_, Or.inl ⟨_, _, _, rfl, mset_same, rfl, ?_⟩⟩
        · show (0 : Int) < 2147483549; omega
        · show (0 : Int) < 2147483579; omega
        · rw [mset_mset]
          refine go [some (.ref b), some (.int n), some (.int cells[i]), none, none] (i + 1) big ((seed * 39373 + cells[i] % 2147483549 * 24571 + 59) % 2147483579) (cnt + 1) rfl rfl rfl hi c3 (by omega) (by omega)
    · exact go [some (.ref b), some (.int n), none, none, none] i big seed (cnt + 1) rfl rfl rfl c1 c3 c4 c5
  · refine qif_f rfl ?_
    exact go [some (.ref b), some (.int n), none, none, none] i big seed (cnt + 1) rfl rfl rfl c1 c3 c4 c5
theorem len_law_bag : ∀ ds m Φ, sp_law_bag ds m Φ → ds.length = 1 := by rintro _ _ _ ⟨_, rfl, _⟩; rfl
theorem cut63 {ns : List Int} (h : ns.length ≤ 63) : L3.cutD (ns.map D.int) none (some 63) = ns.map D.int := by
  unfold L3.cutD
  have e1 : HT.sIx (ns.map D.int).length 0 none = 0 := rfl
  have e2 : HT.sIx (ns.map D.int).length (ns.map D.int).length (some 63) = ns.length := by
    rw [List.length_map]
    exact (HT.sIx_nat ns.length ns.length 63).trans (by omega)
  rw [e1, e2, List.drop_zero, Nat.sub_zero]
  exact List.take_of_length_le (by rw [List.length_map]; exact Nat.le_refl _)
theorem rd_law_bag : ∀ ds m Φ, sp_law_bag ds m Φ → qb_law_bag (bodyW Φ) (begin_ 3 ds) m := by
  rintro _ m Φ ⟨ns, rfl, hl, k⟩
  refine ⟨fun i s' m' => m' = m ∧ ∃ (seed : Int) (c : Option D), s' = [some (.lst (ns.map D.int)), some (.int seed), c] ∧ 0 ≤ seed ∧ seed < 2147483648, ⟨rfl, 13965, none, rfl, by omega, by omega⟩, fun _ _ _ _ _ => trivial, ?_, ?_⟩
  · rintro i d s' m' hd ⟨rfl, seed, c, rfl, h1, h2⟩
    rw [cut63 hl, List.getElem?_map] at hd
    cases e : ns[i]? with
    | none => rw [e] at hd; cases hd
    | some z =>
      rw [e] at hd
      obtain rfl : D.int z = d := Option.some.inj hd
      refine ⟨cm_r (by omega) (by omega), ?_, ?_, ?_⟩
      · show (0 : Int) < 2147483629; omega
      · show (0 : Int) < 2147483587; omega
      · exact ⟨rfl, (seed * 69621 + z % 2147483629 + 17) % 2147483587, _, rfl, by omega, by omega⟩
  · rintro s' m' ⟨rfl, seed, c, rfl, h1, h2⟩
    -- list(script[:63]), frozen; the bag
    intro p hp
    refine ⟨_, mset_same, ?_⟩
    rw [mdel_mset hp]
    refine ⟨by show 5 ≤ sizeLine; decide, fun b hb => ?_⟩
    refine ⟨mset m' b (.any BagP), MLe.any ?_, k b hb⟩
    exact ⟨ns, 0, 0, seed, 0, by rw [cut63 hl]; rfl, Nat.zero_le _, hl, by omega, h1, h2⟩
theorem len_law_of : ∀ ds m Φ, sp_law_of ds m Φ → ds.length = 2 := by
  rintro _ _ _ ⟨_, _, _, _, _, rfl | ⟨_, rfl, _⟩, _⟩ <;> rfl
theorem rd_law_of : ∀ ds m Φ, sp_law_of ds m Φ → qb_law_of (bodyW Φ) (begin_ 2 ds) m := by
  rintro _ m Φ ⟨b, xs, hb, hx, hz, h, k⟩
  have hl : 0 < xs.length := List.length_pos_iff.mpr hx
  rcases h with rfl | ⟨a, rfl, ha⟩
  · refine ⟨b, _, rfl, hb, by omega, by omega, fun d h0 h1 => ?_⟩
    obtain ⟨x, hx, e⟩ := atI_in xs h0 h1
    exact ⟨x, e, wk_at (k x hx)⟩
  · refine Or.inl ⟨xs, ha, b, _, rfl, hb, by omega, by omega, fun d h0 h1 => ?_⟩
    obtain ⟨x, hx, e⟩ := atI_in xs h0 h1
    exact Or.inl ⟨_, _, x, rfl, ha, e, wk_at (k x hx)⟩
theorem len_law_amount : ∀ ds m Φ, sp_law_amount ds m Φ → ds.length = 2 := by rintro _ _ _ ⟨_, _, rfl, _⟩; rfl
theorem rd_law_amount : ∀ ds m Φ, sp_law_amount ds m Φ → qb_law_amount (bodyW Φ) (begin_ 4 ds) m := by
  rintro _ m Φ ⟨t, b, rfl, h1, h2, h3, k⟩
  refine ⟨fun n s' m' => m' = m ∧ ∃ (x y : Int), s' = [some (.int t), some (.int b), some (.int x), some (.int y)] ∧ 0 ≤ x ∧ 0 ≤ y ∧ y.toNat = n ∧ Int.gcd x y = Int.gcd t b ∧ (0 < x ∨ 0 < y), ⟨_, rfl, t, b, rfl, h1, by omega, rfl, rfl, .inr h2⟩, ?_⟩
  rintro n s' m' ⟨rfl, x, y, rfl, hx, hy, rfl, hg, hp⟩
  refine qif (fun h => ?_) (fun h => ?_)
  · have h : 0 < y := dec_t h
    refine ⟨?_, ?_⟩
    · exact h
    · have e1 : 0 ≤ x % y := Int.emod_nonneg _ (by omega)
      have e2 : x % y < y := Int.emod_lt_of_pos _ h
      refine ⟨(x % y).toNat, by omega, rfl, y, x % y, rfl, hy, e1, rfl, ?_, .inl h⟩
      rw [← hg]
      rw [Int.gcd_comm x y]
      exact gcd_step hx hy
  · have h : ¬ 0 < y := dec_f h
    have hy0 : y = 0 := by omega
    subst hy0
    have ex : x = (Int.gcd t b : Nat) := by
      rw [← hg, Int.gcd_zero_right]; omega
    have hlt : x ≤ b := by
      rw [ex]
      have := Int.gcd_le_right (a := t) h2
      omega
    refine ⟨cd_le (by omega) hlt h3, cd_le (by omega) hlt h3, by show 2 ≤ 16777216; decide, wk_at ?_⟩
    have e : D.tup [.int (t / x), .int (b / x)] = am (divInt t b) := am_low h2 ex
    rw [e]
    exact k
theorem len_law_sum : ∀ ds m Φ, sp_law_sum ds m Φ → ds.length = 2 := by rintro _ _ _ ⟨_, _, rfl, _⟩; rfl
theorem rd_law_sum : ∀ ds m Φ, sp_law_sum ds m Φ → qb_law_sum (bodyW Φ) (begin_ 2 ds) m := by
  rintro _ m Φ ⟨p, q, rfl, hp, hq, h1, h2, k⟩
  refine ⟨_, rfl, _, rfl, cm_nd h1 h2, _, rfl, _, rfl, cm_nd h2 h1, _, rfl, _, rfl, cm_dd h1 h2, _, _, rfl, ?_, den_mul_pos p q, dd_log h1 h2, wk_at ?_⟩
  · exact Int.add_nonneg (Int.mul_nonneg (am_nonneg.mp hp) (by omega)) (Int.mul_nonneg (am_nonneg.mp hq) (by omega))
  · rw [am_add]; exact k
theorem len_law_rest : ∀ ds m Φ, sp_law_rest ds m Φ → ds.length = 2 := by rintro _ _ _ ⟨_, _, rfl, _⟩; rfl
theorem rd_law_rest : ∀ ds m Φ, sp_law_rest ds m Φ → qb_law_rest (bodyW Φ) (begin_ 2 ds) m := by
  rintro _ m Φ ⟨p, q, rfl, hp, hq, h1, h2, k⟩
  refine ⟨_, rfl, _, rfl, cm_nd h1 h2, _, rfl, _, rfl, cm_nd h2 h1, ?_⟩
  refine ⟨_, rfl, _, rfl, cm_dd h1 h2, _, _, rfl, ?_, den_mul_pos p q, dd_log h1 h2, wk_at ?_⟩
  · show 0 ≤ (if 0 > p.num * q.den - q.num * p.den then 0 else p.num * q.den - q.num * p.den)
    split <;> omega
  · show Φ (am (divInt (if 0 > p.num * q.den - q.num * p.den then 0 else p.num * q.den - q.num * p.den) (p.den * q.den))) m
    rw [rest_eq]; exact k
theorem len_law_scaled : ∀ ds m Φ, sp_law_scaled ds m Φ → ds.length = 3 := by rintro _ _ _ ⟨_, _, _, rfl, _⟩; rfl
theorem rd_law_scaled : ∀ ds m Φ, sp_law_scaled ds m Φ → qb_law_scaled (bodyW Φ) (begin_ 3 ds) m := by
  rintro _ m Φ ⟨p, t, b, rfl, hp, h1, h2, h3, h4, h5, k⟩
  have hb : ((p.den : Int) * b).natAbs.log2 < 9000 := by
    rw [Int.natAbs_mul, den_abs]
    have a1 := log2_mul p.den b.natAbs
    have a2 := log2_small (a := b.natAbs) (k := 30) (by omega) (by decide)
    have a3 := h1.2
    omega
  refine ⟨_, rfl, cm_r h2 (by omega), _, rfl, cm_r (by omega) (by omega), _, _, rfl, ?_, Int.mul_pos (den_pos p) h4, hb, wk_at ?_⟩
  · exact Int.mul_nonneg (am_nonneg.mp hp) h2
  · rw [am_scale]; exact k
theorem len_law_less : ∀ ds m Φ, sp_law_less ds m Φ → ds.length = 2 := by rintro _ _ _ ⟨_, _, rfl, _⟩; rfl
theorem rd_law_less : ∀ ds m Φ, sp_law_less ds m Φ → qb_law_less (bodyW Φ) (begin_ 2 ds) m := by
  rintro _ m Φ ⟨p, q, rfl, h1, h2, k⟩
  refine ⟨_, rfl, _, rfl, cm_nd h1 h2, _, rfl, _, rfl, cm_nd h2 h1, wk_at ?_⟩
  show Φ (.bl (decide (p.num * q.den < q.num * p.den))) m
  have e : decide (p.num * q.den < q.num * p.den) = decide (p < q) := by congr 1; exact propext (am_lt p q).symm
  rw [e]; exact k
theorem len_law_min : ∀ ds m Φ, sp_law_min ds m Φ → ds.length = 2 := by rintro _ _ _ ⟨_, _, rfl, _⟩; rfl
theorem rd_law_min : ∀ ds m Φ, sp_law_min ds m Φ → qb_law_min (bodyW Φ) (begin_ 2 ds) m := by
  rintro _ m Φ ⟨p, q, rfl, h1, h2, k⟩
  unfold mn at k
  refine ⟨q, p, rfl, h2, h1, qif (fun h => ?_) (fun h => ?_)⟩
  · rw [if_pos (dec_t h)] at k; exact wk_at k
  · rw [if_neg (dec_f h)] at k; exact wk_at k
theorem len_law_max : ∀ ds m Φ, sp_law_max ds m Φ → ds.length = 2 := by rintro _ _ _ ⟨_, _, rfl, _⟩; rfl
theorem rd_law_max : ∀ ds m Φ, sp_law_max ds m Φ → qb_law_max (bodyW Φ) (begin_ 2 ds) m := by
  rintro _ m Φ ⟨p, q, rfl, h1, h2, k⟩
  unfold mx at k
  refine ⟨p, q, rfl, h1, h2, qif (fun h => ?_) (fun h => ?_)⟩
  · rw [if_pos (dec_t h)] at k; exact wk_at k
  · rw [if_neg (dec_f h)] at k; exact wk_at k
theorem len_law_all : ∀ ds m Φ, sp_law_all ds m Φ → ds.length = 1 := by rintro _ _ _ ⟨_, _, _, rfl, _⟩; rfl
theorem rd_law_all : ∀ ds m Φ, sp_law_all ds m Φ → qb_law_all (bodyW Φ) (begin_ 3 ds) m := by
  rintro _ m Φ ⟨qs, N, M, rfl, hq, hl, h0, hN, hM, k⟩
  refine ⟨by show 2 ≤ 16777216; decide, fun i s' m' => m' = m ∧ ∃ c : Option D, s' = [some (.lst (qs.map am)), some (am (total (qs.take i))), c], ⟨rfl, none, rfl⟩, fun _ _ _ _ _ => trivial, ?_, ?_⟩
  · rintro i d s' m' hd ⟨rfl, c, rfl⟩
    obtain ⟨q, hi, rfl⟩ := get_map hd
    have o1 := total_ok (l := qs.take i) fun x hx => hq x (List.mem_of_mem_take hx)
    have o2 := hq q (List.mem_of_getElem? hi)
    have b1 : Bg (total (qs.take i)) := o1.bg h0 hN (by
      have a1 := log2_mul (qs.take i).length M
      have a2 : (qs.take i).length ≤ 1000000 := by rw [List.length_take]; omega
      have a3 := log2_le a2
      have a4 : Nat.log2 1000000 < 20 := by decide
      omega)
    refine ⟨_, _, rfl, o1.nn, o2.nn, b1, o2.bg h0 hN (by omega), rfl, some (am q), ?_⟩
    rw [total_more hi]; rfl
  · rintro s' m' ⟨rfl, c, rfl⟩
    rw [List.length_map, List.take_of_length_le (Nat.le_refl _)]
    exact wk_at k
theorem len_law_same : ∀ n, ∀ ds m Φ, sp_law_same n ds m Φ → ds.length = 2
  | 0 => fun _ _ _ h => h.elim
  | _ + 1 => by rintro _ _ _ ⟨_, rfl, _⟩; rfl
theorem same_zip {n : Nat} {Φ : DK} {m : Mem} {x : D} {ds : List D} (hl : ds.length < 1000000) (hf : ∀ d ∈ ds, flat n d) (k : Φ (.bl true) m) :
    LcIn (.tp [.nm 2, .nm 3]) qYes (qCall (sp_law_same (n + 1)) (qCons (qVar 2) (qCons (qVar 3) qNil))) [some x, some x, none, none] (zipD ds ds) (fun _ => True) m (fun d m1 => match d with
      | .ref a => ∃ ds, m1 a = some (.lst ds) ∧ qCB bAll (qCons (qC (.lst ds)) qNil) [] (mdel m1 a) (bodyW Φ).rt
      | _ => False) := by
  refine lc_by (fun i acc => acc = List.replicate i (.bl true)) rfl (fun _ _ _ => trivial) ?_ ?_
  · rintro i d acc a ha hd hl' rfl
    obtain ⟨y, hy, rfl⟩ := zip_self ds hd
    have hi : i < ds.length := by
      have := (List.getElem?_eq_some_iff.mp hd).1
      rw [zipD_length] at this; omega
    refine qif_t rfl ⟨y, rfl, hf y hy, ?_⟩
    exact lc_ok hl' (by show i < 16777216; omega) (by rw [List.replicate_succ'])
  · rintro acc a ha hl' rfl
    refine ⟨_, mset_same, ?_⟩
    rw [mdel_mset ha]
    refine ⟨List.replicate (zipD ds ds).length true, by rw [List.map_replicate], ?_⟩
    rw [all_true]
    exact wk_at k
theorem rd_law_same (n : Nat) : ∀ ds m Φ, sp_law_same (n + 1) ds m Φ → qb_law_same n (bodyW Φ) (begin_ 4 ds) m := by
  rintro _ m Φ ⟨x, rfl, hf, k⟩
  cases x with
  | int i =>
    refine ⟨"int", false, rfl, rfl, qif_f rfl ?_⟩
    refine qif_f rfl (qif_f rfl ?_)
    refine ⟨"int", false, rfl, rfl, "int", false, rfl, rfl, qif_f rfl ⟨"int", true, rfl, rfl, "int", true, rfl, rfl, qif_f rfl ?_⟩⟩
    refine ⟨"int", false, rfl, rfl, "int", false, rfl, rfl, qif_t rfl ?_⟩
    show ∃ m', MLe m m' ∧ Φ (.bl (decide (i = i))) m'
    rw [decide_eq_true rfl]
    exact wk_at k
  | bl i =>
    refine ⟨"bool", false, rfl, rfl, qif_f rfl ?_⟩
    refine qif_f rfl (qif_f rfl ?_)
    refine ⟨"bool", true, rfl, rfl, "bool", true, rfl, rfl, qif_f rfl ⟨"bool", true, rfl, rfl, "bool", true, rfl, rfl, qif_f rfl ?_⟩⟩
    refine ⟨"bool", false, rfl, rfl, "bool", false, rfl, rfl, qif_t rfl ?_⟩
    show ∃ m', MLe m m' ∧ Φ (.bl (decide (i = i))) m'
    rw [decide_eq_true rfl]
    exact wk_at k
  | non =>
    refine ⟨"NoneType", false, rfl, rfl, qif_f rfl ?_⟩
    refine qif_t rfl (qif_t rfl ?_)
    exact qif_t rfl (wk_at k)
  | str z => cases n <;> exact hf.elim
  | ref a => cases n <;> exact hf.elim
  | tup ds =>
    cases n with
    | zero => exact hf.elim
    | succ n =>
      obtain ⟨hl, hf⟩ := hf
      refine ⟨"tuple", true, rfl, rfl, qif_t rfl ?_⟩
      refine ⟨"tuple", true, rfl, rfl, "tuple", true, rfl, rfl, qif_f rfl ⟨"tuple", false, rfl, rfl, "tuple", false, rfl, rfl, qif_f rfl ?_⟩⟩
      refine qif_t (decide_eq_true rfl) ?_
      exact same_zip hl hf k
  | lst ds =>
    cases n with
    | zero => exact hf.elim
    | succ n =>
      obtain ⟨hl, hf⟩ := hf
      refine ⟨"list", true, rfl, rfl, qif_t rfl ?_⟩
      refine ⟨"list", false, rfl, rfl, "list", false, rfl, rfl, qif_f rfl ⟨"list", true, rfl, rfl, "list", true, rfl, rfl, qif_f rfl ?_⟩⟩
      refine qif_t (decide_eq_true rfl) ?_
      exact same_zip hl hf k
theorem len_law_some : ∀ ds m Φ, sp_law_some ds m Φ → ds.length = 2 := by rintro _ _ _ ⟨_, _, rfl, _⟩; rfl
theorem rd_law_some : ∀ ds m Φ, sp_law_some ds m Φ → qb_law_some (bodyW Φ) (begin_ 3 ds) m := by
  rintro _ m Φ ⟨b, n, rfl, hb, h1, k⟩
  refine ⟨by show 8 ≤ 16777216; decide, b, _, hb, by simp, by decide, .inl rfl, fun x hx => ?_⟩
  obtain ⟨w, M, rfl, w0, w5, e⟩ : ∃ (w : Int) (M : Nat), x = .int w ∧ 0 < w ∧ w ≤ 5 ∧ w * M = (30 : Nat) := by
    simp only [List.mem_cons, List.not_mem_nil, or_false] at hx
    rcases hx with rfl | rfl | rfl | rfl | rfl | rfl | rfl | rfl
    · exact ⟨1, 30, rfl, by decide, by decide, by decide⟩
    · exact ⟨1, 30, rfl, by decide, by decide, by decide⟩
    · exact ⟨2, 15, rfl, by decide, by decide, by decide⟩
    · exact ⟨1, 30, rfl, by decide, by decide, by decide⟩
    · exact ⟨3, 10, rfl, by decide, by decide, by decide⟩
    · exact ⟨1, 30, rfl, by decide, by decide, by decide⟩
    · exact ⟨2, 15, rfl, by decide, by decide, by decide⟩
    · exact ⟨5, 6, rfl, by decide, by decide, by decide⟩
  have hm : (n : Int) * w ≤ n * 5 := Int.mul_le_mul_of_nonneg_left w5 (by omega)
  have hm0 : 0 ≤ (n : Int) * w := Int.mul_nonneg (by omega) (by omega)
  refine ⟨cm_r (by omega) (by omega), b, _, rfl, hb, by omega, by omega, fun d d0 d1 => ?_⟩
  refine ⟨d, w, rfl, d0, w0, ?_, wk_at (k _ ⟨divInt_nn d0 w0, ?_, Dn.of (by omega) M e⟩)⟩
  · have := log2_small (a := w.natAbs) (k := 5) (by omega) (by decide)
    omega
  · have := divInt_le (M := (n : Int)) w0 (show d ≤ n * w by omega)
    rwa [Rat.intCast_natCast] at this
theorem len_law_part : ∀ ds m Φ, sp_law_part ds m Φ → ds.length = 2 := by rintro _ _ _ ⟨_, _, rfl, _⟩; rfl
theorem rd_law_part : ∀ ds m Φ, sp_law_part ds m Φ → qb_law_part (bodyW Φ) (begin_ 4 ds) m := by
  rintro _ m Φ ⟨b, p, rfl, hb, hp, hbg, k⟩
  refine ⟨by show 2 ≤ 16777216; decide, by show 2 ≤ 16777216; decide, by show 2 ≤ 16777216; decide, by show 2 ≤ 16777216; decide, by show 2 ≤ 16777216; decide, by show 2 ≤ 16777216; decide, by show 6 ≤ 16777216; decide, b, _, hb, by simp, by decide, .inl rfl, fun x hx => ?_⟩
  obtain ⟨t, w, M, rfl, t0, t5, w0, w5, e⟩ : ∃ (t w : Int) (M : Nat), x = .tup [.int t, .int w] ∧ 0 ≤ t ∧ t ≤ w ∧ 0 < w ∧ w ≤ 5 ∧ w * M = (30 : Nat) := by
    simp only [List.mem_cons, List.not_mem_nil, or_false] at hx
    rcases hx with rfl | rfl | rfl | rfl | rfl | rfl
    · exact ⟨1, 1, 30, rfl, by decide, by decide, by decide, by decide, by decide⟩
    · exact ⟨0, 1, 30, rfl, by decide, by decide, by decide, by decide, by decide⟩
    · exact ⟨1, 2, 15, rfl, by decide, by decide, by decide, by decide, by decide⟩
    · exact ⟨1, 1, 30, rfl, by decide, by decide, by decide, by decide, by decide⟩
    · exact ⟨2, 3, 10, rfl, by decide, by decide, by decide, by decide, by decide⟩
    · exact ⟨1, 5, 6, rfl, by decide, by decide, by decide, by decide, by decide⟩
  have f0 := divInt_nn t0 w0
  have f1 : divInt t w ≤ 1 := by
    have := divInt_le (M := 1) w0 (show t ≤ 1 * w by omega)
    exact this
  refine ⟨p, t, w, rfl, hp, hbg, t0, by omega, w0, by omega, wk_at (k _ (Rat.mul_nonneg hp f0) ?_ fun N hN => hN.mul (Dn.of (by omega) M e))⟩
  have := Rat.mul_le_mul_of_nonneg_right f1 hp
  rw [Rat.one_mul, Rat.mul_comm] at this
  exact this
end C13
/-! PA: the program's amounts, hops, buffers, wires -/
namespace PA
open PySem PySem.Spec PyProof.Rows L2 L3 L4
open Rat (divInt)
/-! ### amounts -/
def sp_p_lowest : LSp := fun ds m Φ => ∃ (t b : Int), ds = [.int t, .int b] ∧ 0 < b ∧ b.natAbs.log2 < 9000 ∧ Φ (am (divInt t b)) m
def sp_plus : LSp := fun ds m Φ => ∃ (qs : List Rat) (N M : Nat), ds = [.tup (qs.map am)] ∧ (∀ q ∈ qs, Okb N M q) ∧ qs.length ≤ 1000000 ∧ 0 < N ∧ N.log2 < 1900 ∧ M.log2 < 1900 ∧ Φ (am (total qs)) m
def sp_plus_s : LSp := fun ds m Φ => ∃ ws rest, ds = ws ++ rest ∧ ws.length = 0 ∧ rest.length ≤ sizeLine ∧ sp_plus (ws ++ [.tup rest]) m Φ
def sp_minus : LSp := fun ds m Φ => ∃ (p q : Rat), ds = [am p, am q] ∧ q ≤ p ∧ Bg p ∧ Bg q ∧ Φ (am (p - q)) m
def cmpI (p q : Rat) : Int := if p = q then 0 else if p < q then -1 else 1
def sp_compare : LSp := fun ds m Φ => ∃ (p q : Rat), ds = [am p, am q] ∧ Bg p ∧ Bg q ∧ Φ (.int (cmpI p q)) m
def sp_largest : LSp := fun ds m Φ => ∃ (p : Rat) (qs : List Rat), ds = [am p, .tup (qs.map am)] ∧ Bg p ∧ (∀ q ∈ qs, Bg q) ∧ Φ (am (qs.foldl mx p)) m
def sp_largest_s : LSp := fun ds m Φ => ∃ ws rest, ds = ws ++ rest ∧ ws.length = 1 ∧ rest.length ≤ sizeLine ∧ sp_largest (ws ++ [.tup rest]) m Φ
/-- _lowest: 0 top, 1 bottom, 2 common -/
def qb_p_lowest : QS :=
  (sSeq (sAsg (.nm 2) (qCB bGcd (qCons (qVar 0) (qCons (qVar 1) qNil))))
    (sRet (qTup (qCons (qOp (qIC CDivW fun i j => .int (i / j)) (qVar 0) (qVar 2)) (qCons (qOp (qIC CDivW fun i j => .int (i / j)) (qVar 1) (qVar 2)) qNil)))))
/-- plus: 0 amounts, 1 top, 2 bottom, 3 more, 4 parts, 5 common -/
def qb_plus : QS :=
  (sSeq (sAsg (.tp [(.nm 1), (.nm 2)]) (qC (.tup [(.int 0), (.int 1)])))
    (sSeq (sFor (iTup (qVar 0)) (.tp [(.nm 3), (.nm 4)]) (sIf (qB (qOp vEq (qVar 4) (qVar 2))) (sAug 1 qIAdd (qVar 3)) (sSeq (sAsg (.nm 5) (qCB bGcd (qCons (qVar 2) (qCons (qVar 4) qNil))))
    (sSeq (sAsg (.nm 1) (qOp qAdd (qOp (qIC CM fun i j => .int (i * j)) (qVar 1) (qOp (qIC CDivW fun i j => .int (i / j)) (qVar 4) (qVar 5))) (qOp (qIC CM fun i j => .int (i * j)) (qVar 3) (qOp (qIC CDivW fun i j => .int (i / j)) (qVar 2) (qVar 5)))))
    (sAsg (.nm 2) (qOp (qIC CM fun i j => .int (i * j)) (qOp (qIC CDivW fun i j => .int (i / j)) (qVar 2) (qVar 5)) (qVar 4)))))))
    (sRet (qCall sp_p_lowest (qCons (qVar 1) (qCons (qVar 2) qNil))))))
/-- minus: 0 first, 1 second, 2 top -/
def qb_minus : QS :=
  (sSeq (sAsg (.nm 2) (qOp (qI0 fun i j => .int (i - j)) (qOp (qIC CM fun i j => .int (i * j)) (qOp vIx (qVar 0) (qC (.int 0))) (qOp vIx (qVar 1) (qC (.int 1)))) (qOp (qIC CM fun i j => .int (i * j)) (qOp vIx (qVar 1) (qC (.int 0))) (qOp vIx (qVar 0) (qC (.int 1))))))
    (sSeq (sIf (qB (qOp (qI0 fun i j => .bl (decide (i < j))) (qVar 2) (qC (.int 0)))) sNever sNext)
    (sRet (qCall sp_p_lowest (qCons (qVar 2) (qCons (qOp (qIC CM fun i j => .int (i * j)) (qOp vIx (qVar 0) (qC (.int 1))) (qOp vIx (qVar 1) (qC (.int 1)))) qNil))))))
/-- compare: 0 first, 1 second, 2 left, 3 right -/
def qb_compare : QS :=
  (sSeq (sAsg (.nm 2) (qOp (qIC CM fun i j => .int (i * j)) (qOp vIx (qVar 0) (qC (.int 0))) (qOp vIx (qVar 1) (qC (.int 1)))))
    (sSeq (sAsg (.nm 3) (qOp (qIC CM fun i j => .int (i * j)) (qOp vIx (qVar 1) (qC (.int 0))) (qOp vIx (qVar 0) (qC (.int 1)))))
    (sSeq (sIf (qB (qOp vEq (qVar 2) (qVar 3))) (sRet (qC (.int 0))) sNext)
    (sRet (qIfE (qB (qOp (qI0 fun i j => .bl (decide (i < j))) (qVar 2) (qVar 3))) (qNeg (qC (.int 1))) (qC (.int 1)))))))
/-- largest: 0 first, 1 others, 2 found, 3 other -/
def qb_largest : QS :=
  (sSeq (sAsg (.nm 2) (qVar 0))
    (sSeq (sFor (iTup (qVar 1)) (.nm 3) (sIf (qB (qOp (qI0 fun i j => .bl (decide (j < i))) (qCall sp_compare (qCons (qVar 3) (qCons (qVar 2) qNil))) (qC (.int 0)))) (sAsg (.nm 2) (qVar 3)) sNext))
    (sRet (qVar 2))))
theorem len_p_lowest : ∀ ds m Φ, sp_p_lowest ds m Φ → ds.length = 2 := by rintro _ _ _ ⟨_, _, rfl, _⟩; rfl
theorem rd_p_lowest : ∀ ds m Φ, sp_p_lowest ds m Φ → qb_p_lowest (bodyW Φ) (begin_ 3 ds) m := by
  rintro _ m Φ ⟨t, b, rfl, h0, h1, k⟩
  have hg0 : 0 < Int.gcd t b := Int.gcd_pos_of_ne_zero_right _ (by omega)
  have hg1 : (Int.gcd t b : Int) ≤ b := Int.gcd_le_right (a := t) h0
  have e := am_low (t := t) h0 rfl
  refine ⟨cd_le (g := (Int.gcd t b : Nat)) (by omega) hg1 h1, cd_le (g := (Int.gcd t b : Nat)) (by omega) hg1 h1, by show 2 ≤ 16777216; decide, wk_at ?_⟩
  show Φ (.tup [.int (t / (Int.gcd t b : Nat)), .int (b / (Int.gcd t b : Nat))]) m
  rw [e]; exact k
theorem num_log {N M : Nat} {q : Rat} (h : Okb N M q) {t : Int} {bn : Nat} (hb : 0 < bn) (hbN : bn ≤ N) (e : divInt t bn = q) (h1 : N.log2 < 1900) (h2 : M.log2 < 2000) : t.natAbs.log2 < 4000 := by
  have h3 : divInt t bn ≤ (M : Rat) := by rw [e]; exact h.le
  have h4 : 0 ≤ divInt t bn := by rw [e]; exact h.nn
  have hb' : (0 : Rat) < ((bn : Int) : Rat) := (Rat.intCast_lt_intCast (a := 0)).mpr (show (0 : Int) < (bn : Int) by omega)
  have hb0 : ((bn : Int) : Rat) ≠ 0 := by grind
  have e1 : divInt t bn * ((bn : Int) : Rat) = (t : Rat) := by rw [Rat.divInt_eq_div]; grind
  have h5 : (t : Rat) ≤ (M : Rat) * ((bn : Int) : Rat) := by rw [← e1]; exact Rat.mul_le_mul_of_nonneg_right h3 (Rat.le_of_lt hb')
  have h6 : (0 : Rat) ≤ (t : Rat) := by rw [← e1]; exact Rat.mul_nonneg h4 (Rat.le_of_lt hb')
  have h7 : t ≤ (M : Int) * bn := by
    rw [← Rat.intCast_natCast M, ← Rat.intCast_mul] at h5
    exact Rat.intCast_le_intCast.mp h5
  have h8 : 0 ≤ t := Rat.intCast_nonneg.mp h6
  have h9 : t.natAbs ≤ M * N := by
    have a : (M : Int) * bn ≤ (M : Int) * N := Int.mul_le_mul_of_nonneg_left (by omega) (by omega)
    have b : ((t.natAbs : Nat) : Int) ≤ ((M * N : Nat) : Int) := by rw [Int.natCast_mul]; omega
    omega
  have a1 := log2_le h9
  have a2 := log2_mul M N
  omega
theorem rd_plus : ∀ ds m Φ, sp_plus ds m Φ → qb_plus (bodyW Φ) (begin_ 6 ds) m := by
  rintro _ m Φ ⟨qs, N, M, rfl, hq, hl, h0, hN, hM, k⟩
  refine ⟨fun i s' m' => m' = m ∧ ∃ (t : Int) (bn : Nat) (c1 c2 c3 : Option D), s' = [some (.tup (qs.map am)), some (.int t), some (.int bn), c1, c2, c3] ∧ 0 < bn ∧ bn ∣ N ∧ divInt t bn = total (qs.take i), ⟨rfl, 0, 1, none, none, none, rfl, by decide, Nat.one_dvd _, by rw [List.take_zero, Rat.zero_divInt]; rfl⟩, fun _ _ _ _ _ => trivial, ?_, ?_⟩
  · rintro i d s' m' hd ⟨rfl, t, bn, c1, c2, c3, rfl, hb, hbN, e⟩
    obtain ⟨q, hi, rfl⟩ := get_map hd
    have o2 : Okb N M q := hq q (List.mem_of_getElem? hi)
    have o1 := total_ok (l := qs.take i) fun x hx => hq x (List.mem_of_mem_take hx)
    have d2 := o2.dn.le h0
    have dv2 := o2.dn.dvd (by omega)
    have hbn : bn ≤ N := Nat.le_of_dvd h0 hbN
    have tl : t.natAbs.log2 < 4000 := num_log o1 hb hbn e hN (by
      have a1 := log2_mul (qs.take i).length M
      have a2 : (qs.take i).length ≤ 1000000 := by rw [List.length_take]; omega
      have a3 := log2_le a2
      have a4 : Nat.log2 1000000 < 20 := by decide
      omega)
    have bq : Bg q := o2.bg h0 hN (by omega)
    have lN : ∀ x : Nat, x ≤ N → ((x : Nat) : Int).natAbs.log2 < 9000 := fun x hx => by
      rw [Int.natAbs_natCast]
      have := log2_le hx
      omega
    refine qif (fun h => ?_) (fun h => ?_)
    · have h : (q.den : Int) = bn := dec_t h
      refine ⟨rfl, t + q.num, bn, some (.int q.num), some (.int q.den), c3, rfl, hb, hbN, ?_⟩
      rw [total_more hi, ← e, plus_same h (by omega)]
    · have hg : 0 < Nat.gcd bn q.den := Nat.gcd_pos_of_pos_left _ hb
      have hg2 : Nat.gcd bn q.den ≤ bn := Nat.gcd_le_left _ hb
      have gc : ∀ x : Int, CDivW x (Nat.gcd (bn : Int).natAbs (q.den : Int).natAbs : Nat) := fun x => by
        rw [Int.natAbs_natCast, Int.natAbs_natCast]
        exact cd_of (by omega) (lN _ (by omega))
      have e1 : (q.den : Int) / (Nat.gcd (bn : Int).natAbs (q.den : Int).natAbs : Nat) = ((q.den / Nat.gcd bn q.den : Nat) : Int) := by rw [Int.natAbs_natCast, Int.natAbs_natCast, Int.natCast_ediv]
      have e2 : (bn : Int) / (Nat.gcd (bn : Int).natAbs (q.den : Int).natAbs : Nat) = ((bn / Nat.gcd bn q.den : Nat) : Int) := by rw [Int.natAbs_natCast, Int.natAbs_natCast, Int.natCast_ediv]
      have l1 : q.den / Nat.gcd bn q.den ≤ q.den := Nat.div_le_self _ _
      have l2 : bn / Nat.gcd bn q.den ≤ bn := Nat.div_le_self _ _
      have f1 : ((q.den : Int) / (Nat.gcd (bn : Int).natAbs (q.den : Int).natAbs : Nat)).natAbs.log2 < 9000 := by rw [e1]; exact lN _ (by omega)
      have f2 : ((bn : Int) / (Nat.gcd (bn : Int).natAbs (q.den : Int).natAbs : Nat)).natAbs.log2 < 9000 := by rw [e2]; exact lN _ (by omega)
      refine ⟨gc _, cm_b (by omega) f1, gc _, cm_b (by have := bq.1; omega) f2, gc _, cm_b f2 (lN _ d2), rfl, ?_⟩
      have e3 : Nat.lcm bn q.den = bn / Nat.gcd bn q.den * q.den := by
        unfold Nat.lcm
        rw [Nat.div_mul_right_comm (Nat.gcd_dvd_left _ _)]
      refine ⟨t * ((q.den / Nat.gcd bn q.den : Nat) : Int) + q.num * ((bn / Nat.gcd bn q.den : Nat) : Int), bn / Nat.gcd bn q.den * q.den, some (.int q.num), some (.int q.den), some (.int (Nat.gcd bn q.den : Nat)), ?_, ?_, ?_, ?_⟩
      · rw [Int.natCast_mul, ← e1, ← e2]; rfl
      · rw [← e3]; exact Nat.lcm_pos hb q.den_pos
      · rw [← e3]; exact Nat.lcm_dvd hbN dv2
      · rw [plus_else hb, e, total_more hi]
  · rintro s' m' ⟨rfl, t, bn, c1, c2, c3, rfl, hb, hbN, e⟩
    rw [List.length_map, List.take_of_length_le (Nat.le_refl _)] at e
    have hbn : bn ≤ N := Nat.le_of_dvd h0 hbN
    refine ⟨t, bn, rfl, by omega, by rw [Int.natAbs_natCast]; have := log2_le hbn; omega, wk_at ?_⟩
    rw [e]; exact k
theorem len_minus : ∀ ds m Φ, sp_minus ds m Φ → ds.length = 2 := by rintro _ _ _ ⟨_, _, rfl, _⟩; rfl
theorem rd_minus : ∀ ds m Φ, sp_minus ds m Φ → qb_minus (bodyW Φ) (begin_ 3 ds) m := by
  rintro _ m Φ ⟨p, q, rfl, hp, h1, h2, k⟩
  refine ⟨_, rfl, _, rfl, cm_nd h1 h2, _, rfl, _, rfl, cm_nd h2 h1, ?_⟩
  refine qif (fun h => ?_) (fun h => ?_)
  · have h : p.num * q.den - q.num * p.den < 0 := dec_t h
    have := (am_le q p).mp hp
    omega
  · refine ⟨_, rfl, _, rfl, cm_dd h1 h2, _, _, rfl, den_mul_pos p q, dd_log h1 h2, wk_at ?_⟩
    rw [am_sub]; exact k
theorem len_compare : ∀ ds m Φ, sp_compare ds m Φ → ds.length = 2 := by rintro _ _ _ ⟨_, _, rfl, _⟩; rfl
theorem rd_compare : ∀ ds m Φ, sp_compare ds m Φ → qb_compare (bodyW Φ) (begin_ 4 ds) m := by
  rintro _ m Φ ⟨p, q, rfl, h1, h2, k⟩
  unfold cmpI at k
  refine ⟨_, rfl, _, rfl, cm_nd h1 h2, _, rfl, _, rfl, cm_nd h2 h1, ?_⟩
  refine qif (fun h => ?_) (fun h => ?_)
  · have h : p.num * q.den = q.num * p.den := dec_t h
    rw [if_pos ((am_eq p q).mpr h)] at k
    exact wk_at k
  · have h : ¬ p.num * q.den = q.num * p.den := dec_f h
    rw [if_neg (fun e => h ((am_eq p q).mp e))] at k
    refine qif (fun h => ?_) (fun h => ?_)
    · have h : p.num * q.den < q.num * p.den := dec_t h
      rw [if_pos ((am_lt p q).mpr h)] at k
      exact wk_at k
    · have h : ¬ p.num * q.den < q.num * p.den := dec_f h
      rw [if_neg (fun e => h ((am_lt p q).mp e))] at k
      exact wk_at k
theorem cmp_pos {p q : Rat} : 0 < cmpI p q ↔ q < p := by
  unfold cmpI
  by_cases h : p = q
  · rw [if_pos h]; subst h; constructor
    · intro z; omega
    · intro z; exact absurd z (Rat.lt_irrefl)
  · rw [if_neg h]
    by_cases h2 : p < q
    · rw [if_pos h2]; constructor
      · intro z; omega
      · intro z; grind
    · rw [if_neg h2]; constructor
      · intro _; grind
      · intro _; omega
theorem cmp_nn {p q : Rat} : 0 ≤ cmpI p q ↔ q ≤ p := by
  unfold cmpI
  by_cases h : p = q
  · rw [if_pos h]; subst h; exact ⟨fun _ => Rat.le_refl, fun _ => Int.le_refl _⟩
  · rw [if_neg h]
    by_cases h2 : p < q
    · rw [if_pos h2]; constructor
      · intro z; omega
      · intro z; grind
    · rw [if_neg h2]; constructor
      · intro _; grind
      · intro _; omega
theorem cmp_np {p q : Rat} : cmpI p q ≤ 0 ↔ p ≤ q := by
  have := @cmp_pos p q
  constructor
  · intro h
    exact Rat.not_lt.mp fun z => by have := this.mpr z; omega
  · intro h
    have h2 : ¬ q < p := by grind
    have := mt this.mp h2
    omega
theorem fold_bg : ∀ {qs : List Rat} {p : Rat}, Bg p → (∀ q ∈ qs, Bg q) → Bg (qs.foldl mx p)
  | [], _, h, _ => h
  | q :: qs, p, h, k => fold_bg (qs := qs) (mx_bg h (k q List.mem_cons_self)) fun x hx => k x (List.mem_cons_of_mem _ hx)
theorem rd_largest : ∀ ds m Φ, sp_largest ds m Φ → qb_largest (bodyW Φ) (begin_ 4 ds) m := by
  rintro _ m Φ ⟨p, qs, rfl, hp, hq, k⟩
  refine ⟨fun i s' m' => m' = m ∧ ∃ c : Option D, s' = [some (am p), some (.tup (qs.map am)), some (am ((qs.take i).foldl mx p)), c], ⟨rfl, none, rfl⟩, fun _ _ _ _ _ => trivial, ?_, ?_⟩
  · rintro i d s' m' hd ⟨rfl, c, rfl⟩
    obtain ⟨q, hi, rfl⟩ := get_map hd
    have b1 : Bg ((qs.take i).foldl mx p) := fold_bg hp fun x hx => hq x (List.mem_of_mem_take hx)
    have b2 := hq q (List.mem_of_getElem? hi)
    have e : (qs.take (i + 1)).foldl mx p = mx ((qs.take i).foldl mx p) q := by rw [take_more hi, List.foldl_append]; rfl
    refine ⟨q, _, rfl, b2, b1, qif (fun h => ?_) (fun h => ?_)⟩
    · have h := cmp_pos.mp (dec_t h)
      refine ⟨rfl, some (am q), ?_⟩
      rw [e, show mx (List.foldl mx p (List.take i qs)) q = q from if_pos h]; rfl
    · have h := mt cmp_pos.mpr (dec_f h)
      refine ⟨rfl, some (am q), ?_⟩
      rw [e, show mx (List.foldl mx p (List.take i qs)) q = List.foldl mx p (List.take i qs) from if_neg h]; rfl
  · rintro s' m' ⟨rfl, c, rfl⟩
    rw [List.length_map, List.take_of_length_le (Nat.le_refl _)]
    exact wk_at k
/-! ### hops -/
def flds (way age : Int) (d : Addr) : List (Str × D) := [("_way", .int way), ("_age", .int age), ("_sent", .ref d)]
/-- a hop at h, its dict at d -/
structure HopAt (C : Addr) (m : Mem) (h d : Addr) (way age : Int) (t : Tab) : Prop where
  ob : m h = some (.ins C (flds way age d))
  dc : m d = some (.dK (tabD t))
theorem HopAt.ne {C : Addr} {m : Mem} {h d : Addr} {way age : Int} {t : Tab} (p : HopAt C m h d way age t) : h ≠ d := ne_obj p.ob p.dc (fun z => by cases z)
theorem HopAt.keep {C : Addr} {m m' : Mem} {h d : Addr} {way age : Int} {t : Tab} (p : HopAt C m h d way age t) (k : Grows m m') : HopAt C m' h d way age t := ⟨k.at p.ob, k.at p.dc⟩
def sp_Hop_init (C : Addr) : LSp := fun ds m Φ => ∃ (h : Addr) (way age : Int), ds = [.ref h, .int way, .int age] ∧ m h = some (.ins C []) ∧ ∀ d m', m d = none → HopAt C m' h d way age [] → Keeps m m' (fun a => a = h) → Φ .non m'
def sp_Hop_remember (C : Addr) : LSp := fun ds m Φ => ∃ (h d : Addr) (way age tick : Int) (t : Tab) (q : Rat), ds = [.ref h, .int tick, am q] ∧ HopAt C m h d way age t ∧ t.length ≤ 1000 ∧ (t.map (·.1)).Nodup ∧
  ∀ d' m', m d' = none → HopAt C m' h d' way age (putT (t.filter (cutF (tick - age - way))) tick q) → Keeps m m' (fun a => a = h ∨ a = d) → Φ .non m'
def sp_Hop_sent_after (C : Addr) : LSp := fun ds m Φ => ∃ (h d : Addr) (way age lo hi : Int) (t : Tab) (N M : Nat), ds = [.ref h, .int lo, .int hi] ∧ HopAt C m h d way age t ∧ TabOk N M t ∧ 0 < N ∧ N.log2 < 1900 ∧ M.log2 < 1900 ∧ Φ (am (taken t lo hi)) m
def sp_Hop_room (C : Addr) : LSp := fun ds m Φ => ∃ (h d : Addr) (way age now made : Int) (t : Tab) (told : Rat) (N M : Nat), ds = [.ref h, .int now, .int made, am told] ∧ HopAt C m h d way age t ∧ TabOk N M t ∧ 0 < N ∧ N.log2 < 1900 ∧ M.log2 < 1900 ∧ Bg told ∧ Φ (am (rest told (taken t (made - way) now))) m
def sp_Hop_copy (C : Addr) : LSp := fun ds m Φ => ∃ (h d : Addr) (way age : Int) (t : Tab), ds = [.ref h] ∧ HopAt C m h d way age t ∧ ∀ h' d' m', h' ≠ d' → m h' = none → m d' = none → HopAt C m' h' d' way age t → Grows m m' → Φ (.ref h') m'
/-- Hop.__init__: 0 self, 1 way, 2 age -/
def qb_Hop_init (C : Addr) : QS :=
  (sSeq (sSetF C "_way" (qVar 0) (qVar 1))
    (sSeq (sSetF C "_age" (qVar 0) (qVar 2))
    (sSetF C "_sent" (qVar 0) qDNewK)))
/-- Hop.remember: 0 self, 1 tick, 2 water, 3 oldest, 4 kept, 5 sent, 6 put -/
def qb_Hop_remember (C : Addr) : QS :=
  (sSeq (sAsg (.nm 3) (qOp (qI0 fun i j => .int (i - j)) (qOp (qI0 fun i j => .int (i - j)) (qVar 1) (qFld C "_age" (qVar 0))) (qFld C "_way" (qVar 0))))
    (sSeq (sLock (sAsg (.nm 4) (qDc (iDict fItem (qFld C "_sent" (qVar 0))) (.tp [(.nm 5), (.nm 6)]) (qB (qOp (qI0 fun i j => .bl (decide (j ≤ i))) (qVar 5) (qVar 3))) (qVar 5) (qVar 6) [5, 6])))
    (sSeq (sSub (qVar 4) (qVar 1) (qVar 2))
    (sSetF C "_sent" (qVar 0) (qVar 4)))))
/-- Hop.sent_after: 0 self, 1 tick, 2 now, 3 waters, 4 sent, 5 put -/
def qb_Hop_sent_after (C : Addr) : QS :=
  (sSeq (sLock (sAsg (.nm 3) (qFreeze (qLc (iDict fItem (qFld C "_sent" (qVar 0))) (.tp [(.nm 4), (.nm 5)]) (qB (qChain (qI0 fun i j => .bl (decide (i < j))) (qI0 fun i j => .bl (decide (i < j))) (qVar 1) (qVar 4) (qVar 2))) (qVar 5) [4, 5]))))
    (sRet (qCallS1 sp_plus_s (qVar 3))))
/-- Hop.room: 0 self, 1 now, 2 made, 3 told, 4 used -/
def qb_Hop_room (C : Addr) : QS :=
  (sSeq (sAsg (.nm 4) (qMeth C "sent_after" (sp_Hop_sent_after C) (qVar 0) (qCons (qOp (qI0 fun i j => .int (i - j)) (qVar 2) (qFld C "_way" (qVar 0))) (qCons (qVar 1) qNil))))
    (sSeq (sIf (qB (qOp (qI0 fun i j => .bl (decide (j ≤ i))) (qCall sp_compare (qCons (qVar 4) (qCons (qVar 3) qNil))) (qC (.int 0)))) (sRet (qC (.tup [(.int 0), (.int 1)]))) sNext)
    (sRet (qCall sp_minus (qCons (qVar 3) (qCons (qVar 4) qNil))))))
/-- Hop.copy: 0 self, 1 twin -/
def qb_Hop_copy (C : Addr) : QS :=
  (sSeq (sAsg (.nm 1) (qMake C (sp_Hop_init C) (qCons (qFld C "_way" (qVar 0)) (qCons (qFld C "_age" (qVar 0)) qNil))))
    (sSeq (sSetF C "_sent" (qVar 1) (qCB bDict (qCons (qFld C "_sent" (qVar 0)) qNil)))
    (sRet (qVar 1))))
theorem fl_way {w a : Int} {d : Addr} : (flds w a d).lookup ("_way" : Str) = some (D.int w) := by rfl
theorem fl_age {w a : Int} {d : Addr} : (flds w a d).lookup ("_age" : Str) = some (D.int a) := by rfl
theorem fl_sent {w a : Int} {d : Addr} : (flds w a d).lookup ("_sent" : Str) = some (D.ref d) := by rfl
theorem fl_set {w a : Int} {d e : Addr} : putFD ("_sent" : Str) (D.ref e) (flds w a d) = flds w a e := by rfl
theorem fl_new {w a : Int} {d : Addr} : putFD ("_sent" : Str) (D.ref d) (putFD ("_age" : Str) (D.int a) (putFD ("_way" : Str) (D.int w) [])) = flds w a d := by rfl
theorem len_Hop_init (C : Addr) : ∀ ds m Φ, sp_Hop_init C ds m Φ → ds.length = 3 := by rintro _ _ _ ⟨_, _, _, rfl, _⟩; rfl
theorem rd_Hop_init (C : Addr) : ∀ ds m Φ, sp_Hop_init C ds m Φ → qb_Hop_init C (bodyW Φ) (begin_ 3 ds) m := by
  rintro _ m Φ ⟨h, way, age, rfl, hh, k⟩
  refine ⟨_, hh, by decide, _, mset_same, by show 1 < 1000; decide, fun d hd => ⟨putFD ("_age" : Str) (D.int age) (putFD ("_way" : Str) (D.int way) []), ?_, by show 2 < 1000; decide, ?_⟩⟩
  · rw [mset_mset] at hd
    obtain ⟨hdh, hd⟩ := mset_none hd
    rw [mset_ne (Ne.symm hdh), mset_same]
  · rw [mset_mset] at hd
    obtain ⟨hdh, hd⟩ := mset_none hd
    refine wk_at (k d _ hd ⟨mset_same, ?_⟩ ?_)
    · rw [mset_ne hdh, mset_same]; rfl
    · intro a o ha e
      rw [mset_ne ha, mset_ne (ne_none e hd), mset_ne ha, mset_ne ha]; exact e
theorem len_Hop_remember (C : Addr) : ∀ ds m Φ, sp_Hop_remember C ds m Φ → ds.length = 3 := by rintro _ _ _ ⟨_, _, _, _, _, _, _, rfl, _⟩; rfl
theorem rd_Hop_remember (C : Addr) : ∀ ds m Φ, sp_Hop_remember C ds m Φ → qb_Hop_remember C (bodyW Φ) (begin_ 7 ds) m := by
  rintro _ m Φ ⟨h, d, way, age, tick, t, q, rfl, hp, hl, nd, k⟩
  have hne : h ≠ d := hp.ne
  refine ⟨_, _, hp.ob, fl_age, _, _, hp.ob, fl_way, d, tabD t, hp.dc, _, _, by rw [mset_ne hne]; exact hp.ob, fl_sent, _, mset_same, ?_⟩
  refine dc_by (fun i acc => acc = tabD ((t.take i).filter (cutF (tick - age - way)))) rfl ?_ ?_ ?_
  · intro a o ha
    obtain ⟨had, ha⟩ := mset_none ha
    rw [mset_ne (Ne.symm had), mset_same]
  · rintro i dd acc a ha hd hl' rfl
    rw [items_tab] at hd
    obtain ⟨p, hi, rfl⟩ := get_map hd
    have hil : i < t.length := (List.getElem?_eq_some_iff.mp hi).1
    refine qif (fun w => ?_) (fun w => ?_)
    · refine dc_ok (Sum.inl p.1) rfl hl' (by show i < 16777216; omega) ?_
      have w : tick - age - way ≤ p.1 := dec_t w
      rw [tab_put, take_filter_more hi, if_pos (show cutF (tick - age - way) p = true from decide_eq_true w), putT_new]
      intro z
      obtain ⟨y, hy, e⟩ := List.mem_map.mp z
      exact nd_get nd hi (List.mem_map.mpr ⟨y, (List.mem_filter.mp hy).1, e⟩)
    · have w : ¬ tick - age - way ≤ p.1 := dec_f w
      refine dc_skip hl' ?_
      rw [take_filter_more hi, if_neg (fun z : cutF (tick - age - way) p = true => w (of_decide_eq_true z)), List.append_nil]
  · rintro acc a ha hl' rfl
    obtain ⟨had, ha⟩ := mset_none ha
    have hah : a ≠ h := Ne.symm (ne_none hp.ob ha)
    rw [items_tab, List.length_map] at *
    rw [List.take_of_length_le (Nat.le_refl _)] at *
    refine Or.inr ⟨_, Sum.inl tick, by rw [mset_ne had, mset_same], rfl, ?_, ?_⟩
    · have : (tabD (t.filter (cutF (tick - age - way)))).length ≤ t.length := hl'
      show _ < 16777216
      omega
    · refine ⟨_, by rw [mset_ne (Ne.symm hah), mset_ne hne, mset_ne (Ne.symm hah), mset_ne hne]; exact hp.ob, by show 3 < 1000; decide, ?_⟩
      refine wk_at (k a _ ha ⟨by rw [fl_set]; exact mset_same, ?_⟩ ?_)
      · rw [mset_ne hah, mset_same, tab_put]
      · intro b o hb e
        have hb1 : b ≠ h := fun z => hb (.inl z)
        have hb2 : b ≠ d := fun z => hb (.inr z)
        have hba : b ≠ a := ne_none e ha
        rw [mset_ne hb1, mset_ne hba, mset_ne hb2, mset_ne hba, mset_ne hb2]; exact e
theorem len_Hop_sent_after (C : Addr) : ∀ ds m Φ, sp_Hop_sent_after C ds m Φ → ds.length = 3 := by rintro _ _ _ ⟨_, _, _, _, _, _, _, _, _, rfl, _⟩; rfl
theorem rd_Hop_sent_after (C : Addr) : ∀ ds m Φ, sp_Hop_sent_after C ds m Φ → qb_Hop_sent_after C (bodyW Φ) (begin_ 6 ds) m := by
  rintro _ m Φ ⟨h, d, way, age, lo, hi, t, N, M, rfl, hp, ok, h0, hN, hM, k⟩
  have hne : h ≠ d := hp.ne
  have hl := ok.len
  refine ⟨d, tabD t, hp.dc, _, _, by rw [mset_ne hne]; exact hp.ob, fl_sent, _, mset_same, ?_⟩
  refine lc_by (fun i acc => acc = (((t.take i).filter (inW lo hi)).map (·.2)).map am) rfl ?_ ?_ ?_
  · intro a o ha
    obtain ⟨had, ha⟩ := mset_none ha
    rw [mset_ne (Ne.symm had), mset_same]
  · rintro i dd acc a ha hd hl' rfl
    rw [items_tab] at hd
    obtain ⟨p, hi', rfl⟩ := get_map hd
    have hil : i < t.length := (List.getElem?_eq_some_iff.mp hi').1
    refine qif (fun w1 => ?_) (fun w1 => ?_)
    · refine qif (fun w2 => ?_) (fun w2 => ?_)
      · refine lc_ok hl' (by show i < 16777216; omega) ?_
        have e : inW lo hi p = true := by unfold inW; rw [w1, w2]; rfl
        rw [take_filter_more hi', if_pos e, List.map_append, List.map_append]; rfl
      · refine lc_skip hl' ?_
        have e : ¬ inW lo hi p = true := by unfold inW; rw [w1, w2]; decide
        rw [take_filter_more hi', if_neg e, List.append_nil]
    · refine qif_f rfl (lc_skip hl' ?_)
      have e : ¬ inW lo hi p = true := by unfold inW; rw [w1]; simp
      rw [take_filter_more hi', if_neg e, List.append_nil]
  · rintro acc a ha hl' rfl
    refine ⟨_, mset_same, ?_⟩
    rw [mdel_mset ha]
    rw [items_tab, List.length_map] at *
    rw [List.take_of_length_le (Nat.le_refl _)] at *
    refine ⟨[], _, rfl, rfl, ?_, (t.filter (inW lo hi)).map (·.2), N, M, rfl, ?_, ?_, h0, hN, hM, wk_at (by rw [lock_back hp.dc]; exact k)⟩
    · have := flen t (inW lo hi)
      show _ ≤ 16777216; omega
    · rintro q hq
      obtain ⟨p, hp', rfl⟩ := List.mem_map.mp hq
      exact ok.ok p (List.mem_filter.mp hp').1
    · have := flen t (inW lo hi)
      rw [List.length_map] at this
      omega
theorem len_Hop_room (C : Addr) : ∀ ds m Φ, sp_Hop_room C ds m Φ → ds.length = 4 := by rintro _ _ _ ⟨_, _, _, _, _, _, _, _, _, _, rfl, _⟩; rfl
theorem rd_Hop_room (C : Addr) : ∀ ds m Φ, sp_Hop_room C ds m Φ → qb_Hop_room C (bodyW Φ) (begin_ 5 ds) m := by
  rintro _ m Φ ⟨h, d, way, age, now, made, t, told, N, M, rfl, hp, ok, h0, hN, hM, h1, k⟩
  have o := taken_ok ok (made - way) now
  have ob : Bg (taken t (made - way) now) := o.bg h0 hN (by
    have a1 := log2_mul 1000 M
    have a2 : Nat.log2 1000 < 20 := by decide
    omega)
  refine ⟨_, hp.ob, rfl, _, _, hp.ob, fl_way, h, d, way, age, made - way, now, t, N, M, rfl, hp, ok, h0, hN, hM, ?_⟩
  refine ⟨_, told, rfl, ob, h1, ?_⟩
  refine qif (fun w => ?_) (fun w => ?_)
  · have w := cmp_nn.mp (dec_t w)
    have e : rest told (taken t (made - way) now) = 0 := by
      unfold L4.rest
      split <;> grind
    rw [e] at k
    exact wk_at k
  · have w := mt cmp_nn.mpr (dec_f w)
    have z3 : taken t (made - way) now ≤ told := by grind
    rw [rest_pos z3] at k
    exact ⟨told, _, rfl, z3, h1, ob, wk_at k⟩
theorem len_Hop_copy (C : Addr) : ∀ ds m Φ, sp_Hop_copy C ds m Φ → ds.length = 1 := by rintro _ _ _ ⟨_, _, _, _, _, rfl, _⟩; rfl
theorem rd_Hop_copy (C : Addr) : ∀ ds m Φ, sp_Hop_copy C ds m Φ → qb_Hop_copy C (bodyW Φ) (begin_ 2 ds) m := by
  rintro _ m Φ ⟨h, d, way, age, t, rfl, hp, k⟩
  refine ⟨_, _, hp.ob, fl_way, _, _, hp.ob, fl_age, fun a ha => ?_⟩
  refine ⟨a, way, age, rfl, mset_same, fun d0 m0 hd0 hp0 kp => ?_⟩
  obtain ⟨nda, hd0'⟩ := mset_none hd0
  have kp1 : ∀ b o, m b = some o → m0 b = some o := fun b o e => kp b o (ne_none e ha) (by rw [mset_ne (ne_none e ha)]; exact e)
  refine ⟨_, _, kp1 _ _ hp.ob, fl_sent, _, .inl (kp1 _ _ hp.dc), fun p hpn => ?_⟩
  have hap : a ≠ p := ne_none hp0.ob hpn
  have hmp : m p = none := by
    cases e : m p with
    | none => rfl
    | some o => rw [kp1 p o e] at hpn; cases hpn
  refine ⟨_, by rw [mset_ne hap]; exact hp0.ob, by show 3 < 1000; decide, wk_at (k a p _ hap ha hmp ⟨by rw [fl_set]; exact mset_same, by rw [mset_ne (Ne.symm hap), mset_same]⟩ ?_)⟩
  intro b o _ e
  rw [mset_ne (ne_none e ha), mset_ne (ne_none e hmp)]
  exact kp1 b o e
end PA
/-! PB: buffers, wires -/
namespace PA
open PySem PySem.Spec PyProof.Rows L2 L3 L4
open Rat (divInt)
/-! ### buffers -/
def bufF (size held full : Rat) : List (Str × D) := [("size", am size), ("_held", am held), ("_fullest", am full)]
def BufAt (C : Addr) (m : Mem) (a : Addr) (size held full : Rat) : Prop := m a = some (.ins C (bufF size held full))
def sp_Buffer_init (C : Addr) : LSp := fun ds m Φ => ∃ (a : Addr) (size : Rat), ds = [.ref a, am size] ∧ m a = some (.ins C []) ∧ ∀ m', BufAt C m' a size 0 0 → Keeps m m' (fun b => b = a) → Φ .non m'
def sp_Buffer_held (C : Addr) : LSp := fun ds m Φ => ∃ (a : Addr) (size held full : Rat), ds = [.ref a] ∧ BufAt C m a size held full ∧ Φ (am held) m
def sp_Buffer_fullest (C : Addr) : LSp := fun ds m Φ => ∃ (a : Addr) (size held full : Rat), ds = [.ref a] ∧ BufAt C m a size held full ∧ Φ (am full) m
def sp_Buffer_set_to (C : Addr) : LSp := fun ds m Φ => ∃ (a : Addr) (size held full w : Rat), ds = [.ref a, am w] ∧ BufAt C m a size held full ∧ Bg full ∧ Bg w ∧ ∀ m', BufAt C m' a size w (mx full w) → Keeps m m' (fun b => b = a) → Φ .non m'
def sp_Buffer_take_in (C : Addr) : LSp := fun ds m Φ => ∃ (a : Addr) (size held full w : Rat) (N M : Nat), ds = [.ref a, am w] ∧ BufAt C m a size held full ∧ Okb N M held ∧ Okb N M w ∧ 0 < N ∧ N.log2 < 1900 ∧ M.log2 < 1900 ∧ Bg size ∧ Bg full ∧
  ∀ m', BufAt C m' a size (mn (held + w) size) (mx full (mn (held + w) size)) → Keeps m m' (fun b => b = a) → Φ (am (L4.rest (held + w) size)) m'
def sp_Buffer_give (C : Addr) : LSp := fun ds m Φ => ∃ (a : Addr) (size held full w : Rat), ds = [.ref a, am w] ∧ BufAt C m a size held full ∧ Bg held ∧ Bg w ∧ w ≤ held ∧ ∀ m', BufAt C m' a size (held - w) full → Keeps m m' (fun b => b = a) → Φ .non m'
/-- Buffer.__init__: 0 self, 1 size -/
def qb_Buffer_init (C : Addr) : QS :=
  (sSeq (sSetF C "size" (qVar 0) (qVar 1))
    (sSeq (sSetF C "_held" (qVar 0) (qC (.tup [(.int 0), (.int 1)])))
    (sSetF C "_fullest" (qVar 0) (qC (.tup [(.int 0), (.int 1)])))))
/-- Buffer.held: 0 self -/
def qb_Buffer_held (C : Addr) : QS :=
  (sRet (qFld C "_held" (qVar 0)))
/-- Buffer.fullest: 0 self -/
def qb_Buffer_fullest (C : Addr) : QS :=
  (sRet (qFld C "_fullest" (qVar 0)))
/-- Buffer.set_to: 0 self, 1 water -/
def qb_Buffer_set_to (C : Addr) : QS :=
  (sSeq (sSetF C "_held" (qVar 0) (qVar 1))
    (sSetF C "_fullest" (qVar 0) (qCall sp_largest_s (qCons (qFld C "_fullest" (qVar 0)) (qCons (qVar 1) qNil)))))
/-- Buffer.take_in: 0 self, 1 water, 2 whole -/
def qb_Buffer_take_in (C : Addr) : QS :=
  (sSeq (sAsg (.nm 2) (qCall sp_plus_s (qCons (qFld C "_held" (qVar 0)) (qCons (qVar 1) qNil))))
    (sSeq (sIf (qB (qOp (qI0 fun i j => .bl (decide (i ≤ j))) (qCall sp_compare (qCons (qVar 2) (qCons (qFld C "size" (qVar 0)) qNil))) (qC (.int 0)))) (sSeq (sExpr (qMeth C "set_to" (sp_Buffer_set_to C) (qVar 0) (qCons (qVar 2) qNil)))
    (sRet (qC (.tup [(.int 0), (.int 1)])))) sNext)
    (sSeq (sExpr (qMeth C "set_to" (sp_Buffer_set_to C) (qVar 0) (qCons (qFld C "size" (qVar 0)) qNil)))
    (sRet (qCall sp_minus (qCons (qVar 2) (qCons (qFld C "size" (qVar 0)) qNil)))))))
/-- Buffer.give: 0 self, 1 water -/
def qb_Buffer_give (C : Addr) : QS :=
  (sSeq (sIf (qB (qOp (qI0 fun i j => .bl (decide (j < i))) (qCall sp_compare (qCons (qVar 1) (qCons (qFld C "_held" (qVar 0)) qNil))) (qC (.int 0)))) sNever sNext)
    (sSetF C "_held" (qVar 0) (qCall sp_minus (qCons (qFld C "_held" (qVar 0)) (qCons (qVar 1) qNil)))))
theorem bf_size {s h f : Rat} : (bufF s h f).lookup ("size" : Str) = some (am s) := by rfl
theorem bf_held {s h f : Rat} : (bufF s h f).lookup ("_held" : Str) = some (am h) := by rfl
theorem bf_full {s h f : Rat} : (bufF s h f).lookup ("_fullest" : Str) = some (am f) := by rfl
theorem bf_sh {s h f x : Rat} : putFD ("_held" : Str) (am x) (bufF s h f) = bufF s x f := by rfl
theorem bf_sf {s h f x : Rat} : putFD ("_fullest" : Str) (am x) (bufF s h f) = bufF s h x := by rfl
theorem len_Buffer_init (C : Addr) : ∀ ds m Φ, sp_Buffer_init C ds m Φ → ds.length = 2 := by rintro _ _ _ ⟨_, _, rfl, _⟩; rfl
theorem rd_Buffer_init (C : Addr) : ∀ ds m Φ, sp_Buffer_init C ds m Φ → qb_Buffer_init C (bodyW Φ) (begin_ 2 ds) m := by
  rintro _ m Φ ⟨a, size, rfl, ha, k⟩
  refine ⟨_, ha, by decide, _, mset_same, by show 1 < 1000; decide, _, mset_same, by show 2 < 1000; decide, wk_at (k _ mset_same ?_)⟩
  intro b o hb e
  rw [mset_ne hb, mset_ne hb, mset_ne hb]; exact e
theorem len_Buffer_held (C : Addr) : ∀ ds m Φ, sp_Buffer_held C ds m Φ → ds.length = 1 := by rintro _ _ _ ⟨_, _, _, _, rfl, _⟩; rfl
theorem rd_Buffer_held (C : Addr) : ∀ ds m Φ, sp_Buffer_held C ds m Φ → qb_Buffer_held C (bodyW Φ) (begin_ 1 ds) m := by
  rintro _ m Φ ⟨a, size, held, full, rfl, ha, k⟩
  exact ⟨_, _, ha, bf_held, wk_at k⟩
theorem len_Buffer_fullest (C : Addr) : ∀ ds m Φ, sp_Buffer_fullest C ds m Φ → ds.length = 1 := by rintro _ _ _ ⟨_, _, _, _, rfl, _⟩; rfl
theorem rd_Buffer_fullest (C : Addr) : ∀ ds m Φ, sp_Buffer_fullest C ds m Φ → qb_Buffer_fullest C (bodyW Φ) (begin_ 1 ds) m := by
  rintro _ m Φ ⟨a, size, held, full, rfl, ha, k⟩
  exact ⟨_, _, ha, bf_full, wk_at k⟩
theorem len_Buffer_set_to (C : Addr) : ∀ ds m Φ, sp_Buffer_set_to C ds m Φ → ds.length = 2 := by rintro _ _ _ ⟨_, _, _, _, _, rfl, _⟩; rfl
theorem rd_Buffer_set_to (C : Addr) : ∀ ds m Φ, sp_Buffer_set_to C ds m Φ → qb_Buffer_set_to C (bodyW Φ) (begin_ 2 ds) m := by
  rintro _ m Φ ⟨a, size, held, full, w, rfl, ha, h1, h2, k⟩
  refine ⟨_, ha, by show 3 < 1000; decide, bufF size w full, am full, by rw [bf_sh]; exact mset_same, bf_full, [am full], [am w], rfl, rfl, by show 1 ≤ 16777216; decide, full, [w], rfl, h1, by simpa using h2, ?_⟩
  refine ⟨bufF size w full, by rw [bf_sh]; exact mset_same, by show 3 < 1000; decide, wk_at (k _ ?_ ?_)⟩
  · show mset _ a _ a = _
    rw [mset_same, bf_sf]; rfl
  · intro b o hb e
    rw [mset_ne hb, mset_ne hb]; exact e
theorem len_Buffer_take_in (C : Addr) : ∀ ds m Φ, sp_Buffer_take_in C ds m Φ → ds.length = 2 := by rintro _ _ _ ⟨_, _, _, _, _, _, _, rfl, _⟩; rfl
theorem rd_Buffer_take_in (C : Addr) : ∀ ds m Φ, sp_Buffer_take_in C ds m Φ → qb_Buffer_take_in C (bodyW Φ) (begin_ 3 ds) m := by
  rintro _ m Φ ⟨a, size, held, full, w, N, M, rfl, ha, o1, o2, h0, hN, hM, hs, hf, k⟩
  have o3 := o1.add o2
  have b3 : Bg (held + w) := o3.bg h0 hN (by
    have a2 := log2_mul 2 M
    have a3 : Nat.log2 2 = 1 := by decide
    have e : M + M = 2 * M := by omega
    rw [e]; omega)
  have hqs : ∀ q ∈ [held, w], Okb N M q := by
    intro q hq
    rcases List.mem_cons.mp hq with rfl | hq
    · exact o1
    · rcases List.mem_cons.mp hq with rfl | hq
      · exact o2
      · cases hq
  have tot : total [held, w] = held + w := by
    show held + (w + 0) = _
    rw [Rat.add_zero]
  refine ⟨bufF size held full, am held, ha, bf_held, [], [am held, am w], rfl, rfl, by show 2 ≤ 16777216; decide, [held, w], N, M, rfl, hqs, by show 2 ≤ 1000000; decide, h0, hN, hM, ?_⟩
  rw [tot]
  refine ⟨bufF size held full, am size, ha, bf_size, held + w, size, rfl, b3, hs, qif (fun h => ?_) (fun h => ?_)⟩
  · have h := cmp_np.mp (dec_t h)
    have e1 : mn (held + w) size = held + w := if_neg (by grind)
    have e2 : L4.rest (held + w) size = 0 := by unfold L4.rest; split <;> grind
    rw [e1, e2] at k
    exact ⟨_, ha, rfl, a, size, held, full, held + w, rfl, ha, hf, b3, fun m' hb kp => wk_at (k m' hb kp)⟩
  · have h := mt cmp_np.mpr (dec_f h)
    have h' : size < held + w := by grind
    have e1 : mn (held + w) size = size := if_pos h'
    have e2 : L4.rest (held + w) size = held + w - size := if_pos (by grind)
    rw [e1, e2] at k
    exact ⟨_, ha, rfl, bufF size held full, am size, ha, bf_size, a, size, held, full, size, rfl, ha, hf, hs, fun m' hb kp => ⟨_, am size, hb, bf_size, held + w, size, rfl, by grind, b3, hs, wk_at (k m' hb kp)⟩⟩
theorem len_Buffer_give (C : Addr) : ∀ ds m Φ, sp_Buffer_give C ds m Φ → ds.length = 2 := by rintro _ _ _ ⟨_, _, _, _, _, rfl, _⟩; rfl
theorem rd_Buffer_give (C : Addr) : ∀ ds m Φ, sp_Buffer_give C ds m Φ → qb_Buffer_give C (bodyW Φ) (begin_ 2 ds) m := by
  rintro _ m Φ ⟨a, size, held, full, w, rfl, ha, h1, h2, hw, k⟩
  refine ⟨_, _, ha, bf_held, w, held, rfl, h2, h1, qif (fun h => ?_) (fun h => ?_)⟩
  · have h := cmp_pos.mp (dec_t h)
    grind
  · refine ⟨_, _, ha, bf_held, held, w, rfl, hw, h1, h2, _, ha, by show 3 < 1000; decide, wk_at (k _ ?_ ?_)⟩
    · show mset _ a _ a = _
      rw [mset_same, bf_sh]
    · intro b o hb e
      rw [mset_ne hb]; exact e
/-! ### wires -/
def wirF (way : Int) (d : Addr) : List (Str × D) := [("_way", .int way), ("_sent", .ref d)]
structure WireAt (C : Addr) (m : Mem) (a d : Addr) (way : Int) (t : Tab) : Prop where
  ob : m a = some (.ins C (wirF way d))
  dc : m d = some (.dK (tabD t))
theorem WireAt.ne {C : Addr} {m : Mem} {h d : Addr} {way : Int} {t : Tab} (p : WireAt C m h d way t) : h ≠ d := ne_obj p.ob p.dc (fun z => by cases z)
theorem WireAt.keep {C : Addr} {m m' : Mem} {h d : Addr} {way : Int} {t : Tab} (p : WireAt C m h d way t) (k : Grows m m') : WireAt C m' h d way t := ⟨k.at p.ob, k.at p.dc⟩
def atT (t : Tab) (k : Int) : Rat := (getT t k).getD 0
def sp_Wire_init (C : Addr) : LSp := fun ds m Φ => ∃ (a : Addr) (way : Int), ds = [.ref a, .int way] ∧ m a = some (.ins C []) ∧ ∀ d m', m d = none → WireAt C m' a d way [] → Keeps m m' (fun b => b = a) → Φ .non m'
def sp_Wire_put (C : Addr) : LSp := fun ds m Φ => ∃ (a d : Addr) (way tick : Int) (t : Tab) (q : Rat), ds = [.ref a, .int tick, am q] ∧ WireAt C m a d way t ∧ t.length ≤ 1000 ∧ ∀ m', WireAt C m' a d way (putT t tick q) → Keeps m m' (fun b => b = d) → Φ .non m'
def sp_Wire_arriving (C : Addr) : LSp := fun ds m Φ => ∃ (a d : Addr) (way tick : Int) (t : Tab), ds = [.ref a, .int tick] ∧ WireAt C m a d way t ∧ Φ (am (atT t (tick - way))) m
def under (t : Tab) (way tick : Int) : Rat := total ((List.range way.toNat).map fun i : Nat => atT t (tick - way + 1 + i))
def sp_Wire_under_way (C : Addr) : LSp := fun ds m Φ => ∃ (a d : Addr) (way tick : Int) (t : Tab) (N M : Nat), ds = [.ref a, .int tick] ∧ WireAt C m a d way t ∧ (∀ p ∈ t, Okb N M p.2) ∧ 0 < N ∧ N.log2 < 1900 ∧ M.log2 < 1900 ∧ 0 ≤ way ∧ way < 1000 ∧ -1000000 < tick ∧ tick < 1000000 ∧ Φ (am (under t way tick)) m
/-- Wire.__init__: 0 self, 1 way -/
def qb_Wire_init (C : Addr) : QS :=
  (sSeq (sSetF C "_way" (qVar 0) (qVar 1))
    (sSetF C "_sent" (qVar 0) qDNewK))
/-- Wire.put: 0 self, 1 tick, 2 water -/
def qb_Wire_put (C : Addr) : QS :=
  (sSub (qFld C "_sent" (qVar 0)) (qVar 1) (qVar 2))
/-- Wire.arriving: 0 self, 1 tick -/
def qb_Wire_arriving (C : Addr) : QS :=
  (sRet (qDGet2 (qFld C "_sent" (qVar 0)) (qOp (qI0 fun i j => .int (i - j)) (qVar 1) (qFld C "_way" (qVar 0))) (qC (.tup [(.int 0), (.int 1)]))))
/-- Wire.under_way: 0 self, 1 tick, 2 waters, 3 sent -/
def qb_Wire_under_way (C : Addr) : QS :=
  (sSeq (sAsg (.nm 2) (qFreeze (qLc (iRange2 (qCons (qOp qAdd (qOp (qI0 fun i j => .int (i - j)) (qVar 1) (qFld C "_way" (qVar 0))) (qC (.int 1))) (qCons (qOp qAdd (qVar 1) (qC (.int 1))) qNil))) (.nm 3) qYes (qDGet2 (qFld C "_sent" (qVar 0)) (qVar 3) (qC (.tup [(.int 0), (.int 1)]))) [3])))
    (sRet (qCallS1 sp_plus_s (qVar 2))))
theorem wf_way {w : Int} {d : Addr} : (wirF w d).lookup ("_way" : Str) = some (D.int w) := by rfl
theorem wf_sent {w : Int} {d : Addr} : (wirF w d).lookup ("_sent" : Str) = some (D.ref d) := by rfl
theorem len_Wire_init (C : Addr) : ∀ ds m Φ, sp_Wire_init C ds m Φ → ds.length = 2 := by rintro _ _ _ ⟨_, _, rfl, _⟩; rfl
theorem rd_Wire_init (C : Addr) : ∀ ds m Φ, sp_Wire_init C ds m Φ → qb_Wire_init C (bodyW Φ) (begin_ 2 ds) m := by
  rintro _ m Φ ⟨h, way, rfl, hh, k⟩
  refine ⟨_, hh, by decide, fun d hd => ⟨putFD ("_way" : Str) (D.int way) [], ?_, by show 1 < 1000; decide, ?_⟩⟩
  · obtain ⟨hdh, hd⟩ := mset_none hd
    rw [mset_ne (Ne.symm hdh), mset_same]
  · obtain ⟨hdh, hd⟩ := mset_none hd
    refine wk_at (k d _ hd ⟨mset_same, ?_⟩ ?_)
    · rw [mset_ne hdh, mset_same]; rfl
    · intro a o ha e
      rw [mset_ne ha, mset_ne (ne_none e hd), mset_ne ha]; exact e
theorem len_Wire_put (C : Addr) : ∀ ds m Φ, sp_Wire_put C ds m Φ → ds.length = 3 := by rintro _ _ _ ⟨_, _, _, _, _, _, rfl, _⟩; rfl
theorem rd_Wire_put (C : Addr) : ∀ ds m Φ, sp_Wire_put C ds m Φ → qb_Wire_put C (bodyW Φ) (begin_ 3 ds) m := by
  rintro _ m Φ ⟨a, d, way, tick, t, q, rfl, hp, hl, k⟩
  refine ⟨_, _, hp.ob, wf_sent, Or.inr ⟨_, Sum.inl tick, hp.dc, rfl, by show _ < 16777216; rw [tabD_len]; omega, ?_⟩⟩
  rw [tab_put]
  refine wk_at (k _ ⟨by rw [mset_ne hp.ne]; exact hp.ob, mset_same⟩ ?_)
  intro b o hb e
  rw [mset_ne hb]; exact e
theorem getD_am (o : Option Rat) : (o.map am).getD (D.tup [.int 0, .int 1]) = am (o.getD 0) := by cases o <;> rfl
theorem len_Wire_arriving (C : Addr) : ∀ ds m Φ, sp_Wire_arriving C ds m Φ → ds.length = 2 := by rintro _ _ _ ⟨_, _, _, _, _, rfl, _⟩; rfl
theorem rd_Wire_arriving (C : Addr) : ∀ ds m Φ, sp_Wire_arriving C ds m Φ → qb_Wire_arriving C (bodyW Φ) (begin_ 2 ds) m := by
  rintro _ m Φ ⟨a, d, way, tick, t, rfl, hp, k⟩
  refine ⟨_, _, hp.ob, wf_sent, ⟨_, .inl hp.dc⟩, _, _, hp.ob, wf_way, _, ⟨_, _, .inl hp.dc, rfl, rfl⟩, wk_at ?_⟩
  rw [tab_get, getD_am]; exact k
theorem atT_ok {N M : Nat} {t : Tab} (h : ∀ p ∈ t, Okb N M p.2) (k : Int) : Okb N M (atT t k) := by
  unfold atT getT
  cases e : t.find? fun p => decide (p.1 = k) with
  | none => exact Okb.zero N M
  | some p => exact h p (List.mem_of_find?_eq_some e)
theorem len_Wire_under_way (C : Addr) : ∀ ds m Φ, sp_Wire_under_way C ds m Φ → ds.length = 2 := by rintro _ _ _ ⟨_, _, _, _, _, _, _, rfl, _⟩; rfl
theorem rd_Wire_under_way (C : Addr) : ∀ ds m Φ, sp_Wire_under_way C ds m Φ → qb_Wire_under_way C (bodyW Φ) (begin_ 4 ds) m := by
  rintro _ m Φ ⟨a, d, way, tick, t, N, M, rfl, hp, ok, h0, hN, hM, w0, w1, t0, t1, k⟩
  refine ⟨_, _, hp.ob, wf_way, ⟨by omega, by omega, by omega, by omega⟩, ?_⟩
  refine lc_by (fun i acc => acc = ((List.range i).map fun i : Nat => atT t (tick - way + 1 + i)).map am) rfl (fun _ _ _ => trivial) ?_ ?_
  · rintro i dd acc p hpn hd hl' rfl
    obtain ⟨hi, rfl⟩ := get_ints hd
    refine qif_t rfl ⟨_, _, by rw [mset_ne (ne_none hp.ob hpn)]; exact hp.ob, wf_sent, ⟨_, .inl (by rw [mset_ne (ne_none hp.dc hpn)]; exact hp.dc)⟩, _, ⟨_, _, .inl (by rw [mset_ne (ne_none hp.dc hpn)]; exact hp.dc), rfl, rfl⟩, ?_⟩
    rw [tab_get, getD_am]
    refine lc_ok hl' (by show i < 16777216; omega) ?_
    rw [List.range_succ, List.map_append, List.map_append]; rfl
  · rintro acc p hpn hl' rfl
    refine ⟨_, mset_same, ?_⟩
    rw [mdel_mset hpn]
    have e : (tick + 1 - (tick - way + 1)).toNat = way.toNat := by omega
    rw [ints_len, e] at *
    refine ⟨[], _, rfl, rfl, ?_, _, N, M, rfl, ?_, ?_, h0, hN, hM, wk_at k⟩
    · rw [List.length_map, List.length_map, List.length_range]; show _ ≤ 16777216; omega
    · rintro q hq
      obtain ⟨i, _, rfl⟩ := List.mem_map.mp hq
      exact atT_ok ok _
    · rw [List.length_map, List.length_range]; omega
end PA
/-! L3x: exceptions of own classes: raise, try .. except C as e -/
namespace L3
open PySem PySem.Spec PyProof.Rows L2
/-- what is wanted of an exception: its class, its own dict, the slots, the memory -/
abbrev DXs := Value → Option Addr → DSt → Mem → Prop
abbrev DXe := Value → Option Addr → Mem → Prop
abbrev LSpE := List D → Mem → DK → DXe → Prop
def KXW (K : PySem.W.Frag) (G : Hp) (Ψ : DXs) (W : WX) : Prop := ∀ G' cls s' m' od σ' H', Sub G G' → RelM K m' G' H' → RelS K s' G' σ' → Ψ cls od s' m' → W cls od σ' H'
theorem KXW.mono {K : PySem.W.Frag} {G G' : Hp} {Ψ : DXs} {W : WX} (k : KXW K G Ψ W) (e : Sub G G') : KXW K G' Ψ W := fun G2 cls s' m' od σ' H' e2 => k G2 cls s' m' od σ' H' (e.trans e2)
def KXE (K : PySem.W.Frag) (G : Hp) (Ψ : DXe) (E : XK) : Prop := ∀ G' cls m' od H', Sub G G' → RelM K m' G' H' → Ψ cls od m' → E cls od H'
def liftSpE (K : PySem.W.Frag) (sp : LSpE) : Sp := fun vs H Q E => ∃ G m ds Φ Ψ, RelM K m G H ∧ RVs K G ds vs ∧ sp ds m Φ Ψ ∧ KQ K G Φ Q ∧ KXE K G Ψ E
def liftSX (K : PySem.W.Frag) (W : WX) (q : DXs → QS) : TS := fun D σ H => ∃ (G : Hp) (s : DSt) (m : Mem) (E : DE) (Ψ : DXs), RelM K m G H ∧ RelS K s G σ ∧ q Ψ E s m ∧ KS K G E.nx D.nx ∧ KQ K G E.rt D.rt ∧ KS K G E.bk D.bk ∧ KS K G E.ct D.ct ∧ KXW K G Ψ W
section
variable {X : Cx} {W : WX} {st : Stmt} {rest : List Stmt}
/-- a statement that lets nothing out -/
theorem xs_of {t : QS} (h : PS X st (liftS X.K t)) : PS X st (liftSX X.K W fun _ => t) := ps_imp h fun D σ H ⟨G, s, m, E, Ψ, rm, rs, q, kn, kr, kb, kc, kx⟩ => ⟨G, s, m, E, rm, rs, q, kn, kr, kb, kc⟩
theorem xss_of {t : QS} {b : List Stmt} (h : PSs X b (liftS X.K t)) : PSs X b (liftSX X.K W fun _ => t) := pss_imp h fun D σ H ⟨G, s, m, E, Ψ, rm, rs, q, kn, kr, kb, kc, kx⟩ => ⟨G, s, m, E, rm, rs, q, kn, kr, kb, kc⟩
theorem xss_one {t : DXs → QS} (h : PS X st (liftSX X.K W t)) : PSs X [st] (liftSX X.K W t) := pss_one h
theorem xss_cons {t u : DXs → QS} (h1 : PS X st (liftSX X.K W t)) (h2 : PSs X rest (liftSX X.K W u)) : PSs X (st :: rest) (liftSX X.K W fun Ψ => sSeq (t Ψ) (u Ψ)) :=
  pss_imp (pss_cons h1 h2) fun D σ H ⟨G, s, m, E, Ψ, rm, rs, q, kn, kr, kb, kc, kx⟩ => ⟨G, s, m, { E with nx := u Ψ E }, Ψ, rm, rs, q,
    fun G1 s1 m1 σ1 H1 e1 r1 r2 q1 => ⟨G1, s1, m1, E, Ψ, r1, r2, q1, kn.mono e1, kr.mono e1, kb.mono e1, kc.mono e1, kx.mono e1⟩, kr, kb, kc, kx⟩
theorem xs_if {c : Expr} {a b : List Stmt} {qc : QT} {t u : DXs → QS} {pos : Pos} (hc : PT X c (liftT X.K qc)) (ha : PSs X a (liftSX X.K W t)) (hb : PSs X b (liftSX X.K W u)) : PS X (.If c a b pos) (liftSX X.K W fun Ψ => sIf qc (t Ψ) (u Ψ)) :=
  ps_imp (ps_if hc ha hb) fun D σ H ⟨G, s, m, E, Ψ, rm, rs, q, kn, kr, kb, kc, kx⟩ => ⟨G, s, m, _, rm, rs, q, fun G1 b m1 H1 e1 r1 q1 => by
    have q1 := qif_e q1
    cases b with
    | true =>
      rw [if_pos rfl] at q1
      show if true = true then _ else _
      rw [if_pos rfl]
      exact ⟨G1, s, m1, E, Ψ, r1, rs.mono e1, q1, kn.mono e1, kr.mono e1, kb.mono e1, kc.mono e1, kx.mono e1⟩
    | false =>
      rw [if_neg Bool.false_ne_true] at q1
      show if false = true then _ else _
      rw [if_neg Bool.false_ne_true]
      exact ⟨G1, s, m1, E, Ψ, r1, rs.mono e1, q1, kn.mono e1, kr.mono e1, kb.mono e1, kc.mono e1, kx.mono e1⟩⟩
end
/-! ### raise C(e), C's __init__ storing its one argument -/
def spE1 (C : Addr) (f : Str) : Sp := fun vs H Q _ => ∃ (a : Addr) (y : V), vs = [.ref a, y] ∧ H a = some (exo a C none) ∧ ∀ dx, H dx = none → dx ≠ a → Q .non (upd (upd H dx (exd dx [(f, y)])) a (exo a C (some dx)))
theorem fn_e1 {P : Program} {w : World} {K : PySem.W.Frag} {mg : Str → Option Value} {base : Heap} {qual p : Str} {st : Stmt} {fI C : Addr} {fd : FuncData} {f : Str} {p1 p2 p3 p4 : Pos} (F : Fun K "__init__" qual st fI fd) (S : FnScope ["self", p] ["self", p] (defScope st))
    (T : OexC K C) (hno : PySem.W.findIn K (.ref C) f = some none) (hp : (p == ("__debug__" : Str)) = false) (hcd : (p == ("__classdict__" : Str)) = false)
    (hb : defBody st = [.Assign [.Attribute (.Name "self" p1) f p2] (.Name p p3) p4])
    (v0 : Vis (defScope st) "self") (v1 : Vis (defScope st) p) : FnOk P w K mg base CX0 1 fI fd ["self", p] (spE1 C f) := by
  refine F.ok S (fun vs H Q E h => ?_) (fun cdv A outer s H vs Q E hr h => ?_)
  · obtain ⟨a, y, rfl, _⟩ := h
    rfl
  · obtain ⟨a, y, rfl, ha, k⟩ := h
    rw [hb]
    refine ⟨_, pss_one (ps_ost (pv 0 (hv := v0)) (pv 1 (hv := v1) (hd := hp) (hcd := hcd))), ?_⟩
    exact ⟨y, rfl, .ref a, rfl, a, C, rfl, T, hno, .inl ⟨ha, fun dx hd hn => k dx hd hn⟩⟩
theorem takes0N {X : Cx} : L2N.Takes X (fun _ _ _ _ => False) := fun _ _ ⟨_, _, _, _, _, _, _, _, _, _, _, _, _, _, _, _, w⟩ => w.elim
/-- C(e, ..), C's own __init__ a def; its context is None -/
theorem pmkN {X : Cx} {e : Expr} {es : List Expr} {ta : TA} {p pos : Pos} {CX : CXT} {x : Str} {C fI : Addr} {k : Nat} {fd : FuncData} {ps : List Str} {sp : Sp} {ds : List Value} {dvs : List V} (T : OexC X.K C) (iC : PySem.W.findIn X.K (.ref C) "__init__" = some (some (.ref fI))) (tI : PySem.W.typeIn X.K (.ref fI) = some (.type "function"))
    (F1 : FnOk X.prog X.w X.K X.mg X.base CX k fI fd ps sp) (hr : Room (k + 1) X.A) (hb : Binds X.K fd ps ds) (hd : Vals dvs ds) (hx : Passes CX X (fun _ _ _ => False)) (hg : Gl X x) (hm : X.mg x = some (.ref C)) (ha : PA X (e :: es) ta)
    (hdb : (x == ("__debug__" : Str)) = false := by decide) (he : starEach (e :: es) X.env = (false, eval e X.env) :: starEach es X.env := by rfl) (hpl : (backTo pos (starEach es X.env)).any (·.1) = false := by rfl) :
    L2N.PMk X (.Call (.Name x p) (e :: es) [] pos) (tMkO C sp dvs ta) := by
  intro pins s σ H Q I h
  obtain ⟨nm, q, N, bs, bm, sn, sub, ab, col, dd, k0, k1, k2, k3, k5, hC, hbm⟩ := T.cls
  refine wpAny_Call_Name_kw (ld_glob I hg hm ?_ hdb)
  refine PySem.W.callWith_K (h₀ := X.base) I.ok.mod.kin T.kC (thn (ha.run pos pins s σ H _ I h) fun us s1 ⟨vs, H1, I1, r1, hz, q1⟩ => ⟨I1.kIn, ?_⟩) he hpl
  show wpAny _ _ (call (.ref C) us) _ _ _
  obtain ⟨hp, g, dr, tk, os⟩ := s1
  have hsz : hp.objs.size ≤ hp.objs.size + 1 := Nat.le_succ _
  have hq := q1 (hp.objs.size + 1) (I1.hok.fresh hsz)
  have kk : ∀ b o, hp.get? b = some o → ((hp.push (PySem.W.kdv_tup us)).push (PySem.HandSPX.excO C hp.objs.size)).get? b = some o := fun b o e => Heap.get?_push_of_some _ (Heap.get?_push_of_some _ e)
  have hget : ((hp.push (PySem.W.kdv_tup us)).push (PySem.HandSPX.excO C hp.objs.size)).get? (hp.objs.size + 1) = some (PySem.HandSPX.excO C hp.objs.size) := by heap_get
  have I2 : Inv X pins σ (upd H1 (hp.objs.size + 1) (exo (hp.objs.size + 1) C none)) ⟨(hp.push (PySem.W.kdv_tup us)).push (PySem.HandSPX.excO C hp.objs.size), g, dr, tk, os⟩ := I1.laid (t' := tk) (a := hp.objs.size + 1) (o := exo (hp.objs.size + 1) C none) (h' := (hp.push (PySem.W.kdv_tup us)).push (PySem.HandSPX.excO C hp.objs.size)) kk hsz (exo_ok hget)
  have r2 : Vals (V.ref (hp.objs.size + 1) :: (vs ++ dvs)) (Value.ref (hp.objs.size + 1) :: (us ++ ds)) := .cons rfl (r1.append hd)
  have hl : (Value.ref (hp.objs.size + 1) :: us ++ ds).length = ps.length := by
    have e := r2.length
    rw [F1.len _ _ _ _ hq] at e
    exact e.symm
  have hus : us.length ≤ sizeLine := by
    rw [← Paired.length r1, sizeLine_eq]
    omega
  refine wpAny_call (PySem.HandSPX.call_own F.excBase_ValueError (fun Y => PySem.HandSPX.refsVE_contains Y bm hbm) (I1.kIn _ _ hC) (PySem.W.looks_findIn I1.kIn iC) (fun self => PySem.W.bind_fn I1.kIn self tI) hus
    (codeAny_mono (F1.run _ X.stack _ _ ⟨Value.ref (hp.objs.size + 1) :: us, []⟩ (Value.ref (hp.objs.size + 1) :: (us ++ ds)) _ _ (fun _ _ _ => False) (hr.make C us []) (I2.env0.make C us []) (hb _ (Value.ref (hp.objs.size + 1) :: us) I2.kIn hl) r2 hq) fun r s' hq' => ?_))
  cases r with
  | error er => exact hx pins σ _ _ er s' I2 hq'
  | ok fl =>
    cases fl with
    | ret u =>
      obtain ⟨v, H2, os2, bare2, un2, hok2, rv, ev, d, fs, ea, ed, hd1, q2⟩ := hq'
      subst ev
      obtain ⟨h2, g2, d2, t2, os'⟩ := s'
      obtain ⟨t0, G, J, kG, ge, hoe, na⟩ := mk_end0 (d2 := d2) (t2 := t2) I1 hsz kk un2 hok2 os2 bare2 ea ed hd1
      exact ⟨rv, _, _, _, ⟨G, g2, d2, t2, os'⟩, _, .ref C, some d, rfl, J, kG, ge, hoe, ⟨rfl, rfl, fun vs e => by cases e; rfl⟩, rfl, rfl, na, rfl, bare2, raises_own T.exC T.tyC, q2⟩
    | next => exact False.elim hq'
    | brk => exact False.elim hq'
    | cont => exact False.elim hq'
/-- the class as the top has made it, its __init__ as a def -/
structure Ex1 (P : Program) (w : World) (K : PySem.W.Frag) (mg : Str → Option Value) (base : Heap) (x : Str) (C : Addr) (f : Str) : Prop where
  gx : mg x = some (.ref C)
  oex : OexC K C
  ini : ∃ (fI : Addr) (fd : FuncData) (p : Str), PySem.W.findIn K (.ref C) "__init__" = some (some (.ref fI)) ∧ PySem.W.typeIn K (.ref fI) = some (.type "function") ∧ FnOk P w K mg base CX0 1 fI fd ["self", p] (spE1 C f) ∧ Binds K fd ["self", p] []
def sRaise1 (C : Addr) (f : Str) (qe : QE) : DXs → QS := fun Ψ E s m => qe s m fun d m1 => ∀ x, m1 x = none → Ψ (.ref C) (some x) s (mset m1 x (.xd [(f, d)]))
theorem xs_raise1 {X : Cx} {W : WX} {x : Str} {C : Addr} {f : Str} {a : Expr} {qe : QE} {p1 pos pos2 : Pos} (hc : X.calm = true) (T : Ex1 X.prog X.w X.K X.mg X.base x C f) (hr : Room 2 X.A) (tk : L2N.Takes X W) (he : PE X a (liftE X.K qe)) (hg : Gl X x := by rfl)
    (hdb : (x == ("__debug__" : Str)) = false := by decide) (hs : starEach (a :: []) X.env = (false, eval a X.env) :: starEach [] X.env := by rfl) (hpl : (backTo pos (starEach [] X.env)).any (·.1) = false := by rfl) :
    PS X (.Raise (some (.Call (.Name x p1) [a] [] pos)) none pos2) (liftSX X.K W (sRaise1 C f qe)) := by
  obtain ⟨fI, fd, p, iC, tI, F1, hb⟩ := T.ini
  refine ps_imp (L2N.ps_raise hc tk (pmkN T.oex iC tI F1 hr hb .nil pass0 hg T.gx (pa_cons he pa_nil hs) hdb hs hpl)) fun D σ H ⟨G, s, m, E, Ψ, rm, rs, q, kn, kr, kb, kc, kx⟩ => ?_
  refine ⟨G, s, m, _, rm, rs, q, fun G1 d m1 v H1 e1 r1 rd q1 => ?_⟩
  refine ⟨by show 1 ≤ 1000; decide, fun a ha => ⟨a, v, rfl, upd_same, fun dx hdx hne => ?_⟩⟩
  have hdx1 : H1 dx = none := by rw [upd_ne hne] at hdx; exact hdx
  refine ⟨rfl, dx, [(f, v)], upd_same, by rw [upd_ne hne, upd_same], hdx1, ?_⟩
  have eh : upd (del (upd (upd (upd H1 a (exo a C none)) dx (exd dx [(f, v)])) a (exo a C (some dx))) a) dx (.xd [(f, v)]) = upd H1 dx (.xd [(f, v)]) := by
    funext b
    by_cases hb : b = dx
    · subst hb; rw [upd_same, upd_same]
    · rw [upd_ne hb, upd_ne hb]
      by_cases ha' : b = a
      · subst ha'; rw [del_same, ha]
      · rw [del_ne ha', upd_ne ha', upd_ne hb, upd_ne ha']
  rw [eh]
  exact kx G1 (.ref C) s _ (some dx) σ _ e1 (r1.new (o := .xd [(f, d)]) hdx1 ⟨[(f, v)], rfl, v, [], rfl, rd, rfl⟩) (rs.mono e1) (q1 dx (r1.free hdx1))
/-! ### calls that may raise, as statements -/
theorem run_fnRS {X : Cx} {pins : List (Addr × Obj)} {σ : L2.St} {H : Hp} {s : Shared} {CX : CXT} {k : Nat} {f : Addr} {sp : Sp} {E : XK} {Q : VK} {us : List Value} {vs : List V} (F : FnR X.prog X.w X.K X.mg X.base CX k f sp) (hr : Room k X.A) (hx : PassesAt CX X σ E) (I : L2.Inv X pins σ H s) (r : Vals vs us) (h : sp vs H Q E) :
    codeAny (model X.prog X.w) X.A (.call (.ref f) ⟨us, []⟩) (fun r s' => match r with | .ok (.ret v) => EP X pins σ Q v s' | .ok _ => False | .error e => X.xe e s') s := by
  refine codeAny_mono (F X.A X.stack s H us vs Q E hr I.env0 r h) fun r s' hq => ?_
  cases r with
  | error e => exact hx pins H s e s' I hq
  | ok fl =>
    cases fl with
    | ret u => exact I.after hq
    | next => exact False.elim hq
    | brk => exact False.elim hq
    | cont => exact False.elim hq
/-- a def that may raise -/
def FnDX (P : Program) (w : World) (K : PySem.W.Frag) (mg : Str → Option Value) (base : Heap) (k : Nat) (f : Addr) (sp : LSpE) : Prop := FnR P w K mg base (L2N.CX P w) k f (liftSpE K sp)
section
variable {X : Cx} {W : WX} {k : Nat} {f C : Addr} {m x : Str} {pos apos p : Pos} {e o : Expr} {es : List Expr}
theorem pe_methS {sp : Sp} {ta : TE} {t : TA} {pl : Sem Bool} (he : PE X o ta) (c : Cls X.K C) (hm : Meth X.K C m f) (F : FnR X.prog X.w X.K X.mg X.base (L2N.CX X.prog X.w) k f sp) (hr : Room k X.A) (tk : L2N.Takes X W) (ha : PA X (e :: es) t)
    (hst : starEach (e :: es) X.env = (false, eval e X.env) :: starEach es X.env := by rfl) (hpl : (backTo pos (starEach es X.env)).any (·.1) = false := by rfl)
    (ht : eval (.Call (.Attribute o m apos) (e :: es) [] pos) X.env = (do
      let ov ← eval o X.env
      standAt apos.atName
      let (f, first) ← holding [ov] (getMethod ov m pl)
      callWith pos f first (backTo pos (starEach (e :: es) X.env)) (backToKw pos (keywordEach [] X.env))) := by rfl) :
    PE X (.Call (.Attribute o m apos) (e :: es) [] pos) (fun σ H Q => ta σ H fun x H1 => ∃ a dx fs, x = .ref a ∧ H1 a = some (.ins C dx fs) ∧ fs.lookup m = none ∧ t σ H1 fun vs H2 => sp (x :: vs) H2 Q (WE W σ)) := by
  refine ⟨fun pins s σ H Q I h => ?_⟩
  refine PySem.W.methodCall_KW (pl := pl) (thn (he.run pins s σ H _ I h) fun u s1 ⟨x, H1, I1, rx, a, dx, fs, ex, ea, l, q⟩ => ?_) ht
  subst ex
  obtain rfl : u = Value.ref a := rx
  refine getmeth_ok I1 ea c hm l ?_
  refine PySem.W.callWith_K (first := [.ref a]) (h₀ := X.base) I.ok.mod.kin hm.kp (thn (ha.run pos pins s1 σ H1 _ I1 q) fun us s2 ⟨vs, H2, I2, r, q2⟩ => ⟨I2.kIn, ?_⟩) hst hpl
  exact wpAny_call (run_fnRS (us := .ref a :: us) (vs := .ref a :: vs) F hr (L2N.passAt tk σ) I2 (.cons rfl r) q2)
/-- o.m(..) as a statement -/
def sExprM (C : Addr) (m : Str) (sp : LSpE) (qo : QE) (qa : QA) : DXs → QS := fun Ψ E s mm => qo s mm fun x m1 => match x with
  | .ref a => ∃ fs, m1 a = some (.ins C fs) ∧ fs.lookup m = none ∧ qa s m1 fun ds m2 => sp (x :: ds) m2 (fun _ m3 => E.nx s m3) (fun cls od m3 => Ψ cls od s m3)
  | _ => False
theorem xs_exprM {sp : LSpE} {qo : QE} {qa : QA} {pos2 : Pos} {pl : Sem Bool} (he : PE X o (liftE X.K qo)) (c : Cls X.K C) (hm : Meth X.K C m f) (F : FnDX X.prog X.w X.K X.mg X.base k f sp) (hr : Room k X.A) (tk : L2N.Takes X W) (ha : PA X (e :: es) (liftA X.K qa))
    (hs : swapsWith (.Call (.Attribute o m apos) (e :: es) [] pos) none pos2.line X.env = pure false := by rfl)
    (hst : starEach (e :: es) X.env = (false, eval e X.env) :: starEach es X.env := by rfl) (hpl : (backTo pos (starEach es X.env)).any (·.1) = false := by rfl)
    (ht : eval (.Call (.Attribute o m apos) (e :: es) [] pos) X.env = (do
      let ov ← eval o X.env
      standAt apos.atName
      let (f, first) ← holding [ov] (getMethod ov m pl)
      callWith pos f first (backTo pos (starEach (e :: es) X.env)) (backToKw pos (keywordEach [] X.env))) := by rfl) :
    PS X (.Expr (.Call (.Attribute o m apos) (e :: es) [] pos) pos2) (liftSX X.K W (sExprM C m sp qo qa)) :=
  ps_imp (ps_expr (pe_methS he c hm F hr tk ha hst hpl ht) hs) fun D σ H ⟨G, s, mm, E, Ψ, rm, rs, q, kn, kr, kb, kc, kx⟩ => ⟨G, s, mm, _, rm, rs, q, fun G1 d m1 v H1 e1 r1 rd q1 => by
    cases d with
    | ref a =>
      obtain rfl : v = .ref a := rd
      obtain ⟨fs, hm', hl, q1⟩ := q1
      obtain ⟨_, w, hw, dx, xs, rfl, r⟩ := r1.mem a _ hm'
      have rl := r.lookup m
      rw [hl] at rl
      exact ⟨a, dx, xs, rfl, hw, rl.none, G1, s, m1, _, r1, rs.mono e1, q1, fun G2 ds m2 vs H2 e2 r2 rds q2 => ⟨G2, m2, _, _, _, r2, RVs.cons (show RV X.K G2 (.ref a) (.ref a) from rfl) rds, q2,
        fun G3 d3 m3 v3 H3 e3 r3 _ q3 => kn G3 s m3 σ H3 ((e1.trans e2).trans e3) r3 (rs.mono ((e1.trans e2).trans e3)) q3, fun G3 cls m3 od H3 e3 r3 q3 => kx G3 cls s m3 od σ H3 ((e1.trans e2).trans e3) r3 (rs.mono ((e1.trans e2).trans e3)) q3⟩⟩
    | _ => exact q1.elim⟩
end
/-! ### a def that may raise -/
section
variable {P : Program} {w : World} {K : PySem.W.Frag} {mg : Str → Option Value} {base : Heap}
theorem defX_of {x qual : Str} {st : Stmt} {f : Addr} {fd : FuncData} {N ps : List Str} {k : Nat} {sp : LSpE} {qb : DXs → QS} (F : Fun K x qual st f fd) (hb : Binds K fd ps []) (S : FnScope N ps (defScope st)) (len : ∀ ds m Φ Ψ, sp ds m Φ Ψ → ds.length = ps.length)
    (hd : ∀ (cdv : Value) (A : Around) (outer : List Env) (s : Shared) (H : Hp) (E : XK), Room k (A.deeper (envOfC qual (defScope st) s.heap.objs.size f cdv)) → PSs (cxOf (L2N.CX P w) P w K mg base N qual (defScope st) f cdv A outer s H E) (defBody st) (liftSX K (fun cls d _ H => E cls d H) qb))
    (h : ∀ ds m Φ Ψ, sp ds m Φ Ψ → qb (fun cls od _ m => ∃ m', MLe m m' ∧ Ψ cls od m') (bodyW Φ) (begin_ N.length ds) m) : FnDX P w K mg base (k + 1) f sp := by
  have F1 : FnOk P w K mg base (L2N.CX P w) (k + 1) f fd ps (liftSpE K sp) := by
    obtain ⟨oc, od, kV, doc, pm, an, cdv, ct, osl, rfl, lk, hcd⟩ := F.ex
    refine fn_of lk hcd S (fun vs H Q E hs => ?_) (fun A outer s H vs Q E hr hs => ⟨liftSX K (fun cls d _ H => E cls d H) qb, hd cdv A outer s H E hr, ?_⟩)
    · obtain ⟨G, m, ds, Φ, Ψ, rm, rd, q, k⟩ := hs
      rw [← rd.length]; exact len ds m Φ Ψ q
    · obtain ⟨G, m, ds, Φ, Ψ, rm, rd, q, k, kx⟩ := hs
      refine ⟨G, begin_ N.length ds, m, bodyW Φ, _, rm, relS_start rd, h ds m Φ Ψ q, ?_, ?_, fun _ _ _ _ _ _ _ _ z => z.elim, fun _ _ _ _ _ _ _ _ z => z.elim, ?_⟩
      · exact fun G' s' m' σ' H' e1 r1 _ ⟨m2, le, q1⟩ => k G' .non m2 .non H' e1 (r1.le le) rfl q1
      · exact fun G' d m' v H' e1 r1 rv ⟨m2, le, q1⟩ => k G' d m2 v H' e1 (r1.le le) rv q1
      · exact fun G' cls s' m' od σ' H' e1 r1 _ ⟨m2, le, q1⟩ => kx G' cls m2 od H' e1 (r1.le le) q1
  intro A outer s H us vs Q E hr e0 r hs
  have hl : vs.length = ps.length := F1.len vs H Q E hs
  exact F1.run A outer s H ⟨us, []⟩ us vs Q E hr e0 (by
    have := hb s us (e0.mod.kin.keeps fun b o z => (e0.bs b o z).1) (by rw [List.append_nil, ← r.length]; exact hl)
    rwa [List.append_nil] at this) r hs
end
/-! ### try .. except C as e -/
section
variable {X : Cx}
/-- qb: the body; qs: the suite, by the exception's place, class and own dict. The name's slot is i -/
def sTry (C : Addr) (i : Nat) (qb : DXs → QS) (qs : Addr → Value → Option Addr → QS) : QS := fun E s m => qb (fun cls od s' m' => cls = .ref C ∧
  ∀ a, m' a = none → qs a cls od { nx := fun s2 m2 => E.nx (s2.set i none) m2, rt := E.rt, bk := fun s2 m2 => E.bk (s2.set i none) m2, ct := fun s2 m2 => E.ct (s2.set i none) m2 } (s'.set i (some (.ref a))) m') E s m
theorem RelS.unset {K : PySem.W.Frag} {s : DSt} {G : Hp} {σ : L2.St} (r : RelS K s G σ) (i : Nat) : RelS K (s.set i none) G (σ.set i none) := by
  refine ⟨by rw [List.length_set, List.length_set]; exact r.len, fun j e hj => ?_⟩
  rw [List.getElem?_set] at hj ⊢
  split at hj
  · split at hj
    · cases hj
    · cases hj
  · rename_i h
    rw [if_neg h]
    exact r.loc j e hj
theorem ds_try {x n : Str} {c : Value} {i : Nat} {body suite : List Stmt} {b₀ : Stmt} {np pos pos' : Pos} {qb : DXs → QS} {qs : Addr → Value → Option Addr → QS} (hs : X.stack = X.env :: X.outer) (hf : X.env.frame = some X.env.locals) (hN : X.N.Nodup) (hi : X.N[i]? = some n) (hln : X.env.kindOf n = some .local) (hc : Names X x c) {C : Addr} (hx : PySem.W.exmOne X.K (.ref C) c = some true)
    (hb : ∀ (W : WX) (pn : List (Addr × Obj)) (xe : Value → Shared → Prop), L2N.Takes (X.tr pn xe) W → PSs (X.tr pn xe) body (liftSX X.K W qb))
    (hsu : ∀ (a : Addr) (oe : Obj) (cls : Value) (d : Option Addr) (pn : List (Addr × Obj)), L2N.Zn cls d oe → (∃ vs, oe.data = .fields vs) → PSs (X.suite a ((a, oe) :: pn)) (b₀ :: suite) (liftS X.K (qs a cls d))) :
    PS X (.Try body [.ExceptHandler (some (.Name x np)) (some n) (b₀ :: suite) pos'] [] [] pos) (liftS X.K (sTry C i qb qs)) :=
  ps_imp (L2N.ps_try_as (tb := fun W => liftSX X.K W qb) (ts := fun a cls d => liftS X.K (qs a cls d)) (Wout := fun _ _ _ _ => False) hs hf hN hi hln hc takes0N (fun W pn xe tk _ => hb W pn xe tk) hsu) fun D σ H ⟨G, s, m, E, rm, rs, q, kn, kr, kb, kc⟩ =>
    ⟨G, s, m, E, _, rm, rs, q, kn, kr, kb, kc, fun G' cls s' m' od σ' H' e1 r1 r2 ⟨ec, q1⟩ => by
      subst ec
      refine ⟨true, hx, fun _ a ha => ?_, fun z => by cases z⟩
      refine ⟨G', s'.set i (some (.ref a)), m', _, r1, r2.set i (show RV X.K G' (.ref a) (.ref a) from rfl), q1 a (r1.free ha), ?_, kr.mono e1, ?_, ?_⟩
      · exact fun G2 s2 m2 σ2 H2 e2 r3 r4 q2 => kn G2 _ m2 _ H2 (e1.trans e2) r3 (RelS.unset r4 i) q2
      · exact fun G2 s2 m2 σ2 H2 e2 r3 r4 q2 => kb G2 _ m2 _ H2 (e1.trans e2) r3 (RelS.unset r4 i) q2
      · exact fun G2 s2 m2 σ2 H2 e2 r3 r4 q2 => kc G2 _ m2 _ H2 (e1.trans e2) r3 (RelS.unset r4 i) q2⟩
/-- e.f of the exception in hand -/
def qXf (a : Addr) (cls : Value) (od : Option Addr) (C : Addr) (f : Str) (qe : QE) : QE := fun s m Φ => qe s m fun x m1 => x = .ref a ∧ cls = .ref C ∧ ∃ dd fs d, od = some dd ∧ m1 dd = some (.xd fs) ∧ fs.lookup f = some d ∧ Φ d m1
theorem de_xf {a C : Addr} {oe : Obj} {cls : Value} {d : Option Addr} {pn : List (Addr × Obj)} {e : Expr} {qe : QE} {pos : Pos} {n : Str} (T : XfC X.K C) (hno : PySem.W.findIn X.K (.ref C) n = some none) (hz : Zc cls d oe) (hf : ∃ vs, oe.data = .fields vs) (he : PE (X.suite a ((a, oe) :: pn)) e (liftE X.K qe))
    (hb : attributeBase e n X.env (eval e X.env) = eval e X.env := by rfl) : PE (X.suite a ((a, oe) :: pn)) (.Attribute e n pos) (liftE X.K (qXf a cls d C n qe)) :=
  pe_imp (pe_xf T hno hz hf he hb) fun σ H Q ⟨G, s, m, Φ, rm, rs, q, k⟩ => ⟨G, s, m, _, rm, rs, q, fun G1 x m1 v H1 e1 r1 rx ⟨ex, ec, dd, fs, y, ed, hm, hl, q1⟩ => by
    subst ex
    obtain rfl : v = .ref a := rx
    obtain ⟨_, u, hu, xs, rfl, rk⟩ := r1.mem dd _ hm
    have rl := rk.lookup n
    rw [hl] at rl
    obtain ⟨v', hv, rv⟩ := rl.some
    exact ⟨rfl, ec, dd, xs, v', ed, hu, hv, k G1 y m1 v' H1 e1 r1 rv q1⟩⟩
end
end L3
/-! L3y: isinstance of an exception in hand that has fields -/
namespace L3
open PySem PySem.Spec PyProof.Rows L2
def rIsE2 (K : PySem.W.Frag) (D a : Addr) (d : Option Addr) : List V → Hp → VK → Prop := fun xs H Q => ∃ (c : V) (cv : Value) (b : Bool) (dd : Addr) (ys : List (Str × V)), xs = [.ref a, c] ∧ (∀ u, RelV c u → u = cv) ∧ d = some dd ∧ H dd = some (.xd ys) ∧ PySem.W.kitOne K (.ref D) cv = some b ∧ Q (.bl b) H
theorem call_isE2 {X : Cx} {a D : Addr} {oe : Obj} {d : Option Addr} {pn : List (Addr × Obj)} (C : ExcC X.K D) (hz : Zc (.ref D) d oe) (hf : ∃ vs, oe.data = .fields vs) : CallR (X.suite a ((a, oe) :: pn)) (.builtin "isinstance") (rIsE2 X.K D a d) := by
  intro pins s σ H xs us Q I r h
  obtain ⟨c, cv, b, dd, ys, rfl, hcv, ed, hd, e, q⟩ := h
  subst ed
  cases r with
  | cons rx rr =>
    cases rr with
    | cons rt rr =>
      cases rr
      cases rx
      have ec := hcv _ rt
      subst ec
      obtain ⟨hget, _⟩ := I.pin (a, oe) (List.mem_append.mpr (.inl List.mem_cons_self))
      obtain ⟨vs, hv⟩ := hf
      have hx : ObjOk X.prog X.w H s.heap dd (.xd ys) := I.hok dd _ hd
      obtain ⟨mA, hns, _⟩ := hx
      obtain ⟨od, ho, _⟩ := lookIn_ns hns
      have J : PySem.W.InstAt s.heap a oe D (some od) := ⟨hget, hz.1, by unfold PySem.W.notCls; rw [hv] <;> rfl, by rw [hz.2]; exact ho⟩
      have hcl : (PySem.W.clsIn X.K D).isSome = true := by
        obtain ⟨cd, hc, _⟩ := PySem.W.any_some C.hd
        rw [hc]; rfl
      exact PySem.W.kia_one (PySem.W.kitx_exc hcl C.hg C.hk C.hs C.ha C.hn C.ht C.hm) I.kIn J e (fun z => nomatch z) fun tk => ⟨.bl b, H, I.kept (t' := tk) fun _ _ z => z, rfl, q⟩
def qIsE (a : Addr) (cls : Value) (od : Option Addr) (D : Addr) (b : Bool) (qe : QE) : QE := fun s m Φ => cls = .ref D ∧ qe s m fun x m1 => x = .ref a ∧ ∃ dd fs, od = some dd ∧ m1 dd = some (.xd fs) ∧ Φ (.bl b) m1
/-- isinstance(e, C), e the exception in hand, its class D -/
theorem de_isE {X : Cx} {a C D : Addr} {oe : Obj} {cls : Value} {d : Option Addr} {pn : List (Addr × Obj)} {x : Str} {e : Expr} {qe : QE} {p p2 pos : Pos} {b : Bool} (T : ExcC X.K D) (hz : Zc cls d oe) (hf : ∃ vs, oe.data = .fields vs) (hg : Gl X "isinstance") (hm : X.mg "isinstance" = none)
    (hx : Gl X x) (hmx : X.mg x = some (.ref C)) (hk : PySem.W.kitOne X.K (.ref D) (.ref C) = some b) (he : PE (X.suite a ((a, oe) :: pn)) e (liftE X.K qe)) (hdb : (x == ("__debug__" : Str)) = false := by decide)
    (hs : starEach (e :: [.Name x p2]) X.env = (false, eval e X.env) :: starEach [.Name x p2] X.env := by rfl) (hs2 : starEach (.Name x p2 :: []) X.env = (false, eval (.Name x p2) X.env) :: starEach [] X.env := by rfl) (hpl : (backTo pos (starEach [.Name x p2] X.env)).any (·.1) = false := by rfl) :
    PE (X.suite a ((a, oe) :: pn)) (.Call (.Name "isinstance" p) [e, .Name x p2] [] pos) (liftE X.K (qIsE a cls d D b qe)) := by
  refine ⟨fun pins s σ H Q I h => ?_⟩
  obtain ⟨G, s0, m, Φ, rm, rs, ⟨ec, q⟩, k⟩ := h
  subst ec
  have hC : PE (X.suite a ((a, oe) :: pn)) (.Name x p2) (tC (.ref C)) := pe_glob (X := X.suite a ((a, oe) :: pn)) (v := .ref C) hx hmx rfl hdb
  refine (pe_callB (X := X.suite a ((a, oe) :: pn)) (call_isE2 T hz hf) hg hm (by decide +kernel) (pa_cons he (pa_cons hC pa_nil hs2) hs) (by decide) (by decide) hs hpl).run pins s σ H Q I ?_
  refine ⟨G, s0, m, _, rm, rs, q, fun G1 x1 m1 v H1 e1 r1 rx ⟨ex, dd, fs, ed, hmm, q1⟩ => ?_⟩
  subst ex
  obtain rfl : v = .ref a := rx
  obtain ⟨_, u, hu, xs, rfl, rk⟩ := r1.mem dd _ hmm
  exact ⟨.ref C, .ref C, b, dd, xs, rfl, fun u h => h, ed, hu, hk, k G1 (.bl b) m1 _ H1 e1 r1 rfl q1⟩
end L3
set_option maxHeartbeats 2000000
/-! L5h: iterators that end while an exception is handled -/
namespace HotE
open PySem PySem.Spec PyProof.Rows HotX
section
variable {prog : Program} {w : World} {A : Around} {E : Value → Shared → Prop} {s : Shared}
/-- an iterator's object is not the handled exception's -/
theorem hot_ne {x1 it : Addr} {o : Obj} {u v : Value} (hot : HotAt A x1 s.heap) (ho : s.heap.get? it = some o) (hd : o.data = .fields #[u, v]) : x1 ≠ it := by
  rintro rfl
  obtain ⟨_, o1, vs1, h1, d1, c1⟩ := hot
  rw [ho] at h1
  cases h1
  rw [hd] at d1
  cases d1
  exact nomatch c1
/-- the end of a walk over a tuple -/
theorem tup_end {it t x1 : Addr} {i : Nat} {items : Array Value} {Q : Fin → Shared → Prop} (hot : HotAt A x1 s.heap) (hit : s.heap.IsTupleIter it t i) (ht : s.heap.IsTuple t items) (hx : items[i]? = none)
    (hE : ∀ h' e, Heap.ExtBut it s.heap h' → (∃ o, h'.get? e = some o ∧ o.cls = .type "StopIteration") → E (.ref e) { s with heap := h' }) : wpAny (model prog w) A (Builtin.«tuple_iterator.__next__» ⟨[.ref it], []⟩) Q E s := by
  obtain ⟨o, ho, hc, hd⟩ := id hit
  obtain ⟨ol, hol, _, nl, hdl⟩ := ht
  have hne := hot_ne hot ho hd
  obtain ⟨hh, o1, vs1, h1, d1, c1⟩ := hot
  show wpAny _ _ (field (.ref it) 0 >>= _) _ _ s
  refine wpAny_bind (wpAny_field ho hd (x := .ref t) rfl ?_)
  show wpAny _ _ (if (Value.ref t == Value.none) = true then _ else _) _ _ s
  rw [if_neg (show ¬ ((Value.ref t == Value.none) = true) from Bool.false_ne_true)]
  show wpAny _ _ (field (.ref it) 1 >>= _) _ _ s
  refine wpAny_bind (wpAny_field ho hd (x := .int i 0) rfl ?_)
  show wpAny _ _ (seqItems? (.ref t) >>= _) _ _ s
  refine wpAny_bind (wpAny_seqItems hol hdl ?_)
  simp only [Int.toNat_natCast, hx]
  refine wpAny_bind (wpAny_rule (wpAny_bind (wpAny_setField ho hd (by simp) ?_)))
  show wpAny _ _ (newExc (.type "StopIteration") [] >>= _) _ _ _
  refine wpAny_bind ?_
  simp only [newExc, newTuple]
  refine wpAny_bind (wpAny_newObj_type ?_ (by size_fits))
  refine wpAny_bind (m := firstArgMember _ _) (wpAny_of_eq (a := Value.none) (by first | rfl | (simp only [firstArgMember]; rfl)) ?_)
  refine wpAny_newObj_type ?_ (by size_fits)
  refine raiseNew_hot ⟨hh, o1, vs1, Heap.get?_push_of_some _ (Heap.get?_push_of_some _ ((Heap.get?_update_other _ _ hne.symm).trans h1)), d1, c1⟩ (Nat.ne_of_lt (Heap.lt_size (Heap.get?_push_of_some _ ((Heap.get?_update_other _ _ hne.symm).trans h1)))) (Heap.get?_push_size _ rfl) rfl (by first | (simp; done) | (simp; omega) | (simp only [Array.size_append]; simp; omega)) ?_
  refine hE _ _ (fun b ob hb e => ?_) ⟨_, Heap.get?_update_self _ (Heap.get?_push_size _ rfl) rfl, rfl⟩
  have e2 := (Heap.get?_update_other s.heap (Obj.mapFields fun x => x.setIfInBounds 0 Value.none) (Ne.symm hb)).trans e
  rw [Heap.get?_update_other _ _ (Nat.ne_of_gt (Heap.lt_size (Heap.get?_push_of_some _ e2)))]
  exact Heap.get?_push_of_some _ (Heap.get?_push_of_some _ e2)
/-- the end of a walk over a list -/
theorem lst_end {it t x1 : Addr} {i : Nat} {items : Array Value} {Q : Option Value → Shared → Prop} (hot : HotAt A x1 s.heap) (hit : s.heap.IsListIter it t i) (ht : s.heap.IsList t items) (hx : items[i]? = none)
    (hQ : ∀ h', Heap.ExtBut it s.heap h' → Q none { s with heap := h' }) : wpAny (model prog w) A (pyNext (.ref it)) Q E s := by
  obtain ⟨o, ho, hc, hd⟩ := id hit
  obtain ⟨ol, hol, _, nl, hdl⟩ := ht
  have hne := hot_ne hot ho hd
  obtain ⟨hh, o1, vs1, h1, d1, c1⟩ := hot
  unfold pyNext
  refine wpAny_bind (wpAny_attempt (wpAny_callSpecial?_slot (name := Str.ofString "__next__") hit.typeIs slot_listiter_next
    (wpAny_call_entry slot_listiter_next hit.typeIs entry_listiter_next ?_ (args_listiter_next _))))
  show wpAny _ _ (field (.ref it) 0 >>= _) _ _ s
  refine wpAny_bind (wpAny_field ho hd (x := .ref t) rfl ?_)
  show wpAny _ _ (if (Value.ref t == Value.none) = true then _ else _) _ _ s
  rw [if_neg (show ¬ ((Value.ref t == Value.none) = true) from Bool.false_ne_true)]
  show wpAny _ _ (field (.ref it) 1 >>= _) _ _ s
  refine wpAny_bind (wpAny_field ho hd (x := .int i 0) rfl ?_)
  show wpAny _ _ (seqItems? (.ref t) >>= _) _ _ s
  refine wpAny_bind (wpAny_seqItems hol hdl ?_)
  simp only [Int.toNat_natCast, hx]
  refine wpAny_bind (wpAny_rule (wpAny_bind (wpAny_setField ho hd (by simp) ?_)))
  show wpAny _ _ (newExc (.type "StopIteration") [] >>= _) _ _ _
  refine wpAny_bind ?_
  simp only [newExc, newTuple]
  refine wpAny_bind (wpAny_newObj_type ?_ (by size_fits))
  refine wpAny_bind (m := firstArgMember _ _) (wpAny_of_eq (a := Value.none) (by first | rfl | (simp only [firstArgMember]; rfl)) ?_)
  refine wpAny_newObj_type ?_ (by size_fits)
  refine raiseNew_hot ⟨hh, o1, vs1, Heap.get?_push_of_some _ (Heap.get?_push_of_some _ ((Heap.get?_update_other _ _ hne.symm).trans h1)), d1, c1⟩ (Nat.ne_of_lt (Heap.lt_size (Heap.get?_push_of_some _ ((Heap.get?_update_other _ _ hne.symm).trans h1)))) (Heap.get?_push_size _ rfl) rfl (by first | (simp; done) | (simp; omega) | (simp only [Array.size_append]; simp; omega)) ?_
  refine wpAny_bind (wpAny_isInstance (T := "StopIteration") (b := true) ⟨_, Heap.get?_update_self _ (Heap.get?_push_size _ rfl) rfl, rfl⟩ isSubtype_stop ?_)
  refine wpAny_pure (hQ _ fun b ob hb e => ?_)
  have e2 := (Heap.get?_update_other s.heap (Obj.mapFields fun x => x.setIfInBounds 0 Value.none) (Ne.symm hb)).trans e
  rw [Heap.get?_update_other _ _ (Nat.ne_of_gt (Heap.lt_size (Heap.get?_push_of_some _ e2)))]
  exact Heap.get?_push_of_some _ (Heap.get?_push_of_some _ e2)
theorem pyNext_tup_end {it t x1 : Addr} {i : Nat} {items : Array Value} {Q : Option Value → Shared → Prop} (hot : HotAt A x1 s.heap) (hit : s.heap.IsTupleIter it t i) (ht : s.heap.IsTuple t items) (hx : items[i]? = none)
    (hQ : ∀ h', Heap.ExtBut it s.heap h' → Q none { s with heap := h' }) : wpAny (model prog w) A (pyNext (.ref it)) Q E s := by
  unfold pyNext
  refine wpAny_bind (wpAny_attempt (wpAny_callSpecial?_slot (name := Str.ofString "__next__") hit.typeIs F.slot_tuple_iterator_next
    (wpAny_call_entry F.slot_tuple_iterator_next hit.typeIs F.entry_tuple_iterator_next (tup_end (A := A.in1) hot hit ht hx fun h' e hk he => ?_) (F.args_tuple_iterator_next_1 _))))
  obtain ⟨o, ho, hc⟩ := he
  exact wpAny_bind (wpAny_isInstance (T := "StopIteration") (b := true) ⟨o, ho, hc⟩ isSubtype_stop (wpAny_pure (hQ _ hk)))
theorem nextOf_tup_end {it l x1 : Addr} {i : Nat} {items : Array Value} {Q : Value → Shared → Prop} (hot : HotAt A x1 s.heap)
    (hit : s.heap.IsTupleIter it l i) (hl : s.heap.IsTuple l items) (hx : items[i]? = none)
    (hE : ∀ h' e, Heap.ExtBut it s.heap h' → (∃ o, h'.get? e = some o ∧ o.cls = .type "StopIteration") → E (.ref e) { s with heap := h' }) : wpAny (model prog w) A (Builtin.SmallTypes.nextOf (.ref it)) Q E s := by
  unfold Builtin.SmallTypes.nextOf
  exact wpAny_bind (wpAny_callSpecial?_slot (name := Str.ofString "__next__") hit.typeIs F.slot_tuple_iterator_next
    (wpAny_call_entry F.slot_tuple_iterator_next hit.typeIs F.entry_tuple_iterator_next (tup_end (A := A.in1) hot hit hl hx hE) (F.args_tuple_iterator_next_1 _)))
theorem hot_mono {x1 : Addr} {h h' : Heap} (hot : HotAt A x1 h) (k : ∀ o, h.get? x1 = some o → h'.get? x1 = some o) : HotAt A x1 h' := by
  obtain ⟨hh, o1, vs1, h1, d1, c1⟩ := hot
  exact ⟨hh, o1, vs1, k _ h1, d1, c1⟩
/-- a tuple's items, as many as there are targets -/
theorem unpack_hot {t x1 : Addr} {items : Array Value} {Q : List Value → Shared → Prop} (hot : HotAt A x1 s.heap) (ht : IsTup s.heap t items)
    (hQ : ∀ h', Heap.ExtBut s.heap.objs.size s.heap h' → Q items.toList { s with heap := h' }) : wpAny (model prog w) A (unpackItems (.ref t) items.size none) Q E s := by
  have hlt : t ≠ s.heap.objs.size := by obtain ⟨o, ho, _⟩ := ht; exact Nat.ne_of_lt (Heap.lt_size ho)
  have hx1 : x1 ≠ s.heap.objs.size := by obtain ⟨_, o1, _, h1, _⟩ := hot; exact Nat.ne_of_lt (Heap.lt_size h1)
  unfold unpackItems
  refine wpAny_bind ?_
  unfold notIterableAtAll
  refine wpAny_bind (wpAny_specialOf ht.typeIs slot_tuple_iter.lookup (wpAny_pure ?_))
  simp only [Bool.false_eq_true, if_false]
  refine wpAny_bind (wpAny_holding (iter_tuple ht ?_))
  refine wpAny_bind (wpAny_holding (draw_tuple hlt items.size 0 _ _ ⟨_, Heap.get?_push_size _ rfl, rfl, rfl⟩ (ht.push _) (by omega) fun h₁ hit₁ hs₁ => ?_))
  rw [show List.take items.size (List.drop 0 items.toList) = items.toList by rw [List.drop_zero]; exact List.take_of_length_le (by simp), if_neg (by simp)]
  have ht₁ : IsTup h₁ t items := (ht.push _).extBut hs₁.extBut hlt
  refine wpAny_bind (wpAny_holding (pyNext_tup_end (hot_mono hot fun o e => hs₁.extBut _ _ hx1 (Heap.get?_push_of_some _ e)) hit₁ ht₁ (by simp) fun h₂ he₂ => ?_))
  simp only [Option.isSome_none, Bool.false_eq_true, if_false]
  exact wpAny_pure (hQ h₂ fun b o hb e => he₂ b o hb (hs₁.extBut b o hb (Heap.get?_push_of_some _ e)))
theorem assign_hot {env : Env} {elts : List Expr} {k : Nat} {pos : Pos} {t x1 : Addr} {items : Array Value} {Q : Unit → Shared → Prop} (hot : HotAt A x1 s.heap) (ht : IsTup s.heap t items)
    (hn : (assignEach elts env).length = items.size) (hstar : (assignEach elts env).findIdx? (·.1) = none)
    (h : ∀ h', Heap.ExtBut s.heap.objs.size s.heap h' → wpAny (model prog w) A (assignInOrder ((assignEach elts env).map (·.2)) items.toList) Q E { s with heap := h' }) :
    wpAny (model prog w) A (assign (.Tuple elts k pos) env (.ref t)) Q E s := by
  rw [assign_Tuple]
  refine wpAny_bind (wpAny_standAt ?_)
  unfold unpack
  rw [hn, hstar]
  exact wpAny_bind (wpAny_holding (unpack_hot hot ht fun h' he => h h' he))
/-- zip of two tuples ends -/
theorem zip_end {z TI TO i1 i2 l1 l2 x1 : Addr} {k1 k2 : Nat} {xs ys : Array Value} {a b : Value} {Q : Fin → Shared → Prop} (hot : HotAt A x1 s.heap) (D : ZipApart z TI TO i1 i2 l1 l2)
    (hz : IsZip s.heap z TI TO .none) (hTI : IsPair s.heap TI (.ref i1) (.ref i2)) (hTO : IsPair s.heap TO a b)
    (h1 : s.heap.IsTupleIter i1 l1 k1) (h2 : s.heap.IsTupleIter i2 l2 k2) (hl1 : s.heap.IsTuple l1 xs) (hl2 : s.heap.IsTuple l2 ys) (hend : xs[k1]? = none ∨ ys[k2]? = none) (hxz : x1 ≠ z) (hxTO : x1 ≠ TO)
    (hE : ∀ h' e, (∀ c o, c ≠ z → c ≠ TO → c ≠ i1 → c ≠ i2 → s.heap.get? c = some o → h'.get? c = some o) → (∃ o, h'.get? e = some o ∧ o.cls = .type "StopIteration") → E (.ref e) { s with heap := h' }) :
    wpAny (model prog w) A (Builtin.«zip.__next__» ⟨[.ref z], []⟩) Q E s := by
  have hx1 : x1 ≠ i1 := by obtain ⟨o, ho, _, hd⟩ := h1; exact hot_ne hot ho hd
  show wpAny _ _ (field (.ref z) 2 >>= _) _ _ _
  refine wpAny_bind (wpAny_field hz rfl (x := .bool false) rfl ?_)
  show wpAny _ _ (field (.ref z) 3 >>= _) _ _ _
  refine wpAny_bind (wpAny_field hz rfl (x := .ref TI) rfl (wpAny_bind (wpAny_seqItems hTI rfl ?_)))
  show wpAny _ _ (Builtin.SmallTypes.ownedTupleIsFree (.ref z) >>= _) _ _ _
  refine wpAny_bind ?_
  unfold Builtin.SmallTypes.ownedTupleIsFree
  refine wpAny_bind (wpAny_field hz rfl (x := .none) rfl (wpAny_pure ?_))
  simp only [if_true]
  refine wpAny_bind (wpAny_rule (wpAny_bind (wpAny_field hz rfl (x := .ref TO) rfl ?_)))
  refine wpAny_bind (wpAny_setField_rec hz (by simp) fun g1 hz1 b1 => ?_)
  replace hz1 : IsZip g1 z TI TO .ellipsis := hz1
  refine wpAny_bind ?_
  simp only [List.zipIdx_cons, List.zipIdx_nil, List.forIn_cons, List.forIn_nil]
  refine wpAny_bind (wpAny_bind (wpAny_onRaise ?_))
  show wpAny _ _ (Builtin.SmallTypes.nextOf (.ref i1) >>= _) _ _ _
  have hot1 : HotAt A x1 g1 := hot_mono hot fun o e => b1.extBut _ _ hxz e
  cases hx : xs[k1]? with
  | none =>
    refine wpAny_bind (nextOf_tup_end hot1 (h1.extBut b1.extBut D.i1z) (hl1.extBut b1.extBut D.l1z) hx fun g2 e b2 he => ?_)
    obtain ⟨oe, hoe, hce⟩ := he
    have hz2 : IsZip g2 z TI TO .ellipsis := b2 _ _ D.i1z.symm hz1
    have hez : e ≠ z := fun q => by subst q; rw [hz2] at hoe; cases hoe; simp at hce
    exact wpAny_setField_rec hz2 (by simp) fun g3 _ b3 => hE g3 e (fun c o c1 _ c3 _ q => b3.extBut _ _ c1 (b2 _ _ c3 (b1.extBut _ _ c1 q))) ⟨oe, b3.extBut _ _ hez hoe, hce⟩
  | some x =>
    have hy : ys[k2]? = none := hend.resolve_left (by rw [hx]; intro q; cases q)
    refine wpAny_bind (RZ.nextOf_tuple_item (h1.extBut b1.extBut D.i1z) (hl1.extBut b1.extBut D.l1z) hx fun g2 _ b2 => wpAny_pure ?_)
    have hTO2 : IsPair g2 TO a b := b2.extBut _ _ D.TOi1 (b1.extBut _ _ D.TOz hTO)
    refine wpAny_bind (wpAny_seqItems hTO2 rfl (wpAny_bind (wpAny_updateSeq_pair hTO2 fun g3 _ b3 => wpAny_bind (wpAny_letGo (wpAny_pure ?_)))))
    refine wpAny_bind (wpAny_bind (wpAny_onRaise ?_))
    show wpAny _ _ (Builtin.SmallTypes.nextOf (.ref i2) >>= _) _ _ _
    have hot3 : HotAt A x1 g3 := hot_mono hot1 fun o e => b3.extBut _ _ hxTO (b2.extBut _ _ hx1 e)
    refine wpAny_bind (nextOf_tup_end hot3 (((h2.extBut b1.extBut D.i2z).extBut b2.extBut D.i12.symm).extBut b3.extBut D.TOi2.symm) (((hl2.extBut b1.extBut D.l2z).extBut b2.extBut D.l2i1).extBut b3.extBut D.l2TO) hy fun g4 e b4 he => ?_)
    obtain ⟨oe, hoe, hce⟩ := he
    have hz4 : IsZip g4 z TI TO .ellipsis := b4 _ _ D.i2z.symm (b3.extBut _ _ D.TOz.symm (b2.extBut _ _ D.i1z.symm hz1))
    have hez : e ≠ z := fun q => by subst q; rw [hz4] at hoe; cases hoe; simp at hce
    exact wpAny_setField_rec hz4 (by simp) fun g5 _ b5 => hE g5 e (fun c o c1 c2 c3 c4 q => b5.extBut _ _ c1 (b4 _ _ c4 (b3.extBut _ _ c2 (b2.extBut _ _ c3 (b1.extBut _ _ c1 q))))) ⟨oe, b5.extBut _ _ hez hoe, hce⟩
theorem pyNext_zip_end {z TI TO i1 i2 l1 l2 x1 : Addr} {k1 k2 : Nat} {xs ys : Array Value} {a b : Value} {Q : Option Value → Shared → Prop} (hot : HotAt A x1 s.heap) (D : ZipApart z TI TO i1 i2 l1 l2)
    (hz : IsZip s.heap z TI TO .none) (hTI : IsPair s.heap TI (.ref i1) (.ref i2)) (hTO : IsPair s.heap TO a b)
    (h1 : s.heap.IsTupleIter i1 l1 k1) (h2 : s.heap.IsTupleIter i2 l2 k2) (hl1 : s.heap.IsTuple l1 xs) (hl2 : s.heap.IsTuple l2 ys) (hend : xs[k1]? = none ∨ ys[k2]? = none) (hxz : x1 ≠ z) (hxTO : x1 ≠ TO)
    (hQ : ∀ h', (∀ c o, c ≠ z → c ≠ TO → c ≠ i1 → c ≠ i2 → s.heap.get? c = some o → h'.get? c = some o) → Q none { s with heap := h' }) : wpAny (model prog w) A (pyNext (.ref z)) Q E s := by
  have hT : s.TypeIs (.ref z) "zip" := ⟨_, hz, rfl⟩
  unfold pyNext
  refine wpAny_bind (wpAny_attempt (wpAny_callSpecial?_slot (name := Str.ofString "__next__") hT F.slot_zip_next
    (wpAny_call_entry F.slot_zip_next hT F.entry_zip_next (zip_end (A := A.in1) hot D hz hTI hTO h1 h2 hl1 hl2 hend hxz hxTO fun h' e hk he => ?_) (F.args_zip_next_1 _))))
  obtain ⟨o, ho, hc⟩ := he
  exact wpAny_bind (wpAny_isInstance (T := "StopIteration") (b := true) ⟨o, ho, hc⟩ isSubtype_stop (wpAny_pure (hQ _ hk)))
end
end HotE
set_option maxHeartbeats 2000000
/-! L5i: comprehensions, unpacking, zip, all while an exception is handled -/
namespace HotE
open PySem PySem.Spec PyProof.Rows L2 L2H HotX
/-- the block of a comprehension, its pins kept -/
abbrev blkH (X : Cx) (s : Shared) (H : Hp) (scope : Scope) (cenv : Env) (fp : List Addr) : Cx := { X.blk s H scope cenv fp with pn := X.pn }
theorem Inv.toH {X : Cx} {pins : List (Addr × Obj)} {σ : L2.St} {H H' : Hp} {s s' : Shared} {scope : Scope} {cenv : Env} {fp : List Addr} (I : Inv (X.blk s H scope cenv fp) pins σ H' s')
    (h : ∀ p ∈ X.pn ++ pins, s'.heap.get? p.1 = some p.2 ∧ H' p.1 = none ∧ p.1 ≠ cenv.locals ∧ p.1 ∉ frs X.stack ∧ ∀ v, p.2.data ≠ .cell v) : Inv (blkH X s H scope cenv fp) pins σ H' s' :=
  ⟨⟨I.ok.mod, I.ok.kind, I.ok.glob, I.ok.blt, I.ok.above, I.ok.inj, I.ok.has, I.ok.cab, I.ok.hd, I.ok.frames, I.ok.stk, I.ok.exf, I.ok.bs, I.ok.bsz, I.ok.noex, I.ok.exfs, I.ok.funs, I.ok.frf⟩, I.os, I.bare, I.base, I.loc, I.cell, I.free, I.freeC, h, I.hok, I.len⟩
theorem hot_pin {X : Cx} {pins : List (Addr × Obj)} {σ : L2.St} {H : Hp} {s : Shared} (hc : HotC X) (I : Inv X pins σ H s) {fp : List Addr} (hf : ∀ b ∈ fp, FpOk X pins H b) : ∃ x1, HotAt X.A x1 s.heap ∧ ∀ b ∈ fp, x1 ≠ b := by
  obtain ⟨p, ⟨hh, v1, e1, c1⟩, hp⟩ := hc
  exact ⟨p.1, ⟨hh, p.2, v1, (I.pin p (List.mem_append_left _ hp)).1, e1, c1⟩, fun b hb => (hf b hb).2.2.2.2.2 p (List.mem_append_left _ hp)⟩
section
variable {X : Cx} {pos : Pos}
/-- a, b = a tuple -/
theorem pg_tupH {es : List Expr} {k : Nat} {t : TGs} {n : Nat} (hc : HotC X) (h : PGs X es t)
    (hn : (assignEach es X.env).length = n := by rfl) (hst : (assignEach es X.env).findIdx? (·.1) = none := by rfl) : PG X (.Tuple es k pos) (gTup X.K n t) := by
  refine ⟨fun pins s σ H v u Q I r hw => ?_⟩
  obtain ⟨a, xs, e1, hq, hl, hw⟩ := hw
  subst e1
  cases r
  obtain ⟨its, rv, ht, hz⟩ := I.tuple hq
  obtain ⟨x1, hot⟩ := hc.at I
  refine assign_hot hot ht (by simp [hn, ← hl, rv.length]) hst fun h' hx => ?_
  have I1 : Inv X pins σ H { s with heap := h' } := I.kept (t' := s.toks) fun b o e => hx b o (Nat.ne_of_lt (Heap.lt_size e)) e
  exact h.run pins _ σ H xs _ Q I1 (by simpa using rv) hw
/-- all of a list -/
theorem cr_allH (hc : HotC X) : CallR X (.builtin "all") (rAll X.K) := by
  intro pins s σ H vs us Q I r h
  obtain ⟨a, bs, rfl, hs, q⟩ := h
  obtain ⟨its, rv, hl, _⟩ := I.list hs
  obtain ⟨x1, hot⟩ := hc.at I
  obtain ⟨hh, o1, v1, g1, d1, c1⟩ := hot
  rw [Vals.ref1 r]
  have hb := rv.bls
  refine call_all_walk (iter_any hl.isList fun s₂ e2 st hne => ?_)
  subst e2
  have W : Walks X.prog X.w X.A.in1 s.heap.objs.size [s.heap.objs.size, a, x1] [s.heap.objs.size] its.toArray.size (fun i v => its.toArray[i]? = some v) (fun i h => (h.IsListIter s.heap.objs.size a i ∧ h.IsList a its.toArray) ∧ h.get? x1 = some o1) := {
    sub := fun b hb => by simp at hb; simp [hb]
    frame := fun _ _ _ st hk => ⟨⟨st.1.1.at fun o e => hk _ (by simp) o e, st.1.2.at fun o e => hk a (by simp) o e⟩, hk x1 (by simp) _ st.2⟩
    item := fun i s' Q E hi st hQ => by
      have hx1 : x1 ≠ s.heap.objs.size := Nat.ne_of_lt (Heap.lt_size g1)
      refine wpAny_pyNext_list_item st.1.1 st.1.2 (x := its.toArray[i]) (by simp [hi]) fun h' hit' hs' => ?_
      exact hQ _ h' s'.toks (by simp [hi]) ⟨⟨hit', st.1.2.extBut hs'.extBut hne⟩, hs'.extBut _ _ hx1 st.2⟩ fun b o hb e => hs'.extBut b o (fun h => hb (by simp [h])) e
    done := fun s' Q E st hQ => lst_end (A := X.A.in1) ⟨hh, o1, v1, st.2, d1, c1⟩ st.1.1 st.1.2 (by simp) fun h' he' => hQ h' s'.toks fun b o hb e => he' b o (fun h => hb (by simp [h])) e
    self := fun _ _ _ _ st hQ => wpAny_pyIter_listiter st.1.1 hQ }
  refine ⟨_, _, _, _, _, _, _, rfl, W, ⟨st, Heap.get?_push_of_some _ g1⟩, truth_bools hb, fun h' tk hk => ?_⟩
  refine ⟨.bl _, H, I.kept fun b o eo => hk b o (fun hmem => ?_) (Heap.get?_push_of_some _ eo), ?_, q⟩
  · rcases List.mem_cons.mp hmem with e1 | hmem
    · exact absurd (e1 ▸ Heap.lt_size eo) (Nat.lt_irrefl _)
    · cases hmem
  · show Value.bool _ = Value.bool _
    rw [← L2.all_range, hb, List.size_toArray, List.length_map]
end
/-- zip of two tuples, turn by turn -/
theorem turn_zipH {P : Program} {w : World} {K : PySem.W.Frag} {elts : List Expr} {kk : Nat} {tpos : Pos} {a b z TI TO i1 i2 : Addr} (D : ZipApart z TI TO i1 i2 a b) :
    TurnH P w K (.Tuple elts kk tpos) (RZ.ItzT K a b) [z, TI, TO, i1, i2] z (fun i h => IsZip h z TI TO .none ∧ IsPair h TI (.ref i1) (.ref i2) ∧ (∃ x y, IsPair h TO x y) ∧ h.IsTupleIter i1 a i ∧ h.IsTupleIter i2 b i) := by
  have T := RZ.turn_zipT (P := P) (w := w) (K := K) (elts := elts) (kk := kk) (tpos := tpos) D
  refine ⟨T.mem, T.obj, T.keep, ?_, ?_, T.self⟩
  · intro X hP hw hK hc i pins s σ H E I hf st hg
    subst hP hw hK
    obtain ⟨hz, hTI, ⟨x0, y0, hTO⟩, h1, h2⟩ := st
    obtain ⟨xs, ys, x, y, hqx, hqy, hx, hy⟩ := hg
    obtain ⟨its, rv, p, _⟩ := I.tuple hqx
    obtain ⟨its2, rv2, p2, _⟩ := I.tuple hqy
    obtain ⟨u, hu, ru⟩ := rv.get hx
    obtain ⟨u2, hu2, ru2⟩ := rv2.get hy
    have lts : ∀ c ∈ [z, TI, TO, i1, i2], c < s.heap.objs.size := fun c hcm => by
      obtain ⟨o, e, _⟩ := T.obj i s.heap ⟨hz, hTI, ⟨_, _, hTO⟩, h1, h2⟩ c hcm
      exact Heap.lt_size e
    refine RZ.pyNext_zipT_item D hz hTI hTO h1 h2 p p2 (x := u) (y := u2) (by simpa using hu) (by simpa using hu2) fun h' z' TO' h1' h2' hT hsz hk => ?_
    refine ⟨_, rfl, wpAny_letOwnedTupleGo_zip (s := { s with heap := h' }) z' fun h'' z'' sb => ?_⟩
    have hT2 := (sb.2 _ (Nat.ne_of_gt (lts z (by simp)))).trans hT
    have new : ObjOk X.prog X.w (upd H s.heap.objs.size (.tup [x, y])) h'' s.heap.objs.size (.tup [x, y]) :=
      ⟨by show 2 ≤ sizeLine; decide, [u, u2], .cons ru (.cons ru2 .nil), ⟨_, hT2, rfl, _, rfl⟩⟩
    have I1 : Inv X pins σ (upd H s.heap.objs.size (.tup [x, y])) { s with heap := h'' } :=
      I.turnedNew (t' := s.toks) (ch := [z, TI, TO, i1, i2]) (fun c o hb q => (sb.2 c (fun q' => hb (by simp [q']))).trans (hk c o (fun q' => hb (by simp [q'])) (fun q' => hb (by simp [q'])) (fun q' => hb (by simp [q'])) (fun q' => hb (by simp [q'])) q)) hf (Nat.le_refl _) new
    refine ⟨.ref s.heap.objs.size, _, I1, rfl, ⟨_, x, y, rfl, I.hok.fresh (Nat.le_refl _), rfl, fun l hl => by rw [I.tuple_inj hl hqx]; exact hx, fun l hl => by rw [I.tuple_inj hl hqy]; exact hy⟩, ⟨z'', ?_, ⟨u, u2, ?_⟩, ?_, ?_⟩, fun c hcm => ?_⟩
    · exact (sb.2 _ D.TIz).trans (hk _ _ D.TIz D.TITO D.TIi1 D.TIi2 hTI)
    · exact (sb.2 _ D.TOz).trans TO'
    · exact h1'.at fun o q => (sb.2 _ D.i1z).trans q
    · exact h2'.at fun o q => (sb.2 _ D.i2z).trans q
    · rw [upd_ne (Nat.ne_of_lt (lts c hcm))]
      exact (hf c hcm).1
  · intro X hP hw hK hc i pins s σ H E I hf st hg
    subst hP hw hK
    obtain ⟨hz, hTI, ⟨x0, y0, hTO⟩, h1, h2⟩ := st
    obtain ⟨xs, ys, hqx, hqy, hend⟩ := hg
    obtain ⟨its, rv, p, _⟩ := I.tuple hqx
    obtain ⟨its2, rv2, p2, _⟩ := I.tuple hqy
    have l1 := rv.length
    have l2 := rv2.length
    obtain ⟨x1, hot, hx1⟩ := hot_pin hc I hf
    exact pyNext_zip_end hot D hz hTI hTO h1 h2 p p2 (hend.imp (fun q => by simp; omega) fun q => by simp; omega) (hx1 z (by simp)) (hx1 TO (by simp)) fun h' hk => ⟨rfl, I.turnedL (t' := s.toks) (ch := [z, TI, TO, i1, i2]) (fun c o hb q =>
      hk c o (fun q' => hb (by simp [q'])) (fun q' => hb (by simp [q'])) (fun q' => hb (by simp [q'])) (fun q' => hb (by simp [q'])) q) hf⟩
def iZipTH (K : PySem.W.Frag) (ta : TA) : TI := fun σ H R => ta σ H fun vs H1 => ∃ a b xs ys, vs = [.ref a, .ref b] ∧ SqT K H1 a xs ∧ SqT K H1 b ys ∧ R (RZ.ItzT K a b) H1
theorem pi_zipH {X : Cx} {e e2 : Expr} {ta : TA} {p pos tpos : Pos} {elts : List Expr} {kk : Nat} (hg : Gl X "zip") (hm : X.mg "zip" = none) (ha : PA X [e, e2] ta)
    (hs : starEach [e, e2] X.env = (false, eval e X.env) :: starEach [e2] X.env := by rfl) (hpl : (backTo pos (starEach [e2] X.env)).any (·.1) = false := by rfl) :
    PIH X (.Tuple elts kk tpos) (.Call (.Name "zip" p) [e, e2] [] pos) (iZipTH X.K ta) := by
  refine ⟨fun pins s σ H R I h => ?_⟩
  refine Call_ (ld_blt I hg hm PyProof.Rows.boot_zip (PyProof.Rows.callWith_type1 (thn (ha.run pos pins s σ H _ I h) fun us s1 ⟨vs, H1, I1, r1, q1⟩ => ?_) hs hpl))
  obtain ⟨a, b, xs, ys, ex, hqx, hqy, q⟩ := q1
  subst ex
  cases r1 with
  | cons r rr =>
    cases rr with
    | cons r' rr =>
      cases rr
      cases r
      cases r'
      have new5 : ∀ c, c ∈ [s1.heap.objs.size + 4, s1.heap.objs.size + 2, s1.heap.objs.size + 3, s1.heap.objs.size, s1.heap.objs.size + 1] → FpOk X pins H1 c := fun c hcm => by
        have hle : s1.heap.objs.size ≤ c := by simp only [List.mem_cons, List.not_mem_nil, or_false] at hcm; omega
        exact I1.fpOk hle (I1.hok.fresh hle)
      obtain ⟨its, rv, p1, _⟩ := I1.tuple hqx
      obtain ⟨its2, rv2, p2, _⟩ := I1.tuple hqy
      obtain ⟨o1, ho1, _⟩ := id p1
      obtain ⟨o2, ho2, _⟩ := id p2
      refine RZ.call_zipT (show s1.heap.IsTuple a its.toArray from p1) (show s1.heap.IsTuple b its2.toArray from p2) fun h' hz hTI hTO h1 h2 hsz hk => wpAny_pyIter_zip hz ?_
      exact ⟨s1.heap.objs.size + 4, [s1.heap.objs.size + 4, s1.heap.objs.size + 2, s1.heap.objs.size + 3, s1.heap.objs.size, s1.heap.objs.size + 1], _, _, H1, rfl, I1.kept (t' := s1.toks) hk,
        turn_zipH (PySem.W.ktu_apart s1.heap.objs.size a b (Heap.lt_size ho1) (Heap.lt_size ho2)), ⟨hz, hTI, ⟨_, _, hTO⟩, h1, h2⟩, new5, q⟩
section
variable {X : Cx}
/-- [elt for target in iter if ..] as a value -/
theorem pe_lcH {elt tg iter : Expr} {ifs : List Expr} {scope : Scope} {own : List (Str × Nat)} {pos : Pos} {wi : TI} {g : TG} {tt : TT} {te : TE} (hc : HotC X) (hN : X.N.Nodup) (hi : PIH X tg iter wi) (ok : BlkOk X.N X.env.scope scope own)
    (hg : ∀ (s : Shared) (H : Hp) (C : Addr) (cl : List (Str × Addr)) (fp : List Addr), PG (blkH X s H scope (compEnvC scope cl C X.env) fp) tg g) (ht : ∀ (s : Shared) (H : Hp) (C : Addr) (cl : List (Str × Addr)) (fp : List Addr), PTs (blkH X s H scope (compEnvC scope cl C X.env) fp) ifs tt)
    (he : ∀ (s : Shared) (H : Hp) (C : Addr) (cl : List (Str × Addr)) (fp : List Addr), PE (blkH X s H scope (compEnvC scope cl C X.env) fp) elt te) (hs : ∀ x, foldedSetIterable iter X.env x = pure x := by intro _; rfl) :
    PE X (.ListComp elt [⟨tg, iter, ifs, 0⟩] scope pos) (tLc wi g tt te (own.map (·.2))) := by
  refine ⟨fun pins s σ H Q I h => ?_⟩
  rw [eval_ListComp]
  have hfree : ∀ y ∈ scope.names, y.2 = .free → ∃ c, X.env.cells.lookup y.1 = some c := fun y hy e => (ok.free y hy e).elim (fun k => I.ok.has _ (.inl k)) fun k => I.ok.has _ (.inr k)
  refine wpAny_comprehension_free rfl hs (closure_ok hfree) ok.kind (fun y hy e => by rw [ok.uniq y hy, e]) (thn (hi.run pins s σ H _ I h) fun xv s1 hx => thn hx fun itv s2 h2 => ?_)
  obtain ⟨it, fp, tn, J, H2, e, I2, T, st2, f2, q⟩ := h2
  subst e
  refine wpAny_newObj_type (newEnv_comp ?_) (by show 0 ≤ sizeLine; decide)
  generalize hD : s2.heap.objs.size = D
  obtain ⟨W, ⟨m0, w0⟩, turn⟩ := q D (I2.hok.fresh (Nat.le_of_eq hD))
  generalize hs3 : ({ s2 with heap := s2.heap.push { cls := .type "list", data := .seq ([] : List Value).toArray } } : Shared) = s3
  have h3 : s3.heap = s2.heap.push { cls := .type "list", data := .seq ([] : List Value).toArray } := by rw [← hs3]
  have I3 : Inv X pins σ (upd H2 D (.lst [])) s3 := by
    rw [← hs3]
    refine I2.laid (t' := s2.toks) (fun b o e => Heap.get?_push_of_some _ e) (Nat.le_of_eq hD) ⟨Nat.zero_le _, [], 0, .nil, ?_⟩
    rw [← hD]
    exact Heap.get?_push_size _ rfl
  have f3 : ∀ b ∈ fp, FpOk X pins (upd H2 D (.lst [])) b ∧ b < s3.heap.objs.size := fun b hb => by
    obtain ⟨o, e, _⟩ := T.obj _ _ st2 b hb
    have hlt := Heap.lt_size e
    exact ⟨⟨by rw [upd_ne (by rw [← hD]; exact Nat.ne_of_lt hlt)]; exact (f2 b hb).1, (f2 b hb).2⟩, by rw [h3, Heap.size_push]; exact Nat.lt_succ_of_lt hlt⟩
  have st3 : tn 0 s3.heap := T.keep _ _ _ st2 fun b _ o e => by rw [h3]; exact Heap.get?_push_of_some _ e
  have I4' := block_start I3 ok hN f3
  have pg := hg s3 (upd H2 D (.lst [])) s3.heap.objs.size (cellsFrom (s3.heap.objs.size + 1) scope.names (cloFrom X.env.cells scope.names [])) fp
  have pt := ht s3 (upd H2 D (.lst [])) s3.heap.objs.size (cellsFrom (s3.heap.objs.size + 1) scope.names (cloFrom X.env.cells scope.names [])) fp
  have pe := he s3 (upd H2 D (.lst [])) s3.heap.objs.size (cellsFrom (s3.heap.objs.size + 1) scope.names (cloFrom X.env.cells scope.names [])) fp
  show codeAny _ _ (.compStart (.ListComp elt [⟨tg, iter, ifs, 0⟩] scope pos) 0 (.ref it) (.ref D) (compEnvC scope (cellsFrom (s3.heap.objs.size + 1) scope.names (cloFrom X.env.cells scope.names [])) s3.heap.objs.size X.env)) _ { s3 with heap := pushCells (s3.heap.push { cls := .type "dict", data := .dict #[] }) scope.names }
  generalize hce : compEnvC scope (cellsFrom (s3.heap.objs.size + 1) scope.names (cloFrom X.env.cells scope.names [])) s3.heap.objs.size X.env = ce at I4' pg pt pe ⊢
  have cL : ce.locals = s3.heap.objs.size := by subst hce; rfl
  generalize hH3 : upd H2 D (.lst []) = H3 at I3 I4' pg pt pe w0 f3
  generalize hs4 : ({ s3 with heap := pushCells (s3.heap.push { cls := .type "dict", data := .dict #[] }) scope.names } : Shared) = s4 at I4' ⊢
  have k34 : ∀ b o, s3.heap.get? b = some o → s4.heap.get? b = some o := fun b o e => by rw [← hs4]; exact pushCells_keeps _ _ _ _ (Heap.get?_push_of_some _ e)
  have I4 : Inv (blkH X s3 H3 scope ce fp) [] (wipe σ (own.map (·.2))) H3 s4 := Inv.toH I4' fun p hp => by
    rw [List.append_nil] at hp
    obtain ⟨g1, g2, g3, g4, g5⟩ := I3.pin p (List.mem_append_left _ hp)
    exact ⟨k34 _ _ g1, g2, by rw [cL]; exact Nat.ne_of_lt (Heap.lt_size g1), fun hm => (List.mem_cons.mp (I3.stkSub p.1 hm)).elim g3 g4, g5⟩
  have hcB : HotC (blkH X s3 H3 scope ce fp) := hc
  have stat : ∀ {σ' : L2.St} {H' : Hp} {s' : Shared}, Inv (blkH X s3 H3 scope ce fp) [] σ' H' s' → (∀ b ∈ fp, H' b = none) → ∀ b ∈ fp, FpOk (blkH X s3 H3 scope ce fp) [] H' b := fun {σ' H' s'} I' hn b hb =>
    ⟨hn b hb, (I'.ok.exf b hb).1, I'.ok.exfs b hb, .inl hb, fun x c e => (I'.ok.exf b hb).2 x c e, fun p hp => by
      have hp : p ∈ X.pn ++ [] := hp
      rw [List.append_nil] at hp
      exact (f3 b hb).1.2.2.2.2.2 p (List.mem_append_left _ hp)⟩
  refine codeAny_compStart_list ?_ (T.self X.A 0 _ _ _ (T.keep _ _ _ st3 fun b _ o e => k34 b o e) ?_)
  all_goals
    refine compLoop_any (fun n s' => ∃ i H', Inv (blkH X s3 H3 scope ce fp) [] (wipe σ (own.map (·.2))) H' s' ∧ tn i s'.heap ∧ (∀ b ∈ fp, H' b = none) ∧ W i n H') ?_ m0 ⟨0, H3, I4, T.keep _ _ _ st3 fun b _ o e => k34 b o e, fun b hb => (f3 b hb).1.1, w0⟩
    rintro n s5 ⟨i, H5, I5, st5, n5, w5⟩
    rcases turn i n H5 w5 with ⟨stop, qq⟩ | ⟨go, Nx, hNx, step⟩
    · refine thnF (T.done (blkH X s3 H3 scope ce fp) rfl rfl rfl hcB i [] s5 _ H5 (fun _ _ => False) I5 (stat I5 n5) st5 stop) fun r s6 ⟨hr, I6⟩ => ?_
      subst hr
      have I7 : Inv X pins σ H5 s6 := I3.call' (ch := fp) I6.os I6.base I6.hok I6.bare fun b hb => ⟨(f3 b hb).1.2.2.2.1, (f3 b hb).1.2.1, (f3 b hb).1.2.2.2.2.1, (f3 b hb).1.2.2.2.2.2⟩
      have nC : H5 s3.heap.objs.size = none := by
        have z : H5 ce.locals = none := I6.free
        rwa [cL] at z
      obtain ⟨m, hn, _⟩ := I6.loc
      have hn : s6.heap.Ns ce.locals m := hn
      rw [cL] at hn
      obtain ⟨f0, f1, f2, f3, f4, f5⟩ := I3.fpOk (H' := H5) (Nat.le_refl _) nC
      exact ⟨m, hn, fun h'' sb => ⟨.ref D, H5, I7.turned (t' := s6.toks) (fun b o hb e => (sb.2 b hb).trans e) f0 f1 f3 f4 f5, rfl, qq⟩⟩
    · refine thnF (T.item (blkH X s3 H3 scope ce fp) rfl rfl rfl hcB i [] s5 _ H5 (fun _ _ => False) I5 (stat I5 n5) st5 go) fun r s6 ⟨u, hr, h6⟩ => ?_
      subst hr
      refine thnF h6 fun _ s7 ⟨x, H7, I7, r7, y7, st7, n7⟩ => ?_
      refine thnF (pg.run _ s7 _ H7 x u _ (I7.pinned (stat I7 n7) (T.obj _ _ st7)) r7 (step x H7 y7)) fun _ s8 ⟨σ8, H8, I8, hw8, q8⟩ => ?_
      refine thnF (pt.run _ s8 σ8 H8 _ I8 q8) fun b s9 ⟨H9, I9, q9⟩ => ?_
      have fin : ∀ {s' : Shared} {H' : Hp}, Inv (blkH X s3 H3 scope ce fp) ([] ++ pinsAt fp s7.heap) σ8 H' s' → Nx H' → ∃ m, m < n ∧ ∃ i H', Inv (blkH X s3 H3 scope ce fp) [] (wipe σ (own.map (·.2))) H' s' ∧ tn i s'.heap ∧ (∀ b ∈ fp, H' b = none) ∧ W i m H' := fun {s' H'} I' nx => by
        obtain ⟨m', hm, w'⟩ := hNx H' nx
        have pin' : ∀ b ∈ fp, ∀ o, s7.heap.get? b = some o → s'.heap.get? b = some o ∧ H' b = none := fun b hb o e =>
          let z := I'.pin (b, o) (List.mem_append_right _ (List.mem_append_right _ (mem_pinsAt hb e)))
          ⟨z.1, z.2.1⟩
        refine ⟨m', hm, i + 1, H', (I'.unpinned (pins := [])).weak (by rw [← hw8, wipe_length]) (fun j v e => ?_), T.keep _ _ _ st7 fun b hb o e => (pin' b hb o e).1, fun b hb => ?_, w'⟩
        · rw [← hw8] at e
          exact (wipe_some e).1
        · obtain ⟨o, e, _⟩ := T.obj _ _ st7 b hb
          exact (pin' b hb o e).2
      cases b with
      | false =>
        simp only [Bool.false_eq_true, if_false] at q9 ⊢
        exact fin I9 q9
      | true =>
        simp only [if_true] at q9 ⊢
        refine thnF (pe.run _ s9 σ8 H9 _ I9 q9) fun z s10 ⟨yv, H10, I10, r10, acc, hD10, hz10, nx⟩ => ?_
        exact app_ok (X := blkH X s3 H3 scope ce fp) I10 hD10 hz10 r10 fun s11 I11 => fin I11 nx
end
end HotE
/-! L5j: defs called while an exception is handled, over data -/
namespace L3
open PySem PySem.Spec PyProof.Rows L2 L2H HotX HotE
section
variable {prog : Program} {w : World} {A : Around} {E : Value → Shared → Prop} {s : Shared}
theorem unpackL_hot {l x1 : Addr} {items : Array Value} {Q : List Value → Shared → Prop} (hot : HotAt A x1 s.heap) (ht : PlainL s.heap l items)
    (hQ : ∀ h', Heap.ExtBut s.heap.objs.size s.heap h' → Q items.toList { s with heap := h' }) : wpAny (model prog w) A (unpackItems (.ref l) items.size none) Q E s := by
  have hlt : l ≠ s.heap.objs.size := by obtain ⟨o, n, ho, _⟩ := ht; exact Nat.ne_of_lt (Heap.lt_size ho)
  have hx1 : x1 ≠ s.heap.objs.size := by obtain ⟨_, o1, _, h1, _⟩ := hot; exact Nat.ne_of_lt (Heap.lt_size h1)
  unfold unpackItems
  refine wpAny_bind ?_
  unfold notIterableAtAll
  refine wpAny_bind (wpAny_specialOf ht.isList.typeIs slot_list_iter.lookup (wpAny_pure ?_))
  simp only [Bool.false_eq_true, if_false]
  refine wpAny_bind (wpAny_holding (wpAny_pyIter_list ht.isList ?_))
  have ht0 : PlainL (s.heap.push { cls := .type "list_iterator", data := .fields #[.ref l, .int 0 0] }) l items := ht.keeps fun b o e => Heap.get?_push_of_some _ e
  refine wpAny_bind (wpAny_holding (draw_list hlt items.size 0 _ _ ⟨_, Heap.get?_push_size _ rfl, rfl, rfl⟩ ht0 (by omega) fun h₁ hit₁ hs₁ => ?_))
  rw [show List.take items.size (List.drop 0 items.toList) = items.toList by rw [List.drop_zero]; exact List.take_of_length_le (by simp), if_neg (by simp)]
  have ht₁ : PlainL h₁ l items := ht0.extBut hs₁.extBut hlt
  refine wpAny_bind (wpAny_holding (lst_end (hot_mono hot fun o e => hs₁.extBut _ _ hx1 (Heap.get?_push_of_some _ e)) hit₁ ht₁.isList (by simp) fun h₂ he₂ => ?_))
  simp only [Option.isSome_none, Bool.false_eq_true, if_false]
  exact wpAny_pure (hQ h₂ fun b o hb e => he₂ b o hb (hs₁.extBut b o hb (Heap.get?_push_of_some _ e)))
theorem assignL_hot {env : Env} {elts : List Expr} {k : Nat} {pos : Pos} {l x1 : Addr} {items : Array Value} {Q : Unit → Shared → Prop} (hot : HotAt A x1 s.heap) (ht : PlainL s.heap l items)
    (hn : (assignEach elts env).length = items.size) (hstar : (assignEach elts env).findIdx? (·.1) = none)
    (h : ∀ h', Heap.ExtBut s.heap.objs.size s.heap h' → wpAny (model prog w) A (assignInOrder ((assignEach elts env).map (·.2)) items.toList) Q E { s with heap := h' }) :
    wpAny (model prog w) A (assign (.Tuple elts k pos) env (.ref l)) Q E s := by
  rw [assign_Tuple]
  refine wpAny_bind (wpAny_standAt ?_)
  unfold unpack
  rw [hn, hstar]
  exact wpAny_bind (wpAny_holding (unpackL_hot hot ht h))
end
section
variable {X : Cx} {pos : Pos}
theorem pg_seqH {es : List Expr} {k : Nat} {t : TGs} {n : Nat} (hc : HotC X) (h : PGs X es t)
    (hn : (assignEach es X.env).length = n := by rfl) (hst : (assignEach es X.env).findIdx? (·.1) = none := by rfl) : PG X (.Tuple es k pos) (gSeqT X.K n t) := by
  refine ⟨fun pins s σ H v u Q I r hw => ?_⟩
  obtain ⟨a, xs, e1, hq, hl, hw⟩ := hw
  subst e1
  cases r
  obtain ⟨x1, hot⟩ := hc.at I
  rcases hq with hq | hq
  · obtain ⟨its, rv, ht, hz⟩ := I.tuple hq
    exact assign_hot hot ht (by simp [hn, ← hl, rv.length]) hst fun h' hx => h.run pins _ σ H xs _ Q (I.kept (t' := s.toks) fun b o e => hx b o (Nat.ne_of_lt (Heap.lt_size e)) e) (by simpa using rv) hw
  · obtain ⟨its, rv, ht, hz⟩ := I.list hq
    exact assignL_hot hot ht (by simp [hn, ← hl, rv.length]) hst fun h' hx => h.run pins _ σ H xs _ Q (I.kept (t' := s.toks) fun b o e => hx b o (Nat.ne_of_lt (Heap.lt_size e)) e) (by simpa using rv) hw
theorem pt_tpH {es : List Expr} {k : Nat} {ps : List Pat} (hc : HotC X) (h : PGs X es (tgsOf X.K ps)) (hn : (assignEach es X.env).length = ps.length := by rfl) (hst : (assignEach es X.env).findIdx? (·.1) = none := by rfl) : PG X (.Tuple es k pos) (tgOf X.K (.tp ps)) := pg_seqH hc h hn hst
theorem db_allH (hc : HotC X) : CallR X (.builtin "all") (liftC X.K bAll) := call_imp (cr_allH hc) fun vs H Q ⟨G, m, ds, Φ, rm, rd, q, k⟩ => by
  unfold bAll at q
  split at q
  · obtain ⟨v, rfl, h⟩ := rv1 rd
    obtain ⟨a, xs, ys, rfl, h1, h2, ns, rfl, h3⟩ := itemsL_lift rm h q
    have e := h2.bls
    subst e
    exact ⟨a, ns, rfl, h1, k G (.bl _) m _ H (Sub.refl G) rm rfl h3⟩
  · exact q.elim
/-- zip of two tuples -/
def iZipTD (qa : QA) : QI := fun s m Ξ => qa s m fun ds m1 => ∃ xs ys, ds = [.tup xs, .tup ys] ∧ Ξ (zipD xs ys) (fun _ => True) m1
theorem di_zipH {e e2 : Expr} {qa : QA} {p pos tpos : Pos} {elts : List Expr} {kk : Nat} (hg : Gl X "zip") (hm : X.mg "zip" = none) (ha : PA X [e, e2] (liftA X.K qa)) (hs : starEach [e, e2] X.env = (false, eval e X.env) :: starEach [e2] X.env := by rfl) (hpl : (backTo pos (starEach [e2] X.env)).any (·.1) = false := by rfl) :
    PIH X (.Tuple elts kk tpos) (.Call (.Name "zip" p) [e, e2] [] pos) (liftI X.K (iZipTD qa)) := by
  refine ⟨fun pins st σ H R I h => (pi_zipH hg hm ha hs hpl).run pins st σ H R I ?_⟩
  obtain ⟨G, s, m, Φ, rm, rs, q, k⟩ := h
  refine ⟨G, s, m, _, rm, rs, q, fun G1 ds m1 vs H1 e1 r1 rd ⟨xs, ys, ed, q1⟩ => ?_⟩
  subst ed
  obtain ⟨v, u, rfl, ⟨a, xs', rfl, h1, h2⟩, b, ys', rfl, h3, h4⟩ := rv2 rd
  exact ⟨a, b, xs', ys', rfl, r1.sub.t h1, r1.sub.t h3, k G1 _ _ m1 _ H1 e1 r1 (wk_zipT h1 h2 h3 h4) q1⟩
theorem de_lcH {elt tg iter : Expr} {ifs : List Expr} {scope : Scope} {own : List (Str × Nat)} {qi : QI} {p : Pat} {qt : QT} {qe : QE} (hc : HotC X) (hN : X.N.Nodup) (hi : PIH X tg iter (liftI X.K qi)) (ok : BlkOk X.N X.env.scope scope own)
    (hg : ∀ (s : Shared) (H : Hp) (C : Addr) (cl : List (Str × Addr)) (fp : List Addr), PG (blkH X s H scope (compEnvC scope cl C X.env) fp) tg (tgOf X.K p))
    (ht : ∀ (s : Shared) (H : Hp) (C : Addr) (cl : List (Str × Addr)) (fp : List Addr), PTs (blkH X s H scope (compEnvC scope cl C X.env) fp) ifs (liftT X.K qt))
    (he : ∀ (s : Shared) (H : Hp) (C : Addr) (cl : List (Str × Addr)) (fp : List Addr), PE (blkH X s H scope (compEnvC scope cl C X.env) fp) elt (liftE X.K qe))
    (hv : ∀ i ∈ slots p, i ∈ own.map (·.2) := by decide) (hs : ∀ x, foldedSetIterable iter X.env x = pure x := by intro _; rfl) :
    PE X (.ListComp elt [⟨tg, iter, ifs, 0⟩] scope pos) (liftE X.K (qLc qi p qt qe (own.map (·.2)))) := pe_imp (pe_lcH hc hN hi ok hg ht he hs) (lift_lc hv)
end
/-! ### defs -/
def FnDH (P : Program) (w : World) (K : PySem.W.Frag) (mg : Str → Option Value) (base : Heap) (k : Nat) (f : Addr) (sp : LSp) : Prop := ∃ fd ps, FnH P w K mg base CX0 k f fd ps (liftSp K sp) ∧ Binds K fd ps []
abbrev cxBH (P : Program) (w : World) (K : PySem.W.Frag) (mg : Str → Option Value) (base : Heap) (N : List Str) (qual : Str) (st : Stmt) (f : Addr) (cdv : Value) (A : Around) (outer : List Env) (s : Shared) (H : Hp) (E : XK) (p : Addr × Obj) : Cx := (cxH CX0 P w K mg base N qual (defScope st) f cdv A outer s H E p).nox
section
variable {P : Program} {w : World} {K : PySem.W.Frag} {mg : Str → Option Value} {base : Heap}
theorem hot_body {N : List Str} {qual : Str} {st : Stmt} {f : Addr} {cdv : Value} {A : Around} {outer : List Env} {s : Shared} {H : Hp} {E : XK} {p : Addr × Obj} (h : Hot1 A p) : HotC (cxBH P w K mg base N qual st f cdv A outer s H E p) := ⟨p, h, List.mem_singleton.mpr rfl⟩
theorem defH_ofW {x qual : Str} {st : Stmt} {f : Addr} {fd : FuncData} {N ps : List Str} {k : Nat} {sp : LSp} {qb : QS} (F : Fun K x qual st f fd) (hb : Binds K fd ps []) (S : FnScope N ps (defScope st)) (len : ∀ ds m Φ, sp ds m Φ → ds.length = ps.length)
    (hd : ∀ (cdv : Value) (A : Around) (outer : List Env) (s : Shared) (H : Hp) (E : XK) (p : Addr × Obj), Hot1 A p → RoomH k (A.deeper (envOfC qual (defScope st) s.heap.objs.size f cdv)) → PSs (cxBH P w K mg base N qual st f cdv A outer s H E p) (defBody st) (liftS K qb))
    (h : ∀ ds m Φ, sp ds m Φ → qb (bodyW Φ) (begin_ N.length ds) m) : FnDH P w K mg base (k + 1) f sp := by
  obtain ⟨oc, od, kV, doc, pm, an, cdv, ct, osl, rfl, lk, hcd⟩ := F.ex
  refine ⟨_, ps, fn_ofH lk hcd S (fun vs H Q E hs => ?_) fun A outer s H vs Q E p hot hr hs => ⟨liftS K qb, PSs.nox (hd cdv A outer s H E p hot hr), body_liftW h hs⟩, hb⟩
  obtain ⟨G, m, ds, Φ, rm, rd, q, k⟩ := hs
  rw [← rd.length]; exact len ds m Φ q
theorem hu64H {k : Nat} {A : Around} (r : RoomH k A) : A.units + 64 < cLine := by have := r.un; omega
end
section
variable {X : Cx} {k : Nat} {f : Addr} {x : Str} {p pos : Pos} {e : Expr} {es : List Expr}
theorem de_callH {sp : LSp} {qa : QA} (F : FnDH X.prog X.w X.K X.mg X.base k f sp) (hr : RoomH k X.A) (hc : HotC X) (hg : Gl X x) (hm : X.mg x = some (.ref f)) (hk : PySem.W.keepIn X.K (.ref f) = true)
    (ha : PA X (e :: es) (liftA X.K qa)) (hdb : (x == ("__debug__" : Str)) = false := by decide) (he : starEach (e :: es) X.env = (false, eval e X.env) :: starEach es X.env := by rfl) (hpl : (backTo pos (starEach es X.env)).any (·.1) = false := by rfl) :
    PE X (.Call (.Name x p) (e :: es) [] pos) (liftE X.K (qCall sp qa)) := by
  obtain ⟨fd, ps, F, hb⟩ := F
  exact pe_imp (pe_callH (E := fun _ => E0) F hr hc hg hm hk hb (fun _ _ _ _ _ _ _ h => h.elim) ha hdb he hpl) lift_call
/-- an except suite is such a context -/
theorem hot_suite {a : Addr} {oe : Obj} {cls : Value} {d : Option Addr} {pn : List (Addr × Obj)} (hz : L2N.Zn cls d oe) (hf : ∃ vs, oe.data = .fields vs) : HotC (X.suite a ((a, oe) :: pn)) := by
  obtain ⟨vs, hd⟩ := hf
  exact ⟨(a, oe), ⟨rfl, vs, hd, hz.2.2 vs hd⟩, List.mem_cons_self⟩
theorem room_suite {a : Addr} {pn : List (Addr × Obj)} (hr : Room k X.A) : RoomH k (X.suite a pn).A := ⟨hr.dp, hr.un⟩
end
end L3
/-! L5k: what the written part says of an exception class that is raised and caught -/
namespace L3
open PySem PySem.Spec PyProof.Rows L2 L2H HotX HotE
def ClsLk (K : PySem.W.Frag) (C : Addr) : Prop := ∃ nm q N bs bm sn sub ab col dd k0 k1 k2 k3 k5, K.lookup C = some (excClassObj nm q C N bs bm true sn sub ab col dd k0 k1 k2 k3 k5 "ValueError.__new__") ∧ PySem.HandSPX.refsVE bm = true
theorem clsLk_of {K : PySem.W.Frag} {C : Addr} {nm q N bs bm sn sub ab col dd k0 k1 k2 k3 k5} (h : K.lookup C = some (excClassObj nm q C N bs bm true sn sub ab col dd k0 k1 k2 k3 k5 "ValueError.__new__")) (e : PySem.HandSPX.refsVE bm = true) : ClsLk K C := ⟨_, _, _, _, _, _, _, _, _, _, _, _, _, _, _, h, e⟩
structure ExK (K : PySem.W.Frag) (mg : Str → Option Value) (x : Str) (C fI : Addr) (f : Str) : Prop where
  gx : mg x = some (.ref C)
  oex : OexC K C
  xf : XfC K C
  xc : ExcC K C
  no : PySem.W.findIn K (.ref C) f = some none
  ini : PySem.W.findIn K (.ref C) "__init__" = some (some (.ref fI))
  ti : PySem.W.typeIn K (.ref fI) = some (.type "function")
theorem ExK.ex1 {P : Program} {w : World} {K : PySem.W.Frag} {mg : Str → Option Value} {base : Heap} {x qual p : Str} {st : Stmt} {fI C : Addr} {fd : FuncData} {f : Str} {p1 p2 p3 p4 : Pos} (T : ExK K mg x C fI f) (F : Fun K "__init__" qual st fI fd) (S : FnScope ["self", p] ["self", p] (defScope st)) (hB : Binds K fd ["self", p] [])
    (hp : (p == ("__debug__" : Str)) = false) (hcd : (p == ("__classdict__" : Str)) = false) (hb : defBody st = [.Assign [.Attribute (.Name "self" p1) f p2] (.Name p p3) p4]) (v0 : Vis (defScope st) "self") (v1 : Vis (defScope st) p) : Ex1 P w K mg base x C f :=
  ⟨T.gx, T.oex, fI, fd, p, T.ini, T.ti, fn_e1 F S T.oex T.no hp hcd hb v0 v1, hB⟩
theorem cls_some {K : PySem.W.Frag} {D : Addr} (h : PySem.W.hasDictIn K D = true) : (PySem.W.clsIn K D).isSome = true := by
  obtain ⟨cd, hc, _⟩ := PySem.W.any_some h
  rw [hc]; rfl
theorem kitc_of {K : PySem.W.Frag} {t : Value} {D : Addr} {b : Bool} (h1 : PySem.W.hasDictIn K D = true) (h2 : PySem.W.typeIn K (.ref D) = some (.type "type")) (h3 : PySem.W.subIn K t (.ref D) = some b) : PySem.W.kitCls K t (.ref D) = some b := by
  show (if ((PySem.W.clsIn K D).isSome && PySem.W.typeIn K (.ref D) == some (.type "type")) = true then PySem.W.subIn K t (.ref D) else none) = some b
  rw [cls_some h1, h2]
  exact h3
theorem exm_of {K : PySem.W.Frag} {t : Value} {D : Addr} {b : Bool} (h0 : PySem.W.subIn K (.ref D) (.type "BaseException") = some true) (h1 : PySem.W.hasDictIn K D = true) (h2 : PySem.W.typeIn K (.ref D) = some (.type "type")) (h3 : PySem.W.subIn K t (.ref D) = some b) : PySem.W.exmOne K t (.ref D) = some b := by
  unfold PySem.W.exmOne
  rw [h0]
  exact kitc_of h1 h2 h3
theorem kit_of {K : PySem.W.Frag} {t : Value} {D : Addr} {b : Bool} (h0 : (t == .ref D) = false) (h1 : PySem.W.hasDictIn K D = true) (h2 : PySem.W.typeIn K (.ref D) = some (.type "type")) (h3 : PySem.W.subIn K t (.ref D) = some b) : PySem.W.kitOne K t (.ref D) = some b := by
  unfold PySem.W.kitOne
  rw [h0]
  exact kitc_of h1 h2 h3
theorem fndH_false {P : Program} {w : World} {K : PySem.W.Frag} {mg : Str → Option Value} {base : Heap} {f : Addr} {fd : FuncData} {ps : List Str} {sp : LSp} (hb : Binds K fd ps []) (h : ∀ ds m Φ, sp ds m Φ → False) : FnDH P w K mg base 0 f sp :=
  ⟨fd, ps, ⟨fun _ _ _ _ ⟨_, _, _, _, _, _, q, _⟩ => (h _ _ _ q).elim, fun _ _ _ _ _ _ _ _ _ _ _ _ _ _ _ _ ⟨_, _, _, _, _, _, q, _⟩ => (h _ _ _ q).elim⟩, hb⟩
end L3
namespace K31
open PySem PySem.Spec PyProof.Rows L2 L3
structure Adr where
  Buffer : Addr
  Wire : Addr
  Hop : Addr
  Short : Addr
  BandError : Addr
  ZERO : Addr
  Short_init : Addr
  law_bag : Addr
  law_draw : Addr
  law_of : Addr
  law_amount : Addr
  law_some : Addr
  Buffer_init : Addr
  law_same : Addr
  Buffer_held : Addr
  Buffer_fullest : Addr
  law_buffer_looks : Addr
  law_less : Addr
  law_max : Addr
  law_sum : Addr
  law_min : Addr
  law_scaled : Addr
  law_part : Addr
  law_piece : Addr
  law_rest : Addr
  p_lowest : Addr
  plus : Addr
  compare : Addr
  largest : Addr
  Buffer_set_to : Addr
  minus : Addr
  Buffer_take_in : Addr
  Buffer_give : Addr
  law_short : Addr
  law_buffer_deed : Addr
  Wire_init : Addr
  Hop_init : Addr
  Hop_sent_after : Addr
  law_all : Addr
  Wire_put : Addr
  Wire_arriving : Addr
  Wire_under_way : Addr
  law_wire_deed : Addr
  Hop_remember : Addr
  law_hop_deed : Addr
  Wire_copy : Addr
  Hop_copy : Addr
  Buffer_copy : Addr
  law : Addr
  pr_Buffer_held : Addr
  pr_Buffer_fullest : Addr
end K31
namespace K31
open PySem PySem.Spec PyProof.Rows L2 L3
abbrev sp_law_bag (A : Adr) : LSp := C13.sp_law_bag
abbrev sp_law_draw (A : Adr) : LSp := C13.sp_law_draw
abbrev sp_law_of (A : Adr) : LSp := C13.sp_law_of
abbrev sp_law_amount (A : Adr) : LSp := C13.sp_law_amount
abbrev sp_law_some (A : Adr) : LSp := C13.sp_law_some
abbrev sp_Buffer_init (A : Adr) : LSp := PA.sp_Buffer_init A.Buffer
abbrev sp_law_same (n : Nat) (A : Adr) : LSp := C13.sp_law_same n
abbrev sp_Buffer_held (A : Adr) : LSp := PA.sp_Buffer_held A.Buffer
abbrev sp_Buffer_fullest (A : Adr) : LSp := PA.sp_Buffer_fullest A.Buffer
abbrev sp_law_less (A : Adr) : LSp := C13.sp_law_less
abbrev sp_law_max (A : Adr) : LSp := C13.sp_law_max
abbrev sp_law_sum (A : Adr) : LSp := C13.sp_law_sum
abbrev sp_law_min (A : Adr) : LSp := C13.sp_law_min
abbrev sp_law_scaled (A : Adr) : LSp := C13.sp_law_scaled
abbrev sp_law_part (A : Adr) : LSp := C13.sp_law_part
abbrev sp_law_rest (A : Adr) : LSp := C13.sp_law_rest
abbrev sp_p_lowest (A : Adr) : LSp := PA.sp_p_lowest
abbrev sp_plus (A : Adr) : LSp := PA.sp_plus
abbrev sp_compare (A : Adr) : LSp := PA.sp_compare
abbrev sp_largest (A : Adr) : LSp := PA.sp_largest
abbrev sp_Buffer_set_to (A : Adr) : LSp := PA.sp_Buffer_set_to A.Buffer
abbrev sp_minus (A : Adr) : LSp := PA.sp_minus
abbrev sp_Buffer_take_in (A : Adr) : LSp := PA.sp_Buffer_take_in A.Buffer
abbrev sp_Buffer_give (A : Adr) : LSp := PA.sp_Buffer_give A.Buffer
abbrev sp_Wire_init (A : Adr) : LSp := PA.sp_Wire_init A.Wire
abbrev sp_Hop_init (A : Adr) : LSp := PA.sp_Hop_init A.Hop
abbrev sp_Hop_sent_after (A : Adr) : LSp := PA.sp_Hop_sent_after A.Hop
abbrev sp_law_all (A : Adr) : LSp := C13.sp_law_all
abbrev sp_Wire_put (A : Adr) : LSp := PA.sp_Wire_put A.Wire
abbrev sp_Wire_arriving (A : Adr) : LSp := PA.sp_Wire_arriving A.Wire
abbrev sp_Wire_under_way (A : Adr) : LSp := PA.sp_Wire_under_way A.Wire
abbrev sp_Hop_remember (A : Adr) : LSp := PA.sp_Hop_remember A.Hop
abbrev sp_Hop_copy (A : Adr) : LSp := PA.sp_Hop_copy A.Hop
end K31
namespace K31
open PySem PySem.Spec PyProof.Rows L2 L3 L4 PA
open C13 (BagP)
/-- ints, and tuples of them -/
def flatT : Nat → D → Prop
  | _, .int _ => True
  | n + 1, .tup ds => ds.length < 1000000 ∧ ∀ d ∈ ds, flatT n d
  | _, _ => False
theorem flatT_am (n : Nat) (q : Rat) : flatT (n + 1) (am q) := ⟨by show 2 < 1000000; decide, fun d hd => by
  simp only [List.mem_cons, List.not_mem_nil, or_false] at hd
  rcases hd with rfl | rfl <;> cases n <;> trivial⟩
def sph_law_same (n : Nat) (_ : Adr) : LSp := match n with
  | 0 => fun _ _ _ => False
  | n + 1 => fun ds m Φ => ∃ x, ds = [x, x] ∧ flatT n x ∧ Φ (.bl true) m
/-- a growing bound of the bottoms -/
def NB (n : Nat) : Nat := 30000000000000000000000000 * 30 ^ n
theorem NB_succ (n : Nat) : NB (n + 1) = NB n * 30 := by unfold NB; rw [Nat.pow_succ, Nat.mul_assoc]
theorem NB_pos (n : Nat) : 0 < NB n := Nat.mul_pos (by decide) (Nat.pow_pos (by decide))
theorem NB_log {n : Nat} (h : n ≤ 100) : (NB n).log2 < 1000 := by
  refine log2_small ?_ (by decide)
  unfold NB
  have h1 : 30 ^ n ≤ 32 ^ 100 := Nat.le_trans (Nat.pow_le_pow_left (by decide) n) (Nat.pow_le_pow_right (by decide) h)
  have h2 : (32 : Nat) ^ 100 = 2 ^ 500 := by rw [show (32 : Nat) = 2 ^ 5 by decide, ← Nat.pow_mul]
  have h3 : (30000000000000000000000000 : Nat) < 2 ^ 100 := by decide
  calc 30000000000000000000000000 * 30 ^ n ≤ 30000000000000000000000000 * 2 ^ 500 := Nat.mul_le_mul_left _ (by rw [← h2]; exact h1)
    _ < 2 ^ 100 * 2 ^ 500 := Nat.mul_lt_mul_of_pos_right h3 (Nat.pow_pos (by decide))
    _ = 2 ^ 600 := by rw [← Nat.pow_add]
    _ ≤ 2 ^ 1000 := Nat.pow_le_pow_right (by decide) (by decide)
def sp_law_piece (A : Adr) : LSp := fun ds m Φ => ∃ (b : Addr) (p : Rat), ds = [.ref b, am p] ∧ m b = some (.any BagP) ∧ 0 ≤ p ∧ Bg p ∧ ∀ q, 0 ≤ q → q ≤ p → (∀ N, Dn N p → Dn (N * 30) q) → Φ (am q) m
def spx_Buffer_give (A : Adr) : LSpE := fun ds m Φ Ψ => ∃ (a : Addr) (size held full w : Rat), ds = [.ref a, am w] ∧ BufAt A.Buffer m a size held full ∧ Bg held ∧ Bg w ∧ held < w ∧ ∀ x, m x = none → Ψ (.ref A.Short) (some x) (mset m x (.xd [("amount", am w)]))
def sp_law_short (A : Adr) : LSp := fun ds m Φ => ∃ (a : Addr) (size held full w : Rat), ds = [.ref a, am w] ∧ BufAt A.Buffer m a size held full ∧ Bg held ∧ Bg w ∧ held < w ∧ Φ (.bl true) m
def sideB (b : Addr) (here most top : Rat) : List D := [.ref b, am here, am most, am top]
def sp_law_buffer_looks (A : Adr) : LSp := fun ds m Φ => ∃ (s b : Addr) (here most top : Rat), ds = [.ref s] ∧ m s = some (.lst (sideB b here most top)) ∧ BufAt A.Buffer m b top here most ∧ Φ (.bl true) m
def sp_Buffer_copy (A : Adr) : LSp := fun ds m Φ => ∃ (a : Addr) (size held full : Rat), ds = [.ref a] ∧ BufAt A.Buffer m a size held full ∧ ∀ a', m a' = none → Φ (.ref a') (mset m a' (.ins A.Buffer (bufF size held full)))
def sp_Wire_copy (A : Adr) : LSp := fun ds m Φ => ∃ (w d : Addr) (way : Int) (t : Tab), ds = [.ref w] ∧ WireAt A.Wire m w d way t ∧ ∀ w' d' m', w' ≠ d' → m w' = none → m d' = none → WireAt A.Wire m' w' d' way t → Grows m m' → Φ (.ref w') m'
/-- what holds of a buffer's amounts behind n deeds -/
structure BOk (n : Nat) (here most top : Rat) : Prop where
  h : Okb (NB n) 1000000 here
  t : Okb (NB n) 1000000 top
  m : Okb (NB n) 1000000 most
  ht : here ≤ top
  hm : here ≤ most
def sp_law_buffer_deed (A : Adr) : LSp := fun ds m Φ => ∃ (b s a : Addr) (here most top : Rat) (n : Nat), ds = [.ref b, .ref s] ∧ m b = some (.any BagP) ∧ m s = some (.lst (sideB a here most top)) ∧ BufAt A.Buffer m a top here most ∧ BOk n here most top ∧ n ≤ 90 ∧
  ∀ m' here' most', Keeps m m' (fun z => z = s ∨ z = a) → m' s = some (.lst (sideB a here' most' top)) → BufAt A.Buffer m' a top here' most' → BOk (n + 1) here' most' top → Φ (.bl true) m'
/-- a table of waters -/
structure TOk (n : Nat) (t : Tab) : Prop where
  nd : (t.map (·.1)).Nodup
  ok : ∀ p ∈ t, Okb 30 30 p.2
  len : t.length ≤ n
def sp_law_wire_deed (A : Adr) : LSp := fun ds m Φ => ∃ (b w d t : Addr) (way : Int) (T : Tab) (n : Nat), ds = [.ref b, .tup [.ref w, .ref t, .int way]] ∧ m b = some (.any BagP) ∧ WireAt A.Wire m w d way T ∧ m t = some (.dK (tabD T)) ∧ d ≠ t ∧ TOk n T ∧ n ≤ 900 ∧ 0 ≤ way ∧ way ≤ 20 ∧
  ∀ m' T', Keeps m m' (fun z => z = d ∨ z = t) → WireAt A.Wire m' w d way T' → m' t = some (.dK (tabD T')) → TOk (n + 1) T' → Φ (.bl true) m'
def sideH (h t : Addr) (late way age : Int) : List D := [.ref h, .ref t, .int late, .int way, .int age]
structure HopS (A : Adr) (m : Mem) (s h d t : Addr) (late way age : Int) (P L : Tab) : Prop where
  sd : m s = some (.lst (sideH h t late way age))
  hp : HopAt A.Hop m h d way age P
  tb : m t = some (.dK (tabD L))
  dt : d ≠ t
/-- the hop's own table agrees with the law's where it may be asked -/
structure HOk (n : Nat) (late way age : Int) (P L : Tab) : Prop where
  p : TOk n P
  l : TOk n L
  eq : ∀ k, late - way - age ≤ k → atT P k = atT L k
def sp_law_hop_deed (A : Adr) : LSp := fun ds m Φ => ∃ (b s h d t : Addr) (late way age : Int) (P L : Tab) (n : Nat), ds = [.ref b, .ref s] ∧ m b = some (.any BagP) ∧ HopS A m s h d t late way age P L ∧ HOk n late way age P L ∧ n ≤ 900 ∧ 1 ≤ way ∧ way ≤ 20 ∧ 1 ≤ age ∧ age ≤ 12 ∧
  ∀ m' d' late' P' L', Keeps m m' (fun z => z = s ∨ z = h ∨ z = d ∨ z = t) → m d' = none → HopS A m' s h d' t late' way age P' L' → HOk (n + 1) late' way age P' L' → Φ (.bl true) m'
end K31
namespace K31
open PySem PySem.Spec PyProof.Rows L2 L3
/-- _law_bag: 0 _law_script, 1 _law_seed, 2 _law_cell -/
def qb_law_bag (A : Adr) : QS :=
  (sSeq (sAsg (.nm 1) (qC (.int 13965)))
    (sSeq (sFor (iLst (qSlL (qVar 0) qNoPart (qPart (qC (.int 63))))) (.nm 2) (sAsg (.nm 1) (qOp (qIC (fun _ j => 0 < j) fun i j => .int (i % j)) (qCB bInt (qCons (qOp qAdd (qOp qAdd (qOp (qIC CM fun i j => .int (i * j)) (qVar 1) (qC (.int 69621))) (qOp (qIC (fun _ j => 0 < j) fun i j => .int (i % j)) (qCB bInt (qCons (qVar 2) qNil)) (qC (.int 2147483629)))) (qC (.int 17))) qNil)) (qC (.int 2147483587)))))
    (sRet (qLstM (qCons (qFreeze (qCB bList (qCons (qSlL (qVar 0) qNoPart (qPart (qC (.int 63)))) qNil))) (qCons (qC (.int 0)) (qCons (qC (.int 0)) (qCons (qVar 1) (qCons (qC (.int 0)) qNil)))))))))
/-- _law_draw: 0 _law_bag_here, 1 _law_many, 2 _law_cell, 3 _law_digit, 4 _law_seed -/
def qb_law_draw (A : Adr) : QS :=
  (sOpen (sSeq (sSub (qVar 0) (qC (.int 4)) (qOp qAdd (qOp vIx (qVar 0) (qC (.int 4))) (qC (.int 1))))
    (sSeq (sIf (qAnd (qB (qOp vEq (qOp vIx (qVar 0) (qC (.int 2))) (qC (.int 0)))) (qB (qOp (qI0 fun i j => .bl (decide (i < j))) (qOp vIx (qVar 0) (qC (.int 1))) (qCB bLen (qCons (qOp vIx (qVar 0) (qC (.int 0))) qNil))))) (sSeq (sAsg (.nm 2) (qOp vIx (qOp vIx (qVar 0) (qC (.int 0))) (qOp vIx (qVar 0) (qC (.int 1)))))
    (sSeq (sSub (qVar 0) (qC (.int 1)) (qOp qAdd (qOp vIx (qVar 0) (qC (.int 1))) (qC (.int 1))))
    (sIf (qB (qOp (qI0 fun i j => .bl (decide (j ≤ i))) (qVar 2) (qOp qPow (qC (.int 10)) (qC (.int 18))))) (sSub (qVar 0) (qC (.int 2)) (qVar 2)) (sSub (qVar 0) (qC (.int 3)) (qOp (qIC (fun _ j => 0 < j) fun i j => .int (i % j)) (qCB bInt (qCons (qOp qAdd (qOp qAdd (qOp (qIC CM fun i j => .int (i * j)) (qOp vIx (qVar 0) (qC (.int 3))) (qC (.int 39373))) (qOp (qIC CM fun i j => .int (i * j)) (qOp (qIC (fun _ j => 0 < j) fun i j => .int (i % j)) (qCB bInt (qCons (qVar 2) qNil)) (qC (.int 2147483549))) (qC (.int 24571)))) (qC (.int 59))) qNil)) (qC (.int 2147483579))))))) sNext)
    (sSeq (sIf (qB (qOp (qI0 fun i j => .bl (decide (j < i))) (qOp vIx (qVar 0) (qC (.int 2))) (qC (.int 0)))) (sSeq (sAsg (.nm 3) (qOp (qIC (fun _ j => 0 < j) fun i j => .int (i % j)) (qCB bInt (qCons (qOp vIx (qVar 0) (qC (.int 2))) qNil)) (qVar 1)))
    (sSeq (sSub (qVar 0) (qC (.int 2)) (qOp (qIC CDivW fun i j => .int (i / j)) (qOp vIx (qVar 0) (qC (.int 2))) (qVar 1)))
    (sRet (qVar 3)))) sNext)
    (sSeq (sAsg (.nm 4) (qOp vIx (qVar 0) (qC (.int 3))))
    (sSeq (sSub (qVar 0) (qC (.int 3)) (qOp (qIC (fun _ j => 0 < j) fun i j => .int (i % j)) (qCB bInt (qCons (qOp qAdd (qOp qAdd (qOp qAdd (qOp (qIC CM fun i j => .int (i * j)) (qOp (qIC CM fun i j => .int (i * j)) (qVar 4) (qVar 4)) (qC (.int 29))) (qOp (qIC CM fun i j => .int (i * j)) (qVar 4) (qC (.int 48673)))) (qOp (qIC CM fun i j => .int (i * j)) (qOp vIx (qVar 0) (qC (.int 4))) (qC (.int 1500007)))) (qC (.int 70001))) qNil)) (qC (.int 2147483579))))
    (sRet (qOp (qIC (fun _ j => 0 < j) fun i j => .int (i % j)) (qCB bInt (qCons (qOp qAdd (qOp (qIC CDivW fun i j => .int (i / j)) (qOp vIx (qVar 0) (qC (.int 3))) (qC (.int 101))) (qOp (qIC CM fun i j => .int (i * j)) (qOp (qIC (fun _ j => 0 < j) fun i j => .int (i % j)) (qCB bInt (qCons (qOp vIx (qVar 0) (qC (.int 3))) qNil)) (qC (.int 6007))) (qC (.int 83)))) qNil)) (qVar 1)))))))))
/-- _law_of: 0 _law_bag_here, 1 _law_things -/
def qb_law_of (A : Adr) : QS :=
  (sRet (qOp vIx (qVar 1) (qCall (sp_law_draw A) (qCons (qVar 0) (qCons (qCB bLen (qCons (qVar 1) qNil)) qNil)))))
/-- _law_amount: 0 _law_top, 1 _law_bottom, 2 _law_one, 3 _law_two -/
def qb_law_amount (A : Adr) : QS :=
  (sSeq (sPar 2 3 (qCons (qVar 0) (qCons (qVar 1) qNil)))
    (sSeq (sWhile (qB (qOp (qI0 fun i j => .bl (decide (j < i))) (qVar 3) (qC (.int 0)))) (sPar 2 3 (qCons (qVar 3) (qCons (qOp (qIC (fun _ j => 0 < j) fun i j => .int (i % j)) (qCB bInt (qCons (qVar 2) qNil)) (qVar 3)) qNil))))
    (sRet (qTup (qCons (qOp (qIC CDivW fun i j => .int (i / j)) (qVar 0) (qVar 2)) (qCons (qOp (qIC CDivW fun i j => .int (i / j)) (qVar 1) (qVar 2)) qNil))))))
/-- _law_some: 0 _law_bag_here, 1 _law_most, 2 _law_bottom -/
def qb_law_some (A : Adr) : QS :=
  (sSeq (sAsg (.nm 2) (qCall (sp_law_of A) (qCons (qVar 0) (qCons (qLstF (qCons (qC (.int 1)) (qCons (qC (.int 1)) (qCons (qC (.int 2)) (qCons (qC (.int 1)) (qCons (qC (.int 3)) (qCons (qC (.int 1)) (qCons (qC (.int 2)) (qCons (qC (.int 5)) qNil))))))))) qNil))))
    (sRet (qCall (sp_law_amount A) (qCons (qCall (sp_law_draw A) (qCons (qVar 0) (qCons (qOp qAdd (qOp (qIC CM fun i j => .int (i * j)) (qVar 1) (qVar 2)) (qC (.int 1))) qNil))) (qCons (qVar 2) qNil)))))
/-- Buffer.__init__: 0 self, 1 size -/
def qb_Buffer_init (A : Adr) : QS :=
  (sSeq (sSetF A.Buffer "size" (qVar 0) (qVar 1))
    (sSeq (sSetF A.Buffer "_held" (qVar 0) (qC (.tup [(.int 0), (.int 1)])))
    (sSetF A.Buffer "_fullest" (qVar 0) (qC (.tup [(.int 0), (.int 1)])))))
/-- _law_same: 0 _law_told, 1 _law_due, 2 _law_one, 3 _law_two -/
def qb_law_same (n : Nat) (A : Adr) : QS :=
  (sSeq (sIf (qB (qIsiT ["tuple", "list"] (qVar 1))) (sSeq (sIf (qOr (qB (qOp vNe (qIsi "tuple" (qVar 0)) (qIsi "tuple" (qVar 1)))) (qB (qOp vNe (qIsi "list" (qVar 0)) (qIsi "list" (qVar 1))))) (sRet (qC (.bl false))) sNext)
    (sRet (qAndV (qOp vEq (qCB bLen (qCons (qVar 0) qNil)) (qCB bLen (qCons (qVar 1) qNil))) (qCB bAll (qCons (qFreeze (qLc (iZipD (qCons (qVar 0) (qCons (qVar 1) qNil))) (.tp [(.nm 2), (.nm 3)]) qYes (qCall (sp_law_same n A) (qCons (qVar 2) (qCons (qVar 3) qNil))) [2, 3])) qNil))))) sNext)
    (sSeq (sIf (qOr (qB (qOp qIsN (qVar 1) (qC .non))) (qB (qOp qIsN (qVar 0) (qC .non)))) (sRet (qAndV (qOp qIsN (qVar 1) (qC .non)) (qOp qIsN (qVar 0) (qC .non)))) sNext)
    (sSeq (sIf (qOr (qB (qOp vNe (qIsi "bool" (qVar 0)) (qIsi "bool" (qVar 1)))) (qB (qOp vNe (qIsi "int" (qVar 0)) (qIsi "int" (qVar 1))))) (sRet (qC (.bl false))) sNext)
    (sRet (qAndV (qOp vEq (qIsi "str" (qVar 0)) (qIsi "str" (qVar 1))) (qOp vEq (qVar 0) (qVar 1)))))))
/-- .. while an exception is handled -/
def qbh_law_same (n : Nat) (A : Adr) : QS :=
  (sSeq (sIf (qB (qIsiT ["tuple", "list"] (qVar 1))) (sSeq (sIf (qOr (qB (qOp vNe (qIsi "tuple" (qVar 0)) (qIsi "tuple" (qVar 1)))) (qB (qOp vNe (qIsi "list" (qVar 0)) (qIsi "list" (qVar 1))))) (sRet (qC (.bl false))) sNext)
    (sRet (qAndV (qOp vEq (qCB bLen (qCons (qVar 0) qNil)) (qCB bLen (qCons (qVar 1) qNil))) (qCB bAll (qCons (qFreeze (qLc (iZipTD (qCons (qVar 0) (qCons (qVar 1) qNil))) (.tp [(.nm 2), (.nm 3)]) qYes (qCall (sph_law_same n A) (qCons (qVar 2) (qCons (qVar 3) qNil))) [2, 3])) qNil))))) sNext)
    (sSeq (sIf (qOr (qB (qOp qIsN (qVar 1) (qC .non))) (qB (qOp qIsN (qVar 0) (qC .non)))) (sRet (qAndV (qOp qIsN (qVar 1) (qC .non)) (qOp qIsN (qVar 0) (qC .non)))) sNext)
    (sSeq (sIf (qOr (qB (qOp vNe (qIsi "bool" (qVar 0)) (qIsi "bool" (qVar 1)))) (qB (qOp vNe (qIsi "int" (qVar 0)) (qIsi "int" (qVar 1))))) (sRet (qC (.bl false))) sNext)
    (sRet (qAndV (qOp vEq (qIsi "str" (qVar 0)) (qIsi "str" (qVar 1))) (qOp vEq (qVar 0) (qVar 1)))))))
/-- Buffer.held: 0 self -/
def qb_Buffer_held (A : Adr) : QS :=
  (sRet (qFld A.Buffer "_held" (qVar 0)))
/-- Buffer.fullest: 0 self -/
def qb_Buffer_fullest (A : Adr) : QS :=
  (sRet (qFld A.Buffer "_fullest" (qVar 0)))
/-- _law_buffer_looks: 0 _law_side, 1 _law_told, 2 _law_here, 3 _law_most, 4 _law_top -/
def qb_law_buffer_looks (A : Adr) : QS :=
  (sSeq (sAsg (.tp [(.nm 1), (.nm 2), (.nm 3), (.nm 4)]) (qTup (qCons (qOp vIx (qVar 0) (qC (.int 0))) (qCons (qOp vIx (qVar 0) (qC (.int 1))) (qCons (qOp vIx (qVar 0) (qC (.int 2))) (qCons (qOp vIx (qVar 0) (qC (.int 3))) qNil))))))
    (sRet (qAndV (qCall (sp_law_same 4 A) (qCons (qProp A.Buffer (sp_Buffer_held A) (qVar 1)) (qCons (qVar 2) qNil))) (qAndV (qCall (sp_law_same 4 A) (qCons (qProp A.Buffer (sp_Buffer_fullest A) (qVar 1)) (qCons (qVar 3) qNil))) (qCall (sp_law_same 4 A) (qCons (qFld A.Buffer "size" (qVar 1)) (qCons (qVar 4) qNil)))))))
/-- _law_less: 0 _law_one, 1 _law_two -/
def qb_law_less (A : Adr) : QS :=
  (sRet (qOp (qI0 fun i j => .bl (decide (i < j))) (qOp (qIC CM fun i j => .int (i * j)) (qOp vIx (qVar 0) (qC (.int 0))) (qOp vIx (qVar 1) (qC (.int 1)))) (qOp (qIC CM fun i j => .int (i * j)) (qOp vIx (qVar 1) (qC (.int 0))) (qOp vIx (qVar 0) (qC (.int 1))))))
/-- _law_max: 0 _law_one, 1 _law_two -/
def qb_law_max (A : Adr) : QS :=
  (sRet (qIfE (qB (qCall (sp_law_less A) (qCons (qVar 0) (qCons (qVar 1) qNil)))) (qVar 1) (qVar 0)))
/-- _law_sum: 0 _law_one, 1 _law_two -/
def qb_law_sum (A : Adr) : QS :=
  (sRet (qCall (sp_law_amount A) (qCons (qOp qAdd (qOp (qIC CM fun i j => .int (i * j)) (qOp vIx (qVar 0) (qC (.int 0))) (qOp vIx (qVar 1) (qC (.int 1)))) (qOp (qIC CM fun i j => .int (i * j)) (qOp vIx (qVar 1) (qC (.int 0))) (qOp vIx (qVar 0) (qC (.int 1))))) (qCons (qOp (qIC CM fun i j => .int (i * j)) (qOp vIx (qVar 0) (qC (.int 1))) (qOp vIx (qVar 1) (qC (.int 1)))) qNil))))
/-- _law_min: 0 _law_one, 1 _law_two -/
def qb_law_min (A : Adr) : QS :=
  (sRet (qIfE (qB (qCall (sp_law_less A) (qCons (qVar 1) (qCons (qVar 0) qNil)))) (qVar 1) (qVar 0)))
/-- _law_scaled: 0 _law_one, 1 _law_top, 2 _law_bottom -/
def qb_law_scaled (A : Adr) : QS :=
  (sRet (qCall (sp_law_amount A) (qCons (qOp (qIC CM fun i j => .int (i * j)) (qOp vIx (qVar 0) (qC (.int 0))) (qVar 1)) (qCons (qOp (qIC CM fun i j => .int (i * j)) (qOp vIx (qVar 0) (qC (.int 1))) (qVar 2)) qNil))))
/-- _law_part: 0 _law_bag_here, 1 _law_one, 2 _law_top, 3 _law_bottom -/
def qb_law_part (A : Adr) : QS :=
  (sSeq (sAsg (.tp [(.nm 2), (.nm 3)]) (qCall (sp_law_of A) (qCons (qVar 0) (qCons (qLstF (qCons (qTup (qCons (qC (.int 1)) (qCons (qC (.int 1)) qNil))) (qCons (qTup (qCons (qC (.int 0)) (qCons (qC (.int 1)) qNil))) (qCons (qTup (qCons (qC (.int 1)) (qCons (qC (.int 2)) qNil))) (qCons (qTup (qCons (qC (.int 1)) (qCons (qC (.int 1)) qNil))) (qCons (qTup (qCons (qC (.int 2)) (qCons (qC (.int 3)) qNil))) (qCons (qTup (qCons (qC (.int 1)) (qCons (qC (.int 5)) qNil))) qNil))))))) qNil))))
    (sRet (qCall (sp_law_scaled A) (qCons (qVar 1) (qCons (qVar 2) (qCons (qVar 3) qNil))))))
/-- _law_piece: 0 _law_bag_here, 1 _law_one, 2 _law_part_here -/
def qb_law_piece (A : Adr) : QS :=
  (sSeq (sAsg (.nm 2) (qCall (sp_law_part A) (qCons (qVar 0) (qCons (qVar 1) qNil))))
    (sRet (qIfE (qB (qOp (qI0 fun i j => .bl (decide (i < j))) (qOp vIx (qVar 2) (qC (.int 1))) (qOp qPow (qC (.int 10)) (qC (.int 12))))) (qVar 2) (qVar 1))))
/-- _law_rest: 0 _law_one, 1 _law_two -/
def qb_law_rest (A : Adr) : QS :=
  (sRet (qCall (sp_law_amount A) (qCons (qCB bMax2 (qCons (qOp (qI0 fun i j => .int (i - j)) (qOp (qIC CM fun i j => .int (i * j)) (qOp vIx (qVar 0) (qC (.int 0))) (qOp vIx (qVar 1) (qC (.int 1)))) (qOp (qIC CM fun i j => .int (i * j)) (qOp vIx (qVar 1) (qC (.int 0))) (qOp vIx (qVar 0) (qC (.int 1))))) (qCons (qC (.int 0)) qNil))) (qCons (qOp (qIC CM fun i j => .int (i * j)) (qOp vIx (qVar 0) (qC (.int 1))) (qOp vIx (qVar 1) (qC (.int 1)))) qNil))))
/-- _lowest: 0 top, 1 bottom, 2 common -/
def qb_p_lowest (A : Adr) : QS :=
  (sSeq (sAsg (.nm 2) (qCB bGcd (qCons (qVar 0) (qCons (qVar 1) qNil))))
    (sRet (qTup (qCons (qOp (qIC CDivW fun i j => .int (i / j)) (qVar 0) (qVar 2)) (qCons (qOp (qIC CDivW fun i j => .int (i / j)) (qVar 1) (qVar 2)) qNil)))))
def sp_plus_s (A : Adr) : LSp := fun ds m Φ => ∃ ws rest, ds = ws ++ rest ∧ ws.length = 0 ∧ rest.length ≤ sizeLine ∧ sp_plus A (ws ++ [.tup rest]) m Φ
/-- plus: 0 amounts, 1 top, 2 bottom, 3 more, 4 parts, 5 common -/
def qb_plus (A : Adr) : QS :=
  (sSeq (sAsg (.tp [(.nm 1), (.nm 2)]) (qC (.tup [(.int 0), (.int 1)])))
    (sSeq (sFor (iTup (qVar 0)) (.tp [(.nm 3), (.nm 4)]) (sIf (qB (qOp vEq (qVar 4) (qVar 2))) (sAug 1 qIAdd (qVar 3)) (sSeq (sAsg (.nm 5) (qCB bGcd (qCons (qVar 2) (qCons (qVar 4) qNil))))
    (sSeq (sAsg (.nm 1) (qOp qAdd (qOp (qIC CM fun i j => .int (i * j)) (qVar 1) (qOp (qIC CDivW fun i j => .int (i / j)) (qVar 4) (qVar 5))) (qOp (qIC CM fun i j => .int (i * j)) (qVar 3) (qOp (qIC CDivW fun i j => .int (i / j)) (qVar 2) (qVar 5)))))
    (sAsg (.nm 2) (qOp (qIC CM fun i j => .int (i * j)) (qOp (qIC CDivW fun i j => .int (i / j)) (qVar 2) (qVar 5)) (qVar 4)))))))
    (sRet (qCall (sp_p_lowest A) (qCons (qVar 1) (qCons (qVar 2) qNil))))))
/-- compare: 0 first, 1 second, 2 left, 3 right -/
def qb_compare (A : Adr) : QS :=
  (sSeq (sAsg (.nm 2) (qOp (qIC CM fun i j => .int (i * j)) (qOp vIx (qVar 0) (qC (.int 0))) (qOp vIx (qVar 1) (qC (.int 1)))))
    (sSeq (sAsg (.nm 3) (qOp (qIC CM fun i j => .int (i * j)) (qOp vIx (qVar 1) (qC (.int 0))) (qOp vIx (qVar 0) (qC (.int 1)))))
    (sSeq (sIf (qB (qOp vEq (qVar 2) (qVar 3))) (sRet (qC (.int 0))) sNext)
    (sRet (qIfE (qB (qOp (qI0 fun i j => .bl (decide (i < j))) (qVar 2) (qVar 3))) (qNeg (qC (.int 1))) (qC (.int 1)))))))
def sp_largest_s (A : Adr) : LSp := fun ds m Φ => ∃ ws rest, ds = ws ++ rest ∧ ws.length = 1 ∧ rest.length ≤ sizeLine ∧ sp_largest A (ws ++ [.tup rest]) m Φ
/-- largest: 0 first, 1 others, 2 found, 3 other -/
def qb_largest (A : Adr) : QS :=
  (sSeq (sAsg (.nm 2) (qVar 0))
    (sSeq (sFor (iTup (qVar 1)) (.nm 3) (sIf (qB (qOp (qI0 fun i j => .bl (decide (j < i))) (qCall (sp_compare A) (qCons (qVar 3) (qCons (qVar 2) qNil))) (qC (.int 0)))) (sAsg (.nm 2) (qVar 3)) sNext))
    (sRet (qVar 2))))
/-- Buffer.set_to: 0 self, 1 water -/
def qb_Buffer_set_to (A : Adr) : QS :=
  (sSeq (sSetF A.Buffer "_held" (qVar 0) (qVar 1))
    (sSetF A.Buffer "_fullest" (qVar 0) (qCall (sp_largest_s A) (qCons (qFld A.Buffer "_fullest" (qVar 0)) (qCons (qVar 1) qNil)))))
/-- minus: 0 first, 1 second, 2 top -/
def qb_minus (A : Adr) : QS :=
  (sSeq (sAsg (.nm 2) (qOp (qI0 fun i j => .int (i - j)) (qOp (qIC CM fun i j => .int (i * j)) (qOp vIx (qVar 0) (qC (.int 0))) (qOp vIx (qVar 1) (qC (.int 1)))) (qOp (qIC CM fun i j => .int (i * j)) (qOp vIx (qVar 1) (qC (.int 0))) (qOp vIx (qVar 0) (qC (.int 1))))))
    (sSeq (sIf (qB (qOp (qI0 fun i j => .bl (decide (i < j))) (qVar 2) (qC (.int 0)))) sNever sNext)
    (sRet (qCall (sp_p_lowest A) (qCons (qVar 2) (qCons (qOp (qIC CM fun i j => .int (i * j)) (qOp vIx (qVar 0) (qC (.int 1))) (qOp vIx (qVar 1) (qC (.int 1)))) qNil))))))
/-- Buffer.take_in: 0 self, 1 water, 2 whole -/
def qb_Buffer_take_in (A : Adr) : QS :=
  (sSeq (sAsg (.nm 2) (qCall (sp_plus_s A) (qCons (qFld A.Buffer "_held" (qVar 0)) (qCons (qVar 1) qNil))))
    (sSeq (sIf (qB (qOp (qI0 fun i j => .bl (decide (i ≤ j))) (qCall (sp_compare A) (qCons (qVar 2) (qCons (qFld A.Buffer "size" (qVar 0)) qNil))) (qC (.int 0)))) (sSeq (sExpr (qMeth A.Buffer "set_to" (sp_Buffer_set_to A) (qVar 0) (qCons (qVar 2) qNil)))
    (sRet (qC (.tup [(.int 0), (.int 1)])))) sNext)
    (sSeq (sExpr (qMeth A.Buffer "set_to" (sp_Buffer_set_to A) (qVar 0) (qCons (qFld A.Buffer "size" (qVar 0)) qNil)))
    (sRet (qCall (sp_minus A) (qCons (qVar 2) (qCons (qFld A.Buffer "size" (qVar 0)) qNil)))))))
/-- Buffer.give: 0 self, 1 water -/
def qb_Buffer_give (A : Adr) : QS :=
  (sSeq (sIf (qB (qOp (qI0 fun i j => .bl (decide (j < i))) (qCall (sp_compare A) (qCons (qVar 1) (qCons (qFld A.Buffer "_held" (qVar 0)) qNil))) (qC (.int 0)))) sNever sNext)
    (sSetF A.Buffer "_held" (qVar 0) (qCall (sp_minus A) (qCons (qFld A.Buffer "_held" (qVar 0)) (qCons (qVar 1) qNil)))))
/-- .. where it may raise -/
def qbx_Buffer_give (A : Adr) : DXs → QS := fun Ψ =>
  (sSeq (sIf (qB (qOp (qI0 fun i j => .bl (decide (j < i))) (qCall (sp_compare A) (qCons (qVar 1) (qCons (qFld A.Buffer "_held" (qVar 0)) qNil))) (qC (.int 0)))) (sRaise1 A.Short "amount" (qVar 1) Ψ) sNext)
    (sSetF A.Buffer "_held" (qVar 0) (qCall (sp_minus A) (qCons (qFld A.Buffer "_held" (qVar 0)) (qCons (qVar 1) qNil)))))
/-- _law_short: 0 _law_told, 1 _law_one, 2 error -/
def qb_law_short (A : Adr) : QS :=
  (sSeq (sTry A.Short 2 (fun Ψ => (sExprM A.Buffer "give" (spx_Buffer_give A) (qVar 0) (qCons (qVar 1) qNil) Ψ)) (fun a cls od => (sRet (qAndV (qCall (sph_law_same 4 A) (qCons (qXf a cls od A.Short "amount" (qVar 2)) (qCons (qVar 1) qNil))) (qIsE a cls od A.Short true (qVar 2))))))
    (sRet (qC (.bl false))))
/-- _law_buffer_deed: 0 _law_bag_here, 1 _law_side, 2 _law_told, 3 _law_here, 4 _law_most, 5 _law_top, 6 _law_how, 7 _law_one, 8 _law_full, 9 _law_part_here -/
def qb_law_buffer_deed (A : Adr) : QS :=
  (sSeq (sAsg (.tp [(.nm 2), (.nm 3), (.nm 4), (.nm 5)]) (qTup (qCons (qOp vIx (qVar 1) (qC (.int 0))) (qCons (qOp vIx (qVar 1) (qC (.int 1))) (qCons (qOp vIx (qVar 1) (qC (.int 2))) (qCons (qOp vIx (qVar 1) (qC (.int 3))) qNil))))))
    (sSeq (sPar 6 7 (qCons (qCall (sp_law_draw A) (qCons (qVar 0) (qCons (qC (.int 6)) qNil))) (qCons (qCall (sp_law_of A) (qCons (qVar 0) (qCons (qLstF (qCons (qCall (sp_law_some A) (qCons (qVar 0) (qCons (qC (.int 9)) qNil))) (qCons (qCall (sp_law_some A) (qCons (qVar 0) (qCons (qC (.int 30)) qNil))) (qCons (qTup (qCons (qC (.int 0)) (qCons (qC (.int 1)) qNil))) (qCons (qCall (sp_law_rest A) (qCons (qVar 5) (qCons (qVar 3) qNil))) qNil))))) qNil))) qNil)))
    (sSeq (sIf (qB (qOp (qI0 fun i j => .bl (decide (i < j))) (qVar 6) (qC (.int 3)))) (sSeq (sAsg (.nm 8) (qCall (sp_law_sum A) (qCons (qVar 3) (qCons (qVar 7) qNil))))
    (sSeq (sIf (qNot (qB (qCall (sp_law_same 4 A) (qCons (qMeth A.Buffer "take_in" (sp_Buffer_take_in A) (qVar 2) (qCons (qVar 7) qNil)) (qCons (qCall (sp_law_rest A) (qCons (qVar 8) (qCons (qVar 5) qNil))) qNil))))) (sRet (qC (.bl false))) sNext)
    (sSub (qVar 1) (qC (.int 1)) (qCall (sp_law_min A) (qCons (qVar 8) (qCons (qVar 5) qNil)))))) (sIf (qB (qOp vEq (qVar 6) (qC (.int 3)))) (sSeq (sAsg (.nm 9) (qCall (sp_law_piece A) (qCons (qVar 0) (qCons (qVar 3) qNil))))
    (sSeq (sIf (qB (qOp qNotN (qMeth A.Buffer "give" (sp_Buffer_give A) (qVar 2) (qCons (qVar 9) qNil)) (qC .non))) (sRet (qC (.bl false))) sNext)
    (sSub (qVar 1) (qC (.int 1)) (qCall (sp_law_rest A) (qCons (qVar 3) (qCons (qVar 9) qNil)))))) (sIf (qB (qOp vEq (qVar 6) (qC (.int 4)))) (sIf (qNot (qB (qCall (sp_law_short A) (qCons (qVar 2) (qCons (qCall (sp_law_sum A) (qCons (qVar 3) (qCons (qCall (sp_law_max A) (qCons (qVar 7) (qCons (qTup (qCons (qC (.int 1)) (qCons (qC (.int 1000)) qNil))) qNil))) qNil))) qNil))))) (sRet (qC (.bl false))) sNext) (sSeq (sAsg (.nm 9) (qCall (sp_law_piece A) (qCons (qVar 0) (qCons (qVar 5) qNil))))
    (sSeq (sIf (qB (qOp qNotN (qMeth A.Buffer "set_to" (sp_Buffer_set_to A) (qVar 2) (qCons (qVar 9) qNil)) (qC .non))) (sRet (qC (.bl false))) sNext)
    (sSub (qVar 1) (qC (.int 1)) (qVar 9)))))))
    (sSeq (sSub (qVar 1) (qC (.int 2)) (qCall (sp_law_max A) (qCons (qVar 4) (qCons (qOp vIx (qVar 1) (qC (.int 1))) qNil))))
    (sRet (qC (.bl true)))))))
/-- Wire.__init__: 0 self, 1 way -/
def qb_Wire_init (A : Adr) : QS :=
  (sSeq (sSetF A.Wire "_way" (qVar 0) (qVar 1))
    (sSetF A.Wire "_sent" (qVar 0) qDNewK))
/-- Hop.__init__: 0 self, 1 way, 2 age -/
def qb_Hop_init (A : Adr) : QS :=
  (sSeq (sSetF A.Hop "_way" (qVar 0) (qVar 1))
    (sSeq (sSetF A.Hop "_age" (qVar 0) (qVar 2))
    (sSetF A.Hop "_sent" (qVar 0) qDNewK)))
/-- Hop.sent_after: 0 self, 1 tick, 2 now, 3 waters, 4 sent, 5 put -/
def qb_Hop_sent_after (A : Adr) : QS :=
  (sSeq (sLock (sAsg (.nm 3) (qFreeze (qLc (iDict fItem (qFld A.Hop "_sent" (qVar 0))) (.tp [(.nm 4), (.nm 5)]) (qB (qChain (qI0 fun i j => .bl (decide (i < j))) (qI0 fun i j => .bl (decide (i < j))) (qVar 1) (qVar 4) (qVar 2))) (qVar 5) [4, 5]))))
    (sRet (qCallS1 (sp_plus_s A) (qVar 3))))
/-- _law_all: 0 _law_row, 1 _law_found, 2 _law_one -/
def qb_law_all (A : Adr) : QS :=
  (sSeq (sAsg (.nm 1) (qTup (qCons (qC (.int 0)) (qCons (qC (.int 1)) qNil))))
    (sSeq (sFor (iLst (qVar 0)) (.nm 2) (sAsg (.nm 1) (qCall (sp_law_sum A) (qCons (qVar 1) (qCons (qVar 2) qNil)))))
    (sRet (qVar 1))))
/-- Wire.put: 0 self, 1 tick, 2 water -/
def qb_Wire_put (A : Adr) : QS :=
  (sSub (qFld A.Wire "_sent" (qVar 0)) (qVar 1) (qVar 2))
/-- Wire.arriving: 0 self, 1 tick -/
def qb_Wire_arriving (A : Adr) : QS :=
  (sRet (qDGet2 (qFld A.Wire "_sent" (qVar 0)) (qOp (qI0 fun i j => .int (i - j)) (qVar 1) (qFld A.Wire "_way" (qVar 0))) (qC (.tup [(.int 0), (.int 1)]))))
/-- Wire.under_way: 0 self, 1 tick, 2 waters, 3 sent -/
def qb_Wire_under_way (A : Adr) : QS :=
  (sSeq (sAsg (.nm 2) (qFreeze (qLc (iRange2 (qCons (qOp qAdd (qOp (qI0 fun i j => .int (i - j)) (qVar 1) (qFld A.Wire "_way" (qVar 0))) (qC (.int 1))) (qCons (qOp qAdd (qVar 1) (qC (.int 1))) qNil))) (.nm 3) qYes (qDGet2 (qFld A.Wire "_sent" (qVar 0)) (qVar 3) (qC (.tup [(.int 0), (.int 1)]))) [3])))
    (sRet (qCallS1 (sp_plus_s A) (qVar 2))))
/-- _law_wire_deed: 0 _law_bag_here, 1 _law_side, 2 _law_wire, 3 _law_table, 4 _law_way_of, 5 _law_at, 6 _law_one, 7 _law_k, 8 _law_now_of, 9 _law_due, 10 _law_key -/
def qb_law_wire_deed (A : Adr) : QS :=
  (sSeq (sAsg (.tp [(.nm 2), (.nm 3), (.nm 4)]) (qVar 1))
    (sSeq (sPar 5 6 (qCons (qOp (qI0 fun i j => .int (i - j)) (qCall (sp_law_draw A) (qCons (qVar 0) (qCons (qC (.int 24)) qNil))) (qVar 4)) (qCons (qCall (sp_law_some A) (qCons (qVar 0) (qCons (qC (.int 30)) qNil))) qNil)))
    (sSeq (sIf (qB (qOp (qI0 fun i j => .bl (decide (j < i))) (qCall (sp_law_draw A) (qCons (qVar 0) (qCons (qC (.int 3)) qNil))) (qC (.int 0)))) (sSeq (sIf (qB (qOp qNotN (qMeth A.Wire "put" (sp_Wire_put A) (qVar 2) (qCons (qVar 5) (qCons (qVar 6) qNil))) (qC .non))) (sRet (qC (.bl false))) sNext)
    (sSub (qVar 3) (qVar 5) (qVar 6))) sNext)
    (sSeq (sFor (iRange1 (qCons (qC (.int 3)) qNil)) (.nm 7) (sSeq (sAsg (.nm 8) (qOp (qI0 fun i j => .int (i - j)) (qOp qAdd (qVar 5) (qCall (sp_law_draw A) (qCons (qVar 0) (qCons (qOp qAdd (qOp (qIC CM fun i j => .int (i * j)) (qC (.int 2)) (qVar 4)) (qC (.int 4))) qNil)))) (qC (.int 2))))
    (sSeq (sIf (qNot (qB (qCall (sp_law_same 4 A) (qCons (qMeth A.Wire "arriving" (sp_Wire_arriving A) (qVar 2) (qCons (qVar 8) qNil)) (qCons (qDGet2 (qVar 3) (qOp (qI0 fun i j => .int (i - j)) (qVar 8) (qVar 4)) (qTup (qCons (qC (.int 0)) (qCons (qC (.int 1)) qNil)))) qNil))))) (sRet (qC (.bl false))) sNext)
    (sSeq (sAsg (.nm 9) (qCall (sp_law_all A) (qCons (qFreeze (qLock (qLc (iDict fKey (qVar 3)) (.nm 10) (qB (qChain (qI0 fun i j => .bl (decide (i < j))) (qI0 fun i j => .bl (decide (i ≤ j))) (qOp (qI0 fun i j => .int (i - j)) (qVar 8) (qVar 4)) (qVar 10) (qVar 8))) (qOp vIx (qVar 3) (qVar 10)) [10]))) qNil)))
    (sIf (qNot (qB (qCall (sp_law_same 4 A) (qCons (qMeth A.Wire "under_way" (sp_Wire_under_way A) (qVar 2) (qCons (qVar 8) qNil)) (qCons (qVar 9) qNil))))) (sRet (qC (.bl false))) sNext)))))
    (sRet (qC (.bl true)))))))
/-- Hop.remember: 0 self, 1 tick, 2 water, 3 oldest, 4 kept, 5 sent, 6 put -/
def qb_Hop_remember (A : Adr) : QS :=
  (sSeq (sAsg (.nm 3) (qOp (qI0 fun i j => .int (i - j)) (qOp (qI0 fun i j => .int (i - j)) (qVar 1) (qFld A.Hop "_age" (qVar 0))) (qFld A.Hop "_way" (qVar 0))))
    (sSeq (sLock (sAsg (.nm 4) (qDc (iDict fItem (qFld A.Hop "_sent" (qVar 0))) (.tp [(.nm 5), (.nm 6)]) (qB (qOp (qI0 fun i j => .bl (decide (j ≤ i))) (qVar 5) (qVar 3))) (qVar 5) (qVar 6) [5, 6])))
    (sSeq (sSub (qVar 4) (qVar 1) (qVar 2))
    (sSetF A.Hop "_sent" (qVar 0) (qVar 4)))))
/-- _law_hop_deed: 0 _law_bag_here, 1 _law_side, 2 _law_hop, 3 _law_table, 4 _law_latest, 5 _law_way_of, 6 _law_age_of, 7 _law_one, 8 _law_at, 9 _law_k, 10 _law_since, 11 _law_until, 12 _law_due, 13 _law_key -/
def qb_law_hop_deed (A : Adr) : QS :=
  (sSeq (sAsg (.tp [(.nm 2), (.nm 3), (.nm 4), (.nm 5), (.nm 6)]) (qTup (qCons (qOp vIx (qVar 1) (qC (.int 0))) (qCons (qOp vIx (qVar 1) (qC (.int 1))) (qCons (qOp vIx (qVar 1) (qC (.int 2))) (qCons (qOp vIx (qVar 1) (qC (.int 3))) (qCons (qOp vIx (qVar 1) (qC (.int 4))) qNil)))))))
    (sSeq (sAsg (.nm 7) (qCall (sp_law_some A) (qCons (qVar 0) (qCons (qC (.int 30)) qNil))))
    (sSeq (sAsg (.nm 8) (qOp qAdd (qVar 4) (qCall (sp_law_of A) (qCons (qVar 0) (qCons (qLstF (qCons (qC (.int 1)) (qCons (qC (.int 1)) (qCons (qC (.int 0)) (qCons (qNeg (qC (.int 1))) (qCons (qC (.int 2)) (qCons (qOp (qI0 fun i j => .int (i - j)) (qC (.int 1)) (qCall (sp_law_draw A) (qCons (qVar 0) (qCons (qOp qAdd (qVar 5) (qVar 6)) qNil)))) qNil))))))) qNil)))))
    (sSeq (sIf (qB (qOp qNotN (qMeth A.Hop "remember" (sp_Hop_remember A) (qVar 2) (qCons (qVar 8) (qCons (qVar 7) qNil))) (qC .non))) (sRet (qC (.bl false))) sNext)
    (sSeq (sSub (qVar 3) (qVar 8) (qVar 7))
    (sSeq (sSub (qVar 1) (qC (.int 2)) (qCB bMax2 (qCons (qVar 4) (qCons (qVar 8) qNil))))
    (sSeq (sFor (iRange1 (qCons (qC (.int 3)) qNil)) (.nm 9) (sSeq (sAsg (.nm 10) (qOp qAdd (qOp (qI0 fun i j => .int (i - j)) (qOp (qI0 fun i j => .int (i - j)) (qOp vIx (qVar 1) (qC (.int 2))) (qVar 5)) (qVar 6)) (qCall (sp_law_draw A) (qCons (qVar 0) (qCons (qOp qAdd (qOp qAdd (qVar 5) (qVar 6)) (qC (.int 3))) qNil)))))
    (sSeq (sAsg (.nm 11) (qOp (qI0 fun i j => .int (i - j)) (qOp qAdd (qVar 10) (qCall (sp_law_draw A) (qCons (qVar 0) (qCons (qOp qAdd (qOp qAdd (qVar 5) (qVar 6)) (qC (.int 3))) qNil)))) (qC (.int 1))))
    (sSeq (sAsg (.nm 12) (qCall (sp_law_all A) (qCons (qFreeze (qLock (qLc (iDict fKey (qVar 3)) (.nm 13) (qB (qChain (qI0 fun i j => .bl (decide (i < j))) (qI0 fun i j => .bl (decide (i < j))) (qVar 10) (qVar 13) (qVar 11))) (qOp vIx (qVar 3) (qVar 13)) [13]))) qNil)))
    (sIf (qNot (qB (qCall (sp_law_same 4 A) (qCons (qMeth A.Hop "sent_after" (sp_Hop_sent_after A) (qVar 2) (qCons (qVar 10) (qCons (qVar 11) qNil))) (qCons (qVar 12) qNil))))) (sRet (qC (.bl false))) sNext)))))
    (sRet (qC (.bl true))))))))))
/-- Wire.copy: 0 self, 1 twin -/
def qb_Wire_copy (A : Adr) : QS :=
  (sSeq (sAsg (.nm 1) (qMake A.Wire (sp_Wire_init A) (qCons (qFld A.Wire "_way" (qVar 0)) qNil)))
    (sSeq (sSetF A.Wire "_sent" (qVar 1) (qCB bDict (qCons (qFld A.Wire "_sent" (qVar 0)) qNil)))
    (sRet (qVar 1))))
/-- Hop.copy: 0 self, 1 twin -/
def qb_Hop_copy (A : Adr) : QS :=
  (sSeq (sAsg (.nm 1) (qMake A.Hop (sp_Hop_init A) (qCons (qFld A.Hop "_way" (qVar 0)) (qCons (qFld A.Hop "_age" (qVar 0)) qNil))))
    (sSeq (sSetF A.Hop "_sent" (qVar 1) (qCB bDict (qCons (qFld A.Hop "_sent" (qVar 0)) qNil)))
    (sRet (qVar 1))))
/-- Buffer.copy: 0 self, 1 twin -/
def qb_Buffer_copy (A : Adr) : QS :=
  (sSeq (sAsg (.nm 1) (qMake A.Buffer (sp_Buffer_init A) (qCons (qFld A.Buffer "size" (qVar 0)) qNil)))
    (sSeq (sSetF A.Buffer "_held" (qVar 1) (qFld A.Buffer "_held" (qVar 0)))
    (sSeq (sSetF A.Buffer "_fullest" (qVar 1) (qFld A.Buffer "_fullest" (qVar 0)))
    (sRet (qVar 1)))))
/-- law: 0 _law_script, 1 _law_bag_here, 2 _law_way_of, 3 _law_age_of, 4 _law_top, 5 _law_wires, 6 _law_hops, 7 _law_buffers_told, 8 _law_k, 9 _law_side, 10 _law_one, 11 _law_wire, 12 _law_table, 13 _law_now_of -/
def qb_law (A : Adr) : QS :=
  (sSeq (sAsg (.nm 1) (qCall (sp_law_bag A) (qCons (qVar 0) qNil)))
    (sSeq (sPar3 2 3 4 (qCons (qCall (sp_law_of A) (qCons (qVar 1) (qCons (qLstF (qCons (qC (.int 1)) (qCons (qC (.int 2)) (qCons (qC (.int 3)) (qCons (qC (.int 5)) (qCons (qC (.int 20)) qNil)))))) qNil))) (qCons (qCall (sp_law_of A) (qCons (qVar 1) (qCons (qLstF (qCons (qC (.int 1)) (qCons (qC (.int 2)) (qCons (qC (.int 3)) (qCons (qC (.int 12)) qNil))))) qNil))) (qCons (qCall (sp_law_some A) (qCons (qVar 1) (qCons (qC (.int 30)) qNil))) qNil))))
    (sSeq (sIf (qB (qOp vEq (qCall (sp_law_draw A) (qCons (qVar 1) (qCons (qC (.int 8)) qNil))) (qC (.int 0)))) (sAsg (.nm 4) (qCall (sp_law_of A) (qCons (qVar 1) (qCons (qLstF (qCons (qTup (qCons (qC (.int 0)) (qCons (qC (.int 1)) qNil))) (qCons (qTup (qCons (qC (.int 1000000)) (qCons (qC (.int 1)) qNil))) (qCons (qTup (qCons (qOp qAdd (qOp qPow (qC (.int 10)) (qC (.int 25))) (qC (.int 1))) (qCons (qOp (qIC CM fun i j => .int (i * j)) (qC (.int 3)) (qOp qPow (qC (.int 10)) (qC (.int 24)))) qNil))) qNil)))) qNil)))) sNext)
    (sSeq (sPar3 5 6 7 (qCons (qLstM (qCons (qTup (qCons (qMake A.Wire (sp_Wire_init A) (qCons (qVar 2) qNil)) (qCons qDNewK (qCons (qVar 2) qNil)))) qNil)) (qCons (qLstM (qCons (qLstM (qCons (qMake A.Hop (sp_Hop_init A) (qCons (qVar 2) (qCons (qVar 3) qNil))) (qCons qDNewK (qCons (qC (.int 0)) (qCons (qVar 2) (qCons (qVar 3) qNil)))))) qNil)) (qCons (qLstM qNil) qNil))))
    (sSeq (sExpr (qBM "list" (mtL gAppend) (qVar 7) (qCons (qLstM (qCons (qMake A.Buffer (sp_Buffer_init A) (qCons (qVar 4) qNil)) (qCons (qTup (qCons (qC (.int 0)) (qCons (qC (.int 1)) qNil))) (qCons (qTup (qCons (qC (.int 0)) (qCons (qC (.int 1)) qNil))) (qCons (qVar 4) qNil))))) qNil)))
    (sSeq (sIf (qOr (qNot (qB (qCall (sp_law_buffer_looks A) (qCons (qOp vIx (qVar 7) (qC (.int 0))) qNil)))) (qNot (qB (qCall (sp_law_same 4 A) (qCons (qMeth A.Hop "sent_after" (sp_Hop_sent_after A) (qOp vIx (qOp vIx (qVar 6) (qC (.int 0))) (qC (.int 0))) (qCons (qNeg (qC (.int 3))) (qCons (qC (.int 9)) qNil))) (qCons (qTup (qCons (qC (.int 0)) (qCons (qC (.int 1)) qNil))) qNil)))))) (sRet (qC (.bl false))) sNext)
    (sSeq (sFor (iRange1 (qCons (qOp qAdd (qC (.int 8)) (qCall (sp_law_draw A) (qCons (qVar 1) (qCons (qC (.int 33)) qNil)))) qNil)) (.nm 8) (sSeq (sAsg (.nm 9) (qCall (sp_law_of A) (qCons (qVar 1) (qCons (qVar 5) qNil))))
    (sSeq (sIf (qOr (qNot (qB (qCall (sp_law_wire_deed A) (qCons (qVar 1) (qCons (qVar 9) qNil))))) (qNot (qB (qCall (sp_law_hop_deed A) (qCons (qVar 1) (qCons (qCall (sp_law_of A) (qCons (qVar 1) (qCons (qVar 6) qNil))) qNil)))))) (sRet (qC (.bl false))) sNext)
    (sSeq (sIf (qNot (qB (qCall (sp_law_buffer_deed A) (qCons (qVar 1) (qCons (qCall (sp_law_of A) (qCons (qVar 1) (qCons (qVar 7) qNil))) qNil))))) (sRet (qC (.bl false))) sNext)
    (sSeq (sIf (qNot (qB (qCB bAll (qCons (qFreeze (qLc (iLst (qVar 7)) (.nm 10) qYes (qCall (sp_law_buffer_looks A) (qCons (qVar 10) qNil)) [10])) qNil)))) (sRet (qC (.bl false))) sNext)
    (sIf (qAnd (qB (qOp (qI0 fun i j => .bl (decide (i < j))) (qCB bLen (qCons (qVar 5) qNil)) (qC (.int 3)))) (qB (qOp vEq (qCall (sp_law_draw A) (qCons (qVar 1) (qCons (qC (.int 8)) qNil))) (qC (.int 0))))) (sSeq (sExpr (qBM "list" (mtL gAppend) (qVar 5) (qCons (qTup (qCons (qMeth A.Wire "copy" (sp_Wire_copy A) (qOp vIx (qVar 9) (qC (.int 0))) qNil) (qCons (qCB bDict (qCons (qOp vIx (qVar 9) (qC (.int 1))) qNil)) (qCons (qVar 2) qNil)))) qNil)))
    (sSeq (sAsg (.nm 10) (qCall (sp_law_of A) (qCons (qVar 1) (qCons (qVar 6) qNil))))
    (sSeq (sExpr (qBM "list" (mtL gAppend) (qVar 6) (qCons (qLstM (qCons (qMeth A.Hop "copy" (sp_Hop_copy A) (qOp vIx (qVar 10) (qC (.int 0))) qNil) (qCons (qCB bDict (qCons (qOp vIx (qVar 10) (qC (.int 1))) qNil)) (qCons (qOp vIx (qVar 10) (qC (.int 2))) (qCons (qVar 2) (qCons (qVar 3) qNil)))))) qNil)))
    (sSeq (sAsg (.nm 10) (qCall (sp_law_of A) (qCons (qVar 1) (qCons (qVar 7) qNil))))
    (sExpr (qBM "list" (mtL gAppend) (qVar 7) (qCons (qLstM (qCons (qMeth A.Buffer "copy" (sp_Buffer_copy A) (qOp vIx (qVar 10) (qC (.int 0))) qNil) (qCons (qOp vIx (qVar 10) (qC (.int 1))) (qCons (qOp vIx (qVar 10) (qC (.int 2))) (qCons (qVar 4) qNil))))) qNil))))))) sNext))))))
    (sSeq (sFor (iLst (qVar 5)) (.tp [(.nm 11), (.nm 12), (.nm 2)]) (sFor (iRange2 (qCons (qNeg (qC (.int 6))) (qCons (qC (.int 30)) qNil))) (.nm 13) (sIf (qNot (qB (qCall (sp_law_same 4 A) (qCons (qMeth A.Wire "arriving" (sp_Wire_arriving A) (qVar 11) (qCons (qVar 13) qNil)) (qCons (qDGet2 (qVar 12) (qOp (qI0 fun i j => .int (i - j)) (qVar 13) (qVar 2)) (qTup (qCons (qC (.int 0)) (qCons (qC (.int 1)) qNil)))) qNil))))) (sRet (qC (.bl false))) sNext)))
    (sRet (qC (.bl true)))))))))))
end K31
namespace K31
open PySem PySem.Spec PyProof.Rows L2 L3
theorem len_law_bag (A : Adr) : ∀ ds m Φ, sp_law_bag A ds m Φ → ds.length = 1 := C13.len_law_bag
theorem rd_law_bag (A : Adr) : ∀ ds m Φ, sp_law_bag A ds m Φ → qb_law_bag A (bodyW Φ) (begin_ 3 ds) m := C13.rd_law_bag
theorem len_law_draw (A : Adr) : ∀ ds m Φ, sp_law_draw A ds m Φ → ds.length = 2 := C13.len_law_draw
theorem rd_law_draw (A : Adr) : ∀ ds m Φ, sp_law_draw A ds m Φ → qb_law_draw A (bodyW Φ) (begin_ 5 ds) m := C13.rd_law_draw
theorem len_law_of (A : Adr) : ∀ ds m Φ, sp_law_of A ds m Φ → ds.length = 2 := C13.len_law_of
theorem rd_law_of (A : Adr) : ∀ ds m Φ, sp_law_of A ds m Φ → qb_law_of A (bodyW Φ) (begin_ 2 ds) m := C13.rd_law_of
theorem len_law_amount (A : Adr) : ∀ ds m Φ, sp_law_amount A ds m Φ → ds.length = 2 := C13.len_law_amount
theorem rd_law_amount (A : Adr) : ∀ ds m Φ, sp_law_amount A ds m Φ → qb_law_amount A (bodyW Φ) (begin_ 4 ds) m := C13.rd_law_amount
theorem len_law_some (A : Adr) : ∀ ds m Φ, sp_law_some A ds m Φ → ds.length = 2 := C13.len_law_some
theorem rd_law_some (A : Adr) : ∀ ds m Φ, sp_law_some A ds m Φ → qb_law_some A (bodyW Φ) (begin_ 3 ds) m := C13.rd_law_some
theorem len_Buffer_init (A : Adr) : ∀ ds m Φ, sp_Buffer_init A ds m Φ → ds.length = 2 := PA.len_Buffer_init A.Buffer
theorem rd_Buffer_init (A : Adr) : ∀ ds m Φ, sp_Buffer_init A ds m Φ → qb_Buffer_init A (bodyW Φ) (begin_ 2 ds) m := PA.rd_Buffer_init A.Buffer
theorem len_law_same (n : Nat) (A : Adr) : ∀ ds m Φ, sp_law_same n A ds m Φ → ds.length = 2 := C13.len_law_same n
theorem rd_law_same (n : Nat) (A : Adr) : ∀ ds m Φ, sp_law_same (n + 1) A ds m Φ → qb_law_same n A (bodyW Φ) (begin_ 4 ds) m := C13.rd_law_same n
theorem len_Buffer_held (A : Adr) : ∀ ds m Φ, sp_Buffer_held A ds m Φ → ds.length = 1 := PA.len_Buffer_held A.Buffer
theorem rd_Buffer_held (A : Adr) : ∀ ds m Φ, sp_Buffer_held A ds m Φ → qb_Buffer_held A (bodyW Φ) (begin_ 1 ds) m := PA.rd_Buffer_held A.Buffer
theorem len_Buffer_fullest (A : Adr) : ∀ ds m Φ, sp_Buffer_fullest A ds m Φ → ds.length = 1 := PA.len_Buffer_fullest A.Buffer
theorem rd_Buffer_fullest (A : Adr) : ∀ ds m Φ, sp_Buffer_fullest A ds m Φ → qb_Buffer_fullest A (bodyW Φ) (begin_ 1 ds) m := PA.rd_Buffer_fullest A.Buffer
theorem len_law_less (A : Adr) : ∀ ds m Φ, sp_law_less A ds m Φ → ds.length = 2 := C13.len_law_less
theorem rd_law_less (A : Adr) : ∀ ds m Φ, sp_law_less A ds m Φ → qb_law_less A (bodyW Φ) (begin_ 2 ds) m := C13.rd_law_less
theorem len_law_max (A : Adr) : ∀ ds m Φ, sp_law_max A ds m Φ → ds.length = 2 := C13.len_law_max
theorem rd_law_max (A : Adr) : ∀ ds m Φ, sp_law_max A ds m Φ → qb_law_max A (bodyW Φ) (begin_ 2 ds) m := C13.rd_law_max
theorem len_law_sum (A : Adr) : ∀ ds m Φ, sp_law_sum A ds m Φ → ds.length = 2 := C13.len_law_sum
theorem rd_law_sum (A : Adr) : ∀ ds m Φ, sp_law_sum A ds m Φ → qb_law_sum A (bodyW Φ) (begin_ 2 ds) m := C13.rd_law_sum
theorem len_law_min (A : Adr) : ∀ ds m Φ, sp_law_min A ds m Φ → ds.length = 2 := C13.len_law_min
theorem rd_law_min (A : Adr) : ∀ ds m Φ, sp_law_min A ds m Φ → qb_law_min A (bodyW Φ) (begin_ 2 ds) m := C13.rd_law_min
theorem len_law_scaled (A : Adr) : ∀ ds m Φ, sp_law_scaled A ds m Φ → ds.length = 3 := C13.len_law_scaled
theorem rd_law_scaled (A : Adr) : ∀ ds m Φ, sp_law_scaled A ds m Φ → qb_law_scaled A (bodyW Φ) (begin_ 3 ds) m := C13.rd_law_scaled
theorem len_law_part (A : Adr) : ∀ ds m Φ, sp_law_part A ds m Φ → ds.length = 2 := C13.len_law_part
theorem rd_law_part (A : Adr) : ∀ ds m Φ, sp_law_part A ds m Φ → qb_law_part A (bodyW Φ) (begin_ 4 ds) m := C13.rd_law_part
theorem len_law_rest (A : Adr) : ∀ ds m Φ, sp_law_rest A ds m Φ → ds.length = 2 := C13.len_law_rest
theorem rd_law_rest (A : Adr) : ∀ ds m Φ, sp_law_rest A ds m Φ → qb_law_rest A (bodyW Φ) (begin_ 2 ds) m := C13.rd_law_rest
theorem len_p_lowest (A : Adr) : ∀ ds m Φ, sp_p_lowest A ds m Φ → ds.length = 2 := PA.len_p_lowest
theorem rd_p_lowest (A : Adr) : ∀ ds m Φ, sp_p_lowest A ds m Φ → qb_p_lowest A (bodyW Φ) (begin_ 3 ds) m := PA.rd_p_lowest
theorem rd_plus (A : Adr) : ∀ ds m Φ, sp_plus A ds m Φ → qb_plus A (bodyW Φ) (begin_ 6 ds) m := PA.rd_plus
theorem len_compare (A : Adr) : ∀ ds m Φ, sp_compare A ds m Φ → ds.length = 2 := PA.len_compare
theorem rd_compare (A : Adr) : ∀ ds m Φ, sp_compare A ds m Φ → qb_compare A (bodyW Φ) (begin_ 4 ds) m := PA.rd_compare
theorem rd_largest (A : Adr) : ∀ ds m Φ, sp_largest A ds m Φ → qb_largest A (bodyW Φ) (begin_ 4 ds) m := PA.rd_largest
theorem len_Buffer_set_to (A : Adr) : ∀ ds m Φ, sp_Buffer_set_to A ds m Φ → ds.length = 2 := PA.len_Buffer_set_to A.Buffer
theorem rd_Buffer_set_to (A : Adr) : ∀ ds m Φ, sp_Buffer_set_to A ds m Φ → qb_Buffer_set_to A (bodyW Φ) (begin_ 2 ds) m := PA.rd_Buffer_set_to A.Buffer
theorem len_minus (A : Adr) : ∀ ds m Φ, sp_minus A ds m Φ → ds.length = 2 := PA.len_minus
theorem rd_minus (A : Adr) : ∀ ds m Φ, sp_minus A ds m Φ → qb_minus A (bodyW Φ) (begin_ 3 ds) m := PA.rd_minus
theorem len_Buffer_take_in (A : Adr) : ∀ ds m Φ, sp_Buffer_take_in A ds m Φ → ds.length = 2 := PA.len_Buffer_take_in A.Buffer
theorem rd_Buffer_take_in (A : Adr) : ∀ ds m Φ, sp_Buffer_take_in A ds m Φ → qb_Buffer_take_in A (bodyW Φ) (begin_ 3 ds) m := PA.rd_Buffer_take_in A.Buffer
theorem len_Buffer_give (A : Adr) : ∀ ds m Φ, sp_Buffer_give A ds m Φ → ds.length = 2 := PA.len_Buffer_give A.Buffer
theorem rd_Buffer_give (A : Adr) : ∀ ds m Φ, sp_Buffer_give A ds m Φ → qb_Buffer_give A (bodyW Φ) (begin_ 2 ds) m := PA.rd_Buffer_give A.Buffer
theorem len_Wire_init (A : Adr) : ∀ ds m Φ, sp_Wire_init A ds m Φ → ds.length = 2 := PA.len_Wire_init A.Wire
theorem rd_Wire_init (A : Adr) : ∀ ds m Φ, sp_Wire_init A ds m Φ → qb_Wire_init A (bodyW Φ) (begin_ 2 ds) m := PA.rd_Wire_init A.Wire
theorem len_Hop_init (A : Adr) : ∀ ds m Φ, sp_Hop_init A ds m Φ → ds.length = 3 := PA.len_Hop_init A.Hop
theorem rd_Hop_init (A : Adr) : ∀ ds m Φ, sp_Hop_init A ds m Φ → qb_Hop_init A (bodyW Φ) (begin_ 3 ds) m := PA.rd_Hop_init A.Hop
theorem len_Hop_sent_after (A : Adr) : ∀ ds m Φ, sp_Hop_sent_after A ds m Φ → ds.length = 3 := PA.len_Hop_sent_after A.Hop
theorem rd_Hop_sent_after (A : Adr) : ∀ ds m Φ, sp_Hop_sent_after A ds m Φ → qb_Hop_sent_after A (bodyW Φ) (begin_ 6 ds) m := PA.rd_Hop_sent_after A.Hop
theorem len_law_all (A : Adr) : ∀ ds m Φ, sp_law_all A ds m Φ → ds.length = 1 := C13.len_law_all
theorem rd_law_all (A : Adr) : ∀ ds m Φ, sp_law_all A ds m Φ → qb_law_all A (bodyW Φ) (begin_ 3 ds) m := C13.rd_law_all
theorem len_Wire_put (A : Adr) : ∀ ds m Φ, sp_Wire_put A ds m Φ → ds.length = 3 := PA.len_Wire_put A.Wire
theorem rd_Wire_put (A : Adr) : ∀ ds m Φ, sp_Wire_put A ds m Φ → qb_Wire_put A (bodyW Φ) (begin_ 3 ds) m := PA.rd_Wire_put A.Wire
theorem len_Wire_arriving (A : Adr) : ∀ ds m Φ, sp_Wire_arriving A ds m Φ → ds.length = 2 := PA.len_Wire_arriving A.Wire
theorem rd_Wire_arriving (A : Adr) : ∀ ds m Φ, sp_Wire_arriving A ds m Φ → qb_Wire_arriving A (bodyW Φ) (begin_ 2 ds) m := PA.rd_Wire_arriving A.Wire
theorem len_Wire_under_way (A : Adr) : ∀ ds m Φ, sp_Wire_under_way A ds m Φ → ds.length = 2 := PA.len_Wire_under_way A.Wire
theorem rd_Wire_under_way (A : Adr) : ∀ ds m Φ, sp_Wire_under_way A ds m Φ → qb_Wire_under_way A (bodyW Φ) (begin_ 4 ds) m := PA.rd_Wire_under_way A.Wire
theorem len_Hop_remember (A : Adr) : ∀ ds m Φ, sp_Hop_remember A ds m Φ → ds.length = 3 := PA.len_Hop_remember A.Hop
theorem rd_Hop_remember (A : Adr) : ∀ ds m Φ, sp_Hop_remember A ds m Φ → qb_Hop_remember A (bodyW Φ) (begin_ 7 ds) m := PA.rd_Hop_remember A.Hop
theorem len_Hop_copy (A : Adr) : ∀ ds m Φ, sp_Hop_copy A ds m Φ → ds.length = 1 := PA.len_Hop_copy A.Hop
theorem rd_Hop_copy (A : Adr) : ∀ ds m Φ, sp_Hop_copy A ds m Φ → qb_Hop_copy A (bodyW Φ) (begin_ 2 ds) m := PA.rd_Hop_copy A.Hop
end K31
/-! K31_M: sums over tables -/
namespace K31
open PySem PySem.Spec PyProof.Rows L2 L3 L4 PA
/-- f lo+1 + .. + f lo+n -/
def sumR (f : Int → Rat) (lo : Int) : Nat → Rat
  | 0 => 0
  | n + 1 => sumR f lo n + f (lo + 1 + n)
theorem sumR_congr {f g : Int → Rat} {lo : Int} : ∀ {n : Nat}, (∀ k, lo < k → k ≤ lo + n → f k = g k) → sumR f lo n = sumR g lo n
  | 0, _ => rfl
  | n + 1, h => by
    show sumR f lo n + _ = sumR g lo n + _
    rw [sumR_congr (n := n) fun k h1 h2 => h k h1 (by omega), h (lo + 1 + n) (by omega) (by omega)]
theorem sumR_add (f g : Int → Rat) (lo : Int) : ∀ n : Nat, sumR (fun k => f k + g k) lo n = sumR f lo n + sumR g lo n
  | 0 => by show (0 : Rat) = 0 + 0; rw [Rat.add_zero]
  | n + 1 => by
    show sumR _ lo n + (f _ + g _) = sumR f lo n + f _ + (sumR g lo n + g _)
    rw [sumR_add f g lo n]
    grind
theorem sumR_one (j : Int) (q : Rat) (lo : Int) : ∀ n : Nat, sumR (fun k => if j = k then q else 0) lo n = if lo < j ∧ j ≤ lo + n then q else 0
  | 0 => by
    rw [if_neg (by omega)]; rfl
  | n + 1 => by
    show sumR _ lo n + (if j = lo + 1 + n then q else 0) = _
    rw [sumR_one j q lo n]
    by_cases h : j = lo + 1 + n
    · rw [if_pos h, if_neg (by omega), if_pos (by omega), Rat.zero_add]
    · rw [if_neg h, Rat.add_zero]
      by_cases h2 : lo < j ∧ j ≤ lo + n
      · rw [if_pos h2, if_pos (by omega)]
      · rw [if_neg h2, if_neg (by omega)]
theorem sumR_zero (lo : Int) : ∀ n : Nat, sumR (fun _ => 0) lo n = 0
  | 0 => rfl
  | n + 1 => by show sumR _ lo n + 0 = 0; rw [sumR_zero lo n, Rat.add_zero]
theorem atT_cons (p : Int × Rat) (t : Tab) (h : p.1 ∉ t.map (·.1)) (k : Int) : atT (p :: t) k = (if p.1 = k then p.2 else 0) + atT t k := by
  unfold PA.atT getT
  rw [List.find?_cons]
  by_cases e : p.1 = k
  · rw [if_pos e, decide_eq_true e]
    have : t.find? (fun p => decide (p.1 = k)) = none := List.find?_eq_none.mpr fun x hx hz => h (by
      rw [e]
      exact List.mem_map.mpr ⟨x, hx, of_decide_eq_true hz⟩)
    rw [this]
    show p.2 = p.2 + 0
    rw [Rat.add_zero]
  · rw [if_neg e, decide_eq_false e]
    show _ = 0 + _
    rw [Rat.zero_add]
theorem taken_sum (lo hi : Int) : ∀ {t : Tab}, (t.map (·.1)).Nodup → taken t lo hi = sumR (atT t) lo (hi - 1 - lo).toNat
  | [], _ => by
    rw [show atT [] = fun _ => 0 from rfl, sumR_zero]; rfl
  | p :: t, nd => by
    have nd := List.nodup_cons.mp (show (p.1 :: t.map (·.1)).Nodup from nd)
    rw [show atT (p :: t) = fun k => (if p.1 = k then p.2 else 0) + atT t k from funext (atT_cons p t nd.1), sumR_add, sumR_one, ← taken_sum lo hi nd.2]
    show total (((p :: t).filter (inW lo hi)).map (·.2)) = _
    rw [List.filter_cons]
    by_cases h : inW lo hi p = true
    · have h' := h
      unfold inW at h'
      rw [Bool.and_eq_true] at h'
      have h1 := of_decide_eq_true h'.1
      have h2 := of_decide_eq_true h'.2
      rw [if_pos h, if_pos (by omega)]; rfl
    · rw [if_neg h]
      have : ¬ (lo < p.1 ∧ p.1 ≤ lo + ((hi - 1 - lo).toNat : Int)) := fun ⟨a, b⟩ => h (by
        unfold inW
        rw [Bool.and_eq_true]
        exact ⟨decide_eq_true a, decide_eq_true (by omega)⟩)
      rw [if_neg this, Rat.zero_add]; rfl
theorem under_sum (t : Tab) (tick : Int) (way : Nat) : under t way tick = sumR (atT t) (tick - way) way := by
  unfold PA.under
  rw [show ((way : Int)).toNat = way from rfl]
  have key : ∀ (lo : Int) (n : Nat), total ((List.range n).map fun i : Nat => atT t (lo + 1 + i)) = sumR (atT t) lo n := by
    intro lo n
    induction n with
    | zero => rfl
    | succ n ih =>
      rw [List.range_succ, List.map_append, total_app, ih]
      show _ + (_ + 0) = _
      rw [Rat.add_zero]; rfl
  exact key (tick - way) way
theorem under_taken {t : Tab} (nd : (t.map (·.1)).Nodup) {way : Int} (hw : 0 ≤ way) (tick : Int) : under t way tick = taken t (tick - way) (tick + 1) := by
  obtain ⟨w, rfl⟩ := Int.eq_ofNat_of_zero_le hw
  rw [taken_sum _ _ nd, show (tick + 1 - 1 - (tick - (w : Int))).toNat = w by omega]
  exact under_sum t tick w
theorem taken_same {P L : Tab} (hp : (P.map (·.1)).Nodup) (hl : (L.map (·.1)).Nodup) {lo hi : Int} (h : ∀ k, lo < k → atT P k = atT L k) : taken P lo hi = taken L lo hi := by
  rw [taken_sum _ _ hp, taken_sum _ _ hl]
  exact sumR_congr fun k h1 _ => h k h1
theorem getT_put (t : Tab) (j : Int) (q : Rat) (k : Int) : getT (putT t j q) k = if k = j then some q else getT t k := by
  unfold putT
  split
  · rename_i h
    induction t with
    | nil => simp at h
    | cons p t ih =>
      unfold getT
      rw [List.map_cons, List.find?_cons, List.find?_cons]
      by_cases e : p.1 = j
      · rw [if_pos e]
        by_cases ek : k = j
        · subst ek
          rw [if_pos rfl, decide_eq_true (show (p.1, q).1 = k from e)]; rfl
        · rw [if_neg ek, decide_eq_false (show ¬ (p.1, q).1 = k from fun z => ek (z.symm.trans e))]
          by_cases h2 : (t.any fun p => decide (p.1 = j)) = true
          · have := ih h2
            unfold getT at this
            rw [if_neg ek] at this
            exact this
          · have : t.map (fun p => if p.1 = j then (p.1, q) else p) = t := by
              refine (List.map_congr_left fun x hx => if_neg fun z => h2 (List.any_eq_true.mpr ⟨x, hx, decide_eq_true z⟩)).trans (List.map_id' t)
            rw [this]
      · rw [if_neg e]
        have h2 : (t.any fun p => decide (p.1 = j)) = true := by
          rw [List.any_cons, decide_eq_false e, Bool.false_or] at h
          exact h
        by_cases ep : p.1 = k
        · rw [decide_eq_true ep, if_neg (fun z => e (ep.trans z))]
        · rw [decide_eq_false ep]
          exact ih h2
  · rename_i h
    have hn : getT t j = none := by
      unfold getT
      rw [List.find?_eq_none.mpr fun x hx hz => h (List.any_eq_true.mpr ⟨x, hx, hz⟩)]; rfl
    unfold getT at hn ⊢
    rw [List.find?_append]
    by_cases ek : k = j
    · subst ek
      rw [if_pos rfl]
      cases e : t.find? fun p => decide (p.1 = k) with
      | some x => rw [e] at hn; cases hn
      | none =>
        rw [Option.none_or, List.find?_cons, decide_eq_true rfl]; rfl
    · rw [if_neg ek]
      cases e : t.find? fun p => decide (p.1 = k) with
      | some x => rfl
      | none =>
        rw [Option.none_or, List.find?_cons, decide_eq_false (show ¬ j = k from fun z => ek z.symm)]; rfl
theorem atT_put (t : Tab) (j : Int) (q : Rat) (k : Int) : atT (putT t j q) k = if k = j then q else atT t k := by
  unfold PA.atT
  rw [getT_put]
  split <;> rfl
theorem atT_cut {t : Tab} {c k : Int} (h : c ≤ k) : atT (t.filter (cutF c)) k = atT t k := by
  unfold PA.atT getT
  congr 1
  congr 1
  rw [List.find?_filter]
  congr 1
  funext p
  by_cases e : p.1 = k
  · rw [decide_eq_true e]
    exact decide_eq_true ⟨decide_eq_true (by omega), rfl⟩
  · rw [decide_eq_false e]
    exact decide_eq_false fun z => Bool.noConfusion z.2
theorem TOk.put {n : Nat} {t : Tab} (h : TOk n t) (j : Int) {q : Rat} (hq : Okb 30 30 q) : TOk (n + 1) (putT t j q) := ⟨put_nd h.nd, fun p hp => (put_mem hp).elim (h.ok p) fun e => by rw [e]; exact hq, Nat.le_trans put_len (Nat.succ_le_succ h.len)⟩
theorem TOk.cut {n : Nat} {t : Tab} (h : TOk n t) (c : Int) : TOk n (t.filter (cutF c)) := ⟨nd_filter _ h.nd, fun p hp => h.ok p (List.mem_filter.mp hp).1, Nat.le_trans (List.length_filter_le _ _) h.len⟩
theorem TOk.tab {n : Nat} {t : Tab} (h : TOk n t) (hn : n ≤ 1000) : TabOk 30 30 t := ⟨h.nd, h.ok, Nat.le_trans h.len hn⟩
theorem TOk.up {n k : Nat} {t : Tab} (h : TOk n t) (e : n ≤ k) : TOk k t := ⟨h.nd, h.ok, Nat.le_trans h.len e⟩
theorem HOk.put {n : Nat} {late way age : Int} {P L : Tab} (h : HOk n late way age P L) (j : Int) {q : Rat} (hq : Okb 30 30 q) : HOk (n + 1) (max late j) way age (putT (P.filter (cutF (j - age - way))) j q) (putT L j q) := by
  refine ⟨(h.p.cut _).put j hq, h.l.put j hq, fun k hk => ?_⟩
  rw [atT_put, atT_put]
  split
  · rfl
  · rw [atT_cut (by omega)]
    exact h.eq k (by omega)
theorem k_mid {c : Bool} {t : QS} {E : DE} {s : DSt} {m : Mem} (I : DSt → Mem → Prop) (h1 : c = true → ∀ (E' : DE), (∀ s1 m1, I s1 m1 → E'.nx s1 m1) → t E' s m) (h2 : c = false → I s m) (h3 : ∀ s1 m1, I s1 m1 → E.nx s1 m1) : qIf c (t E s m) (sNext E s m) := by
  cases c with
  | true => exact qif_t rfl (h1 rfl E h3)
  | false => exact qif_f rfl (h3 s m (h2 rfl))
theorem k_seqI {t u : QS} {E : DE} {s : DSt} {m : Mem} (I : DSt → Mem → Prop) (h1 : ∀ E' : DE, (∀ s1 m1, I s1 m1 → E'.nx s1 m1) → t E' s m) (h3 : ∀ s1 m1, I s1 m1 → u E s1 m1) : sSeq t u E s m := h1 _ h3
theorem k_make {C : Addr} {sp : LSp} {qa : QA} {s : DSt} {m : Mem} {Φ : DK} (h : qa s m fun ds m1 => ∀ a, m1 a = none → sp (.ref a :: ds) (mset m1 a (.ins C [])) fun d m2 => match d with | .non => Φ (.ref a) m2 | _ => False) : qMake C sp qa s m Φ := h
theorem k_dnew {s : DSt} {m : Mem} {Φ : DK} (h : ∀ p, m p = none → Φ (.ref p) (mset m p (.dK []))) : qDNewK s m Φ := h
def MthK (C : Addr) (f : Str) (sp : LSp) (qa : QA) (s : DSt) (Φ : DK) (x : D) (m1 : Mem) : Prop := match x with
  | .ref a => ∃ fs, m1 a = some (.ins C fs) ∧ fs.lookup f = none ∧ qa s m1 fun ds m2 => sp (x :: ds) m2 Φ
  | _ => False
theorem k_meth {qo : QE} {qa : QA} {s : DSt} {m : Mem} {Φ : DK} {C : Addr} {f : Str} {sp : LSp} (h : qo s m fun x m1 => MthK C f sp qa s Φ x m1) : qMeth C f sp qo qa s m Φ := h
theorem k_methI {qa : QA} {s : DSt} {m : Mem} {Φ : DK} {C a : Addr} {f : Str} {fs : List (Str × D)} {sp : LSp} (hm : m a = some (.ins C fs)) (hl : fs.lookup f = none) (h : qa s m fun ds m2 => sp (.ref a :: ds) m2 Φ) : MthK C f sp qa s Φ (.ref a) m := ⟨fs, hm, hl, h⟩
theorem k_max2 {i j : Int} {m : Mem} {Φ : DK} (h : Φ (.int (max i j)) m) : bMax2 [.int i, .int j] m Φ := by
  show Φ (.int (if j > i then j else i)) m
  have e : (if j > i then j else i) = max i j := by split <;> omega
  rw [e]; exact h
/-- the amounts of a table's ticks that a test lets by -/
theorem k_sums {i j : Nat} {qt : QT} {s : DSt} {m : Mem} {Φ : DK} {d : Addr} {T : Tab} (f : Int × Rat → Bool) (hm : m d = some (.dK (tabD T))) (nd : (T.map (·.1)).Nodup) (hl : T.length < 1000000) (hs : look s i = some (.ref d)) (h1 : ∀ v, look ((wipeD s [j]).set j (some (.int v))) i = some (.ref d))
    (h2 : ∀ v, look ((wipeD s [j]).set j (some (.int v))) j = some (.int v)) (ht : ∀ p ∈ T, ∀ (m2 : Mem) (Q : Bool → Mem → Prop), Q (f p) m2 → qt ((wipeD s [j]).set j (some (.int p.1))) m2 Q)
    (k : Φ (.lst (((T.filter f).map (·.2)).map am)) m) : qLock (qLc (iDict fKey (qVar i)) (.nm j) qt (qOp vIx (qVar i) (qVar j)) [j]) s m (fun d m1 => FzK d m1 Φ) := by
  refine ⟨d, tabD T, hm, ?_⟩
  refine k_lc ?_
  refine (k_var hs ?_ : qVar i s _ _)
  refine ⟨tabD T, mset_same, ?_⟩
  rw [keys_tab]
  refine k_lcT T _ f (fun p => am p.2) hl (fun a o ha => ?_) (fun i' p hp a o ha => ?_) fun a ha => ?_
  · obtain ⟨had, ha⟩ := mset_none ha
    rw [mset_ne (Ne.symm had), mset_same]
  · obtain ⟨had, ha⟩ := mset_none ha
    have hp : p ∈ T := List.mem_of_getElem? hp
    refine k_atn ⟨fun Q q => ht p hp _ Q q, fun _ Q q => ?_⟩
    refine k_op (k_var (h1 p.1) (k_var (h2 p.1) ?_))
    exact .inr ⟨am p.2, ⟨tabD T, .inl p.1, .inr (by rw [mset_ne (Ne.symm had), mset_same]), rfl, (tab_val nd hp).symm⟩, q⟩
  · obtain ⟨had, ha⟩ := mset_none ha
    refine ⟨_, by rw [mset_ne had, mset_same], ?_⟩
    rw [lock_lst hm ha had, show (T.filter f).map (fun p => am p.2) = ((T.filter f).map (·.2)).map am by rw [List.map_map]; rfl]
    exact k
end K31
namespace K31
open PySem PySem.Spec PyProof.Rows L2 L3 L4 PA
open Rat (divInt)
open C13 (BagP)
local macro_rules | `(tactic| walk_at "st") => `(tactic| repeat (first
  | (with_reducible refine k_var (by with_unfolding_all rfl) ?_)
  | (with_reducible refine k_seq ?_)
  | (with_reducible refine k_cons ?_)
  | (with_reducible refine k_nil ?_)
  | (with_reducible refine k_c ?_)
  | (with_reducible refine k_op ?_)
  | (with_reducible refine k_asg ?_)
  | (with_reducible refine k_call ?_)
  | (with_reducible refine k_cb ?_)
  | (with_reducible refine k_i0 ?_)
  | (with_reducible refine k_addI ?_)
  | (with_reducible refine k_B ?_)
  | (with_reducible refine k_bk ?_)
  | (with_reducible refine k_if ?_)
  | (with_reducible refine k_ret ?_)
  | (with_reducible refine k_expr ?_)
  | (with_reducible refine k_next ?_)
  | (with_reducible refine k_not ?_)
  | (with_reducible refine k_and ?_)
  | (with_reducible refine k_or ?_)
  | (with_reducible refine k_ift ?_)
  | (with_reducible refine k_iff ?_)
  | (with_reducible refine k_ifnt ?_)
  | (with_reducible refine k_ifnf ?_)
  | (with_reducible refine k_fz ?_)
  | (with_reducible refine k_lc ?_)
  | (with_reducible refine k_dc ?_)
  | (with_reducible refine k_for ?_)
  | (with_reducible refine k_rng ?_)
  | (with_reducible refine k_iL ?_)
  | (with_reducible refine k_iLl ?_)
  | (with_reducible refine k_iT ?_)
  | (with_reducible refine k_iTt ?_)
  | (with_reducible refine k_zip ?_)
  | (with_reducible refine k_asgp ?_)
  | (with_reducible refine k_atn ?_)
  | (with_reducible refine k_par ?_)
  | (with_reducible refine k_parI ?_)
  | (with_reducible refine k_par3 ?_)
  | (with_reducible refine k_par3I ?_)
  | (with_reducible refine k_sub ?_)
  | (with_reducible refine k_andV ?_)
  | (with_reducible refine k_orV ?_)
  | (with_reducible refine k_notV ?_)
  | (with_reducible refine k_ifE ?_)
  | (with_reducible refine k_chain ?_)
  | (with_reducible refine k_am0 ?_)
  | (with_reducible refine k_am1 ?_)
  | (with_reducible refine k_int ?_)
  | (with_reducible refine k_eqI ?_)
  | (with_reducible refine k_neI ?_)
  | (with_reducible refine k_eqB ?_)
  | (with_reducible refine k_neB ?_)
  | (with_reducible refine k_iaddI ?_)
  | (with_reducible refine k_lenT ?_)
  | (with_reducible refine k_lenL ?_)
  | (with_reducible refine k_tru ?_)
  | (with_reducible refine k_cont ?_)
  | (with_reducible refine k_brk ?_)
  | (with_reducible refine k_retN ?_)
  | (with_reducible refine k_callK ?_)
  | (with_reducible refine k_callS1 ?_)
  | (with_reducible refine k_star ?_)
  | (with_reducible refine k_itL ?_)
  | (with_reducible refine k_itT ?_)
  | (with_reducible refine k_isi ?_)
  | (with_reducible refine k_isiT ?_)
  | (with_reducible refine k_bm ?_)
  | (with_reducible refine k_tup ?_)
  | (with_reducible refine k_lstF ?_)
  | (with_reducible refine k_lstM ?_)
  | (with_reducible refine k_aug (by with_unfolding_all rfl) ?_)
  | (with_reducible refine k_iSv (by with_unfolding_all rfl) ?_)
  | (with_reducible refine k_ixt (by with_unfolding_all rfl) ?_)
  | (with_reducible refine k_at (by with_unfolding_all rfl) ?_)
  | (with_reducible refine k_fzn ‹_› ?_)
  | (refine And.intro (by exact sz (by simp <;> omega)) ?_)
  | fail))
theorem lenh_law_same (n : Nat) (A : Adr) : ∀ ds m Φ, sph_law_same n A ds m Φ → ds.length = 2 := by
  cases n with
  | zero => exact fun _ _ _ h => h.elim
  | succ n => rintro _ _ _ ⟨_, rfl, _⟩; rfl
theorem same_zipH {n : Nat} {A : Adr} {Φ : DK} {m : Mem} {x : D} {ds : List D} (hl : ds.length < 1000000) (hf : ∀ d ∈ ds, flatT n d) (k : Φ (.bl true) m) :
    LcIn (.tp [.nm 2, .nm 3]) qYes (qCall (sph_law_same (n + 1) A) (qCons (qVar 2) (qCons (qVar 3) qNil))) [some x, some x, none, none] (zipD ds ds) (fun _ => True) m (fun d m1 => match d with
      | .ref a => ∃ ds, m1 a = some (.lst ds) ∧ qCB bAll (qCons (qC (.lst ds)) qNil) [] (mdel m1 a) (bodyW Φ).rt
      | _ => False) := by
  refine lc_by (fun i acc => acc = List.replicate i (.bl true)) rfl (fun _ _ _ => trivial) ?_ ?_
  · rintro i d acc a ha hd hl' rfl
    obtain ⟨y, hy, rfl⟩ := zip_self ds hd
    have hi : i < ds.length := by
      have := (List.getElem?_eq_some_iff.mp hd).1
      rw [zipD_length] at this; omega
    refine qif_t rfl ⟨y, rfl, hf y hy, ?_⟩
    exact lc_ok hl' (by show i < 16777216; omega) (by rw [List.replicate_succ'])
  · rintro acc a ha hl' rfl
    refine ⟨_, mset_same, ?_⟩
    rw [mdel_mset ha]
    refine ⟨List.replicate (zipD ds ds).length true, by rw [List.map_replicate], ?_⟩
    rw [all_true]
    exact wk_at k
theorem rdh_law_same (n : Nat) (A : Adr) : ∀ ds m Φ, sph_law_same (n + 1) A ds m Φ → qbh_law_same n A (bodyW Φ) (begin_ 4 ds) m := by
  rintro _ m Φ ⟨x, rfl, hf, k⟩
  cases x with
  | int i =>
    refine ⟨"int", false, rfl, rfl, qif_f rfl ?_⟩
    refine qif_f rfl (qif_f rfl ?_)
    refine ⟨"int", false, rfl, rfl, "int", false, rfl, rfl, qif_f rfl ⟨"int", true, rfl, rfl, "int", true, rfl, rfl, qif_f rfl ?_⟩⟩
    refine ⟨"int", false, rfl, rfl, "int", false, rfl, rfl, qif_t rfl ?_⟩
    show ∃ m', MLe m m' ∧ Φ (.bl (decide (i = i))) m'
    rw [decide_eq_true rfl]
    exact wk_at k
  | bl i => cases n <;> exact hf.elim
  | non => cases n <;> exact hf.elim
  | str z => cases n <;> exact hf.elim
  | ref a => cases n <;> exact hf.elim
  | lst ds => cases n <;> exact hf.elim
  | tup ds =>
    cases n with
    | zero => exact hf.elim
    | succ n =>
      obtain ⟨hl, hf⟩ := hf
      refine ⟨"tuple", true, rfl, rfl, qif_t rfl ?_⟩
      refine ⟨"tuple", true, rfl, rfl, "tuple", true, rfl, rfl, qif_f rfl ⟨"tuple", false, rfl, rfl, "tuple", false, rfl, rfl, qif_f rfl ?_⟩⟩
      refine qif_t (decide_eq_true rfl) ?_
      refine ⟨ds, ds, rfl, ?_⟩
      exact same_zipH hl hf k
theorem len_law_piece (A : Adr) : ∀ ds m Φ, sp_law_piece A ds m Φ → ds.length = 2 := by rintro _ _ _ ⟨_, _, rfl, _⟩; rfl
theorem rd_law_piece (A : Adr) : ∀ ds m Φ, sp_law_piece A ds m Φ → qb_law_piece A (bodyW Φ) (begin_ 3 ds) m := by
  rintro _ m Φ ⟨b, p, rfl, hb, hp, bp, k⟩
  unfold qb_law_piece
  walk_at "st"
  refine ⟨b, p, rfl, hb, hp, bp, fun q q0 q1 qd => ?_⟩
  walk_at "st"
  refine ⟨⟨by decide, by decide, by decide⟩, fun n12 _ => ?_⟩
  walk_at "st"
  refine qif (fun _ => ?_) (fun _ => ?_)
  · walk_at "st"
    exact wk_at (k q q0 q1 qd)
  · walk_at "st"
    exact wk_at (k p hp Rat.le_refl fun N h => h.mono 30)
theorem lenx_Buffer_give (A : Adr) : ∀ ds m Φ Ψ, spx_Buffer_give A ds m Φ Ψ → ds.length = 2 := by rintro _ _ _ _ ⟨_, _, _, _, _, rfl, _⟩; rfl
theorem rdx_Buffer_give (A : Adr) : ∀ ds m Φ Ψ, spx_Buffer_give A ds m Φ Ψ → qbx_Buffer_give A (fun cls od _ m => ∃ m', MLe m m' ∧ Ψ cls od m') (bodyW Φ) (begin_ 2 ds) m := by
  rintro _ m Φ Ψ ⟨a, size, held, full, w, rfl, ha, bh, bw, hw, k⟩
  refine ⟨_, _, ha, bf_held, w, held, rfl, bw, bh, qif_t (decide_eq_true (cmp_pos.mpr hw)) ?_⟩
  exact fun x hx => wk_at (k x hx)
theorem len_law_short (A : Adr) : ∀ ds m Φ, sp_law_short A ds m Φ → ds.length = 2 := by rintro _ _ _ ⟨_, _, _, _, _, rfl, _⟩; rfl
theorem rd_law_short (A : Adr) : ∀ ds m Φ, sp_law_short A ds m Φ → qb_law_short A (bodyW Φ) (begin_ 3 ds) m := by
  rintro _ m Φ ⟨a, size, held, full, w, rfl, ha, bh, bw, hw, k⟩
  refine ⟨bufF size held full, ha, rfl, a, size, held, full, w, rfl, ha, bh, bw, hw, fun x hx => ⟨rfl, fun e he => ?_⟩⟩
  obtain ⟨hex, he⟩ := mset_none he
  refine ⟨rfl, rfl, x, [("amount", am w)], am w, rfl, mset_same, rfl, ?_⟩
  refine ⟨am w, rfl, flatT_am _ _, ?_⟩
  refine qif_t rfl ⟨rfl, rfl, x, [("amount", am w)], rfl, mset_same, ?_⟩
  exact ⟨m, MLe.drop hx, k⟩
theorem len_law_buffer_looks (A : Adr) : ∀ ds m Φ, sp_law_buffer_looks A ds m Φ → ds.length = 1 := by rintro _ _ _ ⟨_, _, _, _, _, rfl, _⟩; rfl
theorem rd_law_buffer_looks (A : Adr) : ∀ ds m Φ, sp_law_buffer_looks A ds m Φ → qb_law_buffer_looks A (bodyW Φ) (begin_ 5 ds) m := by
  rintro _ m Φ ⟨s, b, here, most, top, rfl, hs, hb, k⟩
  unfold qb_law_buffer_looks
  iterate 4
    walk_at "st"
    refine k_ixr hs rfl ?_
  walk_at "st"
  refine ⟨⟨_, hb⟩, b, top, here, most, rfl, hb, ?_⟩
  walk_at "st"
  refine ⟨am here, rfl, flat_am _ _, ?_⟩
  walk_at "st"
  refine ⟨⟨_, hb⟩, b, top, here, most, rfl, hb, ?_⟩
  walk_at "st"
  refine ⟨am most, rfl, flat_am _ _, ?_⟩
  walk_at "st"
  refine ⟨_, _, hb, bf_size, ?_⟩
  walk_at "st"
  refine ⟨am top, rfl, flat_am _ _, ?_⟩
  walk_at "st"
  exact wk_at k
theorem len_Wire_copy (A : Adr) : ∀ ds m Φ, sp_Wire_copy A ds m Φ → ds.length = 1 := by rintro _ _ _ ⟨_, _, _, _, rfl, _⟩; rfl
theorem rd_Wire_copy (A : Adr) : ∀ ds m Φ, sp_Wire_copy A ds m Φ → qb_Wire_copy A (bodyW Φ) (begin_ 2 ds) m := by
  rintro _ m Φ ⟨h, d, way, t, rfl, hp, k⟩
  refine ⟨_, _, hp.ob, wf_way, fun a ha => ?_⟩
  refine ⟨a, way, rfl, mset_same, fun d0 m0 hd0 hp0 kp => ?_⟩
  have kp1 : ∀ b o, m b = some o → m0 b = some o := fun b o e => kp b o (ne_none e ha) (by rw [mset_ne (ne_none e ha)]; exact e)
  refine ⟨_, _, kp1 _ _ hp.ob, wf_sent, _, .inl (kp1 _ _ hp.dc), fun p hpn => ?_⟩
  have hap : a ≠ p := ne_none hp0.ob hpn
  have hmp : m p = none := by
    cases e : m p with
    | none => rfl
    | some o => rw [kp1 p o e] at hpn; cases hpn
  refine ⟨_, by rw [mset_ne hap]; exact hp0.ob, by show 2 < 1000; decide, wk_at (k a p _ hap ha hmp ⟨mset_same, by rw [mset_ne (Ne.symm hap), mset_same]⟩ ?_)⟩
  intro b o _ e
  rw [mset_ne (ne_none e ha), mset_ne (ne_none e hmp)]
  exact kp1 b o e
theorem len_Buffer_copy (A : Adr) : ∀ ds m Φ, sp_Buffer_copy A ds m Φ → ds.length = 1 := by rintro _ _ _ ⟨_, _, _, _, rfl, _⟩; rfl
theorem rd_Buffer_copy (A : Adr) : ∀ ds m Φ, sp_Buffer_copy A ds m Φ → qb_Buffer_copy A (bodyW Φ) (begin_ 2 ds) m := by
  rintro _ m Φ ⟨b, size, held, full, rfl, hb, k⟩
  refine ⟨_, _, hb, bf_size, fun a ha => ?_⟩
  refine ⟨a, size, rfl, mset_same, fun m0 hb0 kp => ?_⟩
  have kp1 : ∀ b o, m b = some o → m0 b = some o := fun b o e => kp b o (ne_none e ha) (by rw [mset_ne (ne_none e ha)]; exact e)
  refine ⟨_, _, kp1 _ _ hb, bf_held, _, hb0, by show 3 < 1000; decide, ?_⟩
  rw [bf_sh]
  refine ⟨_, _, by rw [mset_ne (ne_none hb ha)]; exact kp1 _ _ hb, bf_full, _, mset_same, by show 3 < 1000; decide, ?_⟩
  rw [bf_sf, mset_mset]
  refine ⟨mset m a (.ins A.Buffer (bufF size held full)), fun c o e => ?_, k a ha⟩
  by_cases hc : c = a
  · subst hc
    rw [mset_same] at e ⊢
    exact ⟨_, e, .inl rfl⟩
  · rw [mset_ne hc] at e ⊢
    exact ⟨_, kp1 c o e, .inl rfl⟩
def SW (b w t : Addr) (way tk : Int) (q : Rat) (o7 o8 o9 : Option D) : DSt := [some (.ref b), some (.tup [.ref w, .ref t, .int way]), some (.ref w), some (.ref t), some (.int way), some (.int tk), some (am q), o7, o8, o9, none]
theorem ok30 {q : Rat} {n : Nat} (h : Okb 30 n q) (e : n ≤ 30) : Okb 30 30 q := h.up e
theorem len_law_wire_deed (A : Adr) : ∀ ds m Φ, sp_law_wire_deed A ds m Φ → ds.length = 2 := by rintro _ _ _ ⟨_, _, _, _, _, _, _, rfl, _⟩; rfl
theorem rd_law_wire_deed (A : Adr) : ∀ ds m Φ, sp_law_wire_deed A ds m Φ → qb_law_wire_deed A (bodyW Φ) (begin_ 11 ds) m := by
  rintro _ m Φ ⟨b, w, d, t, way, T, n, rfl, hb, hw, ht, hdt, ok, hn, w0, w1, k⟩
  unfold qb_law_wire_deed
  walk_at "st"
  refine ⟨b, 24, rfl, hb, by decide, by decide, fun x x0 x1 => ?_⟩
  walk_at "st"
  refine ⟨b, 30, rfl, hb, by decide, fun q hq => ?_⟩
  walk_at "st"
  refine ⟨b, 3, rfl, hb, by decide, by decide, fun y y0 y1 => ?_⟩
  walk_at "st"
  refine k_mid (fun s1 m1 => s1 = SW b w t way (x - way) q none none none ∧ ∃ T', Keeps m m1 (fun z => z = d ∨ z = t) ∧ WireAt A.Wire m1 w d way T' ∧ m1 t = some (.dK (tabD T')) ∧ TOk (n + 1) T') (fun _ E' hE => ?_) (fun _ => ⟨rfl, T, fun _ _ _ e => e, hw, ht, ok.up (Nat.le_succ n)⟩) ?_
  · walk_at "st"
    refine ⟨_, hw.ob, rfl, ?_⟩
    walk_at "st"
    refine ⟨w, d, way, x - way, T, q, rfl, hw, by have := ok.len; omega, fun m1 hw1 k1 => ?_⟩
    walk_at "st"
    refine qif_f rfl ?_
    walk_at "st"
    have ht1 : m1 t = some (.dK (tabD T)) := k1 _ _ (Ne.symm hdt) ht
    refine k_subD ht1 rfl (by rw [tabD_len]; have := ok.len; exact sz' (by omega)) ?_
    rw [tab_put]
    refine hE _ _ ⟨rfl, _, fun z o hz e => ?_, ⟨?_, ?_⟩, mset_same, ok.put _ hq⟩
    · rw [mset_ne (fun h => hz (.inr h))]
      exact k1 _ _ (fun h => hz (.inl h)) e
    · rw [mset_ne (ne_obj hw1.ob ht1 (fun z => by cases z))]
      exact hw1.ob
    · rw [mset_ne hdt]
      exact hw1.dc
  rintro s1 m1 ⟨rfl, T', kp, hw1, ht1, ok1⟩
  have hb1 : m1 b = some (.any BagP) := kp _ _ (fun h => h.elim (ne_obj hb hw.dc (fun z => by cases z)) (ne_obj hb ht (fun z => by cases z))) hb
  have hl := ok1.len
  walk_at "st"
  refine ⟨by decide, by decide, fun i s' m' => m' = m1 ∧ ∃ o7 o8 o9, s' = SW b w t way (x - way) q o7 o8 o9, ⟨rfl, _, _, _, rfl⟩, fun _ _ _ _ _ => trivial, ?_, ?_⟩
  · rintro i dd s' m' hd ⟨rfl, o7, o8, o9, rfl⟩
    refine k_atn ?_
    walk_at "st"
    refine k_ic (cm_r w0 (by omega)) ?_
    walk_at "st"
    refine ⟨b, 2 * way + 4, rfl, hb1, by omega, by omega, fun y y0 y1 => ?_⟩
    walk_at "st"
    refine ⟨_, hw1.ob, rfl, ?_⟩
    walk_at "st"
    generalize hnow : x - way + y - 2 = now
    refine ⟨w, d, way, now, T', rfl, hw1, ?_⟩
    walk_at "st"
    refine ⟨⟨_, .inl ht1⟩, ?_⟩
    walk_at "st"
    refine ⟨_, ⟨_, .inl (now - way), .inl ht1, rfl, rfl⟩, ?_⟩
    walk_at "st"
    refine ⟨am (PA.atT T' (now - way)), by rw [tab_get, getD_am]; rfl, flat_am _ _, ?_⟩
    walk_at "st"
    refine k_sums (fun p => decide (now - way < p.1) && decide (p.1 ≤ now)) ht1 ok1.nd (by omega) rfl (fun _ => rfl) (fun _ => rfl) (fun p hp m2 Q hQ => ?_) ?_
    · walk_at "st"
      by_cases h1 : now - way < p.1
      · refine qif_t (decide_eq_true h1) ?_
        walk_at "st"
        rw [decide_eq_true h1] at hQ
        exact hQ
      · refine qif_f (decide_eq_false h1) ?_
        rw [decide_eq_false h1] at hQ
        exact hQ
    walk_at "st"
    refine ⟨(T'.filter fun p => decide (now - way < p.1) && decide (p.1 ≤ now)).map (·.2), 30, 30, rfl, fun z hz => ?_, ?_, by decide, by decide, by decide, ?_⟩
    · obtain ⟨p, hp, rfl⟩ := List.mem_map.mp hz
      exact ok1.ok p (List.mem_filter.mp hp).1
    · rw [List.length_map]
      exact Nat.le_trans (List.length_filter_le _ _) (by omega)
    walk_at "st"
    refine ⟨_, hw1.ob, rfl, ?_⟩
    walk_at "st"
    refine ⟨w, d, way, now, T', 30, 30, rfl, hw1, ok1.ok, by decide, by decide, by decide, w0, by omega, by omega, by omega, ?_⟩
    have ef : (fun p : Int × Rat => decide (now - way < p.1) && decide (p.1 ≤ now)) = inW (now - way) (now + 1) := by
      funext p
      unfold inW
      congr 1
      exact decide_eq_decide.mpr ⟨fun h => by omega, fun h => by omega⟩
    have et : total ((T'.filter fun p : Int × Rat => decide (now - way < p.1) && decide (p.1 ≤ now)).map (·.2)) = PA.under T' way now := by
      rw [under_taken ok1.nd w0, ef]; rfl
    walk_at "st"
    refine ⟨am (PA.under T' way now), by rw [et], flat_am _ _, ?_⟩
    walk_at "st"
    exact ⟨rfl, _, _, _, rfl⟩
  · rintro s' m' ⟨rfl, o7, o8, o9, rfl⟩
    walk_at "st"
    exact wk_at (k m' T' kp hw1 ht1 ok1)
def SH (b s h t : Addr) (late way age tk : Int) (q : Rat) (o9 o10 o11 o12 : Option D) : DSt := [some (.ref b), some (.ref s), some (.ref h), some (.ref t), some (.int late), some (.int way), some (.int age), some (am q), some (.int tk), o9, o10, o11, o12, none]
theorem len_law_hop_deed (A : Adr) : ∀ ds m Φ, sp_law_hop_deed A ds m Φ → ds.length = 2 := by rintro _ _ _ ⟨_, _, _, _, _, _, _, _, _, _, _, rfl, _⟩; rfl
theorem rd_law_hop_deed (A : Adr) : ∀ ds m Φ, sp_law_hop_deed A ds m Φ → qb_law_hop_deed A (bodyW Φ) (begin_ 14 ds) m := by
  rintro _ m Φ ⟨b, s, h, d, t, late, way, age, P, L, n, rfl, hb, S, ok, hn, w0, w1, a0, a1, k⟩
  have hsd := S.sd
  unfold qb_law_hop_deed
  iterate 5
    walk_at "st"
    refine k_ixr hsd rfl ?_
  walk_at "st"
  refine ⟨b, 30, rfl, hb, by decide, fun q hq => ?_⟩
  walk_at "st"
  refine k_neg ?_
  walk_at "st"
  refine ⟨1, rfl, ?_⟩
  walk_at "st"
  refine ⟨b, way + age, rfl, hb, by omega, by omega, fun y y0 y1 => ?_⟩
  walk_at "st"
  refine ⟨b, _, hb, by simp, by show 6 < 1000000; decide, .inl rfl, fun x hx => ?_⟩
  obtain ⟨j, rfl⟩ : ∃ j, x = .int j := by
    simp only [List.mem_cons, List.not_mem_nil, or_false] at hx
    rcases hx with rfl | rfl | rfl | rfl | rfl | rfl <;> exact ⟨_, rfl⟩
  walk_at "st"
  generalize htk : late + j = tk
  refine ⟨_, S.hp.ob, rfl, ?_⟩
  walk_at "st"
  refine ⟨h, d, way, age, tk, P, q, rfl, S.hp, by have := ok.p.len; omega, ok.p.nd, fun d' m1 hd' hp1 k1 => ?_⟩
  walk_at "st"
  refine qif_f rfl ?_
  walk_at "st"
  have hth : t ≠ h := ne_obj S.tb S.hp.ob (fun z => by cases z)
  have hsh : s ≠ h := ne_obj S.sd S.hp.ob (fun z => by cases z)
  have hsD : s ≠ d := ne_obj S.sd S.hp.dc (fun z => by cases z)
  have hst : s ≠ t := ne_obj S.sd S.tb (fun z => by cases z)
  have ht1 : m1 t = some (.dK (tabD L)) := k1 _ _ (fun z => z.elim hth (fun z => S.dt z.symm)) S.tb
  have hs1 : m1 s = some (.lst (sideH h t late way age)) := k1 _ _ (fun z => z.elim hsh hsD) S.sd
  have d't : d' ≠ t := Ne.symm (ne_none S.tb hd')
  have d's : d' ≠ s := Ne.symm (ne_none S.sd hd')
  refine k_subD ht1 rfl (by rw [tabD_len]; have := ok.l.len; exact sz' (by omega)) ?_
  rw [tab_put]
  walk_at "st"
  refine k_max2 ?_
  walk_at "st"
  refine k_subL (by rw [mset_ne hst]; exact hs1) (j := 2) rfl ?_
  have es : (sideH h t late way age).set 2 (.int (max late tk)) = sideH h t (max late tk) way age := rfl
  rw [es]
  have S2 : HopS A (mset (mset m1 t (.dK (tabD (putT L tk q)))) s (.lst (sideH h t (max late tk) way age))) s h d' t (max late tk) way age (putT (P.filter (cutF (tk - age - way))) tk q) (putT L tk q) :=
    ⟨mset_same, ⟨by rw [mset_ne (Ne.symm hsh), mset_ne (Ne.symm hth)]; exact hp1.ob, by rw [mset_ne d's, mset_ne d't]; exact hp1.dc⟩, by rw [mset_ne (Ne.symm hst), mset_same], d't⟩
  have kp : Keeps m (mset (mset m1 t (.dK (tabD (putT L tk q)))) s (.lst (sideH h t (max late tk) way age))) (fun z => z = s ∨ z = h ∨ z = d ∨ z = t) := fun z o hz e => by
    rw [mset_ne (fun e => hz (.inl e)), mset_ne (fun e => hz (.inr (.inr (.inr e))))]
    exact k1 z o (fun e => e.elim (fun e => hz (.inr (.inl e))) fun e => hz (.inr (.inr (.inl e)))) e
  have ok2 := ok.put tk hq
  have hb2 := kp b _ (fun z => z.elim (ne_obj hb S.sd (fun z => by cases z)) fun z => z.elim (ne_obj hb S.hp.ob (fun z => by cases z)) fun z => z.elim (ne_obj hb S.hp.dc (fun z => by cases z)) (ne_obj hb S.tb (fun z => by cases z))) hb
  generalize mset (mset m1 t (.dK (tabD (putT L tk q)))) s (.lst (sideH h t (max late tk) way age)) = m2 at S2 kp hb2
  generalize putT (P.filter (cutF (tk - age - way))) tk q = P' at S2 ok2
  generalize putT L tk q = L' at S2 ok2
  generalize max late tk = lt' at S2 ok2
  have hl := ok2.l.len
  have hlp := ok2.p.len
  walk_at "st"
  refine ⟨by decide, by decide, fun i s' m' => m' = m2 ∧ ∃ o9 o10 o11 o12, s' = SH b s h t late way age tk q o9 o10 o11 o12, ⟨rfl, _, _, _, _, rfl⟩, fun _ _ _ _ _ => trivial, ?_, ?_⟩
  · rintro i dd s' m' hd ⟨rfl, o9, o10, o11, o12, rfl⟩
    refine k_atn ?_
    walk_at "st"
    refine k_ixr S2.sd rfl ?_
    walk_at "st"
    refine ⟨b, way + age + 3, rfl, hb2, by omega, by omega, fun y1 y10 y11 => ?_⟩
    walk_at "st"
    generalize hlo : lt' - way - age + y1 = lo
    refine ⟨b, way + age + 3, rfl, hb2, by omega, by omega, fun y2 y20 y21 => ?_⟩
    walk_at "st"
    generalize hhi : lo + y2 - 1 = hi
    refine k_sums (inW lo hi) S2.tb ok2.l.nd (by omega) rfl (fun _ => rfl) (fun _ => rfl) (fun p hp m3 Q hQ => ?_) ?_
    · unfold inW at hQ
      walk_at "st"
      by_cases h1 : lo < p.1
      · refine qif_t (decide_eq_true h1) ?_
        walk_at "st"
        rw [decide_eq_true h1] at hQ
        exact hQ
      · refine qif_f (decide_eq_false h1) ?_
        rw [decide_eq_false h1] at hQ
        exact hQ
    walk_at "st"
    refine ⟨(L'.filter (inW lo hi)).map (·.2), 30, 30, rfl, fun z hz => ?_, ?_, by decide, by decide, by decide, ?_⟩
    · obtain ⟨p, hp, rfl⟩ := List.mem_map.mp hz
      exact ok2.l.ok p (List.mem_filter.mp hp).1
    · rw [List.length_map]
      exact Nat.le_trans (List.length_filter_le _ _) (by omega)
    walk_at "st"
    refine ⟨_, S2.hp.ob, rfl, ?_⟩
    walk_at "st"
    refine ⟨h, d', way, age, lo, hi, P', 30, 30, rfl, S2.hp, ok2.p.tab (by omega), by decide, by decide, by decide, ?_⟩
    have et : taken P' lo hi = total ((L'.filter (inW lo hi)).map (·.2)) := taken_same ok2.p.nd ok2.l.nd fun k hk => ok2.eq k (by omega)
    walk_at "st"
    refine ⟨am (taken P' lo hi), by rw [et], flat_am _ _, ?_⟩
    walk_at "st"
    exact ⟨rfl, _, _, _, _, rfl⟩
  · rintro s' m' ⟨rfl, o9, o10, o11, o12, rfl⟩
    walk_at "st"
    exact wk_at (k m' d' lt' P' L' kp hd' S2 ok2)
def SBf (b s a : Addr) (here most top : Rat) (how : Int) (one : Rat) (o8 o9 : Option D) : DSt := [some (.ref b), some (.ref s), some (.ref a), some (am here), some (am most), some (am top), some (.int how), some (am one), o8, o9]
theorem okNb {n M : Nat} {q : Rat} (h : Okb (NB n) M q) : Okb (NB (n + 1)) M q := by rw [NB_succ]; exact h.wide 30
theorem len_law_buffer_deed (A : Adr) : ∀ ds m Φ, sp_law_buffer_deed A ds m Φ → ds.length = 2 := by rintro _ _ _ ⟨_, _, _, _, _, _, _, rfl, _⟩; rfl
theorem nb30 (n : Nat) : ∃ k, NB n = 30 * k := ⟨1000000000000000000000000 * 30 ^ n, by unfold NB; rw [← Nat.mul_assoc]⟩
theorem ok_some {n M : Nat} {q : Rat} (h : Okb 30 M q) (hM : M ≤ 1000000) : Okb (NB n) 1000000 q := by
  obtain ⟨k, e⟩ := nb30 n
  rw [e]
  exact (h.up hM).wide k
theorem rd_law_buffer_deed (A : Adr) : ∀ ds m Φ, sp_law_buffer_deed A ds m Φ → qb_law_buffer_deed A (bodyW Φ) (begin_ 10 ds) m := by
  rintro _ m Φ ⟨b, s, a, here, most, top, n, rfl, hb, hs, ha, ok, hn, k⟩
  have N0 := NB_pos n
  have NL : (NB n).log2 < 1000 := NB_log (by omega)
  have M0 := NB_pos (n + 1)
  have ML : (NB (n + 1)).log2 < 1000 := NB_log (by omega)
  have bh : Bg here := ok.h.bg N0 (by omega) (by decide)
  have bt : Bg top := ok.t.bg N0 (by omega) (by decide)
  have bm : Bg most := ok.m.bg N0 (by omega) (by decide)
  have hsa : s ≠ a := ne_obj hs ha (fun z => by cases z)
  unfold qb_law_buffer_deed
  iterate 4
    walk_at "st"
    refine k_ixr hs rfl ?_
  walk_at "st"
  refine ⟨b, 6, rfl, hb, by decide, by decide, fun how h0 h6 => ?_⟩
  walk_at "st"
  refine ⟨b, 9, rfl, hb, by decide, fun q1 hq1 => ?_⟩
  walk_at "st"
  refine ⟨b, 30, rfl, hb, by decide, fun q2 hq2 => ?_⟩
  walk_at "st"
  refine ⟨top, here, rfl, ok.t.nn, ok.h.nn, bt, bh, ?_⟩
  walk_at "st"
  refine ⟨b, _, hb, by simp, by show 4 < 1000000; decide, .inl rfl, fun x hx => ?_⟩
  obtain ⟨one, rfl, ho⟩ : ∃ one, x = am one ∧ Okb (NB n) 1000000 one := by
    simp only [List.mem_cons, List.not_mem_nil, or_false] at hx
    rcases hx with rfl | rfl | rfl | rfl
    · exact ⟨_, rfl, ok_some hq1 (by decide)⟩
    · exact ⟨_, rfl, ok_some hq2 (by decide)⟩
    · exact ⟨0, am0.symm, Okb.zero _ _⟩
    · exact ⟨_, rfl, rest_ok ok.t ok.h.nn ok.h.dn⟩
  have bo : Bg one := ho.bg N0 (by omega) (by decide)
  refine k_parI ?_
  dsimp only
  refine k_seqI (t := sIf _ _ _) (fun s1 m1 => ∃ here' o8 o9, s1 = SBf b s a here most top how one o8 o9 ∧ m1 s = some (.lst (sideB a here' most top)) ∧ BufAt A.Buffer m1 a top here' (mx most here') ∧ Keeps m m1 (fun z => z = s ∨ z = a) ∧ Okb (NB (n + 1)) 1000000 here' ∧ here' ≤ top) (fun E' hE => ?_) ?_
  · walk_at "st"
    refine qif (fun _ => ?_) (fun _ => ?_)
    · walk_at "st"
      refine ⟨here, one, rfl, ok.h.nn, ho.nn, bh, bo, ?_⟩
      have of := ok.h.add ho
      have bf : Bg (here + one) := of.bg N0 (by omega) (by decide)
      walk_at "st"
      refine ⟨_, ha, rfl, ?_⟩
      walk_at "st"
      refine ⟨a, top, here, most, one, NB n, 1000000, rfl, ha, ok.h, ho, N0, by omega, by decide, bt, bm, fun m1 ha1 k1 => ?_⟩
      walk_at "st"
      refine ⟨here + one, top, rfl, of.nn, ok.t.nn, bf, bt, ?_⟩
      walk_at "st"
      refine ⟨am (L4.rest (here + one) top), rfl, flat_am _ _, ?_⟩
      walk_at "st"
      refine ⟨here + one, top, rfl, bf, bt, ?_⟩
      have hs1 : m1 s = some (.lst (sideB a here most top)) := k1 _ _ hsa hs
      have lt : mn (here + one) top ≤ top := by unfold mn; split <;> grind
      have om : Okb (NB n) 1000000 (mn (here + one) top) := by
        unfold mn
        split
        · exact ok.t
        · rename_i h
          exact ⟨of.nn, Rat.le_trans (by grind) ok.t.le, of.dn⟩
      walk_at "st"
      refine k_subL hs1 (j := 1) rfl ?_
      refine hE _ _ ⟨mn (here + one) top, _, _, rfl, mset_same, ?_, fun z o hz e => ?_, okNb om, lt⟩
      · exact (mset_ne (Ne.symm hsa)).trans ha1
      · rw [mset_ne (fun e => hz (.inl e))]
        exact k1 _ _ (fun e => hz (.inr e)) e
    walk_at "st"
    refine qif (fun _ => ?_) (fun _ => ?_)
    · walk_at "st"
      refine ⟨b, here, rfl, hb, ok.h.nn, bh, fun p p0 p1 pd => ?_⟩
      have op : Okb (NB (n + 1)) 1000000 p := ⟨p0, Rat.le_trans p1 ok.h.le, by rw [NB_succ]; exact pd _ ok.h.dn⟩
      have bp : Bg p := op.bg M0 (by omega) (by decide)
      walk_at "st"
      refine ⟨_, ha, rfl, ?_⟩
      walk_at "st"
      refine ⟨a, top, here, most, p, rfl, ha, bh, bp, p1, fun m1 ha1 k1 => ?_⟩
      walk_at "st"
      refine qif_f rfl ?_
      walk_at "st"
      refine ⟨here, p, rfl, ok.h.nn, p0, bh, bp, ?_⟩
      rw [rest_pos p1]
      have hs1 : m1 s = some (.lst (sideB a here most top)) := k1 _ _ hsa hs
      have oh := okNb (n := n) ok.h
      walk_at "st"
      refine k_subL hs1 (j := 1) rfl ?_
      refine hE _ _ ⟨here - p, _, _, rfl, mset_same, ?_, fun z o hz e => ?_, ⟨by grind, by have := ok.h.le; grind, oh.dn.sub op.dn⟩, by have := ok.ht; grind⟩
      · have e : mx most (here - p) = most := by
          unfold mx
          rw [if_neg]
          have := ok.hm
          grind
        rw [e]
        exact (mset_ne (Ne.symm hsa)).trans ha1
      · rw [mset_ne (fun e => hz (.inl e))]
        exact k1 _ _ (fun e => hz (.inr e)) e
    walk_at "st"
    refine qif (fun _ => ?_) (fun _ => ?_)
    · walk_at "st"
      have e1000 : D.tup [.int 1, .int 1000] = am (divInt 1 1000) := by
        have : (divInt 1 1000).num = 1 ∧ (divInt 1 1000).den = 1000 := by decide +kernel
        show _ = D.tup [.int (divInt 1 1000).num, .int (divInt 1 1000).den]
        rw [this.1, this.2]; rfl
      rw [e1000]
      have o1000 : Okb 1000 1000000 (divInt 1 1000) := ⟨by decide +kernel, by decide +kernel, Dn.of (by decide) 1 (by decide)⟩
      have b1000 : Bg (divInt 1 1000) := o1000.bg (by decide) (by decide) (by decide)
      refine ⟨one, divInt 1 1000, rfl, bo, b1000, ?_⟩
      have ox : Okb (NB n * 1000) 1000000 (mx one (divInt 1 1000)) := mx_ok (ho.wide 1000) (by rw [Nat.mul_comm]; exact o1000.wide _)
      have px : 0 < mx one (divInt 1 1000) := by
        have h1 : (0 : Rat) < divInt 1 1000 := by decide +kernel
        unfold mx
        split
        · exact h1
        · have := ho.nn; grind
      have X0 : 0 < NB n * 1000 := Nat.mul_pos N0 (by decide)
      have XL : (NB n * 1000).log2 < 1100 := by
        have := log2_mul (NB n) 1000
        have : Nat.log2 1000 < 20 := by decide
        omega
      have bx : Bg (mx one (divInt 1 1000)) := ox.bg X0 (by omega) (by decide)
      walk_at "st"
      refine ⟨here, mx one (divInt 1 1000), rfl, ok.h.nn, ox.nn, bh, bx, ?_⟩
      walk_at "st"
      refine ⟨a, top, here, most, here + mx one (divInt 1 1000), rfl, ha, bh, ((ok.h.wide 1000).add ox).bg X0 (by omega) (by decide), by grind, ?_⟩
      walk_at "st"
      have e : mx most here = most := by
        unfold mx
        rw [if_neg]
        have := ok.hm
        grind
      exact hE _ _ ⟨here, _, _, rfl, hs, by rw [e]; exact ha, fun _ _ _ e => e, okNb ok.h, ok.ht⟩
    · walk_at "st"
      refine ⟨b, top, rfl, hb, ok.t.nn, bt, fun p p0 p1 pd => ?_⟩
      have op : Okb (NB (n + 1)) 1000000 p := ⟨p0, Rat.le_trans p1 ok.t.le, by rw [NB_succ]; exact pd _ ok.t.dn⟩
      have bp : Bg p := op.bg M0 (by omega) (by decide)
      walk_at "st"
      refine ⟨_, ha, rfl, ?_⟩
      walk_at "st"
      refine ⟨a, top, here, most, p, rfl, ha, bm, bp, fun m1 ha1 k1 => ?_⟩
      walk_at "st"
      refine qif_f rfl ?_
      have hs1 : m1 s = some (.lst (sideB a here most top)) := k1 _ _ hsa hs
      walk_at "st"
      refine k_subL hs1 (j := 1) rfl ?_
      refine hE _ _ ⟨p, _, _, rfl, mset_same, (mset_ne (Ne.symm hsa)).trans ha1, fun z o hz e => ?_, op, p1⟩
      rw [mset_ne (fun e => hz (.inl e))]
      exact k1 _ _ (fun e => hz (.inr e)) e
  rintro s1 m1 ⟨here', o8, o9, rfl, hs1, ha1, k1, oh, lt⟩
  have bh' : Bg here' := oh.bg M0 (by omega) (by decide)
  walk_at "st"
  refine k_ixr hs1 rfl ?_
  walk_at "st"
  refine ⟨most, here', rfl, bm, bh', ?_⟩
  walk_at "st"
  refine k_subL hs1 (j := 2) rfl ?_
  walk_at "st"
  refine wk_at (k _ here' (mx most here') (fun z o hz e => ?_) mset_same ((mset_ne (Ne.symm hsa)).trans ha1) ⟨oh, okNb ok.t, mx_ok (okNb ok.m) oh, lt, ?_⟩)
  · rw [mset_ne (fun e => hz (.inl e))]
    exact k1 _ _ hz e
  · unfold mx
    split <;> grind
end K31
/-! K31_H: the sides: wires, hops, buffers, each with what is its own -/
namespace K31
open PySem PySem.Spec PyProof.Rows L2 L3 L4 PA
open C13 (BagP)
inductive Sd where
  | W (w d t : Addr) (T : Tab)
  | H (s h d t : Addr) (late : Int) (P L : Tab)
  | B (s b : Addr) (here most : Rat)
def foot : Sd → List Addr
  | .W w d t _ => [w, d, t]
  | .H s h d t _ _ _ => [s, h, d, t]
  | .B s b _ _ => [s, b]
def kd : Sd → Nat
  | .W .. => 0
  | .H .. => 1
  | .B .. => 2
def dOf (way : Int) : Sd → D
  | .W w _ t _ => .tup [.ref w, .ref t, .int way]
  | .H s .. => .ref s
  | .B s .. => .ref s
def Ok (A : Adr) (way age : Int) (top : Rat) (n : Nat) (m : Mem) : Sd → Prop
  | .W w d t T => WireAt A.Wire m w d way T ∧ m t = some (.dK (tabD T)) ∧ d ≠ t ∧ TOk n T
  | .H s h d t late P L => HopS A m s h d t late way age P L ∧ HOk n late way age P L
  | .B s b here most => m s = some (.lst (sideB b here most top)) ∧ BufAt A.Buffer m b top here most ∧ BOk n here most top
section
variable {A : Adr} {way age : Int} {top : Rat} {n n' : Nat} {m m' : Mem} {own own' : Addr → Nat × Nat} {k i : Nat} {x x' : Sd} {xs : List Sd}
theorem BOk.up {here most : Rat} (h : BOk n here most top) : BOk (n + 1) here most top := ⟨okNb h.h, okNb h.t, okNb h.m, h.ht, h.hm⟩
theorem Ok.up1 (h : Ok A way age top n m x) : Ok A way age top (n + 1) m x := by
  cases x with
  | W w d t T => exact ⟨h.1, h.2.1, h.2.2.1, h.2.2.2.up (Nat.le_succ n)⟩
  | H s h' d t late P L => exact ⟨h.1, h.2.p.up (Nat.le_succ n), h.2.l.up (Nat.le_succ n), h.2.eq⟩
  | B s b here most => exact ⟨h.1, h.2.1, h.2.2.up⟩
theorem Ok.keep (h : Ok A way age top n m x) (kp : ∀ a ∈ foot x, ∀ o, m a = some o → m' a = some o) : Ok A way age top n m' x := by
  cases x with
  | W w d t T =>
    obtain ⟨h1, h2, h3, h4⟩ := h
    exact ⟨⟨kp w (by simp [foot]) _ h1.ob, kp d (by simp [foot]) _ h1.dc⟩, kp t (by simp [foot]) _ h2, h3, h4⟩
  | H s h' d t late P L =>
    obtain ⟨h1, h2⟩ := h
    exact ⟨⟨kp s (by simp [foot]) _ h1.sd, ⟨kp h' (by simp [foot]) _ h1.hp.ob, kp d (by simp [foot]) _ h1.hp.dc⟩, kp t (by simp [foot]) _ h1.tb, h1.dt⟩, h2⟩
  | B s b here most =>
    obtain ⟨h1, h2, h3⟩ := h
    exact ⟨kp s (by simp [foot]) _ h1, kp b (by simp [foot]) _ h2, h3⟩
theorem Ok.some (h : Ok A way age top n m x) : ∀ a ∈ foot x, ∃ o, m a = some o := by
  cases x with
  | W w d t T =>
    obtain ⟨h1, h2, h3, h4⟩ := h
    intro a ha
    simp only [foot, List.mem_cons, List.not_mem_nil, or_false] at ha
    rcases ha with rfl | rfl | rfl
    · exact ⟨_, h1.ob⟩
    · exact ⟨_, h1.dc⟩
    · exact ⟨_, h2⟩
  | H s h' d t late P L =>
    obtain ⟨h1, h2⟩ := h
    intro a ha
    simp only [foot, List.mem_cons, List.not_mem_nil, or_false] at ha
    rcases ha with rfl | rfl | rfl | rfl
    · exact ⟨_, h1.sd⟩
    · exact ⟨_, h1.hp.ob⟩
    · exact ⟨_, h1.hp.dc⟩
    · exact ⟨_, h1.tb⟩
  | B s b here most =>
    obtain ⟨h1, h2, h3⟩ := h
    intro a ha
    simp only [foot, List.mem_cons, List.not_mem_nil, or_false] at ha
    rcases ha with rfl | rfl
    · exact ⟨_, h1⟩
    · exact ⟨_, h2⟩
/-- fresh addresses belong to v from now on -/
def tag (m : Mem) (v : Nat × Nat) (own : Addr → Nat × Nat) : Addr → Nat × Nat := fun a => if (m a).isNone = true then v else own a
theorem tag_some {v : Nat × Nat} {a : Addr} {o : AO} (h : m a = some o) : tag m v own a = own a := by unfold tag; rw [h]; rfl
theorem tag_none {v : Nat × Nat} {a : Addr} (h : m a = none) : tag m v own a = v := by unfold tag; rw [h]; rfl
structure All (A : Adr) (way age : Int) (top : Rat) (n : Nat) (m : Mem) (own : Addr → Nat × Nat) (k : Nat) (xs : List Sd) : Prop where
  hkd : ∀ (i : Nat) (x : Sd), xs[i]? = some x → kd x = k
  ok : ∀ (i : Nat) (x : Sd), xs[i]? = some x → Ok A way age top n m x
  own : ∀ (i : Nat) (x : Sd), xs[i]? = some x → ∀ a ∈ foot x, own a = (k, i)
theorem All.keep (h : All A way age top n m own k xs) (kp : ∀ a o, (own a).1 = k → m a = some o → m' a = some o) (e : ∀ a o, m a = some o → own' a = own a) : All A way age top n m' own' k xs :=
  ⟨h.hkd, fun i x hx => (h.ok i x hx).keep fun a ha o z => kp a o (by rw [h.own i x hx a ha]) z, fun i x hx a ha => by
    obtain ⟨o, z⟩ := (h.ok i x hx).some a ha
    rw [e a o z]; exact h.own i x hx a ha⟩
theorem All.set (h : All A way age top n m own k xs) (hx : xs[i]? = some x) (kp : ∀ a o, a ∉ foot x → m a = some o → m' a = some o) (ok' : Ok A way age top (n + 1) m' x') (hk : kd x' = k) (hf : ∀ a ∈ foot x', a ∈ foot x ∨ m a = none) :
    All A way age top (n + 1) m' (tag m (k, i) own) k (xs.set i x') := by
  have hi : i < xs.length := (List.getElem?_eq_some_iff.mp hx).1
  have at_ : ∀ (j : Nat) (y : Sd), (xs.set i x')[j]? = some y → (j = i ∧ y = x') ∨ (j ≠ i ∧ xs[j]? = some y) := fun j y hy => by
    rw [List.getElem?_set] at hy
    by_cases e : i = j
    · rw [if_pos e, if_pos hi] at hy
      exact .inl ⟨e.symm, (Option.some.inj hy).symm⟩
    · rw [if_neg e] at hy
      exact .inr ⟨fun z => e z.symm, hy⟩
  refine ⟨fun j y hy => ?_, fun j y hy => ?_, fun j y hy a ha => ?_⟩
  · rcases at_ j y hy with ⟨_, rfl⟩ | ⟨_, z⟩
    · exact hk
    · exact h.hkd j y z
  · rcases at_ j y hy with ⟨_, rfl⟩ | ⟨e, z⟩
    · exact ok'
    · refine ((h.ok j y z).keep fun a ha o za => kp a o (fun hax => ?_) za).up1
      have h1 := h.own j y z a ha
      have h2 := h.own i x hx a hax
      rw [h1] at h2
      exact e (Prod.mk.inj h2).2
  · rcases at_ j y hy with ⟨rfl, rfl⟩ | ⟨e, z⟩
    · rcases hf a ha with hax | hn
      · obtain ⟨o, zo⟩ := (h.ok j x hx).some a hax
        rw [tag_some zo]
        exact h.own j x hx a hax
      · exact tag_none hn
    · obtain ⟨o, zo⟩ := (h.ok j y z).some a ha
      rw [tag_some zo]
      exact h.own j y z a ha
theorem All.push (h : All A way age top n m own k xs) (kp : ∀ a o, (own a).1 = k → m a = some o → m' a = some o) (ok' : Ok A way age top n m' x') (hk : kd x' = k) (hf : ∀ a ∈ foot x', m a = none) :
    All A way age top n m' (tag m (k, xs.length) own) k (xs ++ [x']) := by
  have at_ : ∀ (j : Nat) (y : Sd), (xs ++ [x'])[j]? = some y → (j = xs.length ∧ y = x') ∨ xs[j]? = some y := fun j y hy => by
    rw [List.getElem?_append] at hy
    split at hy
    · exact .inr hy
    · rename_i e
      have hj : j - xs.length = 0 := by
        have := (List.getElem?_eq_some_iff.mp hy).1
        simp only [List.length_cons, List.length_nil] at this
        omega
      rw [hj] at hy
      exact .inl ⟨by omega, (Option.some.inj hy).symm⟩
  refine ⟨fun j y hy => ?_, fun j y hy => ?_, fun j y hy a ha => ?_⟩
  · rcases at_ j y hy with ⟨_, rfl⟩ | z
    · exact hk
    · exact h.hkd j y z
  · rcases at_ j y hy with ⟨_, rfl⟩ | z
    · exact ok'
    · exact (h.ok j y z).keep fun a ha o za => kp a o (by rw [h.own j y z a ha]) za
  · rcases at_ j y hy with ⟨rfl, rfl⟩ | z
    · exact tag_none (hf a ha)
    · obtain ⟨o, zo⟩ := (h.ok j y z).some a ha
      rw [tag_some zo]
      exact h.own j y z a ha
theorem All.nil : All A way age top n m own k [] := ⟨fun _ _ h => by simp at h, fun _ _ h => by simp at h, fun _ _ h => by simp at h⟩
end
/-- a fixed cell: of nobody -/
structure Cell (m : Mem) (own : Addr → Nat × Nat) (a : Addr) (o : AO) : Prop where
  at_ : m a = some o
  own : (own a).1 = 3
structure Sts (A : Adr) (way age : Int) (top : Rat) (b lw lh lb : Addr) (own : Addr → Nat × Nat) (c nw nh nb : Nat) (ws hs bs : List Sd) (m : Mem) : Prop where
  bag : Cell m own b (.any BagP)
  cw : Cell m own lw (.lst (ws.map (dOf way)))
  ch : Cell m own lh (.lst (hs.map (dOf way)))
  cb : Cell m own lb (.lst (bs.map (dOf way)))
  n1 : lw ≠ lh
  n2 : lw ≠ lb
  n3 : lh ≠ lb
  W : All A way age top nw m own 0 ws
  H : All A way age top nh m own 1 hs
  B : All A way age top nb m own 2 bs
  c1 : ws.length ≤ c
  c2 : hs.length ≤ c
  c3 : bs.length ≤ c
section
variable {A : Adr} {way age : Int} {top : Rat} {b lw lh lb : Addr} {own : Addr → Nat × Nat} {c nw nh nb : Nat} {ws hs bs : List Sd} {m m' : Mem} {i : Nat} {x x' : Sd}
theorem Cell.keep {own' : Addr → Nat × Nat} {a : Addr} {o : AO} (h : Cell m own a o) (e : m' a = some o) (ho : ∀ a o, m a = some o → own' a = own a) : Cell m' own' a o := ⟨e, by rw [ho a _ h.at_]; exact h.own⟩
theorem map_set {f : Sd → D} {xs : List Sd} (hx : xs[i]? = some x) (e : f x' = f x) : (xs.set i x').map f = xs.map f := by
  apply List.ext_getElem?
  intro j
  rw [List.getElem?_map, List.getElem?_map, List.getElem?_set]
  by_cases h : i = j
  · subst h
    rw [if_pos rfl, if_pos (List.getElem?_eq_some_iff.mp hx).1, hx]
    show some (f x') = some (f x)
    rw [e]
  · rw [if_neg h]
/-- a deed at one side -/
theorem Sts.deed0 (S : Sts A way age top b lw lh lb own c nw nh nb ws hs bs m) (hx : ws[i]? = some x) (kp : ∀ a o, a ∉ foot x → m a = some o → m' a = some o) (ok' : Ok A way age top (nw + 1) m' x') (hk : kd x' = 0) (hd : dOf way x' = dOf way x) (hf : ∀ a ∈ foot x', a ∈ foot x ∨ m a = none) :
    ∃ own', Sts A way age top b lw lh lb own' c (nw + 1) nh nb (ws.set i x') hs bs m' := by
  have cl : ∀ {a : Addr} {o : AO}, Cell m own a o → Cell m' (tag m (0, i) own) a o := fun {a o} h => h.keep (kp a o (fun z => by
    have := S.W.own i x hx a z
    have h3 := h.own
    rw [this] at h3
    exact absurd h3 (by decide : ¬ (0 : Nat) = 3)) h.at_) fun a o z => tag_some z
  have oth : ∀ {j : Nat} {n : Nat} {xs : List Sd}, j ≠ 0 → All A way age top n m own j xs → All A way age top n m' (tag m (0, i) own) j xs := fun {j n xs} hj h => h.keep (fun a o ha z => kp a o (fun hz => by
    have := S.W.own i x hx a hz
    rw [this] at ha
    exact hj ha.symm) z) fun a o z => tag_some z
  exact ⟨_, cl S.bag, by rw [map_set hx hd]; exact cl S.cw, cl S.ch, cl S.cb, S.n1, S.n2, S.n3, S.W.set hx kp ok' hk hf, oth (by decide) S.H, oth (by decide) S.B, by rw [List.length_set]; exact S.c1, S.c2, S.c3⟩
theorem Sts.deed1 (S : Sts A way age top b lw lh lb own c nw nh nb ws hs bs m) (hx : hs[i]? = some x) (kp : ∀ a o, a ∉ foot x → m a = some o → m' a = some o) (ok' : Ok A way age top (nh + 1) m' x') (hk : kd x' = 1) (hd : dOf way x' = dOf way x) (hf : ∀ a ∈ foot x', a ∈ foot x ∨ m a = none) :
    ∃ own', Sts A way age top b lw lh lb own' c nw (nh + 1) nb ws (hs.set i x') bs m' := by
  have cl : ∀ {a : Addr} {o : AO}, Cell m own a o → Cell m' (tag m (1, i) own) a o := fun {a o} h => h.keep (kp a o (fun z => by
    have := S.H.own i x hx a z
    have h3 := h.own
    rw [this] at h3
    exact absurd h3 (by decide : ¬ (1 : Nat) = 3)) h.at_) fun a o z => tag_some z
  have oth : ∀ {j : Nat} {n : Nat} {xs : List Sd}, j ≠ 1 → All A way age top n m own j xs → All A way age top n m' (tag m (1, i) own) j xs := fun {j n xs} hj h => h.keep (fun a o ha z => kp a o (fun hz => by
    have := S.H.own i x hx a hz
    rw [this] at ha
    exact hj ha.symm) z) fun a o z => tag_some z
  exact ⟨_, cl S.bag, cl S.cw, by rw [map_set hx hd]; exact cl S.ch, cl S.cb, S.n1, S.n2, S.n3, oth (by decide) S.W, S.H.set hx kp ok' hk hf, oth (by decide) S.B, S.c1, by rw [List.length_set]; exact S.c2, S.c3⟩
theorem Sts.deed2 (S : Sts A way age top b lw lh lb own c nw nh nb ws hs bs m) (hx : bs[i]? = some x) (kp : ∀ a o, a ∉ foot x → m a = some o → m' a = some o) (ok' : Ok A way age top (nb + 1) m' x') (hk : kd x' = 2) (hd : dOf way x' = dOf way x) (hf : ∀ a ∈ foot x', a ∈ foot x ∨ m a = none) :
    ∃ own', Sts A way age top b lw lh lb own' c nw nh (nb + 1) ws hs (bs.set i x') m' := by
  have cl : ∀ {a : Addr} {o : AO}, Cell m own a o → Cell m' (tag m (2, i) own) a o := fun {a o} h => h.keep (kp a o (fun z => by
    have := S.B.own i x hx a z
    have h3 := h.own
    rw [this] at h3
    exact absurd h3 (by decide : ¬ (2 : Nat) = 3)) h.at_) fun a o z => tag_some z
  have oth : ∀ {j : Nat} {n : Nat} {xs : List Sd}, j ≠ 2 → All A way age top n m own j xs → All A way age top n m' (tag m (2, i) own) j xs := fun {j n xs} hj h => h.keep (fun a o ha z => kp a o (fun hz => by
    have := S.B.own i x hx a hz
    rw [this] at ha
    exact hj ha.symm) z) fun a o z => tag_some z
  exact ⟨_, cl S.bag, cl S.cw, cl S.ch, by rw [map_set hx hd]; exact cl S.cb, S.n1, S.n2, S.n3, oth (by decide) S.W, oth (by decide) S.H, S.B.set hx kp ok' hk hf, S.c1, S.c2, by rw [List.length_set]; exact S.c3⟩
/-- a further side -/
theorem Sts.push0 (S : Sts A way age top b lw lh lb own c nw nh nb ws hs bs m) (kp : Grows m m') (ok' : Ok A way age top nw m' x') (hk : kd x' = 0) (hf : ∀ a ∈ foot x', m a = none) (hc : ws.length + 1 ≤ c) :
    ∃ own', Sts A way age top b lw lh lb own' c nw nh nb (ws ++ [x']) hs bs (mset m' lw (.lst (ws.map (dOf way) ++ [dOf way x']))) := by
  have le : ∀ {a : Addr} {o : AO}, a ≠ lw → m a = some o → mset m' lw (.lst (ws.map (dOf way) ++ [dOf way x'])) a = some o := fun {a o} h z => by rw [mset_ne h]; exact kp.at z
  have nl : ∀ {a : Addr} {k : Nat}, (own a).1 = k → k ≠ 3 → a ≠ lw := fun {a k} h hk z => by
    rw [z, S.cw.own] at h
    exact hk h.symm
  have tg : ∀ (a : Addr) (o : AO), m a = some o → tag m (0, ws.length) own a = own a := fun a o z => tag_some z
  have oth : ∀ {j : Nat} {n : Nat} {xs : List Sd}, j ≠ 3 → All A way age top n m own j xs → All A way age top n (mset m' lw (.lst (ws.map (dOf way) ++ [dOf way x']))) (tag m (0, ws.length) own) j xs := fun {j n xs} hj h => h.keep (fun a o ha z => le (nl ha hj) z) tg
  have okx : Ok A way age top nw (mset m' lw (.lst (ws.map (dOf way) ++ [dOf way x']))) x' := ok'.keep fun a ha o z => by
    rw [mset_ne (fun e => by
      have := hf a ha
      rw [e, S.cw.at_] at this
      cases this)]
    exact z
  refine ⟨_, S.bag.keep (le (ne_obj S.bag.at_ S.cw.at_ (fun z => by cases z)) S.bag.at_) tg, ⟨by rw [mset_same, List.map_append]; rfl, by rw [tg _ _ S.cw.at_]; exact S.cw.own⟩, S.ch.keep (le (Ne.symm S.n1) S.ch.at_) tg, S.cb.keep (le (Ne.symm S.n2) S.cb.at_) tg, S.n1, S.n2, S.n3,
    S.W.push (fun a o ha z => le (nl ha (by decide)) z) okx hk hf, oth (by decide) S.H, oth (by decide) S.B, ?_, S.c2, S.c3⟩
  rw [List.length_append]
  exact hc
theorem Sts.push1 (S : Sts A way age top b lw lh lb own c nw nh nb ws hs bs m) (kp : Grows m m') (ok' : Ok A way age top nh m' x') (hk : kd x' = 1) (hf : ∀ a ∈ foot x', m a = none) (hc : hs.length + 1 ≤ c) :
    ∃ own', Sts A way age top b lw lh lb own' c nw nh nb ws (hs ++ [x']) bs (mset m' lh (.lst (hs.map (dOf way) ++ [dOf way x']))) := by
  have le : ∀ {a : Addr} {o : AO}, a ≠ lh → m a = some o → mset m' lh (.lst (hs.map (dOf way) ++ [dOf way x'])) a = some o := fun {a o} h z => by rw [mset_ne h]; exact kp.at z
  have nl : ∀ {a : Addr} {k : Nat}, (own a).1 = k → k ≠ 3 → a ≠ lh := fun {a k} h hk z => by
    rw [z, S.ch.own] at h
    exact hk h.symm
  have tg : ∀ (a : Addr) (o : AO), m a = some o → tag m (1, hs.length) own a = own a := fun a o z => tag_some z
  have oth : ∀ {j : Nat} {n : Nat} {xs : List Sd}, j ≠ 3 → All A way age top n m own j xs → All A way age top n (mset m' lh (.lst (hs.map (dOf way) ++ [dOf way x']))) (tag m (1, hs.length) own) j xs := fun {j n xs} hj h => h.keep (fun a o ha z => le (nl ha hj) z) tg
  have okx : Ok A way age top nh (mset m' lh (.lst (hs.map (dOf way) ++ [dOf way x']))) x' := ok'.keep fun a ha o z => by
    rw [mset_ne (fun e => by
      have := hf a ha
      rw [e, S.ch.at_] at this
      cases this)]
    exact z
  refine ⟨_, S.bag.keep (le (ne_obj S.bag.at_ S.ch.at_ (fun z => by cases z)) S.bag.at_) tg, S.cw.keep (le S.n1 S.cw.at_) tg, ⟨by rw [mset_same, List.map_append]; rfl, by rw [tg _ _ S.ch.at_]; exact S.ch.own⟩, S.cb.keep (le (Ne.symm S.n3) S.cb.at_) tg, S.n1, S.n2, S.n3,
    oth (by decide) S.W, S.H.push (fun a o ha z => le (nl ha (by decide)) z) okx hk hf, oth (by decide) S.B, S.c1, ?_, S.c3⟩
  rw [List.length_append]
  exact hc
theorem Sts.push2 (S : Sts A way age top b lw lh lb own c nw nh nb ws hs bs m) (kp : Grows m m') (ok' : Ok A way age top nb m' x') (hk : kd x' = 2) (hf : ∀ a ∈ foot x', m a = none) (hc : bs.length + 1 ≤ c) :
    ∃ own', Sts A way age top b lw lh lb own' c nw nh nb ws hs (bs ++ [x']) (mset m' lb (.lst (bs.map (dOf way) ++ [dOf way x']))) := by
  have le : ∀ {a : Addr} {o : AO}, a ≠ lb → m a = some o → mset m' lb (.lst (bs.map (dOf way) ++ [dOf way x'])) a = some o := fun {a o} h z => by rw [mset_ne h]; exact kp.at z
  have nl : ∀ {a : Addr} {k : Nat}, (own a).1 = k → k ≠ 3 → a ≠ lb := fun {a k} h hk z => by
    rw [z, S.cb.own] at h
    exact hk h.symm
  have tg : ∀ (a : Addr) (o : AO), m a = some o → tag m (2, bs.length) own a = own a := fun a o z => tag_some z
  have oth : ∀ {j : Nat} {n : Nat} {xs : List Sd}, j ≠ 3 → All A way age top n m own j xs → All A way age top n (mset m' lb (.lst (bs.map (dOf way) ++ [dOf way x']))) (tag m (2, bs.length) own) j xs := fun {j n xs} hj h => h.keep (fun a o ha z => le (nl ha hj) z) tg
  have okx : Ok A way age top nb (mset m' lb (.lst (bs.map (dOf way) ++ [dOf way x']))) x' := ok'.keep fun a ha o z => by
    rw [mset_ne (fun e => by
      have := hf a ha
      rw [e, S.cb.at_] at this
      cases this)]
    exact z
  refine ⟨_, S.bag.keep (le (ne_obj S.bag.at_ S.cb.at_ (fun z => by cases z)) S.bag.at_) tg, S.cw.keep (le S.n2 S.cw.at_) tg, S.ch.keep (le S.n3 S.ch.at_) tg, ⟨by rw [mset_same, List.map_append]; rfl, by rw [tg _ _ S.cb.at_]; exact S.cb.own⟩, S.n1, S.n2, S.n3,
    oth (by decide) S.W, oth (by decide) S.H, S.B.push (fun a o ha z => le (nl ha (by decide)) z) okx hk hf, S.c1, S.c2, ?_⟩
  rw [List.length_append]
  exact hc
theorem Sts.up (S : Sts A way age top b lw lh lb own c nw nh nb ws hs bs m) {c' : Nat} (h : c ≤ c') : Sts A way age top b lw lh lb own c' nw nh nb ws hs bs m := ⟨S.bag, S.cw, S.ch, S.cb, S.n1, S.n2, S.n3, S.W, S.H, S.B, Nat.le_trans S.c1 h, Nat.le_trans S.c2 h, Nat.le_trans S.c3 h⟩
theorem Cell.grow {v : Nat × Nat} {a : Addr} {o : AO} (h : Cell m own a o) (g : Grows m m') : Cell m' (tag m v own) a o := h.keep (g.at h.at_) fun a o z => tag_some z
theorem Cell.new {p : Addr} {o : AO} (hp : m p = none) : Cell (mset m p o) (tag m (3, 0) own) p o := ⟨mset_same, by rw [tag_none hp]⟩
theorem All.grow {n k : Nat} {xs : List Sd} {v : Nat × Nat} (h : All A way age top n m own k xs) (g : Grows m m') : All A way age top n m' (tag m v own) k xs := h.keep (fun a o _ z => g.at z) fun a o z => tag_some z
theorem grows_new {a : Addr} {o : AO} (ha : m a = none) (k : Keeps (mset m a o) m' (fun b => b = a)) : Grows m m' := fun b o' _ e => k b o' (ne_none e ha) (by rw [mset_ne (ne_none e ha)]; exact e)
theorem grows_set {a : Addr} {o : AO} (ha : m a = none) : Grows m (mset m a o) := (Keeps.refl m).new ha
theorem set_at {xs : List Sd} (hx : xs[i]? = some x) : (xs.set i x')[i]? = some x' := by rw [List.getElem?_set, if_pos rfl, if_pos (List.getElem?_eq_some_iff.mp hx).1]
theorem mem_at {f : Sd → D} {xs : List Sd} {d : D} (h : d ∈ xs.map f) : ∃ (i : Nat) (x : Sd), xs[i]? = some x ∧ d = f x := by
  obtain ⟨x, hx, e⟩ := List.mem_map.mp h
  obtain ⟨i, hi⟩ := List.mem_iff_getElem?.mp hx
  exact ⟨i, x, hi, e.symm⟩
theorem ne_nil {f : Sd → D} {xs : List Sd} (h : 0 < xs.length) : xs.map f ≠ [] := fun e => by
  have := congrArg List.length e
  rw [List.length_map] at this
  simp only [List.length_nil] at this
  omega
theorem kd0 (h : kd x = 0) : ∃ w d t T, x = .W w d t T := by
  cases x with
  | W w d t T => exact ⟨_, _, _, _, rfl⟩
  | H => cases h
  | B => cases h
theorem kd1 (h : kd x = 1) : ∃ s p d t late P L, x = .H s p d t late P L := by
  cases x with
  | H s p d t late P L => exact ⟨_, _, _, _, _, _, _, rfl⟩
  | W => cases h
  | B => cases h
theorem kd2 (h : kd x = 2) : ∃ s p here most, x = .B s p here most := by
  cases x with
  | B s p here most => exact ⟨_, _, _, _, rfl⟩
  | W => cases h
  | H => cases h
end
end K31
namespace K31
open PySem PySem.Spec PyProof.Rows L2 L3 L4 PA
open Rat (divInt)
open C13 (BagP)
local macro_rules | `(tactic| walk_at "st") => `(tactic| repeat (first
  | (with_reducible refine k_var (by with_unfolding_all rfl) ?_)
  | (with_reducible refine k_seq ?_)
  | (with_reducible refine k_cons ?_)
  | (with_reducible refine k_nil ?_)
  | (with_reducible refine k_c ?_)
  | (with_reducible refine k_op ?_)
  | (with_reducible refine k_asg ?_)
  | (with_reducible refine k_call ?_)
  | (with_reducible refine k_cb ?_)
  | (with_reducible refine k_i0 ?_)
  | (with_reducible refine k_addI ?_)
  | (with_reducible refine k_B ?_)
  | (with_reducible refine k_bk ?_)
  | (with_reducible refine k_if ?_)
  | (with_reducible refine k_ret ?_)
  | (with_reducible refine k_expr ?_)
  | (with_reducible refine k_next ?_)
  | (with_reducible refine k_not ?_)
  | (with_reducible refine k_and ?_)
  | (with_reducible refine k_or ?_)
  | (with_reducible refine k_ift ?_)
  | (with_reducible refine k_iff ?_)
  | (with_reducible refine k_ifnt ?_)
  | (with_reducible refine k_ifnf ?_)
  | (with_reducible refine k_fz ?_)
  | (with_reducible refine k_lc ?_)
  | (with_reducible refine k_dc ?_)
  | (with_reducible refine k_for ?_)
  | (with_reducible refine k_rng ?_)
  | (with_reducible refine k_iL ?_)
  | (with_reducible refine k_iLl ?_)
  | (with_reducible refine k_iT ?_)
  | (with_reducible refine k_iTt ?_)
  | (with_reducible refine k_zip ?_)
  | (with_reducible refine k_asgp ?_)
  | (with_reducible refine k_atn ?_)
  | (with_reducible refine k_par ?_)
  | (with_reducible refine k_parI ?_)
  | (with_reducible refine k_par3 ?_)
  | (with_reducible refine k_par3I ?_)
  | (with_reducible refine k_sub ?_)
  | (with_reducible refine k_andV ?_)
  | (with_reducible refine k_orV ?_)
  | (with_reducible refine k_notV ?_)
  | (with_reducible refine k_ifE ?_)
  | (with_reducible refine k_chain ?_)
  | (with_reducible refine k_am0 ?_)
  | (with_reducible refine k_am1 ?_)
  | (with_reducible refine k_int ?_)
  | (with_reducible refine k_eqI ?_)
  | (with_reducible refine k_neI ?_)
  | (with_reducible refine k_eqB ?_)
  | (with_reducible refine k_neB ?_)
  | (with_reducible refine k_iaddI ?_)
  | (with_reducible refine k_lenT ?_)
  | (with_reducible refine k_lenL ?_)
  | (with_reducible refine k_tru ?_)
  | (with_reducible refine k_cont ?_)
  | (with_reducible refine k_brk ?_)
  | (with_reducible refine k_retN ?_)
  | (with_reducible refine k_callK ?_)
  | (with_reducible refine k_callS1 ?_)
  | (with_reducible refine k_star ?_)
  | (with_reducible refine k_itL ?_)
  | (with_reducible refine k_itT ?_)
  | (with_reducible refine k_isi ?_)
  | (with_reducible refine k_isiT ?_)
  | (with_reducible refine k_bm ?_)
  | (with_reducible refine k_tup ?_)
  | (with_reducible refine k_lstF ?_)
  | (with_reducible refine k_lstM ?_)
  | (with_reducible refine k_aug (by with_unfolding_all rfl) ?_)
  | (with_reducible refine k_iSv (by with_unfolding_all rfl) ?_)
  | (with_reducible refine k_ixt (by with_unfolding_all rfl) ?_)
  | (with_reducible refine k_at (by with_unfolding_all rfl) ?_)
  | (with_reducible refine k_fzn ‹_› ?_)
  | (refine And.intro (by exact sz (by simp <;> omega)) ?_)
  | fail))
theorem len_law : ∀ ds m Φ, lspLaw ds m Φ → ds.length = 1 := by rintro _ _ _ ⟨_, rfl, _⟩; rfl
def SL (ns : List Int) (b : Addr) (way age : Int) (top : Rat) (lw lh lb : Addr) (o8 o9 o10 o11 o12 o13 : Option D) : DSt := [some (.lst (ns.map D.int)), some (.ref b), some (.int way), some (.int age), some (am top), some (.ref lw), some (.ref lh), some (.ref lb), o8, o9, o10, o11, o12, o13]
theorem top_ok {x : D} {n25 n24 : Int} (h25 : n25 = 10 ^ 25) (h24 : n24 = 10 ^ 24) (hx : x ∈ [D.tup [.int 0, .int 1], D.tup [.int 1000000, .int 1], D.tup [.int (n25 + 1), .int (3 * n24)]]) : ∃ top : Rat, x = am top ∧ Okb (NB 0) 1000000 top := by
  have e0 : NB 0 = 30000000000000000000000000 := rfl
  simp only [List.mem_cons, List.not_mem_nil, or_false] at hx
  rcases hx with rfl | rfl | rfl
  · exact ⟨0, am0.symm, Okb.zero _ _⟩
  · refine ⟨((1000000 : Int) : Rat), (am1 1000000).symm, by decide, by decide, ?_⟩
    rw [e0]
    exact ⟨1000000 * 30000000000000000000000000, by decide +kernel⟩
  · refine ⟨divInt 10000000000000000000000001 3000000000000000000000000, ?_, by decide +kernel, by decide +kernel, ?_⟩
    · have h1 : (divInt 10000000000000000000000001 3000000000000000000000000).num = 10000000000000000000000001 ∧ (divInt 10000000000000000000000001 3000000000000000000000000).den = 3000000000000000000000000 := by decide +kernel
      show _ = D.tup [.int (divInt 10000000000000000000000001 3000000000000000000000000).num, .int (divInt 10000000000000000000000001 3000000000000000000000000).den]
      rw [h1.1, h1.2, h25, h24]
      rfl
    · rw [e0]
      exact Dn.of (by decide) 10 (by decide)
theorem rd_law (A : Adr) : ∀ ds m Φ, lspLaw ds m Φ → qb_law A (bodyW Φ) (begin_ 14 ds) m := by
  rintro _ m Φ ⟨ns, rfl, hl, hm, k⟩
  unfold qb_law
  walk_at "st"
  refine ⟨ns, rfl, hl, fun b hb => ?_⟩
  have bag0 : mset m b (.any BagP) b = some (.any BagP) := mset_same
  generalize mset m b (.any BagP) = m0 at *
  walk_at "st"
  refine ⟨b, _, bag0, by simp, by decide, .inl rfl, fun x hx => ?_⟩
  obtain ⟨way, rfl, w1, w2⟩ : ∃ way : Int, x = .int way ∧ 1 ≤ way ∧ way ≤ 20 := by
    simp only [List.mem_cons, List.not_mem_nil, or_false] at hx
    rcases hx with rfl | rfl | rfl | rfl | rfl <;> exact ⟨_, rfl, by decide, by decide⟩
  walk_at "st"
  refine ⟨b, _, bag0, by simp, by decide, .inl rfl, fun x hx => ?_⟩
  obtain ⟨age, rfl, a1, a2⟩ : ∃ age : Int, x = .int age ∧ 1 ≤ age ∧ age ≤ 12 := by
    simp only [List.mem_cons, List.not_mem_nil, or_false] at hx
    rcases hx with rfl | rfl | rfl | rfl <;> exact ⟨_, rfl, by decide, by decide⟩
  walk_at "st"
  refine ⟨b, 30, rfl, bag0, by decide, fun top0 ht0 => ?_⟩
  refine k_par3I ?_
  dsimp only
  refine k_seqI (t := sIf _ _ _) (fun s1 m1 => m1 = m0 ∧ ∃ top, s1 = [some (.lst (ns.map D.int)), some (.ref b), some (.int way), some (.int age), some (am top), none, none, none, none, none, none, none, none, none] ∧ Okb (NB 0) 1000000 top) (fun E' hE => ?_) ?_
  · walk_at "st"
    refine ⟨b, 8, rfl, bag0, by decide, by decide, fun y y0 y1 => ?_⟩
    walk_at "st"
    refine qif (fun _ => ?_) (fun _ => ?_)
    · walk_at "st"
      refine ⟨⟨by decide, by decide, by decide⟩, fun n25 h25 => ?_⟩
      walk_at "st"
      refine ⟨⟨by decide, by decide, by decide⟩, fun n24 h24 => ?_⟩
      walk_at "st"
      refine k_ic (cm_l (by decide) (by decide)) ?_
      walk_at "st"
      refine ⟨b, _, bag0, by simp, by show 3 < 1000000; decide, .inl rfl, fun x hx => ?_⟩
      obtain ⟨top, rfl, ot⟩ := top_ok h25 h24 hx
      walk_at "st"
      exact hE _ _ ⟨rfl, top, rfl, ot⟩
    · walk_at "st"
      exact hE _ _ ⟨rfl, top0, rfl, ok_some ht0 (by decide)⟩
  rintro s1 m1 ⟨rfl, top, rfl, ot⟩
  walk_at "st"
  -- the first wire
  refine k_make ?_
  walk_at "st"
  intro w hw
  refine ⟨w, way, rfl, mset_same, fun d mA hd hwA kA => ?_⟩
  dsimp only
  have GA := grows_new hw kA
  have hd1 := (mset_none hd).2
  walk_at "st"
  refine k_dnew fun t ht => ?_
  have GB : Grows m1 (mset mA t (.dK [])) := GA.new ht
  have htw : t ≠ w := Ne.symm (ne_none hwA.ob ht)
  have htd : t ≠ d := Ne.symm (ne_none hwA.dc ht)
  have nt : m1 t = none := by
    cases e : m1 t with
    | none => rfl
    | some o => rw [GA.at e] at ht; cases ht
  have okW : Ok A way age top 0 (mset mA t (.dK [])) (.W w d t []) := ⟨⟨by rw [mset_ne (Ne.symm htw)]; exact hwA.ob, by rw [mset_ne (Ne.symm htd)]; exact hwA.dc⟩, mset_same, Ne.symm htd, by simp, by simp, by simp⟩
  have bag1 : Cell m1 (fun _ => (3, 0)) b (.any BagP) := ⟨bag0, rfl⟩
  have bagB := bag1.grow (v := (0, 0)) GB
  have WB : All A way age top 0 (mset mA t (.dK [])) (tag m1 (0, 0) fun _ => (3, 0)) 0 [.W w d t []] := (All.nil (m := m1) (own := fun _ => (3, 0)) (k := 0)).push (fun a o h _ => by cases h) okW rfl fun a ha => by
    simp only [foot, List.mem_cons, List.not_mem_nil, or_false] at ha
    rcases ha with rfl | rfl | rfl <;> assumption
  generalize mset mA t (.dK []) = mB at *
  generalize (tag m1 (0, 0) fun _ => (3, 0)) = oB at *
  walk_at "st"
  intro lw hlw
  have bagC := bagB.grow (v := (3, 0)) (grows_set (o := .lst [.tup [.ref w, .ref t, .int way]]) hlw)
  have WC := WB.grow (v := (3, 0)) (grows_set (o := .lst [.tup [.ref w, .ref t, .int way]]) hlw)
  have cwC : Cell (mset mB lw (.lst [.tup [.ref w, .ref t, .int way]])) (tag mB (3, 0) oB) lw (.lst [.tup [.ref w, .ref t, .int way]]) := Cell.new hlw
  generalize mset mB lw (.lst [.tup [.ref w, .ref t, .int way]]) = mC at *
  generalize tag mB (3, 0) oB = oC at *
  -- the first hop
  walk_at "st"
  refine k_make ?_
  walk_at "st"
  intro h hh
  refine ⟨h, way, age, rfl, mset_same, fun hd mD hhd hpD kD => ?_⟩
  dsimp only
  have GD := grows_new hh kD
  have hd2 := (mset_none hhd).2
  walk_at "st"
  refine k_dnew fun ht hht => ?_
  have GE := GD.new (o := .dK []) hht
  walk_at "st"
  intro s hs
  have GF := GE.new (o := .lst (sideH h ht 0 way age)) hs
  obtain ⟨hsht, hs'⟩ := mset_none hs
  have fresh : ∀ {a : Addr}, mD a = none → mC a = none := fun {a} e => by
    cases z : mC a with
    | none => rfl
    | some o => rw [GD.at z] at e; cases e
  have n1 : ht ≠ h := Ne.symm (ne_none hpD.ob hht)
  have n2 : ht ≠ hd := Ne.symm (ne_none hpD.dc hht)
  have n3 : s ≠ h := Ne.symm (ne_none hpD.ob hs')
  have n4 : s ≠ hd := Ne.symm (ne_none hpD.dc hs')
  have eF : mset (mset mD ht (.dK [])) s (.lst [.ref h, .ref ht, .int 0, .int way, .int age]) = mset (mset mD ht (.dK [])) s (.lst (sideH h ht 0 way age)) := rfl
  rw [eF]
  have okH : Ok A way age top 0 (mset (mset mD ht (.dK [])) s (.lst (sideH h ht 0 way age))) (.H s h hd ht 0 [] []) :=
    ⟨⟨mset_same, ⟨by rw [mset_ne (Ne.symm n3), mset_ne (Ne.symm n1)]; exact hpD.ob, by rw [mset_ne (Ne.symm n4), mset_ne (Ne.symm n2)]; exact hpD.dc⟩, by rw [mset_ne (Ne.symm hsht), mset_same]; rfl, Ne.symm n2⟩,
      ⟨⟨by simp, by simp, by simp⟩, ⟨by simp, by simp, by simp⟩, fun _ _ => rfl⟩⟩
  have HF : All A way age top 0 (mset (mset mD ht (.dK [])) s (.lst (sideH h ht 0 way age))) (tag mC (1, 0) oC) 1 [.H s h hd ht 0 [] []] := (All.nil (m := mC) (own := oC) (k := 1)).push (fun a o _ e => GF.at e) okH rfl fun a ha => by
    simp only [foot, List.mem_cons, List.not_mem_nil, or_false] at ha
    rcases ha with rfl | rfl | rfl | rfl
    · exact fresh hs'
    · exact hh
    · exact hd2
    · exact fresh hht
  have bagF := bagC.grow (v := (1, 0)) GF
  have WF := WC.grow (v := (1, 0)) GF
  have cwF := cwC.grow (v := (1, 0)) GF
  generalize mset (mset mD ht (.dK [])) s (.lst (sideH h ht 0 way age)) = mF at *
  generalize tag mC (1, 0) oC = oF at *
  walk_at "st"
  intro lh hlh
  have n5 : lw ≠ lh := ne_none cwF.at_ hlh
  have g := grows_set (o := .lst [.ref s]) hlh
  have bagG := bagF.grow (v := (3, 0)) g
  have WG := WF.grow (v := (3, 0)) g
  have HG := HF.grow (v := (3, 0)) g
  have cwG := cwF.grow (v := (3, 0)) g
  have chG : Cell (mset mF lh (.lst [.ref s])) (tag mF (3, 0) oF) lh (.lst [.ref s]) := Cell.new hlh
  generalize mset mF lh (.lst [.ref s]) = mG at *
  generalize tag mF (3, 0) oF = oG at *
  walk_at "st"
  intro lb hlb
  have n6 : lw ≠ lb := ne_none cwG.at_ hlb
  have n7 : lh ≠ lb := ne_none chG.at_ hlb
  have g := grows_set (o := .lst []) hlb
  have S0 : Sts A way age top b lw lh lb (tag mG (3, 0) oG) 1 0 0 0 [.W w d t []] [.H s h hd ht 0 [] []] [] (mset mG lb (.lst [])) :=
    ⟨bagG.grow g, cwG.grow g, chG.grow g, Cell.new hlb, n5, n6, n7, WG.grow g, HG.grow g, All.nil, by simp, by simp, by simp⟩
  generalize mset mG lb (.lst []) = mH at *
  generalize tag mG (3, 0) oG = oH at *
  -- the first buffer
  refine k_par3I ?_
  walk_at "st"
  refine ⟨k_tyL S0.cb.at_, ?_⟩
  walk_at "st"
  refine k_make ?_
  walk_at "st"
  intro bf hbf
  refine ⟨bf, top, rfl, mset_same, fun mI hbI kI => ?_⟩
  dsimp only
  have GI := grows_new hbf kI
  walk_at "st"
  intro sb hsb
  have nb : bf ≠ sb := ne_none hbI hsb
  have eI : mset mI sb (.lst [.ref bf, .tup [.int 0, .int 1], .tup [.int 0, .int 1], am top]) = mset mI sb (.lst (sideB bf 0 0 top)) := by
    rw [show sideB bf 0 0 top = [.ref bf, .tup [.int 0, .int 1], .tup [.int 0, .int 1], am top] by unfold sideB; rw [am0]]
  rw [eI]
  have okB : Ok A way age top 0 (mset mI sb (.lst (sideB bf 0 0 top))) (.B sb bf 0 0) := ⟨mset_same, by
    show mset _ _ _ bf = _
    rw [mset_ne nb]; exact hbI, ⟨Okb.zero _ _, ot, Okb.zero _ _, ot.nn, Rat.le_refl⟩⟩
  have GJ := GI.new (o := .lst (sideB bf 0 0 top)) hsb
  have hsb' : mH sb = none := by
    cases z : mH sb with
    | none => rfl
    | some o => rw [GI.at z] at hsb; cases hsb
  obtain ⟨own, S1⟩ := S0.push2 (x' := .B sb bf 0 0) GJ okB rfl (fun a ha => by
    simp only [foot, List.mem_cons, List.not_mem_nil, or_false] at ha
    rcases ha with rfl | rfl <;> assumption) (by simp)
  walk_at "st"
  refine k_app (GJ.at S0.cb.at_) (by show 0 < 16777216; decide) ?_
  have e1 : ([] : List Sd) ++ [.B sb bf 0 0] = [.B sb bf 0 0] := rfl
  rw [e1] at S1
  have S1 : Sts A way age top b lw lh lb own 1 0 0 0 [.W w d t []] [.H s h hd ht 0 [] []] [.B sb bf 0 0] (mset (mset mI sb (.lst (sideB bf 0 0 top))) lb (.lst (List.map (dOf way) [] ++ [.ref sb]))) := S1
  generalize mset (mset mI sb (.lst (sideB bf 0 0 top))) lb (.lst (List.map (dOf way) [] ++ [.ref sb])) = m2 at *
  -- the first looks
  have okb := S1.B.ok 0 _ rfl
  have okh := S1.H.ok 0 _ rfl
  walk_at "st"
  refine k_ixr S1.cb.at_ rfl ?_
  walk_at "st"
  refine ⟨sb, bf, 0, 0, top, rfl, okb.1, okb.2.1, ?_⟩
  walk_at "st"
  refine k_meth ?_
  walk_at "st"
  refine k_ixr S1.ch.at_ rfl ?_
  walk_at "st"
  refine k_ixr okh.1.sd rfl ?_
  walk_at "st"
  refine k_methI okh.1.hp.ob rfl ?_
  refine k_cons (k_neg ?_)
  walk_at "st"
  refine ⟨3, rfl, ?_⟩
  walk_at "st"
  refine ⟨h, hd, way, age, -3, 9, [], 30, 30, rfl, okh.1.hp, okh.2.p.tab (by omega), by decide, by decide, by decide, ?_⟩
  walk_at "st"
  refine ⟨am 0, by rw [am0]; rfl, flat_am _ _, ?_⟩
  walk_at "st"
  refine ⟨b, 33, rfl, S1.bag.at_, by decide, by decide, fun y y0 y1 => ?_⟩
  walk_at "st"
  clear okb okh
  refine ⟨by omega, by omega, fun i s' m' => ∃ (own : Addr → Nat × Nat) (ws hs bs : List Sd) (o8 o9 o10 o11 o12 o13 : Option D), s' = SL ns b way age top lw lh lb o8 o9 o10 o11 o12 o13 ∧ Sts A way age top b lw lh lb own (i + 1) i i i ws hs bs m' ∧ 0 < ws.length ∧ 0 < hs.length ∧ 0 < bs.length, ⟨own, _, _, _, _, _, _, _, _, _, rfl, S1, by simp, by simp, by simp⟩, fun _ _ _ _ _ => trivial, ?_, ?_⟩
  · rintro i dd s' m' hd ⟨own, ws, hs, bs, o8, o9, o10, o11, o12, o13, rfl, S, pw, ph, pb⟩
    obtain ⟨hi, rfl⟩ := get_ints hd
    have hi : i < 41 := by omega
    refine k_atn ?_
    walk_at "st"
    refine ⟨b, ws.map (dOf way), S.bag.at_, ne_nil pw, by rw [List.length_map]; have := S.c1; omega, .inr ⟨lw, rfl, S.cw.at_⟩, fun x hx => ?_⟩
    obtain ⟨j, x, hj, rfl⟩ := mem_at hx
    obtain ⟨w, d, t, T, rfl⟩ := kd0 (S.W.hkd j x hj)
    obtain ⟨ow1, ow2, ow3, ow4⟩ := S.W.ok j _ hj
    dsimp only [dOf]
    walk_at "st"
    refine ⟨b, w, d, t, way, T, i, rfl, S.bag.at_, ow1, ow2, ow3, ow4, by omega, by omega, by omega, fun m1 T1 k1 hw1 ht1 ok1 => ?_⟩
    obtain ⟨own1, S1⟩ := S.deed0 (x' := .W w d t T1) (m' := m1) hj (fun a o ha z => k1 a o (fun h => ha (by rcases h with rfl | rfl <;> simp [foot])) z) ⟨hw1, ht1, ow3, ok1⟩ rfl rfl (fun a ha => .inl ha)
    have hj1 : (ws.set j (.W w d t T1))[j]? = some (.W w d t T1) := set_at hj
    have pw1 : 0 < (ws.set j (.W w d t T1)).length := by rw [List.length_set]; exact pw
    generalize ws.set j (.W w d t T1) = ws1 at *
    clear S k1
    walk_at "st"
    refine ⟨b, hs.map (dOf way), S1.bag.at_, ne_nil ph, by rw [List.length_map]; have := S1.c2; omega, .inr ⟨lh, rfl, S1.ch.at_⟩, fun x hx => ?_⟩
    obtain ⟨j2, x, hj2, rfl⟩ := mem_at hx
    obtain ⟨s, h, d2, t2, late, P, L, rfl⟩ := kd1 (S1.H.hkd j2 x hj2)
    obtain ⟨oh1, oh2⟩ := S1.H.ok j2 _ hj2
    dsimp only [dOf]
    walk_at "st"
    refine ⟨b, s, h, d2, t2, late, way, age, P, L, i, rfl, S1.bag.at_, oh1, oh2, by omega, by omega, by omega, by omega, by omega, fun m3 d' late' P' L' k3 hd' hp3 ok3 => ?_⟩
    obtain ⟨own2, S2⟩ := S1.deed1 (x' := .H s h d' t2 late' P' L') (m' := m3) hj2 (fun a o ha z => k3 a o (fun h => ha (by rcases h with rfl | rfl | rfl | rfl <;> simp [foot])) z) ⟨hp3, ok3⟩ rfl rfl (fun a ha => by
      simp only [foot, List.mem_cons, List.not_mem_nil, or_false] at ha ⊢
      rcases ha with rfl | rfl | rfl | rfl
      · exact .inl (.inl rfl)
      · exact .inl (.inr (.inl rfl))
      · exact .inr hd'
      · exact .inl (.inr (.inr (.inr rfl))))
    have ph1 : 0 < (hs.set j2 (.H s h d' t2 late' P' L')).length := by rw [List.length_set]; exact ph
    generalize hs.set j2 (.H s h d' t2 late' P' L') = hs1 at *
    clear S1 k3
    walk_at "st"
    refine ⟨b, bs.map (dOf way), S2.bag.at_, ne_nil pb, by rw [List.length_map]; have := S2.c3; omega, .inr ⟨lb, rfl, S2.cb.at_⟩, fun x hx => ?_⟩
    obtain ⟨j3, x, hj3, rfl⟩ := mem_at hx
    obtain ⟨sb, bf, here, most, rfl⟩ := kd2 (S2.B.hkd j3 x hj3)
    obtain ⟨ob1, ob2, ob3⟩ := S2.B.ok j3 _ hj3
    dsimp only [dOf]
    walk_at "st"
    refine ⟨b, sb, bf, here, most, top, i, rfl, S2.bag.at_, ob1, ob2, ob3, by omega, fun m4 here' most' k4 hs4 hb4 ok4 => ?_⟩
    obtain ⟨own3, S3⟩ := S2.deed2 (x' := .B sb bf here' most') (m' := m4) hj3 (fun a o ha z => k4 a o (fun h => ha (by rcases h with rfl | rfl <;> simp [foot])) z) ⟨hs4, hb4, ok4⟩ rfl rfl (fun a ha => .inl ha)
    have pb1 : 0 < (bs.set j3 (.B sb bf here' most')).length := by rw [List.length_set]; exact pb
    generalize bs.set j3 (.B sb bf here' most') = bs1 at *
    clear S2 k4
    walk_at "st"
    refine k_iLr S3.cb.at_ ?_
    refine k_lcF bs1 _ (fun _ => .bl true) (by have := S3.c3; omega) (fun a o ha => by rw [mset_ne (ne_none S3.cb.at_ ha)]; exact S3.cb.at_) (fun j4 x hx a o ha => ?_) ?_
    · obtain ⟨sb, bf, here, most, rfl⟩ := kd2 (S3.B.hkd j4 x hx)
      obtain ⟨q1, q2, q3⟩ := S3.B.ok j4 _ hx
      refine k_atn fun Q hQ => ?_
      walk_at "st"
      exact ⟨sb, bf, here, most, top, rfl, by rw [mset_ne (ne_none q1 ha)]; exact q1, (mset_ne (ne_none q2 ha)).trans q2, hQ⟩
    walk_at "st"
    refine k_all (bs := bs1.map fun _ => true) (by rw [List.map_map]; exact .inl rfl) ?_
    have eall : (bs1.map fun _ => true).all _root_.id = true := by simp
    rw [eall]
    walk_at "st"
    have out : ∀ (own : Addr → Nat × Nat) (ws hs bs : List Sd) (o8 o9 o10 o11 o12 o13 : Option D) (m' : Mem), Sts A way age top b lw lh lb own (i + 2) (i + 1) (i + 1) (i + 1) ws hs bs m' → 0 < ws.length → 0 < hs.length → 0 < bs.length →
        ∃ (own : Addr → Nat × Nat) (ws hs bs : List Sd) (p8 p9 p10 p11 p12 p13 : Option D), SL ns b way age top lw lh lb o8 o9 o10 o11 o12 o13 = SL ns b way age top lw lh lb p8 p9 p10 p11 p12 p13 ∧ Sts A way age top b lw lh lb own (i + 1 + 1) (i + 1) (i + 1) (i + 1) ws hs bs m' ∧ 0 < ws.length ∧ 0 < hs.length ∧ 0 < bs.length :=
      fun own ws hs bs o8 o9 o10 o11 o12 o13 m' S p1 p2 p3 => ⟨own, ws, hs, bs, _, _, _, _, _, _, rfl, S, p1, p2, p3⟩
    refine k_lenR S3.cw.at_ ?_
    walk_at "st"
    refine qif (fun _ => ?_) (fun _ => ?_)
    rotate_left
    · refine qif_f rfl ?_
      walk_at "st"
      exact out own3 ws1 hs1 bs1 _ _ _ _ _ _ m4 (S3.up (by omega)) pw1 ph1 pb1
    walk_at "st"
    refine ⟨b, 8, rfl, S3.bag.at_, by decide, by decide, fun z z0 z1 => ?_⟩
    walk_at "st"
    refine qif (fun _ => ?_) (fun _ => ?_)
    rotate_left
    · walk_at "st"
      exact out own3 ws1 hs1 bs1 _ _ _ _ _ _ m4 (S3.up (by omega)) pw1 ph1 pb1
    -- copies
    have c1 : ws1.length + 1 ≤ i + 2 := Nat.succ_le_succ S3.c1
    have c2 : hs1.length + 1 ≤ i + 2 := Nat.succ_le_succ S3.c2
    have c3 : bs1.length + 1 ≤ i + 2 := Nat.succ_le_succ S3.c3
    have S3 := S3.up (show i + 1 ≤ i + 2 by omega)
    have ow := S3.W.ok j _ hj1
    walk_at "st"
    refine ⟨k_tyL S3.cw.at_, ?_⟩
    walk_at "st"
    refine k_meth ?_
    walk_at "st"
    refine k_methI ow.1.ob rfl ?_
    walk_at "st"
    refine ⟨w, d, way, T1, rfl, ow.1, fun w' dd' m5 hne hw' hdd' hw5 g5 => ?_⟩
    walk_at "st"
    refine ⟨_, .inl (g5.at ow.2.1), fun t' ht' => ?_⟩
    have g6 : Grows m4 (mset m5 t' (.dK (tabD T1))) := g5.new ht'
    have ntw : t' ≠ w' := Ne.symm (ne_none hw5.ob ht')
    have ntd : t' ≠ dd' := Ne.symm (ne_none hw5.dc ht')
    have nt' : m4 t' = none := by
      cases z : m4 t' with
      | none => rfl
      | some o => rw [g5.at z] at ht'; cases ht'
    obtain ⟨own4, S4⟩ := S3.push0 (x' := .W w' dd' t' T1) g6 ⟨⟨(mset_ne (Ne.symm ntw)).trans hw5.ob, (mset_ne (Ne.symm ntd)).trans hw5.dc⟩, mset_same, Ne.symm ntd, ow.2.2.2⟩ rfl (fun a ha => by
      simp only [foot, List.mem_cons, List.not_mem_nil, or_false] at ha
      rcases ha with rfl | rfl | rfl <;> assumption) c1
    walk_at "st"
    refine k_app (g6.at S3.cw.at_) (by rw [List.length_map]; exact sz' (by omega)) ?_
    have pw4 : 0 < (ws1 ++ [Sd.W w' dd' t' T1]).length := by rw [List.length_append]; exact Nat.succ_pos _
    have S4 : Sts A way age top b lw lh lb own4 (i + 2) (i + 1) (i + 1) (i + 1) (ws1 ++ [Sd.W w' dd' t' T1]) hs1 bs1 (mset (mset m5 t' (.dK (tabD T1))) lw (.lst (List.map (dOf way) ws1 ++ [.tup [.ref w', .ref t', .int way]]))) := S4
    generalize mset (mset m5 t' (.dK (tabD T1))) lw (.lst (List.map (dOf way) ws1 ++ [.tup [.ref w', .ref t', .int way]])) = m6 at *
    generalize ws1 ++ [Sd.W w' dd' t' T1] = ws4 at *
    clear S3 g5 g6
    -- the hop
    walk_at "st"
    refine ⟨b, hs1.map (dOf way), S4.bag.at_, ne_nil ph1, by rw [List.length_map]; have := S4.c2; omega, .inr ⟨lh, rfl, S4.ch.at_⟩, fun x hx => ?_⟩
    obtain ⟨j5, x, hj5, rfl⟩ := mem_at hx
    obtain ⟨s5, h5, d5, t5, late5, P5, L5, rfl⟩ := kd1 (S4.H.hkd j5 x hj5)
    obtain ⟨o51, o52⟩ := S4.H.ok j5 _ hj5
    dsimp only [dOf]
    walk_at "st"
    refine ⟨k_tyL S4.ch.at_, ?_⟩
    walk_at "st"
    refine k_meth ?_
    walk_at "st"
    refine k_ixr o51.sd rfl ?_
    refine k_methI o51.hp.ob rfl ?_
    walk_at "st"
    refine ⟨h5, d5, way, age, P5, rfl, o51.hp, fun h' hd' m7 hne2 hh' hdd2 hp7 g7 => ?_⟩
    walk_at "st"
    refine k_ixr (g7.at o51.sd) rfl ?_
    refine ⟨_, .inl (g7.at o51.tb), fun t7 ht7 => ?_⟩
    have g8 : Grows m6 (mset m7 t7 (.dK (tabD L5))) := g7.new ht7
    walk_at "st"
    refine k_ixr (g8.at o51.sd) rfl ?_
    walk_at "st"
    intro s7 hs7
    obtain ⟨q1, hs7'⟩ := mset_none hs7
    have g9 : Grows m6 (mset (mset m7 t7 (.dK (tabD L5))) s7 (.lst (sideH h' t7 late5 way age))) := g8.new hs7
    have u1 : t7 ≠ h' := Ne.symm (ne_none hp7.ob ht7)
    have u2 : t7 ≠ hd' := Ne.symm (ne_none hp7.dc ht7)
    have u3 : s7 ≠ h' := Ne.symm (ne_none hp7.ob hs7')
    have u4 : s7 ≠ hd' := Ne.symm (ne_none hp7.dc hs7')
    have fr : ∀ {a : Addr}, m7 a = none → m6 a = none := fun {a} e => by
      cases z : m6 a with
      | none => rfl
      | some o => rw [g7.at z] at e; cases e
    obtain ⟨own5, S5⟩ := S4.push1 (x' := .H s7 h' hd' t7 late5 P5 L5) g9 ⟨⟨mset_same, ⟨by rw [mset_ne (Ne.symm u3), mset_ne (Ne.symm u1)]; exact hp7.ob, by rw [mset_ne (Ne.symm u4), mset_ne (Ne.symm u2)]; exact hp7.dc⟩, by rw [mset_ne (Ne.symm q1), mset_same], Ne.symm u2⟩, o52⟩ rfl (fun a ha => by
      simp only [foot, List.mem_cons, List.not_mem_nil, or_false] at ha
      rcases ha with rfl | rfl | rfl | rfl
      · exact fr hs7'
      · exact hh'
      · exact hdd2
      · exact fr ht7) c2
    walk_at "st"
    refine k_app (g9.at S4.ch.at_) (by rw [List.length_map]; exact sz' (by omega)) ?_
    have ph5 : 0 < (hs1 ++ [Sd.H s7 h' hd' t7 late5 P5 L5]).length := by rw [List.length_append]; exact Nat.succ_pos _
    have S5 : Sts A way age top b lw lh lb own5 (i + 2) (i + 1) (i + 1) (i + 1) ws4 (hs1 ++ [Sd.H s7 h' hd' t7 late5 P5 L5]) bs1 (mset (mset (mset m7 t7 (.dK (tabD L5))) s7 (.lst (sideH h' t7 late5 way age))) lh (.lst (List.map (dOf way) hs1 ++ [.ref s7]))) := S5
    have eS : (AO.lst [D.ref h', .ref t7, .int late5, .int way, .int age]) = .lst (sideH h' t7 late5 way age) := rfl
    rw [eS]
    generalize mset (mset (mset m7 t7 (.dK (tabD L5))) s7 (.lst (sideH h' t7 late5 way age))) lh (.lst (List.map (dOf way) hs1 ++ [.ref s7])) = m8 at *
    generalize hs1 ++ [Sd.H s7 h' hd' t7 late5 P5 L5] = hs5 at *
    clear S4 g7 g8 g9
    -- the buffer
    walk_at "st"
    refine ⟨b, bs1.map (dOf way), S5.bag.at_, ne_nil pb1, by rw [List.length_map]; have := S5.c3; omega, .inr ⟨lb, rfl, S5.cb.at_⟩, fun x hx => ?_⟩
    obtain ⟨j6, x, hj6, rfl⟩ := mem_at hx
    obtain ⟨s6, b6, here6, most6, rfl⟩ := kd2 (S5.B.hkd j6 x hj6)
    obtain ⟨o61, o62, o63⟩ := S5.B.ok j6 _ hj6
    dsimp only [dOf]
    walk_at "st"
    refine ⟨k_tyL S5.cb.at_, ?_⟩
    walk_at "st"
    refine k_meth ?_
    walk_at "st"
    refine k_ixr o61 rfl ?_
    refine k_methI o62 rfl ?_
    walk_at "st"
    refine ⟨b6, top, here6, most6, rfl, o62, fun b9 hb9 => ?_⟩
    have g10 := grows_set (o := .ins A.Buffer (bufF top here6 most6)) hb9
    walk_at "st"
    refine k_ixr (g10.at o61) rfl ?_
    walk_at "st"
    refine k_ixr (g10.at o61) rfl ?_
    walk_at "st"
    intro s9 hs9
    obtain ⟨q2, hs9'⟩ := mset_none hs9
    have g11 := g10.new (o := .lst (sideB b9 here6 most6 top)) hs9
    obtain ⟨own6, S6⟩ := S5.push2 (x' := .B s9 b9 here6 most6) g11 ⟨mset_same, (mset_ne (Ne.symm q2)).trans mset_same, o63⟩ rfl (fun a ha => by
      simp only [foot, List.mem_cons, List.not_mem_nil, or_false] at ha
      rcases ha with rfl | rfl <;> assumption) c3
    walk_at "st"
    refine k_app (g11.at S5.cb.at_) (by rw [List.length_map]; exact sz' (by omega)) ?_
    exact out own6 ws4 hs5 (bs1 ++ [Sd.B s9 b9 here6 most6]) _ _ _ _ _ _ _ S6 pw4 ph5 (by rw [List.length_append]; exact Nat.succ_pos _)
  · rintro s' m' ⟨own, ws, hs, bs, o8, o9, o10, o11, o12, o13, rfl, S, pw, ph, pb⟩
    walk_at "st"
    refine k_iLr S.cw.at_ ?_
    refine ⟨fun _ s' m2 => m2 = m' ∧ ∃ o8 o9 o10 o11 o12 o13 : Option D, s' = SL ns b way age top lw lh lb o8 o9 o10 o11 o12 o13, ⟨rfl, _, _, _, _, _, _, rfl⟩, fun _ _ _ _ h => by rw [h.1]; exact S.cw.at_, ?_, ?_⟩
    · rintro j dd s' m2 hd ⟨rfl, o8, o9, o10, o11, o12, o13, rfl⟩
      obtain ⟨x, hx, rfl⟩ := get_map hd
      obtain ⟨w, d, t, T, rfl⟩ := kd0 (S.W.hkd j x hx)
      obtain ⟨ow1, ow2, ow3, ow4⟩ := S.W.ok j _ hx
      dsimp only [dOf]
      walk_at "st"
      refine ⟨⟨by decide, by decide, by decide, by decide⟩, fun _ s' m3 => m3 = m2 ∧ ∃ p8 p9 p10 p13 : Option D, s' = SL ns b way age top lw lh lb p8 p9 p10 (some (.ref w)) (some (.ref t)) p13, ⟨rfl, _, _, _, _, rfl⟩, fun _ _ _ _ _ => trivial, ?_, ?_⟩
      · rintro j' dd s' m3 hd ⟨rfl, p8, p9, p10, p13, rfl⟩
        obtain ⟨_, rfl⟩ := get_ints hd
        refine k_atn ?_
        walk_at "st"
        refine k_meth ?_
        walk_at "st"
        refine k_methI ow1.ob rfl ?_
        walk_at "st"
        refine ⟨w, d, way, _, T, rfl, ow1, ?_⟩
        walk_at "st"
        refine ⟨⟨_, .inl ow2⟩, ?_⟩
        walk_at "st"
        refine ⟨_, ⟨_, .inl (-6 + (j' : Int) - way), .inl ow2, rfl, rfl⟩, ?_⟩
        walk_at "st"
        refine ⟨am (PA.atT T (-6 + (j' : Int) - way)), by rw [tab_get, getD_am]; rfl, flat_am _ _, ?_⟩
        walk_at "st"
        exact ⟨rfl, _, _, _, _, rfl⟩
      · rintro s' m3 ⟨rfl, p8, p9, p10, p13, rfl⟩
        exact ⟨rfl, _, _, _, _, _, _, rfl⟩
    · rintro s' m2 ⟨rfl, o8, o9, o10, o11, o12, o13, rfl⟩
      walk_at "st"
      exact wk_at (k _)
end K31
namespace K31
open PySem PySem.Spec PyProof.Rows L2 L3
set_option maxHeartbeats 4000000
def top (i : Nat) : Stmt := PySem.Challenge.pw_bandheld_k31_wires_buffers_hops_told.main.body.getD i (.Pass ⟨0, 0, 0, 0⟩)
abbrev s_Short_init : Stmt := inClass (top 4) 0
abbrev s_law_bag : Stmt := top 19
abbrev s_law_draw : Stmt := top 20
abbrev s_law_of : Stmt := top 21
abbrev s_law_amount : Stmt := top 22
abbrev s_law_some : Stmt := top 31
abbrev s_Buffer_init : Stmt := inClass (top 13) 0
abbrev s_law_same : Stmt := top 30
abbrev s_Buffer_held : Stmt := inClass (top 13) 1
abbrev s_Buffer_fullest : Stmt := inClass (top 13) 2
abbrev s_law_buffer_looks : Stmt := top 37
abbrev s_law_less : Stmt := top 26
abbrev s_law_max : Stmt := top 28
abbrev s_law_sum : Stmt := top 23
abbrev s_law_min : Stmt := top 27
abbrev s_law_scaled : Stmt := top 25
abbrev s_law_part : Stmt := top 32
abbrev s_law_piece : Stmt := top 34
abbrev s_law_rest : Stmt := top 24
abbrev s_p_lowest : Stmt := top 7
abbrev s_plus : Stmt := top 8
abbrev s_compare : Stmt := top 10
abbrev s_largest : Stmt := top 11
abbrev s_Buffer_set_to : Stmt := inClass (top 13) 5
abbrev s_minus : Stmt := top 9
abbrev s_Buffer_take_in : Stmt := inClass (top 13) 3
abbrev s_Buffer_give : Stmt := inClass (top 13) 4
abbrev s_law_short : Stmt := top 35
abbrev s_law_buffer_deed : Stmt := top 36
abbrev s_Wire_init : Stmt := inClass (top 17) 0
abbrev s_Hop_init : Stmt := inClass (top 15) 0
abbrev s_Hop_sent_after : Stmt := inClass (top 15) 2
abbrev s_law_all : Stmt := top 29
abbrev s_Wire_put : Stmt := inClass (top 17) 1
abbrev s_Wire_arriving : Stmt := inClass (top 17) 2
abbrev s_Wire_under_way : Stmt := inClass (top 17) 3
abbrev s_law_wire_deed : Stmt := top 33
abbrev s_Hop_remember : Stmt := inClass (top 15) 1
abbrev s_law_hop_deed : Stmt := top 38
abbrev s_Wire_copy : Stmt := inClass (top 17) 4
abbrev s_Hop_copy : Stmt := inClass (top 15) 4
abbrev s_Buffer_copy : Stmt := inClass (top 13) 6
abbrev s_law : Stmt := top 39
structure Txt (K : PySem.W.Frag) (mg : Str → Option Value) (A : Adr) : Prop where
  c_Buffer : Cls K A.Buffer
  c_Wire : Cls K A.Wire
  c_Hop : Cls K A.Hop
  mk_Wire : Mk K A.Wire A.Wire_init
  g_Wire : mg "Wire" = some (.ref A.Wire)
  mk_Hop : Mk K A.Hop A.Hop_init
  g_Hop : mg "Hop" = some (.ref A.Hop)
  mk_Buffer : Mk K A.Buffer A.Buffer_init
  g_Buffer : mg "Buffer" = some (.ref A.Buffer)
  n_Buffer_size : NoAttr K A.Buffer "size"
  n_Buffer_p_held : NoAttr K A.Buffer "_held"
  n_Buffer_p_fullest : NoAttr K A.Buffer "_fullest"
  n_Wire_p_way : NoAttr K A.Wire "_way"
  n_Wire_p_sent : NoAttr K A.Wire "_sent"
  n_Hop_p_way : NoAttr K A.Hop "_way"
  n_Hop_p_age : NoAttr K A.Hop "_age"
  n_Hop_p_sent : NoAttr K A.Hop "_sent"
  m_Buffer_set_to : Meth K A.Buffer "set_to" A.Buffer_set_to
  m_Buffer_give : Meth K A.Buffer "give" A.Buffer_give
  m_Buffer_take_in : Meth K A.Buffer "take_in" A.Buffer_take_in
  m_Wire_put : Meth K A.Wire "put" A.Wire_put
  m_Wire_arriving : Meth K A.Wire "arriving" A.Wire_arriving
  m_Wire_under_way : Meth K A.Wire "under_way" A.Wire_under_way
  m_Hop_remember : Meth K A.Hop "remember" A.Hop_remember
  m_Hop_sent_after : Meth K A.Hop "sent_after" A.Hop_sent_after
  m_Wire_copy : Meth K A.Wire "copy" A.Wire_copy
  m_Hop_copy : Meth K A.Hop "copy" A.Hop_copy
  m_Buffer_copy : Meth K A.Buffer "copy" A.Buffer_copy
  p_Buffer_held : PropOf K A.Buffer "held" A.pr_Buffer_held A.Buffer_held
  p_Buffer_fullest : PropOf K A.Buffer "fullest" A.pr_Buffer_fullest A.Buffer_fullest
  g_ZERO : mg "ZERO" = some (.ref A.ZERO)
  t_ZERO : ∀ G, RV K G (.tup [(.int 0), (.int 1)]) (.ref A.ZERO)
  g_law_bag : mg "_law_bag" = some (.ref A.law_bag)
  k_law_bag : PySem.W.keepIn K (.ref A.law_bag) = true
  g_law_draw : mg "_law_draw" = some (.ref A.law_draw)
  k_law_draw : PySem.W.keepIn K (.ref A.law_draw) = true
  g_law_of : mg "_law_of" = some (.ref A.law_of)
  k_law_of : PySem.W.keepIn K (.ref A.law_of) = true
  g_law_amount : mg "_law_amount" = some (.ref A.law_amount)
  k_law_amount : PySem.W.keepIn K (.ref A.law_amount) = true
  g_law_some : mg "_law_some" = some (.ref A.law_some)
  k_law_some : PySem.W.keepIn K (.ref A.law_some) = true
  g_law_same : mg "_law_same" = some (.ref A.law_same)
  k_law_same : PySem.W.keepIn K (.ref A.law_same) = true
  g_law_buffer_looks : mg "_law_buffer_looks" = some (.ref A.law_buffer_looks)
  k_law_buffer_looks : PySem.W.keepIn K (.ref A.law_buffer_looks) = true
  g_law_less : mg "_law_less" = some (.ref A.law_less)
  k_law_less : PySem.W.keepIn K (.ref A.law_less) = true
  g_law_max : mg "_law_max" = some (.ref A.law_max)
  k_law_max : PySem.W.keepIn K (.ref A.law_max) = true
  g_law_sum : mg "_law_sum" = some (.ref A.law_sum)
  k_law_sum : PySem.W.keepIn K (.ref A.law_sum) = true
  g_law_min : mg "_law_min" = some (.ref A.law_min)
  k_law_min : PySem.W.keepIn K (.ref A.law_min) = true
  g_law_scaled : mg "_law_scaled" = some (.ref A.law_scaled)
  k_law_scaled : PySem.W.keepIn K (.ref A.law_scaled) = true
  g_law_part : mg "_law_part" = some (.ref A.law_part)
  k_law_part : PySem.W.keepIn K (.ref A.law_part) = true
  g_law_piece : mg "_law_piece" = some (.ref A.law_piece)
  k_law_piece : PySem.W.keepIn K (.ref A.law_piece) = true
  g_law_rest : mg "_law_rest" = some (.ref A.law_rest)
  k_law_rest : PySem.W.keepIn K (.ref A.law_rest) = true
  g_p_lowest : mg "_lowest" = some (.ref A.p_lowest)
  k_p_lowest : PySem.W.keepIn K (.ref A.p_lowest) = true
  g_plus : mg "plus" = some (.ref A.plus)
  k_plus : PySem.W.keepIn K (.ref A.plus) = true
  g_compare : mg "compare" = some (.ref A.compare)
  k_compare : PySem.W.keepIn K (.ref A.compare) = true
  g_largest : mg "largest" = some (.ref A.largest)
  k_largest : PySem.W.keepIn K (.ref A.largest) = true
  g_minus : mg "minus" = some (.ref A.minus)
  k_minus : PySem.W.keepIn K (.ref A.minus) = true
  g_law_short : mg "_law_short" = some (.ref A.law_short)
  k_law_short : PySem.W.keepIn K (.ref A.law_short) = true
  g_law_buffer_deed : mg "_law_buffer_deed" = some (.ref A.law_buffer_deed)
  k_law_buffer_deed : PySem.W.keepIn K (.ref A.law_buffer_deed) = true
  g_law_all : mg "_law_all" = some (.ref A.law_all)
  k_law_all : PySem.W.keepIn K (.ref A.law_all) = true
  g_law_wire_deed : mg "_law_wire_deed" = some (.ref A.law_wire_deed)
  k_law_wire_deed : PySem.W.keepIn K (.ref A.law_wire_deed) = true
  g_law_hop_deed : mg "_law_hop_deed" = some (.ref A.law_hop_deed)
  k_law_hop_deed : PySem.W.keepIn K (.ref A.law_hop_deed) = true
  z_int : mg "int" = none
  z_list : mg "list" = none
  z_len : mg "len" = none
  z_isinstance : mg "isinstance" = none
  z_tuple : mg "tuple" = none
  z_all : mg "all" = none
  z_zip : mg "zip" = none
  z_bool : mg "bool" = none
  z_str : mg "str" = none
  z_max : mg "max" = none
  z_range : mg "range" = none
  z_dict : mg "dict" = none
  xk_Short : ExK K mg "Short" A.Short A.Short_init "amount"
  xg_Short : mg "Short" = some (.ref A.Short)
  xg_BandError : mg "BandError" = some (.ref A.BandError)
  xn_Short_amount : PySem.W.findIn K (.ref A.Short) "amount" = some none
  xm_Short_Short : PySem.W.exmOne K (.ref A.Short) (.ref A.Short) = some true
  xi_Short_BandError : PySem.W.kitOne K (.ref A.Short) (.ref A.BandError) = some true
  i_gcd : mg "gcd" = some (.builtin "math.gcd")
section
variable {P : Program} {w : World} {K : PySem.W.Frag} {mg : Str → Option Value} {base : Heap} {A : Adr}
theorem sc_Short_init : FnScope ["self", "amount"] ["self", "amount"] (defScope s_Short_init) := ⟨rfl, rfl, rfl, by decide +kernel, rfl, by decide +kernel, by decide +kernel⟩
theorem ex_Short {fd : FuncData} (T : Txt K mg A) (F : Fun K "__init__" "Short.__init__" s_Short_init A.Short_init fd) (hb : Binds K fd ["self", "amount"] []) : Ex1 P w K mg base "Short" A.Short "amount" :=
  T.xk_Short.ex1 F sc_Short_init hb (by decide) (by decide) rfl (.inl rfl) (.inl rfl)
theorem sc_law_bag : FnScope ["_law_script", "_law_seed", "_law_cell"] ["_law_script"] (defScope s_law_bag) := ⟨rfl, rfl, rfl, by decide +kernel, rfl, by decide +kernel, by decide +kernel⟩
theorem d_law_bag {fd : FuncData} (T : Txt K mg A) (F : Fun K "_law_bag" "_law_bag" s_law_bag A.law_bag fd) (hb : Binds K fd ["_law_script"] []) : FnD P w K mg base 1 A.law_bag (sp_law_bag A) :=
  def_ofW (N := ["_law_script", "_law_seed", "_law_cell"]) (qb := qb_law_bag A) F hb sc_law_bag (len_law_bag A) (fun cdv Ar outer s H E hr =>
    (dss_cons (ds_set 1 sc_law_bag.nd de_int)
    (dss_cons (ds_for PassesOwn.never rfl (di_lst (de_slL (dv 0) do_none (do_some de_int))) (pt_nm 2 sc_law_bag.nd) (dss_one (ds_set 1 sc_law_bag.nd (de_op do_mod (de_callTy db_int rfl T.z_int (by decide +kernel) (da_cons (de_op do_add (de_op do_add (de_op do_mul (dv 1) de_int) (de_op do_mod (de_callTy db_int rfl T.z_int (by decide +kernel) (da_cons (dv 2) da_nil)) de_int)) de_int) da_nil)) de_int))))
    (dss_one (ds_ret (de_lstM (da_cons (de_freeze (de_callTy db_list rfl T.z_list (by decide +kernel) (da_cons (de_slL (dv 0) do_none (do_some de_int)) da_nil))) (da_cons de_int (da_cons de_int (da_cons (dv 1) (da_cons de_int da_nil))))))))))) (rd_law_bag A)
theorem sc_law_draw : FnScope ["_law_bag_here", "_law_many", "_law_cell", "_law_digit", "_law_seed"] ["_law_bag_here", "_law_many"] (defScope s_law_draw) := ⟨rfl, rfl, rfl, by decide +kernel, rfl, by decide +kernel, by decide +kernel⟩
theorem d_law_draw {fd : FuncData} (T : Txt K mg A) (F : Fun K "_law_draw" "_law_draw" s_law_draw A.law_draw fd) (hb : Binds K fd ["_law_bag_here", "_law_many"] []) : FnD P w K mg base 1 A.law_draw (sp_law_draw A) :=
  def_ofW (N := ["_law_bag_here", "_law_many", "_law_cell", "_law_digit", "_law_seed"]) (qb := qb_law_draw A) F hb sc_law_draw (len_law_draw A) (fun cdv Ar outer s H E hr =>
    (dss_open (dss_cons (ds_sub (hu1 hr) (dv 0) de_int (de_op do_add (de_idx (hu1 hr) (dv 0) de_int) de_int))
    (dss_cons (ds_if (PW.pt (dw_and (dt_cmp (do_eq2 (hu64 hr)) (de_idx (hu1 hr) (dv 0) de_int) de_int (by first | rfl | exact nobehind _ (by decide) (by decide))) (dw_and1 (dt_cmp do_lt (de_idx (hu1 hr) (dv 0) de_int) (de_callB db_len rfl T.z_len (by decide +kernel) (da_cons (de_idx (hu1 hr) (dv 0) de_int) da_nil)) (by first | rfl | exact nobehind _ (by decide) (by decide)))))) (dss_cons (ds_set 2 sc_law_draw.nd (de_idx (hu1 hr) (de_idx (hu1 hr) (dv 0) de_int) (de_idx (hu1 hr) (dv 0) de_int)))
    (dss_cons (ds_sub (hu1 hr) (dv 0) de_int (de_op do_add (de_idx (hu1 hr) (dv 0) de_int) de_int))
    (dss_one (ds_if (dt_cmp do_ge (dv 2) (de_op do_pow2 de_int de_int) (by first | rfl | exact nobehind _ (by decide) (by decide))) (dss_one (ds_sub (hu1 hr) (dv 0) de_int (dv 2))) (dss_one (ds_sub (hu1 hr) (dv 0) de_int (de_op do_mod (de_callTy db_int rfl T.z_int (by decide +kernel) (da_cons (de_op do_add (de_op do_add (de_op do_mul (de_idx (hu1 hr) (dv 0) de_int) de_int) (de_op do_mul (de_op do_mod (de_callTy db_int rfl T.z_int (by decide +kernel) (da_cons (dv 2) da_nil)) de_int) de_int)) de_int) da_nil)) de_int))))))) dss_nil)
    (dss_cons (ds_if (dt_cmp do_gt (de_idx (hu1 hr) (dv 0) de_int) de_int (by first | rfl | exact nobehind _ (by decide) (by decide))) (dss_cons (ds_set 3 sc_law_draw.nd (de_op do_mod (de_callTy db_int rfl T.z_int (by decide +kernel) (da_cons (de_idx (hu1 hr) (dv 0) de_int) da_nil)) (dv 1)))
    (dss_cons (ds_sub (hu1 hr) (dv 0) de_int (de_op do_fdiv (de_idx (hu1 hr) (dv 0) de_int) (dv 1)))
    (dss_one (ds_ret (dv 3))))) dss_nil)
    (dss_cons (ds_set 4 sc_law_draw.nd (de_idx (hu1 hr) (dv 0) de_int))
    (dss_cons (ds_sub (hu1 hr) (dv 0) de_int (de_op do_mod (de_callTy db_int rfl T.z_int (by decide +kernel) (da_cons (de_op do_add (de_op do_add (de_op do_add (de_op do_mul (de_op do_mul (dv 4) (dv 4)) de_int) (de_op do_mul (dv 4) de_int)) (de_op do_mul (de_idx (hu1 hr) (dv 0) de_int) de_int)) de_int) da_nil)) de_int))
    (dss_one (ds_ret (de_op do_mod (de_callTy db_int rfl T.z_int (by decide +kernel) (da_cons (de_op do_add (de_op do_fdiv (de_idx (hu1 hr) (dv 0) de_int) de_int) (de_op do_mul (de_op do_mod (de_callTy db_int rfl T.z_int (by decide +kernel) (da_cons (de_idx (hu1 hr) (dv 0) de_int) da_nil)) de_int) de_int)) da_nil)) (dv 1))))))))))) (rd_law_draw A)
theorem sc_law_of : FnScope ["_law_bag_here", "_law_things"] ["_law_bag_here", "_law_things"] (defScope s_law_of) := ⟨rfl, rfl, rfl, by decide +kernel, rfl, by decide +kernel, by decide +kernel⟩
theorem d_law_of {fd : FuncData} (T : Txt K mg A) (F : Fun K "_law_of" "_law_of" s_law_of A.law_of fd) (hb : Binds K fd ["_law_bag_here", "_law_things"] []) (G_law_draw : FnD P w K mg base 1 A.law_draw (sp_law_draw A)) : FnD P w K mg base 2 A.law_of (sp_law_of A) :=
  def_ofW (N := ["_law_bag_here", "_law_things"]) (qb := qb_law_of A) F hb sc_law_of (len_law_of A) (fun cdv Ar outer s H E hr =>
    (dss_one (ds_ret (de_idx (hu1 hr) (dv 1) (de_call G_law_draw (hr.mono (by decide)) rfl T.g_law_draw T.k_law_draw (da_cons (dv 0) (da_cons (de_callB db_len rfl T.z_len (by decide +kernel) (da_cons (dv 1) da_nil)) da_nil))))))) (rd_law_of A)
theorem sc_law_amount : FnScope ["_law_top", "_law_bottom", "_law_one", "_law_two"] ["_law_top", "_law_bottom"] (defScope s_law_amount) := ⟨rfl, rfl, rfl, by decide +kernel, rfl, by decide +kernel, by decide +kernel⟩
theorem d_law_amount {fd : FuncData} (T : Txt K mg A) (F : Fun K "_law_amount" "_law_amount" s_law_amount A.law_amount fd) (hb : Binds K fd ["_law_top", "_law_bottom"] []) : FnD P w K mg base 1 A.law_amount (sp_law_amount A) :=
  def_ofW (N := ["_law_top", "_law_bottom", "_law_one", "_law_two"]) (qb := qb_law_amount A) F hb sc_law_amount (len_law_amount A) (fun cdv Ar outer s H E hr =>
    (dss_cons (ds_par 2 3 rfl sc_law_amount.nd (da_cons (dv 0) (da_cons (dv 1) da_nil)))
    (dss_cons (ds_while PassesOwn.never (dt_cmp do_gt (dv 3) de_int (by first | rfl | exact nobehind _ (by decide) (by decide))) (dss_one (ds_par 2 3 rfl sc_law_amount.nd (da_cons (dv 3) (da_cons (de_op do_mod (de_callTy db_int rfl T.z_int (by decide +kernel) (da_cons (dv 2) da_nil)) (dv 3)) da_nil)))))
    (dss_one (ds_ret (de_tup (da_cons (de_op do_fdiv (dv 0) (dv 2)) (da_cons (de_op do_fdiv (dv 1) (dv 2)) da_nil)))))))) (rd_law_amount A)
theorem sc_law_some : FnScope ["_law_bag_here", "_law_most", "_law_bottom"] ["_law_bag_here", "_law_most"] (defScope s_law_some) := ⟨rfl, rfl, rfl, by decide +kernel, rfl, by decide +kernel, by decide +kernel⟩
theorem d_law_some {fd : FuncData} (T : Txt K mg A) (F : Fun K "_law_some" "_law_some" s_law_some A.law_some fd) (hb : Binds K fd ["_law_bag_here", "_law_most"] []) (G_law_of : FnD P w K mg base 2 A.law_of (sp_law_of A)) (G_law_amount : FnD P w K mg base 1 A.law_amount (sp_law_amount A)) (G_law_draw : FnD P w K mg base 1 A.law_draw (sp_law_draw A)) : FnD P w K mg base 3 A.law_some (sp_law_some A) :=
  def_ofW (N := ["_law_bag_here", "_law_most", "_law_bottom"]) (qb := qb_law_some A) F hb sc_law_some (len_law_some A) (fun cdv Ar outer s H E hr =>
    (dss_cons (ds_set 2 sc_law_some.nd (de_call G_law_of (hr.mono (by decide)) rfl T.g_law_of T.k_law_of (da_cons (dv 0) (da_cons (de_lstF (da_cons de_int (da_cons de_int (da_cons de_int (da_cons de_int (da_cons de_int (da_cons de_int (da_cons de_int (da_cons de_int da_nil))))))))) da_nil))))
    (dss_one (ds_ret (de_call G_law_amount (hr.mono (by decide)) rfl T.g_law_amount T.k_law_amount (da_cons (de_call G_law_draw (hr.mono (by decide)) rfl T.g_law_draw T.k_law_draw (da_cons (dv 0) (da_cons (de_op do_add (de_op do_mul (dv 1) (dv 2)) de_int) da_nil))) (da_cons (dv 2) da_nil))))))) (rd_law_some A)
theorem sc_Buffer_init : FnScope ["self", "size"] ["self", "size"] (defScope s_Buffer_init) := ⟨rfl, rfl, rfl, by decide +kernel, rfl, by decide +kernel, by decide +kernel⟩
theorem d_Buffer_init {fd : FuncData} (T : Txt K mg A) (F : Fun K "__init__" "Buffer.__init__" s_Buffer_init A.Buffer_init fd) (hb : Binds K fd ["self", "size"] []) : FnD P w K mg base 1 A.Buffer_init (sp_Buffer_init A) :=
  def_ofW (N := ["self", "size"]) (qb := qb_Buffer_init A) F hb sc_Buffer_init (len_Buffer_init A) (fun cdv Ar outer s H E hr =>
    (dss_cons (ds_setF T.c_Buffer T.n_Buffer_size (dv 0) (dv 1))
    (dss_cons (ds_setF T.c_Buffer T.n_Buffer_p_held (dv 0) (de_glob (.tup [(.int 0), (.int 1)]) rfl T.g_ZERO T.t_ZERO))
    (dss_one (ds_setF T.c_Buffer T.n_Buffer_p_fullest (dv 0) (de_glob (.tup [(.int 0), (.int 1)]) rfl T.g_ZERO T.t_ZERO)))))) (rd_Buffer_init A)
theorem sc_law_same : FnScope ["_law_told", "_law_due", "_law_one", "_law_two"] ["_law_told", "_law_due"] (defScope s_law_same) := ⟨rfl, rfl, rfl, by decide +kernel, rfl, by decide +kernel, by decide +kernel⟩
theorem d_law_same {fd : FuncData} (T : Txt K mg A) (F : Fun K "_law_same" "_law_same" s_law_same A.law_same fd) (hb : Binds K fd ["_law_told", "_law_due"] []) : ∀ n : Nat, FnD P w K mg base n A.law_same (sp_law_same n A)
  | 0 => FnD.imp fnd_false fun _ _ _ h => h
  | n + 1 => by
    have G_law_same := d_law_same T F hb n
    exact def_ofW (N := ["_law_told", "_law_due", "_law_one", "_law_two"]) (qb := qb_law_same n A) F hb sc_law_same (len_law_same (n + 1) A) (fun cdv Ar outer s H E hr =>
    (dss_cons (ds_if (dt_val (de_isi2 rfl T.z_isinstance (dv 1) (pe_bltn rfl T.z_tuple (by decide +kernel) rfl) (pe_bltn rfl T.z_list (by decide +kernel) rfl))) (dss_cons (ds_if (PW.pt (dw_or (dt_cmp (do_ne2 (hu64 hr)) (de_isi rfl T.z_isinstance (dv 0) (pe_bltn rfl T.z_tuple (by decide +kernel) rfl)) (de_isi rfl T.z_isinstance (dv 1) (pe_bltn rfl T.z_tuple (by decide +kernel) rfl)) (by first | rfl | exact nobehind _ (by decide) (by decide))) (dw_or1 (dt_cmp (do_ne2 (hu64 hr)) (de_isi rfl T.z_isinstance (dv 0) (pe_bltn rfl T.z_list (by decide +kernel) rfl)) (de_isi rfl T.z_isinstance (dv 1) (pe_bltn rfl T.z_list (by decide +kernel) rfl)) (by first | rfl | exact nobehind _ (by decide) (by decide)))))) (dss_one (ds_ret de_bl)) dss_nil)
    (dss_one (ds_ret (de_and (de_cmp (do_eq2 (hu64 hr)) (de_callB db_len rfl T.z_len (by decide +kernel) (da_cons (dv 0) da_nil)) (de_callB db_len rfl T.z_len (by decide +kernel) (da_cons (dv 1) da_nil)) (by first | rfl | exact nobehind _ (by decide) (by decide))) (de_one (de_callB (db_all rfl) rfl T.z_all (by decide +kernel) (da_cons (de_freeze (de_lc rfl sc_law_same.nd (di_zip rfl T.z_zip (da_cons (dv 0) (da_cons (dv 1) da_nil))) (own := [("_law_one", 2), ("_law_two", 3)]) (by show BlkOk ["_law_told", "_law_due", "_law_one", "_law_two"] (defScope s_law_same) _ _; exact ⟨rfl, by decide +kernel, by decide +kernel, by decide +kernel, by decide +kernel⟩) (fun _ _ _ _ _ => (pt_tp rfl (pts_cn (pt_nm 2 sc_law_same.nd) (pts_cn (pt_nm 3 sc_law_same.nd) pts_nl)))) (fun _ _ _ _ _ => dts_nil (K := _)) (fun _ _ _ _ _ => (de_call G_law_same hr rfl T.g_law_same T.k_law_same (da_cons (dv 2) (da_cons (dv 3) da_nil)))))) da_nil))))))) dss_nil)
    (dss_cons (ds_if (PW.pt (dw_or (dt_cmp do_isN (dv 1) de_non (by first | rfl | exact nobehind _ (by decide) (by decide))) (dw_or1 (dt_cmp do_isN (dv 0) de_non (by first | rfl | exact nobehind _ (by decide) (by decide)))))) (dss_one (ds_ret (de_and (de_cmp do_isN (dv 1) de_non (by first | rfl | exact nobehind _ (by decide) (by decide))) (de_one (de_cmp do_isN (dv 0) de_non (by first | rfl | exact nobehind _ (by decide) (by decide))))))) dss_nil)
    (dss_cons (ds_if (PW.pt (dw_or (dt_cmp (do_ne2 (hu64 hr)) (de_isi rfl T.z_isinstance (dv 0) (pe_bltn rfl T.z_bool (by decide +kernel) rfl)) (de_isi rfl T.z_isinstance (dv 1) (pe_bltn rfl T.z_bool (by decide +kernel) rfl)) (by first | rfl | exact nobehind _ (by decide) (by decide))) (dw_or1 (dt_cmp (do_ne2 (hu64 hr)) (de_isi rfl T.z_isinstance (dv 0) (pe_bltn rfl T.z_int (by decide +kernel) rfl)) (de_isi rfl T.z_isinstance (dv 1) (pe_bltn rfl T.z_int (by decide +kernel) rfl)) (by first | rfl | exact nobehind _ (by decide) (by decide)))))) (dss_one (ds_ret de_bl)) dss_nil)
    (dss_one (ds_ret (de_and (de_cmp (do_eq2 (hu64 hr)) (de_isi rfl T.z_isinstance (dv 0) (pe_bltn rfl T.z_str (by decide +kernel) rfl)) (de_isi rfl T.z_isinstance (dv 1) (pe_bltn rfl T.z_str (by decide +kernel) rfl)) (by first | rfl | exact nobehind _ (by decide) (by decide))) (de_one (de_cmp (do_eq2 (hu64 hr)) (dv 0) (dv 1) (by first | rfl | exact nobehind _ (by decide) (by decide))))))))))) (rd_law_same n A)
theorem dh_law_same {fd : FuncData} (T : Txt K mg A) (F : Fun K "_law_same" "_law_same" s_law_same A.law_same fd) (hb : Binds K fd ["_law_told", "_law_due"] []) : ∀ n : Nat, FnDH P w K mg base n A.law_same (sph_law_same n A)
  | 0 => fndH_false hb fun _ _ _ h => h
  | n + 1 => by
    have GH_law_same := dh_law_same T F hb n
    exact defH_ofW (N := ["_law_told", "_law_due", "_law_one", "_law_two"]) (qb := qbh_law_same n A) F hb sc_law_same (lenh_law_same (n + 1) A) (by
    intro cdv Ar outer s H E p hp hr
    have hc := hot_body (P := P) (w := w) (K := K) (mg := mg) (base := base) (N := ["_law_told", "_law_due", "_law_one", "_law_two"]) (qual := "_law_same") (st := s_law_same) (f := A.law_same) (cdv := cdv) (A := Ar) (outer := outer) (s := s) (H := H) (E := E) (p := p) hp
    exact (dss_cons (ds_if (dt_val (de_isi2 rfl T.z_isinstance (dv 1) (pe_bltn rfl T.z_tuple (by decide +kernel) rfl) (pe_bltn rfl T.z_list (by decide +kernel) rfl))) (dss_cons (ds_if (PW.pt (dw_or (dt_cmp (do_ne2 (hu64H hr)) (de_isi rfl T.z_isinstance (dv 0) (pe_bltn rfl T.z_tuple (by decide +kernel) rfl)) (de_isi rfl T.z_isinstance (dv 1) (pe_bltn rfl T.z_tuple (by decide +kernel) rfl)) (by first | rfl | exact nobehind _ (by decide) (by decide))) (dw_or1 (dt_cmp (do_ne2 (hu64H hr)) (de_isi rfl T.z_isinstance (dv 0) (pe_bltn rfl T.z_list (by decide +kernel) rfl)) (de_isi rfl T.z_isinstance (dv 1) (pe_bltn rfl T.z_list (by decide +kernel) rfl)) (by first | rfl | exact nobehind _ (by decide) (by decide)))))) (dss_one (ds_ret de_bl)) dss_nil)
    (dss_one (ds_ret (de_and (de_cmp (do_eq2 (hu64H hr)) (de_callB db_len rfl T.z_len (by decide +kernel) (da_cons (dv 0) da_nil)) (de_callB db_len rfl T.z_len (by decide +kernel) (da_cons (dv 1) da_nil)) (by first | rfl | exact nobehind _ (by decide) (by decide))) (de_one (de_callB (db_allH hc) rfl T.z_all (by decide +kernel) (da_cons (de_freeze (de_lcH hc sc_law_same.nd (di_zipH rfl T.z_zip (da_cons (dv 0) (da_cons (dv 1) da_nil))) (own := [("_law_one", 2), ("_law_two", 3)]) (by show BlkOk ["_law_told", "_law_due", "_law_one", "_law_two"] (defScope s_law_same) _ _; exact ⟨rfl, by decide +kernel, by decide +kernel, by decide +kernel, by decide +kernel⟩) (fun _ _ _ _ _ => (pt_tpH hc (pts_cn (pt_nm 2 sc_law_same.nd) (pts_cn (pt_nm 3 sc_law_same.nd) pts_nl)))) (fun _ _ _ _ _ => dts_nil (K := _)) (fun _ _ _ _ _ => (de_callH GH_law_same hr hc rfl T.g_law_same T.k_law_same (da_cons (dv 2) (da_cons (dv 3) da_nil)))))) da_nil))))))) dss_nil)
    (dss_cons (ds_if (PW.pt (dw_or (dt_cmp do_isN (dv 1) de_non (by first | rfl | exact nobehind _ (by decide) (by decide))) (dw_or1 (dt_cmp do_isN (dv 0) de_non (by first | rfl | exact nobehind _ (by decide) (by decide)))))) (dss_one (ds_ret (de_and (de_cmp do_isN (dv 1) de_non (by first | rfl | exact nobehind _ (by decide) (by decide))) (de_one (de_cmp do_isN (dv 0) de_non (by first | rfl | exact nobehind _ (by decide) (by decide))))))) dss_nil)
    (dss_cons (ds_if (PW.pt (dw_or (dt_cmp (do_ne2 (hu64H hr)) (de_isi rfl T.z_isinstance (dv 0) (pe_bltn rfl T.z_bool (by decide +kernel) rfl)) (de_isi rfl T.z_isinstance (dv 1) (pe_bltn rfl T.z_bool (by decide +kernel) rfl)) (by first | rfl | exact nobehind _ (by decide) (by decide))) (dw_or1 (dt_cmp (do_ne2 (hu64H hr)) (de_isi rfl T.z_isinstance (dv 0) (pe_bltn rfl T.z_int (by decide +kernel) rfl)) (de_isi rfl T.z_isinstance (dv 1) (pe_bltn rfl T.z_int (by decide +kernel) rfl)) (by first | rfl | exact nobehind _ (by decide) (by decide)))))) (dss_one (ds_ret de_bl)) dss_nil)
    (dss_one (ds_ret (de_and (de_cmp (do_eq2 (hu64H hr)) (de_isi rfl T.z_isinstance (dv 0) (pe_bltn rfl T.z_str (by decide +kernel) rfl)) (de_isi rfl T.z_isinstance (dv 1) (pe_bltn rfl T.z_str (by decide +kernel) rfl)) (by first | rfl | exact nobehind _ (by decide) (by decide))) (de_one (de_cmp (do_eq2 (hu64H hr)) (dv 0) (dv 1) (by first | rfl | exact nobehind _ (by decide) (by decide))))))))))) (rdh_law_same n A)
theorem sc_Buffer_held : FnScope ["self"] ["self"] (defScope s_Buffer_held) := ⟨rfl, rfl, rfl, by decide +kernel, rfl, by decide +kernel, by decide +kernel⟩
theorem d_Buffer_held {fd : FuncData} (T : Txt K mg A) (F : Fun K "held" "Buffer.held" s_Buffer_held A.Buffer_held fd) (hb : Binds K fd ["self"] []) : FnD P w K mg base 1 A.Buffer_held (sp_Buffer_held A) :=
  def_ofW (N := ["self"]) (qb := qb_Buffer_held A) F hb sc_Buffer_held (len_Buffer_held A) (fun cdv Ar outer s H E hr =>
    (dss_one (ds_ret (de_fld T.c_Buffer T.n_Buffer_p_held (dv 0))))) (rd_Buffer_held A)
theorem sc_Buffer_fullest : FnScope ["self"] ["self"] (defScope s_Buffer_fullest) := ⟨rfl, rfl, rfl, by decide +kernel, rfl, by decide +kernel, by decide +kernel⟩
theorem d_Buffer_fullest {fd : FuncData} (T : Txt K mg A) (F : Fun K "fullest" "Buffer.fullest" s_Buffer_fullest A.Buffer_fullest fd) (hb : Binds K fd ["self"] []) : FnD P w K mg base 1 A.Buffer_fullest (sp_Buffer_fullest A) :=
  def_ofW (N := ["self"]) (qb := qb_Buffer_fullest A) F hb sc_Buffer_fullest (len_Buffer_fullest A) (fun cdv Ar outer s H E hr =>
    (dss_one (ds_ret (de_fld T.c_Buffer T.n_Buffer_p_fullest (dv 0))))) (rd_Buffer_fullest A)
theorem sc_law_buffer_looks : FnScope ["_law_side", "_law_told", "_law_here", "_law_most", "_law_top"] ["_law_side"] (defScope s_law_buffer_looks) := ⟨rfl, rfl, rfl, by decide +kernel, rfl, by decide +kernel, by decide +kernel⟩
theorem d_law_buffer_looks {fd : FuncData} (T : Txt K mg A) (F : Fun K "_law_buffer_looks" "_law_buffer_looks" s_law_buffer_looks A.law_buffer_looks fd) (hb : Binds K fd ["_law_side"] []) (G_law_same : FnD P w K mg base 4 A.law_same (sp_law_same 4 A)) (G_Buffer_held : FnD P w K mg base 1 A.Buffer_held (sp_Buffer_held A)) (G_Buffer_fullest : FnD P w K mg base 1 A.Buffer_fullest (sp_Buffer_fullest A)) : FnD P w K mg base 5 A.law_buffer_looks (sp_law_buffer_looks A) :=
  def_ofW (N := ["_law_side", "_law_told", "_law_here", "_law_most", "_law_top"]) (qb := qb_law_buffer_looks A) F hb sc_law_buffer_looks (len_law_buffer_looks A) (fun cdv Ar outer s H E hr =>
    (dss_cons (ds_asg (de_tup (da_cons (de_idx (hu1 hr) (dv 0) de_int) (da_cons (de_idx (hu1 hr) (dv 0) de_int) (da_cons (de_idx (hu1 hr) (dv 0) de_int) (da_cons (de_idx (hu1 hr) (dv 0) de_int) da_nil))))) (pt_tp rfl (pts_cn (pt_nm 1 sc_law_buffer_looks.nd) (pts_cn (pt_nm 2 sc_law_buffer_looks.nd) (pts_cn (pt_nm 3 sc_law_buffer_looks.nd) (pts_cn (pt_nm 4 sc_law_buffer_looks.nd) pts_nl))))))
    (dss_one (ds_ret (de_and (de_call G_law_same (hr.mono (by decide)) rfl T.g_law_same T.k_law_same (da_cons (de_prop (dv 1) T.c_Buffer T.p_Buffer_held G_Buffer_held (hr.mono (by decide))) (da_cons (dv 2) da_nil))) (de_and (de_call G_law_same (hr.mono (by decide)) rfl T.g_law_same T.k_law_same (da_cons (de_prop (dv 1) T.c_Buffer T.p_Buffer_fullest G_Buffer_fullest (hr.mono (by decide))) (da_cons (dv 3) da_nil))) (de_one (de_call G_law_same (hr.mono (by decide)) rfl T.g_law_same T.k_law_same (da_cons (de_fld T.c_Buffer T.n_Buffer_size (dv 1)) (da_cons (dv 4) da_nil)))))))))) (rd_law_buffer_looks A)
theorem sc_law_less : FnScope ["_law_one", "_law_two"] ["_law_one", "_law_two"] (defScope s_law_less) := ⟨rfl, rfl, rfl, by decide +kernel, rfl, by decide +kernel, by decide +kernel⟩
theorem d_law_less {fd : FuncData} (T : Txt K mg A) (F : Fun K "_law_less" "_law_less" s_law_less A.law_less fd) (hb : Binds K fd ["_law_one", "_law_two"] []) : FnD P w K mg base 1 A.law_less (sp_law_less A) :=
  def_ofW (N := ["_law_one", "_law_two"]) (qb := qb_law_less A) F hb sc_law_less (len_law_less A) (fun cdv Ar outer s H E hr =>
    (dss_one (ds_ret (de_cmp do_lt (de_op do_mul (de_idx (hu1 hr) (dv 0) de_int) (de_idx (hu1 hr) (dv 1) de_int)) (de_op do_mul (de_idx (hu1 hr) (dv 1) de_int) (de_idx (hu1 hr) (dv 0) de_int)) (by first | rfl | exact nobehind _ (by decide) (by decide)))))) (rd_law_less A)
theorem sc_law_max : FnScope ["_law_one", "_law_two"] ["_law_one", "_law_two"] (defScope s_law_max) := ⟨rfl, rfl, rfl, by decide +kernel, rfl, by decide +kernel, by decide +kernel⟩
theorem d_law_max {fd : FuncData} (T : Txt K mg A) (F : Fun K "_law_max" "_law_max" s_law_max A.law_max fd) (hb : Binds K fd ["_law_one", "_law_two"] []) (G_law_less : FnD P w K mg base 1 A.law_less (sp_law_less A)) : FnD P w K mg base 2 A.law_max (sp_law_max A) :=
  def_ofW (N := ["_law_one", "_law_two"]) (qb := qb_law_max A) F hb sc_law_max (len_law_max A) (fun cdv Ar outer s H E hr =>
    (dss_one (ds_ret (de_if (dt_val (de_call G_law_less (hr.mono (by decide)) rfl T.g_law_less T.k_law_less (da_cons (dv 0) (da_cons (dv 1) da_nil)))) (dv 1) (dv 0))))) (rd_law_max A)
theorem sc_law_sum : FnScope ["_law_one", "_law_two"] ["_law_one", "_law_two"] (defScope s_law_sum) := ⟨rfl, rfl, rfl, by decide +kernel, rfl, by decide +kernel, by decide +kernel⟩
theorem d_law_sum {fd : FuncData} (T : Txt K mg A) (F : Fun K "_law_sum" "_law_sum" s_law_sum A.law_sum fd) (hb : Binds K fd ["_law_one", "_law_two"] []) (G_law_amount : FnD P w K mg base 1 A.law_amount (sp_law_amount A)) : FnD P w K mg base 2 A.law_sum (sp_law_sum A) :=
  def_ofW (N := ["_law_one", "_law_two"]) (qb := qb_law_sum A) F hb sc_law_sum (len_law_sum A) (fun cdv Ar outer s H E hr =>
    (dss_one (ds_ret (de_call G_law_amount (hr.mono (by decide)) rfl T.g_law_amount T.k_law_amount (da_cons (de_op do_add (de_op do_mul (de_idx (hu1 hr) (dv 0) de_int) (de_idx (hu1 hr) (dv 1) de_int)) (de_op do_mul (de_idx (hu1 hr) (dv 1) de_int) (de_idx (hu1 hr) (dv 0) de_int))) (da_cons (de_op do_mul (de_idx (hu1 hr) (dv 0) de_int) (de_idx (hu1 hr) (dv 1) de_int)) da_nil)))))) (rd_law_sum A)
theorem sc_law_min : FnScope ["_law_one", "_law_two"] ["_law_one", "_law_two"] (defScope s_law_min) := ⟨rfl, rfl, rfl, by decide +kernel, rfl, by decide +kernel, by decide +kernel⟩
theorem d_law_min {fd : FuncData} (T : Txt K mg A) (F : Fun K "_law_min" "_law_min" s_law_min A.law_min fd) (hb : Binds K fd ["_law_one", "_law_two"] []) (G_law_less : FnD P w K mg base 1 A.law_less (sp_law_less A)) : FnD P w K mg base 2 A.law_min (sp_law_min A) :=
  def_ofW (N := ["_law_one", "_law_two"]) (qb := qb_law_min A) F hb sc_law_min (len_law_min A) (fun cdv Ar outer s H E hr =>
    (dss_one (ds_ret (de_if (dt_val (de_call G_law_less (hr.mono (by decide)) rfl T.g_law_less T.k_law_less (da_cons (dv 1) (da_cons (dv 0) da_nil)))) (dv 1) (dv 0))))) (rd_law_min A)
theorem sc_law_scaled : FnScope ["_law_one", "_law_top", "_law_bottom"] ["_law_one", "_law_top", "_law_bottom"] (defScope s_law_scaled) := ⟨rfl, rfl, rfl, by decide +kernel, rfl, by decide +kernel, by decide +kernel⟩
theorem d_law_scaled {fd : FuncData} (T : Txt K mg A) (F : Fun K "_law_scaled" "_law_scaled" s_law_scaled A.law_scaled fd) (hb : Binds K fd ["_law_one", "_law_top", "_law_bottom"] []) (G_law_amount : FnD P w K mg base 1 A.law_amount (sp_law_amount A)) : FnD P w K mg base 2 A.law_scaled (sp_law_scaled A) :=
  def_ofW (N := ["_law_one", "_law_top", "_law_bottom"]) (qb := qb_law_scaled A) F hb sc_law_scaled (len_law_scaled A) (fun cdv Ar outer s H E hr =>
    (dss_one (ds_ret (de_call G_law_amount (hr.mono (by decide)) rfl T.g_law_amount T.k_law_amount (da_cons (de_op do_mul (de_idx (hu1 hr) (dv 0) de_int) (dv 1)) (da_cons (de_op do_mul (de_idx (hu1 hr) (dv 0) de_int) (dv 2)) da_nil)))))) (rd_law_scaled A)
theorem sc_law_part : FnScope ["_law_bag_here", "_law_one", "_law_top", "_law_bottom"] ["_law_bag_here", "_law_one"] (defScope s_law_part) := ⟨rfl, rfl, rfl, by decide +kernel, rfl, by decide +kernel, by decide +kernel⟩
theorem d_law_part {fd : FuncData} (T : Txt K mg A) (F : Fun K "_law_part" "_law_part" s_law_part A.law_part fd) (hb : Binds K fd ["_law_bag_here", "_law_one"] []) (G_law_of : FnD P w K mg base 2 A.law_of (sp_law_of A)) (G_law_scaled : FnD P w K mg base 2 A.law_scaled (sp_law_scaled A)) : FnD P w K mg base 3 A.law_part (sp_law_part A) :=
  def_ofW (N := ["_law_bag_here", "_law_one", "_law_top", "_law_bottom"]) (qb := qb_law_part A) F hb sc_law_part (len_law_part A) (fun cdv Ar outer s H E hr =>
    (dss_cons (ds_asg (de_call G_law_of (hr.mono (by decide)) rfl T.g_law_of T.k_law_of (da_cons (dv 0) (da_cons (de_lstF (da_cons (de_tup (da_cons de_int (da_cons de_int da_nil))) (da_cons (de_tup (da_cons de_int (da_cons de_int da_nil))) (da_cons (de_tup (da_cons de_int (da_cons de_int da_nil))) (da_cons (de_tup (da_cons de_int (da_cons de_int da_nil))) (da_cons (de_tup (da_cons de_int (da_cons de_int da_nil))) (da_cons (de_tup (da_cons de_int (da_cons de_int da_nil))) da_nil))))))) da_nil))) (pt_tp rfl (pts_cn (pt_nm 2 sc_law_part.nd) (pts_cn (pt_nm 3 sc_law_part.nd) pts_nl))))
    (dss_one (ds_ret (de_call G_law_scaled (hr.mono (by decide)) rfl T.g_law_scaled T.k_law_scaled (da_cons (dv 1) (da_cons (dv 2) (da_cons (dv 3) da_nil)))))))) (rd_law_part A)
theorem sc_law_piece : FnScope ["_law_bag_here", "_law_one", "_law_part_here"] ["_law_bag_here", "_law_one"] (defScope s_law_piece) := ⟨rfl, rfl, rfl, by decide +kernel, rfl, by decide +kernel, by decide +kernel⟩
theorem d_law_piece {fd : FuncData} (T : Txt K mg A) (F : Fun K "_law_piece" "_law_piece" s_law_piece A.law_piece fd) (hb : Binds K fd ["_law_bag_here", "_law_one"] []) (G_law_part : FnD P w K mg base 3 A.law_part (sp_law_part A)) : FnD P w K mg base 4 A.law_piece (sp_law_piece A) :=
  def_ofW (N := ["_law_bag_here", "_law_one", "_law_part_here"]) (qb := qb_law_piece A) F hb sc_law_piece (len_law_piece A) (fun cdv Ar outer s H E hr =>
    (dss_cons (ds_set 2 sc_law_piece.nd (de_call G_law_part (hr.mono (by decide)) rfl T.g_law_part T.k_law_part (da_cons (dv 0) (da_cons (dv 1) da_nil))))
    (dss_one (ds_ret (de_if (dt_cmp do_lt (de_idx (hu1 hr) (dv 2) de_int) (de_op do_pow2 de_int de_int) (by first | rfl | exact nobehind _ (by decide) (by decide))) (dv 2) (dv 1)))))) (rd_law_piece A)
theorem sc_law_rest : FnScope ["_law_one", "_law_two"] ["_law_one", "_law_two"] (defScope s_law_rest) := ⟨rfl, rfl, rfl, by decide +kernel, rfl, by decide +kernel, by decide +kernel⟩
theorem d_law_rest {fd : FuncData} (T : Txt K mg A) (F : Fun K "_law_rest" "_law_rest" s_law_rest A.law_rest fd) (hb : Binds K fd ["_law_one", "_law_two"] []) (G_law_amount : FnD P w K mg base 1 A.law_amount (sp_law_amount A)) : FnD P w K mg base 2 A.law_rest (sp_law_rest A) :=
  def_ofW (N := ["_law_one", "_law_two"]) (qb := qb_law_rest A) F hb sc_law_rest (len_law_rest A) (fun cdv Ar outer s H E hr =>
    (dss_one (ds_ret (de_call G_law_amount (hr.mono (by decide)) rfl T.g_law_amount T.k_law_amount (da_cons (de_callB (db_max2 rfl) rfl T.z_max (by decide +kernel) (da_cons (de_op do_sub (de_op do_mul (de_idx (hu1 hr) (dv 0) de_int) (de_idx (hu1 hr) (dv 1) de_int)) (de_op do_mul (de_idx (hu1 hr) (dv 1) de_int) (de_idx (hu1 hr) (dv 0) de_int))) (da_cons de_int da_nil))) (da_cons (de_op do_mul (de_idx (hu1 hr) (dv 0) de_int) (de_idx (hu1 hr) (dv 1) de_int)) da_nil)))))) (rd_law_rest A)
theorem sc_p_lowest : FnScope ["top", "bottom", "common"] ["top", "bottom"] (defScope s_p_lowest) := ⟨rfl, rfl, rfl, by decide +kernel, rfl, by decide +kernel, by decide +kernel⟩
theorem d_p_lowest {fd : FuncData} (T : Txt K mg A) (F : Fun K "_lowest" "_lowest" s_p_lowest A.p_lowest fd) (hb : Binds K fd ["top", "bottom"] []) : FnD P w K mg base 1 A.p_lowest (sp_p_lowest A) :=
  def_ofW (N := ["top", "bottom", "common"]) (qb := qb_p_lowest A) F hb sc_p_lowest (len_p_lowest A) (fun cdv Ar outer s H E hr =>
    (dss_cons (ds_set 2 sc_p_lowest.nd (de_callBfun db_gcd rfl T.i_gcd (da_cons (dv 0) (da_cons (dv 1) da_nil))))
    (dss_one (ds_ret (de_tup (da_cons (de_op do_fdiv (dv 0) (dv 2)) (da_cons (de_op do_fdiv (dv 1) (dv 2)) da_nil))))))) (rd_p_lowest A)
theorem sc_plus : FnScope ["amounts", "top", "bottom", "more", "parts", "common"] ["amounts"] (defScope s_plus) := ⟨rfl, rfl, rfl, by decide +kernel, rfl, by decide +kernel, by decide +kernel⟩
theorem d_plus {fd : FuncData} (T : Txt K mg A) (F : Fun K "plus" "plus" s_plus A.plus fd) (G_p_lowest : FnD P w K mg base 1 A.p_lowest (sp_p_lowest A)) : FnD P w K mg base 2 A.plus (sp_plus_s A) :=
  star_ofW (N := ["amounts", "top", "bottom", "more", "parts", "common"]) (ps := []) (pv := "amounts") (sp := sp_plus A) (qb := qb_plus A) F sc_plus (fun kV dc pm an cdv ct us rest hl => match us, hl, rest with | [], _, [] => rfl | [], _, _ :: _ => rfl) (fun cdv Ar outer s H E hr =>
    (dss_cons (ds_asg (de_glob (.tup [(.int 0), (.int 1)]) rfl T.g_ZERO T.t_ZERO) (pt_tp rfl (pts_cn (pt_nm 1 sc_plus.nd) (pts_cn (pt_nm 2 sc_plus.nd) pts_nl))))
    (dss_cons (ds_for PassesOwn.never rfl (di_tup (dv 0)) (pt_tp rfl (pts_cn (pt_nm 3 sc_plus.nd) (pts_cn (pt_nm 4 sc_plus.nd) pts_nl))) (dss_one (ds_if (dt_cmp (do_eq2 (hu64 hr)) (dv 4) (dv 2) (by first | rfl | exact nobehind _ (by decide) (by decide))) (dss_one (ds_aug 1 sc_plus.nd do_iadd (dv 3))) (dss_cons (ds_set 5 sc_plus.nd (de_callBfun db_gcd rfl T.i_gcd (da_cons (dv 2) (da_cons (dv 4) da_nil))))
    (dss_cons (ds_set 1 sc_plus.nd (de_op do_add (de_op do_mul (dv 1) (de_op do_fdiv (dv 4) (dv 5))) (de_op do_mul (dv 3) (de_op do_fdiv (dv 2) (dv 5)))))
    (dss_one (ds_set 2 sc_plus.nd (de_op do_mul (de_op do_fdiv (dv 2) (dv 5)) (dv 4)))))))))
    (dss_one (ds_ret (de_call G_p_lowest (hr.mono (by decide)) rfl T.g_p_lowest T.k_p_lowest (da_cons (dv 1) (da_cons (dv 2) da_nil)))))))) (rd_plus A)
theorem sc_compare : FnScope ["first", "second", "left", "right"] ["first", "second"] (defScope s_compare) := ⟨rfl, rfl, rfl, by decide +kernel, rfl, by decide +kernel, by decide +kernel⟩
theorem d_compare {fd : FuncData} (T : Txt K mg A) (F : Fun K "compare" "compare" s_compare A.compare fd) (hb : Binds K fd ["first", "second"] []) : FnD P w K mg base 1 A.compare (sp_compare A) :=
  def_ofW (N := ["first", "second", "left", "right"]) (qb := qb_compare A) F hb sc_compare (len_compare A) (fun cdv Ar outer s H E hr =>
    (dss_cons (ds_set 2 sc_compare.nd (de_op do_mul (de_idx (hu1 hr) (dv 0) de_int) (de_idx (hu1 hr) (dv 1) de_int)))
    (dss_cons (ds_set 3 sc_compare.nd (de_op do_mul (de_idx (hu1 hr) (dv 1) de_int) (de_idx (hu1 hr) (dv 0) de_int)))
    (dss_cons (ds_if (dt_cmp (do_eq2 (hu64 hr)) (dv 2) (dv 3) (by first | rfl | exact nobehind _ (by decide) (by decide))) (dss_one (ds_ret de_int)) dss_nil)
    (dss_one (ds_ret (de_if (dt_cmp do_lt (dv 2) (dv 3) (by first | rfl | exact nobehind _ (by decide) (by decide))) (de_neg de_int) de_int))))))) (rd_compare A)
theorem sc_largest : FnScope ["first", "others", "found", "other"] ["first", "others"] (defScope s_largest) := ⟨rfl, rfl, rfl, by decide +kernel, rfl, by decide +kernel, by decide +kernel⟩
theorem d_largest {fd : FuncData} (T : Txt K mg A) (F : Fun K "largest" "largest" s_largest A.largest fd) (G_compare : FnD P w K mg base 1 A.compare (sp_compare A)) : FnD P w K mg base 2 A.largest (sp_largest_s A) :=
  star_ofW (N := ["first", "others", "found", "other"]) (ps := ["first"]) (pv := "others") (sp := sp_largest A) (qb := qb_largest A) F sc_largest (fun kV dc pm an cdv ct us rest hl => match us, hl, rest with | [_], _, [] => rfl | [_], _, _ :: _ => rfl) (fun cdv Ar outer s H E hr =>
    (dss_cons (ds_set 2 sc_largest.nd (dv 0))
    (dss_cons (ds_for PassesOwn.never rfl (di_tup (dv 1)) (pt_nm 3 sc_largest.nd) (dss_one (ds_if (dt_cmp do_gt (de_call G_compare (hr.mono (by decide)) rfl T.g_compare T.k_compare (da_cons (dv 3) (da_cons (dv 2) da_nil))) de_int (by first | rfl | exact nobehind _ (by decide) (by decide))) (dss_one (ds_set 2 sc_largest.nd (dv 3))) dss_nil)))
    (dss_one (ds_ret (dv 2)))))) (rd_largest A)
theorem sc_Buffer_set_to : FnScope ["self", "water"] ["self", "water"] (defScope s_Buffer_set_to) := ⟨rfl, rfl, rfl, by decide +kernel, rfl, by decide +kernel, by decide +kernel⟩
theorem d_Buffer_set_to {fd : FuncData} (T : Txt K mg A) (F : Fun K "set_to" "Buffer.set_to" s_Buffer_set_to A.Buffer_set_to fd) (hb : Binds K fd ["self", "water"] []) (G_largest : FnD P w K mg base 2 A.largest (sp_largest_s A)) : FnD P w K mg base 3 A.Buffer_set_to (sp_Buffer_set_to A) :=
  def_ofW (N := ["self", "water"]) (qb := qb_Buffer_set_to A) F hb sc_Buffer_set_to (len_Buffer_set_to A) (fun cdv Ar outer s H E hr =>
    (dss_cons (ds_setF T.c_Buffer T.n_Buffer_p_held (dv 0) (dv 1))
    (dss_one (ds_setF T.c_Buffer T.n_Buffer_p_fullest (dv 0) (de_call G_largest (hr.mono (by decide)) rfl T.g_largest T.k_largest (da_cons (de_fld T.c_Buffer T.n_Buffer_p_fullest (dv 0)) (da_cons (dv 1) da_nil))))))) (rd_Buffer_set_to A)
theorem sc_minus : FnScope ["first", "second", "top"] ["first", "second"] (defScope s_minus) := ⟨rfl, rfl, rfl, by decide +kernel, rfl, by decide +kernel, by decide +kernel⟩
theorem d_minus {fd : FuncData} (T : Txt K mg A) (F : Fun K "minus" "minus" s_minus A.minus fd) (hb : Binds K fd ["first", "second"] []) (G_p_lowest : FnD P w K mg base 1 A.p_lowest (sp_p_lowest A)) : FnD P w K mg base 2 A.minus (sp_minus A) :=
  def_ofW (N := ["first", "second", "top"]) (qb := qb_minus A) F hb sc_minus (len_minus A) (fun cdv Ar outer s H E hr =>
    (dss_cons (ds_set 2 sc_minus.nd (de_op do_sub (de_op do_mul (de_idx (hu1 hr) (dv 0) de_int) (de_idx (hu1 hr) (dv 1) de_int)) (de_op do_mul (de_idx (hu1 hr) (dv 1) de_int) (de_idx (hu1 hr) (dv 0) de_int))))
    (dss_cons (ds_if (dt_cmp do_lt (dv 2) de_int (by first | rfl | exact nobehind _ (by decide) (by decide))) (dss_one ds_never) dss_nil)
    (dss_one (ds_ret (de_call G_p_lowest (hr.mono (by decide)) rfl T.g_p_lowest T.k_p_lowest (da_cons (dv 2) (da_cons (de_op do_mul (de_idx (hu1 hr) (dv 0) de_int) (de_idx (hu1 hr) (dv 1) de_int)) da_nil)))))))) (rd_minus A)
theorem sc_Buffer_take_in : FnScope ["self", "water", "whole"] ["self", "water"] (defScope s_Buffer_take_in) := ⟨rfl, rfl, rfl, by decide +kernel, rfl, by decide +kernel, by decide +kernel⟩
theorem d_Buffer_take_in {fd : FuncData} (T : Txt K mg A) (F : Fun K "take_in" "Buffer.take_in" s_Buffer_take_in A.Buffer_take_in fd) (hb : Binds K fd ["self", "water"] []) (G_plus : FnD P w K mg base 2 A.plus (sp_plus_s A)) (G_compare : FnD P w K mg base 1 A.compare (sp_compare A)) (G_Buffer_set_to : FnD P w K mg base 3 A.Buffer_set_to (sp_Buffer_set_to A)) (G_minus : FnD P w K mg base 2 A.minus (sp_minus A)) : FnD P w K mg base 4 A.Buffer_take_in (sp_Buffer_take_in A) :=
  def_ofW (N := ["self", "water", "whole"]) (qb := qb_Buffer_take_in A) F hb sc_Buffer_take_in (len_Buffer_take_in A) (fun cdv Ar outer s H E hr =>
    (dss_cons (ds_set 2 sc_Buffer_take_in.nd (de_call G_plus (hr.mono (by decide)) rfl T.g_plus T.k_plus (da_cons (de_fld T.c_Buffer T.n_Buffer_p_held (dv 0)) (da_cons (dv 1) da_nil))))
    (dss_cons (ds_if (dt_cmp do_le (de_call G_compare (hr.mono (by decide)) rfl T.g_compare T.k_compare (da_cons (dv 2) (da_cons (de_fld T.c_Buffer T.n_Buffer_size (dv 0)) da_nil))) de_int (by first | rfl | exact nobehind _ (by decide) (by decide))) (dss_cons (ds_expr (de_meth (dv 0) T.c_Buffer T.m_Buffer_set_to G_Buffer_set_to (hr.mono (by decide)) (da_cons (dv 2) da_nil)))
    (dss_one (ds_ret (de_glob (.tup [(.int 0), (.int 1)]) rfl T.g_ZERO T.t_ZERO)))) dss_nil)
    (dss_cons (ds_expr (de_meth (dv 0) T.c_Buffer T.m_Buffer_set_to G_Buffer_set_to (hr.mono (by decide)) (da_cons (de_fld T.c_Buffer T.n_Buffer_size (dv 0)) da_nil)))
    (dss_one (ds_ret (de_call G_minus (hr.mono (by decide)) rfl T.g_minus T.k_minus (da_cons (dv 2) (da_cons (de_fld T.c_Buffer T.n_Buffer_size (dv 0)) da_nil))))))))) (rd_Buffer_take_in A)
theorem sc_Buffer_give : FnScope ["self", "water"] ["self", "water"] (defScope s_Buffer_give) := ⟨rfl, rfl, rfl, by decide +kernel, rfl, by decide +kernel, by decide +kernel⟩
theorem d_Buffer_give {fd : FuncData} (T : Txt K mg A) (F : Fun K "give" "Buffer.give" s_Buffer_give A.Buffer_give fd) (hb : Binds K fd ["self", "water"] []) (G_compare : FnD P w K mg base 1 A.compare (sp_compare A)) (G_minus : FnD P w K mg base 2 A.minus (sp_minus A)) : FnD P w K mg base 3 A.Buffer_give (sp_Buffer_give A) :=
  def_ofW (N := ["self", "water"]) (qb := qb_Buffer_give A) F hb sc_Buffer_give (len_Buffer_give A) (fun cdv Ar outer s H E hr =>
    (dss_cons (ds_if (dt_cmp do_gt (de_call G_compare (hr.mono (by decide)) rfl T.g_compare T.k_compare (da_cons (dv 1) (da_cons (de_fld T.c_Buffer T.n_Buffer_p_held (dv 0)) da_nil))) de_int (by first | rfl | exact nobehind _ (by decide) (by decide))) (dss_one ds_never) dss_nil)
    (dss_one (ds_setF T.c_Buffer T.n_Buffer_p_held (dv 0) (de_call G_minus (hr.mono (by decide)) rfl T.g_minus T.k_minus (da_cons (de_fld T.c_Buffer T.n_Buffer_p_held (dv 0)) (da_cons (dv 1) da_nil))))))) (rd_Buffer_give A)
theorem dx_Buffer_give {fd : FuncData} (T : Txt K mg A) (F : Fun K "give" "Buffer.give" s_Buffer_give A.Buffer_give fd) (hb : Binds K fd ["self", "water"] []) (X_Short : Ex1 P w K mg base "Short" A.Short "amount") (G_compare : FnD P w K mg base 1 A.compare (sp_compare A)) (G_minus : FnD P w K mg base 2 A.minus (sp_minus A)) : FnDX P w K mg base 3 A.Buffer_give (spx_Buffer_give A) :=
  defX_of (N := ["self", "water"]) (qb := qbx_Buffer_give A) F hb sc_Buffer_give (lenx_Buffer_give A) (fun cdv Ar outer s H E hr =>
    (xss_cons (xs_if (dt_cmp do_gt (de_call G_compare (hr.mono (by decide)) rfl T.g_compare T.k_compare (da_cons (dv 1) (da_cons (de_fld T.c_Buffer T.n_Buffer_p_held (dv 0)) da_nil))) de_int (by first | rfl | exact nobehind _ (by decide) (by decide))) (xss_one (xs_raise1 rfl X_Short (hr.mono (by decide)) (L2N.takes_of rfl rfl rfl rfl) (dv 1))) (xss_of dss_nil))
    (xss_one (xs_of (ds_setF T.c_Buffer T.n_Buffer_p_held (dv 0) (de_call G_minus (hr.mono (by decide)) rfl T.g_minus T.k_minus (da_cons (de_fld T.c_Buffer T.n_Buffer_p_held (dv 0)) (da_cons (dv 1) da_nil)))))))) (rdx_Buffer_give A)
theorem sc_law_short : FnScope ["_law_told", "_law_one", "error"] ["_law_told", "_law_one"] (defScope s_law_short) := ⟨rfl, rfl, rfl, by decide +kernel, rfl, by decide +kernel, by decide +kernel⟩
theorem d_law_short {fd : FuncData} (T : Txt K mg A) (F : Fun K "_law_short" "_law_short" s_law_short A.law_short fd) (hb : Binds K fd ["_law_told", "_law_one"] []) (G_law_same : FnD P w K mg base 4 A.law_same (sp_law_same 4 A)) (GX_Buffer_give : FnDX P w K mg base 3 A.Buffer_give (spx_Buffer_give A)) (GH_law_same : FnDH P w K mg base 4 A.law_same (sph_law_same 4 A)) : FnD P w K mg base 5 A.law_short (sp_law_short A) :=
  def_ofW (N := ["_law_told", "_law_one", "error"]) (qb := qb_law_short A) F hb sc_law_short (len_law_short A) (fun cdv Ar outer s H E hr =>
    (dss_cons (ds_try rfl rfl sc_law_short.nd rfl rfl (by exact ⟨rfl, by decide, .inl T.xg_Short⟩) T.xm_Short_Short (fun W pn xe tk => (xss_one (xs_exprM (dv 0) T.c_Buffer T.m_Buffer_give GX_Buffer_give (hr.mono (by decide)) tk (da_cons (dv 1) da_nil)))) (fun a oe cls d pn hz hf => (dss_one (ds_ret (de_and (de_callH GH_law_same (room_suite (hr.mono (by decide))) (hot_suite hz hf) rfl T.g_law_same T.k_law_same (da_cons (de_xf T.xk_Short.xf T.xn_Short_amount hz.zc hf (dv 2)) (da_cons (dv 1) da_nil))) (de_one (de_isE T.xk_Short.xc hz.zc hf rfl T.z_isinstance rfl T.xg_BandError T.xi_Short_BandError (dv 2))))))))
    (dss_one (ds_ret de_bl)))) (rd_law_short A)
theorem sc_law_buffer_deed : FnScope ["_law_bag_here", "_law_side", "_law_told", "_law_here", "_law_most", "_law_top", "_law_how", "_law_one", "_law_full", "_law_part_here"] ["_law_bag_here", "_law_side"] (defScope s_law_buffer_deed) := ⟨rfl, rfl, rfl, by decide +kernel, rfl, by decide +kernel, by decide +kernel⟩
theorem d_law_buffer_deed {fd : FuncData} (T : Txt K mg A) (F : Fun K "_law_buffer_deed" "_law_buffer_deed" s_law_buffer_deed A.law_buffer_deed fd) (hb : Binds K fd ["_law_bag_here", "_law_side"] []) (G_law_of : FnD P w K mg base 2 A.law_of (sp_law_of A)) (G_law_rest : FnD P w K mg base 2 A.law_rest (sp_law_rest A)) (G_law_some : FnD P w K mg base 3 A.law_some (sp_law_some A)) (G_law_draw : FnD P w K mg base 1 A.law_draw (sp_law_draw A)) (G_law_sum : FnD P w K mg base 2 A.law_sum (sp_law_sum A)) (G_law_same : FnD P w K mg base 4 A.law_same (sp_law_same 4 A)) (G_Buffer_take_in : FnD P w K mg base 4 A.Buffer_take_in (sp_Buffer_take_in A)) (G_law_min : FnD P w K mg base 2 A.law_min (sp_law_min A)) (G_law_piece : FnD P w K mg base 4 A.law_piece (sp_law_piece A)) (G_Buffer_give : FnD P w K mg base 3 A.Buffer_give (sp_Buffer_give A)) (G_law_short : FnD P w K mg base 5 A.law_short (sp_law_short A)) (G_law_max : FnD P w K mg base 2 A.law_max (sp_law_max A)) (G_Buffer_set_to : FnD P w K mg base 3 A.Buffer_set_to (sp_Buffer_set_to A)) : FnD P w K mg base 6 A.law_buffer_deed (sp_law_buffer_deed A) :=
  def_ofW (N := ["_law_bag_here", "_law_side", "_law_told", "_law_here", "_law_most", "_law_top", "_law_how", "_law_one", "_law_full", "_law_part_here"]) (qb := qb_law_buffer_deed A) F hb sc_law_buffer_deed (len_law_buffer_deed A) (fun cdv Ar outer s H E hr =>
    (dss_cons (ds_asg (de_tup (da_cons (de_idx (hu1 hr) (dv 1) de_int) (da_cons (de_idx (hu1 hr) (dv 1) de_int) (da_cons (de_idx (hu1 hr) (dv 1) de_int) (da_cons (de_idx (hu1 hr) (dv 1) de_int) da_nil))))) (pt_tp rfl (pts_cn (pt_nm 2 sc_law_buffer_deed.nd) (pts_cn (pt_nm 3 sc_law_buffer_deed.nd) (pts_cn (pt_nm 4 sc_law_buffer_deed.nd) (pts_cn (pt_nm 5 sc_law_buffer_deed.nd) pts_nl))))))
    (dss_cons (ds_par 6 7 rfl sc_law_buffer_deed.nd (da_cons (de_call G_law_draw (hr.mono (by decide)) rfl T.g_law_draw T.k_law_draw (da_cons (dv 0) (da_cons de_int da_nil))) (da_cons (de_call G_law_of (hr.mono (by decide)) rfl T.g_law_of T.k_law_of (da_cons (dv 0) (da_cons (de_lstF (da_cons (de_call G_law_some (hr.mono (by decide)) rfl T.g_law_some T.k_law_some (da_cons (dv 0) (da_cons de_int da_nil))) (da_cons (de_call G_law_some (hr.mono (by decide)) rfl T.g_law_some T.k_law_some (da_cons (dv 0) (da_cons de_int da_nil))) (da_cons (de_tup (da_cons de_int (da_cons de_int da_nil))) (da_cons (de_call G_law_rest (hr.mono (by decide)) rfl T.g_law_rest T.k_law_rest (da_cons (dv 5) (da_cons (dv 3) da_nil))) da_nil))))) da_nil))) da_nil)))
    (dss_cons (ds_if (dt_cmp do_lt (dv 6) de_int (by first | rfl | exact nobehind _ (by decide) (by decide))) (dss_cons (ds_set 8 sc_law_buffer_deed.nd (de_call G_law_sum (hr.mono (by decide)) rfl T.g_law_sum T.k_law_sum (da_cons (dv 3) (da_cons (dv 7) da_nil))))
    (dss_cons (ds_if (dt_not (dt_val (de_call G_law_same (hr.mono (by decide)) rfl T.g_law_same T.k_law_same (da_cons (de_meth (dv 2) T.c_Buffer T.m_Buffer_take_in G_Buffer_take_in (hr.mono (by decide)) (da_cons (dv 7) da_nil)) (da_cons (de_call G_law_rest (hr.mono (by decide)) rfl T.g_law_rest T.k_law_rest (da_cons (dv 8) (da_cons (dv 5) da_nil))) da_nil))))) (dss_one (ds_ret de_bl)) dss_nil)
    (dss_one (ds_sub (hu1 hr) (dv 1) de_int (de_call G_law_min (hr.mono (by decide)) rfl T.g_law_min T.k_law_min (da_cons (dv 8) (da_cons (dv 5) da_nil))))))) (dss_one (ds_if (dt_cmp (do_eq2 (hu64 hr)) (dv 6) de_int (by first | rfl | exact nobehind _ (by decide) (by decide))) (dss_cons (ds_set 9 sc_law_buffer_deed.nd (de_call G_law_piece (hr.mono (by decide)) rfl T.g_law_piece T.k_law_piece (da_cons (dv 0) (da_cons (dv 3) da_nil))))
    (dss_cons (ds_if (dt_cmp do_notN (de_meth (dv 2) T.c_Buffer T.m_Buffer_give G_Buffer_give (hr.mono (by decide)) (da_cons (dv 9) da_nil)) de_non (by first | rfl | exact nobehind _ (by decide) (by decide))) (dss_one (ds_ret de_bl)) dss_nil)
    (dss_one (ds_sub (hu1 hr) (dv 1) de_int (de_call G_law_rest (hr.mono (by decide)) rfl T.g_law_rest T.k_law_rest (da_cons (dv 3) (da_cons (dv 9) da_nil))))))) (dss_one (ds_if (dt_cmp (do_eq2 (hu64 hr)) (dv 6) de_int (by first | rfl | exact nobehind _ (by decide) (by decide))) (dss_one (ds_if (dt_not (dt_val (de_call G_law_short (hr.mono (by decide)) rfl T.g_law_short T.k_law_short (da_cons (dv 2) (da_cons (de_call G_law_sum (hr.mono (by decide)) rfl T.g_law_sum T.k_law_sum (da_cons (dv 3) (da_cons (de_call G_law_max (hr.mono (by decide)) rfl T.g_law_max T.k_law_max (da_cons (dv 7) (da_cons (de_tup (da_cons de_int (da_cons de_int da_nil))) da_nil))) da_nil))) da_nil))))) (dss_one (ds_ret de_bl)) dss_nil)) (dss_cons (ds_set 9 sc_law_buffer_deed.nd (de_call G_law_piece (hr.mono (by decide)) rfl T.g_law_piece T.k_law_piece (da_cons (dv 0) (da_cons (dv 5) da_nil))))
    (dss_cons (ds_if (dt_cmp do_notN (de_meth (dv 2) T.c_Buffer T.m_Buffer_set_to G_Buffer_set_to (hr.mono (by decide)) (da_cons (dv 9) da_nil)) de_non (by first | rfl | exact nobehind _ (by decide) (by decide))) (dss_one (ds_ret de_bl)) dss_nil)
    (dss_one (ds_sub (hu1 hr) (dv 1) de_int (dv 9))))))))))
    (dss_cons (ds_sub (hu1 hr) (dv 1) de_int (de_call G_law_max (hr.mono (by decide)) rfl T.g_law_max T.k_law_max (da_cons (dv 4) (da_cons (de_idx (hu1 hr) (dv 1) de_int) da_nil))))
    (dss_one (ds_ret de_bl))))))) (rd_law_buffer_deed A)
theorem sc_Wire_init : FnScope ["self", "way"] ["self", "way"] (defScope s_Wire_init) := ⟨rfl, rfl, rfl, by decide +kernel, rfl, by decide +kernel, by decide +kernel⟩
theorem d_Wire_init {fd : FuncData} (T : Txt K mg A) (F : Fun K "__init__" "Wire.__init__" s_Wire_init A.Wire_init fd) (hb : Binds K fd ["self", "way"] []) : FnD P w K mg base 1 A.Wire_init (sp_Wire_init A) :=
  def_ofW (N := ["self", "way"]) (qb := qb_Wire_init A) F hb sc_Wire_init (len_Wire_init A) (fun cdv Ar outer s H E hr =>
    (dss_cons (ds_setF T.c_Wire T.n_Wire_p_way (dv 0) (dv 1))
    (dss_one (ds_setF T.c_Wire T.n_Wire_p_sent (dv 0) de_dnewK)))) (rd_Wire_init A)
theorem sc_Hop_init : FnScope ["self", "way", "age"] ["self", "way", "age"] (defScope s_Hop_init) := ⟨rfl, rfl, rfl, by decide +kernel, rfl, by decide +kernel, by decide +kernel⟩
theorem d_Hop_init {fd : FuncData} (T : Txt K mg A) (F : Fun K "__init__" "Hop.__init__" s_Hop_init A.Hop_init fd) (hb : Binds K fd ["self", "way", "age"] []) : FnD P w K mg base 1 A.Hop_init (sp_Hop_init A) :=
  def_ofW (N := ["self", "way", "age"]) (qb := qb_Hop_init A) F hb sc_Hop_init (len_Hop_init A) (fun cdv Ar outer s H E hr =>
    (dss_cons (ds_setF T.c_Hop T.n_Hop_p_way (dv 0) (dv 1))
    (dss_cons (ds_setF T.c_Hop T.n_Hop_p_age (dv 0) (dv 2))
    (dss_one (ds_setF T.c_Hop T.n_Hop_p_sent (dv 0) de_dnewK))))) (rd_Hop_init A)
theorem sc_Hop_sent_after : FnScope ["self", "tick", "now", "waters", "sent", "put"] ["self", "tick", "now"] (defScope s_Hop_sent_after) := ⟨rfl, rfl, rfl, by decide +kernel, rfl, by decide +kernel, by decide +kernel⟩
theorem d_Hop_sent_after {fd : FuncData} (T : Txt K mg A) (F : Fun K "sent_after" "Hop.sent_after" s_Hop_sent_after A.Hop_sent_after fd) (hb : Binds K fd ["self", "tick", "now"] []) (G_plus : FnD P w K mg base 2 A.plus (sp_plus_s A)) : FnD P w K mg base 3 A.Hop_sent_after (sp_Hop_sent_after A) :=
  def_ofW (N := ["self", "tick", "now", "waters", "sent", "put"]) (qb := qb_Hop_sent_after A) F hb sc_Hop_sent_after (len_Hop_sent_after A) (fun cdv Ar outer s H E hr =>
    (dss_cons (ds_lock (ds_setLcF 3 rfl sc_Hop_sent_after.nd (di_items (de_fld T.c_Hop T.n_Hop_p_sent (dv 0))) (own := [("sent", 4), ("put", 5)]) (by show BlkOk ["self", "tick", "now", "waters", "sent", "put"] (defScope s_Hop_sent_after) _ _; exact ⟨rfl, by decide +kernel, by decide +kernel, by decide +kernel, by decide +kernel⟩) (fun _ _ _ _ _ => (pt_tp rfl (pts_cn (pt_nm 4 sc_Hop_sent_after.nd) (pts_cn (pt_nm 5 sc_Hop_sent_after.nd) pts_nl)))) (fun _ _ _ _ _ => dts_one (dt_chain do_lt do_lt (dv 1) (dv 4) (dv 2))) (fun _ _ _ _ _ => (dv 5))))
    (dss_one (ds_ret (de_callS1 G_plus (hr.mono (by decide)) T.k_plus rfl T.g_plus (dv 3)))))) (rd_Hop_sent_after A)
theorem sc_law_all : FnScope ["_law_row", "_law_found", "_law_one"] ["_law_row"] (defScope s_law_all) := ⟨rfl, rfl, rfl, by decide +kernel, rfl, by decide +kernel, by decide +kernel⟩
theorem d_law_all {fd : FuncData} (T : Txt K mg A) (F : Fun K "_law_all" "_law_all" s_law_all A.law_all fd) (hb : Binds K fd ["_law_row"] []) (G_law_sum : FnD P w K mg base 2 A.law_sum (sp_law_sum A)) : FnD P w K mg base 3 A.law_all (sp_law_all A) :=
  def_ofW (N := ["_law_row", "_law_found", "_law_one"]) (qb := qb_law_all A) F hb sc_law_all (len_law_all A) (fun cdv Ar outer s H E hr =>
    (dss_cons (ds_set 1 sc_law_all.nd (de_tup (da_cons de_int (da_cons de_int da_nil))))
    (dss_cons (ds_for PassesOwn.never rfl (di_lst (dv 0)) (pt_nm 2 sc_law_all.nd) (dss_one (ds_set 1 sc_law_all.nd (de_call G_law_sum (hr.mono (by decide)) rfl T.g_law_sum T.k_law_sum (da_cons (dv 1) (da_cons (dv 2) da_nil))))))
    (dss_one (ds_ret (dv 1)))))) (rd_law_all A)
theorem sc_Wire_put : FnScope ["self", "tick", "water"] ["self", "tick", "water"] (defScope s_Wire_put) := ⟨rfl, rfl, rfl, by decide +kernel, rfl, by decide +kernel, by decide +kernel⟩
theorem d_Wire_put {fd : FuncData} (T : Txt K mg A) (F : Fun K "put" "Wire.put" s_Wire_put A.Wire_put fd) (hb : Binds K fd ["self", "tick", "water"] []) : FnD P w K mg base 1 A.Wire_put (sp_Wire_put A) :=
  def_ofW (N := ["self", "tick", "water"]) (qb := qb_Wire_put A) F hb sc_Wire_put (len_Wire_put A) (fun cdv Ar outer s H E hr =>
    (dss_one (ds_sub (hu1 hr) (de_fld T.c_Wire T.n_Wire_p_sent (dv 0)) (dv 1) (dv 2)))) (rd_Wire_put A)
theorem sc_Wire_arriving : FnScope ["self", "tick"] ["self", "tick"] (defScope s_Wire_arriving) := ⟨rfl, rfl, rfl, by decide +kernel, rfl, by decide +kernel, by decide +kernel⟩
theorem d_Wire_arriving {fd : FuncData} (T : Txt K mg A) (F : Fun K "arriving" "Wire.arriving" s_Wire_arriving A.Wire_arriving fd) (hb : Binds K fd ["self", "tick"] []) : FnD P w K mg base 1 A.Wire_arriving (sp_Wire_arriving A) :=
  def_ofW (N := ["self", "tick"]) (qb := qb_Wire_arriving A) F hb sc_Wire_arriving (len_Wire_arriving A) (fun cdv Ar outer s H E hr =>
    (dss_one (ds_ret (de_dget2 (hu1 hr) (de_fld T.c_Wire T.n_Wire_p_sent (dv 0)) (de_op do_sub (dv 1) (de_fld T.c_Wire T.n_Wire_p_way (dv 0))) (de_glob (.tup [(.int 0), (.int 1)]) rfl T.g_ZERO T.t_ZERO))))) (rd_Wire_arriving A)
theorem sc_Wire_under_way : FnScope ["self", "tick", "waters", "sent"] ["self", "tick"] (defScope s_Wire_under_way) := ⟨rfl, rfl, rfl, by decide +kernel, rfl, by decide +kernel, by decide +kernel⟩
theorem d_Wire_under_way {fd : FuncData} (T : Txt K mg A) (F : Fun K "under_way" "Wire.under_way" s_Wire_under_way A.Wire_under_way fd) (hb : Binds K fd ["self", "tick"] []) (G_plus : FnD P w K mg base 2 A.plus (sp_plus_s A)) : FnD P w K mg base 3 A.Wire_under_way (sp_Wire_under_way A) :=
  def_ofW (N := ["self", "tick", "waters", "sent"]) (qb := qb_Wire_under_way A) F hb sc_Wire_under_way (len_Wire_under_way A) (fun cdv Ar outer s H E hr =>
    (dss_cons (ds_setLcF 2 rfl sc_Wire_under_way.nd (di_range2 rfl T.z_range (da_cons (de_op do_add (de_op do_sub (dv 1) (de_fld T.c_Wire T.n_Wire_p_way (dv 0))) de_int) (da_cons (de_op do_add (dv 1) de_int) da_nil))) (own := [("sent", 3)]) (by show BlkOk ["self", "tick", "waters", "sent"] (defScope s_Wire_under_way) _ _; exact ⟨rfl, by decide +kernel, by decide +kernel, by decide +kernel, by decide +kernel⟩) (fun _ _ _ _ _ => (pt_nm 3 sc_Wire_under_way.nd)) (fun _ _ _ _ _ => dts_nil (K := _)) (fun _ _ _ _ _ => (de_dget2 (hu1 hr) (de_fld T.c_Wire T.n_Wire_p_sent (dv 0)) (dv 3) (de_glob (.tup [(.int 0), (.int 1)]) rfl T.g_ZERO T.t_ZERO))))
    (dss_one (ds_ret (de_callS1 G_plus (hr.mono (by decide)) T.k_plus rfl T.g_plus (dv 2)))))) (rd_Wire_under_way A)
theorem sc_law_wire_deed : FnScope ["_law_bag_here", "_law_side", "_law_wire", "_law_table", "_law_way_of", "_law_at", "_law_one", "_law_k", "_law_now_of", "_law_due", "_law_key"] ["_law_bag_here", "_law_side"] (defScope s_law_wire_deed) := ⟨rfl, rfl, rfl, by decide +kernel, rfl, by decide +kernel, by decide +kernel⟩
theorem d_law_wire_deed {fd : FuncData} (T : Txt K mg A) (F : Fun K "_law_wire_deed" "_law_wire_deed" s_law_wire_deed A.law_wire_deed fd) (hb : Binds K fd ["_law_bag_here", "_law_side"] []) (G_law_some : FnD P w K mg base 3 A.law_some (sp_law_some A)) (G_law_draw : FnD P w K mg base 1 A.law_draw (sp_law_draw A)) (G_Wire_put : FnD P w K mg base 1 A.Wire_put (sp_Wire_put A)) (G_law_same : FnD P w K mg base 4 A.law_same (sp_law_same 4 A)) (G_Wire_arriving : FnD P w K mg base 1 A.Wire_arriving (sp_Wire_arriving A)) (G_law_all : FnD P w K mg base 3 A.law_all (sp_law_all A)) (G_Wire_under_way : FnD P w K mg base 3 A.Wire_under_way (sp_Wire_under_way A)) : FnD P w K mg base 5 A.law_wire_deed (sp_law_wire_deed A) :=
  def_ofW (N := ["_law_bag_here", "_law_side", "_law_wire", "_law_table", "_law_way_of", "_law_at", "_law_one", "_law_k", "_law_now_of", "_law_due", "_law_key"]) (qb := qb_law_wire_deed A) F hb sc_law_wire_deed (len_law_wire_deed A) (fun cdv Ar outer s H E hr =>
    (dss_cons (ds_asg (dv 1) (pt_tp rfl (pts_cn (pt_nm 2 sc_law_wire_deed.nd) (pts_cn (pt_nm 3 sc_law_wire_deed.nd) (pts_cn (pt_nm 4 sc_law_wire_deed.nd) pts_nl)))))
    (dss_cons (ds_par 5 6 rfl sc_law_wire_deed.nd (da_cons (de_op do_sub (de_call G_law_draw (hr.mono (by decide)) rfl T.g_law_draw T.k_law_draw (da_cons (dv 0) (da_cons de_int da_nil))) (dv 4)) (da_cons (de_call G_law_some (hr.mono (by decide)) rfl T.g_law_some T.k_law_some (da_cons (dv 0) (da_cons de_int da_nil))) da_nil)))
    (dss_cons (ds_if (dt_cmp do_gt (de_call G_law_draw (hr.mono (by decide)) rfl T.g_law_draw T.k_law_draw (da_cons (dv 0) (da_cons de_int da_nil))) de_int (by first | rfl | exact nobehind _ (by decide) (by decide))) (dss_cons (ds_if (dt_cmp do_notN (de_meth (dv 2) T.c_Wire T.m_Wire_put G_Wire_put (hr.mono (by decide)) (da_cons (dv 5) (da_cons (dv 6) da_nil))) de_non (by first | rfl | exact nobehind _ (by decide) (by decide))) (dss_one (ds_ret de_bl)) dss_nil)
    (dss_one (ds_sub (hu1 hr) (dv 3) (dv 5) (dv 6)))) dss_nil)
    (dss_cons (ds_for PassesOwn.never rfl (di_range1 rfl T.z_range (da_cons de_int da_nil)) (pt_nm 7 sc_law_wire_deed.nd) (dss_cons (ds_set 8 sc_law_wire_deed.nd (de_op do_sub (de_op do_add (dv 5) (de_call G_law_draw (hr.mono (by decide)) rfl T.g_law_draw T.k_law_draw (da_cons (dv 0) (da_cons (de_op do_add (de_op do_mul de_int (dv 4)) de_int) da_nil)))) de_int))
    (dss_cons (ds_if (dt_not (dt_val (de_call G_law_same (hr.mono (by decide)) rfl T.g_law_same T.k_law_same (da_cons (de_meth (dv 2) T.c_Wire T.m_Wire_arriving G_Wire_arriving (hr.mono (by decide)) (da_cons (dv 8) da_nil)) (da_cons (de_dget2 (hu1 hr) (dv 3) (de_op do_sub (dv 8) (dv 4)) (de_tup (da_cons de_int (da_cons de_int da_nil)))) da_nil))))) (dss_one (ds_ret de_bl)) dss_nil)
    (dss_cons (ds_set 9 sc_law_wire_deed.nd (de_call G_law_all (hr.mono (by decide)) rfl T.g_law_all T.k_law_all (da_cons (de_freeze (de_lock (de_lc rfl sc_law_wire_deed.nd (di_keys (dv 3)) (own := [("_law_key", 10)]) (by show BlkOk ["_law_bag_here", "_law_side", "_law_wire", "_law_table", "_law_way_of", "_law_at", "_law_one", "_law_k", "_law_now_of", "_law_due", "_law_key"] (defScope s_law_wire_deed) _ _; exact ⟨rfl, by decide +kernel, by decide +kernel, by decide +kernel, by decide +kernel⟩) (fun _ _ _ _ _ => (pt_nm 10 sc_law_wire_deed.nd)) (fun _ _ _ _ _ => dts_one (dt_chain do_lt do_le (de_op do_sub (dv 8) (dv 4)) (dv 10) (dv 8))) (fun _ _ _ _ _ => (de_idx (hu1 hr) (dv 3) (dv 10)))))) da_nil)))
    (dss_one (ds_if (dt_not (dt_val (de_call G_law_same (hr.mono (by decide)) rfl T.g_law_same T.k_law_same (da_cons (de_meth (dv 2) T.c_Wire T.m_Wire_under_way G_Wire_under_way (hr.mono (by decide)) (da_cons (dv 8) da_nil)) (da_cons (dv 9) da_nil))))) (dss_one (ds_ret de_bl)) dss_nil))))))
    (dss_one (ds_ret de_bl))))))) (rd_law_wire_deed A)
theorem sc_Hop_remember : FnScope ["self", "tick", "water", "oldest", "kept", "sent", "put"] ["self", "tick", "water"] (defScope s_Hop_remember) := ⟨rfl, rfl, rfl, by decide +kernel, rfl, by decide +kernel, by decide +kernel⟩
theorem d_Hop_remember {fd : FuncData} (T : Txt K mg A) (F : Fun K "remember" "Hop.remember" s_Hop_remember A.Hop_remember fd) (hb : Binds K fd ["self", "tick", "water"] []) : FnD P w K mg base 1 A.Hop_remember (sp_Hop_remember A) :=
  def_ofW (N := ["self", "tick", "water", "oldest", "kept", "sent", "put"]) (qb := qb_Hop_remember A) F hb sc_Hop_remember (len_Hop_remember A) (fun cdv Ar outer s H E hr =>
    (dss_cons (ds_set 3 sc_Hop_remember.nd (de_op do_sub (de_op do_sub (dv 1) (de_fld T.c_Hop T.n_Hop_p_age (dv 0))) (de_fld T.c_Hop T.n_Hop_p_way (dv 0))))
    (dss_cons (ds_lock (ds_setDc 4 rfl sc_Hop_remember.nd (di_items (de_fld T.c_Hop T.n_Hop_p_sent (dv 0))) (own := [("sent", 5), ("put", 6)]) (by show BlkOk ["self", "tick", "water", "oldest", "kept", "sent", "put"] (defScope s_Hop_remember) _ _; exact ⟨rfl, by decide +kernel, by decide +kernel, by decide +kernel, by decide +kernel⟩) (fun _ _ _ _ _ => (pt_tp rfl (pts_cn (pt_nm 5 sc_Hop_remember.nd) (pts_cn (pt_nm 6 sc_Hop_remember.nd) pts_nl)))) (fun _ _ _ _ _ => dts_one (dt_cmp do_ge (dv 5) (dv 3) (by first | rfl | exact nobehind _ (by decide) (by decide)))) (fun _ _ _ _ _ => (dv 5)) (fun _ _ _ _ _ => (dv 6))))
    (dss_cons (ds_sub (hu1 hr) (dv 4) (dv 1) (dv 2))
    (dss_one (ds_setF T.c_Hop T.n_Hop_p_sent (dv 0) (dv 4))))))) (rd_Hop_remember A)
theorem sc_law_hop_deed : FnScope ["_law_bag_here", "_law_side", "_law_hop", "_law_table", "_law_latest", "_law_way_of", "_law_age_of", "_law_one", "_law_at", "_law_k", "_law_since", "_law_until", "_law_due", "_law_key"] ["_law_bag_here", "_law_side"] (defScope s_law_hop_deed) := ⟨rfl, rfl, rfl, by decide +kernel, rfl, by decide +kernel, by decide +kernel⟩
theorem d_law_hop_deed {fd : FuncData} (T : Txt K mg A) (F : Fun K "_law_hop_deed" "_law_hop_deed" s_law_hop_deed A.law_hop_deed fd) (hb : Binds K fd ["_law_bag_here", "_law_side"] []) (G_law_some : FnD P w K mg base 3 A.law_some (sp_law_some A)) (G_law_of : FnD P w K mg base 2 A.law_of (sp_law_of A)) (G_law_draw : FnD P w K mg base 1 A.law_draw (sp_law_draw A)) (G_Hop_remember : FnD P w K mg base 1 A.Hop_remember (sp_Hop_remember A)) (G_law_all : FnD P w K mg base 3 A.law_all (sp_law_all A)) (G_law_same : FnD P w K mg base 4 A.law_same (sp_law_same 4 A)) (G_Hop_sent_after : FnD P w K mg base 3 A.Hop_sent_after (sp_Hop_sent_after A)) : FnD P w K mg base 5 A.law_hop_deed (sp_law_hop_deed A) :=
  def_ofW (N := ["_law_bag_here", "_law_side", "_law_hop", "_law_table", "_law_latest", "_law_way_of", "_law_age_of", "_law_one", "_law_at", "_law_k", "_law_since", "_law_until", "_law_due", "_law_key"]) (qb := qb_law_hop_deed A) F hb sc_law_hop_deed (len_law_hop_deed A) (fun cdv Ar outer s H E hr =>
    (dss_cons (ds_asg (de_tup (da_cons (de_idx (hu1 hr) (dv 1) de_int) (da_cons (de_idx (hu1 hr) (dv 1) de_int) (da_cons (de_idx (hu1 hr) (dv 1) de_int) (da_cons (de_idx (hu1 hr) (dv 1) de_int) (da_cons (de_idx (hu1 hr) (dv 1) de_int) da_nil)))))) (pt_tp rfl (pts_cn (pt_nm 2 sc_law_hop_deed.nd) (pts_cn (pt_nm 3 sc_law_hop_deed.nd) (pts_cn (pt_nm 4 sc_law_hop_deed.nd) (pts_cn (pt_nm 5 sc_law_hop_deed.nd) (pts_cn (pt_nm 6 sc_law_hop_deed.nd) pts_nl)))))))
    (dss_cons (ds_set 7 sc_law_hop_deed.nd (de_call G_law_some (hr.mono (by decide)) rfl T.g_law_some T.k_law_some (da_cons (dv 0) (da_cons de_int da_nil))))
    (dss_cons (ds_set 8 sc_law_hop_deed.nd (de_op do_add (dv 4) (de_call G_law_of (hr.mono (by decide)) rfl T.g_law_of T.k_law_of (da_cons (dv 0) (da_cons (de_lstF (da_cons de_int (da_cons de_int (da_cons de_int (da_cons (de_neg de_int) (da_cons de_int (da_cons (de_op do_sub de_int (de_call G_law_draw (hr.mono (by decide)) rfl T.g_law_draw T.k_law_draw (da_cons (dv 0) (da_cons (de_op do_add (dv 5) (dv 6)) da_nil)))) da_nil))))))) da_nil)))))
    (dss_cons (ds_if (dt_cmp do_notN (de_meth (dv 2) T.c_Hop T.m_Hop_remember G_Hop_remember (hr.mono (by decide)) (da_cons (dv 8) (da_cons (dv 7) da_nil))) de_non (by first | rfl | exact nobehind _ (by decide) (by decide))) (dss_one (ds_ret de_bl)) dss_nil)
    (dss_cons (ds_sub (hu1 hr) (dv 3) (dv 8) (dv 7))
    (dss_cons (ds_sub (hu1 hr) (dv 1) de_int (de_callB (db_max2 rfl) rfl T.z_max (by decide +kernel) (da_cons (dv 4) (da_cons (dv 8) da_nil))))
    (dss_cons (ds_for PassesOwn.never rfl (di_range1 rfl T.z_range (da_cons de_int da_nil)) (pt_nm 9 sc_law_hop_deed.nd) (dss_cons (ds_set 10 sc_law_hop_deed.nd (de_op do_add (de_op do_sub (de_op do_sub (de_idx (hu1 hr) (dv 1) de_int) (dv 5)) (dv 6)) (de_call G_law_draw (hr.mono (by decide)) rfl T.g_law_draw T.k_law_draw (da_cons (dv 0) (da_cons (de_op do_add (de_op do_add (dv 5) (dv 6)) de_int) da_nil)))))
    (dss_cons (ds_set 11 sc_law_hop_deed.nd (de_op do_sub (de_op do_add (dv 10) (de_call G_law_draw (hr.mono (by decide)) rfl T.g_law_draw T.k_law_draw (da_cons (dv 0) (da_cons (de_op do_add (de_op do_add (dv 5) (dv 6)) de_int) da_nil)))) de_int))
    (dss_cons (ds_set 12 sc_law_hop_deed.nd (de_call G_law_all (hr.mono (by decide)) rfl T.g_law_all T.k_law_all (da_cons (de_freeze (de_lock (de_lc rfl sc_law_hop_deed.nd (di_keys (dv 3)) (own := [("_law_key", 13)]) (by show BlkOk ["_law_bag_here", "_law_side", "_law_hop", "_law_table", "_law_latest", "_law_way_of", "_law_age_of", "_law_one", "_law_at", "_law_k", "_law_since", "_law_until", "_law_due", "_law_key"] (defScope s_law_hop_deed) _ _; exact ⟨rfl, by decide +kernel, by decide +kernel, by decide +kernel, by decide +kernel⟩) (fun _ _ _ _ _ => (pt_nm 13 sc_law_hop_deed.nd)) (fun _ _ _ _ _ => dts_one (dt_chain do_lt do_lt (dv 10) (dv 13) (dv 11))) (fun _ _ _ _ _ => (de_idx (hu1 hr) (dv 3) (dv 13)))))) da_nil)))
    (dss_one (ds_if (dt_not (dt_val (de_call G_law_same (hr.mono (by decide)) rfl T.g_law_same T.k_law_same (da_cons (de_meth (dv 2) T.c_Hop T.m_Hop_sent_after G_Hop_sent_after (hr.mono (by decide)) (da_cons (dv 10) (da_cons (dv 11) da_nil))) (da_cons (dv 12) da_nil))))) (dss_one (ds_ret de_bl)) dss_nil))))))
    (dss_one (ds_ret de_bl)))))))))) (rd_law_hop_deed A)
theorem sc_Wire_copy : FnScope ["self", "twin"] ["self"] (defScope s_Wire_copy) := ⟨rfl, rfl, rfl, by decide +kernel, rfl, by decide +kernel, by decide +kernel⟩
theorem d_Wire_copy {fd : FuncData} (T : Txt K mg A) (F : Fun K "copy" "Wire.copy" s_Wire_copy A.Wire_copy fd) (hb : Binds K fd ["self"] []) (G_Wire_init : FnD P w K mg base 1 A.Wire_init (sp_Wire_init A)) : FnD P w K mg base 3 A.Wire_copy (sp_Wire_copy A) :=
  def_ofW (N := ["self", "twin"]) (qb := qb_Wire_copy A) F hb sc_Wire_copy (len_Wire_copy A) (fun cdv Ar outer s H E hr =>
    (dss_cons (ds_set 1 sc_Wire_copy.nd (de_make T.mk_Wire G_Wire_init (hr.mono (by decide)) rfl T.g_Wire (da_cons (de_fld T.c_Wire T.n_Wire_p_way (dv 0)) da_nil)))
    (dss_cons (ds_setF T.c_Wire T.n_Wire_p_sent (dv 1) (de_callTy db_dict rfl T.z_dict (by decide +kernel) (da_cons (de_fld T.c_Wire T.n_Wire_p_sent (dv 0)) da_nil)))
    (dss_one (ds_ret (dv 1)))))) (rd_Wire_copy A)
theorem sc_Hop_copy : FnScope ["self", "twin"] ["self"] (defScope s_Hop_copy) := ⟨rfl, rfl, rfl, by decide +kernel, rfl, by decide +kernel, by decide +kernel⟩
theorem d_Hop_copy {fd : FuncData} (T : Txt K mg A) (F : Fun K "copy" "Hop.copy" s_Hop_copy A.Hop_copy fd) (hb : Binds K fd ["self"] []) (G_Hop_init : FnD P w K mg base 1 A.Hop_init (sp_Hop_init A)) : FnD P w K mg base 3 A.Hop_copy (sp_Hop_copy A) :=
  def_ofW (N := ["self", "twin"]) (qb := qb_Hop_copy A) F hb sc_Hop_copy (len_Hop_copy A) (fun cdv Ar outer s H E hr =>
    (dss_cons (ds_set 1 sc_Hop_copy.nd (de_make T.mk_Hop G_Hop_init (hr.mono (by decide)) rfl T.g_Hop (da_cons (de_fld T.c_Hop T.n_Hop_p_way (dv 0)) (da_cons (de_fld T.c_Hop T.n_Hop_p_age (dv 0)) da_nil))))
    (dss_cons (ds_setF T.c_Hop T.n_Hop_p_sent (dv 1) (de_callTy db_dict rfl T.z_dict (by decide +kernel) (da_cons (de_fld T.c_Hop T.n_Hop_p_sent (dv 0)) da_nil)))
    (dss_one (ds_ret (dv 1)))))) (rd_Hop_copy A)
theorem sc_Buffer_copy : FnScope ["self", "twin"] ["self"] (defScope s_Buffer_copy) := ⟨rfl, rfl, rfl, by decide +kernel, rfl, by decide +kernel, by decide +kernel⟩
theorem d_Buffer_copy {fd : FuncData} (T : Txt K mg A) (F : Fun K "copy" "Buffer.copy" s_Buffer_copy A.Buffer_copy fd) (hb : Binds K fd ["self"] []) (G_Buffer_init : FnD P w K mg base 1 A.Buffer_init (sp_Buffer_init A)) : FnD P w K mg base 3 A.Buffer_copy (sp_Buffer_copy A) :=
  def_ofW (N := ["self", "twin"]) (qb := qb_Buffer_copy A) F hb sc_Buffer_copy (len_Buffer_copy A) (fun cdv Ar outer s H E hr =>
    (dss_cons (ds_set 1 sc_Buffer_copy.nd (de_make T.mk_Buffer G_Buffer_init (hr.mono (by decide)) rfl T.g_Buffer (da_cons (de_fld T.c_Buffer T.n_Buffer_size (dv 0)) da_nil)))
    (dss_cons (ds_setF T.c_Buffer T.n_Buffer_p_held (dv 1) (de_fld T.c_Buffer T.n_Buffer_p_held (dv 0)))
    (dss_cons (ds_setF T.c_Buffer T.n_Buffer_p_fullest (dv 1) (de_fld T.c_Buffer T.n_Buffer_p_fullest (dv 0)))
    (dss_one (ds_ret (dv 1))))))) (rd_Buffer_copy A)
theorem sc_law : FnScope ["_law_script", "_law_bag_here", "_law_way_of", "_law_age_of", "_law_top", "_law_wires", "_law_hops", "_law_buffers_told", "_law_k", "_law_side", "_law_one", "_law_wire", "_law_table", "_law_now_of"] ["_law_script"] (defScope s_law) := ⟨rfl, rfl, rfl, by decide +kernel, rfl, by decide +kernel, by decide +kernel⟩
theorem d_law {fd : FuncData} (T : Txt K mg A) (F : Fun K "law" "law" s_law A.law fd) (G_law_bag : FnD P w K mg base 1 A.law_bag (sp_law_bag A)) (G_law_some : FnD P w K mg base 3 A.law_some (sp_law_some A)) (G_law_of : FnD P w K mg base 2 A.law_of (sp_law_of A)) (G_law_draw : FnD P w K mg base 1 A.law_draw (sp_law_draw A)) (G_Hop_init : FnD P w K mg base 1 A.Hop_init (sp_Hop_init A)) (G_Wire_init : FnD P w K mg base 1 A.Wire_init (sp_Wire_init A)) (G_Buffer_init : FnD P w K mg base 1 A.Buffer_init (sp_Buffer_init A)) (G_law_buffer_looks : FnD P w K mg base 5 A.law_buffer_looks (sp_law_buffer_looks A)) (G_law_same : FnD P w K mg base 4 A.law_same (sp_law_same 4 A)) (G_Hop_sent_after : FnD P w K mg base 3 A.Hop_sent_after (sp_Hop_sent_after A)) (G_law_wire_deed : FnD P w K mg base 5 A.law_wire_deed (sp_law_wire_deed A)) (G_law_hop_deed : FnD P w K mg base 5 A.law_hop_deed (sp_law_hop_deed A)) (G_law_buffer_deed : FnD P w K mg base 6 A.law_buffer_deed (sp_law_buffer_deed A)) (G_Wire_copy : FnD P w K mg base 3 A.Wire_copy (sp_Wire_copy A)) (G_Hop_copy : FnD P w K mg base 3 A.Hop_copy (sp_Hop_copy A)) (G_Buffer_copy : FnD P w K mg base 3 A.Buffer_copy (sp_Buffer_copy A)) (G_Wire_arriving : FnD P w K mg base 1 A.Wire_arriving (sp_Wire_arriving A)) : FnOk P w K mg base CX0 7 A.law fd ["_law_script"] (liftSp K lspLaw) :=
  fno_ofW (N := ["_law_script", "_law_bag_here", "_law_way_of", "_law_age_of", "_law_top", "_law_wires", "_law_hops", "_law_buffers_told", "_law_k", "_law_side", "_law_one", "_law_wire", "_law_table", "_law_now_of"]) (qb := qb_law A) F sc_law len_law (fun cdv Ar outer s H E hr =>
    (dss_cons (ds_set 1 sc_law.nd (de_call G_law_bag (hr.mono (by decide)) rfl T.g_law_bag T.k_law_bag (da_cons (dv 0) da_nil)))
    (dss_cons (ds_par3 2 3 4 rfl sc_law.nd (da_cons (de_call G_law_of (hr.mono (by decide)) rfl T.g_law_of T.k_law_of (da_cons (dv 1) (da_cons (de_lstF (da_cons de_int (da_cons de_int (da_cons de_int (da_cons de_int (da_cons de_int da_nil)))))) da_nil))) (da_cons (de_call G_law_of (hr.mono (by decide)) rfl T.g_law_of T.k_law_of (da_cons (dv 1) (da_cons (de_lstF (da_cons de_int (da_cons de_int (da_cons de_int (da_cons de_int da_nil))))) da_nil))) (da_cons (de_call G_law_some (hr.mono (by decide)) rfl T.g_law_some T.k_law_some (da_cons (dv 1) (da_cons de_int da_nil))) da_nil))))
    (dss_cons (ds_if (dt_cmp (do_eq2 (hu64 hr)) (de_call G_law_draw (hr.mono (by decide)) rfl T.g_law_draw T.k_law_draw (da_cons (dv 1) (da_cons de_int da_nil))) de_int (by first | rfl | exact nobehind _ (by decide) (by decide))) (dss_one (ds_set 4 sc_law.nd (de_call G_law_of (hr.mono (by decide)) rfl T.g_law_of T.k_law_of (da_cons (dv 1) (da_cons (de_lstF (da_cons (de_tup (da_cons de_int (da_cons de_int da_nil))) (da_cons (de_tup (da_cons de_int (da_cons de_int da_nil))) (da_cons (de_tup (da_cons (de_op do_add (de_op do_pow2 de_int de_int) de_int) (da_cons (de_op do_mul de_int (de_op do_pow2 de_int de_int)) da_nil))) da_nil)))) da_nil))))) dss_nil)
    (dss_cons (ds_par3 5 6 7 rfl sc_law.nd (da_cons (de_lstM (da_cons (de_tup (da_cons (de_make T.mk_Wire G_Wire_init (hr.mono (by decide)) rfl T.g_Wire (da_cons (dv 2) da_nil)) (da_cons de_dnewK (da_cons (dv 2) da_nil)))) da_nil)) (da_cons (de_lstM (da_cons (de_lstM (da_cons (de_make T.mk_Hop G_Hop_init (hr.mono (by decide)) rfl T.g_Hop (da_cons (dv 2) (da_cons (dv 3) da_nil))) (da_cons de_dnewK (da_cons de_int (da_cons (dv 2) (da_cons (dv 3) da_nil)))))) da_nil)) (da_cons (de_lstM da_nil) da_nil))))
    (dss_cons (ds_expr (de_bm PySem.F.plainAttrs_list PySem.F.slot_list_append PySem.F.type_list_append dm_append (dv 7) (da_cons (de_lstM (da_cons (de_make T.mk_Buffer G_Buffer_init (hr.mono (by decide)) rfl T.g_Buffer (da_cons (dv 4) da_nil)) (da_cons (de_tup (da_cons de_int (da_cons de_int da_nil))) (da_cons (de_tup (da_cons de_int (da_cons de_int da_nil))) (da_cons (dv 4) da_nil))))) da_nil)))
    (dss_cons (ds_if (PW.pt (dw_or (dt_not (dt_val (de_call G_law_buffer_looks (hr.mono (by decide)) rfl T.g_law_buffer_looks T.k_law_buffer_looks (da_cons (de_idx (hu1 hr) (dv 7) de_int) da_nil)))) (dw_or1 (dt_not (dt_val (de_call G_law_same (hr.mono (by decide)) rfl T.g_law_same T.k_law_same (da_cons (de_meth (de_idx (hu1 hr) (de_idx (hu1 hr) (dv 6) de_int) de_int) T.c_Hop T.m_Hop_sent_after G_Hop_sent_after (hr.mono (by decide)) (da_cons (de_neg de_int) (da_cons de_int da_nil))) (da_cons (de_tup (da_cons de_int (da_cons de_int da_nil))) da_nil)))))))) (dss_one (ds_ret de_bl)) dss_nil)
    (dss_cons (ds_for PassesOwn.never rfl (di_range1 rfl T.z_range (da_cons (de_op do_add de_int (de_call G_law_draw (hr.mono (by decide)) rfl T.g_law_draw T.k_law_draw (da_cons (dv 1) (da_cons de_int da_nil)))) da_nil)) (pt_nm 8 sc_law.nd) (dss_cons (ds_set 9 sc_law.nd (de_call G_law_of (hr.mono (by decide)) rfl T.g_law_of T.k_law_of (da_cons (dv 1) (da_cons (dv 5) da_nil))))
    (dss_cons (ds_if (PW.pt (dw_or (dt_not (dt_val (de_call G_law_wire_deed (hr.mono (by decide)) rfl T.g_law_wire_deed T.k_law_wire_deed (da_cons (dv 1) (da_cons (dv 9) da_nil))))) (dw_or1 (dt_not (dt_val (de_call G_law_hop_deed (hr.mono (by decide)) rfl T.g_law_hop_deed T.k_law_hop_deed (da_cons (dv 1) (da_cons (de_call G_law_of (hr.mono (by decide)) rfl T.g_law_of T.k_law_of (da_cons (dv 1) (da_cons (dv 6) da_nil))) da_nil)))))))) (dss_one (ds_ret de_bl)) dss_nil)
    (dss_cons (ds_if (dt_not (dt_val (de_call G_law_buffer_deed (hr.mono (by decide)) rfl T.g_law_buffer_deed T.k_law_buffer_deed (da_cons (dv 1) (da_cons (de_call G_law_of (hr.mono (by decide)) rfl T.g_law_of T.k_law_of (da_cons (dv 1) (da_cons (dv 7) da_nil))) da_nil))))) (dss_one (ds_ret de_bl)) dss_nil)
    (dss_cons (ds_if (dt_not (dt_val (de_callB (db_all rfl) rfl T.z_all (by decide +kernel) (da_cons (de_freeze (de_lc rfl sc_law.nd (di_lst (dv 7)) (own := [("_law_one", 10)]) (by show BlkOk ["_law_script", "_law_bag_here", "_law_way_of", "_law_age_of", "_law_top", "_law_wires", "_law_hops", "_law_buffers_told", "_law_k", "_law_side", "_law_one", "_law_wire", "_law_table", "_law_now_of"] (defScope s_law) _ _; exact ⟨rfl, by decide +kernel, by decide +kernel, by decide +kernel, by decide +kernel⟩) (fun _ _ _ _ _ => (pt_nm 10 sc_law.nd)) (fun _ _ _ _ _ => dts_nil (K := _)) (fun _ _ _ _ _ => (de_call G_law_buffer_looks (hr.mono (by decide)) rfl T.g_law_buffer_looks T.k_law_buffer_looks (da_cons (dv 10) da_nil))))) da_nil)))) (dss_one (ds_ret de_bl)) dss_nil)
    (dss_one (ds_if (PW.pt (dw_and (dt_cmp do_lt (de_callB db_len rfl T.z_len (by decide +kernel) (da_cons (dv 5) da_nil)) de_int (by first | rfl | exact nobehind _ (by decide) (by decide))) (dw_and1 (dt_cmp (do_eq2 (hu64 hr)) (de_call G_law_draw (hr.mono (by decide)) rfl T.g_law_draw T.k_law_draw (da_cons (dv 1) (da_cons de_int da_nil))) de_int (by first | rfl | exact nobehind _ (by decide) (by decide)))))) (dss_cons (ds_expr (de_bm PySem.F.plainAttrs_list PySem.F.slot_list_append PySem.F.type_list_append dm_append (dv 5) (da_cons (de_tup (da_cons (de_meth0 (de_idx (hu1 hr) (dv 9) de_int) T.c_Wire T.m_Wire_copy G_Wire_copy (hr.mono (by decide))) (da_cons (de_callTy db_dict rfl T.z_dict (by decide +kernel) (da_cons (de_idx (hu1 hr) (dv 9) de_int) da_nil)) (da_cons (dv 2) da_nil)))) da_nil)))
    (dss_cons (ds_set 10 sc_law.nd (de_call G_law_of (hr.mono (by decide)) rfl T.g_law_of T.k_law_of (da_cons (dv 1) (da_cons (dv 6) da_nil))))
    (dss_cons (ds_expr (de_bm PySem.F.plainAttrs_list PySem.F.slot_list_append PySem.F.type_list_append dm_append (dv 6) (da_cons (de_lstM (da_cons (de_meth0 (de_idx (hu1 hr) (dv 10) de_int) T.c_Hop T.m_Hop_copy G_Hop_copy (hr.mono (by decide))) (da_cons (de_callTy db_dict rfl T.z_dict (by decide +kernel) (da_cons (de_idx (hu1 hr) (dv 10) de_int) da_nil)) (da_cons (de_idx (hu1 hr) (dv 10) de_int) (da_cons (dv 2) (da_cons (dv 3) da_nil)))))) da_nil)))
    (dss_cons (ds_set 10 sc_law.nd (de_call G_law_of (hr.mono (by decide)) rfl T.g_law_of T.k_law_of (da_cons (dv 1) (da_cons (dv 7) da_nil))))
    (dss_one (ds_expr (de_bm PySem.F.plainAttrs_list PySem.F.slot_list_append PySem.F.type_list_append dm_append (dv 7) (da_cons (de_lstM (da_cons (de_meth0 (de_idx (hu1 hr) (dv 10) de_int) T.c_Buffer T.m_Buffer_copy G_Buffer_copy (hr.mono (by decide))) (da_cons (de_idx (hu1 hr) (dv 10) de_int) (da_cons (de_idx (hu1 hr) (dv 10) de_int) (da_cons (dv 4) da_nil))))) da_nil)))))))) dss_nil)))))))
    (dss_cons (ds_for PassesOwn.never rfl (di_lst (dv 5)) (pt_tp rfl (pts_cn (pt_nm 11 sc_law.nd) (pts_cn (pt_nm 12 sc_law.nd) (pts_cn (pt_nm 2 sc_law.nd) pts_nl)))) (dss_one (ds_for PassesOwn.never rfl (di_range2 rfl T.z_range (da_cons (de_neg de_int) (da_cons de_int da_nil))) (pt_nm 13 sc_law.nd) (dss_one (ds_if (dt_not (dt_val (de_call G_law_same (hr.mono (by decide)) rfl T.g_law_same T.k_law_same (da_cons (de_meth (dv 11) T.c_Wire T.m_Wire_arriving G_Wire_arriving (hr.mono (by decide)) (da_cons (dv 13) da_nil)) (da_cons (de_dget2 (hu1 hr) (dv 12) (de_op do_sub (dv 13) (dv 2)) (de_tup (da_cons de_int (da_cons de_int da_nil)))) da_nil))))) (dss_one (ds_ret de_bl)) dss_nil)))))
    (dss_one (ds_ret de_bl))))))))))) (rd_law A)
end
theorem all_mk {l : PySem.W.OpenLaw} {w : World} {K : PySem.W.Frag} {h : Heap} {mg : Str → Option Value} {fa x_Buffer x_Wire x_Hop x_Short x_BandError x_ZERO x_Short_init x_law_bag x_law_draw x_law_of x_law_amount x_law_some x_Buffer_init x_law_same x_Buffer_held x_Buffer_fullest x_law_buffer_looks x_law_less x_law_max x_law_sum x_law_min x_law_scaled x_law_part x_law_piece x_law_rest x_p_lowest x_plus x_compare x_largest x_Buffer_set_to x_minus x_Buffer_take_in x_Buffer_give x_law_short x_law_buffer_deed x_Wire_init x_Hop_init x_Hop_sent_after x_law_all x_Wire_put x_Wire_arriving x_Wire_under_way x_law_wire_deed x_Hop_remember x_law_hop_deed x_Wire_copy x_Hop_copy x_Buffer_copy x_law x_pr_Buffer_held x_pr_Buffer_fullest : Addr} (X : K.In h) (G : h.Ns mainGlobals mg) (hfa : mg "law" = some (.ref fa))
    {rs_Buffer_held : List Value} {rs_Buffer_fullest : List Value} {o_ZERO : Option Addr} {sl_ZERO : Array (Option Value)} {nn_ZERO : Nat} {t0_ZERO t1_ZERO : Tok} {oc_Short_init kV_Short_init dc_Short_init pm_Short_init cd_Short_init ct_Short_init : Value} {od_Short_init an_Short_init : Option Addr} {sl_Short_init : Array (Option Value)} {oc_law_bag kV_law_bag dc_law_bag pm_law_bag cd_law_bag ct_law_bag : Value} {od_law_bag an_law_bag : Option Addr} {sl_law_bag : Array (Option Value)} {oc_law_draw kV_law_draw dc_law_draw pm_law_draw cd_law_draw ct_law_draw : Value} {od_law_draw an_law_draw : Option Addr} {sl_law_draw : Array (Option Value)} {oc_law_of kV_law_of dc_law_of pm_law_of cd_law_of ct_law_of : Value} {od_law_of an_law_of : Option Addr} {sl_law_of : Array (Option Value)} {oc_law_amount kV_law_amount dc_law_amount pm_law_amount cd_law_amount ct_law_amount : Value} {od_law_amount an_law_amount : Option Addr} {sl_law_amount : Array (Option Value)} {oc_law_some kV_law_some dc_law_some pm_law_some cd_law_some ct_law_some : Value} {od_law_some an_law_some : Option Addr} {sl_law_some : Array (Option Value)} {oc_Buffer_init kV_Buffer_init dc_Buffer_init pm_Buffer_init cd_Buffer_init ct_Buffer_init : Value} {od_Buffer_init an_Buffer_init : Option Addr} {sl_Buffer_init : Array (Option Value)} {oc_law_same kV_law_same dc_law_same pm_law_same cd_law_same ct_law_same : Value} {od_law_same an_law_same : Option Addr} {sl_law_same : Array (Option Value)} {oc_Buffer_held kV_Buffer_held dc_Buffer_held pm_Buffer_held cd_Buffer_held ct_Buffer_held : Value} {od_Buffer_held an_Buffer_held : Option Addr} {sl_Buffer_held : Array (Option Value)} {oc_Buffer_fullest kV_Buffer_fullest dc_Buffer_fullest pm_Buffer_fullest cd_Buffer_fullest ct_Buffer_fullest : Value} {od_Buffer_fullest an_Buffer_fullest : Option Addr} {sl_Buffer_fullest : Array (Option Value)} {oc_law_buffer_looks kV_law_buffer_looks dc_law_buffer_looks pm_law_buffer_looks cd_law_buffer_looks ct_law_buffer_looks : Value} {od_law_buffer_looks an_law_buffer_looks : Option Addr} {sl_law_buffer_looks : Array (Option Value)} {oc_law_less kV_law_less dc_law_less pm_law_less cd_law_less ct_law_less : Value} {od_law_less an_law_less : Option Addr} {sl_law_less : Array (Option Value)} {oc_law_max kV_law_max dc_law_max pm_law_max cd_law_max ct_law_max : Value} {od_law_max an_law_max : Option Addr} {sl_law_max : Array (Option Value)} {oc_law_sum kV_law_sum dc_law_sum pm_law_sum cd_law_sum ct_law_sum : Value} {od_law_sum an_law_sum : Option Addr} {sl_law_sum : Array (Option Value)} {oc_law_min kV_law_min dc_law_min pm_law_min cd_law_min ct_law_min : Value} {od_law_min an_law_min : Option Addr} {sl_law_min : Array (Option Value)} {oc_law_scaled kV_law_scaled dc_law_scaled pm_law_scaled cd_law_scaled ct_law_scaled : Value} {od_law_scaled an_law_scaled : Option Addr} {sl_law_scaled : Array (Option Value)} {oc_law_part kV_law_part dc_law_part pm_law_part cd_law_part ct_law_part : Value} {od_law_part an_law_part : Option Addr} {sl_law_part : Array (Option Value)} {oc_law_piece kV_law_piece dc_law_piece pm_law_piece cd_law_piece ct_law_piece : Value} {od_law_piece an_law_piece : Option Addr} {sl_law_piece : Array (Option Value)} {oc_law_rest kV_law_rest dc_law_rest pm_law_rest cd_law_rest ct_law_rest : Value} {od_law_rest an_law_rest : Option Addr} {sl_law_rest : Array (Option Value)} {oc_p_lowest kV_p_lowest dc_p_lowest pm_p_lowest cd_p_lowest ct_p_lowest : Value} {od_p_lowest an_p_lowest : Option Addr} {sl_p_lowest : Array (Option Value)} {oc_plus kV_plus dc_plus pm_plus cd_plus ct_plus : Value} {od_plus an_plus : Option Addr} {sl_plus : Array (Option Value)} {oc_compare kV_compare dc_compare pm_compare cd_compare ct_compare : Value} {od_compare an_compare : Option Addr} {sl_compare : Array (Option Value)} {oc_largest kV_largest dc_largest pm_largest cd_largest ct_largest : Value} {od_largest an_largest : Option Addr} {sl_largest : Array (Option Value)} {oc_Buffer_set_to kV_Buffer_set_to dc_Buffer_set_to pm_Buffer_set_to cd_Buffer_set_to ct_Buffer_set_to : Value} {od_Buffer_set_to an_Buffer_set_to : Option Addr} {sl_Buffer_set_to : Array (Option Value)} {oc_minus kV_minus dc_minus pm_minus cd_minus ct_minus : Value} {od_minus an_minus : Option Addr} {sl_minus : Array (Option Value)} {oc_Buffer_take_in kV_Buffer_take_in dc_Buffer_take_in pm_Buffer_take_in cd_Buffer_take_in ct_Buffer_take_in : Value} {od_Buffer_take_in an_Buffer_take_in : Option Addr} {sl_Buffer_take_in : Array (Option Value)} {oc_Buffer_give kV_Buffer_give dc_Buffer_give pm_Buffer_give cd_Buffer_give ct_Buffer_give : Value} {od_Buffer_give an_Buffer_give : Option Addr} {sl_Buffer_give : Array (Option Value)} {oc_law_short kV_law_short dc_law_short pm_law_short cd_law_short ct_law_short : Value} {od_law_short an_law_short : Option Addr} {sl_law_short : Array (Option Value)} {oc_law_buffer_deed kV_law_buffer_deed dc_law_buffer_deed pm_law_buffer_deed cd_law_buffer_deed ct_law_buffer_deed : Value} {od_law_buffer_deed an_law_buffer_deed : Option Addr} {sl_law_buffer_deed : Array (Option Value)} {oc_Wire_init kV_Wire_init dc_Wire_init pm_Wire_init cd_Wire_init ct_Wire_init : Value} {od_Wire_init an_Wire_init : Option Addr} {sl_Wire_init : Array (Option Value)} {oc_Hop_init kV_Hop_init dc_Hop_init pm_Hop_init cd_Hop_init ct_Hop_init : Value} {od_Hop_init an_Hop_init : Option Addr} {sl_Hop_init : Array (Option Value)} {oc_Hop_sent_after kV_Hop_sent_after dc_Hop_sent_after pm_Hop_sent_after cd_Hop_sent_after ct_Hop_sent_after : Value} {od_Hop_sent_after an_Hop_sent_after : Option Addr} {sl_Hop_sent_after : Array (Option Value)} {oc_law_all kV_law_all dc_law_all pm_law_all cd_law_all ct_law_all : Value} {od_law_all an_law_all : Option Addr} {sl_law_all : Array (Option Value)} {oc_Wire_put kV_Wire_put dc_Wire_put pm_Wire_put cd_Wire_put ct_Wire_put : Value} {od_Wire_put an_Wire_put : Option Addr} {sl_Wire_put : Array (Option Value)} {oc_Wire_arriving kV_Wire_arriving dc_Wire_arriving pm_Wire_arriving cd_Wire_arriving ct_Wire_arriving : Value} {od_Wire_arriving an_Wire_arriving : Option Addr} {sl_Wire_arriving : Array (Option Value)} {oc_Wire_under_way kV_Wire_under_way dc_Wire_under_way pm_Wire_under_way cd_Wire_under_way ct_Wire_under_way : Value} {od_Wire_under_way an_Wire_under_way : Option Addr} {sl_Wire_under_way : Array (Option Value)} {oc_law_wire_deed kV_law_wire_deed dc_law_wire_deed pm_law_wire_deed cd_law_wire_deed ct_law_wire_deed : Value} {od_law_wire_deed an_law_wire_deed : Option Addr} {sl_law_wire_deed : Array (Option Value)} {oc_Hop_remember kV_Hop_remember dc_Hop_remember pm_Hop_remember cd_Hop_remember ct_Hop_remember : Value} {od_Hop_remember an_Hop_remember : Option Addr} {sl_Hop_remember : Array (Option Value)} {oc_law_hop_deed kV_law_hop_deed dc_law_hop_deed pm_law_hop_deed cd_law_hop_deed ct_law_hop_deed : Value} {od_law_hop_deed an_law_hop_deed : Option Addr} {sl_law_hop_deed : Array (Option Value)} {oc_Wire_copy kV_Wire_copy dc_Wire_copy pm_Wire_copy cd_Wire_copy ct_Wire_copy : Value} {od_Wire_copy an_Wire_copy : Option Addr} {sl_Wire_copy : Array (Option Value)} {oc_Hop_copy kV_Hop_copy dc_Hop_copy pm_Hop_copy cd_Hop_copy ct_Hop_copy : Value} {od_Hop_copy an_Hop_copy : Option Addr} {sl_Hop_copy : Array (Option Value)} {oc_Buffer_copy kV_Buffer_copy dc_Buffer_copy pm_Buffer_copy cd_Buffer_copy ct_Buffer_copy : Value} {od_Buffer_copy an_Buffer_copy : Option Addr} {sl_Buffer_copy : Array (Option Value)} {oc_law kV_law dc_law pm_law cd_law ct_law : Value} {od_law an_law : Option Addr} {sl_law : Array (Option Value)}
    (a_Buffer : PySem.W.nsIn K mainGlobals "Buffer" = some (some (.ref x_Buffer)))
    (pg_Buffer : PySem.W.plainGet K x_Buffer Str.empty = true)
    (hd_Buffer : PySem.W.hasDictIn K x_Buffer = true)
    (po_Buffer : PySem.W.plainOver K x_Buffer = true)
    (sa_Buffer : PySem.W.findIn K (.ref x_Buffer) "__setattr__" = some (some (.builtin "object.__setattr__")))
    (a_Wire : PySem.W.nsIn K mainGlobals "Wire" = some (some (.ref x_Wire)))
    (pg_Wire : PySem.W.plainGet K x_Wire Str.empty = true)
    (hd_Wire : PySem.W.hasDictIn K x_Wire = true)
    (po_Wire : PySem.W.plainOver K x_Wire = true)
    (sa_Wire : PySem.W.findIn K (.ref x_Wire) "__setattr__" = some (some (.builtin "object.__setattr__")))
    (a_Hop : PySem.W.nsIn K mainGlobals "Hop" = some (some (.ref x_Hop)))
    (pg_Hop : PySem.W.plainGet K x_Hop Str.empty = true)
    (hd_Hop : PySem.W.hasDictIn K x_Hop = true)
    (po_Hop : PySem.W.plainOver K x_Hop = true)
    (sa_Hop : PySem.W.findIn K (.ref x_Hop) "__setattr__" = some (some (.builtin "object.__setattr__")))
    (mm_Wire : PySem.W.makesIn K x_Wire = true)
    (kc_Wire : PySem.W.keepIn K (.ref x_Wire) = true)
    (ai_Wire : PySem.W.findIn K (.ref x_Wire) "__init__" = some (some (.ref x_Wire_init)))
    (if_Wire : PySem.W.isFn K (.ref x_Wire_init) = true)
    (mm_Hop : PySem.W.makesIn K x_Hop = true)
    (kc_Hop : PySem.W.keepIn K (.ref x_Hop) = true)
    (ai_Hop : PySem.W.findIn K (.ref x_Hop) "__init__" = some (some (.ref x_Hop_init)))
    (if_Hop : PySem.W.isFn K (.ref x_Hop_init) = true)
    (mm_Buffer : PySem.W.makesIn K x_Buffer = true)
    (kc_Buffer : PySem.W.keepIn K (.ref x_Buffer) = true)
    (ai_Buffer : PySem.W.findIn K (.ref x_Buffer) "__init__" = some (some (.ref x_Buffer_init)))
    (if_Buffer : PySem.W.isFn K (.ref x_Buffer_init) = true)
    (n_Buffer_size : PySem.W.findIn K (.ref x_Buffer) "size" = some none)
    (n_Buffer_p_held : PySem.W.findIn K (.ref x_Buffer) "_held" = some none)
    (n_Buffer_p_fullest : PySem.W.findIn K (.ref x_Buffer) "_fullest" = some none)
    (n_Wire_p_way : PySem.W.findIn K (.ref x_Wire) "_way" = some none)
    (n_Wire_p_sent : PySem.W.findIn K (.ref x_Wire) "_sent" = some none)
    (n_Hop_p_way : PySem.W.findIn K (.ref x_Hop) "_way" = some none)
    (n_Hop_p_age : PySem.W.findIn K (.ref x_Hop) "_age" = some none)
    (n_Hop_p_sent : PySem.W.findIn K (.ref x_Hop) "_sent" = some none)
    (am_Buffer_set_to : PySem.W.findIn K (.ref x_Buffer) "set_to" = some (some (.ref x_Buffer_set_to)))
    (im_Buffer_set_to : PySem.W.isFn K (.ref x_Buffer_set_to) = true)
    (am_Buffer_give : PySem.W.findIn K (.ref x_Buffer) "give" = some (some (.ref x_Buffer_give)))
    (im_Buffer_give : PySem.W.isFn K (.ref x_Buffer_give) = true)
    (am_Buffer_take_in : PySem.W.findIn K (.ref x_Buffer) "take_in" = some (some (.ref x_Buffer_take_in)))
    (im_Buffer_take_in : PySem.W.isFn K (.ref x_Buffer_take_in) = true)
    (am_Wire_put : PySem.W.findIn K (.ref x_Wire) "put" = some (some (.ref x_Wire_put)))
    (im_Wire_put : PySem.W.isFn K (.ref x_Wire_put) = true)
    (am_Wire_arriving : PySem.W.findIn K (.ref x_Wire) "arriving" = some (some (.ref x_Wire_arriving)))
    (im_Wire_arriving : PySem.W.isFn K (.ref x_Wire_arriving) = true)
    (am_Wire_under_way : PySem.W.findIn K (.ref x_Wire) "under_way" = some (some (.ref x_Wire_under_way)))
    (im_Wire_under_way : PySem.W.isFn K (.ref x_Wire_under_way) = true)
    (am_Hop_remember : PySem.W.findIn K (.ref x_Hop) "remember" = some (some (.ref x_Hop_remember)))
    (im_Hop_remember : PySem.W.isFn K (.ref x_Hop_remember) = true)
    (am_Hop_sent_after : PySem.W.findIn K (.ref x_Hop) "sent_after" = some (some (.ref x_Hop_sent_after)))
    (im_Hop_sent_after : PySem.W.isFn K (.ref x_Hop_sent_after) = true)
    (am_Wire_copy : PySem.W.findIn K (.ref x_Wire) "copy" = some (some (.ref x_Wire_copy)))
    (im_Wire_copy : PySem.W.isFn K (.ref x_Wire_copy) = true)
    (am_Hop_copy : PySem.W.findIn K (.ref x_Hop) "copy" = some (some (.ref x_Hop_copy)))
    (im_Hop_copy : PySem.W.isFn K (.ref x_Hop_copy) = true)
    (am_Buffer_copy : PySem.W.findIn K (.ref x_Buffer) "copy" = some (some (.ref x_Buffer_copy)))
    (im_Buffer_copy : PySem.W.isFn K (.ref x_Buffer_copy) = true)
    (a_Short : PySem.W.nsIn K mainGlobals "Short" = some (some (.ref x_Short)))
    (a_BandError : PySem.W.nsIn K mainGlobals "BandError" = some (some (.ref x_BandError)))
    (ihn : PySem.W.specialIn K (.builtin "object.__class__") "__get__" = some (some (.builtin "getset_descriptor.__get__")))
    (iht : PySem.W.takesIn K (.builtin "object.__class__") = some true)
    (lk_Short : ClsLk K x_Short)
    (xs_Short : PySem.W.findIn K (.ref x_Short) "__setattr__" = some (some (.builtin "object.__setattr__")))
    (xb_Short : PySem.W.subIn K (.ref x_Short) (.type "BaseException") = some true)
    (xt_Short : PySem.W.typeIn K (.ref x_Short) = some (.type "type"))
    (xp_Short : PySem.W.keepIn K (.ref x_Short) = true)
    (xa_Short : PySem.W.findIn K (.ref x_Short) "__getattribute__" = some (some (.builtin "BaseException.__getattribute__")))
    (xe_Short : PySem.W.findIn K (.ref x_Short) "__getattr__" = some none)
    (xd_Short : PySem.W.hasDictIn K x_Short = true)
    (xc_Short : PySem.W.findIn K (.ref x_Short) "__class__" = some (some (.builtin "object.__class__")))
    (xo_Short : PySem.W.mroIn K x_Short (.type "object") = some true)
    (xf_Short : PySem.W.findIn K (.ref x_Short) "amount" = some none)
    (xi_Short : PySem.W.findIn K (.ref x_Short) "__init__" = some (some (.ref x_Short_init)))
    (xy_Short : PySem.W.typeIn K (.ref x_Short_init) = some (.type "function"))
    (xm_Short_Short : PySem.W.exmOne K (.ref x_Short) (.ref x_Short) = some true)
    (xj_Short_BandError : PySem.W.kitOne K (.ref x_Short) (.ref x_BandError) = some true)
    (pa_Buffer_held : PySem.W.findIn K (.ref x_Buffer) "held" = some (some (.ref x_pr_Buffer_held)))
    (pg_Buffer_held : PySem.W.specialIn K (.ref x_pr_Buffer_held) "__get__" = some (some (.builtin "property.__get__")))
    (pt_Buffer_held : PySem.W.takesIn K (.ref x_pr_Buffer_held) = some true)
    (pr_Buffer_held : PySem.W.recIn K x_pr_Buffer_held "property" = some (.ref x_Buffer_held :: rs_Buffer_held))
    (pa_Buffer_fullest : PySem.W.findIn K (.ref x_Buffer) "fullest" = some (some (.ref x_pr_Buffer_fullest)))
    (pg_Buffer_fullest : PySem.W.specialIn K (.ref x_pr_Buffer_fullest) "__get__" = some (some (.builtin "property.__get__")))
    (pt_Buffer_fullest : PySem.W.takesIn K (.ref x_pr_Buffer_fullest) = some true)
    (pr_Buffer_fullest : PySem.W.recIn K x_pr_Buffer_fullest "property" = some (.ref x_Buffer_fullest :: rs_Buffer_fullest))
    (a_ZERO : PySem.W.nsIn K mainGlobals "ZERO" = some (some (.ref x_ZERO)))
    (l_ZERO : K.lookup x_ZERO = some ⟨.type "tuple", o_ZERO, .seq #[.int 0 t0_ZERO, .int 1 t1_ZERO] nn_ZERO, sl_ZERO⟩)
    (l_Short_init : K.lookup x_Short_init = some ⟨oc_Short_init, od_Short_init, .func (PySem.W.fnOf "__init__" "Short.__init__" (defArgs s_Short_init) (defBody s_Short_init) (defScope s_Short_init) .none kV_Short_init dc_Short_init pm_Short_init an_Short_init cd_Short_init ct_Short_init), sl_Short_init⟩)
    (co_Short_init : PySem.W.codeIn K cd_Short_init "Short.__init__" = true)
    (kp_Short_init : PySem.W.keepIn K (.ref x_Short_init) = true)
    (a_law_bag : PySem.W.nsIn K mainGlobals "_law_bag" = some (some (.ref x_law_bag)))
    (l_law_bag : K.lookup x_law_bag = some ⟨oc_law_bag, od_law_bag, .func (PySem.W.fnOf "_law_bag" "_law_bag" (defArgs s_law_bag) (defBody s_law_bag) (defScope s_law_bag) .none kV_law_bag dc_law_bag pm_law_bag an_law_bag cd_law_bag ct_law_bag), sl_law_bag⟩)
    (co_law_bag : PySem.W.codeIn K cd_law_bag "_law_bag" = true)
    (kp_law_bag : PySem.W.keepIn K (.ref x_law_bag) = true)
    (a_law_draw : PySem.W.nsIn K mainGlobals "_law_draw" = some (some (.ref x_law_draw)))
    (l_law_draw : K.lookup x_law_draw = some ⟨oc_law_draw, od_law_draw, .func (PySem.W.fnOf "_law_draw" "_law_draw" (defArgs s_law_draw) (defBody s_law_draw) (defScope s_law_draw) .none kV_law_draw dc_law_draw pm_law_draw an_law_draw cd_law_draw ct_law_draw), sl_law_draw⟩)
    (co_law_draw : PySem.W.codeIn K cd_law_draw "_law_draw" = true)
    (kp_law_draw : PySem.W.keepIn K (.ref x_law_draw) = true)
    (a_law_of : PySem.W.nsIn K mainGlobals "_law_of" = some (some (.ref x_law_of)))
    (l_law_of : K.lookup x_law_of = some ⟨oc_law_of, od_law_of, .func (PySem.W.fnOf "_law_of" "_law_of" (defArgs s_law_of) (defBody s_law_of) (defScope s_law_of) .none kV_law_of dc_law_of pm_law_of an_law_of cd_law_of ct_law_of), sl_law_of⟩)
    (co_law_of : PySem.W.codeIn K cd_law_of "_law_of" = true)
    (kp_law_of : PySem.W.keepIn K (.ref x_law_of) = true)
    (a_law_amount : PySem.W.nsIn K mainGlobals "_law_amount" = some (some (.ref x_law_amount)))
    (l_law_amount : K.lookup x_law_amount = some ⟨oc_law_amount, od_law_amount, .func (PySem.W.fnOf "_law_amount" "_law_amount" (defArgs s_law_amount) (defBody s_law_amount) (defScope s_law_amount) .none kV_law_amount dc_law_amount pm_law_amount an_law_amount cd_law_amount ct_law_amount), sl_law_amount⟩)
    (co_law_amount : PySem.W.codeIn K cd_law_amount "_law_amount" = true)
    (kp_law_amount : PySem.W.keepIn K (.ref x_law_amount) = true)
    (a_law_some : PySem.W.nsIn K mainGlobals "_law_some" = some (some (.ref x_law_some)))
    (l_law_some : K.lookup x_law_some = some ⟨oc_law_some, od_law_some, .func (PySem.W.fnOf "_law_some" "_law_some" (defArgs s_law_some) (defBody s_law_some) (defScope s_law_some) .none kV_law_some dc_law_some pm_law_some an_law_some cd_law_some ct_law_some), sl_law_some⟩)
    (co_law_some : PySem.W.codeIn K cd_law_some "_law_some" = true)
    (kp_law_some : PySem.W.keepIn K (.ref x_law_some) = true)
    (l_Buffer_init : K.lookup x_Buffer_init = some ⟨oc_Buffer_init, od_Buffer_init, .func (PySem.W.fnOf "__init__" "Buffer.__init__" (defArgs s_Buffer_init) (defBody s_Buffer_init) (defScope s_Buffer_init) .none kV_Buffer_init dc_Buffer_init pm_Buffer_init an_Buffer_init cd_Buffer_init ct_Buffer_init), sl_Buffer_init⟩)
    (co_Buffer_init : PySem.W.codeIn K cd_Buffer_init "Buffer.__init__" = true)
    (kp_Buffer_init : PySem.W.keepIn K (.ref x_Buffer_init) = true)
    (a_law_same : PySem.W.nsIn K mainGlobals "_law_same" = some (some (.ref x_law_same)))
    (l_law_same : K.lookup x_law_same = some ⟨oc_law_same, od_law_same, .func (PySem.W.fnOf "_law_same" "_law_same" (defArgs s_law_same) (defBody s_law_same) (defScope s_law_same) .none kV_law_same dc_law_same pm_law_same an_law_same cd_law_same ct_law_same), sl_law_same⟩)
    (co_law_same : PySem.W.codeIn K cd_law_same "_law_same" = true)
    (kp_law_same : PySem.W.keepIn K (.ref x_law_same) = true)
    (l_Buffer_held : K.lookup x_Buffer_held = some ⟨oc_Buffer_held, od_Buffer_held, .func (PySem.W.fnOf "held" "Buffer.held" (defArgs s_Buffer_held) (defBody s_Buffer_held) (defScope s_Buffer_held) .none kV_Buffer_held dc_Buffer_held pm_Buffer_held an_Buffer_held cd_Buffer_held ct_Buffer_held), sl_Buffer_held⟩)
    (co_Buffer_held : PySem.W.codeIn K cd_Buffer_held "Buffer.held" = true)
    (kp_Buffer_held : PySem.W.keepIn K (.ref x_Buffer_held) = true)
    (l_Buffer_fullest : K.lookup x_Buffer_fullest = some ⟨oc_Buffer_fullest, od_Buffer_fullest, .func (PySem.W.fnOf "fullest" "Buffer.fullest" (defArgs s_Buffer_fullest) (defBody s_Buffer_fullest) (defScope s_Buffer_fullest) .none kV_Buffer_fullest dc_Buffer_fullest pm_Buffer_fullest an_Buffer_fullest cd_Buffer_fullest ct_Buffer_fullest), sl_Buffer_fullest⟩)
    (co_Buffer_fullest : PySem.W.codeIn K cd_Buffer_fullest "Buffer.fullest" = true)
    (kp_Buffer_fullest : PySem.W.keepIn K (.ref x_Buffer_fullest) = true)
    (a_law_buffer_looks : PySem.W.nsIn K mainGlobals "_law_buffer_looks" = some (some (.ref x_law_buffer_looks)))
    (l_law_buffer_looks : K.lookup x_law_buffer_looks = some ⟨oc_law_buffer_looks, od_law_buffer_looks, .func (PySem.W.fnOf "_law_buffer_looks" "_law_buffer_looks" (defArgs s_law_buffer_looks) (defBody s_law_buffer_looks) (defScope s_law_buffer_looks) .none kV_law_buffer_looks dc_law_buffer_looks pm_law_buffer_looks an_law_buffer_looks cd_law_buffer_looks ct_law_buffer_looks), sl_law_buffer_looks⟩)
    (co_law_buffer_looks : PySem.W.codeIn K cd_law_buffer_looks "_law_buffer_looks" = true)
    (kp_law_buffer_looks : PySem.W.keepIn K (.ref x_law_buffer_looks) = true)
    (a_law_less : PySem.W.nsIn K mainGlobals "_law_less" = some (some (.ref x_law_less)))
    (l_law_less : K.lookup x_law_less = some ⟨oc_law_less, od_law_less, .func (PySem.W.fnOf "_law_less" "_law_less" (defArgs s_law_less) (defBody s_law_less) (defScope s_law_less) .none kV_law_less dc_law_less pm_law_less an_law_less cd_law_less ct_law_less), sl_law_less⟩)
    (co_law_less : PySem.W.codeIn K cd_law_less "_law_less" = true)
    (kp_law_less : PySem.W.keepIn K (.ref x_law_less) = true)
    (a_law_max : PySem.W.nsIn K mainGlobals "_law_max" = some (some (.ref x_law_max)))
    (l_law_max : K.lookup x_law_max = some ⟨oc_law_max, od_law_max, .func (PySem.W.fnOf "_law_max" "_law_max" (defArgs s_law_max) (defBody s_law_max) (defScope s_law_max) .none kV_law_max dc_law_max pm_law_max an_law_max cd_law_max ct_law_max), sl_law_max⟩)
    (co_law_max : PySem.W.codeIn K cd_law_max "_law_max" = true)
    (kp_law_max : PySem.W.keepIn K (.ref x_law_max) = true)
    (a_law_sum : PySem.W.nsIn K mainGlobals "_law_sum" = some (some (.ref x_law_sum)))
    (l_law_sum : K.lookup x_law_sum = some ⟨oc_law_sum, od_law_sum, .func (PySem.W.fnOf "_law_sum" "_law_sum" (defArgs s_law_sum) (defBody s_law_sum) (defScope s_law_sum) .none kV_law_sum dc_law_sum pm_law_sum an_law_sum cd_law_sum ct_law_sum), sl_law_sum⟩)
    (co_law_sum : PySem.W.codeIn K cd_law_sum "_law_sum" = true)
    (kp_law_sum : PySem.W.keepIn K (.ref x_law_sum) = true)
    (a_law_min : PySem.W.nsIn K mainGlobals "_law_min" = some (some (.ref x_law_min)))
    (l_law_min : K.lookup x_law_min = some ⟨oc_law_min, od_law_min, .func (PySem.W.fnOf "_law_min" "_law_min" (defArgs s_law_min) (defBody s_law_min) (defScope s_law_min) .none kV_law_min dc_law_min pm_law_min an_law_min cd_law_min ct_law_min), sl_law_min⟩)
    (co_law_min : PySem.W.codeIn K cd_law_min "_law_min" = true)
    (kp_law_min : PySem.W.keepIn K (.ref x_law_min) = true)
    (a_law_scaled : PySem.W.nsIn K mainGlobals "_law_scaled" = some (some (.ref x_law_scaled)))
    (l_law_scaled : K.lookup x_law_scaled = some ⟨oc_law_scaled, od_law_scaled, .func (PySem.W.fnOf "_law_scaled" "_law_scaled" (defArgs s_law_scaled) (defBody s_law_scaled) (defScope s_law_scaled) .none kV_law_scaled dc_law_scaled pm_law_scaled an_law_scaled cd_law_scaled ct_law_scaled), sl_law_scaled⟩)
    (co_law_scaled : PySem.W.codeIn K cd_law_scaled "_law_scaled" = true)
    (kp_law_scaled : PySem.W.keepIn K (.ref x_law_scaled) = true)
    (a_law_part : PySem.W.nsIn K mainGlobals "_law_part" = some (some (.ref x_law_part)))
    (l_law_part : K.lookup x_law_part = some ⟨oc_law_part, od_law_part, .func (PySem.W.fnOf "_law_part" "_law_part" (defArgs s_law_part) (defBody s_law_part) (defScope s_law_part) .none kV_law_part dc_law_part pm_law_part an_law_part cd_law_part ct_law_part), sl_law_part⟩)
    (co_law_part : PySem.W.codeIn K cd_law_part "_law_part" = true)
    (kp_law_part : PySem.W.keepIn K (.ref x_law_part) = true)
    (a_law_piece : PySem.W.nsIn K mainGlobals "_law_piece" = some (some (.ref x_law_piece)))
    (l_law_piece : K.lookup x_law_piece = some ⟨oc_law_piece, od_law_piece, .func (PySem.W.fnOf "_law_piece" "_law_piece" (defArgs s_law_piece) (defBody s_law_piece) (defScope s_law_piece) .none kV_law_piece dc_law_piece pm_law_piece an_law_piece cd_law_piece ct_law_piece), sl_law_piece⟩)
    (co_law_piece : PySem.W.codeIn K cd_law_piece "_law_piece" = true)
    (kp_law_piece : PySem.W.keepIn K (.ref x_law_piece) = true)
    (a_law_rest : PySem.W.nsIn K mainGlobals "_law_rest" = some (some (.ref x_law_rest)))
    (l_law_rest : K.lookup x_law_rest = some ⟨oc_law_rest, od_law_rest, .func (PySem.W.fnOf "_law_rest" "_law_rest" (defArgs s_law_rest) (defBody s_law_rest) (defScope s_law_rest) .none kV_law_rest dc_law_rest pm_law_rest an_law_rest cd_law_rest ct_law_rest), sl_law_rest⟩)
    (co_law_rest : PySem.W.codeIn K cd_law_rest "_law_rest" = true)
    (kp_law_rest : PySem.W.keepIn K (.ref x_law_rest) = true)
    (a_p_lowest : PySem.W.nsIn K mainGlobals "_lowest" = some (some (.ref x_p_lowest)))
    (l_p_lowest : K.lookup x_p_lowest = some ⟨oc_p_lowest, od_p_lowest, .func (PySem.W.fnOf "_lowest" "_lowest" (defArgs s_p_lowest) (defBody s_p_lowest) (defScope s_p_lowest) .none kV_p_lowest dc_p_lowest pm_p_lowest an_p_lowest cd_p_lowest ct_p_lowest), sl_p_lowest⟩)
    (co_p_lowest : PySem.W.codeIn K cd_p_lowest "_lowest" = true)
    (kp_p_lowest : PySem.W.keepIn K (.ref x_p_lowest) = true)
    (a_plus : PySem.W.nsIn K mainGlobals "plus" = some (some (.ref x_plus)))
    (l_plus : K.lookup x_plus = some ⟨oc_plus, od_plus, .func (PySem.W.fnOf "plus" "plus" (defArgs s_plus) (defBody s_plus) (defScope s_plus) .none kV_plus dc_plus pm_plus an_plus cd_plus ct_plus), sl_plus⟩)
    (co_plus : PySem.W.codeIn K cd_plus "plus" = true)
    (kp_plus : PySem.W.keepIn K (.ref x_plus) = true)
    (a_compare : PySem.W.nsIn K mainGlobals "compare" = some (some (.ref x_compare)))
    (l_compare : K.lookup x_compare = some ⟨oc_compare, od_compare, .func (PySem.W.fnOf "compare" "compare" (defArgs s_compare) (defBody s_compare) (defScope s_compare) .none kV_compare dc_compare pm_compare an_compare cd_compare ct_compare), sl_compare⟩)
    (co_compare : PySem.W.codeIn K cd_compare "compare" = true)
    (kp_compare : PySem.W.keepIn K (.ref x_compare) = true)
    (a_largest : PySem.W.nsIn K mainGlobals "largest" = some (some (.ref x_largest)))
    (l_largest : K.lookup x_largest = some ⟨oc_largest, od_largest, .func (PySem.W.fnOf "largest" "largest" (defArgs s_largest) (defBody s_largest) (defScope s_largest) .none kV_largest dc_largest pm_largest an_largest cd_largest ct_largest), sl_largest⟩)
    (co_largest : PySem.W.codeIn K cd_largest "largest" = true)
    (kp_largest : PySem.W.keepIn K (.ref x_largest) = true)
    (l_Buffer_set_to : K.lookup x_Buffer_set_to = some ⟨oc_Buffer_set_to, od_Buffer_set_to, .func (PySem.W.fnOf "set_to" "Buffer.set_to" (defArgs s_Buffer_set_to) (defBody s_Buffer_set_to) (defScope s_Buffer_set_to) .none kV_Buffer_set_to dc_Buffer_set_to pm_Buffer_set_to an_Buffer_set_to cd_Buffer_set_to ct_Buffer_set_to), sl_Buffer_set_to⟩)
    (co_Buffer_set_to : PySem.W.codeIn K cd_Buffer_set_to "Buffer.set_to" = true)
    (kp_Buffer_set_to : PySem.W.keepIn K (.ref x_Buffer_set_to) = true)
    (a_minus : PySem.W.nsIn K mainGlobals "minus" = some (some (.ref x_minus)))
    (l_minus : K.lookup x_minus = some ⟨oc_minus, od_minus, .func (PySem.W.fnOf "minus" "minus" (defArgs s_minus) (defBody s_minus) (defScope s_minus) .none kV_minus dc_minus pm_minus an_minus cd_minus ct_minus), sl_minus⟩)
    (co_minus : PySem.W.codeIn K cd_minus "minus" = true)
    (kp_minus : PySem.W.keepIn K (.ref x_minus) = true)
    (l_Buffer_take_in : K.lookup x_Buffer_take_in = some ⟨oc_Buffer_take_in, od_Buffer_take_in, .func (PySem.W.fnOf "take_in" "Buffer.take_in" (defArgs s_Buffer_take_in) (defBody s_Buffer_take_in) (defScope s_Buffer_take_in) .none kV_Buffer_take_in dc_Buffer_take_in pm_Buffer_take_in an_Buffer_take_in cd_Buffer_take_in ct_Buffer_take_in), sl_Buffer_take_in⟩)
    (co_Buffer_take_in : PySem.W.codeIn K cd_Buffer_take_in "Buffer.take_in" = true)
    (kp_Buffer_take_in : PySem.W.keepIn K (.ref x_Buffer_take_in) = true)
    (l_Buffer_give : K.lookup x_Buffer_give = some ⟨oc_Buffer_give, od_Buffer_give, .func (PySem.W.fnOf "give" "Buffer.give" (defArgs s_Buffer_give) (defBody s_Buffer_give) (defScope s_Buffer_give) .none kV_Buffer_give dc_Buffer_give pm_Buffer_give an_Buffer_give cd_Buffer_give ct_Buffer_give), sl_Buffer_give⟩)
    (co_Buffer_give : PySem.W.codeIn K cd_Buffer_give "Buffer.give" = true)
    (kp_Buffer_give : PySem.W.keepIn K (.ref x_Buffer_give) = true)
    (a_law_short : PySem.W.nsIn K mainGlobals "_law_short" = some (some (.ref x_law_short)))
    (l_law_short : K.lookup x_law_short = some ⟨oc_law_short, od_law_short, .func (PySem.W.fnOf "_law_short" "_law_short" (defArgs s_law_short) (defBody s_law_short) (defScope s_law_short) .none kV_law_short dc_law_short pm_law_short an_law_short cd_law_short ct_law_short), sl_law_short⟩)
    (co_law_short : PySem.W.codeIn K cd_law_short "_law_short" = true)
    (kp_law_short : PySem.W.keepIn K (.ref x_law_short) = true)
    (a_law_buffer_deed : PySem.W.nsIn K mainGlobals "_law_buffer_deed" = some (some (.ref x_law_buffer_deed)))
    (l_law_buffer_deed : K.lookup x_law_buffer_deed = some ⟨oc_law_buffer_deed, od_law_buffer_deed, .func (PySem.W.fnOf "_law_buffer_deed" "_law_buffer_deed" (defArgs s_law_buffer_deed) (defBody s_law_buffer_deed) (defScope s_law_buffer_deed) .none kV_law_buffer_deed dc_law_buffer_deed pm_law_buffer_deed an_law_buffer_deed cd_law_buffer_deed ct_law_buffer_deed), sl_law_buffer_deed⟩)
    (co_law_buffer_deed : PySem.W.codeIn K cd_law_buffer_deed "_law_buffer_deed" = true)
    (kp_law_buffer_deed : PySem.W.keepIn K (.ref x_law_buffer_deed) = true)
    (l_Wire_init : K.lookup x_Wire_init = some ⟨oc_Wire_init, od_Wire_init, .func (PySem.W.fnOf "__init__" "Wire.__init__" (defArgs s_Wire_init) (defBody s_Wire_init) (defScope s_Wire_init) .none kV_Wire_init dc_Wire_init pm_Wire_init an_Wire_init cd_Wire_init ct_Wire_init), sl_Wire_init⟩)
    (co_Wire_init : PySem.W.codeIn K cd_Wire_init "Wire.__init__" = true)
    (kp_Wire_init : PySem.W.keepIn K (.ref x_Wire_init) = true)
    (l_Hop_init : K.lookup x_Hop_init = some ⟨oc_Hop_init, od_Hop_init, .func (PySem.W.fnOf "__init__" "Hop.__init__" (defArgs s_Hop_init) (defBody s_Hop_init) (defScope s_Hop_init) .none kV_Hop_init dc_Hop_init pm_Hop_init an_Hop_init cd_Hop_init ct_Hop_init), sl_Hop_init⟩)
    (co_Hop_init : PySem.W.codeIn K cd_Hop_init "Hop.__init__" = true)
    (kp_Hop_init : PySem.W.keepIn K (.ref x_Hop_init) = true)
    (l_Hop_sent_after : K.lookup x_Hop_sent_after = some ⟨oc_Hop_sent_after, od_Hop_sent_after, .func (PySem.W.fnOf "sent_after" "Hop.sent_after" (defArgs s_Hop_sent_after) (defBody s_Hop_sent_after) (defScope s_Hop_sent_after) .none kV_Hop_sent_after dc_Hop_sent_after pm_Hop_sent_after an_Hop_sent_after cd_Hop_sent_after ct_Hop_sent_after), sl_Hop_sent_after⟩)
    (co_Hop_sent_after : PySem.W.codeIn K cd_Hop_sent_after "Hop.sent_after" = true)
    (kp_Hop_sent_after : PySem.W.keepIn K (.ref x_Hop_sent_after) = true)
    (a_law_all : PySem.W.nsIn K mainGlobals "_law_all" = some (some (.ref x_law_all)))
    (l_law_all : K.lookup x_law_all = some ⟨oc_law_all, od_law_all, .func (PySem.W.fnOf "_law_all" "_law_all" (defArgs s_law_all) (defBody s_law_all) (defScope s_law_all) .none kV_law_all dc_law_all pm_law_all an_law_all cd_law_all ct_law_all), sl_law_all⟩)
    (co_law_all : PySem.W.codeIn K cd_law_all "_law_all" = true)
    (kp_law_all : PySem.W.keepIn K (.ref x_law_all) = true)
    (l_Wire_put : K.lookup x_Wire_put = some ⟨oc_Wire_put, od_Wire_put, .func (PySem.W.fnOf "put" "Wire.put" (defArgs s_Wire_put) (defBody s_Wire_put) (defScope s_Wire_put) .none kV_Wire_put dc_Wire_put pm_Wire_put an_Wire_put cd_Wire_put ct_Wire_put), sl_Wire_put⟩)
    (co_Wire_put : PySem.W.codeIn K cd_Wire_put "Wire.put" = true)
    (kp_Wire_put : PySem.W.keepIn K (.ref x_Wire_put) = true)
    (l_Wire_arriving : K.lookup x_Wire_arriving = some ⟨oc_Wire_arriving, od_Wire_arriving, .func (PySem.W.fnOf "arriving" "Wire.arriving" (defArgs s_Wire_arriving) (defBody s_Wire_arriving) (defScope s_Wire_arriving) .none kV_Wire_arriving dc_Wire_arriving pm_Wire_arriving an_Wire_arriving cd_Wire_arriving ct_Wire_arriving), sl_Wire_arriving⟩)
    (co_Wire_arriving : PySem.W.codeIn K cd_Wire_arriving "Wire.arriving" = true)
    (kp_Wire_arriving : PySem.W.keepIn K (.ref x_Wire_arriving) = true)
    (l_Wire_under_way : K.lookup x_Wire_under_way = some ⟨oc_Wire_under_way, od_Wire_under_way, .func (PySem.W.fnOf "under_way" "Wire.under_way" (defArgs s_Wire_under_way) (defBody s_Wire_under_way) (defScope s_Wire_under_way) .none kV_Wire_under_way dc_Wire_under_way pm_Wire_under_way an_Wire_under_way cd_Wire_under_way ct_Wire_under_way), sl_Wire_under_way⟩)
    (co_Wire_under_way : PySem.W.codeIn K cd_Wire_under_way "Wire.under_way" = true)
    (kp_Wire_under_way : PySem.W.keepIn K (.ref x_Wire_under_way) = true)
    (a_law_wire_deed : PySem.W.nsIn K mainGlobals "_law_wire_deed" = some (some (.ref x_law_wire_deed)))
    (l_law_wire_deed : K.lookup x_law_wire_deed = some ⟨oc_law_wire_deed, od_law_wire_deed, .func (PySem.W.fnOf "_law_wire_deed" "_law_wire_deed" (defArgs s_law_wire_deed) (defBody s_law_wire_deed) (defScope s_law_wire_deed) .none kV_law_wire_deed dc_law_wire_deed pm_law_wire_deed an_law_wire_deed cd_law_wire_deed ct_law_wire_deed), sl_law_wire_deed⟩)
    (co_law_wire_deed : PySem.W.codeIn K cd_law_wire_deed "_law_wire_deed" = true)
    (kp_law_wire_deed : PySem.W.keepIn K (.ref x_law_wire_deed) = true)
    (l_Hop_remember : K.lookup x_Hop_remember = some ⟨oc_Hop_remember, od_Hop_remember, .func (PySem.W.fnOf "remember" "Hop.remember" (defArgs s_Hop_remember) (defBody s_Hop_remember) (defScope s_Hop_remember) .none kV_Hop_remember dc_Hop_remember pm_Hop_remember an_Hop_remember cd_Hop_remember ct_Hop_remember), sl_Hop_remember⟩)
    (co_Hop_remember : PySem.W.codeIn K cd_Hop_remember "Hop.remember" = true)
    (kp_Hop_remember : PySem.W.keepIn K (.ref x_Hop_remember) = true)
    (a_law_hop_deed : PySem.W.nsIn K mainGlobals "_law_hop_deed" = some (some (.ref x_law_hop_deed)))
    (l_law_hop_deed : K.lookup x_law_hop_deed = some ⟨oc_law_hop_deed, od_law_hop_deed, .func (PySem.W.fnOf "_law_hop_deed" "_law_hop_deed" (defArgs s_law_hop_deed) (defBody s_law_hop_deed) (defScope s_law_hop_deed) .none kV_law_hop_deed dc_law_hop_deed pm_law_hop_deed an_law_hop_deed cd_law_hop_deed ct_law_hop_deed), sl_law_hop_deed⟩)
    (co_law_hop_deed : PySem.W.codeIn K cd_law_hop_deed "_law_hop_deed" = true)
    (kp_law_hop_deed : PySem.W.keepIn K (.ref x_law_hop_deed) = true)
    (l_Wire_copy : K.lookup x_Wire_copy = some ⟨oc_Wire_copy, od_Wire_copy, .func (PySem.W.fnOf "copy" "Wire.copy" (defArgs s_Wire_copy) (defBody s_Wire_copy) (defScope s_Wire_copy) .none kV_Wire_copy dc_Wire_copy pm_Wire_copy an_Wire_copy cd_Wire_copy ct_Wire_copy), sl_Wire_copy⟩)
    (co_Wire_copy : PySem.W.codeIn K cd_Wire_copy "Wire.copy" = true)
    (kp_Wire_copy : PySem.W.keepIn K (.ref x_Wire_copy) = true)
    (l_Hop_copy : K.lookup x_Hop_copy = some ⟨oc_Hop_copy, od_Hop_copy, .func (PySem.W.fnOf "copy" "Hop.copy" (defArgs s_Hop_copy) (defBody s_Hop_copy) (defScope s_Hop_copy) .none kV_Hop_copy dc_Hop_copy pm_Hop_copy an_Hop_copy cd_Hop_copy ct_Hop_copy), sl_Hop_copy⟩)
    (co_Hop_copy : PySem.W.codeIn K cd_Hop_copy "Hop.copy" = true)
    (kp_Hop_copy : PySem.W.keepIn K (.ref x_Hop_copy) = true)
    (l_Buffer_copy : K.lookup x_Buffer_copy = some ⟨oc_Buffer_copy, od_Buffer_copy, .func (PySem.W.fnOf "copy" "Buffer.copy" (defArgs s_Buffer_copy) (defBody s_Buffer_copy) (defScope s_Buffer_copy) .none kV_Buffer_copy dc_Buffer_copy pm_Buffer_copy an_Buffer_copy cd_Buffer_copy ct_Buffer_copy), sl_Buffer_copy⟩)
    (co_Buffer_copy : PySem.W.codeIn K cd_Buffer_copy "Buffer.copy" = true)
    (kp_Buffer_copy : PySem.W.keepIn K (.ref x_Buffer_copy) = true)
    (a_law : PySem.W.nsIn K mainGlobals "law" = some (some (.ref x_law)))
    (l_law : K.lookup x_law = some ⟨oc_law, od_law, .func (PySem.W.fnOf "law" "law" (defArgs s_law) (defBody s_law) (defScope s_law) .none kV_law dc_law pm_law an_law cd_law ct_law), sl_law⟩)
    (co_law : PySem.W.codeIn K cd_law "law" = true)
    (kp_law : PySem.W.keepIn K (.ref x_law) = true)
    (z_int : PySem.W.nsIn K mainGlobals "int" = some none)
    (z_list : PySem.W.nsIn K mainGlobals "list" = some none)
    (z_len : PySem.W.nsIn K mainGlobals "len" = some none)
    (z_isinstance : PySem.W.nsIn K mainGlobals "isinstance" = some none)
    (z_tuple : PySem.W.nsIn K mainGlobals "tuple" = some none)
    (z_all : PySem.W.nsIn K mainGlobals "all" = some none)
    (z_zip : PySem.W.nsIn K mainGlobals "zip" = some none)
    (z_bool : PySem.W.nsIn K mainGlobals "bool" = some none)
    (z_str : PySem.W.nsIn K mainGlobals "str" = some none)
    (z_max : PySem.W.nsIn K mainGlobals "max" = some none)
    (z_range : PySem.W.nsIn K mainGlobals "range" = some none)
    (z_dict : PySem.W.nsIn K mainGlobals "dict" = some none)
    (i_gcd : PySem.W.nsIn K mainGlobals "gcd" = some (some (.builtin "math.gcd"))) :
    ∃ fd : FuncData, (∀ (s : Shared) (v : Value), BindsTo s fd ⟨[v], []⟩ [("_law_script", v)]) ∧ ∀ base : Heap, K.In base → base.Ns mainGlobals mg → FnOk l.prog w K mg base CX0 7 fa fd ["_law_script"] (spLaw K) := by
  have e := hfa.symm.trans (PySem.W.mg_of X G a_law)
  cases e
  have t_ZERO : ∀ G, RV K G (.tup [(.int 0), (.int 1)]) (.ref x_ZERO) := ktup_of l_ZERO (by show 2 ≤ 16777216; decide) (xs := [.int 0, .int 1]) (.cons ⟨_, rfl⟩ (.cons ⟨_, rfl⟩ (.nil))) fun G => RVs.of_ints [0, 1]
  have T : Txt K mg (Adr.mk x_Buffer x_Wire x_Hop x_Short x_BandError x_ZERO x_Short_init x_law_bag x_law_draw x_law_of x_law_amount x_law_some x_Buffer_init x_law_same x_Buffer_held x_Buffer_fullest x_law_buffer_looks x_law_less x_law_max x_law_sum x_law_min x_law_scaled x_law_part x_law_piece x_law_rest x_p_lowest x_plus x_compare x_largest x_Buffer_set_to x_minus x_Buffer_take_in x_Buffer_give x_law_short x_law_buffer_deed x_Wire_init x_Hop_init x_Hop_sent_after x_law_all x_Wire_put x_Wire_arriving x_Wire_under_way x_law_wire_deed x_Hop_remember x_law_hop_deed x_Wire_copy x_Hop_copy x_Buffer_copy fa x_pr_Buffer_held x_pr_Buffer_fullest) := ⟨⟨pg_Buffer, hd_Buffer, po_Buffer, sa_Buffer⟩, ⟨pg_Wire, hd_Wire, po_Wire, sa_Wire⟩, ⟨pg_Hop, hd_Hop, po_Hop, sa_Hop⟩, ⟨mm_Wire, ai_Wire, if_Wire, kc_Wire⟩, PySem.W.mg_of X G a_Wire, ⟨mm_Hop, ai_Hop, if_Hop, kc_Hop⟩, PySem.W.mg_of X G a_Hop, ⟨mm_Buffer, ai_Buffer, if_Buffer, kc_Buffer⟩, PySem.W.mg_of X G a_Buffer, n_Buffer_size, n_Buffer_p_held, n_Buffer_p_fullest, n_Wire_p_way, n_Wire_p_sent, n_Hop_p_way, n_Hop_p_age, n_Hop_p_sent, ⟨am_Buffer_set_to, im_Buffer_set_to, kp_Buffer_set_to⟩, ⟨am_Buffer_give, im_Buffer_give, kp_Buffer_give⟩, ⟨am_Buffer_take_in, im_Buffer_take_in, kp_Buffer_take_in⟩, ⟨am_Wire_put, im_Wire_put, kp_Wire_put⟩, ⟨am_Wire_arriving, im_Wire_arriving, kp_Wire_arriving⟩, ⟨am_Wire_under_way, im_Wire_under_way, kp_Wire_under_way⟩, ⟨am_Hop_remember, im_Hop_remember, kp_Hop_remember⟩, ⟨am_Hop_sent_after, im_Hop_sent_after, kp_Hop_sent_after⟩, ⟨am_Wire_copy, im_Wire_copy, kp_Wire_copy⟩, ⟨am_Hop_copy, im_Hop_copy, kp_Hop_copy⟩, ⟨am_Buffer_copy, im_Buffer_copy, kp_Buffer_copy⟩, ⟨pa_Buffer_held, pg_Buffer_held, pt_Buffer_held, _, pr_Buffer_held⟩, ⟨pa_Buffer_fullest, pg_Buffer_fullest, pt_Buffer_fullest, _, pr_Buffer_fullest⟩, PySem.W.mg_of X G a_ZERO, t_ZERO, PySem.W.mg_of X G a_law_bag, kp_law_bag, PySem.W.mg_of X G a_law_draw, kp_law_draw, PySem.W.mg_of X G a_law_of, kp_law_of, PySem.W.mg_of X G a_law_amount, kp_law_amount, PySem.W.mg_of X G a_law_some, kp_law_some, PySem.W.mg_of X G a_law_same, kp_law_same, PySem.W.mg_of X G a_law_buffer_looks, kp_law_buffer_looks, PySem.W.mg_of X G a_law_less, kp_law_less, PySem.W.mg_of X G a_law_max, kp_law_max, PySem.W.mg_of X G a_law_sum, kp_law_sum, PySem.W.mg_of X G a_law_min, kp_law_min, PySem.W.mg_of X G a_law_scaled, kp_law_scaled, PySem.W.mg_of X G a_law_part, kp_law_part, PySem.W.mg_of X G a_law_piece, kp_law_piece, PySem.W.mg_of X G a_law_rest, kp_law_rest, PySem.W.mg_of X G a_p_lowest, kp_p_lowest, PySem.W.mg_of X G a_plus, kp_plus, PySem.W.mg_of X G a_compare, kp_compare, PySem.W.mg_of X G a_largest, kp_largest, PySem.W.mg_of X G a_minus, kp_minus, PySem.W.mg_of X G a_law_short, kp_law_short, PySem.W.mg_of X G a_law_buffer_deed, kp_law_buffer_deed, PySem.W.mg_of X G a_law_all, kp_law_all, PySem.W.mg_of X G a_law_wire_deed, kp_law_wire_deed, PySem.W.mg_of X G a_law_hop_deed, kp_law_hop_deed, PySem.W.mg_none_of X G z_int, PySem.W.mg_none_of X G z_list, PySem.W.mg_none_of X G z_len, PySem.W.mg_none_of X G z_isinstance, PySem.W.mg_none_of X G z_tuple, PySem.W.mg_none_of X G z_all, PySem.W.mg_none_of X G z_zip, PySem.W.mg_none_of X G z_bool, PySem.W.mg_none_of X G z_str, PySem.W.mg_none_of X G z_max, PySem.W.mg_none_of X G z_range, PySem.W.mg_none_of X G z_dict, ⟨PySem.W.mg_of X G a_Short, ⟨lk_Short, xs_Short, xb_Short, xt_Short, xp_Short⟩, ⟨xa_Short, xe_Short, xb_Short, xd_Short⟩, ⟨xa_Short, xe_Short, xb_Short, xd_Short, xc_Short, ihn, iht, xo_Short⟩, xf_Short, xi_Short, xy_Short⟩, PySem.W.mg_of X G a_Short, PySem.W.mg_of X G a_BandError, xf_Short, xm_Short_Short, xj_Short_BandError, PySem.W.mg_of X G i_gcd⟩
  have F_Short_init := fun_mk (st := s_Short_init) l_Short_init co_Short_init kp_Short_init
  have F_law_bag := fun_mk (st := s_law_bag) l_law_bag co_law_bag kp_law_bag
  have F_law_draw := fun_mk (st := s_law_draw) l_law_draw co_law_draw kp_law_draw
  have F_law_of := fun_mk (st := s_law_of) l_law_of co_law_of kp_law_of
  have F_law_amount := fun_mk (st := s_law_amount) l_law_amount co_law_amount kp_law_amount
  have F_law_some := fun_mk (st := s_law_some) l_law_some co_law_some kp_law_some
  have F_Buffer_init := fun_mk (st := s_Buffer_init) l_Buffer_init co_Buffer_init kp_Buffer_init
  have F_law_same := fun_mk (st := s_law_same) l_law_same co_law_same kp_law_same
  have F_Buffer_held := fun_mk (st := s_Buffer_held) l_Buffer_held co_Buffer_held kp_Buffer_held
  have F_Buffer_fullest := fun_mk (st := s_Buffer_fullest) l_Buffer_fullest co_Buffer_fullest kp_Buffer_fullest
  have F_law_buffer_looks := fun_mk (st := s_law_buffer_looks) l_law_buffer_looks co_law_buffer_looks kp_law_buffer_looks
  have F_law_less := fun_mk (st := s_law_less) l_law_less co_law_less kp_law_less
  have F_law_max := fun_mk (st := s_law_max) l_law_max co_law_max kp_law_max
  have F_law_sum := fun_mk (st := s_law_sum) l_law_sum co_law_sum kp_law_sum
  have F_law_min := fun_mk (st := s_law_min) l_law_min co_law_min kp_law_min
  have F_law_scaled := fun_mk (st := s_law_scaled) l_law_scaled co_law_scaled kp_law_scaled
  have F_law_part := fun_mk (st := s_law_part) l_law_part co_law_part kp_law_part
  have F_law_piece := fun_mk (st := s_law_piece) l_law_piece co_law_piece kp_law_piece
  have F_law_rest := fun_mk (st := s_law_rest) l_law_rest co_law_rest kp_law_rest
  have F_p_lowest := fun_mk (st := s_p_lowest) l_p_lowest co_p_lowest kp_p_lowest
  have F_plus := fun_mk (st := s_plus) l_plus co_plus kp_plus
  have F_compare := fun_mk (st := s_compare) l_compare co_compare kp_compare
  have F_largest := fun_mk (st := s_largest) l_largest co_largest kp_largest
  have F_Buffer_set_to := fun_mk (st := s_Buffer_set_to) l_Buffer_set_to co_Buffer_set_to kp_Buffer_set_to
  have F_minus := fun_mk (st := s_minus) l_minus co_minus kp_minus
  have F_Buffer_take_in := fun_mk (st := s_Buffer_take_in) l_Buffer_take_in co_Buffer_take_in kp_Buffer_take_in
  have F_Buffer_give := fun_mk (st := s_Buffer_give) l_Buffer_give co_Buffer_give kp_Buffer_give
  have F_law_short := fun_mk (st := s_law_short) l_law_short co_law_short kp_law_short
  have F_law_buffer_deed := fun_mk (st := s_law_buffer_deed) l_law_buffer_deed co_law_buffer_deed kp_law_buffer_deed
  have F_Wire_init := fun_mk (st := s_Wire_init) l_Wire_init co_Wire_init kp_Wire_init
  have F_Hop_init := fun_mk (st := s_Hop_init) l_Hop_init co_Hop_init kp_Hop_init
  have F_Hop_sent_after := fun_mk (st := s_Hop_sent_after) l_Hop_sent_after co_Hop_sent_after kp_Hop_sent_after
  have F_law_all := fun_mk (st := s_law_all) l_law_all co_law_all kp_law_all
  have F_Wire_put := fun_mk (st := s_Wire_put) l_Wire_put co_Wire_put kp_Wire_put
  have F_Wire_arriving := fun_mk (st := s_Wire_arriving) l_Wire_arriving co_Wire_arriving kp_Wire_arriving
  have F_Wire_under_way := fun_mk (st := s_Wire_under_way) l_Wire_under_way co_Wire_under_way kp_Wire_under_way
  have F_law_wire_deed := fun_mk (st := s_law_wire_deed) l_law_wire_deed co_law_wire_deed kp_law_wire_deed
  have F_Hop_remember := fun_mk (st := s_Hop_remember) l_Hop_remember co_Hop_remember kp_Hop_remember
  have F_law_hop_deed := fun_mk (st := s_law_hop_deed) l_law_hop_deed co_law_hop_deed kp_law_hop_deed
  have F_Wire_copy := fun_mk (st := s_Wire_copy) l_Wire_copy co_Wire_copy kp_Wire_copy
  have F_Hop_copy := fun_mk (st := s_Hop_copy) l_Hop_copy co_Hop_copy kp_Hop_copy
  have F_Buffer_copy := fun_mk (st := s_Buffer_copy) l_Buffer_copy co_Buffer_copy kp_Buffer_copy
  have F_law := fun_mk (st := s_law) l_law co_law kp_law
  have b_Short_init := F_Short_init.binds (ps := ["self", "amount"]) fun _ _ _ _ _ _ us hl => match us, hl with | [_, _], _ => rfl
  have b_law_bag := F_law_bag.binds (ps := ["_law_script"]) fun _ _ _ _ _ _ us hl => match us, hl with | [_], _ => rfl
  have b_law_draw := F_law_draw.binds (ps := ["_law_bag_here", "_law_many"]) fun _ _ _ _ _ _ us hl => match us, hl with | [_, _], _ => rfl
  have b_law_of := F_law_of.binds (ps := ["_law_bag_here", "_law_things"]) fun _ _ _ _ _ _ us hl => match us, hl with | [_, _], _ => rfl
  have b_law_amount := F_law_amount.binds (ps := ["_law_top", "_law_bottom"]) fun _ _ _ _ _ _ us hl => match us, hl with | [_, _], _ => rfl
  have b_law_some := F_law_some.binds (ps := ["_law_bag_here", "_law_most"]) fun _ _ _ _ _ _ us hl => match us, hl with | [_, _], _ => rfl
  have b_Buffer_init := F_Buffer_init.binds (ps := ["self", "size"]) fun _ _ _ _ _ _ us hl => match us, hl with | [_, _], _ => rfl
  have b_law_same := F_law_same.binds (ps := ["_law_told", "_law_due"]) fun _ _ _ _ _ _ us hl => match us, hl with | [_, _], _ => rfl
  have b_Buffer_held := F_Buffer_held.binds (ps := ["self"]) fun _ _ _ _ _ _ us hl => match us, hl with | [_], _ => rfl
  have b_Buffer_fullest := F_Buffer_fullest.binds (ps := ["self"]) fun _ _ _ _ _ _ us hl => match us, hl with | [_], _ => rfl
  have b_law_buffer_looks := F_law_buffer_looks.binds (ps := ["_law_side"]) fun _ _ _ _ _ _ us hl => match us, hl with | [_], _ => rfl
  have b_law_less := F_law_less.binds (ps := ["_law_one", "_law_two"]) fun _ _ _ _ _ _ us hl => match us, hl with | [_, _], _ => rfl
  have b_law_max := F_law_max.binds (ps := ["_law_one", "_law_two"]) fun _ _ _ _ _ _ us hl => match us, hl with | [_, _], _ => rfl
  have b_law_sum := F_law_sum.binds (ps := ["_law_one", "_law_two"]) fun _ _ _ _ _ _ us hl => match us, hl with | [_, _], _ => rfl
  have b_law_min := F_law_min.binds (ps := ["_law_one", "_law_two"]) fun _ _ _ _ _ _ us hl => match us, hl with | [_, _], _ => rfl
  have b_law_scaled := F_law_scaled.binds (ps := ["_law_one", "_law_top", "_law_bottom"]) fun _ _ _ _ _ _ us hl => match us, hl with | [_, _, _], _ => rfl
  have b_law_part := F_law_part.binds (ps := ["_law_bag_here", "_law_one"]) fun _ _ _ _ _ _ us hl => match us, hl with | [_, _], _ => rfl
  have b_law_piece := F_law_piece.binds (ps := ["_law_bag_here", "_law_one"]) fun _ _ _ _ _ _ us hl => match us, hl with | [_, _], _ => rfl
  have b_law_rest := F_law_rest.binds (ps := ["_law_one", "_law_two"]) fun _ _ _ _ _ _ us hl => match us, hl with | [_, _], _ => rfl
  have b_p_lowest := F_p_lowest.binds (ps := ["top", "bottom"]) fun _ _ _ _ _ _ us hl => match us, hl with | [_, _], _ => rfl
  have b_compare := F_compare.binds (ps := ["first", "second"]) fun _ _ _ _ _ _ us hl => match us, hl with | [_, _], _ => rfl
  have b_Buffer_set_to := F_Buffer_set_to.binds (ps := ["self", "water"]) fun _ _ _ _ _ _ us hl => match us, hl with | [_, _], _ => rfl
  have b_minus := F_minus.binds (ps := ["first", "second"]) fun _ _ _ _ _ _ us hl => match us, hl with | [_, _], _ => rfl
  have b_Buffer_take_in := F_Buffer_take_in.binds (ps := ["self", "water"]) fun _ _ _ _ _ _ us hl => match us, hl with | [_, _], _ => rfl
  have b_Buffer_give := F_Buffer_give.binds (ps := ["self", "water"]) fun _ _ _ _ _ _ us hl => match us, hl with | [_, _], _ => rfl
  have b_law_short := F_law_short.binds (ps := ["_law_told", "_law_one"]) fun _ _ _ _ _ _ us hl => match us, hl with | [_, _], _ => rfl
  have b_law_buffer_deed := F_law_buffer_deed.binds (ps := ["_law_bag_here", "_law_side"]) fun _ _ _ _ _ _ us hl => match us, hl with | [_, _], _ => rfl
  have b_Wire_init := F_Wire_init.binds (ps := ["self", "way"]) fun _ _ _ _ _ _ us hl => match us, hl with | [_, _], _ => rfl
  have b_Hop_init := F_Hop_init.binds (ps := ["self", "way", "age"]) fun _ _ _ _ _ _ us hl => match us, hl with | [_, _, _], _ => rfl
  have b_Hop_sent_after := F_Hop_sent_after.binds (ps := ["self", "tick", "now"]) fun _ _ _ _ _ _ us hl => match us, hl with | [_, _, _], _ => rfl
  have b_law_all := F_law_all.binds (ps := ["_law_row"]) fun _ _ _ _ _ _ us hl => match us, hl with | [_], _ => rfl
  have b_Wire_put := F_Wire_put.binds (ps := ["self", "tick", "water"]) fun _ _ _ _ _ _ us hl => match us, hl with | [_, _, _], _ => rfl
  have b_Wire_arriving := F_Wire_arriving.binds (ps := ["self", "tick"]) fun _ _ _ _ _ _ us hl => match us, hl with | [_, _], _ => rfl
  have b_Wire_under_way := F_Wire_under_way.binds (ps := ["self", "tick"]) fun _ _ _ _ _ _ us hl => match us, hl with | [_, _], _ => rfl
  have b_law_wire_deed := F_law_wire_deed.binds (ps := ["_law_bag_here", "_law_side"]) fun _ _ _ _ _ _ us hl => match us, hl with | [_, _], _ => rfl
  have b_Hop_remember := F_Hop_remember.binds (ps := ["self", "tick", "water"]) fun _ _ _ _ _ _ us hl => match us, hl with | [_, _, _], _ => rfl
  have b_law_hop_deed := F_law_hop_deed.binds (ps := ["_law_bag_here", "_law_side"]) fun _ _ _ _ _ _ us hl => match us, hl with | [_, _], _ => rfl
  have b_Wire_copy := F_Wire_copy.binds (ps := ["self"]) fun _ _ _ _ _ _ us hl => match us, hl with | [_], _ => rfl
  have b_Hop_copy := F_Hop_copy.binds (ps := ["self"]) fun _ _ _ _ _ _ us hl => match us, hl with | [_], _ => rfl
  have b_Buffer_copy := F_Buffer_copy.binds (ps := ["self"]) fun _ _ _ _ _ _ us hl => match us, hl with | [_], _ => rfl
  refine ⟨PySem.W.fnOf "law" "law" (defArgs s_law) (defBody s_law) (defScope s_law) .none kV_law dc_law pm_law an_law cd_law ct_law, fun s v => .of_eq rfl, fun base _ _ => ?_⟩
  have X_Short := ex_Short (P := l.prog) (w := w) (base := base) T F_Short_init b_Short_init
  have G_law_bag := d_law_bag (P := l.prog) (w := w) (base := base) T F_law_bag b_law_bag
  have G_law_draw := d_law_draw (P := l.prog) (w := w) (base := base) T F_law_draw b_law_draw
  have G_law_of := d_law_of (P := l.prog) (w := w) (base := base) T F_law_of b_law_of G_law_draw
  have G_law_amount := d_law_amount (P := l.prog) (w := w) (base := base) T F_law_amount b_law_amount
  have G_law_some := d_law_some (P := l.prog) (w := w) (base := base) T F_law_some b_law_some G_law_of G_law_amount G_law_draw
  have G_Buffer_init := d_Buffer_init (P := l.prog) (w := w) (base := base) T F_Buffer_init b_Buffer_init
  have GH_law_same := dh_law_same (P := l.prog) (w := w) (base := base) T F_law_same b_law_same 4
  have G_law_same := d_law_same (P := l.prog) (w := w) (base := base) T F_law_same b_law_same 4
  have G_Buffer_held := d_Buffer_held (P := l.prog) (w := w) (base := base) T F_Buffer_held b_Buffer_held
  have G_Buffer_fullest := d_Buffer_fullest (P := l.prog) (w := w) (base := base) T F_Buffer_fullest b_Buffer_fullest
  have G_law_buffer_looks := d_law_buffer_looks (P := l.prog) (w := w) (base := base) T F_law_buffer_looks b_law_buffer_looks G_law_same G_Buffer_held G_Buffer_fullest
  have G_law_less := d_law_less (P := l.prog) (w := w) (base := base) T F_law_less b_law_less
  have G_law_max := d_law_max (P := l.prog) (w := w) (base := base) T F_law_max b_law_max G_law_less
  have G_law_sum := d_law_sum (P := l.prog) (w := w) (base := base) T F_law_sum b_law_sum G_law_amount
  have G_law_min := d_law_min (P := l.prog) (w := w) (base := base) T F_law_min b_law_min G_law_less
  have G_law_scaled := d_law_scaled (P := l.prog) (w := w) (base := base) T F_law_scaled b_law_scaled G_law_amount
  have G_law_part := d_law_part (P := l.prog) (w := w) (base := base) T F_law_part b_law_part G_law_of G_law_scaled
  have G_law_piece := d_law_piece (P := l.prog) (w := w) (base := base) T F_law_piece b_law_piece G_law_part
  have G_law_rest := d_law_rest (P := l.prog) (w := w) (base := base) T F_law_rest b_law_rest G_law_amount
  have G_p_lowest := d_p_lowest (P := l.prog) (w := w) (base := base) T F_p_lowest b_p_lowest
  have G_plus := d_plus (P := l.prog) (w := w) (base := base) T F_plus G_p_lowest
  have G_compare := d_compare (P := l.prog) (w := w) (base := base) T F_compare b_compare
  have G_largest := d_largest (P := l.prog) (w := w) (base := base) T F_largest G_compare
  have G_Buffer_set_to := d_Buffer_set_to (P := l.prog) (w := w) (base := base) T F_Buffer_set_to b_Buffer_set_to G_largest
  have G_minus := d_minus (P := l.prog) (w := w) (base := base) T F_minus b_minus G_p_lowest
  have G_Buffer_take_in := d_Buffer_take_in (P := l.prog) (w := w) (base := base) T F_Buffer_take_in b_Buffer_take_in G_plus G_compare G_Buffer_set_to G_minus
  have GX_Buffer_give := dx_Buffer_give (P := l.prog) (w := w) (base := base) T F_Buffer_give b_Buffer_give X_Short G_compare G_minus
  have G_Buffer_give := d_Buffer_give (P := l.prog) (w := w) (base := base) T F_Buffer_give b_Buffer_give G_compare G_minus
  have G_law_short := d_law_short (P := l.prog) (w := w) (base := base) T F_law_short b_law_short G_law_same GX_Buffer_give GH_law_same
  have G_law_buffer_deed := d_law_buffer_deed (P := l.prog) (w := w) (base := base) T F_law_buffer_deed b_law_buffer_deed G_law_of G_law_rest G_law_some G_law_draw G_law_sum G_law_same G_Buffer_take_in G_law_min G_law_piece G_Buffer_give G_law_short G_law_max G_Buffer_set_to
  have G_Wire_init := d_Wire_init (P := l.prog) (w := w) (base := base) T F_Wire_init b_Wire_init
  have G_Hop_init := d_Hop_init (P := l.prog) (w := w) (base := base) T F_Hop_init b_Hop_init
  have G_Hop_sent_after := d_Hop_sent_after (P := l.prog) (w := w) (base := base) T F_Hop_sent_after b_Hop_sent_after G_plus
  have G_law_all := d_law_all (P := l.prog) (w := w) (base := base) T F_law_all b_law_all G_law_sum
  have G_Wire_put := d_Wire_put (P := l.prog) (w := w) (base := base) T F_Wire_put b_Wire_put
  have G_Wire_arriving := d_Wire_arriving (P := l.prog) (w := w) (base := base) T F_Wire_arriving b_Wire_arriving
  have G_Wire_under_way := d_Wire_under_way (P := l.prog) (w := w) (base := base) T F_Wire_under_way b_Wire_under_way G_plus
  have G_law_wire_deed := d_law_wire_deed (P := l.prog) (w := w) (base := base) T F_law_wire_deed b_law_wire_deed G_law_some G_law_draw G_Wire_put G_law_same G_Wire_arriving G_law_all G_Wire_under_way
  have G_Hop_remember := d_Hop_remember (P := l.prog) (w := w) (base := base) T F_Hop_remember b_Hop_remember
  have G_law_hop_deed := d_law_hop_deed (P := l.prog) (w := w) (base := base) T F_law_hop_deed b_law_hop_deed G_law_some G_law_of G_law_draw G_Hop_remember G_law_all G_law_same G_Hop_sent_after
  have G_Wire_copy := d_Wire_copy (P := l.prog) (w := w) (base := base) T F_Wire_copy b_Wire_copy G_Wire_init
  have G_Hop_copy := d_Hop_copy (P := l.prog) (w := w) (base := base) T F_Hop_copy b_Hop_copy G_Hop_init
  have G_Buffer_copy := d_Buffer_copy (P := l.prog) (w := w) (base := base) T F_Buffer_copy b_Buffer_copy G_Buffer_init
  exact FnOk.imp_law (d_law T F_law G_law_bag G_law_some G_law_of G_law_draw G_Hop_init G_Wire_init G_Buffer_init G_law_buffer_looks G_law_same G_Hop_sent_after G_law_wire_deed G_law_hop_deed G_law_buffer_deed G_Wire_copy G_Hop_copy G_Buffer_copy G_Wire_arriving)
theorem walk {l : PySem.W.OpenLaw} {q : Program} {loose : List Str} {XP : (Str → Option Value) → Heap → Prop} {YP : World → Heap → Prop} {d : DefRec} {K : Params → PySem.W.Frag} (hn : l.most = some 63) (hdf : d.params.defaults = [])
    (hY : ∀ (w : World) (h : Heap), YP w h → (K w.params).In h)
    (F : ∀ (w : World) (mg : Str → Option Value) (fa : Addr) (h : Heap), (K w.params).In h → h.Ns mainGlobals mg → mg d.name = some (.ref fa) →
      ∃ fd : FuncData, (∀ (s : Shared) (u : Value), BindsTo s fd ⟨[u], []⟩ [("_law_script", u)]) ∧ ∀ base : Heap, (K w.params).In base → base.Ns mainGlobals mg → FnOk l.prog w (K w.params) mg base CX0 7 fa fd ["_law_script"] (spLaw (K w.params))) :
    PySem.W.WalkO q loose XP YP l.row.toRowW d [] (fun f vs => PySem.call f vs) :=
  L2.walk_of (n := 63) (k := 7) (x := "_law_script") (CX := fun _ => CX0) (sp := fun w => spLaw (K w.params)) hn (by decide) hdf ⟨rfl, by decide, by decide⟩ hY F (fun _ _ a ns hl _ hS => ⟨a, ns, rfl, hS, hl, fun _ => rfl⟩) fun _ _ _ _ _ z => z
end K31
open PySem PySem.W PyProof.Rows
set_option maxRecDepth 100000 in
set_option maxHeartbeats 0 in
theorem PySem.Challenge.cw_bandheld_k31_wires_buffers_hops_told_holds : PySem.Challenge.rw_bandheld_k31_wires_buffers_hops_told.Holds := by
  w_on; o_law; k_head; (case hw => w_witness2)
  k_fill
  refine K31.walk (l := PySem.Challenge.rw_bandheld_k31_wires_buffers_hops_told) rfl rfl (fun w h Y => PySem.W.kIn_of Y) ?F
  case F =>
    intro w mg fa h KX G hmg
    refine' K31.all_mk KX G hmg ?a_Buffer ?pg_Buffer ?hd_Buffer ?po_Buffer ?sa_Buffer ?a_Wire ?pg_Wire ?hd_Wire ?po_Wire ?sa_Wire ?a_Hop ?pg_Hop ?hd_Hop ?po_Hop ?sa_Hop ?mm_Wire ?kc_Wire ?ai_Wire ?if_Wire ?mm_Hop ?kc_Hop ?ai_Hop ?if_Hop ?mm_Buffer ?kc_Buffer ?ai_Buffer ?if_Buffer ?n_Buffer_size ?n_Buffer_p_held ?n_Buffer_p_fullest ?n_Wire_p_way ?n_Wire_p_sent ?n_Hop_p_way ?n_Hop_p_age ?n_Hop_p_sent ?am_Buffer_set_to ?im_Buffer_set_to ?am_Buffer_give ?im_Buffer_give ?am_Buffer_take_in ?im_Buffer_take_in ?am_Wire_put ?im_Wire_put ?am_Wire_arriving ?im_Wire_arriving ?am_Wire_under_way ?im_Wire_under_way ?am_Hop_remember ?im_Hop_remember ?am_Hop_sent_after ?im_Hop_sent_after ?am_Wire_copy ?im_Wire_copy ?am_Hop_copy ?im_Hop_copy ?am_Buffer_copy ?im_Buffer_copy ?a_Short ?a_BandError ?ihn ?iht ?lk_Short ?xs_Short ?xb_Short ?xt_Short ?xp_Short ?xa_Short ?xe_Short ?xd_Short ?xc_Short ?xo_Short ?xf_Short ?xi_Short ?xy_Short ?xm_Short_Short ?xj_Short_BandError ?pa_Buffer_held ?pg_Buffer_held ?pt_Buffer_held ?pr_Buffer_held ?pa_Buffer_fullest ?pg_Buffer_fullest ?pt_Buffer_fullest ?pr_Buffer_fullest ?a_ZERO ?l_ZERO ?l_Short_init ?co_Short_init ?kp_Short_init ?a_law_bag ?l_law_bag ?co_law_bag ?kp_law_bag ?a_law_draw ?l_law_draw ?co_law_draw ?kp_law_draw ?a_law_of ?l_law_of ?co_law_of ?kp_law_of ?a_law_amount ?l_law_amount ?co_law_amount ?kp_law_amount ?a_law_some ?l_law_some ?co_law_some ?kp_law_some ?l_Buffer_init ?co_Buffer_init ?kp_Buffer_init ?a_law_same ?l_law_same ?co_law_same ?kp_law_same ?l_Buffer_held ?co_Buffer_held ?kp_Buffer_held ?l_Buffer_fullest ?co_Buffer_fullest ?kp_Buffer_fullest ?a_law_buffer_looks ?l_law_buffer_looks ?co_law_buffer_looks ?kp_law_buffer_looks ?a_law_less ?l_law_less ?co_law_less ?kp_law_less ?a_law_max ?l_law_max ?co_law_max ?kp_law_max ?a_law_sum ?l_law_sum ?co_law_sum ?kp_law_sum ?a_law_min ?l_law_min ?co_law_min ?kp_law_min ?a_law_scaled ?l_law_scaled ?co_law_scaled ?kp_law_scaled ?a_law_part ?l_law_part ?co_law_part ?kp_law_part ?a_law_piece ?l_law_piece ?co_law_piece ?kp_law_piece ?a_law_rest ?l_law_rest ?co_law_rest ?kp_law_rest ?a_p_lowest ?l_p_lowest ?co_p_lowest ?kp_p_lowest ?a_plus ?l_plus ?co_plus ?kp_plus ?a_compare ?l_compare ?co_compare ?kp_compare ?a_largest ?l_largest ?co_largest ?kp_largest ?l_Buffer_set_to ?co_Buffer_set_to ?kp_Buffer_set_to ?a_minus ?l_minus ?co_minus ?kp_minus ?l_Buffer_take_in ?co_Buffer_take_in ?kp_Buffer_take_in ?l_Buffer_give ?co_Buffer_give ?kp_Buffer_give ?a_law_short ?l_law_short ?co_law_short ?kp_law_short ?a_law_buffer_deed ?l_law_buffer_deed ?co_law_buffer_deed ?kp_law_buffer_deed ?l_Wire_init ?co_Wire_init ?kp_Wire_init ?l_Hop_init ?co_Hop_init ?kp_Hop_init ?l_Hop_sent_after ?co_Hop_sent_after ?kp_Hop_sent_after ?a_law_all ?l_law_all ?co_law_all ?kp_law_all ?l_Wire_put ?co_Wire_put ?kp_Wire_put ?l_Wire_arriving ?co_Wire_arriving ?kp_Wire_arriving ?l_Wire_under_way ?co_Wire_under_way ?kp_Wire_under_way ?a_law_wire_deed ?l_law_wire_deed ?co_law_wire_deed ?kp_law_wire_deed ?l_Hop_remember ?co_Hop_remember ?kp_Hop_remember ?a_law_hop_deed ?l_law_hop_deed ?co_law_hop_deed ?kp_law_hop_deed ?l_Wire_copy ?co_Wire_copy ?kp_Wire_copy ?l_Hop_copy ?co_Hop_copy ?kp_Hop_copy ?l_Buffer_copy ?co_Buffer_copy ?kp_Buffer_copy ?a_law ?l_law ?co_law ?kp_law ?z_int ?z_list ?z_len ?z_isinstance ?z_tuple ?z_all ?z_zip ?z_bool ?z_str ?z_max ?z_range ?z_dict ?i_gcd
    (case a_Buffer => k_is)
    (case pg_Buffer => k_is)
    (case hd_Buffer => k_is)
    (case po_Buffer => k_is)
    (case sa_Buffer => k_is)
    (case a_Wire => k_is)
    (case pg_Wire => k_is)
    (case hd_Wire => k_is)
    (case po_Wire => k_is)
    (case sa_Wire => k_is)
    (case a_Hop => k_is)
    (case pg_Hop => k_is)
    (case hd_Hop => k_is)
    (case po_Hop => k_is)
    (case sa_Hop => k_is)
    (case mm_Wire => k_is)
    (case kc_Wire => k_is)
    (case ai_Wire => k_is)
    (case if_Wire => k_is)
    (case mm_Hop => k_is)
    (case kc_Hop => k_is)
    (case ai_Hop => k_is)
    (case if_Hop => k_is)
    (case mm_Buffer => k_is)
    (case kc_Buffer => k_is)
    (case ai_Buffer => k_is)
    (case if_Buffer => k_is)
    (case n_Buffer_size => k_is)
    (case n_Buffer_p_held => k_is)
    (case n_Buffer_p_fullest => k_is)
    (case n_Wire_p_way => k_is)
    (case n_Wire_p_sent => k_is)
    (case n_Hop_p_way => k_is)
    (case n_Hop_p_age => k_is)
    (case n_Hop_p_sent => k_is)
    (case am_Buffer_set_to => k_is)
    (case im_Buffer_set_to => k_is)
    (case am_Buffer_give => k_is)
    (case im_Buffer_give => k_is)
    (case am_Buffer_take_in => k_is)
    (case im_Buffer_take_in => k_is)
    (case am_Wire_put => k_is)
    (case im_Wire_put => k_is)
    (case am_Wire_arriving => k_is)
    (case im_Wire_arriving => k_is)
    (case am_Wire_under_way => k_is)
    (case im_Wire_under_way => k_is)
    (case am_Hop_remember => k_is)
    (case im_Hop_remember => k_is)
    (case am_Hop_sent_after => k_is)
    (case im_Hop_sent_after => k_is)
    (case am_Wire_copy => k_is)
    (case im_Wire_copy => k_is)
    (case am_Hop_copy => k_is)
    (case im_Hop_copy => k_is)
    (case am_Buffer_copy => k_is)
    (case im_Buffer_copy => k_is)
    (case a_Short => k_is)
    (case a_BandError => k_is)
    (case ihn => k_is)
    (case iht => k_is)
    (case lk_Short => refine' L3.clsLk_of ?q1 ?q2; (case q1 => k_is); (case q2 => rfl))
    (case xs_Short => k_is)
    (case xb_Short => k_is)
    (case xt_Short => k_is)
    (case xp_Short => k_is)
    (case xa_Short => k_is)
    (case xe_Short => k_is)
    (case xd_Short => k_is)
    (case xc_Short => k_is)
    (case xo_Short => k_is)
    (case xf_Short => k_is)
    (case xi_Short => k_is)
    (case xy_Short => k_is)
    (case xm_Short_Short => refine L3.exm_of ?q1 ?q2 ?q3 ?q4; (case q1 => k_is); (case q2 => k_is); (case q3 => k_is); (case q4 => k_is))
    (case xj_Short_BandError => refine L3.kit_of ?q0 ?q1 ?q2 ?q3; (case q0 => rfl); (case q1 => k_is); (case q2 => k_is); (case q3 => k_is))
    (case pa_Buffer_held => k_is)
    (case pg_Buffer_held => k_is)
    (case pt_Buffer_held => k_is)
    (case pr_Buffer_held => k_is)
    (case pa_Buffer_fullest => k_is)
    (case pg_Buffer_fullest => k_is)
    (case pt_Buffer_fullest => k_is)
    (case pr_Buffer_fullest => k_is)
    (case a_ZERO => k_is)
    (case l_ZERO => k_is)
    (case l_Short_init => k_is)
    (case co_Short_init => k_is)
    (case kp_Short_init => k_is)
    (case a_law_bag => k_is)
    (case l_law_bag => k_is)
    (case co_law_bag => k_is)
    (case kp_law_bag => k_is)
    (case a_law_draw => k_is)
    (case l_law_draw => k_is)
    (case co_law_draw => k_is)
    (case kp_law_draw => k_is)
    (case a_law_of => k_is)
    (case l_law_of => k_is)
    (case co_law_of => k_is)
    (case kp_law_of => k_is)
    (case a_law_amount => k_is)
    (case l_law_amount => k_is)
    (case co_law_amount => k_is)
    (case kp_law_amount => k_is)
    (case a_law_some => k_is)
    (case l_law_some => k_is)
    (case co_law_some => k_is)
    (case kp_law_some => k_is)
    (case l_Buffer_init => k_is)
    (case co_Buffer_init => k_is)
    (case kp_Buffer_init => k_is)
    (case a_law_same => k_is)
    (case l_law_same => k_is)
    (case co_law_same => k_is)
    (case kp_law_same => k_is)
    (case l_Buffer_held => k_is)
    (case co_Buffer_held => k_is)
    (case kp_Buffer_held => k_is)
    (case l_Buffer_fullest => k_is)
    (case co_Buffer_fullest => k_is)
    (case kp_Buffer_fullest => k_is)
    (case a_law_buffer_looks => k_is)
    (case l_law_buffer_looks => k_is)
    (case co_law_buffer_looks => k_is)
    (case kp_law_buffer_looks => k_is)
    (case a_law_less => k_is)
    (case l_law_less => k_is)
    (case co_law_less => k_is)
    (case kp_law_less => k_is)
    (case a_law_max => k_is)
    (case l_law_max => k_is)
    (case co_law_max => k_is)
    (case kp_law_max => k_is)
    (case a_law_sum => k_is)
    (case l_law_sum => k_is)
    (case co_law_sum => k_is)
    (case kp_law_sum => k_is)
    (case a_law_min => k_is)
    (case l_law_min => k_is)
    (case co_law_min => k_is)
    (case kp_law_min => k_is)
    (case a_law_scaled => k_is)
    (case l_law_scaled => k_is)
    (case co_law_scaled => k_is)
    (case kp_law_scaled => k_is)
    (case a_law_part => k_is)
    (case l_law_part => k_is)
    (case co_law_part => k_is)
    (case kp_law_part => k_is)
    (case a_law_piece => k_is)
    (case l_law_piece => k_is)
    (case co_law_piece => k_is)
    (case kp_law_piece => k_is)
    (case a_law_rest => k_is)
    (case l_law_rest => k_is)
    (case co_law_rest => k_is)
    (case kp_law_rest => k_is)
    (case a_p_lowest => k_is)
    (case l_p_lowest => k_is)
    (case co_p_lowest => k_is)
    (case kp_p_lowest => k_is)
    (case a_plus => k_is)
    (case l_plus => k_is)
    (case co_plus => k_is)
    (case kp_plus => k_is)
    (case a_compare => k_is)
    (case l_compare => k_is)
    (case co_compare => k_is)
    (case kp_compare => k_is)
    (case a_largest => k_is)
    (case l_largest => k_is)
    (case co_largest => k_is)
    (case kp_largest => k_is)
    (case l_Buffer_set_to => k_is)
    (case co_Buffer_set_to => k_is)
    (case kp_Buffer_set_to => k_is)
    (case a_minus => k_is)
    (case l_minus => k_is)
    (case co_minus => k_is)
    (case kp_minus => k_is)
    (case l_Buffer_take_in => k_is)
    (case co_Buffer_take_in => k_is)
    (case kp_Buffer_take_in => k_is)
    (case l_Buffer_give => k_is)
    (case co_Buffer_give => k_is)
    (case kp_Buffer_give => k_is)
    (case a_law_short => k_is)
    (case l_law_short => k_is)
    (case co_law_short => k_is)
    (case kp_law_short => k_is)
    (case a_law_buffer_deed => k_is)
    (case l_law_buffer_deed => k_is)
    (case co_law_buffer_deed => k_is)
    (case kp_law_buffer_deed => k_is)
    (case l_Wire_init => k_is)
    (case co_Wire_init => k_is)
    (case kp_Wire_init => k_is)
    (case l_Hop_init => k_is)
    (case co_Hop_init => k_is)
    (case kp_Hop_init => k_is)
    (case l_Hop_sent_after => k_is)
    (case co_Hop_sent_after => k_is)
    (case kp_Hop_sent_after => k_is)
    (case a_law_all => k_is)
    (case l_law_all => k_is)
    (case co_law_all => k_is)
    (case kp_law_all => k_is)
    (case l_Wire_put => k_is)
    (case co_Wire_put => k_is)
    (case kp_Wire_put => k_is)
    (case l_Wire_arriving => k_is)
    (case co_Wire_arriving => k_is)
    (case kp_Wire_arriving => k_is)
    (case l_Wire_under_way => k_is)
    (case co_Wire_under_way => k_is)
    (case kp_Wire_under_way => k_is)
    (case a_law_wire_deed => k_is)
    (case l_law_wire_deed => k_is)
    (case co_law_wire_deed => k_is)
    (case kp_law_wire_deed => k_is)
    (case l_Hop_remember => k_is)
    (case co_Hop_remember => k_is)
    (case kp_Hop_remember => k_is)
    (case a_law_hop_deed => k_is)
    (case l_law_hop_deed => k_is)
    (case co_law_hop_deed => k_is)
    (case kp_law_hop_deed => k_is)
    (case l_Wire_copy => k_is)
    (case co_Wire_copy => k_is)
    (case kp_Wire_copy => k_is)
    (case l_Hop_copy => k_is)
    (case co_Hop_copy => k_is)
    (case kp_Hop_copy => k_is)
    (case l_Buffer_copy => k_is)
    (case co_Buffer_copy => k_is)
    (case kp_Buffer_copy => k_is)
    (case a_law => k_is)
    (case l_law => k_is)
    (case co_law => k_is)
    (case kp_law => k_is)
    (case z_int => k_is)
    (case z_list => k_is)
    (case z_len => k_is)
    (case z_isinstance => k_is)
    (case z_tuple => k_is)
    (case z_all => k_is)
    (case z_zip => k_is)
    (case z_bool => k_is)
    (case z_str => k_is)
    (case z_max => k_is)
    (case z_range => k_is)
    (case z_dict => k_is)
    (case i_gcd => k_is)
