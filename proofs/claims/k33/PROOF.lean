import PyProof.Rows.All
import Wide.All
import OpenK.AllK
import Wide.FinOn
import HandS.ForMost
import HandS.Star
import HandS.Wide
import HandS.Gcd
import HandS.DictComp
import HandS.IsInst
import HandS.Zip
import HandS.Style
import HandS.Property
import HandS.Deep
import PySem.Challenge.RW_bandheld_k33_whole_hop_never_overfills
set_option Elab.async false
set_option linter.all false
set_option maxRecDepth 100000
/-! L3: a layer over HandS: tuples and never-changed lists are values; memory holds only what may change. -/
namespace L3
open PySem L2
inductive D where
  | non | bl (b : Bool) | int (i : Int) | str (x : Str) | tup (ds : List D) | lst (ds : List D) | ref (a : Addr)
/-- what grows: the facts that never cease (tuples, lists that are never changed) -/
def Sub (G G' : Hp) : Prop := ∀ a o, G a = some o → G' a = some o
theorem Sub.refl (G : Hp) : Sub G G := fun _ _ h => h
theorem Sub.trans {G G1 G2 : Hp} (a : Sub G G1) (b : Sub G1 G2) : Sub G G2 := fun x o h => b x o (a x o h)
theorem Sub.new {G : Hp} {p : Addr} {o : HO} (h : G p = none) : Sub G (upd G p o) := fun a u e => by
  rw [upd_ne (ne_of_none e h)]; exact e
theorem Sub.rd {G G' : Hp} (e : Sub G G') {a : Addr} {u : HO} (h : Rd G a u) : Rd G' a u := by
  rcases h with h | ⟨o, h⟩
  · exact .inl (e a _ h)
  · exact .inr ⟨o, e a _ h⟩
theorem Sub.l {K : PySem.W.Frag} {G G' : Hp} (e : Sub G G') {a : Addr} {xs : List V} (h : SqL K G a xs) : SqL K G' a xs := by
  rcases h with h | h
  · exact .inl (e.rd h)
  · exact .inr h
theorem Sub.t {K : PySem.W.Frag} {G G' : Hp} (e : Sub G G') {a : Addr} {xs : List V} (h : SqT K G a xs) : SqT K G' a xs := by
  rcases h with h | h
  · exact .inl (e.rd h)
  · exact .inr h
section
variable (K : PySem.W.Frag) (G : Hp)
mutual
/-- the value of V that a datum stands for -/
def RV : D → V → Prop
  | .non, v => v = .non
  | .bl b, v => v = .bl b
  | .int i, v => v = .int i
  | .str x, v => v = .str x
  | .ref a, v => v = .ref a
  | .tup ds, v => ∃ a xs, v = .ref a ∧ SqT K G a xs ∧ RVs ds xs
  | .lst ds, v => ∃ a xs, v = .ref a ∧ SqL K G a xs ∧ RVs ds xs
def RVs : List D → List V → Prop
  | [], xs => xs = []
  | d :: ds, xs => ∃ x r, xs = x :: r ∧ RV d x ∧ RVs ds r
end
end
section
variable {K : PySem.W.Frag} {G G' : Hp}
mutual
theorem RV.mono (e : Sub G G') : ∀ (d : D) {v : V}, RV K G d v → RV K G' d v
  | .non, _, h => h
  | .bl _, _, h => h
  | .int _, _, h => h
  | .str _, _, h => h
  | .ref _, _, h => h
  | .tup ds, _, ⟨a, xs, h1, h2, h3⟩ => ⟨a, xs, h1, e.t h2, RVs.mono e ds h3⟩
  | .lst ds, _, ⟨a, xs, h1, h2, h3⟩ => ⟨a, xs, h1, e.l h2, RVs.mono e ds h3⟩
theorem RVs.mono (e : Sub G G') : ∀ (ds : List D) {xs : List V}, RVs K G ds xs → RVs K G' ds xs
  | [], _, h => h
  | d :: ds, _, ⟨x, r, h1, h2, h3⟩ => ⟨x, r, h1, RV.mono e d h2, RVs.mono e ds h3⟩
end
theorem RVs.length : ∀ {ds : List D} {xs : List V}, RVs K G ds xs → ds.length = xs.length
  | [], _, h => by rw [show _ = [] from h]; rfl
  | d :: ds, _, ⟨x, r, h1, h2, h3⟩ => by rw [h1, List.length_cons, List.length_cons, RVs.length h3]
theorem RVs.nil : RVs K G [] [] := rfl
theorem RVs.cons {d : D} {ds : List D} {x : V} {xs : List V} (h : RV K G d x) (t : RVs K G ds xs) : RVs K G (d :: ds) (x :: xs) := ⟨x, xs, rfl, h, t⟩
theorem RVs.get : ∀ {ds : List D} {xs : List V} {i : Nat} {d : D}, RVs K G ds xs → ds[i]? = some d → ∃ x, xs[i]? = some x ∧ RV K G d x
  | [], _, _, _, _, e => by simp at e
  | _ :: _, _, 0, d, ⟨x, r, h1, h2, h3⟩, e => by
    have e : _ = d := Option.some.inj e
    subst e; subst h1
    exact ⟨x, rfl, h2⟩
  | _ :: _, _, i + 1, d, ⟨x, r, h1, h2, h3⟩, e => by
    subst h1
    exact RVs.get (i := i) h3 e
theorem RVs.getV : ∀ {ds : List D} {xs : List V} {i : Nat} {x : V}, RVs K G ds xs → xs[i]? = some x → ∃ d, ds[i]? = some d ∧ RV K G d x
  | [], _, _, _, h, e => by rw [show _ = [] from h] at e; simp at e
  | d :: _, _, 0, y, ⟨x, r, h1, h2, h3⟩, e => by
    subst h1
    have e : x = y := Option.some.inj e
    subst e
    exact ⟨d, rfl, h2⟩
  | _ :: _, _, i + 1, _, ⟨x, r, h1, h2, h3⟩, e => by
    subst h1
    exact RVs.getV (i := i) h3 e
theorem RVs.append : ∀ {ds es : List D} {xs ys : List V}, RVs K G ds xs → RVs K G es ys → RVs K G (ds ++ es) (xs ++ ys)
  | [], _, _, _, h, t => by rw [show _ = [] from h]; exact t
  | _ :: _, _, _, _, ⟨x, r, h1, h2, h3⟩, t => by subst h1; exact ⟨x, _, rfl, h2, RVs.append h3 t⟩
theorem RVs.one {d : D} {x : V} (h : RV K G d x) : RVs K G [d] [x] := RVs.cons h RVs.nil
theorem RVs.take : ∀ {ds : List D} {xs : List V} (n : Nat), RVs K G ds xs → RVs K G (ds.take n) (xs.take n)
  | _, _, 0, _ => rfl
  | [], _, _ + 1, h => by rw [show _ = [] from h]; rfl
  | _ :: _, _, n + 1, ⟨x, r, h1, h2, h3⟩ => by subst h1; exact ⟨x, _, rfl, h2, RVs.take n h3⟩
theorem RVs.drop : ∀ {ds : List D} {xs : List V} (n : Nat), RVs K G ds xs → RVs K G (ds.drop n) (xs.drop n)
  | _, _, 0, h => h
  | [], _, _ + 1, h => by rw [show _ = [] from h]; rfl
  | _ :: _, _, n + 1, ⟨x, r, h1, h2, h3⟩ => by subst h1; exact RVs.drop n h3
theorem RVs.set {d : D} {x : V} (r : RV K G d x) : ∀ {ds : List D} {xs : List V} (i : Nat), RVs K G ds xs → RVs K G (ds.set i d) (xs.set i x)
  | [], _, _, h => by rw [show _ = [] from h]; rfl
  | _ :: _, _, 0, ⟨y, q, h1, h2, h3⟩ => by subst h1; exact ⟨x, _, rfl, r, h3⟩
  | _ :: _, _, i + 1, ⟨y, q, h1, h2, h3⟩ => by subst h1; exact ⟨y, _, rfl, h2, RVs.set r i h3⟩
theorem RVs.reverse : ∀ {ds : List D} {xs : List V}, RVs K G ds xs → RVs K G ds.reverse xs.reverse
  | [], _, h => by rw [show _ = [] from h]; rfl
  | d :: ds, _, ⟨x, r, h1, h2, h3⟩ => by
    subst h1
    rw [List.reverse_cons, List.reverse_cons]
    exact RVs.append (RVs.reverse h3) (RVs.one h2)
theorem RVs.eraseIdx : ∀ {ds : List D} {xs : List V} (i : Nat), RVs K G ds xs → RVs K G (ds.eraseIdx i) (xs.eraseIdx i)
  | [], _, _, h => by rw [show _ = [] from h]; rfl
  | _ :: _, _, 0, ⟨y, q, h1, h2, h3⟩ => by subst h1; exact h3
  | _ :: _, _, i + 1, ⟨y, q, h1, h2, h3⟩ => by subst h1; exact ⟨y, _, rfl, h2, RVs.eraseIdx i h3⟩
theorem RVs.insertIdx {d : D} {x : V} (r : RV K G d x) : ∀ {ds : List D} {xs : List V} (i : Nat), RVs K G ds xs → RVs K G (ds.insertIdx i d) (xs.insertIdx i x)
  | ds, _, 0, h => RVs.cons r h
  | [], _, _ + 1, h => by rw [show _ = [] from h]; rfl
  | _ :: _, _, i + 1, ⟨y, q, h1, h2, h3⟩ => by
    subst h1
    exact ⟨y, _, rfl, h2, RVs.insertIdx r i h3⟩
theorem RVs.ints : ∀ {ns : List Int} {xs : List V}, RVs K G (ns.map D.int) xs → xs = ns.map V.int
  | [], _, h => h
  | n :: ns, _, ⟨x, r, h1, h2, h3⟩ => by
    subst h1
    rw [show x = V.int n from h2, RVs.ints h3]; rfl
theorem RVs.of_ints : ∀ (ns : List Int), RVs K G (ns.map D.int) (ns.map V.int)
  | [] => rfl
  | n :: ns => ⟨_, _, rfl, rfl, RVs.of_ints ns⟩
theorem RVs.bls : ∀ {ns : List Bool} {xs : List V}, RVs K G (ns.map D.bl) xs → xs = ns.map V.bl
  | [], _, h => h
  | n :: ns, _, ⟨x, r, h1, h2, h3⟩ => by
    subst h1
    rw [show x = V.bl n from h2, RVs.bls h3]; rfl
theorem RVs.strs : ∀ {ns : List Str} {xs : List V}, RVs K G (ns.map D.str) xs → xs = ns.map V.str
  | [], _, h => h
  | n :: ns, _, ⟨x, r, h1, h2, h3⟩ => by
    subst h1
    rw [show x = V.str n from h2, RVs.strs h3]; rfl
end
/-- what may change, as it stands at an address -/
inductive AO where
  | lst (ds : List D)
  | dK (kvs : List (Key × D))
  | dT (kvs : List (List Key × D))
  | ins (C : Addr) (fs : List (Str × D))
  /-- a list of which just P is known -/
  | any (P : List D → Prop)
  /-- a dict that is walked -/
  | fz (kvs : List (Key × D))
  | fzT (kvs : List (List Key × D))
section
variable (K : PySem.W.Frag) (G : Hp)
/-- pairs of the same keys -/
def RKs {κ : Type} : List (κ × D) → List (κ × V) → Prop
  | [], xs => xs = []
  | p :: ds, xs => ∃ x r, xs = (p.1, x) :: r ∧ RV K G p.2 x ∧ RKs ds r
def RO : AO → HO → Prop
  | .lst ds, u => ∃ xs, u = .lst xs ∧ RVs K G ds xs
  | .any P, u => ∃ ds xs, P ds ∧ u = .lst xs ∧ RVs K G ds xs
  | .dK ks, u => ∃ xs, u = .dK xs ∧ RKs K G ks xs
  | .dT ks, u => ∃ xs, u = .dT xs ∧ RKs K G ks xs
  | .ins C fs, u => ∃ dx xs, u = .ins C dx xs ∧ RKs K G fs xs
  | .fz ks, u => ∃ o xs, u = .frz o (.dK xs) ∧ RKs K G ks xs
  | .fzT ks, u => ∃ o xs, u = .frz o (.dT xs) ∧ RKs K G ks xs
end
section
variable {K : PySem.W.Frag} {G G' : Hp} {κ : Type}
theorem RKs.mono (e : Sub G G') : ∀ {ds : List (κ × D)} {xs : List (κ × V)}, RKs K G ds xs → RKs K G' ds xs
  | [], _, h => h
  | p :: ds, _, ⟨x, r, h1, h2, h3⟩ => ⟨x, r, h1, RV.mono e _ h2, RKs.mono e h3⟩
theorem RO.mono (e : Sub G G') : ∀ {o : AO} {u : HO}, RO K G o u → RO K G' o u
  | .lst ds, _, ⟨xs, h1, h2⟩ => ⟨xs, h1, RVs.mono e _ h2⟩
  | .any P, _, ⟨ds, xs, h0, h1, h2⟩ => ⟨ds, xs, h0, h1, RVs.mono e _ h2⟩
  | .dK ds, _, ⟨xs, h1, h2⟩ => ⟨xs, h1, RKs.mono e h2⟩
  | .dT ds, _, ⟨xs, h1, h2⟩ => ⟨xs, h1, RKs.mono e h2⟩
  | .ins C fs, _, ⟨dx, xs, h1, h2⟩ => ⟨dx, xs, h1, RKs.mono e h2⟩
  | .fz ds, _, ⟨o, xs, h1, h2⟩ => ⟨o, xs, h1, RKs.mono e h2⟩
  | .fzT ds, _, ⟨o, xs, h1, h2⟩ => ⟨o, xs, h1, RKs.mono e h2⟩
theorem RKs.length : ∀ {ds : List (κ × D)} {xs : List (κ × V)}, RKs K G ds xs → ds.length = xs.length
  | [], _, h => by rw [show _ = [] from h]; rfl
  | _ :: _, _, ⟨x, r, h1, h2, h3⟩ => by rw [h1, List.length_cons, List.length_cons, RKs.length h3]
theorem RKs.get : ∀ {ds : List (κ × D)} {xs : List (κ × V)} {i : Nat} {p : κ × D}, RKs K G ds xs → ds[i]? = some p → ∃ x, xs[i]? = some (p.1, x) ∧ RV K G p.2 x
  | [], _, _, _, _, e => by simp at e
  | _ :: _, _, 0, d, ⟨x, r, h1, h2, h3⟩, e => by
    have e : _ = d := Option.some.inj e
    subst e; subst h1
    exact ⟨x, rfl, h2⟩
  | _ :: _, _, i + 1, d, ⟨x, r, h1, h2, h3⟩, e => by
    subst h1
    exact RKs.get (i := i) h3 e
theorem RKs.append : ∀ {ds es : List (κ × D)} {xs ys : List (κ × V)}, RKs K G ds xs → RKs K G es ys → RKs K G (ds ++ es) (xs ++ ys)
  | [], _, _, _, h, t => by rw [show _ = [] from h]; exact t
  | _ :: _, _, _, _, ⟨x, r, h1, h2, h3⟩, t => by subst h1; exact ⟨x, _, rfl, h2, RKs.append h3 t⟩
end
/-! ### dicts and fields by keys -/
section
variable {κ : Type} [DecidableEq κ]
def valD (kvs : List (κ × D)) (k : κ) : Option D := (kvs.find? fun kv => decide (kv.1 = k)).map (·.2)
def putD (kvs : List (κ × D)) (k : κ) (v : D) : List (κ × D) :=
  if (kvs.any fun kv => decide (kv.1 = k)) = true then kvs.map (fun kv => if kv.1 = k then (kv.1, v) else kv) else kvs ++ [(k, v)]
def dropD (kvs : List (κ × D)) (k : κ) : List (κ × D) := kvs.filter fun kv => decide (kv.1 ≠ k)
end
def RVo (K : PySem.W.Frag) (G : Hp) : Option D → Option V → Prop
  | some d, some v => RV K G d v
  | none, none => True
  | _, _ => False
section
variable {K : PySem.W.Frag} {G : Hp} {κ : Type} [DecidableEq κ]
theorem RKs.val (k : κ) : ∀ {ds : List (κ × D)} {xs : List (κ × V)}, RKs K G ds xs → RVo K G (valD ds k) (valV xs k)
  | [], _, h => by rw [show _ = [] from h]; trivial
  | p :: ds, _, ⟨x, r, h1, h2, h3⟩ => by
    subst h1
    have ih := RKs.val k h3
    by_cases e : p.1 = k
    · unfold valD valV
      rw [List.find?_cons_of_pos (by simp [e]), List.find?_cons_of_pos (by simp [e])]
      exact h2
    · unfold valD valV at ih ⊢
      rw [List.find?_cons_of_neg (by simp [e]), List.find?_cons_of_neg (by simp [e])]
      exact ih
theorem RVo.some {d : D} {o : Option V} (h : RVo K G (some d) o) : ∃ v, o = some v ∧ RV K G d v := by
  cases o with
  | none => exact h.elim
  | some v => exact ⟨v, rfl, h⟩
theorem RVo.none {o : Option V} (h : RVo K G none o) : o = none := by
  cases o with
  | none => rfl
  | some v => exact h.elim
theorem RVo.isSome {o : Option V} {d : Option D} (h : RVo K G d o) : d.isSome = o.isSome := by
  cases o <;> cases d <;> first | rfl | exact h.elim
theorem RVo.getD {o : Option V} {d : Option D} {x : V} {y : D} (h : RVo K G d o) (r : RV K G y x) : RV K G (d.getD y) (o.getD x) := by
  cases o <;> cases d <;> first | exact r | exact h | exact h.elim
theorem RKs.any (f : κ → Bool) : ∀ {ds : List (κ × D)} {xs : List (κ × V)}, RKs K G ds xs → (ds.any fun kv => f kv.1) = (xs.any fun kv => f kv.1)
  | [], _, h => by rw [show _ = [] from h]; rfl
  | p :: ds, _, ⟨x, r, h1, h2, h3⟩ => by
    subst h1
    rw [List.any_cons, List.any_cons, RKs.any f h3]
theorem RKs.rep (k : κ) {d : D} {v : V} (r : RV K G d v) : ∀ {ds : List (κ × D)} {xs : List (κ × V)}, RKs K G ds xs → RKs K G (ds.map fun kv => if kv.1 = k then (kv.1, d) else kv) (xs.map fun kv => if kv.1 = k then (kv.1, v) else kv)
  | [], _, h => by rw [show _ = [] from h]; rfl
  | p :: ds, _, ⟨x, q, h1, h2, h3⟩ => by
    subst h1
    have ih := RKs.rep k r h3
    rw [List.map_cons, List.map_cons]
    by_cases e : p.1 = k
    · rw [if_pos e, if_pos e]; exact ⟨v, _, rfl, r, ih⟩
    · rw [if_neg e, if_neg e]; exact ⟨x, _, rfl, h2, ih⟩
theorem RKs.put (k : κ) {d : D} {v : V} (r : RV K G d v) {ds : List (κ × D)} {xs : List (κ × V)} (h : RKs K G ds xs) : RKs K G (putD ds k d) (putK xs k v) := by
  unfold putD putK
  rw [RKs.any (fun z => decide (z = k)) h]
  split
  · exact RKs.rep k r h
  · exact RKs.append h ⟨v, [], rfl, r, rfl⟩
theorem RKs.drop (k : κ) : ∀ {ds : List (κ × D)} {xs : List (κ × V)}, RKs K G ds xs → RKs K G (dropD ds k) (dropK xs k)
  | [], _, h => by rw [show _ = [] from h]; rfl
  | p :: ds, _, ⟨x, q, h1, h2, h3⟩ => by
    subst h1
    have ih := RKs.drop k h3
    unfold dropD dropK at ih ⊢
    by_cases e : p.1 = k
    · rw [List.filter_cons_of_neg (by simp [e]), List.filter_cons_of_neg (by simp [e])]; exact ih
    · rw [List.filter_cons_of_pos (by simp [e]), List.filter_cons_of_pos (by simp [e])]
      exact ⟨x, _, rfl, h2, ih⟩
end
/-- fields -/
def putFD (f : Str) (v : D) : List (Str × D) → List (Str × D)
  | [] => [(f, v)]
  | (g, x) :: r => if g = f then (g, v) :: r else (g, x) :: putFD f v r
theorem RKs.putF {K : PySem.W.Frag} {G : Hp} {f : Str} {d : D} {v : V} (r : RV K G d v) : ∀ {ds : List (Str × D)} {xs : List (Str × V)}, RKs K G ds xs → RKs K G (putFD f d ds) (putF f v xs)
  | [], _, h => by rw [show _ = [] from h]; exact ⟨v, [], rfl, r, rfl⟩
  | p :: ds, _, ⟨x, q, h1, h2, h3⟩ => by
    subst h1
    have ih := RKs.putF r h3 (f := f)
    obtain ⟨g, y⟩ := p
    unfold putFD L2.putF
    by_cases e : g = f
    · rw [if_pos e, if_pos e]; exact ⟨v, _, rfl, r, h3⟩
    · rw [if_neg e, if_neg e]; exact ⟨x, _, rfl, h2, ih⟩
theorem RKs.lookup {K : PySem.W.Frag} {G : Hp} (f : Str) : ∀ {ds : List (Str × D)} {xs : List (Str × V)}, RKs K G ds xs → RVo K G (ds.lookup f) (xs.lookup f)
  | [], _, h => by rw [show _ = [] from h]; trivial
  | p :: ds, _, ⟨x, q, h1, h2, h3⟩ => by
    subst h1
    have ih := RKs.lookup f h3
    obtain ⟨g, y⟩ := p
    rw [List.lookup_cons, List.lookup_cons]
    show RVo K G (match f == g with | true => some y | false => List.lookup f ds) (match f == g with | true => some x | false => List.lookup f q)
    cases f == g with
    | true => exact h2
    | false => exact ih
/-! ### the state -/
abbrev Mem := Addr → Option AO
abbrev DSt := List (Option D)
def mset (m : Mem) (a : Addr) (o : AO) : Mem := fun b => if b = a then some o else m b
def mdel (m : Mem) (a : Addr) : Mem := fun b => if b = a then none else m b
theorem mset_same {m : Mem} {a : Addr} {o : AO} : mset m a o a = some o := if_pos rfl
theorem mset_ne {m : Mem} {a b : Addr} {o : AO} (h : b ≠ a) : mset m a o b = m b := if_neg h
theorem mset_mset {m : Mem} {a : Addr} {o u : AO} : mset (mset m a o) a u = mset m a u := by
  funext b; unfold mset; split <;> rfl
theorem mset_id {m : Mem} {a : Addr} {o : AO} (h : m a = some o) : mset m a o = m := by
  funext b; unfold mset; split
  · rename_i e; rw [e, h]
  · rfl
theorem mset_comm {m : Mem} {a b : Addr} {o u : AO} (h : a ≠ b) : mset (mset m a o) b u = mset (mset m b u) a o := by
  funext c; unfold mset; split
  · rename_i e; subst e; rw [if_neg (Ne.symm h)]
  · rfl
theorem mdel_same {m : Mem} {a : Addr} : mdel m a a = none := if_pos rfl
theorem mdel_ne {m : Mem} {a b : Addr} (h : b ≠ a) : mdel m a b = m b := if_neg h
theorem mdel_mset {m : Mem} {a : Addr} {o : AO} (h : m a = none) : mdel (mset m a o) a = m := by
  funext b; unfold mdel mset; split
  · rename_i e; rw [e, h]
  · rfl
theorem mne {m : Mem} {a b : Addr} {o : AO} (h : m a = some o) (h' : m b = none) : a ≠ b := by
  intro e; subst e; rw [h] at h'; cases h'
/-- what is walked stands among the facts; what may change does not -/
def GC (o : AO) (g h : Option HO) : Prop := match o with
  | .fz _ => g = h
  | .fzT _ => g = h
  | _ => g = none
def NF (o : AO) : Prop := match o with
  | .fz _ => False
  | .fzT _ => False
  | _ => True
theorem GC.none_ {o : AO} {g h : Option HO} (n : NF o) (c : GC o g h) : g = none := by cases o <;> first | exact c | exact n.elim
theorem NF.gc {o : AO} {h : Option HO} (n : NF o) : GC o none h := by cases o <;> first | exact rfl | exact n.elim
structure RelM (K : PySem.W.Frag) (m : Mem) (G H : Hp) : Prop where
  sub : Sub G H
  mem : ∀ a o, m a = some o → GC o (G a) (H a) ∧ ∃ u, H a = some u ∧ RO K G o u
structure RelS (K : PySem.W.Frag) (s : DSt) (G : Hp) (σ : St) : Prop where
  len : s.length = σ.length
  loc : ∀ (i : Nat) (d : D), s[i]? = some (some d) → ∃ v, σ[i]? = some (some v) ∧ RV K G d v
section
variable {K : PySem.W.Frag} {s : DSt} {m m' : Mem} {G G' H H' : Hp} {σ : St} {a p : Addr} {o : AO} {u : HO} {d : D} {v : V}
theorem RelS.mono (r : RelS K s G σ) (e : Sub G G') : RelS K s G' σ := ⟨r.len, fun i d h => let ⟨v, h1, h2⟩ := r.loc i d h; ⟨v, h1, RV.mono e d h2⟩⟩
theorem RelS.set (r : RelS K s G σ) (i : Nat) (h : RV K G d v) : RelS K (s.set i (some d)) G (σ.set i (some v)) := by
  refine ⟨by rw [List.length_set, List.length_set]; exact r.len, fun j e hj => ?_⟩
  rw [List.getElem?_set] at hj
  rw [List.getElem?_set]
  split at hj
  · rename_i e1
    subst e1
    split at hj
    · rename_i h2
      have hj : d = e := Option.some.inj (Option.some.inj hj)
      subst hj
      rw [if_pos rfl, if_pos (by rw [← r.len]; exact h2)]
      exact ⟨v, rfl, h⟩
    · cases hj
  · rename_i e1
    rw [if_neg e1]
    exact r.loc j e hj
theorem RelS.wipe (r : RelS K s G σ) (vs : List Nat) : ∀ {s' : DSt}, s'.length = s.length → (∀ i d, s'[i]? = some (some d) → s[i]? = some (some d) ∧ i ∉ vs) → RelS K s' G (L2.wipe σ vs) := fun hl h => by
  refine ⟨by rw [wipe_length, hl]; exact r.len, fun i d hi => ?_⟩
  obtain ⟨h1, h2⟩ := h i d hi
  obtain ⟨v, h3, h4⟩ := r.loc i d h1
  exact ⟨v, by rw [wipe_out h2]; exact h3, h4⟩
/-- a thing that may change is laid -/
theorem RelM.new (r : RelM K m G H) (hp : H p = none) (h : RO K G o u) (n : NF o := by exact trivial) : RelM K (mset m p o) G (upd H p u) := by
  have gp : G p = none := by
    cases e : G p with
    | none => rfl
    | some w => have := r.sub p w e; rw [hp] at this; cases this
  refine ⟨fun a w e => by rw [upd_ne (ne_of_none e gp)]; exact r.sub a w e, fun a w e => ?_⟩
  by_cases ha : a = p
  · subst ha
    rw [mset_same] at e; cases e
    rw [gp]
    exact ⟨n.gc, u, upd_same, h⟩
  · rw [mset_ne ha] at e
    obtain ⟨h1, w', h2, h3⟩ := r.mem a w e
    exact ⟨by rw [upd_ne ha]; exact h1, w', by rw [upd_ne ha]; exact h2, h3⟩
/-- a fact that never ceases is laid -/
theorem RelM.lay (r : RelM K m G H) (hp : H p = none) : RelM K m (upd G p u) (upd H p u) ∧ Sub G (upd G p u) := by
  have gp : G p = none := by
    cases e : G p with
    | none => rfl
    | some w => have := r.sub p w e; rw [hp] at this; cases this
  have s1 : Sub G (upd G p u) := Sub.new gp
  refine ⟨⟨fun a w e => ?_, fun a w e => ?_⟩, s1⟩
  · by_cases ha : a = p
    · subst ha; rw [upd_same] at e ⊢; exact e
    · rw [upd_ne ha] at e ⊢; exact r.sub a w e
  · obtain ⟨h1, w', h2, h3⟩ := r.mem a w e
    have ha : a ≠ p := ne_of_none h2 hp
    exact ⟨by rw [upd_ne ha, upd_ne ha]; exact h1, w', by rw [upd_ne ha]; exact h2, h3.mono s1⟩
/-- what may change is changed -/
theorem RelM.put (r : RelM K m G H) {o' : AO} (hm : m a = some o') (h : RO K G o u) (n : NF o := by exact trivial) (n' : NF o' := by exact trivial) : RelM K (mset m a o) G (upd H a u) := by
  obtain ⟨g, _⟩ := r.mem a o' hm
  have g := g.none_ n'
  refine ⟨fun b w e => by rw [upd_ne (fun z => by subst z; rw [g] at e; cases e)]; exact r.sub b w e, fun b w e => ?_⟩
  by_cases hb : b = a
  · subst hb
    rw [mset_same] at e; cases e
    rw [g]
    exact ⟨n.gc, u, upd_same, h⟩
  · rw [mset_ne hb] at e
    obtain ⟨h1, w', h2, h3⟩ := r.mem b w e
    exact ⟨by rw [upd_ne hb]; exact h1, w', by rw [upd_ne hb]; exact h2, h3⟩
theorem RelM.free (r : RelM K m G H) (hp : H p = none) : m p = none := by
  cases e : m p with
  | none => rfl
  | some o => obtain ⟨_, u, h, _⟩ := r.mem p o e; rw [hp] at h; cases h
theorem RelM.gfree (r : RelM K m G H) (hp : H p = none) : G p = none := by
  cases e : G p with
  | none => rfl
  | some w => have := r.sub p w e; rw [hp] at this; cases this
/-- less is known -/
theorem RelM.less (r : RelM K m G H) (h : ∀ a o, m' a = some o → m a = some o) : RelM K m' G H := ⟨r.sub, fun a o e => r.mem a o (h a o e)⟩
/-- an untracked change of the heap at new places (a dict of an instance) -/
theorem RelM.frame (r : RelM K m G H) (h : ∀ a o, H a = some o → H' a = some o) : RelM K m G H' :=
  ⟨fun a o e => h a o (r.sub a o e), fun a o e => let ⟨h1, u, h2, h3⟩ := r.mem a o e; ⟨by rw [h2] at h1; rw [h a u h2]; exact h1, u, h a u h2, h3⟩⟩
/-- a list that is never changed any more -/
theorem RelM.freeze {ds : List D} (r : RelM K m G H) (hm : m a = some (.lst ds)) : ∃ G', Sub G G' ∧ RelM K (mdel m a) G' H ∧ RV K G' (.lst ds) (.ref a) := by
  obtain ⟨g, u, hu, xs, rfl, h⟩ := r.mem a _ hm
  have s1 : Sub G (upd G a (.lst xs)) := Sub.new g
  refine ⟨upd G a (.lst xs), s1, ⟨fun b w e => ?_, fun b w e => ?_⟩, a, xs, rfl, .inl (.inl upd_same), RVs.mono s1 _ h⟩
  · by_cases hb : b = a
    · subst hb; rw [upd_same] at e; rw [hu]; exact e
    · rw [upd_ne hb] at e; exact r.sub b w e
  · by_cases hb : b = a
    · subst hb; rw [mdel_same] at e; cases e
    · rw [mdel_ne hb] at e
      obtain ⟨h1, w', h2, h3⟩ := r.mem b w e
      exact ⟨by rw [upd_ne hb]; exact h1, w', h2, h3.mono s1⟩
end
def unl (G : Hp) (a : Addr) : Hp := fun b => if b = a then none else G b
theorem unl_ne {G : Hp} {a b : Addr} (h : b ≠ a) : unl G a b = G b := if_neg h
theorem unl_same {G : Hp} {a : Addr} : unl G a a = none := if_pos rfl
-- what is walked: no fact about tuples and lists hangs on it
mutual
theorem RV.unfz {K : PySem.W.Frag} {G : Hp} {a : Addr} {od : Obj} {w : HO} (h : G a = some (.frz od w)) (hw : ∀ xs, w ≠ .tup xs ∧ w ≠ .lst xs) : ∀ (d : D) {v : V}, RV K G d v → RV K (unl G a) d v
  | .non, _, h => h
  | .bl _, _, h => h
  | .int _, _, h => h
  | .str _, _, h => h
  | .ref _, _, h => h
  | .tup ds, _, ⟨b, xs, h1, h2, h3⟩ => ⟨b, xs, h1, by
      rcases h2 with (h2 | ⟨o, h2⟩) | h2
      · exact .inl (.inl (by rw [unl_ne (fun z => by subst z; rw [h] at h2; cases h2)]; exact h2))
      · exact .inl (.inr ⟨o, by rw [unl_ne (fun z => by subst z; rw [h] at h2; cases h2; exact (hw xs).1 rfl)]; exact h2⟩)
      · exact .inr h2, RVs.unfz h hw ds h3⟩
  | .lst ds, _, ⟨b, xs, h1, h2, h3⟩ => ⟨b, xs, h1, by
      rcases h2 with (h2 | ⟨o, h2⟩) | h2
      · exact .inl (.inl (by rw [unl_ne (fun z => by subst z; rw [h] at h2; cases h2)]; exact h2))
      · exact .inl (.inr ⟨o, by rw [unl_ne (fun z => by subst z; rw [h] at h2; cases h2; exact (hw xs).2 rfl)]; exact h2⟩)
      · exact .inr h2, RVs.unfz h hw ds h3⟩
theorem RVs.unfz {K : PySem.W.Frag} {G : Hp} {a : Addr} {od : Obj} {w : HO} (h : G a = some (.frz od w)) (hw : ∀ xs, w ≠ .tup xs ∧ w ≠ .lst xs) : ∀ (ds : List D) {vs : List V}, RVs K G ds vs → RVs K (unl G a) ds vs
  | [], _, h => h
  | d :: ds, _, ⟨x, r, h1, h2, h3⟩ => ⟨x, r, h1, RV.unfz h hw d h2, RVs.unfz h hw ds h3⟩
end
theorem RKs.unfz {K : PySem.W.Frag} {G : Hp} {a : Addr} {od : Obj} {w : HO} {κ : Type} (h : G a = some (.frz od w)) (hw : ∀ xs, w ≠ .tup xs ∧ w ≠ .lst xs) : ∀ {ds : List (κ × D)} {vs : List (κ × V)}, RKs K G ds vs → RKs K (unl G a) ds vs
  | [], _, h => h
  | p :: ds, _, ⟨x, r, h1, h2, h3⟩ => ⟨x, r, h1, RV.unfz h hw _ h2, RKs.unfz h hw h3⟩
theorem RO.unfz {K : PySem.W.Frag} {G : Hp} {a : Addr} {od : Obj} {w : HO} (h : G a = some (.frz od w)) (hw : ∀ xs, w ≠ .tup xs ∧ w ≠ .lst xs) : ∀ {o : AO} {u : HO}, RO K G o u → RO K (unl G a) o u
  | .lst ds, _, ⟨xs, h1, h2⟩ => ⟨xs, h1, RVs.unfz h hw _ h2⟩
  | .any P, _, ⟨ds, xs, h0, h1, h2⟩ => ⟨ds, xs, h0, h1, RVs.unfz h hw _ h2⟩
  | .dK ds, _, ⟨xs, h1, h2⟩ => ⟨xs, h1, RKs.unfz h hw h2⟩
  | .dT ds, _, ⟨xs, h1, h2⟩ => ⟨xs, h1, RKs.unfz h hw h2⟩
  | .ins C fs, _, ⟨dx, xs, h1, h2⟩ => ⟨dx, xs, h1, RKs.unfz h hw h2⟩
  | .fz ds, _, ⟨o, xs, h1, h2⟩ => ⟨o, xs, h1, RKs.unfz h hw h2⟩
  | .fzT ds, _, ⟨o, xs, h1, h2⟩ => ⟨o, xs, h1, RKs.unfz h hw h2⟩
/-- a dict is locked for a walk -/
theorem RelM.lock {K : PySem.W.Frag} {m : Mem} {G H : Hp} {a : Addr} {ks : List (Key × D)} {xs : List (Key × V)} (r : RelM K m G H) (hm : m a = some (.dK ks)) (hH : H a = some (.dK xs)) (od : Obj) :
    RelM K (mset m a (.fz ks)) (upd G a (.frz od (.dK xs))) (upd H a (.frz od (.dK xs))) ∧ Sub G (upd G a (.frz od (.dK xs))) := by
  obtain ⟨g, u, hu, ys, rfl, hr⟩ := r.mem a _ hm
  rw [hH] at hu; cases hu
  have s1 : Sub G (upd G a (.frz od (.dK xs))) := Sub.new g
  refine ⟨⟨fun b w e => ?_, fun b w e => ?_⟩, s1⟩
  · by_cases hb : b = a
    · subst hb; rw [upd_same] at e ⊢; exact e
    · rw [upd_ne hb] at e ⊢; exact r.sub b w e
  · by_cases hb : b = a
    · subst hb
      rw [mset_same] at e; cases e
      exact ⟨by rw [upd_same, upd_same]; rfl, _, upd_same, od, xs, rfl, RKs.mono s1 hr⟩
    · rw [mset_ne hb] at e
      obtain ⟨h1, w', h2, h3⟩ := r.mem b w e
      exact ⟨by rw [upd_ne hb, upd_ne hb]; exact h1, w', by rw [upd_ne hb]; exact h2, h3.mono s1⟩
/-- .. and unlocked behind it -/
theorem RelM.unlock {K : PySem.W.Frag} {m : Mem} {G0 G H : Hp} {a : Addr} {ks : List (Key × D)} {xs : List (Key × V)} {od : Obj} (r : RelM K m G H) (g0 : G0 a = none) (hs : Sub (upd G0 a (.frz od (.dK xs))) G) (hk : RKs K G0 ks xs) :
    H a = some (.frz od (.dK xs)) ∧ Sub G0 (unl G a) ∧ RelM K (mset m a (.dK ks)) (unl G a) (upd H a (.dK xs)) := by
  have ga : G a = some (.frz od (.dK xs)) := hs a _ upd_same
  have s0 : Sub G0 (unl G a) := fun b w e => by
    have hb : b ≠ a := fun z => by subst z; rw [g0] at e; cases e
    rw [unl_ne hb]
    exact hs b w (by rw [upd_ne hb]; exact e)
  have hw : ∀ ys, (HO.dK xs) ≠ .tup ys ∧ (HO.dK xs) ≠ .lst ys := fun ys => ⟨(fun z => by cases z), fun z => by cases z⟩
  refine ⟨r.sub a _ ga, s0, ⟨fun b w e => ?_, fun b w e => ?_⟩⟩
  · by_cases hb : b = a
    · rw [hb, unl_same] at e; cases e
    · rw [unl_ne hb] at e; rw [upd_ne hb]; exact r.sub b w e
  · by_cases hb : b = a
    · subst hb
      rw [mset_same] at e; cases e
      exact ⟨unl_same, _, upd_same, xs, rfl, RKs.mono s0 hk⟩
    · rw [mset_ne hb] at e
      obtain ⟨h1, w', h2, h3⟩ := r.mem b w e
      refine ⟨?_, w', by rw [upd_ne hb]; exact h2, RO.unfz ga hw h3⟩
      rw [unl_ne hb, upd_ne hb]
      exact h1
/-- m' tells less than m -/
def ALe : AO → AO → Prop
  | .lst ds, .any P => P ds
  | .any P, .any P' => ∀ ds, P ds → P' ds
  | o, o' => o = o'
def MLe (m m' : Mem) : Prop := ∀ a o', m' a = some o' → ∃ o, m a = some o ∧ (o = o' ∨ (∃ ds P, o = .lst ds ∧ o' = .any P ∧ P ds) ∨ ∃ P P', o = .any P ∧ o' = .any P' ∧ ∀ ds, P ds → P' ds)
theorem MLe.refl (m : Mem) : MLe m m := fun _ o h => ⟨o, h, .inl rfl⟩
theorem RelM.le {K : PySem.W.Frag} {m m' : Mem} {G H : Hp} (r : RelM K m G H) (h : MLe m m') : RelM K m' G H := ⟨r.sub, fun a o e => by
  obtain ⟨o', h1, h2⟩ := h a o e
  obtain ⟨g, u, hu, ho⟩ := r.mem a o' h1
  rcases h2 with rfl | ⟨ds, P, rfl, rfl, p⟩ | ⟨P, P', rfl, rfl, p⟩
  · exact ⟨g, u, hu, ho⟩
  · obtain ⟨xs, e1, e2⟩ := ho; exact ⟨g, u, hu, ds, xs, p, e1, e2⟩
  · obtain ⟨ds, xs, p0, e1, e2⟩ := ho; exact ⟨g, u, hu, ds, xs, p ds p0, e1, e2⟩⟩
theorem MLe.close {m : Mem} {a : Addr} {ds : List D} {P : List D → Prop} (hm : m a = some (.any P)) (p : P ds) : MLe (mset m a (.lst ds)) m := fun b o h => by
  by_cases hb : b = a
  · subst hb
    rw [hm] at h; cases h
    exact ⟨_, mset_same, .inr (.inl ⟨ds, P, rfl, rfl, p⟩)⟩
  · exact ⟨o, by rw [mset_ne hb]; exact h, .inl rfl⟩
theorem MLe.drop {m : Mem} {a : Addr} {o : AO} (hm : m a = none) : MLe (mset m a o) m := fun b u h => ⟨u, by rw [mset_ne (mne h hm)]; exact h, .inl rfl⟩
theorem MLe.trans {m m1 m2 : Mem} (h : MLe m m1) (h' : MLe m1 m2) : MLe m m2 := fun a o e => by
  obtain ⟨o1, e1, r1⟩ := h' a o e
  obtain ⟨o2, e2, r2⟩ := h a o1 e1
  refine ⟨o2, e2, ?_⟩
  rcases r1 with rfl | ⟨ds, P, rfl, rfl, p⟩ | ⟨P, P', rfl, rfl, p⟩
  · exact r2
  · rcases r2 with rfl | ⟨ds', P', h1, h2, p'⟩ | ⟨P', P'', h1, h2, p'⟩
    · exact .inr (.inl ⟨ds, P, rfl, rfl, p⟩)
    · cases h2
    · cases h2
  · rcases r2 with rfl | ⟨ds', P'', rfl, h2, p'⟩ | ⟨P1, P2, rfl, h2, p'⟩
    · exact .inr (.inr ⟨P, P', rfl, rfl, p⟩)
    · cases h2; exact .inr (.inl ⟨ds', P', rfl, rfl, p ds' p'⟩)
    · cases h2; exact .inr (.inr ⟨P1, P', rfl, rfl, fun ds z => p ds (p' ds z)⟩)
end L3
namespace L3
open PySem L2
/-! ### readings over data -/
abbrev DK := D → Mem → Prop
abbrev QE := DSt → Mem → DK → Prop
abbrev QT := DSt → Mem → (Bool → Mem → Prop) → Prop
abbrev QA := DSt → Mem → (List D → Mem → Prop) → Prop
/-- what is wanted of an exception: its class, its own fields -/
abbrev DX := Value → List (Str × D) → Mem → Prop
structure DE where
  nx : DSt → Mem → Prop
  rt : DK
  bk : DSt → Mem → Prop
  ct : DSt → Mem → Prop
abbrev QS := DE → DSt → Mem → Prop
abbrev LSp := List D → Mem → DK → Prop
abbrev LSpX := List D → Mem → DK → DX → Prop
section
variable (K : PySem.W.Frag)
def KQ (G : Hp) (Φ : DK) (Q : VK) : Prop := ∀ G' d m' v H', Sub G G' → RelM K m' G' H' → RV K G' d v → Φ d m' → Q v H'
def KB (G : Hp) (Φ : Bool → Mem → Prop) (Q : Bool → Hp → Prop) : Prop := ∀ G' b m' H', Sub G G' → RelM K m' G' H' → Φ b m' → Q b H'
def KA (G : Hp) (Φ : List D → Mem → Prop) (Q : List V → Hp → Prop) : Prop := ∀ G' ds m' vs H', Sub G G' → RelM K m' G' H' → RVs K G' ds vs → Φ ds m' → Q vs H'
def KS (G : Hp) (Φ : DSt → Mem → Prop) (Q : St → Hp → Prop) : Prop := ∀ G' s' m' σ' H', Sub G G' → RelM K m' G' H' → RelS K s' G' σ' → Φ s' m' → Q σ' H'
def KX (G : Hp) (Ψ : DX) (E : XK) : Prop := ∀ G' cls fs m' od H', Sub G G' → RelM K m' G' H' → ((od = none ∧ fs = []) ∨ ∃ d xs, od = some d ∧ H' d = some (.xd xs) ∧ RKs K G' fs xs) → Ψ cls fs m' → E cls od H'
def liftE (q : QE) : TE := fun σ H Q => ∃ G s m Φ, RelM K m G H ∧ RelS K s G σ ∧ q s m Φ ∧ KQ K G Φ Q
def liftT (q : QT) : TT := fun σ H Q => ∃ G s m Φ, RelM K m G H ∧ RelS K s G σ ∧ q s m Φ ∧ KB K G Φ Q
def liftA (q : QA) : TA := fun σ H Q => ∃ G s m Φ, RelM K m G H ∧ RelS K s G σ ∧ q s m Φ ∧ KA K G Φ Q
def liftS (q : QS) : TS := fun D σ H => ∃ (G : Hp) (s : DSt) (m : Mem) (E : DE), RelM K m G H ∧ RelS K s G σ ∧ q E s m ∧ KS K G E.nx D.nx ∧ KQ K G E.rt D.rt ∧ KS K G E.bk D.bk ∧ KS K G E.ct D.ct
def liftSp (sp : LSp) : Sp := fun vs H Q _ => ∃ G m ds Φ, RelM K m G H ∧ RVs K G ds vs ∧ sp ds m Φ ∧ KQ K G Φ Q
def liftSpX (sp : LSpX) : Sp := fun vs H Q E => ∃ G m ds Φ Ψ, RelM K m G H ∧ RVs K G ds vs ∧ sp ds m Φ Ψ ∧ KQ K G Φ Q ∧ KX K G Ψ E
def liftR (q : D → D → Mem → DK → Prop) : R2 := fun x y H Q => ∃ G m dx dy Φ, RelM K m G H ∧ RV K G dx x ∧ RV K G dy y ∧ q dx dy m Φ ∧ KQ K G Φ Q
def liftU (q : D → Mem → DK → Prop) : V → Hp → VK → Prop := fun x H Q => ∃ G m dx Φ, RelM K m G H ∧ RV K G dx x ∧ q dx m Φ ∧ KQ K G Φ Q
def liftTr (q : D → Mem → (Bool → Mem → Prop) → Prop) : V → Hp → (Bool → Hp → Prop) → Prop := fun x H Q => ∃ G m dx Φ, RelM K m G H ∧ RV K G dx x ∧ q dx m Φ ∧ KB K G Φ Q
def liftC (q : LSp) : List V → Hp → VK → Prop := fun vs H Q => ∃ G m ds Φ, RelM K m G H ∧ RVs K G ds vs ∧ q ds m Φ ∧ KQ K G Φ Q
def liftMt (q : D → LSp) : V → List V → Hp → VK → Prop := fun x vs H Q => ∃ G m dx ds Φ, RelM K m G H ∧ RV K G dx x ∧ RVs K G ds vs ∧ q dx ds m Φ ∧ KQ K G Φ Q
end
section
variable {K : PySem.W.Frag} {G G' : Hp}
theorem KQ.mono {Φ : DK} {Q : VK} (k : KQ K G Φ Q) (e : Sub G G') : KQ K G' Φ Q := fun G2 d m v H e2 => k G2 d m v H (e.trans e2)
theorem KB.mono {Φ : Bool → Mem → Prop} {Q : Bool → Hp → Prop} (k : KB K G Φ Q) (e : Sub G G') : KB K G' Φ Q := fun G2 d m H e2 => k G2 d m H (e.trans e2)
theorem KA.mono {Φ : List D → Mem → Prop} {Q : List V → Hp → Prop} (k : KA K G Φ Q) (e : Sub G G') : KA K G' Φ Q := fun G2 d m v H e2 => k G2 d m v H (e.trans e2)
theorem KS.mono {Φ : DSt → Mem → Prop} {Q : St → Hp → Prop} (k : KS K G Φ Q) (e : Sub G G') : KS K G' Φ Q := fun G2 d m v H e2 => k G2 d m v H (e.trans e2)
theorem KX.mono {Ψ : DX} {E : XK} (k : KX K G Ψ E) (e : Sub G G') : KX K G' Ψ E := fun G2 c f m o H e2 => k G2 c f m o H (e.trans e2)
end
/-! ### consequence -/
section
variable {X : Cx}
theorem pe_imp {e : Expr} {t t' : TE} (h : PE X e t) (i : ∀ σ H Q, t' σ H Q → t σ H Q) : PE X e t' := ⟨fun pins s σ H Q I w => h.run pins s σ H Q I (i σ H Q w)⟩
theorem pt_imp {e : Expr} {t t' : TT} (h : PT X e t) (i : ∀ σ H Q, t' σ H Q → t σ H Q) : PT X e t' := ⟨fun pins s σ H Q I w => h.run pins s σ H Q I (i σ H Q w)⟩
theorem pw_imp {e : Expr} {t t' : TT} (h : PW X e t) (i : ∀ σ H Q, t' σ H Q → t σ H Q) : PW X e t' := ⟨fun wh pins s σ H Q I w => h.run wh pins s σ H Q I (i σ H Q w)⟩
theorem pa_imp {e : List Expr} {t t' : TA} (h : PA X e t) (i : ∀ σ H Q, t' σ H Q → t σ H Q) : PA X e t' := ⟨fun pos pins s σ H Q I w => h.run pos pins s σ H Q I (i σ H Q w)⟩
theorem ps_imp {e : Stmt} {t t' : TS} (h : PS X e t) (i : ∀ D σ H, t' D σ H → t D σ H) : PS X e t' := ⟨fun pins s σ H D I w => h.run pins s σ H D I (i D σ H w)⟩
theorem pss_imp {e : List Stmt} {t t' : TS} (h : PSs X e t) (i : ∀ D σ H, t' D σ H → t D σ H) : PSs X e t' := ⟨fun pins s σ H D I w => h.run pins s σ H D I (i D σ H w)⟩
theorem op_imp {f : Value → Value → Sem Value} {r r' : R2} (h : OpR X f r) (i : ∀ x y H Q, r' x y H Q → r x y H Q) : OpR X f r' := fun pins s σ H x y v u Q I rx ry w => h pins s σ H x y v u Q I rx ry (i x y H Q w)
theorem call_imp {f : Value} {r r' : List V → Hp → VK → Prop} (h : CallR X f r) (i : ∀ x H Q, r' x H Q → r x H Q) : CallR X f r' := fun pins s σ H x u Q I rx w => h pins s σ H x u Q I rx (i x H Q w)
theorem ix_imp {r r' : R2} (h : IxR X r) (i : ∀ x y H Q, r' x y H Q → r x y H Q) : IxR X r' := fun value slice pins s σ H x y v u Q I rx ry w => h value slice pins s σ H x y v u Q I rx ry (i x y H Q w)
theorem mt_imp {id : String} {r r' : V → List V → Hp → VK → Prop} (h : MtR X id r) (i : ∀ x xs H Q, r' x xs H Q → r x xs H Q) : MtR X id r' := fun pins s σ H x xs v us Q I rx ry w => h pins s σ H x xs v us Q I rx ry (i x xs H Q w)
theorem pe_or2 {e : Expr} {t t' : TE} (h : PE X e t) (h' : PE X e t') : PE X e (fun σ H Q => t σ H Q ∨ t' σ H Q) := ⟨fun pins s σ H Q I w => w.elim (h.run pins s σ H Q I) (h'.run pins s σ H Q I)⟩
end
/-! ### names and constants -/
def look : DSt → Nat → Option D
  | [], _ => none
  | x :: _, 0 => x
  | _ :: r, n + 1 => look r n
theorem look_get : ∀ {s : DSt} {i : Nat} {d : D}, look s i = some d → s[i]? = some (some d)
  | [], _, _, h => by cases h
  | x :: _, 0, d, h => by rw [show x = some d from h]; rfl
  | _ :: r, n + 1, d, h => by
    have := look_get (s := r) (i := n) h
    simpa using this
def qVar (i : Nat) : QE := fun s m Φ => match look s i with | some d => Φ d m | none => False
def qC (d : D) : QE := fun _ m Φ => Φ d m
section
variable {X : Cx}
theorem de_var {e : Expr} {i : Nat} (h : PE X e (tVar i)) : PE X e (liftE X.K (qVar i)) := pe_imp h fun σ H Q ⟨G, s, m, Φ, r, rs, q, k⟩ => by
  unfold qVar at q
  cases e : look s i with
  | none => rw [e] at q; exact q.elim
  | some d =>
    rw [e] at q
    obtain ⟨v, h1, h2⟩ := rs.loc i d (look_get e)
    exact ⟨v, h1, k G d m v H (Sub.refl G) r h2 q⟩
/-- the name that stands in the i-th slot -/
theorem dv (i : Nat) {x : Str} {pos : Pos} (hN : X.N[i]? = some x := by rfl) (hv : Vis X.env.scope x := by first | exact Or.inl rfl | exact Or.inr (Or.inl rfl) | exact Or.inr (Or.inr rfl)) (hd : (x == ("__debug__" : Str)) = false := by decide)
    (hcd : (x == ("__classdict__" : Str)) = false := by decide) : PE X (.Name x pos) (liftE X.K (qVar i)) := de_var (pe_var hN hv hd hcd)
theorem de_c {e : Expr} {v : V} (d : D) (h : PE X e (tC v)) (r : ∀ G, RV X.K G d v) : PE X e (liftE X.K (qC d)) := pe_imp h fun σ H Q ⟨G, s, m, Φ, rm, rs, q, k⟩ => k G d m v H (Sub.refl G) rm (r G) q
theorem de_int {i j pos} : PE X (.Constant (.int i) j pos) (liftE X.K (qC (.int i))) := de_c _ pe_int fun _ => rfl
theorem de_bl {i j pos} : PE X (.Constant (.bool i) j pos) (liftE X.K (qC (.bl i))) := de_c _ pe_bl fun _ => rfl
theorem de_non {j pos} : PE X (.Constant .none j pos) (liftE X.K (qC .non)) := de_c _ pe_non fun _ => rfl
theorem de_str {i j pos} : PE X (.Constant (.str i) j pos) (liftE X.K (qC (.str i))) := de_c _ pe_str fun _ => rfl
end
/-! ### two-place operations -/
def qOp (r : D → D → Mem → DK → Prop) (qa qb : QE) : QE := fun s m Φ => qa s m fun x m1 => qb s m1 fun y m2 => r x y m2 Φ
section
variable {X : Cx} {a b c : Expr} {qa qb qc : QE} {pos : Pos}
theorem lift_op {K : PySem.W.Frag} {r : D → D → Mem → DK → Prop} : ∀ σ H Q, liftE K (qOp r qa qb) σ H Q → tOp (liftR K r) (liftE K qa) (liftE K qb) σ H Q := fun σ H Q ⟨G, s, m, Φ, rm, rs, q, k⟩ =>
  ⟨G, s, m, _, rm, rs, q, fun G1 x m1 v H1 e1 r1 rx q1 => ⟨G1, s, m1, _, r1, rs.mono e1, q1, fun G2 y m2 u H2 e2 r2 ry q2 => ⟨G2, m2, x, y, Φ, r2, RV.mono e2 x rx, ry, q2, k.mono (e1.trans e2)⟩⟩⟩
theorem de_op {op : Operator} {r : D → D → Mem → DK → Prop} (ho : OpR X (binaryOp op) (liftR X.K r)) (ha : PE X a (liftE X.K qa)) (hb : PE X b (liftE X.K qb)) : PE X (.BinOp a op b pos) (liftE X.K (qOp r qa qb)) := pe_imp (pe_op ho ha hb) lift_op
theorem de_cmp {op : CmpOp} {r : D → D → Mem → DK → Prop} (ho : OpR X (compareOp op) (liftR X.K r)) (ha : PE X a (liftE X.K qa)) (hb : PE X b (liftE X.K qb)) (hm : behindInMarks op b = false) : PE X (.Compare a [op] [b] pos) (liftE X.K (qOp r qa qb)) := pe_imp (pe_cmpR ho ha hb hm) lift_op
/-- a value that is a bool, as a test -/
def qB (q : QE) : QT := fun s m Φ => q s m fun d m1 => match d with | .bl b => Φ b m1 | _ => False
theorem lift_B {K : PySem.W.Frag} : ∀ σ H Q, liftT K (qB qa) σ H Q → tB (liftE K qa) σ H Q := fun σ H Q ⟨G, s, m, Φ, rm, rs, q, k⟩ =>
  ⟨G, s, m, _, rm, rs, q, fun G1 x m1 v H1 e1 r1 rx q1 => by
    cases x with
    | bl b => exact ⟨b, rx, k G1 b m1 H1 e1 r1 q1⟩
    | _ => exact q1.elim⟩
theorem lift_test {K : PySem.W.Frag} : ∀ σ H Q, liftT K (qB qa) σ H Q → tTest (liftE K qa) σ H Q := lift_B
theorem dt_cmp {op : CmpOp} {r : D → D → Mem → DK → Prop} (ho : OpR X (compareOp op) (liftR X.K r)) (ha : PE X a (liftE X.K qa)) (hb : PE X b (liftE X.K qb)) (hm : behindInMarks op b = false) : PT X (.Compare a [op] [b] pos) (liftT X.K (qB (qOp r qa qb))) :=
  pt_imp (pt_cmpR ho ha hb hm) fun σ H Q h => by
    obtain ⟨G, s, m, Φ, rm, rs, q, k⟩ := lift_B (K := X.K) σ H Q h
    exact lift_op σ H _ ⟨G, s, m, Φ, rm, rs, q, k⟩
theorem dt_val {e : Expr} {qe : QE} (h : PE X e (liftE X.K qe)) (he : ∀ whole, isTrue e X.env whole = (do let v ← whole; standAt e.pos; holding [v] (truthy v)) := by intro _; rfl) : PT X e (liftT X.K (qB qe)) := pt_imp (pt_val h he) lift_B
/-- a branch on a known bool -/
@[irreducible] def qIf (c : Bool) (A B : Prop) : Prop := if c = true then A else B
theorem qif {c : Bool} {A B : Prop} (h1 : c = true → A) (h2 : c = false → B) : qIf c A B := by
  unfold qIf; split
  · rename_i h; exact h1 h
  · rename_i h; exact h2 (by simpa using h)
theorem qif_t {c : Bool} {A B : Prop} (h : c = true) (a : A) : qIf c A B := qif (fun _ => a) (fun z => by rw [h] at z; cases z)
theorem qif_f {c : Bool} {A B : Prop} (h : c = false) (b : B) : qIf c A B := qif (fun z => by rw [h] at z; cases z) (fun _ => b)
theorem qif_e {c : Bool} {A B : Prop} (h : qIf c A B) : if c = true then A else B := by unfold qIf at h; exact h
/-- a op1 b op2 c -/
def qChain (r r' : D → D → Mem → DK → Prop) (qa qb qc : QE) : QE := fun s m Φ => qa s m fun x m1 => qb s m1 fun y m2 => r x y m2 fun z m3 => match z with
  | .bl c => qIf c (qc s m3 fun w m4 => r' y w m4 Φ) (Φ (.bl false) m3)
  | _ => False
theorem lift_chain {K : PySem.W.Frag} {r r' : D → D → Mem → DK → Prop} : ∀ σ H Q, liftE K (qChain r r' qa qb qc) σ H Q → tChain (liftR K r) (liftR K r') (liftE K qa) (liftE K qb) (liftE K qc) σ H Q := fun σ H Q ⟨G, s, m, Φ, rm, rs, q, k⟩ =>
  ⟨G, s, m, _, rm, rs, q, fun G1 x m1 v H1 e1 r1 rx q1 => ⟨G1, s, m1, _, r1, rs.mono e1, q1, fun G2 y m2 u H2 e2 r2 ry q2 =>
    ⟨G2, m2, x, y, _, r2, RV.mono e2 x rx, ry, q2, fun G3 z m3 w H3 e3 r3 rz q3 => by
      cases z with
      | bl b =>
        refine ⟨b, rz, ?_⟩
        have q3 := qif_e q3
        cases b with
        | true =>
          rw [if_pos rfl]
          exact ⟨G3, s, m3, _, r3, rs.mono ((e1.trans e2).trans e3), (by rwa [if_pos rfl] at q3), fun G4 t m4 t' H4 e4 r4 rt q4 => ⟨G4, m4, y, t, Φ, r4, RV.mono (e3.trans e4) y ry, rt, q4, k.mono (((e1.trans e2).trans e3).trans e4)⟩⟩
        | false =>
          rw [if_neg Bool.false_ne_true]
          exact k G3 (.bl false) m3 _ H3 ((e1.trans e2).trans e3) r3 rfl (by rwa [if_neg Bool.false_ne_true] at q3)
      | _ => exact q3.elim⟩⟩⟩
theorem de_chain {op op' : CmpOp} {r r' : D → D → Mem → DK → Prop} (ho : OpR X (compareOp op) (liftR X.K r)) (ho' : OpR X (compareOp op') (liftR X.K r')) (ha : PE X a (liftE X.K qa)) (hb : PE X b (liftE X.K qb)) (hc : PE X c (liftE X.K qc))
    (hm : lastMarks [op, op'] [b, c] = false := by with_unfolding_all rfl) : PE X (.Compare a [op, op'] [b, c] pos) (liftE X.K (qChain r r' qa qb qc)) := pe_imp (pe_chain ho ho' ha hb hc hm) lift_chain
theorem dt_chain {op op' : CmpOp} {r r' : D → D → Mem → DK → Prop} (ho : OpR X (compareOp op) (liftR X.K r)) (ho' : OpR X (compareOp op') (liftR X.K r')) (ha : PE X a (liftE X.K qa)) (hb : PE X b (liftE X.K qb)) (hc : PE X c (liftE X.K qc))
    (hm : lastMarks [op, op'] [b, c] = false := by with_unfolding_all rfl) : PT X (.Compare a [op, op'] [b, c] pos) (liftT X.K (qB (qChain r r' qa qb qc))) :=
  pt_imp (pt_chain ho ho' ha hb hc hm) fun σ H Q h => by
    obtain ⟨G, s, m, Φ, rm, rs, q, k⟩ := lift_B (K := X.K) σ H Q h
    exact lift_chain σ H _ ⟨G, s, m, Φ, rm, rs, q, k⟩
end
/-! ### truth -/
def truD (d : D) (m : Mem) (Φ : Bool → Mem → Prop) : Prop := match d with
  | .non => Φ false m
  | .bl b => Φ b m
  | .int i => Φ (i != 0) m
  | .str y => y.length ≤ sizeLine ∧ Φ ((y.length : Int) != 0) m
  | .tup ds => Φ (!ds.isEmpty) m
  | .lst ds => Φ (!ds.isEmpty) m
  | .ref a => (∃ ds, m a = some (.lst ds) ∧ Φ (!ds.isEmpty) m) ∨ ∃ ks, m a = some (.dK ks) ∧ Φ (!ks.isEmpty) m
theorem RVs.isEmpty {K : PySem.W.Frag} {G : Hp} {ds : List D} {xs : List V} (h : RVs K G ds xs) : ds.isEmpty = xs.isEmpty := by
  have := h.length
  cases ds <;> cases xs <;> simp_all
theorem RKs.isEmpty {K : PySem.W.Frag} {G : Hp} {κ : Type} {ds : List (κ × D)} {xs : List (κ × V)} (h : RKs K G ds xs) : ds.isEmpty = xs.isEmpty := by
  have := h.length
  cases ds <;> cases xs <;> simp_all
theorem tru_lift {K : PySem.W.Frag} {d : D} {v : V} {m : Mem} {G H : Hp} {Φ : Bool → Mem → Prop} (rm : RelM K m G H) (rv : RV K G d v) (h : truD d m Φ) : ∃ k, TruV K v H k ∧ Φ k m := by
  cases d with
  | non => obtain rfl : v = .non := rv; exact ⟨_, rfl, h⟩
  | bl b => obtain rfl : v = .bl b := rv; exact ⟨_, rfl, h⟩
  | int i => obtain rfl : v = .int i := rv; exact ⟨_, rfl, h⟩
  | str y => obtain rfl : v = .str y := rv; exact ⟨_, ⟨h.1, rfl⟩, h.2⟩
  | tup ds =>
    obtain ⟨a, xs, rfl, h1, h2⟩ := rv
    exact ⟨_, .inr (.inl ⟨xs, rm.sub.t h1, rfl⟩), by rw [← h2.isEmpty]; exact h⟩
  | lst ds =>
    obtain ⟨a, xs, rfl, h1, h2⟩ := rv
    exact ⟨_, .inl ⟨xs, rm.sub.l h1, rfl⟩, by rw [← h2.isEmpty]; exact h⟩
  | ref a =>
    obtain rfl : v = .ref a := rv
    rcases h with ⟨ds, hm, h⟩ | ⟨ks, hm, h⟩
    · obtain ⟨_, u, hu, xs, rfl, h2⟩ := rm.mem a _ hm
      exact ⟨_, .inl ⟨xs, .inl (.inl hu), rfl⟩, by rw [← h2.isEmpty]; exact h⟩
    · obtain ⟨_, u, hu, xs, rfl, h2⟩ := rm.mem a _ hm
      exact ⟨_, .inr (.inr ⟨xs, hu, rfl⟩), by rw [← h2.isEmpty]; exact h⟩
def qTru (q : QE) : QT := fun s m Φ => q s m fun d m1 => truD d m1 Φ
section
variable {X : Cx} {a b : Expr} {qa qb : QE} {ta tb : QT} {pos : Pos} {rest : List Expr}
theorem dt_tru (h : PE X a (liftE X.K qa)) (he : ∀ whole, isTrue a X.env whole = (do let v ← whole; standAt a.pos; holding [v] (truthy v)) := by intro _; rfl) : PT X a (liftT X.K (qTru qa)) :=
  pt_imp (pt_truth h he) fun σ H Q ⟨G, s, m, Φ, rm, rs, q, k⟩ => ⟨G, s, m, _, rm, rs, q, fun G1 x m1 v H1 e1 r1 rx q1 => by
    obtain ⟨b, h1, h2⟩ := tru_lift r1 rx q1
    exact ⟨b, h1, k G1 b m1 H1 e1 r1 h2⟩⟩
/-- and, or, not as tests -/
def qAnd (t u : QT) : QT := fun s m Φ => t s m fun c m1 => qIf c (u s m1 Φ) (Φ false m1)
def qOr (t u : QT) : QT := fun s m Φ => t s m fun c m1 => qIf c (Φ true m1) (u s m1 Φ)
def qNot (t : QT) : QT := fun s m Φ => t s m fun c m1 => Φ (!c) m1
theorem dw_and1 (ha : PT X a (liftT X.K ta)) : PW X (.BoolOp .And [a] pos) (liftT X.K ta) := pw_and1 ha
theorem dw_or1 (ha : PT X a (liftT X.K ta)) : PW X (.BoolOp .Or [a] pos) (liftT X.K ta) := pw_or1 ha
theorem dw_and (ha : PT X a (liftT X.K ta)) (hb : PW X (.BoolOp .And (b :: rest) pos) (liftT X.K tb)) : PW X (.BoolOp .And (a :: b :: rest) pos) (liftT X.K (qAnd ta tb)) :=
  pw_imp (pw_and ha hb) fun σ H Q ⟨G, s, m, Φ, rm, rs, q, k⟩ => ⟨G, s, m, _, rm, rs, q, fun G1 c m1 H1 e1 r1 q1 => by
    have q1 := qif_e q1
    dsimp only
    cases c with
    | true => rw [if_pos rfl] at q1 ⊢; exact ⟨G1, s, m1, Φ, r1, rs.mono e1, q1, k.mono e1⟩
    | false => rw [if_neg Bool.false_ne_true] at q1 ⊢; exact k G1 false m1 H1 e1 r1 q1⟩
theorem dw_or (ha : PT X a (liftT X.K ta)) (hb : PW X (.BoolOp .Or (b :: rest) pos) (liftT X.K tb)) : PW X (.BoolOp .Or (a :: b :: rest) pos) (liftT X.K (qOr ta tb)) :=
  pw_imp (pw_or ha hb) fun σ H Q ⟨G, s, m, Φ, rm, rs, q, k⟩ => ⟨G, s, m, _, rm, rs, q, fun G1 c m1 H1 e1 r1 q1 => by
    have q1 := qif_e q1
    dsimp only
    cases c with
    | false => rw [if_neg Bool.false_ne_true] at q1 ⊢; exact ⟨G1, s, m1, Φ, r1, rs.mono e1, q1, k.mono e1⟩
    | true => rw [if_pos rfl] at q1 ⊢; exact k G1 true m1 H1 e1 r1 q1⟩
theorem dt_not (ha : PT X a (liftT X.K ta)) : PT X (.UnaryOp .Not a pos) (liftT X.K (qNot ta)) :=
  pt_imp (pt_not ha) fun σ H Q ⟨G, s, m, Φ, rm, rs, q, k⟩ => ⟨G, s, m, _, rm, rs, q, fun G1 c m1 H1 e1 r1 q1 => k G1 _ m1 H1 e1 r1 q1⟩
/-- .. as values that are bools -/
def qAndV (qa qb : QE) : QE := fun s m Φ => qa s m fun x m1 => match x with | .bl c => qIf c (qb s m1 Φ) (Φ (.bl false) m1) | _ => False
def qOrV (qa qb : QE) : QE := fun s m Φ => qa s m fun x m1 => match x with | .bl c => qIf c (Φ (.bl true) m1) (qb s m1 Φ) | _ => False
def qNotV (qa : QE) : QE := fun s m Φ => qa s m fun x m1 => match x with | .bl c => Φ (.bl (!c)) m1 | _ => False
theorem de_one {op} (h : PE X a (liftE X.K qa)) : PE X (.BoolOp op [a] pos) (liftE X.K qa) := pe_one h
theorem de_and (ha : PE X a (liftE X.K qa)) (hb : PE X (.BoolOp .And (b :: rest) pos) (liftE X.K qb)) : PE X (.BoolOp .And (a :: b :: rest) pos) (liftE X.K (qAndV qa qb)) :=
  pe_imp (pe_and ha hb) fun σ H Q ⟨G, s, m, Φ, rm, rs, q, k⟩ => ⟨G, s, m, _, rm, rs, q, fun G1 x m1 v H1 e1 r1 rx q1 => by
    cases x with
    | bl c =>
      obtain rfl : v = .bl c := rx
      have q1 := qif_e q1
      refine ⟨c, rfl, ?_⟩
      cases c with
      | true => rw [if_pos rfl] at q1 ⊢; exact ⟨G1, s, m1, Φ, r1, rs.mono e1, q1, k.mono e1⟩
      | false => rw [if_neg Bool.false_ne_true] at q1 ⊢; exact k G1 (.bl _) m1 _ H1 e1 r1 rfl q1
    | _ => exact q1.elim⟩
theorem de_or (ha : PE X a (liftE X.K qa)) (hb : PE X (.BoolOp .Or (b :: rest) pos) (liftE X.K qb)) : PE X (.BoolOp .Or (a :: b :: rest) pos) (liftE X.K (qOrV qa qb)) :=
  pe_imp (pe_or ha hb) fun σ H Q ⟨G, s, m, Φ, rm, rs, q, k⟩ => ⟨G, s, m, _, rm, rs, q, fun G1 x m1 v H1 e1 r1 rx q1 => by
    cases x with
    | bl c =>
      obtain rfl : v = .bl c := rx
      have q1 := qif_e q1
      refine ⟨c, rfl, ?_⟩
      cases c with
      | false => rw [if_neg Bool.false_ne_true] at q1 ⊢; exact ⟨G1, s, m1, Φ, r1, rs.mono e1, q1, k.mono e1⟩
      | true => rw [if_pos rfl] at q1 ⊢; exact k G1 (.bl _) m1 _ H1 e1 r1 rfl q1
    | _ => exact q1.elim⟩
theorem de_not (ha : PE X a (liftE X.K qa)) : PE X (.UnaryOp .Not a pos) (liftE X.K (qNotV qa)) :=
  pe_imp (pe_not ha) fun σ H Q ⟨G, s, m, Φ, rm, rs, q, k⟩ => ⟨G, s, m, _, rm, rs, q, fun G1 x m1 v H1 e1 r1 rx q1 => by
    cases x with
    | bl c => exact ⟨c, rx, k G1 (.bl _) m1 _ H1 e1 r1 rfl q1⟩
    | _ => exact q1.elim⟩
/-- a if t else b -/
def qIfE (t : QT) (qa qb : QE) : QE := fun s m Φ => t s m fun c m1 => qIf c (qa s m1 Φ) (qb s m1 Φ)
theorem de_if {c : Expr} (hc : PT X c (liftT X.K ta)) (ha : PE X a (liftE X.K qa)) (hb : PE X b (liftE X.K qb)) : PE X (.IfExp c a b pos) (liftE X.K (qIfE ta qa qb)) :=
  pe_imp (pe_ifExp hc ha hb) fun σ H Q ⟨G, s, m, Φ, rm, rs, q, k⟩ => ⟨G, s, m, _, rm, rs, q, fun G1 c m1 H1 e1 r1 q1 => by
    have q1 := qif_e q1
    dsimp only
    cases c with
    | true => rw [if_pos rfl] at q1 ⊢; exact ⟨G1, s, m1, Φ, r1, rs.mono e1, q1, k.mono e1⟩
    | false => rw [if_neg Bool.false_ne_true] at q1 ⊢; exact ⟨G1, s, m1, Φ, r1, rs.mono e1, q1, k.mono e1⟩⟩
end
/-! ### argument lists, displays -/
def qNil : QA := fun _ m Φ => Φ [] m
def qCons (qa : QE) (qr : QA) : QA := fun s m Φ => qa s m fun x m1 => qr s m1 fun xs m2 => Φ (x :: xs) m2
def qTup (qa : QA) : QE := fun s m Φ => qa s m fun ds m1 => ds.length ≤ sizeLine ∧ Φ (.tup ds) m1
/-- a list display: one that will not be changed | one that may be -/
def qLstF (qa : QA) : QE := fun s m Φ => qa s m fun ds m1 => ds.length ≤ sizeLine ∧ Φ (.lst ds) m1
def qLstM (qa : QA) : QE := fun s m Φ => qa s m fun ds m1 => ds.length ≤ sizeLine ∧ ∀ p, m1 p = none → Φ (.ref p) (mset m1 p (.lst ds))
section
variable {X : Cx} {e : Expr} {es : List Expr} {qe : QE} {qa : QA} {pos : Pos}
theorem da_nil : PA X [] (liftA X.K qNil) := pa_imp pa_nil fun σ H Q ⟨G, s, m, Φ, rm, rs, q, k⟩ => k G [] m [] H (Sub.refl G) rm rfl q
theorem da_cons (ha : PE X e (liftE X.K qe)) (hr : PA X es (liftA X.K qa)) (hs : starEach (e :: es) X.env = (false, eval e X.env) :: starEach es X.env := by rfl) : PA X (e :: es) (liftA X.K (qCons qe qa)) :=
  pa_imp (pa_cons ha hr hs) fun σ H Q ⟨G, s, m, Φ, rm, rs, q, k⟩ => ⟨G, s, m, _, rm, rs, q, fun G1 x m1 v H1 e1 r1 rx q1 => ⟨G1, s, m1, _, r1, rs.mono e1, q1, fun G2 xs m2 vs H2 e2 r2 rxs q2 =>
    k G2 _ m2 _ H2 (e1.trans e2) r2 (RVs.cons (RV.mono e2 x rx) rxs) q2⟩⟩
theorem lift_tup {K : PySem.W.Frag} {G H : Hp} {m : Mem} {ds : List D} {vs : List V} {Φ : DK} {Q : VK} (rm : RelM K m G H) (r : RVs K G ds vs) (q : Φ (.tup ds) m) (k : KQ K G Φ Q) : ∀ p, H p = none → Q (.ref p) (upd H p (.tup vs)) := fun p hp => by
  obtain ⟨r1, e1⟩ := rm.lay (u := .tup vs) hp
  exact k _ (.tup ds) m _ _ e1 r1 ⟨p, vs, rfl, .inl (.inl upd_same), RVs.mono e1 _ r⟩ q
theorem lift_lstF {K : PySem.W.Frag} {G H : Hp} {m : Mem} {ds : List D} {vs : List V} {Φ : DK} {Q : VK} (rm : RelM K m G H) (r : RVs K G ds vs) (q : Φ (.lst ds) m) (k : KQ K G Φ Q) : ∀ p, H p = none → Q (.ref p) (upd H p (.lst vs)) := fun p hp => by
  obtain ⟨r1, e1⟩ := rm.lay (u := .lst vs) hp
  exact k _ (.lst ds) m _ _ e1 r1 ⟨p, vs, rfl, .inl (.inl upd_same), RVs.mono e1 _ r⟩ q
theorem lift_lstM {K : PySem.W.Frag} {G H : Hp} {m : Mem} {ds : List D} {vs : List V} {Φ : DK} {Q : VK} (rm : RelM K m G H) (r : RVs K G ds vs) (q : ∀ p, m p = none → Φ (.ref p) (mset m p (.lst ds))) (k : KQ K G Φ Q) : ∀ p, H p = none → Q (.ref p) (upd H p (.lst vs)) := fun p hp =>
  k G (.ref p) _ _ _ (Sub.refl G) (rm.new (o := .lst ds) hp ⟨vs, rfl, r⟩) rfl (q p (rm.free hp))
theorem de_tup {x1} (h : PA X es (liftA X.K qa)) : PE X (.Tuple es x1 pos) (liftE X.K (qTup qa)) :=
  pe_imp (pe_tup h) fun σ H Q ⟨G, s, m, Φ, rm, rs, q, k⟩ => ⟨G, s, m, _, rm, rs, q, fun G1 ds m1 vs H1 e1 r1 rd q1 => ⟨by rw [← rd.length]; exact q1.1, lift_tup r1 rd q1.2 (k.mono e1)⟩⟩
theorem de_lstF (h : PA X es (liftA X.K qa)) : PE X (.List es pos) (liftE X.K (qLstF qa)) :=
  pe_imp (pe_lst h) fun σ H Q ⟨G, s, m, Φ, rm, rs, q, k⟩ => ⟨G, s, m, _, rm, rs, q, fun G1 ds m1 vs H1 e1 r1 rd q1 => ⟨by rw [← rd.length]; exact q1.1, lift_lstF r1 rd q1.2 (k.mono e1)⟩⟩
theorem de_lstM (h : PA X es (liftA X.K qa)) : PE X (.List es pos) (liftE X.K (qLstM qa)) :=
  pe_imp (pe_lst h) fun σ H Q ⟨G, s, m, Φ, rm, rs, q, k⟩ => ⟨G, s, m, _, rm, rs, q, fun G1 ds m1 vs H1 e1 r1 rd q1 => ⟨by rw [← rd.length]; exact q1.1, lift_lstM r1 rd q1.2 (k.mono e1)⟩⟩
/-- {} -/
def qDNewK : QE := fun _ m Φ => ∀ p, m p = none → Φ (.ref p) (mset m p (.dK []))
def qDNewT : QE := fun _ m Φ => ∀ p, m p = none → Φ (.ref p) (mset m p (.dT []))
theorem de_dnewK : PE X (.Dict [] [] pos) (liftE X.K qDNewK) := pe_imp pe_dnewK fun σ H Q ⟨G, s, m, Φ, rm, rs, q, k⟩ p hp => k G (.ref p) _ _ _ (Sub.refl G) (rm.new (o := .dK []) hp ⟨[], rfl, rfl⟩) rfl (q p (rm.free hp))
theorem de_dnewT : PE X (.Dict [] [] pos) (liftE X.K qDNewT) := pe_imp pe_dnewT fun σ H Q ⟨G, s, m, Φ, rm, rs, q, k⟩ p hp => k G (.ref p) _ _ _ (Sub.refl G) (rm.new (o := .dT []) hp ⟨[], rfl, rfl⟩) rfl (q p (rm.free hp))
end
/-- a list that was just made, taken as one that never changes -/
def qFreeze (qe : QE) : QE := fun s m Φ => qe s m fun d m1 => match d with
  | .ref a => ∃ ds, m1 a = some (.lst ds) ∧ Φ (.lst ds) (mdel m1 a)
  | _ => False
theorem de_freeze {X : Cx} {e : Expr} {qe : QE} (h : PE X e (liftE X.K qe)) : PE X e (liftE X.K (qFreeze qe)) :=
  pe_imp h fun σ H Q ⟨G, s, m, Φ, rm, rs, q, k⟩ => ⟨G, s, m, _, rm, rs, q, fun G1 d m1 v H1 e1 r1 rd q1 => by
    cases d with
    | ref a =>
      obtain rfl : v = .ref a := rd
      obtain ⟨ds, hm, q1⟩ := q1
      obtain ⟨G2, e2, r2, rv⟩ := r1.freeze hm
      exact k G2 _ _ _ H1 (e1.trans e2) r2 rv q1
    | _ => exact q1.elim⟩
/-! ### defs and calls -/
/-- f(..), its promise sp; dds: the defaults -/
def qCall (sp : LSp) (qa : QA) : QE := fun s m Φ => qa s m fun ds m1 => sp ds m1 Φ
def FnD (P : Program) (w : World) (K : PySem.W.Frag) (mg : Str → Option Value) (base : Heap) (k : Nat) (f : Addr) (sp : LSp) : Prop := FnR P w K mg base CX0 k f (liftSp K sp)
section
variable {X : Cx} {k : Nat} {f : Addr} {sp : Sp} {E : XK} {x : Str} {p pos : Pos} {e : Expr} {es : List Expr} {t : TA} {CX : CXT}
theorem pe_callR (F : FnR X.prog X.w X.K X.mg X.base CX k f sp) (hr : Room k X.A) (hg : Gl X x) (hm : X.mg x = some (.ref f)) (hk : PySem.W.keepIn X.K (.ref f) = true) (hx : Passes CX X E)
    (ha : PA X (e :: es) t) (hdb : (x == ("__debug__" : Str)) = false := by decide) (he : starEach (e :: es) X.env = (false, eval e X.env) :: starEach es X.env := by rfl) (hpl : (backTo pos (starEach es X.env)).any (·.1) = false := by rfl) :
    PE X (.Call (.Name x p) (e :: es) [] pos) (fun σ H Q => t σ H fun vs H1 => sp vs H1 Q E) := by
  refine ⟨fun pins s σ H Q I h => ?_⟩
  refine wpAny_Call_Name_kw (ld_glob I hg hm ?_ hdb)
  refine PySem.W.callWith_K (h₀ := X.base) I.ok.mod.kin hk (thn (ha.run pos pins s σ H _ I h) fun us s1 ⟨vs, H1, I1, r, q⟩ => ⟨I1.kIn, ?_⟩) he hpl
  exact wpAny_call (run_fnR F hr hx I1 r q)
theorem lift_call {K : PySem.W.Frag} {qa : QA} {sp : LSp} : ∀ σ H Q, liftE K (qCall sp qa) σ H Q → liftA K qa σ H fun vs H1 => liftSp K sp vs H1 Q E0 := fun σ H Q ⟨G, s, m, Φ, rm, rs, q, k⟩ =>
  ⟨G, s, m, _, rm, rs, q, fun G1 ds m1 vs H1 e1 r1 rd q1 => ⟨G1, m1, ds, Φ, r1, rd, q1, k.mono e1⟩⟩
theorem de_call {sp : LSp} {qa : QA} (F : FnD X.prog X.w X.K X.mg X.base k f sp) (hr : Room k X.A) (hg : Gl X x) (hm : X.mg x = some (.ref f)) (hk : PySem.W.keepIn X.K (.ref f) = true)
    (ha : PA X (e :: es) (liftA X.K qa)) (hdb : (x == ("__debug__" : Str)) = false := by decide) (he : starEach (e :: es) X.env = (false, eval e X.env) :: starEach es X.env := by rfl) (hpl : (backTo pos (starEach es X.env)).any (·.1) = false := by rfl) :
    PE X (.Call (.Name x p) (e :: es) [] pos) (liftE X.K (qCall sp qa)) := pe_imp (pe_callR F hr hg hm hk pass0 ha hdb he hpl) lift_call
/-- f(e, .., *y) -/
theorem de_callS2 {sp : LSp} {qa : QA} (F : FnD X.prog X.w X.K X.mg X.base k f sp) (hr : Room k X.A) (hk : PySem.W.keepIn X.K (.ref f) = true) (hg : Gl X x) (hm : X.mg x = some (.ref f)) (ha : PA X (e :: es) (liftA X.K qa)) (hd : (x == ("__debug__" : Str)) = false := by decide)
    (he : starEach (e :: es) X.env = (false, eval e X.env) :: starEach es X.env := by rfl) (hst : (backTo pos (starEach es X.env)).any (·.1) = true := by rfl) :
    PE X (.Call (.Name x p) (e :: es) [] pos) (liftE X.K (qCall sp qa)) := pe_imp (StX.pe_callS2 F hr hk hg hm pass0 ha hd he hst) lift_call
/-- the items of a list or a tuple -/
def itemsQ (d : D) (m : Mem) (R : List D → Prop) : Prop := match d with
  | .tup ds => R ds
  | .lst ds => R ds
  | .ref a => ∃ ds, m a = some (.lst ds) ∧ R ds
  | _ => False
theorem items_lift {K : PySem.W.Frag} {d : D} {v : V} {m : Mem} {G H : Hp} {R : List D → Prop} (rm : RelM K m G H) (rv : RV K G d v) (h : itemsQ d m R) : ∃ a ds xs, v = .ref a ∧ (SqT K H a xs ∨ SqL K H a xs) ∧ RVs K G ds xs ∧ R ds := by
  cases d with
  | tup ds => obtain ⟨a, xs, rfl, h1, h2⟩ := rv; exact ⟨a, ds, xs, rfl, .inl (rm.sub.t h1), h2, h⟩
  | lst ds => obtain ⟨a, xs, rfl, h1, h2⟩ := rv; exact ⟨a, ds, xs, rfl, .inr (rm.sub.l h1), h2, h⟩
  | ref a =>
    obtain rfl : v = .ref a := rv
    obtain ⟨ds, hm, h⟩ := h
    obtain ⟨_, u, hu, xs, rfl, h2⟩ := rm.mem a _ hm
    exact ⟨a, ds, xs, rfl, .inr (.inl (.inl hu)), h2, h⟩
  | _ => exact h.elim
/-- f(*y) -/
def qCallS1 (sp : LSp) (qe : QE) : QE := fun s m Φ => qe s m fun d m1 => itemsQ d m1 fun ds => sp ds m1 Φ
theorem de_callS1 {sp : LSp} {qe : QE} {sp_ : Pos} (F : FnD X.prog X.w X.K X.mg X.base k f sp) (hr : Room k X.A) (hk : PySem.W.keepIn X.K (.ref f) = true) (hg : Gl X x) (hm : X.mg x = some (.ref f)) (he : PE X e (liftE X.K qe)) (hd : (x == ("__debug__" : Str)) = false := by decide)
    (hst : starEach [.Starred e sp_] X.env = [(true, eval e X.env)] := by rfl) :
    PE X (.Call (.Name x p) [.Starred e sp_] [] pos) (liftE X.K (qCallS1 sp qe)) :=
  pe_imp (StX.pe_callS1 F hr hk hg hm pass0 he hd hst) fun σ H Q ⟨G, s, m, Φ, rm, rs, q, k⟩ => ⟨G, s, m, _, rm, rs, q, fun G1 d m1 v H1 e1 r1 rd q1 => by
    obtain ⟨a, ds, xs, rfl, h1, h2, h3⟩ := items_lift r1 rd q1
    exact ⟨a, xs, rfl, h1, G1, m1, ds, Φ, r1, h2, h3, k.mono e1⟩⟩
def qStar (qe : QE) (qr : QA) : QA := fun s m Φ => qe s m fun d m1 => itemsQ d m1 fun ds => qr s m1 fun es m2 => Φ (ds ++ es) m2
theorem da_star {qe : QE} {qa : QA} (he : PE X e (liftE X.K qe)) (hr : PA X es (liftA X.K qa)) (hs : starEach (.Starred e p :: es) X.env = (true, eval e X.env) :: starEach es X.env := by rfl) : PA X (.Starred e p :: es) (liftA X.K (qStar qe qa)) :=
  pa_imp (StX.pa_star he hr hs) fun σ H Q ⟨G, s, m, Φ, rm, rs, q, k⟩ => ⟨G, s, m, _, rm, rs, q, fun G1 d m1 v H1 e1 r1 rd q1 => by
    obtain ⟨a, ds, xs, rfl, h1, h2, h3⟩ := items_lift r1 rd q1
    exact ⟨a, xs, rfl, h1, G1, s, m1, _, r1, rs.mono e1, h3, fun G2 es m2 vs H2 e2 r2 re q2 => k G2 _ m2 _ H2 (e1.trans e2) r2 (RVs.append (RVs.mono e2 _ h2) re) q2⟩⟩
end
/-- a def keeps its promise: its body, from the parameters' data -/
def begin_ (n : Nat) (ds : List D) : DSt := ds.map some ++ List.replicate (n - ds.length) none
theorem relS_start {K : PySem.W.Frag} {G : Hp} {N : List Str} : ∀ {ds : List D} {vs : List V}, RVs K G ds vs → RelS K (begin_ N.length ds) G (L2.start N vs) := fun {ds vs} r => by
  have hl := r.length
  refine ⟨by simp [begin_, L2.start, hl], fun i d h => ?_⟩
  unfold begin_ at h
  unfold L2.start
  by_cases hi : i < ds.length
  · rw [List.getElem?_append_left (by simpa using hi), List.getElem?_map] at h
    cases e : ds[i]? with
    | none => rw [e] at h; cases h
    | some d' =>
      rw [e] at h
      have h : d' = d := Option.some.inj (Option.some.inj h)
      subst h
      obtain ⟨v, h1, h2⟩ := r.get e
      exact ⟨v, by rw [List.getElem?_append_left (by rw [List.length_map, ← hl]; exact hi), List.getElem?_map, h1]; rfl, h2⟩
  · rw [List.getElem?_append_right (by simpa using hi)] at h
    rw [List.getElem?_replicate] at h
    split at h <;> cases h
def bodyE (Φ : DK) : DE := { nx := fun _ m => Φ .non m, rt := Φ, bk := fun _ _ => False, ct := fun _ _ => False }
theorem body_lift {K : PySem.W.Frag} {sp : LSp} {qb : QS} {N : List Str} (h : ∀ ds m Φ, sp ds m Φ → qb (bodyE Φ) (begin_ N.length ds) m) {vs : List V} {H : Hp} {Q : VK} {E : XK} (hs : liftSp K sp vs H Q E) :
    liftS K qb { nx := fun _ H' => Q .non H', rt := Q } (L2.start N vs) H := by
  obtain ⟨G, m, ds, Φ, rm, rd, q, k⟩ := hs
  refine ⟨G, begin_ N.length ds, m, bodyE Φ, rm, relS_start rd, h ds m Φ q, ?_, k, fun _ _ _ _ _ _ _ _ z => z.elim, fun _ _ _ _ _ _ _ _ z => z.elim⟩
  exact fun G' s' m' σ' H' e1 r1 _ q1 => k G' .non m' .non H' e1 r1 rfl q1
section
variable {P : Program} {w : World} {K : PySem.W.Frag} {mg : Str → Option Value} {base : Heap}
/-- THE RULE for a def: its body's derivation, once for every entry; what it reckons, over data -/
theorem fnd_of {x qual : Str} {st : Stmt} {f : Addr} {fd : FuncData} {N ps : List Str} {k : Nat} {sp : LSp} {qb : QS} (F : Fun K x qual st f fd) (S : FnScope N ps (defScope st)) (hb : Binds K fd ps []) (len : ∀ ds m Φ, sp ds m Φ → ds.length = ps.length)
    (hd : ∀ X : Cx, X.prog = P → X.w = w → X.K = K → X.mg = mg → X.base = base → X.N = N → X.env.scope = defScope st → X.calm = true → X.fn = (fun _ => true) → X.xe = (fun _ _ => False) → Room k X.A → PSs X (defBody st) (liftS K qb))
    (h : ∀ ds m Φ, sp ds m Φ → qb (bodyE Φ) (begin_ N.length ds) m) : FnD P w K mg base (k + 1) f sp := by
  have F1 : FnOk P w K mg base CX0 (k + 1) f fd ps (liftSp K sp) := by
    refine F.ok S (fun vs H Q E hs => ?_) (fun cdv A outer s H vs Q E hr hs => ⟨liftS K qb, ?_, body_lift h hs⟩)
    · obtain ⟨G, m, ds, Φ, rm, rd, q, k⟩ := hs
      rw [← rd.length]; exact len ds m Φ q
    · exact hd _ rfl rfl rfl rfl rfl rfl rfl rfl rfl rfl hr
  intro A outer s H us vs Q E hr e0 r hs
  have hl : vs.length = ps.length := F1.len vs H Q E hs
  exact F1.run A outer s H ⟨us, []⟩ us vs Q E hr e0 (by
    have := hb s us (e0.mod.kin.keeps fun b o z => (e0.bs b o z).1) (by rw [List.append_nil, ← r.length]; exact hl)
    rwa [List.append_nil] at this) r hs
end
end L3
namespace L3
open PySem L2
/-! ### ints -/
def qI0 (g : Int → Int → D) : D → D → Mem → DK → Prop := fun x y m Φ => match x, y with | .int i, .int j => Φ (g i j) m | _, _ => False
def qIC (C : Int → Int → Prop) (g : Int → Int → D) : D → D → Mem → DK → Prop := fun x y m Φ => match x, y with | .int i, .int j => C i j ∧ Φ (g i j) m | _, _ => False
section
variable {X : Cx}
theorem do_I0 {f : Value → Value → Sem Value} {g : Int → Int → V} (g' : Int → Int → D) (h : OpR X f (rI0 g)) (r : ∀ G i j, RV X.K G (g' i j) (g i j)) : OpR X f (liftR X.K (qI0 g')) := op_imp h fun x y H Q ⟨G, m, dx, dy, Φ, rm, rx, ry, q, k⟩ => by
  cases dx with
  | int i => cases dy with
    | int j => exact ⟨i, j, rx, ry, k G _ m _ H (Sub.refl G) rm (r G i j) q⟩
    | _ => exact q.elim
  | _ => exact q.elim
theorem do_IC {f : Value → Value → Sem Value} {C : Int → Int → Prop} {g : Int → Int → V} (g' : Int → Int → D) (h : OpR X f (rI C g)) (r : ∀ G i j, RV X.K G (g' i j) (g i j)) : OpR X f (liftR X.K (qIC C g')) := op_imp h fun x y H Q ⟨G, m, dx, dy, Φ, rm, rx, ry, q, k⟩ => by
  cases dx with
  | int i => cases dy with
    | int j => exact ⟨i, j, rx, ry, q.1, k G _ m _ H (Sub.refl G) rm (r G i j) q.2⟩
    | _ => exact q.elim
  | _ => exact q.elim
theorem do_sub : OpR X (binaryOp .Sub) (liftR X.K (qI0 fun i j => .int (i - j))) := do_I0 _ op_sub fun _ _ _ => rfl
theorem do_isub : OpR X (inplaceOp .Sub) (liftR X.K (qI0 fun i j => .int (i - j))) := do_I0 _ iop_sub fun _ _ _ => rfl
def CM (i j : Int) : Prop := CMul i j ∨ CMulW i j
theorem do_mul : OpR X (binaryOp .Mult) (liftR X.K (qIC CM fun i j => .int (i * j))) := do_IC _ (C := CM) (g := fun i j => .int (i * j)) (op_imp (OpR.or op_mul op_mulW) fun x y H Q ⟨i, j, h1, h2, c, q⟩ => c.elim (fun c => .inl ⟨i, j, h1, h2, c, q⟩) fun c => .inr ⟨i, j, h1, h2, c, q⟩) fun _ _ _ => rfl
theorem do_fdiv : OpR X (binaryOp .FloorDiv) (liftR X.K (qIC CDivW fun i j => .int (i / j))) := do_IC _ op_fdivW fun _ _ _ => rfl
theorem do_mod : OpR X (binaryOp .Mod) (liftR X.K (qIC (fun _ j => 0 < j) fun i j => .int (i % j))) := do_IC _ op_mod fun _ _ _ => rfl
theorem do_pow : OpR X (binaryOp .Pow) (liftR X.K (qIC CPow fun i j => .int (i ^ j.toNat))) := do_IC _ op_pow fun _ _ _ => rfl
theorem do_shl : OpR X (binaryOp .LShift) (liftR X.K (qIC CPow fun i j => .int (i * 2 ^ j.toNat))) := do_IC _ op_shl fun _ _ _ => rfl
theorem do_lt : OpR X (compareOp .Lt) (liftR X.K (qI0 fun i j => .bl (decide (i < j)))) := do_I0 _ op_lt fun _ _ _ => rfl
theorem do_le : OpR X (compareOp .LtE) (liftR X.K (qI0 fun i j => .bl (decide (i ≤ j)))) := do_I0 _ op_le fun _ _ _ => rfl
theorem do_gt : OpR X (compareOp .Gt) (liftR X.K (qI0 fun i j => .bl (decide (j < i)))) := do_I0 _ op_gt fun _ _ _ => rfl
theorem do_ge : OpR X (compareOp .GtE) (liftR X.K (qI0 fun i j => .bl (decide (j ≤ i)))) := do_I0 _ op_ge fun _ _ _ => rfl
/-- +: ints, texts, lists (a new list that may change) -/
def qAdd : D → D → Mem → DK → Prop := fun x y m Φ => match x, y with
  | .int i, .int j => Φ (.int (i + j)) m
  | .str i, .str j => i.length + j.length ≤ sizeLine ∧ Φ (.str (i ++ j)) m
  | .ref a, .ref b => ∃ xs ys, m a = some (.lst xs) ∧ m b = some (.lst ys) ∧ xs.length + ys.length ≤ sizeLine ∧ ∀ p, m p = none → Φ (.ref p) (mset m p (.lst (xs ++ ys)))
  | _, _ => False
theorem add_lift {f : Value → Value → Sem Value} (h1 : OpR X f (rI0 fun i j => .int (i + j))) (h2 : OpR X f (fun x y H Q => ∃ i j, x = .str i ∧ y = .str j ∧ i.length + j.length ≤ sizeLine ∧ Q (.str (i ++ j)) H)) (h3 : OpR X f rCat) :
    OpR X f (liftR X.K qAdd) := op_imp (OpR.or h1 (OpR.or h2 h3)) fun x y H Q ⟨G, m, dx, dy, Φ, rm, rx, ry, q, k⟩ => by
  cases dx with
  | int i => cases dy with
    | int j => exact .inl ⟨i, j, rx, ry, k G (.int _) m _ H (Sub.refl G) rm rfl q⟩
    | _ => exact q.elim
  | str i => cases dy with
    | str j => exact .inr (.inl ⟨i, j, rx, ry, q.1, k G (.str _) m _ H (Sub.refl G) rm rfl q.2⟩)
    | _ => exact q.elim
  | ref a => cases dy with
    | ref b =>
      obtain ⟨xs, ys, hx, hy, hl, q⟩ := q
      obtain ⟨_, u, hu, vs, rfl, r1⟩ := rm.mem a _ hx
      obtain ⟨_, u', hu', ws, rfl, r2⟩ := rm.mem b _ hy
      exact .inr (.inr ⟨a, b, vs, ws, rx, ry, hu, hu', by rw [← r1.length, ← r2.length]; exact hl, lift_lstM rm (r1.append r2) q k⟩)
    | _ => exact q.elim
  | _ => exact q.elim
theorem do_add : OpR X (binaryOp .Add) (liftR X.K qAdd) := add_lift op_add op_add_str op_cat
def qIAdd : D → D → Mem → DK → Prop := fun x y m Φ => match x, y with
  | .int i, .int j => Φ (.int (i + j)) m
  | .str i, .str j => i.length + j.length ≤ sizeLine ∧ Φ (.str (i ++ j)) m
  | _, _ => False
theorem do_iadd : OpR X (inplaceOp .Add) (liftR X.K qIAdd) := op_imp (OpR.or iop_add iop_add_str) fun x y H Q ⟨G, m, dx, dy, Φ, rm, rx, ry, q, k⟩ => by
  cases dx with
  | int i => cases dy with
    | int j => exact .inl ⟨i, j, rx, ry, k G (.int _) m _ H (Sub.refl G) rm rfl q⟩
    | _ => exact q.elim
  | str i => cases dy with
    | str j => exact .inr ⟨i, j, rx, ry, q.1, k G (.str _) m _ H (Sub.refl G) rm rfl q.2⟩
    | _ => exact q.elim
  | _ => exact q.elim
/-- -e -/
def qNeg (qa : QE) : QE := fun s m Φ => qa s m fun x m1 => match x with | .int i => Φ (.int (-i)) m1 | _ => False
theorem de_neg {a : Expr} {qa : QE} {pos : Pos} (ha : PE X a (liftE X.K qa)) : PE X (.UnaryOp .USub a pos) (liftE X.K (qNeg qa)) := pe_imp (pe_un un_neg ha) fun σ H Q ⟨G, s, m, Φ, rm, rs, q, k⟩ => ⟨G, s, m, _, rm, rs, q, fun G1 x m1 v H1 e1 r1 rx q1 => by
  cases x with
  | int i => exact ⟨i, rx, k G1 (.int (-i)) m1 _ H1 e1 r1 rfl q1⟩
  | _ => exact q1.elim⟩
end
/-! ### data as a whole -/
mutual
def toPy : D → Option PyData
  | .non => some .none
  | .bl b => some (.bool b)
  | .int i => some (.int i)
  | .str x => some (.str x)
  | .tup ds => (toPys ds).map .tuple
  | .lst ds => (toPys ds).map .list
  | .ref _ => none
def toPys : List D → Option (List PyData)
  | [] => some []
  | d :: ds => match toPy d, toPys ds with
    | some p, some ps => some (p :: ps)
    | _, _ => none
end
section
variable {K : PySem.W.Frag} {G H : Hp}
mutual
theorem RV.dp (e : Sub G H) : ∀ (d : D) {v : V} {p : PyData}, RV K G d v → toPy d = some p → Dp K H v p
  | .non, v, p, h, t => by
    obtain rfl : v = .non := h
    obtain rfl : PyData.none = p := Option.some.inj t
    exact .non
  | .bl b, v, p, h, t => by
    obtain rfl : v = .bl b := h
    obtain rfl : PyData.bool b = p := Option.some.inj t
    exact .bl b
  | .int b, v, p, h, t => by
    obtain rfl : v = .int b := h
    obtain rfl : PyData.int b = p := Option.some.inj t
    exact .int b
  | .str b, v, p, h, t => by
    obtain rfl : v = .str b := h
    obtain rfl : PyData.str b = p := Option.some.inj t
    exact .str b
  | .ref _, v, p, h, t => by cases t
  | .tup ds, v, p, ⟨a, xs, h1, h2, h3⟩, t => by
    subst h1
    rw [toPy] at t
    cases e1 : toPys ds with
    | none => rw [e1] at t; cases t
    | some ps =>
      rw [e1] at t
      obtain rfl : PyData.tuple ps = p := Option.some.inj t
      exact .tup (e.t h2) (RVs.dp e ds h3 e1)
  | .lst ds, v, p, ⟨a, xs, h1, h2, h3⟩, t => by
    subst h1
    rw [toPy] at t
    cases e1 : toPys ds with
    | none => rw [e1] at t; cases t
    | some ps =>
      rw [e1] at t
      obtain rfl : PyData.list ps = p := Option.some.inj t
      exact .lst (e.l h2) (RVs.dp e ds h3 e1)
theorem RVs.dp (e : Sub G H) : ∀ (ds : List D) {vs : List V} {ps : List PyData}, RVs K G ds vs → toPys ds = some ps → DpAll K H vs ps
  | [], vs, ps, h, t => by
    rw [show vs = [] from h]
    obtain rfl : [] = ps := Option.some.inj t
    exact .nil
  | d :: ds, vs, ps, ⟨x, r, h1, h2, h3⟩, t => by
    subst h1
    rw [toPys] at t
    cases e1 : toPy d with
    | none => rw [e1] at t; cases t
    | some p =>
      cases e2 : toPys ds with
      | none => rw [e1, e2] at t; cases t
      | some qs =>
        rw [e1, e2] at t
        obtain rfl : p :: qs = ps := Option.some.inj t
        exact .cons (RV.dp e d h2 e1) (RVs.dp e ds h3 e2)
end
/-- the data at d, a changing list's items read off the memory -/
def pyOf (m : Mem) (d : D) (p : PyData) : Prop := toPy d = some p ∨ ∃ a ds ps, d = .ref a ∧ m a = some (.lst ds) ∧ toPys ds = some ps ∧ p = .list ps
theorem py_lift {m : Mem} {d : D} {v : V} {p : PyData} (rm : RelM K m G H) (rv : RV K G d v) (h : pyOf m d p) : Dp K H v p := by
  rcases h with h | ⟨a, ds, ps, rfl, hm, h, rfl⟩
  · exact RV.dp rm.sub d rv h
  · obtain rfl : v = .ref a := rv
    obtain ⟨_, u, hu, xs, rfl, h2⟩ := rm.mem a _ hm
    exact .lst (.inl (.inl hu)) (RVs.dp rm.sub ds h2 h)
end
def qEq : D → D → Mem → DK → Prop := fun x y m Φ => ∃ p q, pyOf m x p ∧ pyOf m y q ∧ SeqAt.shaped p = true ∧ SeqAt.shaped q = true ∧ Φ (.bl (PyData.eqv p q)) m
def qNe : D → D → Mem → DK → Prop := fun x y m Φ => ∃ p q, pyOf m x p ∧ pyOf m y q ∧ SeqAt.shaped p = true ∧ SeqAt.shaped q = true ∧ Φ (.bl (!PyData.eqv p q)) m
/-- x in a list (or a tuple of flat items) -/
def qIn : D → D → Mem → DK → Prop := fun x y m Φ => ∃ p qs, toPy x = some p ∧ pyOf m y (.list qs) ∧ SeqAt.shaped p = true ∧ SeqAt.shaped (.list qs) = true ∧ Φ (.bl (qs.any fun z => PyData.eqv z p)) m
def qNotIn : D → D → Mem → DK → Prop := fun x y m Φ => ∃ p qs, toPy x = some p ∧ pyOf m y (.list qs) ∧ SeqAt.shaped p = true ∧ SeqAt.shaped (.list qs) = true ∧ Φ (.bl (!(qs.any fun z => PyData.eqv z p))) m
/-- is None -/
def isNonD : D → Bool | .non => true | _ => false
def qIsN : D → D → Mem → DK → Prop := fun x y m Φ => match y with | .non => Φ (.bl (isNonD x)) m | _ => False
def qNotN : D → D → Mem → DK → Prop := fun x y m Φ => match y with | .non => Φ (.bl (!isNonD x)) m | _ => False
theorem RV.isNon {K : PySem.W.Frag} {G : Hp} {d : D} {v : V} (h : RV K G d v) : decide (v = .non) = isNonD d := by
  cases d with
  | non => obtain rfl : v = .non := h; rfl
  | tup ds => obtain ⟨a, xs, rfl, _⟩ := h; rfl
  | lst ds => obtain ⟨a, xs, rfl, _⟩ := h; rfl
  | bl b => obtain rfl : v = .bl b := h; rfl
  | int b => obtain rfl : v = .int b := h; rfl
  | str b => obtain rfl : v = .str b := h; rfl
  | ref b => obtain rfl : v = .ref b := h; rfl
section
variable {X : Cx}
theorem do_eq (hu : X.A.units + 64 < cLine) : OpR X (compareOp .Eq) (liftR X.K qEq) := op_imp (op_eqD hu) fun x y H Q ⟨G, m, dx, dy, Φ, rm, rx, ry, ⟨p, q, h1, h2, s1, s2, h⟩, k⟩ =>
  ⟨p, q, py_lift rm rx h1, py_lift rm ry h2, s1, s2, k G (.bl _) m _ H (Sub.refl G) rm rfl h⟩
theorem do_ne (hu : X.A.units + 64 < cLine) : OpR X (compareOp .NotEq) (liftR X.K qNe) := op_imp (op_neD hu) fun x y H Q ⟨G, m, dx, dy, Φ, rm, rx, ry, ⟨p, q, h1, h2, s1, s2, h⟩, k⟩ =>
  ⟨p, q, py_lift rm rx h1, py_lift rm ry h2, s1, s2, k G (.bl _) m _ H (Sub.refl G) rm rfl h⟩
theorem do_in (hu : X.A.units + 65 < cLine) : OpR X (compareOp .In) (liftR X.K qIn) := op_imp (op_inD hu) fun x y H Q ⟨G, m, dx, dy, Φ, rm, rx, ry, ⟨p, q, h1, h2, s1, s2, h⟩, k⟩ =>
  ⟨p, q, RV.dp rm.sub dx rx h1, py_lift rm ry h2, s1, s2, k G (.bl _) m _ H (Sub.refl G) rm rfl h⟩
theorem do_notIn (hu : X.A.units + 65 < cLine) : OpR X (compareOp .NotIn) (liftR X.K qNotIn) := op_imp (op_notInD hu) fun x y H Q ⟨G, m, dx, dy, Φ, rm, rx, ry, ⟨p, q, h1, h2, s1, s2, h⟩, k⟩ =>
  ⟨p, q, RV.dp rm.sub dx rx h1, py_lift rm ry h2, s1, s2, k G (.bl _) m _ H (Sub.refl G) rm rfl h⟩
theorem do_isN : OpR X (compareOp .Is) (liftR X.K qIsN) := op_imp op_isN fun x y H Q ⟨G, m, dx, dy, Φ, rm, rx, ry, h, k⟩ => by
  cases dy with
  | non => exact ⟨ry, by rw [rx.isNon]; exact k G (.bl _) m _ H (Sub.refl G) rm rfl h⟩
  | _ => exact h.elim
theorem do_notN : OpR X (compareOp .IsNot) (liftR X.K qNotN) := op_imp op_notN fun x y H Q ⟨G, m, dx, dy, Φ, rm, rx, ry, h, k⟩ => by
  cases dy with
  | non => exact ⟨ry, by rw [rx.isNon]; exact k G (.bl _) m _ H (Sub.refl G) rm rfl h⟩
  | _ => exact h.elim
end
/-! ### subscripts -/
/-- xs[i] of a list, a tuple, a text -/
def qIx : D → D → Mem → DK → Prop := fun x y m Φ => match x, y with
  | .tup ds, .int i => ∃ d, atI ds i = some d ∧ Φ d m
  | .lst ds, .int i => ∃ d, atI ds i = some d ∧ Φ d m
  | .ref a, .int i => ∃ ds d, m a = some (.lst ds) ∧ atI ds i = some d ∧ Φ d m
  | .str z, .int i => ∃ c, z.length ≤ sizeLine ∧ atI z.cps.toList i = some c ∧ Φ (.str ⟨#[c]⟩) m
  | _, _ => False
theorem RVs.atI {K : PySem.W.Frag} {G : Hp} {ds : List D} {xs : List V} {i : Int} {d : D} (r : RVs K G ds xs) (h : L2.atI ds i = some d) : ∃ v, L2.atI xs i = some v ∧ RV K G d v := by
  unfold L2.atI at h ⊢
  rw [← r.length]
  cases e : ixN ds.length i with
  | none => rw [e] at h; cases h
  | some j =>
    rw [e] at h
    obtain ⟨v, h1, h2⟩ := r.get (i := j) (d := d) h
    exact ⟨v, h1, h2⟩
section
variable {X : Cx} {a b : Expr} {qa qb : QE} {pos : Pos}
theorem ix_lift {K : PySem.W.Frag} {x y : V} {H : Hp} {Q : VK} (h : liftR K qIx x y H Q) : rIx K x y H Q := by
  obtain ⟨G, m, dx, dy, Φ, rm, rx, ry, q, k⟩ := h
  cases dx with
  | tup ds => cases dy with
    | int i =>
      obtain ⟨d, h1, h2⟩ := q
      obtain ⟨p, xs, rfl, e1, e2⟩ := rx
      obtain ⟨v, e3, e4⟩ := e2.atI h1
      exact .inr (.inl ⟨p, xs, i, v, rfl, ry, rm.sub.t e1, e3, k G d m v H (Sub.refl G) rm e4 h2⟩)
    | _ => exact q.elim
  | lst ds => cases dy with
    | int i =>
      obtain ⟨d, h1, h2⟩ := q
      obtain ⟨p, xs, rfl, e1, e2⟩ := rx
      obtain ⟨v, e3, e4⟩ := e2.atI h1
      exact .inl ⟨p, xs, i, v, rfl, ry, rm.sub.l e1, e3, k G d m v H (Sub.refl G) rm e4 h2⟩
    | _ => exact q.elim
  | ref p => cases dy with
    | int i =>
      obtain ⟨ds, d, hm, h1, h2⟩ := q
      obtain rfl : x = .ref p := rx
      obtain ⟨_, u, hu, xs, rfl, e2⟩ := rm.mem p _ hm
      obtain ⟨v, e3, e4⟩ := e2.atI h1
      exact .inl ⟨p, xs, i, v, rfl, ry, .inl (.inl hu), e3, k G d m v H (Sub.refl G) rm e4 h2⟩
    | _ => exact q.elim
  | str z => cases dy with
    | int i =>
      obtain ⟨c, h0, h1, h2⟩ := q
      exact .inr (.inr ⟨z, i, c, rx, ry, h0, h1, k G (.str _) m _ H (Sub.refl G) rm rfl h2⟩)
    | _ => exact q.elim
  | _ => exact q.elim
theorem de_ix (ha : PE X a (liftE X.K qa)) (hb : PE X b (liftE X.K qb)) (hs : PlainIx b := by exact fun _ _ => rfl) : PE X (.Subscript a b pos) (liftE X.K (qOp qIx qa qb)) :=
  pe_imp (pe_ix (ix_imp ix_seq fun x y H Q h => ix_lift (K := X.K) h) ha hb hs) lift_op
/-- a key -/
def keyD : D → Option Key
  | .int i => some (.inl i)
  | .str x => some (.inr x)
  | _ => none
def keysD : List D → Option (List Key)
  | [] => some []
  | d :: ds => match keyD d, keysD ds with
    | some k, some ks => some (k :: ks)
    | _, _ => none
theorem RV.key {K : PySem.W.Frag} {G : Hp} {d : D} {v : V} {k : Key} (r : RV K G d v) (h : keyD d = some k) : v = kV k := by
  cases d <;> first | (cases h; exact r) | cases h
theorem RVs.keys {K : PySem.W.Frag} {G : Hp} : ∀ {ds : List D} {vs : List V} {ks : List Key}, RVs K G ds vs → keysD ds = some ks → vs = ks.map kV
  | [], vs, ks, r, h => by
    obtain rfl : [] = ks := Option.some.inj h
    exact r
  | d :: ds, vs, ks, ⟨x, q, h1, h2, h3⟩, h => by
    subst h1
    rw [keysD] at h
    cases e1 : keyD d with
    | none => rw [e1] at h; cases h
    | some k =>
      cases e2 : keysD ds with
      | none => rw [e1, e2] at h; cases h
      | some js =>
        rw [e1, e2] at h
        obtain rfl : k :: js = ks := Option.some.inj h
        rw [h2.key e1, RVs.keys h3 e2]; rfl
/-- what a dict at a holds at y -/
def dGet (m : Mem) (a : Addr) (y : D) (o : Option D) : Prop := ∃ ks k, (m a = some (.dK ks) ∨ m a = some (.fz ks)) ∧ keyD y = some k ∧ o = valD ks k
theorem dget_lift {K : PySem.W.Frag} {G H : Hp} {m : Mem} {a : Addr} {y : D} {v : V} {o : Option D} (rm : RelM K m G H) (ry : RV K G y v) (g : dGet m a y o) : ∃ o', DGet H a v o' ∧ RVo K G o o' := by
  obtain ⟨ks, k, hm, hk, rfl⟩ := g
  have ev := ry.key hk
  rcases hm with hm | hm
  · obtain ⟨_, u, hu, xs, rfl, r⟩ := rm.mem a _ hm
    exact ⟨valV xs k, .inl ⟨xs, k, .inl hu, ev, rfl⟩, r.val k⟩
  · obtain ⟨_, u, hu, ob, xs, rfl, r⟩ := rm.mem a _ hm
    exact ⟨valV xs k, .inl ⟨xs, k, .inr ⟨ob, hu⟩, ev, rfl⟩, r.val k⟩
/-- d[y] -/
def qDGet (qd qy : QE) : QE := fun s m Φ => qd s m fun x m1 => qy s m1 fun y m2 => match x with
  | .ref a => ∃ d, dGet m2 a y (some d) ∧ Φ d m2
  | _ => False
theorem de_dget (hu : X.A.units + 1 < cLine) (ho : PE X a (liftE X.K qa)) (hi : PE X b (liftE X.K qb)) (hs : NoSl b := by exact fun _ _ => rfl) : PE X (.Subscript a b pos) (liftE X.K (qDGet qa qb)) :=
  pe_imp (pe_dget hu ho hi hs) fun σ H Q ⟨G, s, m, Φ, rm, rs, q, k⟩ => ⟨G, s, m, _, rm, rs, q, fun G1 x m1 v H1 e1 r1 rx q1 => ⟨G1, s, m1, _, r1, rs.mono e1, q1, fun G2 y m2 u H2 e2 r2 ry q2 => by
    cases x with
    | ref p =>
      obtain rfl : v = .ref p := rx
      obtain ⟨d, g, q2⟩ := q2
      obtain ⟨o', g', ro⟩ := dget_lift r2 ry g
      obtain ⟨w, rfl, rw'⟩ := ro.some
      exact ⟨p, w, rfl, g', k G2 d m2 w H2 (e1.trans e2) r2 rw' q2⟩
    | _ => exact q2.elim⟩⟩
/-- y in d -/
def qDIn (neg : Bool) (qy qd : QE) : QE := fun s m Φ => qy s m fun y m1 => qd s m1 fun x m2 => match x with
  | .ref a => ∃ o, dGet m2 a y o ∧ Φ (.bl (if neg then !o.isSome else o.isSome)) m2
  | _ => False
theorem lift_din {K : PySem.W.Frag} : ∀ σ H Q, liftE K (qDIn false qa qb) σ H Q → tDIn (liftE K qa) (liftE K qb) σ H Q := fun σ H Q ⟨G, s, m, Φ, rm, rs, q, k⟩ => ⟨G, s, m, _, rm, rs, q, fun G1 y m1 v H1 e1 r1 ry q1 => ⟨G1, s, m1, _, r1, rs.mono e1, q1, fun G2 x m2 u H2 e2 r2 rx q2 => by
    cases x with
    | ref p =>
      obtain rfl : u = .ref p := rx
      obtain ⟨o, g, q2⟩ := q2
      obtain ⟨o', g', ro⟩ := dget_lift r2 (RV.mono e2 y ry) g
      exact ⟨p, o', rfl, g', by rw [← ro.isSome]; exact k G2 (.bl _) m2 _ H2 (e1.trans e2) r2 rfl q2⟩
    | _ => exact q2.elim⟩⟩
theorem lift_dnotin {K : PySem.W.Frag} : ∀ σ H Q, liftE K (qDIn true qa qb) σ H Q → tDNotIn (liftE K qa) (liftE K qb) σ H Q := fun σ H Q ⟨G, s, m, Φ, rm, rs, q, k⟩ => ⟨G, s, m, _, rm, rs, q, fun G1 y m1 v H1 e1 r1 ry q1 => ⟨G1, s, m1, _, r1, rs.mono e1, q1, fun G2 x m2 u H2 e2 r2 rx q2 => by
    cases x with
    | ref p =>
      obtain rfl : u = .ref p := rx
      obtain ⟨o, g, q2⟩ := q2
      obtain ⟨o', g', ro⟩ := dget_lift r2 (RV.mono e2 y ry) g
      exact ⟨p, o', rfl, g', by rw [← ro.isSome]; exact k G2 (.bl _) m2 _ H2 (e1.trans e2) r2 rfl q2⟩
    | _ => exact q2.elim⟩⟩
theorem dc_din (hu : X.A.units + 1 < cLine) (ha : PE X a (liftE X.K qa)) (hb : PE X b (liftE X.K qb)) : PC X .In a b (liftE X.K (qDIn false qa qb)) := ⟨fun pins s σ H Q I w => (pc_din hu ha hb).run pins s σ H Q I (lift_din σ H Q w)⟩
theorem dc_dnotin (hu : X.A.units + 1 < cLine) (ha : PE X a (liftE X.K qa)) (hb : PE X b (liftE X.K qb)) : PC X .NotIn a b (liftE X.K (qDIn true qa qb)) := ⟨fun pins s σ H Q I w => (pc_dnotin hu ha hb).run pins s σ H Q I (lift_dnotin σ H Q w)⟩
theorem dt_pc {op : CmpOp} (h : PC X op a b (liftE X.K qa)) (h1 : behindInMarks op b = false := by first | exact nobehind _ (by decide) (by decide) | rfl) : PT X (.Compare a [op] [b] pos) (liftT X.K (qB qa)) := pt_imp (pt_cmp h h1) lift_B
theorem de_pc {op : CmpOp} (h : PC X op a b (liftE X.K qa)) (h1 : behindInMarks op b = false := by first | exact nobehind _ (by decide) (by decide) | rfl) : PE X (.Compare a [op] [b] pos) (liftE X.K qa) := pe_cmp h h1
theorem isD_lift {K : PySem.W.Frag} {G H : Hp} {m : Mem} {a : Addr} (rm : RelM K m G H) (h : ∃ ks, m a = some (.dK ks) ∨ m a = some (.fz ks)) : IsD H a := by
  obtain ⟨ks, hm | hm⟩ := h
  · obtain ⟨_, u, hu, xs, rfl, r⟩ := rm.mem a _ hm
    exact .inl ⟨xs, .inl hu⟩
  · obtain ⟨_, u, hu, ob, xs, rfl, r⟩ := rm.mem a _ hm
    exact .inl ⟨xs, .inr ⟨ob, hu⟩⟩
/-- d.get(y), d.get(y, z) -/
def qDGet1 (qd qy : QE) : QE := fun s m Φ => qd s m fun x m1 => match x with
  | .ref a => (∃ ks, m1 a = some (.dK ks) ∨ m1 a = some (.fz ks)) ∧ qy s m1 fun y m2 => ∃ o, dGet m2 a y o ∧ Φ (o.getD .non) m2
  | _ => False
theorem de_dget1 {apos cpos : Pos} (hu : X.A.units + 1 < cLine) (ho : PE X a (liftE X.K qa)) (he : PE X b (liftE X.K qb)) (m : M1 X a "get" apos b cpos := by exact ⟨rfl, rfl, rfl, rfl⟩) : PE X (.Call (.Attribute a "get" apos) [b] [] cpos) (liftE X.K (qDGet1 qa qb)) :=
  pe_imp (pe_dget1 hu ho he m) fun σ H Q ⟨G, s, m, Φ, rm, rs, q, k⟩ => ⟨G, s, m, _, rm, rs, q, fun G1 x m1 v H1 e1 r1 rx q1 => by
    cases x with
    | ref p =>
      obtain rfl : v = .ref p := rx
      obtain ⟨hd, q1⟩ := q1
      exact ⟨p, rfl, isD_lift r1 hd, G1, s, m1, _, r1, rs.mono e1, q1, fun G2 y m2 u H2 e2 r2 ry ⟨o, g, q2⟩ => by
        obtain ⟨o', g', ro⟩ := dget_lift r2 ry g
        exact ⟨o', g', k G2 _ m2 _ H2 (e1.trans e2) r2 (ro.getD (x := .non) (y := .non) rfl) q2⟩⟩
    | _ => exact q1.elim⟩
def qDGet2 (qd qy qz : QE) : QE := fun s m Φ => qd s m fun x m1 => match x with
  | .ref a => (∃ ks, m1 a = some (.dK ks) ∨ m1 a = some (.fz ks)) ∧ qy s m1 fun y m2 => qz s m2 fun z m3 => ∃ o, dGet m3 a y o ∧ Φ (o.getD z) m3
  | _ => False
theorem de_dget2 {c : Expr} {qc : QE} {apos cpos : Pos} (hu : X.A.units + 1 < cLine) (ho : PE X a (liftE X.K qa)) (he : PE X b (liftE X.K qb)) (hf : PE X c (liftE X.K qc)) (m : M2 X a "get" apos b c cpos := by exact ⟨rfl, rfl, rfl, rfl⟩) : PE X (.Call (.Attribute a "get" apos) [b, c] [] cpos) (liftE X.K (qDGet2 qa qb qc)) :=
  pe_imp (pe_dget2 hu ho he hf m) fun σ H Q ⟨G, s, m, Φ, rm, rs, q, k⟩ => ⟨G, s, m, _, rm, rs, q, fun G1 x m1 v H1 e1 r1 rx q1 => by
    cases x with
    | ref p =>
      obtain rfl : v = .ref p := rx
      obtain ⟨hd, q1⟩ := q1
      exact ⟨p, rfl, isD_lift r1 hd, G1, s, m1, _, r1, rs.mono e1, q1, fun G2 y m2 u H2 e2 r2 ry q2 => ⟨G2, s, m2, _, r2, rs.mono (e1.trans e2), q2, fun G3 z m3 w H3 e3 r3 rz ⟨o, g, q3⟩ => by
        obtain ⟨o', g', ro⟩ := dget_lift r3 (RV.mono e3 y ry) g
        exact ⟨o', g', k G3 _ m3 _ H3 ((e1.trans e2).trans e3) r3 (ro.getD rz) q3⟩⟩⟩
    | _ => exact q1.elim⟩
/-- d.pop(k), there -/
def qDPop1 (qd qy : QE) : QE := fun s m Φ => qd s m fun x m1 => match x with
  | .ref a => (∃ ks, m1 a = some (.dK ks) ∨ m1 a = some (.fz ks)) ∧ qy s m1 fun y m2 => ∃ ks k d, m2 a = some (.dK ks) ∧ keyD y = some k ∧ valD ks k = some d ∧ Φ d (mset m2 a (.dK (dropD ks k)))
  | _ => False
theorem de_dpop1 {apos cpos : Pos} (ho : PE X a (liftE X.K qa)) (he : PE X b (liftE X.K qb)) (m : M1 X a "pop" apos b cpos := by exact ⟨rfl, rfl, rfl, rfl⟩) : PE X (.Call (.Attribute a "pop" apos) [b] [] cpos) (liftE X.K (qDPop1 qa qb)) :=
  pe_imp (pe_dpop1 ho he m) fun σ H Q ⟨G, s, m, Φ, rm, rs, q, k⟩ => ⟨G, s, m, _, rm, rs, q, fun G1 x m1 v H1 e1 r1 rx q1 => by
    cases x with
    | ref p =>
      obtain rfl : v = .ref p := rx
      obtain ⟨hd, q1⟩ := q1
      exact ⟨p, rfl, isD_lift r1 hd, G1, s, m1, _, r1, rs.mono e1, q1, fun G2 y m2 u H2 e2 r2 ry ⟨ks, j, d, hm, hk, hv, q2⟩ => by
        obtain ⟨_, w, hw, xs, rfl, r⟩ := r2.mem p _ hm
        have ro := r.val j
        rw [hv] at ro
        obtain ⟨w', e3, rw'⟩ := ro.some
        exact ⟨xs, j, w', hw, ry.key hk, e3, k G2 d _ w' _ (e1.trans e2) (r2.put (o := .dK (dropD ks j)) hm ⟨_, rfl, r.drop j⟩) rw' q2⟩⟩
    | _ => exact q1.elim⟩
/-! ### slices -/
abbrev QO := DSt → Mem → (Option Int → Mem → Prop) → Prop
def KO (K : PySem.W.Frag) (G : Hp) (Φ : Option Int → Mem → Prop) (Q : Option Int → Hp → Prop) : Prop := ∀ G' o m' H', Sub G G' → RelM K m' G' H' → Φ o m' → Q o H'
def liftO (K : PySem.W.Frag) (q : QO) : TO := fun σ H Q => ∃ G s m Φ, RelM K m G H ∧ RelS K s G σ ∧ q s m Φ ∧ KO K G Φ Q
def qNoPart : QO := fun _ m Φ => Φ none m
def qPart (q : QE) : QO := fun s m Φ => q s m fun x m1 => match x with | .int i => Φ (some i) m1 | _ => False
theorem po_imp {e : Option Expr} {t t' : TO} (h : PO X e t) (i : ∀ σ H Q, t' σ H Q → t σ H Q) : PO X e t' := ⟨fun pins s σ H Q I w => h.run pins s σ H Q I (i σ H Q w)⟩
theorem do_none : PO X none (liftO X.K qNoPart) := po_imp po_none fun σ H Q ⟨G, s, m, Φ, rm, rs, q, k⟩ => k G none m H (Sub.refl G) rm q
theorem do_some {e : Expr} {qe : QE} (h : PE X e (liftE X.K qe)) : PO X (some e) (liftO X.K (qPart qe)) := po_imp (po_some h) fun σ H Q ⟨G, s, m, Φ, rm, rs, q, k⟩ => ⟨G, s, m, _, rm, rs, q, fun G1 x m1 v H1 e1 r1 rx q1 => by
  cases x with
  | int i => exact ⟨i, rx, k G1 (some i) m1 H1 e1 r1 q1⟩
  | _ => exact q1.elim⟩
def cutD (xs : List D) (lo hi : Option Int) : List D := (xs.drop (HT.sIx xs.length 0 lo)).take (HT.sIx xs.length xs.length hi - HT.sIx xs.length 0 lo)
theorem RVs.cut {K : PySem.W.Frag} {G : Hp} {ds : List D} {xs : List V} (r : RVs K G ds xs) (lo hi : Option Int) : RVs K G (cutD ds lo hi) (cutV xs lo hi) := by
  unfold cutD cutV
  rw [r.length]
  exact (r.drop _).take _
/-- xs[lo:hi] of a list: a new list, taken as one that never changes -/
def qSlL (qe : QE) (ql qh : QO) : QE := fun s m Φ => qe s m fun x m1 => ql s m1 fun l m2 => qh s m2 fun u m3 => match x with
  | .lst ds => Φ (.lst (cutD ds l u)) m3
  | .ref a => ∃ ds, m3 a = some (.lst ds) ∧ Φ (.lst (cutD ds l u)) m3
  | _ => False
theorem de_slL {e : Expr} {qe : QE} {ql qh : QO} {lo hi : Option Expr} {p2 : Pos} (he : PE X e (liftE X.K qe)) (hl : PO X lo (liftO X.K ql)) (hu : PO X hi (liftO X.K qh)) : PE X (.Subscript e (.Slice lo hi none p2) pos) (liftE X.K (qSlL qe ql qh)) :=
  pe_imp (pe_slice sl_list he hl hu) fun σ H Q ⟨G, s, m, Φ, rm, rs, q, k⟩ => ⟨G, s, m, _, rm, rs, q, fun G1 x m1 v H1 e1 r1 rx q1 => ⟨G1, s, m1, _, r1, rs.mono e1, q1, fun G2 l m2 H2 e2 r2 q2 => ⟨G2, s, m2, _, r2, rs.mono (e1.trans e2), q2, fun G3 u m3 H3 e3 r3 q3 => by
    cases x with
    | lst ds =>
      obtain ⟨a, xs, rfl, h1, h2⟩ := rx
      exact ⟨a, xs, rfl, r3.sub.l ((e2.trans e3).l h1), lift_lstF r3 (RVs.mono (e2.trans e3) _ (h2.cut l u)) q3 (k.mono ((e1.trans e2).trans e3))⟩
    | ref a =>
      obtain rfl : v = .ref a := rx
      obtain ⟨ds, hm, q3⟩ := q3
      obtain ⟨_, w, hw, xs, rfl, h2⟩ := r3.mem a _ hm
      exact ⟨a, xs, rfl, .inl (.inl hw), lift_lstF r3 (h2.cut l u) q3 (k.mono ((e1.trans e2).trans e3))⟩
    | _ => exact q3.elim⟩⟩⟩
/-- t[lo:hi], not the whole -/
def qSlT (qe : QE) (ql qh : QO) : QE := fun s m Φ => qe s m fun x m1 => ql s m1 fun l m2 => qh s m2 fun u m3 => match x with
  | .tup ds => ¬ (HT.sIx ds.length 0 l = 0 ∧ HT.sIx ds.length ds.length u = ds.length) ∧ Φ (.tup (cutD ds l u)) m3
  | _ => False
theorem de_slT {e : Expr} {qe : QE} {ql qh : QO} {lo hi : Option Expr} {p2 : Pos} (he : PE X e (liftE X.K qe)) (hl : PO X lo (liftO X.K ql)) (hu : PO X hi (liftO X.K qh)) : PE X (.Subscript e (.Slice lo hi none p2) pos) (liftE X.K (qSlT qe ql qh)) :=
  pe_imp (pe_slice sl_tup he hl hu) fun σ H Q ⟨G, s, m, Φ, rm, rs, q, k⟩ => ⟨G, s, m, _, rm, rs, q, fun G1 x m1 v H1 e1 r1 rx q1 => ⟨G1, s, m1, _, r1, rs.mono e1, q1, fun G2 l m2 H2 e2 r2 q2 => ⟨G2, s, m2, _, r2, rs.mono (e1.trans e2), q2, fun G3 u m3 H3 e3 r3 q3 => by
    cases x with
    | tup ds =>
      obtain ⟨a, xs, rfl, h1, h2⟩ := rx
      exact ⟨a, xs, rfl, r3.sub.t ((e2.trans e3).t h1), by rw [← h2.length]; exact q3.1, lift_tup r3 (RVs.mono (e2.trans e3) _ (h2.cut l u)) q3.2 (k.mono ((e1.trans e2).trans e3))⟩
    | _ => exact q3.elim⟩⟩⟩
end
/-! ### calls of built-ins -/
def qCB (r : LSp) (qa : QA) : QE := fun s m Φ => qa s m fun ds m1 => r ds m1 Φ
section
variable {X : Cx} {x : Str} {p pos : Pos} {e : Expr} {es : List Expr} {qa : QA} {id T : String} {r : LSp}
theorem lift_CB {K : PySem.W.Frag} : ∀ σ H Q, liftE K (qCB r qa) σ H Q → tCB (liftC K r) (liftA K qa) σ H Q := fun σ H Q ⟨G, s, m, Φ, rm, rs, q, k⟩ =>
  ⟨G, s, m, _, rm, rs, q, fun G1 ds m1 vs H1 e1 r1 rd q1 => ⟨G1, m1, ds, Φ, r1, rd, q1, k.mono e1⟩⟩
theorem de_callB (hc : CallR X (.builtin id) (liftC X.K r)) (hg : Gl X x) (hm : X.mg x = none) (hv : bootBuiltins x = some (.builtin id)) (ha : PA X (e :: es) (liftA X.K qa)) (hn : x ≠ "__name__" := by decide) (hdb : (x == ("__debug__" : Str)) = false := by decide)
    (he : starEach (e :: es) X.env = (false, eval e X.env) :: starEach es X.env := by rfl) (hpl : (backTo pos (starEach es X.env)).any (·.1) = false := by rfl) : PE X (.Call (.Name x p) (e :: es) [] pos) (liftE X.K (qCB r qa)) := pe_imp (pe_callB hc hg hm hv ha hn hdb he hpl) lift_CB
theorem de_callTy (hc : CallR X (.type T) (liftC X.K r)) (hg : Gl X x) (hm : X.mg x = none) (hv : bootBuiltins x = some (.type T)) (ha : PA X (e :: es) (liftA X.K qa)) (hn : x ≠ "__name__" := by decide) (hdb : (x == ("__debug__" : Str)) = false := by decide)
    (he : starEach (e :: es) X.env = (false, eval e X.env) :: starEach es X.env := by rfl) (hpl : (backTo pos (starEach es X.env)).any (·.1) = false := by rfl) : PE X (.Call (.Name x p) (e :: es) [] pos) (liftE X.K (qCB r qa)) := pe_imp (pe_callTy hc hg hm hv ha hn hdb he hpl) lift_CB
theorem de_callBfun (hc : CallR X (.builtin id) (liftC X.K r)) (hg : Gl X x) (hm : X.mg x = some (.builtin id)) (ha : PA X (e :: es) (liftA X.K qa)) (hdb : (x == ("__debug__" : Str)) = false := by decide)
    (he : starEach (e :: es) X.env = (false, eval e X.env) :: starEach es X.env := by rfl) (hpl : (backTo pos (starEach es X.env)).any (·.1) = false := by rfl) : PE X (.Call (.Name x p) (e :: es) [] pos) (liftE X.K (qCB r qa)) := pe_imp (pe_callBfun hc hg hm ha hdb he hpl) lift_CB
theorem rv1 {K : PySem.W.Frag} {G : Hp} {a : D} {vs : List V} (h : RVs K G [a] vs) : ∃ v, vs = [v] ∧ RV K G a v := by
  obtain ⟨x, r, rfl, h2, h3⟩ := h
  exact ⟨x, by rw [show r = [] from h3], h2⟩
theorem rv2 {K : PySem.W.Frag} {G : Hp} {a b : D} {vs : List V} (h : RVs K G [a, b] vs) : ∃ v u, vs = [v, u] ∧ RV K G a v ∧ RV K G b u := by
  obtain ⟨x, r, rfl, h2, h3⟩ := h
  obtain ⟨u, rfl, h4⟩ := rv1 h3
  exact ⟨x, u, rfl, h2, h4⟩
/-- int(x) of an int -/
def bInt : LSp := fun ds m Φ => match ds with | [.int i] => Φ (.int i) m | [.bl b] => Φ (.int (if b then 1 else 0)) m | _ => False
theorem db_int : CallR X (.type "int") (liftC X.K bInt) := call_imp call_int1 fun vs H Q ⟨G, m, ds, Φ, rm, rd, q, k⟩ => by
  unfold bInt at q
  split at q
  · rename_i i
    obtain ⟨v, rfl, h⟩ := rv1 rd
    obtain rfl : v = .int i := h
    exact .inl ⟨i, rfl, k G (.int i) m _ H (Sub.refl G) rm rfl q⟩
  · rename_i i
    obtain ⟨v, rfl, h⟩ := rv1 rd
    obtain rfl : v = .bl i := h
    exact .inr ⟨i, rfl, k G (.int _) m _ H (Sub.refl G) rm rfl q⟩
  · exact q.elim
/-- len -/
def bLen : LSp := fun ds m Φ => match ds with
  | [.tup xs] => Φ (.int xs.length) m
  | [.lst xs] => Φ (.int xs.length) m
  | [.str z] => z.length ≤ sizeLine ∧ Φ (.int z.length) m
  | [.ref a] => (∃ xs, m a = some (.lst xs) ∧ Φ (.int xs.length) m) ∨ ∃ ks, m a = some (.dK ks) ∧ Φ (.int ks.length) m
  | _ => False
theorem db_len : CallR X (.builtin "len") (liftC X.K bLen) := call_imp (CallR.or call_len_seq (CallR.or call_len_str call_lenD)) fun vs H Q ⟨G, m, ds, Φ, rm, rd, q, k⟩ => by
  unfold bLen at q
  split at q
  · obtain ⟨v, rfl, a, xs, rfl, h1, h2⟩ := rv1 rd
    exact .inl ⟨a, xs, rfl, .inr (rm.sub.t h1), k G (.int _) m _ H (Sub.refl G) rm (by rw [h2.length]; rfl) q⟩
  · obtain ⟨v, rfl, a, xs, rfl, h1, h2⟩ := rv1 rd
    exact .inl ⟨a, xs, rfl, .inl (rm.sub.l h1), k G (.int _) m _ H (Sub.refl G) rm (by rw [h2.length]; rfl) q⟩
  · rename_i z
    obtain ⟨v, rfl, h⟩ := rv1 rd
    obtain rfl : v = .str z := h
    exact .inr (.inl ⟨z, rfl, q.1, k G (.int _) m _ H (Sub.refl G) rm rfl q.2⟩)
  · rename_i a
    obtain ⟨v, rfl, h⟩ := rv1 rd
    obtain rfl : v = .ref a := h
    rcases q with ⟨xs, hm, q⟩ | ⟨ks, hm, q⟩
    · obtain ⟨_, w, hw, ys, rfl, h2⟩ := rm.mem a _ hm
      exact .inl ⟨a, ys, rfl, .inl (.inl (.inl hw)), k G (.int _) m _ H (Sub.refl G) rm (by rw [h2.length]; rfl) q⟩
    · obtain ⟨_, w, hw, ys, rfl, h2⟩ := rm.mem a _ hm
      exact .inr (.inr ⟨a, ys, rfl, hw, k G (.int _) m _ H (Sub.refl G) rm (by rw [h2.length]; rfl) q⟩)
  · exact q.elim
/-- list(xs): a new list that may change -/
def bList : LSp := fun ds m Φ => match ds with
  | [d] => itemsQ d m fun xs => ∀ p, m p = none → Φ (.ref p) (mset m p (.lst xs))
  | _ => False
theorem db_list : CallR X (.type "list") (liftC X.K bList) := call_imp call_list_of fun vs H Q ⟨G, m, ds, Φ, rm, rd, q, k⟩ => by
  unfold bList at q
  split at q
  · obtain ⟨v, rfl, h⟩ := rv1 rd
    obtain ⟨a, xs, ys, rfl, h1, h2, h3⟩ := items_lift rm h q
    exact ⟨a, ys, rfl, h1.symm, lift_lstM rm h2 h3 k⟩
  · exact q.elim
/-- tuple(xs) -/
def bTuple : LSp := fun ds m Φ => match ds with
  | [.tup xs] => Φ (.tup xs) m
  | [.lst xs] => Φ (.tup xs) m
  | [.ref a] => ∃ xs, m a = some (.lst xs) ∧ Φ (.tup xs) m
  | _ => False
theorem db_tuple : CallR X (.type "tuple") (liftC X.K bTuple) := call_imp call_tuple_of fun vs H Q ⟨G, m, ds, Φ, rm, rd, q, k⟩ => by
  unfold bTuple at q
  split at q
  · rename_i xs
    obtain ⟨v, rfl, a, ys, rfl, h1, h2⟩ := rv1 rd
    exact ⟨a, ys, rfl, .inr ⟨rm.sub.t h1, k G (.tup xs) m _ H (Sub.refl G) rm ⟨a, ys, rfl, h1, h2⟩ q⟩⟩
  · rename_i xs
    obtain ⟨v, rfl, a, ys, rfl, h1, h2⟩ := rv1 rd
    exact ⟨a, ys, rfl, .inl ⟨rm.sub.l h1, lift_tup rm h2 q k⟩⟩
  · rename_i a
    obtain ⟨v, rfl, h⟩ := rv1 rd
    obtain rfl : v = .ref a := h
    obtain ⟨xs, hm, q⟩ := q
    obtain ⟨_, w, hw, ys, rfl, h2⟩ := rm.mem a _ hm
    exact ⟨a, ys, rfl, .inl ⟨.inl (.inl hw), lift_tup rm h2 q k⟩⟩
  · exact q.elim
/-- the items of a list -/
def itemsL (d : D) (m : Mem) (R : List D → Prop) : Prop := match d with
  | .lst ds => R ds
  | .ref a => ∃ ds, m a = some (.lst ds) ∧ R ds
  | _ => False
theorem itemsL_lift {K : PySem.W.Frag} {d : D} {v : V} {m : Mem} {G H : Hp} {R : List D → Prop} (rm : RelM K m G H) (rv : RV K G d v) (h : itemsL d m R) : ∃ a ds xs, v = .ref a ∧ SqL K H a xs ∧ RVs K G ds xs ∧ R ds := by
  cases d with
  | lst ds => obtain ⟨a, xs, rfl, h1, h2⟩ := rv; exact ⟨a, ds, xs, rfl, rm.sub.l h1, h2, h⟩
  | ref a =>
    obtain rfl : v = .ref a := rv
    obtain ⟨ds, hm, h⟩ := h
    obtain ⟨_, u, hu, xs, rfl, h2⟩ := rm.mem a _ hm
    exact ⟨a, ds, xs, rfl, .inl (.inl hu), h2, h⟩
  | _ => exact h.elim
/-- sum, all, any of lists of ints, of bools -/
def bSum : LSp := fun ds m Φ => match ds with
  | [d] => itemsL d m fun xs => ∃ ns : List Int, xs = ns.map D.int ∧ Φ (.int ns.sum) m
  | _ => False
def bAll : LSp := fun ds m Φ => match ds with
  | [d] => itemsL d m fun xs => ∃ bs : List Bool, xs = bs.map D.bl ∧ Φ (.bl (bs.all _root_.id)) m
  | _ => False
def bAny : LSp := fun ds m Φ => match ds with
  | [d] => itemsL d m fun xs => ∃ bs : List Bool, xs = bs.map D.bl ∧ Φ (.bl (bs.any _root_.id)) m
  | _ => False
theorem db_sum (hc : X.calm = true) : CallR X (.builtin "sum") (liftC X.K bSum) := call_imp (cr_sum hc) fun vs H Q ⟨G, m, ds, Φ, rm, rd, q, k⟩ => by
  unfold bSum at q
  split at q
  · obtain ⟨v, rfl, h⟩ := rv1 rd
    obtain ⟨a, xs, ys, rfl, h1, h2, ns, rfl, h3⟩ := itemsL_lift rm h q
    have e := h2.ints
    subst e
    exact ⟨a, ns, rfl, h1, k G (.int _) m _ H (Sub.refl G) rm rfl h3⟩
  · exact q.elim
theorem db_all (hc : X.calm = true) : CallR X (.builtin "all") (liftC X.K bAll) := call_imp (cr_all hc) fun vs H Q ⟨G, m, ds, Φ, rm, rd, q, k⟩ => by
  unfold bAll at q
  split at q
  · obtain ⟨v, rfl, h⟩ := rv1 rd
    obtain ⟨a, xs, ys, rfl, h1, h2, ns, rfl, h3⟩ := itemsL_lift rm h q
    have e := h2.bls
    subst e
    exact ⟨a, ns, rfl, h1, k G (.bl _) m _ H (Sub.refl G) rm rfl h3⟩
  · exact q.elim
theorem db_any (hc : X.calm = true) : CallR X (.builtin "any") (liftC X.K bAny) := call_imp (cr_any hc) fun vs H Q ⟨G, m, ds, Φ, rm, rd, q, k⟩ => by
  unfold bAny at q
  split at q
  · obtain ⟨v, rfl, h⟩ := rv1 rd
    obtain ⟨a, xs, ys, rfl, h1, h2, ns, rfl, h3⟩ := itemsL_lift rm h q
    have e := h2.bls
    subst e
    exact ⟨a, ns, rfl, h1, k G (.bl _) m _ H (Sub.refl G) rm rfl h3⟩
  · exact q.elim
def bMax2 : LSp := fun ds m Φ => match ds with | [.int i, .int j] => Φ (.int (if j > i then j else i)) m | _ => False
def bMin2 : LSp := fun ds m Φ => match ds with | [.int i, .int j] => Φ (.int (if j < i then j else i)) m | _ => False
theorem db_max2 (hc : X.calm = true) : CallR X (.builtin "max") (liftC X.K bMax2) := call_imp (call_max2 hc) fun vs H Q ⟨G, m, ds, Φ, rm, rd, q, k⟩ => by
  unfold bMax2 at q
  split at q
  · rename_i i j
    obtain ⟨v, u, rfl, h, h'⟩ := rv2 rd
    obtain rfl : v = .int i := h
    obtain rfl : u = .int j := h'
    exact ⟨i, j, rfl, k G (.int _) m _ H (Sub.refl G) rm rfl q⟩
  · exact q.elim
theorem db_min2 (hc : X.calm = true) : CallR X (.builtin "min") (liftC X.K bMin2) := call_imp (call_min2 hc) fun vs H Q ⟨G, m, ds, Φ, rm, rd, q, k⟩ => by
  unfold bMin2 at q
  split at q
  · rename_i i j
    obtain ⟨v, u, rfl, h, h'⟩ := rv2 rd
    obtain rfl : v = .int i := h
    obtain rfl : u = .int j := h'
    exact ⟨i, j, rfl, k G (.int _) m _ H (Sub.refl G) rm rfl q⟩
  · exact q.elim
def bGcd : LSp := fun ds m Φ => match ds with | [.int i, .int j] => Φ (.int ((Nat.gcd i.natAbs j.natAbs : Nat) : Int)) m | _ => False
theorem db_gcd : CallR X (.builtin "math.gcd") (liftC X.K bGcd) := call_imp cr_gcd fun vs H Q ⟨G, m, ds, Φ, rm, rd, q, k⟩ => by
  unfold bGcd at q
  split at q
  · rename_i i j
    obtain ⟨v, u, rfl, h, h'⟩ := rv2 rd
    obtain rfl : v = .int i := h
    obtain rfl : u = .int j := h'
    exact ⟨i, j, rfl, k G (.int _) m _ H (Sub.refl G) rm rfl q⟩
  · exact q.elim
/-- dict(d): a copy -/
def bDict : LSp := fun ds m Φ => match ds with
  | [.ref a] => ∃ ks, (m a = some (.dK ks) ∨ m a = some (.fz ks)) ∧ ∀ p, m p = none → Φ (.ref p) (mset m p (.dK ks))
  | _ => False
theorem db_dict : CallR X (.type "dict") (liftC X.K bDict) := by
  intro pins s σ H xs us Q I r h
  obtain ⟨G, m, ds, Φ, rm, rd, q, k⟩ := h
  unfold bDict at q
  split at q
  · rename_i a
    obtain ⟨v, rfl, h⟩ := rv1 rd
    obtain rfl : v = .ref a := h
    obtain ⟨u, rfl, ru⟩ := vals1 r
    cases ru
    obtain ⟨ks, hm, q⟩ := q
    obtain ⟨ys, hr, h2⟩ : ∃ ys, Rd H a (.dK ys) ∧ RKs X.K G ks ys := by
      rcases hm with hm | hm
      · obtain ⟨_, w, hw, ys, rfl, h2⟩ := rm.mem a _ hm
        exact ⟨ys, .inl hw, h2⟩
      · obtain ⟨_, w, hw, ob, ys, rfl, h2⟩ := rm.mem a _ hm
        exact ⟨ys, .inr ⟨ob, hw⟩, h2⟩
    exact d_copyOf I hr fun p s' hp I' => ⟨.ref p, _, I', rfl, k G (.ref p) _ _ _ (Sub.refl G) (rm.new (o := .dK ks) hp ⟨ys, rfl, h2⟩) rfl (q p (rm.free hp))⟩
  · exact q.elim
/-! ### isinstance -/
/-- the type's name of a datum that is no instance -/
def tyN (d : D) (m : Mem) : String → Prop := fun T => match d with
  | .non => T = "NoneType"
  | .bl _ => T = "bool"
  | .int _ => T = "int"
  | .str _ => T = "str"
  | .tup _ => T = "tuple"
  | .lst _ => T = "list"
  | .ref a => (T = "list" ∧ ∃ ds, m a = some (.lst ds)) ∨ (T = "dict" ∧ ∃ ks, m a = some (.dK ks))
theorem SqL.ty {K : PySem.W.Frag} {H : Hp} {a : Addr} {xs : List V} (h : SqL K H a xs) : TyX K H (.ref a) (.type "list") := by
  rcases h with (h | ⟨o, h⟩) | ⟨o, its, n, h1, h2, _⟩
  · exact .base (.lst h)
  · exact .base (.frz h)
  · exact .kList h1 h2
theorem SqT.ty {K : PySem.W.Frag} {H : Hp} {a : Addr} {xs : List V} (h : SqT K H a xs) : TyX K H (.ref a) (.type "tuple") := by
  rcases h with (h | ⟨o, h⟩) | ⟨o, its, n, h1, h2, _⟩
  · exact .base (.tup h)
  · exact .fTuple h
  · exact .kTuple h1 h2
theorem tyN_lift {K : PySem.W.Frag} {d : D} {v : V} {m : Mem} {G H : Hp} {T : String} (rm : RelM K m G H) (rv : RV K G d v) (h : tyN d m T) : TyX K H v (.type T) := by
  cases d with
  | non => obtain rfl : v = .non := rv; obtain rfl : T = _ := h; exact .base .non
  | bl b => obtain rfl : v = .bl b := rv; obtain rfl : T = _ := h; exact .base (.bl b)
  | int b => obtain rfl : v = .int b := rv; obtain rfl : T = _ := h; exact .base (.int b)
  | str b => obtain rfl : v = .str b := rv; obtain rfl : T = _ := h; exact .base (.str b)
  | tup ds => obtain ⟨a, xs, rfl, h1, h2⟩ := rv; obtain rfl : T = _ := h; exact SqT.ty (rm.sub.t h1)
  | lst ds => obtain ⟨a, xs, rfl, h1, h2⟩ := rv; obtain rfl : T = _ := h; exact SqL.ty (rm.sub.l h1)
  | ref a =>
    obtain rfl : v = .ref a := rv
    rcases h with ⟨rfl, ds, hm⟩ | ⟨rfl, ks, hm⟩
    · obtain ⟨_, w, hw, ys, rfl, h2⟩ := rm.mem a _ hm
      exact .base (.lst hw)
    · obtain ⟨_, w, hw, ys, rfl, h2⟩ := rm.mem a _ hm
      exact .base (.dK hw)
/-- isinstance(x, T), T a built-in type | a written tuple of such -/
def qIsi (T : String) (qa : QE) : QE := fun s m Φ => qa s m fun x m1 => ∃ t b, tyN x m1 t ∧ kitB t T = some b ∧ Φ (.bl b) m1
theorem de_isi {T : String} {a : Expr} {qa : QE} {tn : Str} {p2 : Pos} (hg : Gl X "isinstance") (hm : X.mg "isinstance" = none) (ha : PE X a (liftE X.K qa)) (hT : PE X (.Name tn p2) (tC (.ty T)))
    (he : starEach (a :: [.Name tn p2]) X.env = (false, eval a X.env) :: starEach [.Name tn p2] X.env := by rfl) (he2 : starEach (.Name tn p2 :: []) X.env = (false, eval (.Name tn p2) X.env) :: starEach [] X.env := by rfl) (hpl : (backTo pos (starEach [.Name tn p2] X.env)).any (·.1) = false := by rfl) :
    PE X (.Call (.Name "isinstance" p) [a, .Name tn p2] [] pos) (liftE X.K (qIsi T qa)) :=
  pe_imp (pe_callB call_isi hg hm (by decide +kernel) (pa_cons ha (pa_cons hT pa_nil he2) he) (by decide) (by decide) he hpl) fun σ H Q ⟨G, s, m, Φ, rm, rs, q, k⟩ => ⟨G, s, m, _, rm, rs, q, fun G1 x m1 v H1 e1 r1 rx ⟨t, b, ht, hb, q1⟩ =>
    ⟨v, .ty T, .type t, .type T, b, rfl, .ty T, tyN_lift r1 rx ht, kit_ty hb, k G1 (.bl b) m1 _ H1 e1 r1 rfl q1⟩⟩
def kitBs (t : String) : List String → Option Bool
  | [] => some false
  | T :: Ts => match kitB t T with
    | some true => some true
    | some false => kitBs t Ts
    | none => none
theorem kitBs_ok {K : PySem.W.Frag} {t : String} : ∀ {Ts : List String} {b : Bool}, kitBs t Ts = some b → PySem.W.kitAny K (.type t) (Ts.map Value.type) = some b
  | [], b, h => by
    obtain rfl : false = b := Option.some.inj h
    exact kitAny_nil
  | T :: Ts, b, h => by
    rw [kitBs] at h
    cases e : kitB t T with
    | none => rw [e] at h; cases h
    | some c =>
      rw [e] at h
      cases c with
      | true =>
        obtain rfl : true = b := Option.some.inj h
        exact kitAny_cons (kit_ty e) (fun z => by cases z) (fun _ => rfl)
      | false => exact kitAny_cons (kit_ty e) (fun _ => kitBs_ok h) (fun z => by cases z)
def qIsiT (Ts : List String) (qa : QE) : QE := fun s m Φ => qa s m fun x m1 => ∃ t b, tyN x m1 t ∧ kitBs t Ts = some b ∧ Φ (.bl b) m1
theorem de_isi2 {T U : String} {a : Expr} {qa : QE} {tn un : Str} {p2 p3 p4 : Pos} {x1} (hg : Gl X "isinstance") (hm : X.mg "isinstance" = none) (ha : PE X a (liftE X.K qa)) (hT : PE X (.Name tn p2) (tC (.ty T))) (hU : PE X (.Name un p3) (tC (.ty U)))
    (he : starEach (a :: [.Tuple [.Name tn p2, .Name un p3] x1 p4]) X.env = (false, eval a X.env) :: starEach [.Tuple [.Name tn p2, .Name un p3] x1 p4] X.env := by rfl)
    (he2 : starEach (.Tuple [.Name tn p2, .Name un p3] x1 p4 :: []) X.env = (false, eval (.Tuple [.Name tn p2, .Name un p3] x1 p4) X.env) :: starEach [] X.env := by rfl)
    (he3 : starEach (.Name tn p2 :: [.Name un p3]) X.env = (false, eval (.Name tn p2) X.env) :: starEach [.Name un p3] X.env := by rfl) (he4 : starEach (.Name un p3 :: []) X.env = (false, eval (.Name un p3) X.env) :: starEach [] X.env := by rfl)
    (hpl : (backTo pos (starEach [.Tuple [.Name tn p2, .Name un p3] x1 p4] X.env)).any (·.1) = false := by rfl) :
    PE X (.Call (.Name "isinstance" p) [a, .Tuple [.Name tn p2, .Name un p3] x1 p4] [] pos) (liftE X.K (qIsiT [T, U] qa)) :=
  pe_imp (pe_callB call_isiT hg hm (by decide +kernel) (pa_cons ha (pa_cons (pe_tup (pa_cons hT (pa_cons hU pa_nil he4) he3)) pa_nil he2) he) (by decide) (by decide) he hpl) fun σ H Q ⟨G, s, m, Φ, rm, rs, q, k⟩ => ⟨G, s, m, _, rm, rs, q, fun G1 x m1 v H1 e1 r1 rx ⟨t, b, ht, hb, q1⟩ =>
    ⟨by show 2 ≤ sizeLine; decide, fun tp htp => ⟨v, tp, [.ty T, .ty U], .type t, [.type T, .type U], b, rfl, upd_same, .cons (.ty T) (.cons (.ty U) .nil), tyN_lift (RelM.frame r1 fun a o z => by rw [upd_ne (ne_of_none z htp)]; exact z) rx ht, kitBs_ok (Ts := [T, U]) hb,
      k G1 (.bl b) m1 _ _ e1 (RelM.frame r1 fun a o z => by rw [upd_ne (ne_of_none z htp)]; exact z) rfl q1⟩⟩⟩
end
end L3
namespace L3
open PySem L2
/-! ### instances -/
section
variable {X : Cx} {e o : Expr} {es : List Expr} {qe qo qv : QE} {qa : QA} {f m : Str} {pos apos pos' tpos : Pos} {C g : Addr} {k : Nat}
/-- e.f of an instance of the class at C -/
def qFld (C : Addr) (f : Str) (qe : QE) : QE := fun s m Φ => qe s m fun x m1 => match x with
  | .ref a => ∃ fs d, m1 a = some (.ins C fs) ∧ fs.lookup f = some d ∧ Φ d m1
  | _ => False
theorem de_fld (c : Cls X.K C) (n : NoAttr X.K C f) (he : PE X e (liftE X.K qe)) (hb : attributeBase e f X.env (eval e X.env) = eval e X.env := by rfl) : PE X (.Attribute e f pos) (liftE X.K (qFld C f qe)) :=
  pe_imp (pe_fld he hb) fun σ H Q ⟨G, s, m, Φ, rm, rs, q, k⟩ => ⟨G, s, m, _, rm, rs, q, fun G1 x m1 v H1 e1 r1 rx q1 => by
    cases x with
    | ref a =>
      obtain rfl : v = .ref a := rx
      obtain ⟨fs, d, hm, hl, q1⟩ := q1
      obtain ⟨_, w, hw, dx, xs, rfl, r⟩ := r1.mem a _ hm
      have rl := r.lookup f
      rw [hl] at rl
      obtain ⟨u, h1, h2⟩ := rl.some
      exact ⟨a, C, dx, xs, u, rfl, hw, c, n, h1, k G1 d m1 u H1 e1 r1 h2 q1⟩
    | _ => exact q1.elim⟩
/-- e.f = v -/
def sSetF (C : Addr) (f : Str) (qo qv : QE) : QS := fun E s m => qv s m fun y m1 => qo s m1 fun x m2 => match x with
  | .ref a => ∃ fs, m2 a = some (.ins C fs) ∧ fs.length < 1000 ∧ E.nx s (mset m2 a (.ins C (putFD f y fs)))
  | _ => False
theorem ds_setF {value : Expr} (c : Cls X.K C) (n : NoAttr X.K C f) (ho : PE X o (liftE X.K qo)) (hv : PE X value (liftE X.K qv)) (hs : swapsWith value (some (.Attribute o f pos')) pos.line X.env = pure false := by rfl) : PS X (.Assign [.Attribute o f pos'] value pos) (liftS X.K (sSetF C f qo qv)) :=
  ps_imp (ps_fld ho hv hs) fun D σ H ⟨G, s, m, E, rm, rs, q, kn, kr, kb, kc⟩ => ⟨G, s, m, _, rm, rs, q, fun G1 y m1 u H1 e1 r1 ry q1 => ⟨G1, s, m1, _, r1, rs.mono e1, q1, fun G2 x m2 v H2 e2 r2 rx q2 => by
    cases x with
    | ref a =>
      obtain rfl : v = .ref a := rx
      obtain ⟨fs, hm, hl, q2⟩ := q2
      obtain ⟨_, w, hw, dx, xs, rfl, r⟩ := r2.mem a _ hm
      exact ⟨a, C, dx, xs, rfl, hw, c, n, by rw [← r.length]; exact hl, kn G2 s _ σ _ (e1.trans e2) (r2.put (o := .ins C (putFD f y fs)) hm ⟨dx, _, rfl, RKs.putF (RV.mono e2 y ry) r⟩) (rs.mono (e1.trans e2)) q2⟩
    | _ => exact q2.elim⟩⟩
/-- o.m(..) -/
def qMeth (C : Addr) (m : Str) (sp : LSp) (qo : QE) (qa : QA) : QE := fun s mm Φ => qo s mm fun x m1 => match x with
  | .ref a => ∃ fs, m1 a = some (.ins C fs) ∧ fs.lookup m = none ∧ qa s m1 fun ds m2 => sp (x :: ds) m2 Φ
  | _ => False
end
section
variable {X : Cx} {CX : CXT} {k : Nat} {f C : Addr} {sp : Sp} {E : XK} {m x : Str} {pos apos p : Pos} {e o : Expr} {es : List Expr} {ta : TE} {t : TA}
theorem pe_methR {pl : Sem Bool} (he : PE X o ta) (c : Cls X.K C) (hm : Meth X.K C m f) (F : FnR X.prog X.w X.K X.mg X.base CX k f sp) (hr : Room k X.A) (hx : Passes CX X E) (ha : PA X (e :: es) t)
    (hst : starEach (e :: es) X.env = (false, eval e X.env) :: starEach es X.env := by rfl) (hpl : (backTo pos (starEach es X.env)).any (·.1) = false := by rfl)
    (ht : eval (.Call (.Attribute o m apos) (e :: es) [] pos) X.env = (do
      let ov ← eval o X.env
      standAt apos.atName
      let (f, first) ← holding [ov] (getMethod ov m pl)
      callWith pos f first (backTo pos (starEach (e :: es) X.env)) (backToKw pos (keywordEach [] X.env))) := by rfl) :
    PE X (.Call (.Attribute o m apos) (e :: es) [] pos) (fun σ H Q => ta σ H fun x H1 => ∃ a dx fs, x = .ref a ∧ H1 a = some (.ins C dx fs) ∧ fs.lookup m = none ∧ t σ H1 fun vs H2 => sp (x :: vs) H2 Q E) := by
  refine ⟨fun pins s σ H Q I h => ?_⟩
  refine PySem.W.methodCall_KW (pl := pl) (thn (he.run pins s σ H _ I h) fun u s1 ⟨x, H1, I1, rx, a, dx, fs, ex, ea, l, q⟩ => ?_) ht
  subst ex
  obtain rfl : u = Value.ref a := rx
  refine getmeth_ok I1 ea c hm l ?_
  refine PySem.W.callWith_K (first := [.ref a]) (h₀ := X.base) I.ok.mod.kin hm.kp (thn (ha.run pos pins s1 σ H1 _ I1 q) fun us s2 ⟨vs, H2, I2, r, q2⟩ => ⟨I2.kIn, ?_⟩) hst hpl
  exact wpAny_call (run_fnR (us := .ref a :: us) (vs := .ref a :: vs) F hr hx I2 (.cons rfl r) q2)
theorem pe_meth0R {pl : Sem Bool} (he : PE X o ta) (c : Cls X.K C) (hm : Meth X.K C m f) (F : FnR X.prog X.w X.K X.mg X.base CX k f sp) (hr : Room k X.A) (hx : Passes CX X E)
    (ht : eval (.Call (.Attribute o m apos) [] [] pos) X.env = (do
      let ov ← eval o X.env
      standAt apos.atName
      let (f, first) ← holding [ov] (getMethod ov m pl)
      callWith pos f first (backTo pos (starEach [] X.env)) (backToKw pos (keywordEach [] X.env))) := by rfl) :
    PE X (.Call (.Attribute o m apos) [] [] pos) (fun σ H Q => ta σ H fun x H1 => ∃ a dx fs, x = .ref a ∧ H1 a = some (.ins C dx fs) ∧ fs.lookup m = none ∧ sp [x] H1 Q E) := by
  refine ⟨fun pins s σ H Q I h => ?_⟩
  refine PySem.W.methodCall_KW (pl := pl) (thn (he.run pins s σ H _ I h) fun u s1 ⟨x, H1, I1, rx, a, dx, fs, ex, ea, l, q⟩ => ?_) ht
  subst ex
  obtain rfl : u = Value.ref a := rx
  refine getmeth_ok I1 ea c hm l ?_
  exact PySem.W.callWith_K0 (first := [.ref a]) I1.kIn hm.kp (wpAny_call (run_fnR (us := [.ref a]) (vs := [.ref a]) F hr hx I1 (.cons rfl .nil) q))
theorem pe_call0R (F : FnR X.prog X.w X.K X.mg X.base CX k f sp) (hr : Room k X.A) (hg : Gl X x) (hm : X.mg x = some (.ref f)) (hk : PySem.W.keepIn X.K (.ref f) = true) (hx : Passes CX X E)
    (hdb : (x == ("__debug__" : Str)) = false := by decide) : PE X (.Call (.Name x p) [] [] pos) (fun σ H Q => sp [] H Q E) := by
  refine ⟨fun pins s σ H Q I h => ?_⟩
  refine wpAny_Call_Name_kw (ld_glob I hg hm ?_ hdb)
  exact PySem.W.callWith_K0 I.kIn hk (wpAny_call (run_fnR (us := []) (vs := []) F hr hx I .nil h))
theorem pe_make0R (M : Mk X.K C f) (F : FnR X.prog X.w X.K X.mg X.base CX k f sp) (hr : Room (k + 1) X.A) (hg : Gl X x) (hm : X.mg x = some (.ref C)) (hx : Passes CX X E)
    (hdb : (x == ("__debug__" : Str)) = false := by decide) : PE X (.Call (.Name x p) [] [] pos) (StX.tMakeR C sp E tNil) := by
  refine ⟨fun pins s σ H Q I h => ?_⟩
  refine wpAny_Call_Name_kw (ld_glob I hg hm ?_ hdb)
  exact PySem.W.callWith_K0 I.kIn M.kp (StX.run_makeR M F hr hx I .nil h)
end
section
variable {X : Cx} {k : Nat} {f C : Addr} {sp : LSp} {m x : Str} {pos apos p : Pos} {e o : Expr} {es : List Expr} {qo qe : QE} {qa : QA}
theorem de_meth {pl : Sem Bool} (he : PE X o (liftE X.K qo)) (c : Cls X.K C) (hm : Meth X.K C m f) (F : FnD X.prog X.w X.K X.mg X.base k f sp) (hr : Room k X.A) (ha : PA X (e :: es) (liftA X.K qa))
    (hst : starEach (e :: es) X.env = (false, eval e X.env) :: starEach es X.env := by rfl) (hpl : (backTo pos (starEach es X.env)).any (·.1) = false := by rfl)
    (ht : eval (.Call (.Attribute o m apos) (e :: es) [] pos) X.env = (do
      let ov ← eval o X.env
      standAt apos.atName
      let (f, first) ← holding [ov] (getMethod ov m pl)
      callWith pos f first (backTo pos (starEach (e :: es) X.env)) (backToKw pos (keywordEach [] X.env))) := by rfl) :
    PE X (.Call (.Attribute o m apos) (e :: es) [] pos) (liftE X.K (qMeth C m sp qo qa)) :=
  pe_imp (pe_methR he c hm F hr pass0 ha hst hpl ht) fun σ H Q ⟨G, s, mm, Φ, rm, rs, q, k⟩ => ⟨G, s, mm, _, rm, rs, q, fun G1 d m1 v H1 e1 r1 rd q1 => by
    cases d with
    | ref a =>
      obtain rfl : v = .ref a := rd
      obtain ⟨fs, hm', hl, q1⟩ := q1
      obtain ⟨_, w, hw, dx, xs, rfl, r⟩ := r1.mem a _ hm'
      have rl := r.lookup m
      rw [hl] at rl
      exact ⟨a, dx, xs, rfl, hw, rl.none, G1, s, m1, _, r1, rs.mono e1, q1, fun G2 ds m2 vs H2 e2 r2 rds q2 => ⟨G2, m2, _, Φ, r2, RVs.cons (show RV X.K G2 (.ref a) (.ref a) from rfl) rds, q2, k.mono (e1.trans e2)⟩⟩
    | _ => exact q1.elim⟩
theorem de_meth0 {pl : Sem Bool} (he : PE X o (liftE X.K qo)) (c : Cls X.K C) (hm : Meth X.K C m f) (F : FnD X.prog X.w X.K X.mg X.base k f sp) (hr : Room k X.A)
    (ht : eval (.Call (.Attribute o m apos) [] [] pos) X.env = (do
      let ov ← eval o X.env
      standAt apos.atName
      let (f, first) ← holding [ov] (getMethod ov m pl)
      callWith pos f first (backTo pos (starEach [] X.env)) (backToKw pos (keywordEach [] X.env))) := by rfl) :
    PE X (.Call (.Attribute o m apos) [] [] pos) (liftE X.K (qMeth C m sp qo qNil)) :=
  pe_imp (pe_meth0R he c hm F hr pass0 ht) fun σ H Q ⟨G, s, mm, Φ, rm, rs, q, k⟩ => ⟨G, s, mm, _, rm, rs, q, fun G1 d m1 v H1 e1 r1 rd q1 => by
    cases d with
    | ref a =>
      obtain rfl : v = .ref a := rd
      obtain ⟨fs, hm', hl, q1⟩ := q1
      obtain ⟨_, w, hw, dx, xs, rfl, r⟩ := r1.mem a _ hm'
      have rl := r.lookup m
      rw [hl] at rl
      exact ⟨a, dx, xs, rfl, hw, rl.none, G1, m1, [.ref a], Φ, r1, RVs.one (show RV X.K G1 (.ref a) (.ref a) from rfl), q1, k.mono e1⟩
    | _ => exact q1.elim⟩
theorem de_call0 (F : FnD X.prog X.w X.K X.mg X.base k f sp) (hr : Room k X.A) (hg : Gl X x) (hm : X.mg x = some (.ref f)) (hk : PySem.W.keepIn X.K (.ref f) = true)
    (hdb : (x == ("__debug__" : Str)) = false := by decide) : PE X (.Call (.Name x p) [] [] pos) (liftE X.K (qCall sp qNil)) :=
  pe_imp (pe_call0R F hr hg hm hk pass0 hdb) fun σ H Q ⟨G, s, mm, Φ, rm, rs, q, k⟩ => ⟨G, mm, [], Φ, rm, rfl, q, k⟩
/-- C(..) -/
def qMake (C : Addr) (sp : LSp) (qa : QA) : QE := fun s m Φ => qa s m fun ds m1 => ∀ a, m1 a = none → sp (.ref a :: ds) (mset m1 a (.ins C [])) fun d m2 => match d with | .non => Φ (.ref a) m2 | _ => False
theorem lift_make {K : PySem.W.Frag} {G H : Hp} {mm : Mem} {ds : List D} {vs : List V} {Φ : DK} {Q : VK} (rm : RelM K mm G H) (rd : RVs K G ds vs) (k : KQ K G Φ Q) (q : ∀ a, mm a = none → sp (.ref a :: ds) (mset mm a (.ins C [])) fun d m2 => match d with | .non => Φ (.ref a) m2 | _ => False) :
    ∀ x dx, H x = Option.none → H dx = Option.none → dx ≠ x → liftSp K sp (V.ref x :: vs) (upd (upd H dx (.own x)) x (.ins C dx [])) (fun v H2 => v = .non ∧ Q (.ref x) H2) E0 := fun x dx hx hdx hne => by
  have r1 : RelM K mm G (upd H dx (.own x)) := rm.frame fun a o z => by rw [upd_ne (ne_of_none z hdx)]; exact z
  have hx' : upd H dx (.own x) x = none := by rw [upd_ne hne.symm]; exact hx
  refine ⟨G, _, _, _, r1.new (o := .ins C []) (u := .ins C dx []) hx' ⟨dx, [], rfl, rfl⟩, RVs.cons (show RV K G (.ref x) (.ref x) from rfl) rd, q x (rm.free hx), fun G2 d m2 v H2 e2 r2 rv q2 => ?_⟩
  cases d with
  | non => exact ⟨rv, k G2 (.ref x) m2 _ H2 e2 r2 rfl q2⟩
  | _ => exact q2.elim
theorem de_make (M : Mk X.K C f) (F : FnD X.prog X.w X.K X.mg X.base k f sp) (hr : Room (k + 1) X.A) (hg : Gl X x) (hm : X.mg x = some (.ref C)) (ha : PA X (e :: es) (liftA X.K qa)) (hdb : (x == ("__debug__" : Str)) = false := by decide)
    (he : starEach (e :: es) X.env = (false, eval e X.env) :: starEach es X.env := by rfl) (hpl : (backTo pos (starEach es X.env)).any (·.1) = false := by rfl) :
    PE X (.Call (.Name x p) (e :: es) [] pos) (liftE X.K (qMake C sp qa)) :=
  pe_imp (StX.pe_makeR M F hr hg hm pass0 ha hdb he hpl) fun σ H Q ⟨G, s, mm, Φ, rm, rs, q, k⟩ => ⟨G, s, mm, _, rm, rs, q, fun G1 ds m1 vs H1 e1 r1 rd q1 => lift_make r1 rd (k.mono e1) q1⟩
theorem de_make0 (M : Mk X.K C f) (F : FnD X.prog X.w X.K X.mg X.base k f sp) (hr : Room (k + 1) X.A) (hg : Gl X x) (hm : X.mg x = some (.ref C)) (hdb : (x == ("__debug__" : Str)) = false := by decide) :
    PE X (.Call (.Name x p) [] [] pos) (liftE X.K (qMake C sp qNil)) :=
  pe_imp (pe_make0R M F hr hg hm pass0 hdb) fun σ H Q ⟨G, s, mm, Φ, rm, rs, q, k⟩ => lift_make rm (show RVs X.K G [] [] from rfl) k q
/-- e.f, a property whose getter keeps the promise -/
def qProp (C : Addr) (sp : LSp) (qe : QE) : QE := fun s m Φ => qe s m fun x m1 => match x with
  | .ref a => (∃ fs, m1 a = some (.ins C fs)) ∧ sp [x] m1 Φ
  | _ => False
end
/-! ### methods of built-in types -/
def tyD (T : String) (x : D) (m : Mem) : Prop := match x with
  | .str _ => T = "str"
  | .lst _ => T = "list"
  | .ref a => (T = "list" ∧ ∃ ds, m a = some (.lst ds)) ∨ (T = "dict" ∧ ∃ ks, m a = some (.dK ks))
  | _ => False
theorem tyD_lift {K : PySem.W.Frag} {T : String} {x : D} {v : V} {m : Mem} {G H : Hp} (rm : RelM K m G H) (rx : RV K G x v) (h : tyD T x m) : tyV K T v H := by
  cases x with
  | str z => obtain rfl : v = .str z := rx; exact h
  | lst ds => obtain ⟨a, xs, rfl, h1, h2⟩ := rx; exact .inl ⟨h, xs, rm.sub.l h1⟩
  | ref a =>
    obtain rfl : v = .ref a := rx
    rcases h with ⟨rfl, ds, hm⟩ | ⟨rfl, ks, hm⟩
    · obtain ⟨_, w, hw, ys, rfl, h2⟩ := rm.mem a _ hm
      exact .inl ⟨rfl, ys, .inl (.inl hw)⟩
    · obtain ⟨_, w, hw, ys, rfl, h2⟩ := rm.mem a _ hm
      exact .inr (.inr (.inl ⟨rfl, .inl ⟨ys, hw⟩⟩))
  | _ => exact h.elim
def qBM (T : String) (r : D → LSp) (qo : QE) (qa : QA) : QE := fun s m Φ => qo s m fun x m1 => tyD T x m1 ∧ qa s m1 fun ds m2 => r x ds m2 Φ
section
variable {X : Cx} {o e : Expr} {es : List Expr} {qo : QE} {qa : QA} {name : Str} {apos cpos : Pos} {T id : String} {r : D → LSp}
theorem de_bm (pa : PlainAttrs T) (slot : Slot T name id) (hty : typeOf (.builtin id) = pure (.type "method_descriptor")) (hm : MtR X id (liftMt X.K r)) (ho : PE X o (liftE X.K qo)) (ha : PA X (e :: es) (liftA X.K qa))
    (hbase : attributeBase o name X.env (eval o X.env) = eval o X.env := by rfl)
    (hfew : ((backTo cpos (starEach (e :: es) X.env)).all (fun x => !x.1) && (backToKw cpos (keywordEach [] X.env)).all (fun x => x.1.isSome)
      && decide ((e :: es).length + ([] : List Keyword).length + (if ([] : List Keyword).isEmpty then 0 else 1) < 30)) = true := by rfl)
    (hline : (apos.endLine == cpos.line) = true := by rfl) (hs : starEach (e :: es) X.env = (false, eval e X.env) :: starEach es X.env := by rfl) (hplain : (backTo cpos (starEach es X.env)).any (·.1) = false := by rfl) :
    PE X (.Call (.Attribute o name apos) (e :: es) [] cpos) (liftE X.K (qBM T r qo qa)) :=
  pe_imp (pe_bm pa slot hty hm ho ha hbase hfew hline hs hplain) fun σ H Q ⟨G, s, mm, Φ, rm, rs, q, k⟩ => ⟨G, s, mm, _, rm, rs, q, fun G1 x m1 v H1 e1 r1 rx ⟨ht, q1⟩ =>
    ⟨tyD_lift r1 rx ht, G1, s, m1, _, r1, rs.mono e1, q1, fun G2 ds m2 vs H2 e2 r2 rd q2 => ⟨G2, m2, x, ds, Φ, r2, RV.mono e2 x rx, rd, q2, k.mono (e1.trans e2)⟩⟩⟩
theorem de_bm0 (pa : PlainAttrs T) (slot : Slot T name id) (hty : typeOf (.builtin id) = pure (.type "method_descriptor")) (hm : MtR X id (liftMt X.K r)) (ho : PE X o (liftE X.K qo)) (hbase : attributeBase o name X.env (eval o X.env) = eval o X.env := by rfl) (hline : (apos.endLine == cpos.line) = true := by rfl) :
    PE X (.Call (.Attribute o name apos) [] [] cpos) (liftE X.K (qBM T r qo qNil)) :=
  pe_imp (pe_bm0 pa slot hty hm ho hbase hline) fun σ H Q ⟨G, s, mm, Φ, rm, rs, q, k⟩ => ⟨G, s, mm, _, rm, rs, q, fun G1 x m1 v H1 e1 r1 rx ⟨ht, q1⟩ =>
    ⟨tyD_lift r1 rx ht, G1, m1, x, [], Φ, r1, rx, rfl, q1, k.mono e1⟩⟩
/-- a method of a list that may change: with its arguments, the list's items; the value and the items behind -/
def mtL (g : List D → List D → (D → List D → Prop) → Prop) : D → LSp := fun x ds m Φ => match x with
  | .ref a => ∃ xs, m a = some (.lst xs) ∧ g ds xs fun d ys => Φ d (mset m a (.lst ys))
  | _ => False
def gAppend : List D → List D → (D → List D → Prop) → Prop := fun ds xs R => match ds with | [y] => xs.length < sizeLine ∧ R .non (xs ++ [y]) | _ => False
theorem dm_append : MtR X "list.append" (liftMt X.K (mtL gAppend)) := mt_imp mt_append fun x vs H Q ⟨G, m, dx, ds, Φ, rm, rx, rd, q, k⟩ => by
  cases dx with
  | ref a =>
    obtain rfl : x = .ref a := rx
    obtain ⟨xs, hm, q⟩ := q
    unfold gAppend at q
    split at q
    · obtain ⟨v, rfl, hv⟩ := rv1 rd
      obtain ⟨_, w, hw, ys, rfl, h2⟩ := rm.mem a _ hm
      exact ⟨a, ys, v, rfl, rfl, hw, by rw [← h2.length]; exact q.1, k G .non _ _ _ (Sub.refl G) (rm.put (o := .lst _) hm ⟨_, rfl, h2.append (RVs.one hv)⟩) rfl q.2⟩
    · exact q.elim
  | _ => exact q.elim
def gInsert : List D → List D → (D → List D → Prop) → Prop := fun ds xs R => match ds with | [.int i, y] => xs.length < sizeLine ∧ 0 ≤ i ∧ i < 2 ^ 63 ∧ R .non (xs.take i.toNat ++ [y] ++ xs.drop i.toNat) | _ => False
theorem dm_insert : MtR X "list.insert" (liftMt X.K (mtL gInsert)) := mt_imp mt_insert fun x vs H Q ⟨G, m, dx, ds, Φ, rm, rx, rd, q, k⟩ => by
  cases dx with
  | ref a =>
    obtain rfl : x = .ref a := rx
    obtain ⟨xs, hm, q⟩ := q
    unfold gInsert at q
    split at q
    · rename_i i y
      obtain ⟨v, u, rfl, hv, hu⟩ := rv2 rd
      obtain rfl : v = .int i := hv
      obtain ⟨_, w, hw, ys, rfl, h2⟩ := rm.mem a _ hm
      exact ⟨a, ys, i, u, rfl, rfl, hw, by rw [← h2.length]; exact q.1, q.2.1, q.2.2.1, k G .non _ _ _ (Sub.refl G) (rm.put (o := .lst _) hm ⟨_, rfl, ((h2.take _).append (RVs.one hu)).append (h2.drop _)⟩) rfl q.2.2.2⟩
    · exact q.elim
  | _ => exact q.elim
def gPop : List D → List D → (D → List D → Prop) → Prop := fun ds xs R => match ds with | [] => ∃ y, xs[xs.length - 1]? = some y ∧ R y xs.dropLast | _ => False
theorem RVs.dropLast {K : PySem.W.Frag} {G : Hp} {ds : List D} {xs : List V} (h : RVs K G ds xs) : RVs K G ds.dropLast xs.dropLast := by
  rw [List.dropLast_eq_take, List.dropLast_eq_take, ← h.length]
  exact h.take _
theorem dm_pop : MtR X "list.pop" (liftMt X.K (mtL gPop)) := mt_imp mt_pop fun x vs H Q ⟨G, m, dx, ds, Φ, rm, rx, rd, q, k⟩ => by
  cases dx with
  | ref a =>
    obtain rfl : x = .ref a := rx
    obtain ⟨xs, hm, q⟩ := q
    unfold gPop at q
    split at q
    · obtain ⟨y, h1, q⟩ := q
      obtain ⟨_, w, hw, ys, rfl, h2⟩ := rm.mem a _ hm
      obtain ⟨v, h3, h4⟩ := h2.get h1
      exact ⟨a, ys, v, rfl, rd, hw, by rw [← h2.length]; exact h3, k G y _ _ _ (Sub.refl G) (rm.put (o := .lst _) hm ⟨_, rfl, h2.dropLast⟩) h4 q⟩
    · exact q.elim
  | _ => exact q.elim
def gPopAt : List D → List D → (D → List D → Prop) → Prop := fun ds xs R => match ds with | [.int i] => ∃ k y, -(2 ^ 63) ≤ i ∧ i < 2 ^ 63 ∧ seqIndex? i xs.length = some k ∧ xs[k]? = some y ∧ R y (xs.eraseIdx k) | _ => False
theorem dm_popAt : MtR X "list.pop" (liftMt X.K (mtL gPopAt)) := mt_imp mt_popAt fun x vs H Q ⟨G, m, dx, ds, Φ, rm, rx, rd, q, k⟩ => by
  cases dx with
  | ref a =>
    obtain rfl : x = .ref a := rx
    obtain ⟨xs, hm, q⟩ := q
    unfold gPopAt at q
    split at q
    · rename_i i
      obtain ⟨v, rfl, hv⟩ := rv1 rd
      obtain rfl : v = .int i := hv
      obtain ⟨j, y, a1, a2, a3, a4, q⟩ := q
      obtain ⟨_, w, hw, ys, rfl, h2⟩ := rm.mem a _ hm
      obtain ⟨v, h3, h4⟩ := h2.get a4
      exact ⟨a, ys, i, j, v, rfl, rfl, hw, a1, a2, by rw [← h2.length]; exact a3, h3, k G y _ _ _ (Sub.refl G) (rm.put (o := .lst _) hm ⟨_, rfl, h2.eraseIdx j⟩) h4 q⟩
    · exact q.elim
  | _ => exact q.elim
def gReverse : List D → List D → (D → List D → Prop) → Prop := fun ds xs R => match ds with | [] => R .non xs.reverse | _ => False
theorem dm_reverse : MtR X "list.reverse" (liftMt X.K (mtL gReverse)) := mt_imp mt_reverse fun x vs H Q ⟨G, m, dx, ds, Φ, rm, rx, rd, q, k⟩ => by
  cases dx with
  | ref a =>
    obtain rfl : x = .ref a := rx
    obtain ⟨xs, hm, q⟩ := q
    unfold gReverse at q
    split at q
    · obtain ⟨_, w, hw, ys, rfl, h2⟩ := rm.mem a _ hm
      exact ⟨a, ys, rfl, rd, hw, k G .non _ _ _ (Sub.refl G) (rm.put (o := .lst _) hm ⟨_, rfl, h2.reverse⟩) rfl q⟩
    · exact q.elim
  | _ => exact q.elim
def gClear : List D → List D → (D → List D → Prop) → Prop := fun ds xs R => match ds with | [] => R .non [] | _ => False
theorem dm_clear : MtR X "list.clear" (liftMt X.K (mtL gClear)) := mt_imp mt_clear fun x vs H Q ⟨G, m, dx, ds, Φ, rm, rx, rd, q, k⟩ => by
  cases dx with
  | ref a =>
    obtain rfl : x = .ref a := rx
    obtain ⟨xs, hm, q⟩ := q
    unfold gClear at q
    split at q
    · obtain ⟨_, w, hw, ys, rfl, h2⟩ := rm.mem a _ hm
      exact ⟨a, ys, rfl, rd, hw, k G .non _ _ _ (Sub.refl G) (rm.put (o := .lst []) hm ⟨[], rfl, rfl⟩) rfl q⟩
    · exact q.elim
  | _ => exact q.elim
/-- xs.extend(ys), ys a list that may change -/
def mExtend : D → LSp := fun x ds m Φ => match x, ds with
  | .ref a, [.ref b] => ∃ xs ys, m a = some (.lst xs) ∧ m b = some (.lst ys) ∧ xs.length + ys.length ≤ sizeLine ∧ Φ .non (mset m a (.lst (xs ++ ys)))
  | _, _ => False
theorem dm_extend : MtR X "list.extend" (liftMt X.K mExtend) := mt_imp mt_extend fun x vs H Q ⟨G, m, dx, ds, Φ, rm, rx, rd, q, k⟩ => by
  unfold mExtend at q
  split at q
  · rename_i a b
    obtain rfl : x = .ref a := rx
    obtain ⟨v, rfl, hv⟩ := rv1 rd
    obtain rfl : v = .ref b := hv
    obtain ⟨xs, ys, h1, h2, h3, q⟩ := q
    obtain ⟨_, w, hw, vs, rfl, r1⟩ := rm.mem a _ h1
    obtain ⟨_, w', hw', us, rfl, r2⟩ := rm.mem b _ h2
    exact ⟨a, b, vs, us, rfl, rfl, hw, hw', by rw [← r1.length, ← r2.length]; exact h3, k G .non _ _ _ (Sub.refl G) (rm.put (o := .lst _) h1 ⟨_, rfl, r1.append r2⟩) rfl q⟩
  · exact q.elim
end
end L3
namespace L3
open PySem L2
/-! ### targets -/
inductive Pat where
  | nm (i : Nat)
  | tp (ps : List Pat)
section
variable (K : PySem.W.Frag)
mutual
/-- the layer's own reading of a target -/
def tgOf : Pat → TG
  | .nm i => gName i
  | .tp ps => gTup K ps.length (tgsOf ps)
def tgsOf : List Pat → TGs
  | [] => gNil
  | p :: ps => gCons (tgOf p) (tgsOf ps)
end
end
mutual
/-- the slots behind the store of a datum -/
def asg : Pat → D → DSt → Option DSt
  | .nm i, d, s => some (s.set i (some d))
  | .tp ps, d, s => match d with
    | .tup ds => asgs ps ds s
    | _ => none
def asgs : List Pat → List D → DSt → Option DSt
  | [], [], s => some s
  | p :: ps, d :: ds, s => match asg p d s with
    | some s1 => asgs ps ds s1
    | none => none
  | _, _, _ => none
end
mutual
def slots : Pat → List Nat
  | .nm i => [i]
  | .tp ps => slotss ps
def slotss : List Pat → List Nat
  | [] => []
  | p :: ps => slots p ++ slotss ps
end
theorem wipe_set {σ : St} {i : Nat} {x : Option V} : ∀ {vs : List Nat}, i ∈ vs → wipe (σ.set i x) vs = wipe σ vs
  | v :: vs, h => by
    show (wipe (σ.set i x) vs).set v none = (wipe σ vs).set v none
    by_cases hv : i ∈ vs
    · rw [wipe_set hv]
    · have e : i = v := by
        rcases List.mem_cons.mp h with h | h
        · exact h
        · exact absurd h hv
      subst e
      have q : ∀ (us : List Nat), i ∉ us → wipe (σ.set i x) us = (wipe σ us).set i x := by
        intro us
        induction us with
        | nil => intro _; rfl
        | cons u us ih =>
          intro hu
          show (wipe (σ.set i x) us).set u none = ((wipe σ us).set u none).set i x
          rw [ih (fun z => hu (List.mem_cons_of_mem _ z)), List.set_comm _ _ (fun z => hu (by rw [z]; exact List.mem_cons_self))]
      rw [q vs hv, List.set_set]
theorem asgs_len : ∀ {ps : List Pat} {ds : List D} {s s2 : DSt}, asgs ps ds s = some s2 → ds.length = ps.length
  | [], [], _, _, _ => rfl
  | [], _ :: _, _, _, h => by simp [asgs] at h
  | _ :: _, [], _, _, h => by simp [asgs] at h
  | p :: ps, d :: ds, s, s2, h => by
    rw [asgs] at h
    cases e : asg p d s with
    | none => rw [e] at h; cases h
    | some s1 => rw [e] at h; rw [List.length_cons, List.length_cons, asgs_len h]
section
variable {K : PySem.W.Frag} {G H : Hp}
mutual
theorem asg_run (e : Sub G H) : ∀ (p : Pat) {d : D} {v : V} {s s2 : DSt} {σ : St}, RV K G d v → RelS K s G σ → asg p d s = some s2 →
    ∃ σ2, RelS K s2 G σ2 ∧ (∀ Q : St → Hp → Prop, Q σ2 H → tgOf K p v σ H Q) ∧ ∀ vs : List Nat, (∀ i ∈ slots p, i ∈ vs) → wipe σ2 vs = wipe σ vs
  | .nm i, d, v, s, s2, σ, rv, rs, h => by
    obtain rfl : s.set i (some d) = s2 := Option.some.inj h
    exact ⟨σ.set i (some v), rs.set i rv, fun Q q => q, fun vs hv => wipe_set (hv i (by simp [slots]))⟩
  | .tp ps, d, v, s, s2, σ, rv, rs, h => by
    cases d with
    | tup ds =>
      obtain ⟨a, xs, rfl, h1, h2⟩ := rv
      have h' : asgs ps ds s = some s2 := h
      obtain ⟨σ2, r2, run, w⟩ := asgs_run e ps h2 rs h'
      exact ⟨σ2, r2, fun Q q => ⟨a, xs, rfl, e.t h1, by rw [← h2.length]; exact asgs_len h', run Q q⟩, w⟩
    | _ => cases h
theorem asgs_run (e : Sub G H) : ∀ (ps : List Pat) {ds : List D} {xs : List V} {s s2 : DSt} {σ : St}, RVs K G ds xs → RelS K s G σ → asgs ps ds s = some s2 →
    ∃ σ2, RelS K s2 G σ2 ∧ (∀ Q : St → Hp → Prop, Q σ2 H → tgsOf K ps xs σ H Q) ∧ ∀ vs : List Nat, (∀ i ∈ slotss ps, i ∈ vs) → wipe σ2 vs = wipe σ vs
  | [], ds, xs, s, s2, σ, rv, rs, h => by
    cases ds with
    | nil =>
      obtain rfl : s = s2 := Option.some.inj h
      exact ⟨σ, rs, fun Q q => ⟨rv, q⟩, fun _ _ => rfl⟩
    | cons d ds => simp [asgs] at h
  | p :: ps, ds, xs, s, s2, σ, rv, rs, h => by
    cases ds with
    | nil => simp [asgs] at h
    | cons d ds =>
      obtain ⟨x, r, rfl, h2, h3⟩ := rv
      rw [asgs] at h
      cases e1 : asg p d s with
      | none => rw [e1] at h; cases h
      | some s1 =>
        rw [e1] at h
        obtain ⟨σ1, r1, run1, w1⟩ := asg_run e p h2 rs e1
        obtain ⟨σ2, r2, run2, w2⟩ := asgs_run e ps h3 r1 h
        exact ⟨σ2, r2, fun Q q => ⟨x, r, rfl, run1 _ (run2 Q q)⟩, fun vs hv => (w2 vs fun i hi => hv i (by simp [slotss, hi])).trans (w1 vs fun i hi => hv i (by simp [slotss, hi]))⟩
end
end
section
variable {X : Cx} {pos : Pos}
theorem pt_nm (i : Nat) {x : Str} (hN : X.N.Nodup) (hi : X.N[i]? = some x := by rfl) (hx : Loc X.env.scope x := by first | exact Or.inl rfl | exact Or.inr rfl) (hf : X.fn x = true ∨ X.env.scope.names.lookup x = some .local := by first | exact .inr rfl | exact .inl rfl | assumption) : PG X (.Name x pos) (tgOf X.K (.nm i)) := pg_name hN hi hx hf
theorem pt_tp {es : List Expr} {k : Nat} {ps : List Pat} (hc : X.calm = true) (h : PGs X es (tgsOf X.K ps)) (hn : (assignEach es X.env).length = ps.length := by rfl) (hst : (assignEach es X.env).findIdx? (·.1) = none := by rfl) : PG X (.Tuple es k pos) (tgOf X.K (.tp ps)) := pg_tup hc h hn hst
theorem pts_nl : PGs X [] (tgsOf X.K []) := pgs_nil
theorem pts_cn {e : Expr} {es : List Expr} {p : Pat} {ps : List Pat} (h1 : PG X e (tgOf X.K p)) (h2 : PGs X es (tgsOf X.K ps)) (hs : (assignEach (e :: es) X.env).map (·.2) = assign e X.env :: (assignEach es X.env).map (·.2) := by rfl) : PGs X (e :: es) (tgsOf X.K (p :: ps)) := pgs_cons h1 h2 hs
end
/-! ### statements -/
def sNext : QS := fun E s m => E.nx s m
def sSeq (t u : QS) : QS := fun E s m => t { E with nx := u E } s m
def sBreak : QS := fun E s m => E.bk s m
def sCont : QS := fun E s m => E.ct s m
def sExpr (qe : QE) : QS := fun E s m => qe s m fun _ m1 => E.nx s m1
def sRet (qe : QE) : QS := fun E s m => qe s m E.rt
def sRetN : QS := fun E _ m => E.rt .non m
def sIf (c : QT) (t u : QS) : QS := fun E s m => c s m fun b m1 => qIf b (t E s m1) (u E s m1)
def sNever : QS := fun _ _ _ => False
/-- target = value -/
def sAsg (p : Pat) (qe : QE) : QS := fun E s m => qe s m fun d m1 => match asg p d s with | some s2 => E.nx s2 m1 | none => False
def sPar (i j : Nat) (qa : QA) : QS := fun E s m => qa s m fun ds m1 => match ds with | [d, e] => E.nx ((s.set i (some d)).set j (some e)) m1 | _ => False
def sPar3 (i j l : Nat) (qa : QA) : QS := fun E s m => qa s m fun ds m1 => match ds with | [d, e, f] => E.nx (((s.set i (some d)).set j (some e)).set l (some f)) m1 | _ => False
def sAug (i : Nat) (r : D → D → Mem → DK → Prop) (qe : QE) : QS := fun E s m => match look s i with
  | some x => qe s m fun y m1 => r x y m1 fun z m2 => E.nx (s.set i (some z)) m2
  | none => False
section
variable {X : Cx} {st : Stmt} {rest : List Stmt} {t u : QS} {e : Expr} {qe : QE} {qa : QA} {pos : Pos}
theorem dss_nil : PSs X [] (liftS X.K sNext) := pss_imp pss_nil fun D σ H ⟨G, s, m, E, rm, rs, q, kn, kr, kb, kc⟩ => kn G s m σ H (Sub.refl G) rm rs q
theorem lift_next {K : PySem.W.Frag} : ∀ D σ H, liftS K sNext D σ H → tNext D σ H := fun D σ H ⟨G, s, m, E, rm, rs, q, kn, kr, kb, kc⟩ => kn G s m σ H (Sub.refl G) rm rs q
theorem dss_cons (h1 : PS X st (liftS X.K t)) (h2 : PSs X rest (liftS X.K u)) : PSs X (st :: rest) (liftS X.K (sSeq t u)) :=
  pss_imp (pss_cons h1 h2) fun D σ H ⟨G, s, m, E, rm, rs, q, kn, kr, kb, kc⟩ => ⟨G, s, m, { E with nx := u E }, rm, rs, q, fun G1 s1 m1 σ1 H1 e1 r1 rs1 q1 => ⟨G1, s1, m1, E, r1, rs1, q1, kn.mono e1, kr.mono e1, kb.mono e1, kc.mono e1⟩, kr, kb, kc⟩
theorem dss_one (h1 : PS X st (liftS X.K t)) : PSs X [st] (liftS X.K t) := pss_one h1
theorem ds_pass : PS X (.Pass pos) (liftS X.K sNext) := ps_imp ps_pass lift_next
theorem ds_break : PS X (.Break pos) (liftS X.K sBreak) := ps_imp ps_break fun D σ H ⟨G, s, m, E, rm, rs, q, kn, kr, kb, kc⟩ => kb G s m σ H (Sub.refl G) rm rs q
theorem ds_continue : PS X (.Continue pos) (liftS X.K sCont) := ps_imp ps_continue fun D σ H ⟨G, s, m, E, rm, rs, q, kn, kr, kb, kc⟩ => kc G s m σ H (Sub.refl G) rm rs q
theorem ds_never : PS X st (liftS X.K sNever) := ps_imp ps_never fun D σ H ⟨_, _, _, _, _, _, q, _⟩ => q
theorem dss_never {sts : List Stmt} : PSs X sts (liftS X.K sNever) := pss_imp pss_never fun D σ H ⟨_, _, _, _, _, _, q, _⟩ => q
theorem ds_doc {x j pos'} : PS X (.Expr (.Constant (.str x) j pos) pos') (liftS X.K sNext) := ps_imp ps_doc lift_next
theorem ds_expr (he : PE X e (liftE X.K qe)) (hs : swapsWith e none pos.line X.env = pure false := by rfl) : PS X (.Expr e pos) (liftS X.K (sExpr qe)) :=
  ps_imp (ps_expr he hs) fun D σ H ⟨G, s, m, E, rm, rs, q, kn, kr, kb, kc⟩ => ⟨G, s, m, _, rm, rs, q, fun G1 d m1 v H1 e1 r1 rv q1 => kn G1 s m1 σ H1 e1 r1 (rs.mono e1) q1⟩
theorem ds_ret (he : PE X e (liftE X.K qe)) : PS X (.Return (some e) pos) (liftS X.K (sRet qe)) :=
  ps_imp (ps_ret he) fun D σ H ⟨G, s, m, E, rm, rs, q, kn, kr, kb, kc⟩ => ⟨G, s, m, _, rm, rs, q, kr⟩
theorem ds_retN : PS X (.Return none pos) (liftS X.K sRetN) := ps_imp ps_retN fun D σ H ⟨G, s, m, E, rm, rs, q, kn, kr, kb, kc⟩ => kr G .non m .non H (Sub.refl G) rm rfl q
theorem ds_if {c : Expr} {a b : List Stmt} {qc : QT} (hc : PT X c (liftT X.K qc)) (ha : PSs X a (liftS X.K t)) (hb : PSs X b (liftS X.K u)) : PS X (.If c a b pos) (liftS X.K (sIf qc t u)) :=
  ps_imp (ps_if hc ha hb) fun D σ H ⟨G, s, m, E, rm, rs, q, kn, kr, kb, kc⟩ => ⟨G, s, m, _, rm, rs, q, fun G1 c m1 H1 e1 r1 q1 => by
    have q1 := qif_e q1
    dsimp only
    cases c with
    | true => rw [if_pos rfl] at q1 ⊢; exact ⟨G1, s, m1, E, r1, rs.mono e1, q1, kn.mono e1, kr.mono e1, kb.mono e1, kc.mono e1⟩
    | false => rw [if_neg Bool.false_ne_true] at q1 ⊢; exact ⟨G1, s, m1, E, r1, rs.mono e1, q1, kn.mono e1, kr.mono e1, kb.mono e1, kc.mono e1⟩⟩
theorem lift_asg {K : PySem.W.Frag} {p : Pat} : ∀ D σ H, liftS K (sAsg p qe) D σ H → tAsg (liftE K qe) (tgOf K p) D σ H := fun D σ H ⟨G, s, m, E, rm, rs, q, kn, kr, kb, kc⟩ => ⟨G, s, m, _, rm, rs, q, fun G1 d m1 v H1 e1 r1 rv q1 => by
  cases h : asg p d s with
  | none => rw [h] at q1; exact q1.elim
  | some s2 =>
    rw [h] at q1
    obtain ⟨σ2, r2, run, _⟩ := asg_run r1.sub p rv (rs.mono e1) h
    exact run _ (kn G1 s2 m1 σ2 H1 e1 r1 r2 q1)⟩
/-- name = value -/
theorem ds_set (i : Nat) {x : Str} {pos' : Pos} (hN : X.N.Nodup) (he : PE X e (liftE X.K qe)) (hi : X.N[i]? = some x := by rfl) (hx : Loc X.env.scope x := by first | exact Or.inl rfl | exact Or.inr rfl) (hs : swapsWith e (some (.Name x pos')) pos.line X.env = pure false := by rfl)
    (hf : X.fn x = true ∨ X.env.scope.names.lookup x = some .local := by first | exact .inr rfl | exact .inl rfl | assumption) : PS X (.Assign [.Name x pos'] e pos) (liftS X.K (sAsg (.nm i) qe)) := ps_imp (ps_set hN hi hx he hs hf) lift_asg
/-- pattern = value -/
theorem ds_asg {tg : Expr} {p : Pat} (he : PE X e (liftE X.K qe)) (hg : PG X tg (tgOf X.K p)) (hs : swapsWithSole [tg] e pos.line X.env = pure false := by rfl) (hw : swappedStores [tg] e X.env = pure none := by rfl)
    (h1 : (assignEach [tg] X.env).map (·.2) = [assign tg X.env] := by rfl) : PS X (.Assign [tg] e pos) (liftS X.K (sAsg p qe)) := ps_imp (ps_asg he hg hs hw h1) lift_asg
theorem ds_par {x y : Str} {a b : Expr} {px py pt : Pos} {kt k2 pt2} (i j : Nat) (hc : X.calm = true) (hN : X.N.Nodup) (ha : PA X [a, b] (liftA X.K qa)) (hij : i ≠ j := by decide) (hi : X.N[i]? = some x := by rfl) (hj : X.N[j]? = some y := by rfl)
    (hx : X.env.scope.names.lookup x = some .local := by rfl) (hy : X.env.scope.names.lookup y = some .local := by rfl)
    (hw : swappedStores [.Tuple [.Name x px, .Name y py] kt pt] (.Tuple [a, b] k2 pt2) X.env = pure (some [x, y]) := by rfl)
    (hs : swapsWithSole [.Tuple [.Name x px, .Name y py] kt pt] (.Tuple [a, b] k2 pt2) pos.line X.env = pure false := by rfl) :
    PS X (.Assign [.Tuple [.Name x px, .Name y py] kt pt] (.Tuple [a, b] k2 pt2) pos) (liftS X.K (sPar i j qa)) :=
  ps_imp (ps_par hc hN hi hj hij hx hy ha hw hs) fun D σ H ⟨G, s, m, E, rm, rs, q, kn, kr, kb, kc⟩ => ⟨G, s, m, _, rm, rs, q, fun G1 ds m1 vs H1 e1 r1 rd q1 => by
    split at q1
    · obtain ⟨v, w, rfl, h1, h2⟩ := rv2 rd
      exact ⟨v, w, rfl, kn G1 _ m1 _ H1 e1 r1 (((rs.mono e1).set i h1).set j h2) q1⟩
    · exact q1.elim⟩
theorem ds_par3 {x y z : Str} {a b c : Expr} {px py pz pt : Pos} {kt k2 pt2} (i j l : Nat) (hc : X.calm = true) (hN : X.N.Nodup) (ha : PA X [a, b, c] (liftA X.K qa)) (hij : i ≠ j := by decide) (hil : i ≠ l := by decide) (hjl : j ≠ l := by decide) (hi : X.N[i]? = some x := by rfl) (hj : X.N[j]? = some y := by rfl) (hl : X.N[l]? = some z := by rfl)
    (hx : X.env.scope.names.lookup x = some .local := by rfl) (hy : X.env.scope.names.lookup y = some .local := by rfl) (hz : X.env.scope.names.lookup z = some .local := by rfl)
    (hw : swappedStores [.Tuple [.Name x px, .Name y py, .Name z pz] kt pt] (.Tuple [a, b, c] k2 pt2) X.env = pure (some [x, y, z]) := by rfl)
    (hs : swapsWithSole [.Tuple [.Name x px, .Name y py, .Name z pz] kt pt] (.Tuple [a, b, c] k2 pt2) pos.line X.env = pure false := by rfl) :
    PS X (.Assign [.Tuple [.Name x px, .Name y py, .Name z pz] kt pt] (.Tuple [a, b, c] k2 pt2) pos) (liftS X.K (sPar3 i j l qa)) :=
  ps_imp (ps_par3 hc hN hi hj hl hij hil hjl hx hy hz ha hw hs) fun D σ H ⟨G, s, m, E, rm, rs, q, kn, kr, kb, kc⟩ => ⟨G, s, m, _, rm, rs, q, fun G1 ds m1 vs H1 e1 r1 rd q1 => by
    split at q1
    · obtain ⟨v, r, rfl, h1, h2⟩ := rd
      obtain ⟨w, u, rfl, h3, h4⟩ := rv2 h2
      exact ⟨v, w, u, rfl, kn G1 _ m1 _ H1 e1 r1 ((((rs.mono e1).set i h1).set j h3).set l h4) q1⟩
    · exact q1.elim⟩
/-- name op= e -/
theorem ds_aug {op : Operator} {r : D → D → Mem → DK → Prop} (i : Nat) {x : Str} {pos' : Pos} (hN : X.N.Nodup) (ho : OpR X (inplaceOp op) (liftR X.K r)) (he : PE X e (liftE X.K qe)) (hi : X.N[i]? = some x := by rfl) (hx : Loc X.env.scope x := by first | exact Or.inl rfl | exact Or.inr rfl)
    (hf : X.fn x = true ∨ X.env.scope.names.lookup x = some .local := by first | exact .inr rfl | exact .inl rfl | assumption) : PS X (.AugAssign (.Name x pos') op e pos) (liftS X.K (sAug i r qe)) :=
  ps_imp (ps_aug (ti := liftR X.K r) hN hi hx he ho hf) fun D σ H ⟨G, s, m, E, rm, rs, q, kn, kr, kb, kc⟩ => by
    unfold sAug at q
    cases h : look s i with
    | none => rw [h] at q; exact q.elim
    | some d =>
      rw [h] at q
      obtain ⟨v, h1, h2⟩ := rs.loc i d (look_get h)
      exact ⟨v, h1, G, s, m, _, rm, rs, q, fun G1 y m1 w H1 e1 r1 ry q1 => ⟨G1, m1, d, y, _, r1, RV.mono e1 d h2, ry, q1, fun G2 z m2 u H2 e2 r2 rz q2 => kn G2 _ m2 _ H2 (e1.trans e2) r2 ((rs.mono (e1.trans e2)).set i rz) q2⟩⟩
/-! ### o[i] = v -/
def sSub (qo qi qv : QE) : QS := fun E s m => qv s m fun v m1 => qo s m1 fun o m2 => qi s m2 fun i m3 => match o with
  | .ref a => (∃ ds k j, i = .int k ∧ m3 a = some (.lst ds) ∧ ixN ds.length k = some j ∧ E.nx s (mset m3 a (.lst (ds.set j v)))) ∨
      ∃ ks k, m3 a = some (.dK ks) ∧ keyD i = some k ∧ ks.length < sizeLine ∧ E.nx s (mset m3 a (.dK (putD ks k v)))
  | _ => False
def rSetA : TSet := fun o i v H Q => rSetL o i v H Q ∨ ∃ a H', o = .ref a ∧ DPut H a i v H' ∧ Q H'
theorem set_any (hu : X.A.units + 1 < cLine) : PSet X rSetA := by
  intro pins s σ H o i v ov iv u Q I ro ri rv h
  rcases h with h | ⟨a, H', rfl, g, q⟩
  · exact set_list pins s σ H o i v ov iv u Q I ro ri rv h
  · obtain rfl : ov = Value.ref a := ro
    exact d_setItem hu I g ri rv fun s' I' => ⟨H', I', q⟩
theorem ds_sub {o i value : Expr} {qo qi qv : QE} {pos' : Pos} (hu : X.A.units + 1 < cLine) (ho : PE X o (liftE X.K qo)) (hi : PE X i (liftE X.K qi)) (hv : PE X value (liftE X.K qv))
    (ha : ∀ v, assign (.Subscript o i pos') X.env v = (do
      let ov ← holding [v] (eval o X.env)
      let iv ← holding [v, ov] (eval i X.env)
      standAt pos'
      holding [v, ov, iv] (setItem ov iv v)
      release [v, ov, iv] []) := by intro _; rfl)
    (hs : swapsWithSole [.Subscript o i pos'] value pos.line X.env = pure false := by rfl) (hw : swappedStores [.Subscript o i pos'] value X.env = pure none := by rfl)
    (h1 : (assignEach [.Subscript o i pos'] X.env).map (·.2) = [assign (.Subscript o i pos') X.env] := by rfl) :
    PS X (.Assign [.Subscript o i pos'] value pos) (liftS X.K (sSub qo qi qv)) :=
  ps_imp (ps_asg hv (pg_sub ho hi (set_any hu) ha) hs hw h1) fun D σ H ⟨G, s, m, E, rm, rs, q, kn, kr, kb, kc⟩ => ⟨G, s, m, _, rm, rs, q, fun G1 v m1 w1 H1 e1 r1 rv q1 => ⟨G1, s, m1, _, r1, rs.mono e1, q1, fun G2 o m2 w2 H2 e2 r2 ro q2 =>
    ⟨G2, s, m2, _, r2, rs.mono (e1.trans e2), q2, fun G3 i m3 w3 H3 e3 r3 ri q3 => by
      cases o with
      | ref a =>
        obtain rfl : w2 = .ref a := ro
        rcases q3 with ⟨ds, k, j, rfl, hm, hj, q3⟩ | ⟨ks, k, hm, hk, hl, q3⟩
        · obtain rfl : w3 = .int k := ri
          obtain ⟨_, w, hw, ys, rfl, h2⟩ := r3.mem a _ hm
          exact .inl ⟨a, ys, k, j, rfl, rfl, hw, by rw [← h2.length]; exact hj, kn G3 s _ σ _ ((e1.trans e2).trans e3) (r3.put (o := .lst _) hm ⟨_, rfl, RVs.set (RV.mono (e2.trans e3) v rv) j h2⟩) (rs.mono ((e1.trans e2).trans e3)) q3⟩
        · obtain ⟨_, w, hw, ys, rfl, h2⟩ := r3.mem a _ hm
          exact .inr ⟨a, _, rfl, .inl ⟨ys, k, hw, ri.key hk, by rw [← h2.length]; exact hl, rfl⟩, kn G3 s _ σ _ ((e1.trans e2).trans e3) (r3.put (o := .dK _) hm ⟨_, rfl, RKs.put k (RV.mono (e2.trans e3) v rv) h2⟩) (rs.mono ((e1.trans e2).trans e3)) q3⟩
      | _ => exact q3.elim⟩⟩⟩
/-! ### weakening what is known, opening what is hidden -/
def sWk (t : QS) : QS := fun E s m => ∃ m', MLe m m' ∧ t E s m'
end
/-! ### loops -/
/-- a walk over data: n turns -/
structure Wk (K : PySem.W.Frag) (J : It) (ds : List D) (C : Mem → Prop) (G0 : Hp) : Prop where
  stop : ∀ G m H, Sub G0 G → RelM K m G H → C m → J.stop ds.length H
  go : ∀ G m H i, Sub G0 G → RelM K m G H → C m → i < ds.length → J.go i H
  yld : ∀ G m H i x H', Sub G0 G → RelM K m G H → C m → i < ds.length → J.yld i H x H' → ∃ G' d, Sub G G' ∧ RelM K m G' H' ∧ ds[i]? = some d ∧ RV K G' d x
abbrev QI := DSt → Mem → (List D → (Mem → Prop) → Mem → Prop) → Prop
def liftI (K : PySem.W.Frag) (q : QI) : TI := fun σ H R => ∃ G s m Φ, RelM K m G H ∧ RelS K s G σ ∧ q s m Φ ∧ ∀ G' ds C m' J H', Sub G G' → RelM K m' G' H' → Wk K J ds C G' → Φ ds C m' → R J H'
theorem pi_imp {X : Cx} {tg e : Expr} {t t' : TI} (h : PI X tg e t) (i : ∀ σ H Q, t' σ H Q → t σ H Q) : PI X tg e t' := ⟨fun pins s σ H Q I w => h.run pins s σ H Q I (i σ H Q w)⟩
theorem pi_or2 {X : Cx} {tg e : Expr} {t t' : TI} (h : PI X tg e t) (h' : PI X tg e t') : PI X tg e (fun σ H Q => t σ H Q ∨ t' σ H Q) := ⟨fun pins s σ H Q I w => w.elim (h.run pins s σ H Q I) (h'.run pins s σ H Q I)⟩
/-- for target in iter: I: the word by the turn -/
def sFor (qi : QI) (p : Pat) (qb : QS) : QS := fun E s m => qi s m fun ds C m1 => ∃ I : Nat → DSt → Mem → Prop, I 0 s m1 ∧ (∀ i s' m', i ≤ ds.length → I i s' m' → C m') ∧
  (∀ i d s' m', ds[i]? = some d → I i s' m' → match asg p d s' with
    | some s2 => qb { E with nx := I (i + 1), ct := I (i + 1), bk := E.nx } s2 m'
    | none => False) ∧ ∀ s' m', I ds.length s' m' → E.nx s' m'
theorem ds_for {X : Cx} {tg iter : Expr} {body : List Stmt} {qi : QI} {p : Pat} {qb : QS} {pos : Pos} (hp : PassesOwn (model X.prog X.w) X.A X.env X.xe) (hc : X.calm = true) (hi : PI X tg iter (liftI X.K qi)) (hg : PG X tg (tgOf X.K p)) (hb : PSs X body (liftS X.K qb))
    (hs : ∀ x, foldedSetIterable iter X.env x = pure x := by intro _; rfl) : PS X (.For tg iter body [] pos) (liftS X.K (sFor qi p qb)) :=
  ps_imp (ps_for hp hc hi hg hb hs) fun D σ H ⟨G, s, m, E, rm, rs, q, kn, kr, kb, kc⟩ => ⟨G, s, m, _, rm, rs, q, fun G1 ds C m1 J H1 e1 r1 wk ⟨I, h0, hC, hS, hE⟩ => by
    refine ⟨fun i n σ' H' => n = ds.length - i ∧ i ≤ ds.length ∧ ∃ G2 s2 m2, Sub G1 G2 ∧ RelM X.K m2 G2 H' ∧ RelS X.K s2 G2 σ' ∧ I i s2 m2, ⟨_, rfl, Nat.zero_le _, G1, s, m1, Sub.refl G1, r1, rs.mono e1, h0⟩, ?_⟩
    rintro i n σ' H' ⟨rfl, hi', G2, s2, m2, e2, r2, rs2, h2⟩
    by_cases hlt : i < ds.length
    · refine .inr ⟨wk.go G2 m2 H' i e2 r2 (hC i s2 m2 hi' h2) hlt, fun σ3 H3 => ∃ G3 s3 m3, Sub G1 G3 ∧ RelM X.K m3 G3 H3 ∧ RelS X.K s3 G3 σ3 ∧ I (i + 1) s3 m3, fun σ3 H3 ⟨G3, s3, m3, a, b, c, d⟩ => ⟨_, by omega, rfl, hlt, G3, s3, m3, a, b, c, d⟩, fun x H3 y => ?_⟩
      obtain ⟨G3, d, e3, r3, hd, rd⟩ := wk.yld G2 m2 H' i x H3 e2 r2 (hC i s2 m2 hi' h2) hlt y
      have hs := hS i d s2 m2 hd h2
      cases ha : asg p d s2 with
      | none => rw [ha] at hs; exact hs.elim
      | some s3 =>
        rw [ha] at hs
        obtain ⟨σ3, rs3, run, _⟩ := asg_run r3.sub p rd (rs2.mono e3) ha
        have ee := e2.trans e3
        refine run _ ⟨G3, s3, m2, _, r3, rs3, hs, ?_, kr.mono (e1.trans ee), kn.mono (e1.trans ee), ?_⟩
        · exact fun G4 s4 m4 σ4 H4 e4 r4 rs4 h4 => ⟨G4, s4, m4, ee.trans e4, r4, rs4, h4⟩
        · exact fun G4 s4 m4 σ4 H4 e4 r4 rs4 h4 => ⟨G4, s4, m4, ee.trans e4, r4, rs4, h4⟩
    · have e : i = ds.length := by omega
      subst e
      exact .inl ⟨wk.stop G2 m2 H' e2 r2 (hC _ s2 m2 hi' h2), kn G2 s2 m2 σ' H' (e1.trans e2) r2 rs2 (hE s2 m2 h2)⟩⟩
/-- while: I by a measure -/
def sWhile (c : QT) (qb : QS) : QS := fun E s m => ∃ I : Nat → DSt → Mem → Prop, (∃ n, I n s m) ∧ ∀ n s' m', I n s' m' → c s' m' fun b m1 => qIf b (qb { E with nx := fun s2 m2 => ∃ n', n' < n ∧ I n' s2 m2, ct := fun s2 m2 => ∃ n', n' < n ∧ I n' s2 m2, bk := E.nx } s' m1) (E.nx s' m1)
theorem ds_while {X : Cx} {c : Expr} {body : List Stmt} {qc : QT} {qb : QS} {pos : Pos} (hp : PassesOwn (model X.prog X.w) X.A X.env X.xe) (hc : PT X c (liftT X.K qc)) (hb : PSs X body (liftS X.K qb)) : PS X (.While c body [] pos) (liftS X.K (sWhile qc qb)) :=
  ps_imp (ps_while hp hc hb) fun D σ H ⟨G, s, m, E, rm, rs, ⟨I, ⟨n0, h0⟩, hS⟩, kn, kr, kb, kc⟩ => by
    refine ⟨fun n σ' H' => ∃ G2 s2 m2, Sub G G2 ∧ RelM X.K m2 G2 H' ∧ RelS X.K s2 G2 σ' ∧ I n s2 m2, ⟨n0, G, s, m, Sub.refl G, rm, rs, h0⟩, ?_⟩
    rintro n σ' H' ⟨G2, s2, m2, e2, r2, rs2, h2⟩
    refine ⟨G2, s2, m2, _, r2, rs2, hS n s2 m2 h2, fun G3 b m3 H3 e3 r3 q3 => ?_⟩
    have q3 := qif_e q3
    dsimp only
    have ee := e2.trans e3
    cases b with
    | true =>
      rw [if_pos rfl] at q3 ⊢
      refine ⟨fun σ4 H4 => ∃ n', n' < n ∧ ∃ G4 s4 m4, Sub G G4 ∧ RelM X.K m4 G4 H4 ∧ RelS X.K s4 G4 σ4 ∧ I n' s4 m4, fun σ4 H4 z => z, G3, s2, m3, _, r3, rs2.mono e3, q3, ?_, kr.mono ee, kn.mono ee, ?_⟩
      · exact fun G4 s4 m4 σ4 H4 e4 r4 rs4 ⟨n', hn, h4⟩ => ⟨n', hn, G4, s4, m4, ee.trans e4, r4, rs4, h4⟩
      · exact fun G4 s4 m4 σ4 H4 e4 r4 rs4 ⟨n', hn, h4⟩ => ⟨n', hn, G4, s4, m4, ee.trans e4, r4, rs4, h4⟩
    | false =>
      rw [if_neg Bool.false_ne_true] at q3 ⊢
      exact kn G3 s2 m3 σ' H3 ee r3 (rs2.mono e3) q3
/-! ### sources -/
section
variable {X : Cx} {tg e : Expr} {qe : QE} {qa : QA}
theorem wk_list {K : PySem.W.Frag} {G0 : Hp} {a : Addr} {ds : List D} {xs : List V} (h : SqL K G0 a xs) (r : RVs K G0 ds xs) : Wk K (Itl K a) ds (fun _ => True) G0 where
  stop := fun G m H e rm _ => ⟨xs, rm.sub.l (e.l h), by rw [r.length]; exact Nat.le_refl _⟩
  go := fun G m H i e rm _ hi => ⟨xs, xs[i]'(by rw [← r.length]; exact hi), rm.sub.l (e.l h), by simp [show i < xs.length by rw [← r.length]; exact hi]⟩
  yld := fun G m H i x H' e rm _ hi y => by
    obtain ⟨rfl, y⟩ := y
    obtain ⟨d, h1, h2⟩ := r.getV (y xs (rm.sub.l (e.l h)))
    exact ⟨G, d, Sub.refl G, rm, h1, RV.mono e d h2⟩
theorem wk_tup {K : PySem.W.Frag} {G0 : Hp} {a : Addr} {ds : List D} {xs : List V} (h : SqT K G0 a xs) (r : RVs K G0 ds xs) : Wk K (Itt K a) ds (fun _ => True) G0 where
  stop := fun G m H e rm _ => ⟨xs, rm.sub.t (e.t h), by rw [r.length]; exact Nat.le_refl _⟩
  go := fun G m H i e rm _ hi => ⟨xs, xs[i]'(by rw [← r.length]; exact hi), rm.sub.t (e.t h), by simp [show i < xs.length by rw [← r.length]; exact hi]⟩
  yld := fun G m H i x H' e rm _ hi y => by
    obtain ⟨rfl, y⟩ := y
    obtain ⟨d, h1, h2⟩ := r.getV (y xs (rm.sub.t (e.t h)))
    exact ⟨G, d, Sub.refl G, rm, h1, RV.mono e d h2⟩
/-- a list that may change, but does not while it is walked -/
theorem wk_ref {K : PySem.W.Frag} {G0 : Hp} {a : Addr} {ds : List D} : Wk K (Itl K a) ds (fun m => m a = some (.lst ds)) G0 where
  stop := fun G m H e rm hm => by
    obtain ⟨_, w, hw, xs, rfl, h2⟩ := rm.mem a _ hm
    exact ⟨xs, .inl (.inl hw), by rw [h2.length]; exact Nat.le_refl _⟩
  go := fun G m H i e rm hm hi => by
    obtain ⟨_, w, hw, xs, rfl, h2⟩ := rm.mem a _ hm
    exact ⟨xs, xs[i]'(by rw [← h2.length]; exact hi), .inl (.inl hw), by simp [show i < xs.length by rw [← h2.length]; exact hi]⟩
  yld := fun G m H i x H' e rm hm hi y => by
    obtain ⟨_, w, hw, xs, rfl, h2⟩ := rm.mem a _ hm
    obtain ⟨rfl, y⟩ := y
    obtain ⟨d, h3, h4⟩ := h2.getV (y xs (.inl (.inl hw)))
    exact ⟨G, d, Sub.refl G, rm, h3, h4⟩
theorem wk_range {K : PySem.W.Frag} {G0 : Hp} {lo : Int} {n : Nat} : Wk K (Itr lo n) ((List.range n).map fun (i : Nat) => D.int (lo + i)) (fun _ => True) G0 where
  stop := fun G m H e rm _ => by rw [List.length_map, List.length_range]; exact Nat.le_refl _
  go := fun G m H i e rm _ hi => by rw [List.length_map, List.length_range] at hi; exact hi
  yld := fun G m H i x H' e rm _ hi y => by
    obtain ⟨rfl, rfl⟩ := y
    rw [List.length_map, List.length_range] at hi
    exact ⟨G, .int (lo + i), Sub.refl G, rm, by simp [hi], rfl⟩
def iLst (qe : QE) : QI := fun s m Φ => qe s m fun x m1 => match x with
  | .lst ds => Φ ds (fun _ => True) m1
  | .ref a => ∃ ds, m1 a = some (.lst ds) ∧ Φ ds (fun m => m a = some (.lst ds)) m1
  | _ => False
theorem di_lst (h : PE X e (liftE X.K qe)) : PI X tg e (liftI X.K (iLst qe)) := pi_imp (pi_list h) fun σ H R ⟨G, s, m, Φ, rm, rs, q, k⟩ => ⟨G, s, m, _, rm, rs, q, fun G1 x m1 v H1 e1 r1 rx q1 => by
  cases x with
  | lst ds =>
    obtain ⟨a, xs, rfl, h1, h2⟩ := rx
    exact ⟨a, rfl, ⟨xs, r1.sub.l h1⟩, k G1 ds _ m1 _ H1 e1 r1 (wk_list h1 h2) q1⟩
  | ref a =>
    obtain rfl : v = .ref a := rx
    obtain ⟨ds, hm, q1⟩ := q1
    obtain ⟨_, w, hw, xs, rfl, h2⟩ := r1.mem a _ hm
    exact ⟨a, rfl, ⟨xs, .inl (.inl hw)⟩, k G1 ds _ m1 _ H1 e1 r1 wk_ref q1⟩
  | _ => exact q1.elim⟩
def iTup (qe : QE) : QI := fun s m Φ => qe s m fun x m1 => match x with
  | .tup ds => Φ ds (fun _ => True) m1
  | _ => False
theorem di_tup (h : PE X e (liftE X.K qe)) : PI X tg e (liftI X.K (iTup qe)) := pi_imp (pi_tup h) fun σ H R ⟨G, s, m, Φ, rm, rs, q, k⟩ => ⟨G, s, m, _, rm, rs, q, fun G1 x m1 v H1 e1 r1 rx q1 => by
  cases x with
  | tup ds =>
    obtain ⟨a, xs, rfl, h1, h2⟩ := rx
    exact ⟨a, rfl, ⟨xs, r1.sub.t h1⟩, k G1 ds _ m1 _ H1 e1 r1 (wk_tup h1 h2) q1⟩
  | _ => exact q1.elim⟩
/-- range(n), range(i, j) -/
def intsD (lo : Int) (n : Nat) : List D := (List.range n).map fun (i : Nat) => D.int (lo + i)
def iRange1 (qa : QA) : QI := fun s m Φ => qa s m fun ds m1 => match ds with
  | [.int j] => -(2 ^ 62) ≤ j ∧ j < 2 ^ 62 ∧ Φ (intsD 0 j.toNat) (fun _ => True) m1
  | _ => False
theorem di_range1 {a : Expr} {p pos : Pos} (hg : Gl X "range") (hm : X.mg "range" = none) (ha : PA X [a] (liftA X.K qa)) (hs : starEach [a] X.env = [(false, eval a X.env)] := by rfl) : PI X tg (.Call (.Name "range" p) [a] [] pos) (liftI X.K (iRange1 qa)) :=
  pi_imp (pi_range1 hg hm ha hs) fun σ H R ⟨G, s, m, Φ, rm, rs, q, k⟩ => ⟨G, s, m, _, rm, rs, q, fun G1 ds m1 vs H1 e1 r1 rd q1 => by
    split at q1
    · rename_i j
      obtain ⟨v, rfl, h⟩ := rv1 rd
      obtain rfl : v = .int j := h
      exact ⟨j, rfl, q1.1, q1.2.1, k G1 _ _ m1 _ H1 e1 r1 wk_range q1.2.2⟩
    · exact q1.elim⟩
def iRange2 (qa : QA) : QI := fun s m Φ => qa s m fun ds m1 => match ds with
  | [.int i, .int j] => (-(2 ^ 62) ≤ i ∧ i < 2 ^ 62 ∧ -(2 ^ 62) ≤ j ∧ j < 2 ^ 62) ∧ Φ (intsD i (j - i).toNat) (fun _ => True) m1
  | _ => False
theorem di_range2 {a b : Expr} {p pos : Pos} (hg : Gl X "range") (hm : X.mg "range" = none) (ha : PA X [a, b] (liftA X.K qa)) (hs : starEach [a, b] X.env = [(false, eval a X.env), (false, eval b X.env)] := by rfl) (hs2 : starEach [b] X.env = [(false, eval b X.env)] := by rfl) :
    PI X tg (.Call (.Name "range" p) [a, b] [] pos) (liftI X.K (iRange2 qa)) :=
  pi_imp (pi_range2 hg hm ha hs hs2) fun σ H R ⟨G, s, m, Φ, rm, rs, q, k⟩ => ⟨G, s, m, _, rm, rs, q, fun G1 ds m1 vs H1 e1 r1 rd q1 => by
    split at q1
    · rename_i i j
      obtain ⟨v, u, rfl, h, h'⟩ := rv2 rd
      obtain rfl : v = .int i := h
      obtain rfl : u = .int j := h'
      exact ⟨i, j, rfl, q1.1, k G1 _ _ m1 _ H1 e1 r1 wk_range q1.2⟩
    · exact q1.elim⟩
end
end L3
namespace L3
open PySem L2
/-! ### dicts walked -/
def dKey : Key → D
  | .inl i => .int i
  | .inr x => .str x
theorem rv_dKey {K : PySem.W.Frag} {G : Hp} : ∀ k : Key, RV K G (dKey k) (kV k)
  | .inl _ => rfl
  | .inr _ => rfl
theorem keyD_dKey : ∀ k : Key, keyD (dKey k) = some k
  | .inl _ => rfl
  | .inr _ => rfl
theorem RKs.getV {K : PySem.W.Frag} {G : Hp} {κ : Type} : ∀ {ds : List (κ × D)} {xs : List (κ × V)} {i : Nat} {k : κ} {x : V}, RKs K G ds xs → xs[i]? = some (k, x) → ∃ d, ds[i]? = some (k, d) ∧ RV K G d x
  | [], _, _, _, _, h, e => by rw [show _ = [] from h] at e; simp at e
  | p :: _, _, 0, k, y, ⟨x, r, h1, h2, h3⟩, e => by
    subst h1
    have e : (p.1, x) = (k, y) := Option.some.inj e
    cases e
    exact ⟨p.2, rfl, h2⟩
  | _ :: _, _, i + 1, _, _, ⟨x, r, h1, h2, h3⟩, e => by
    subst h1
    exact RKs.getV (i := i) h3 e
section
variable {K : PySem.W.Frag} {G0 : Hp} {a : Addr} {o : Obj} {ks : List (Key × D)} {xs : List (Key × V)}
theorem wk_items (g : G0 a = some (.frz o (.dK xs))) (r : RKs K G0 ks xs) : Wk K (Iti a o xs) (ks.map fun p => .tup [dKey p.1, p.2]) (fun m => m a = some (.fz ks)) G0 where
  stop := fun G m H e rm _ => ⟨rm.sub _ _ (e _ _ g), by rw [List.length_map, r.length]; exact Nat.le_refl _⟩
  go := fun G m H i e rm _ hi => ⟨rm.sub _ _ (e _ _ g), by rw [List.length_map, r.length] at hi; exact hi⟩
  yld := fun G m H i x H' e rm _ hi y => by
    obtain ⟨T, k, v, h1, rfl, h2, rfl⟩ := y
    obtain ⟨d, h3, h4⟩ := r.getV h1
    obtain ⟨r1, e1⟩ := rm.lay (u := .tup [kV k, v]) h2
    exact ⟨_, .tup [dKey k, d], e1, r1, by rw [List.getElem?_map, h3]; rfl, T, _, rfl, .inl (.inl upd_same), RVs.cons (rv_dKey k) (RVs.one (RV.mono (e.trans e1) d h4))⟩
theorem wk_keys (g : G0 a = some (.frz o (.dK xs))) (r : RKs K G0 ks xs) : Wk K (Itk a o xs) (ks.map fun p => dKey p.1) (fun m => m a = some (.fz ks)) G0 where
  stop := fun G m H e rm _ => ⟨rm.sub _ _ (e _ _ g), by rw [List.length_map, r.length]; exact Nat.le_refl _⟩
  go := fun G m H i e rm _ hi => ⟨rm.sub _ _ (e _ _ g), by rw [List.length_map, r.length] at hi; exact hi⟩
  yld := fun G m H i x H' e rm _ hi y => by
    obtain ⟨rfl, k, v, h1, rfl⟩ := y
    obtain ⟨d, h3, h4⟩ := r.getV h1
    exact ⟨G, dKey k, Sub.refl G, rm, by rw [List.getElem?_map, h3]; rfl, rv_dKey k⟩
theorem wk_vals (g : G0 a = some (.frz o (.dK xs))) (r : RKs K G0 ks xs) : Wk K (Itd a o xs) (ks.map fun p => p.2) (fun m => m a = some (.fz ks)) G0 where
  stop := fun G m H e rm _ => ⟨rm.sub _ _ (e _ _ g), by rw [List.length_map, r.length]; exact Nat.le_refl _⟩
  go := fun G m H i e rm _ hi => ⟨rm.sub _ _ (e _ _ g), by rw [List.length_map, r.length] at hi; exact hi⟩
  yld := fun G m H i x H' e rm _ hi y => by
    obtain ⟨rfl, k, h1⟩ := y
    obtain ⟨d, h3, h4⟩ := r.getV h1
    exact ⟨G, d, Sub.refl G, rm, by rw [List.getElem?_map, h3]; rfl, RV.mono e d h4⟩
end
def iDict (f : Key × D → D) (qe : QE) : QI := fun s m Φ => qe s m fun x m1 => match x with
  | .ref a => ∃ ks, m1 a = some (.fz ks) ∧ Φ (ks.map f) (fun m => m a = some (.fz ks)) m1
  | _ => False
abbrev fItem : Key × D → D := fun p => .tup [dKey p.1, p.2]
abbrev fKey : Key × D → D := fun p => dKey p.1
abbrev fVal : Key × D → D := fun p => p.2
section
variable {X : Cx} {tg e : Expr} {qe : QE} {apos cpos : Pos} {s : Shared}
theorem fz_at {K : PySem.W.Frag} {m : Mem} {G H : Hp} {a : Addr} {ks : List (Key × D)} (rm : RelM K m G H) (hm : m a = some (.fz ks)) : ∃ o xs, G a = some (.frz o (.dK xs)) ∧ H a = some (.frz o (.dK xs)) ∧ RKs K G ks xs := by
  obtain ⟨g, u, hu, o, xs, rfl, r⟩ := rm.mem a _ hm
  have g : G a = H a := g
  exact ⟨o, xs, by rw [g]; exact hu, hu, r⟩
theorem di_items {elts : List Expr} {kk : Nat} {tpos : Pos} (h : PE X e (liftE X.K qe)) (hbase : attributeBase e "items" X.env (eval e X.env) = eval e X.env := by rfl) (hline : (apos.endLine == cpos.line) = true := by rfl) :
    PI X (.Tuple elts kk tpos) (.Call (.Attribute e "items" apos) [] [] cpos) (liftI X.K (iDict fItem qe)) :=
  pi_imp (pi_items h hbase hline) fun σ H R ⟨G, s, m, Φ, rm, rs, q, k⟩ => ⟨G, s, m, _, rm, rs, q, fun G1 x m1 v H1 e1 r1 rx q1 => by
    cases x with
    | ref a =>
      obtain rfl : v = .ref a := rx
      obtain ⟨ks, hm, q1⟩ := q1
      obtain ⟨o, xs, g, hH, r⟩ := fz_at r1 hm
      exact ⟨a, o, xs, rfl, hH, k G1 _ _ m1 _ H1 e1 r1 (wk_items g r) q1⟩
    | _ => exact q1.elim⟩
theorem di_values (h : PE X e (liftE X.K qe)) (hbase : attributeBase e "values" X.env (eval e X.env) = eval e X.env := by rfl) (hline : (apos.endLine == cpos.line) = true := by rfl) :
    PI X tg (.Call (.Attribute e "values" apos) [] [] cpos) (liftI X.K (iDict fVal qe)) :=
  pi_imp (pi_values h hbase hline) fun σ H R ⟨G, s, m, Φ, rm, rs, q, k⟩ => ⟨G, s, m, _, rm, rs, q, fun G1 x m1 v H1 e1 r1 rx q1 => by
    cases x with
    | ref a =>
      obtain rfl : v = .ref a := rx
      obtain ⟨ks, hm, q1⟩ := q1
      obtain ⟨o, xs, g, hH, r⟩ := fz_at r1 hm
      exact ⟨a, o, xs, rfl, hH, k G1 _ _ m1 _ H1 e1 r1 (wk_vals g r) q1⟩
    | _ => exact q1.elim⟩
theorem di_keys (h : PE X e (liftE X.K qe)) : PI X tg e (liftI X.K (iDict fKey qe)) :=
  pi_imp (pi_keys h) fun σ H R ⟨G, s, m, Φ, rm, rs, q, k⟩ => ⟨G, s, m, _, rm, rs, q, fun G1 x m1 v H1 e1 r1 rx q1 => by
    cases x with
    | ref a =>
      obtain rfl : v = .ref a := rx
      obtain ⟨ks, hm, q1⟩ := q1
      obtain ⟨o, xs, g, hH, r⟩ := fz_at r1 hm
      exact ⟨a, o, rfl, .inl ⟨xs, hH, k G1 _ _ m1 _ H1 e1 r1 (wk_keys g r) q1⟩⟩
    | _ => exact q1.elim⟩
/-- an expression, a statement, while a dict is locked -/
def qLock (q : QE) : QE := fun s m Φ => ∃ a ks, m a = some (.dK ks) ∧ q s (mset m a (.fz ks)) fun d m' => Φ d (mset m' a (.dK ks))
theorem de_lock (h : PE X e (liftE X.K qe)) : PE X e (liftE X.K (qLock qe)) := pe_imp (pe_lock h) fun σ H Q ⟨G, s, m, Φ, rm, rs, ⟨a, ks, hm, q⟩, k⟩ => by
  obtain ⟨g, u, hu, xs, rfl, r⟩ := rm.mem a _ hm
  have g : G a = none := g
  refine ⟨a, .dK xs, hu, trivial, fun od => ?_⟩
  obtain ⟨r1, e1⟩ := rm.lock hm hu od
  refine ⟨_, s, _, _, r1, rs.mono e1, q, fun G2 d m2 v H2 e2 r2 rv q2 => ?_⟩
  obtain ⟨h1, h2, h3⟩ := r2.unlock g e2 r
  have ga := e2 a _ upd_same
  exact ⟨h1, k _ d _ v _ h2 h3 (RV.unfz ga (fun ys => ⟨(fun z => by cases z), fun z => by cases z⟩) d rv) q2⟩
def sLock (q : QS) : QS := fun E s m => ∃ a ks, m a = some (.dK ks) ∧ q ⟨fun s' m' => E.nx s' (mset m' a (.dK ks)), fun d m' => E.rt d (mset m' a (.dK ks)), fun s' m' => E.bk s' (mset m' a (.dK ks)), fun s' m' => E.ct s' (mset m' a (.dK ks))⟩ s (mset m a (.fz ks))
theorem RelS.unfz {K : PySem.W.Frag} {G : Hp} {a : Addr} {od : Obj} {w : HO} {s : DSt} {σ : St} (h : G a = some (.frz od w)) (hw : ∀ xs, w ≠ .tup xs ∧ w ≠ .lst xs) (r : RelS K s G σ) : RelS K s (unl G a) σ :=
  ⟨r.len, fun i d e => let ⟨v, h1, h2⟩ := r.loc i d e; ⟨v, h1, RV.unfz h hw d h2⟩⟩
theorem ds_lock {st : Stmt} {t : QS} (h : PS X st (liftS X.K t)) : PS X st (liftS X.K (sLock t)) := ps_imp (ps_lock h) fun D σ H ⟨G, s, m, E, rm, rs, ⟨a, ks, hm, q⟩, kn, kr, kb, kc⟩ => by
  obtain ⟨g, u, hu, xs, rfl, r⟩ := rm.mem a _ hm
  have g : G a = none := g
  refine ⟨a, .dK xs, hu, trivial, fun od => ?_⟩
  obtain ⟨r1, e1⟩ := rm.lock hm hu od
  have hw : ∀ ys, (HO.dK xs) ≠ .tup ys ∧ (HO.dK xs) ≠ .lst ys := fun ys => ⟨(fun z => by cases z), fun z => by cases z⟩
  refine ⟨_, s, _, _, r1, rs.mono e1, q, ?_, ?_, ?_, ?_⟩
  · exact fun G2 s2 m2 σ2 H2 e2 r2 rs2 q2 => let ⟨h1, h2, h3⟩ := r2.unlock g e2 r; ⟨h1, kn _ s2 _ σ2 _ h2 h3 (rs2.unfz (e2 a _ upd_same) hw) q2⟩
  · exact fun G2 d m2 v H2 e2 r2 rv q2 => let ⟨h1, h2, h3⟩ := r2.unlock g e2 r; ⟨h1, kr _ d _ v _ h2 h3 (RV.unfz (e2 a _ upd_same) hw d rv) q2⟩
  · exact fun G2 s2 m2 σ2 H2 e2 r2 rs2 q2 => let ⟨h1, h2, h3⟩ := r2.unlock g e2 r; ⟨h1, kb _ s2 _ σ2 _ h2 h3 (rs2.unfz (e2 a _ upd_same) hw) q2⟩
  · exact fun G2 s2 m2 σ2 H2 e2 r2 rs2 q2 => let ⟨h1, h2, h3⟩ := r2.unlock g e2 r; ⟨h1, kc _ s2 _ σ2 _ h2 h3 (rs2.unfz (e2 a _ upd_same) hw) q2⟩
end
/-! ### zip, enumerate -/
/-- pairs of the items, up to the shorter -/
def zipD : List D → List D → List D
  | x :: xs, y :: ys => .tup [x, y] :: zipD xs ys
  | _, _ => []
theorem zipD_length : ∀ xs ys : List D, (zipD xs ys).length = min xs.length ys.length
  | [], _ => by simp [zipD]
  | _ :: _, [] => by simp [zipD]
  | x :: xs, y :: ys => by
    rw [zipD, List.length_cons, zipD_length xs ys, List.length_cons, List.length_cons]; omega
theorem zipD_get : ∀ {xs ys : List D} {i : Nat} {x y : D}, xs[i]? = some x → ys[i]? = some y → (zipD xs ys)[i]? = some (.tup [x, y])
  | [], _, _, _, _, h, _ => by simp at h
  | _ :: _, [], _, _, _, _, h => by simp at h
  | a :: xs, b :: ys, 0, x, y, h1, h2 => by
    cases h1; cases h2; rfl
  | a :: xs, b :: ys, i + 1, x, y, h1, h2 => by
    rw [zipD]
    exact zipD_get (xs := xs) (ys := ys) (i := i) h1 h2
section
variable {K : PySem.W.Frag} {G0 : Hp} {a b : Addr} {ds es : List D}
/-- what tells the list at a -/
def LsAt (K : PySem.W.Frag) (C : Mem → Prop) (G0 : Hp) (a : Addr) (ds : List D) : Prop := ∀ G m H, Sub G0 G → RelM K m G H → C m → ∃ xs, SqL K H a xs ∧ RVs K G ds xs
theorem lsAt_lst {xs : List V} (h : SqL K G0 a xs) (r : RVs K G0 ds xs) : LsAt K (fun _ => True) G0 a ds := fun G m H e rm _ => ⟨xs, rm.sub.l (e.l h), RVs.mono e _ r⟩
theorem lsAt_ref : LsAt K (fun m => m a = some (.lst ds)) G0 a ds := fun G m H e rm hm => by
  obtain ⟨_, w, hw, xs, rfl, h2⟩ := rm.mem a _ hm
  exact ⟨xs, .inl (.inl hw), h2⟩
theorem wk_zip {C1 C2 : Mem → Prop} (h1 : LsAt K C1 G0 a ds) (h2 : LsAt K C2 G0 b es) : Wk K (Itz K a b) (zipD ds es) (fun m => C1 m ∧ C2 m) G0 where
  stop := fun G m H e rm hc => by
    obtain ⟨xs, s1, r1⟩ := h1 G m H e rm hc.1
    obtain ⟨ys, s2, r2⟩ := h2 G m H e rm hc.2
    exact ⟨xs, ys, s1, s2, by rw [zipD_length, r1.length, r2.length]; omega⟩
  go := fun G m H i e rm hc hi => by
    obtain ⟨xs, s1, r1⟩ := h1 G m H e rm hc.1
    obtain ⟨ys, s2, r2⟩ := h2 G m H e rm hc.2
    rw [zipD_length, r1.length, r2.length] at hi
    have a1 : i < xs.length := by omega
    have a2 : i < ys.length := by omega
    exact ⟨xs, ys, xs[i], ys[i], s1, s2, by simp [a1], by simp [a2]⟩
  yld := fun G m H i x H' e rm hc hi y => by
    obtain ⟨xs, s1, r1⟩ := h1 G m H e rm hc.1
    obtain ⟨ys, s2, r2⟩ := h2 G m H e rm hc.2
    obtain ⟨T, u, v, rfl, hT, rfl, y1, y2⟩ := y
    obtain ⟨d1, a1, b1⟩ := r1.getV (y1 xs s1)
    obtain ⟨d2, a2, b2⟩ := r2.getV (y2 ys s2)
    obtain ⟨r3, e3⟩ := rm.lay (u := .tup [u, v]) hT
    exact ⟨_, .tup [d1, d2], e3, r3, zipD_get a1 a2, T, _, rfl, .inl (.inl upd_same), RVs.cons (RV.mono e3 d1 b1) (RVs.one (RV.mono e3 d2 b2))⟩
theorem wk_zipT {xs ys : List V} (h1 : SqT K G0 a xs) (r1 : RVs K G0 ds xs) (h2 : SqT K G0 b ys) (r2 : RVs K G0 es ys) : Wk K (RZ.ItzT K a b) (zipD ds es) (fun _ => True) G0 where
  stop := fun G m H e rm hc => ⟨xs, ys, rm.sub.t (e.t h1), rm.sub.t (e.t h2), by rw [zipD_length, r1.length, r2.length]; omega⟩
  go := fun G m H i e rm hc hi => by
    rw [zipD_length, r1.length, r2.length] at hi
    have a1 : i < xs.length := by omega
    have a2 : i < ys.length := by omega
    exact ⟨xs, ys, xs[i], ys[i], rm.sub.t (e.t h1), rm.sub.t (e.t h2), by simp [a1], by simp [a2]⟩
  yld := fun G m H i x H' e rm hc hi y => by
    obtain ⟨T, u, v, rfl, hT, rfl, y1, y2⟩ := y
    obtain ⟨d1, a1, b1⟩ := r1.getV (y1 xs (rm.sub.t (e.t h1)))
    obtain ⟨d2, a2, b2⟩ := r2.getV (y2 ys (rm.sub.t (e.t h2)))
    obtain ⟨r3, e3⟩ := rm.lay (u := .tup [u, v]) hT
    exact ⟨_, .tup [d1, d2], e3, r3, zipD_get a1 a2, T, _, rfl, .inl (.inl upd_same), RVs.cons (RV.mono (e.trans e3) d1 b1) (RVs.one (RV.mono (e.trans e3) d2 b2))⟩
/-- enumerate -/
def enumD (ds : List D) (n : Nat) : List D := match ds with
  | [] => []
  | d :: ds => .tup [.int n, d] :: enumD ds (n + 1)
theorem enumD_length : ∀ (ds : List D) (n : Nat), (enumD ds n).length = ds.length
  | [], _ => rfl
  | d :: ds, n => by rw [enumD, List.length_cons, List.length_cons, enumD_length ds (n + 1)]
theorem enumD_get : ∀ {ds : List D} {n i : Nat} {d : D}, ds[i]? = some d → (enumD ds n)[i]? = some (.tup [.int ((n + i : Nat) : Int), d])
  | [], _, _, _, h => by simp at h
  | a :: ds, n, 0, d, h => by cases h; rfl
  | a :: ds, n, i + 1, d, h => by
    rw [enumD]
    have := enumD_get (ds := ds) (n := n + 1) (i := i) (d := d) h
    rw [show n + (i + 1) = n + 1 + i from by omega]
    exact this
theorem wk_enum {C : Mem → Prop} (h1 : LsAt K C G0 a ds) : Wk K (Ite K a) (enumD ds 0) C G0 where
  stop := fun G m H e rm hc => by
    obtain ⟨xs, s1, r1⟩ := h1 G m H e rm hc
    exact ⟨xs, s1, by rw [enumD_length, r1.length]; exact Nat.le_refl _⟩
  go := fun G m H i e rm hc hi => by
    obtain ⟨xs, s1, r1⟩ := h1 G m H e rm hc
    rw [enumD_length, r1.length] at hi
    exact ⟨xs, xs[i], s1, by simp [hi]⟩
  yld := fun G m H i x H' e rm hc hi y => by
    obtain ⟨xs, s1, r1⟩ := h1 G m H e rm hc
    obtain ⟨T, u, rfl, hT, rfl, y1⟩ := y
    obtain ⟨d1, a1, b1⟩ := r1.getV (y1 xs s1)
    obtain ⟨r3, e3⟩ := rm.lay (u := .tup [.int (i : Nat), u]) hT
    refine ⟨_, .tup [.int ((0 + i : Nat) : Int), d1], e3, r3, enumD_get a1, T, _, rfl, .inl (.inl upd_same), RVs.cons ?_ (RVs.one (RV.mono e3 d1 b1))⟩
    rw [Nat.zero_add]; rfl
end
/-- zip(x, y): two lists (each one that may change, or not), or two tuples -/
def iZipD (qa : QA) : QI := fun s m Φ => qa s m fun ds m1 => match ds with
  | [.lst xs, .lst ys] => Φ (zipD xs ys) (fun _ => True) m1
  | [.tup xs, .tup ys] => Φ (zipD xs ys) (fun _ => True) m1
  | [.ref a, .ref b] => ∃ xs ys, m1 a = some (.lst xs) ∧ m1 b = some (.lst ys) ∧ Φ (zipD xs ys) (fun m => m a = some (.lst xs) ∧ m b = some (.lst ys)) m1
  | [.ref a, .lst ys] => ∃ xs, m1 a = some (.lst xs) ∧ Φ (zipD xs ys) (fun m => m a = some (.lst xs)) m1
  | [.lst xs, .ref b] => ∃ ys, m1 b = some (.lst ys) ∧ Φ (zipD xs ys) (fun m => m b = some (.lst ys)) m1
  | _ => False
theorem Wk.imp {K : PySem.W.Frag} {J : It} {ds : List D} {C C' : Mem → Prop} {G0 : Hp} (w : Wk K J ds C G0) (h : ∀ m, C' m → C m) : Wk K J ds C' G0 :=
  ⟨fun G m H e rm c => w.stop G m H e rm (h m c), fun G m H i e rm c => w.go G m H i e rm (h m c), fun G m H i x H' e rm c => w.yld G m H i x H' e rm (h m c)⟩
section
variable {X : Cx} {tg e : Expr} {qe : QE} {qa : QA}
theorem di_zip {e2 : Expr} {p pos tpos : Pos} {elts : List Expr} {kk : Nat} (hg : Gl X "zip") (hm : X.mg "zip" = none) (ha : PA X [e, e2] (liftA X.K qa)) (hs : starEach [e, e2] X.env = (false, eval e X.env) :: starEach [e2] X.env := by rfl) (hpl : (backTo pos (starEach [e2] X.env)).any (·.1) = false := by rfl) :
    PI X (.Tuple elts kk tpos) (.Call (.Name "zip" p) [e, e2] [] pos) (liftI X.K (iZipD qa)) :=
  pi_imp (RZ.pi_zipA hg hm ha hs hpl) fun σ H R ⟨G, s, m, Φ, rm, rs, q, k⟩ => ⟨G, s, m, _, rm, rs, q, fun G1 ds m1 vs H1 e1 r1 rd q1 => by
    split at q1
    · obtain ⟨v, u, rfl, ⟨a, xs, rfl, h1, h2⟩, b, ys, rfl, h3, h4⟩ := rv2 rd
      exact ⟨a, b, xs, ys, rfl, .inl ⟨r1.sub.l h1, r1.sub.l h3, k G1 _ _ m1 _ H1 e1 r1 ((wk_zip (lsAt_lst h1 h2) (lsAt_lst h3 h4)).imp fun m _ => ⟨trivial, trivial⟩) q1⟩⟩
    · obtain ⟨v, u, rfl, ⟨a, xs, rfl, h1, h2⟩, b, ys, rfl, h3, h4⟩ := rv2 rd
      exact ⟨a, b, xs, ys, rfl, .inr ⟨r1.sub.t h1, r1.sub.t h3, k G1 _ _ m1 _ H1 e1 r1 (wk_zipT h1 h2 h3 h4) q1⟩⟩
    · rename_i a b
      obtain ⟨v, u, rfl, h1, h2⟩ := rv2 rd
      obtain rfl : v = .ref a := h1
      obtain rfl : u = .ref b := h2
      obtain ⟨xs, ys, hx, hy, q1⟩ := q1
      obtain ⟨_, w, hw, vs, rfl, g1⟩ := r1.mem a _ hx
      obtain ⟨_, w', hw', us, rfl, g2⟩ := r1.mem b _ hy
      exact ⟨a, b, vs, us, rfl, .inl ⟨.inl (.inl hw), .inl (.inl hw'), k G1 _ _ m1 _ H1 e1 r1 (wk_zip lsAt_ref lsAt_ref) q1⟩⟩
    · rename_i a zs
      obtain ⟨v, u, rfl, h1, b, us, rfl, h3, h4⟩ := rv2 rd
      obtain rfl : v = .ref a := h1
      obtain ⟨xs, hx, q1⟩ := q1
      obtain ⟨_, w, hw, vs, rfl, g1⟩ := r1.mem a _ hx
      exact ⟨a, b, vs, us, rfl, .inl ⟨.inl (.inl hw), r1.sub.l h3, k G1 _ _ m1 _ H1 e1 r1 ((wk_zip lsAt_ref (lsAt_lst h3 h4)).imp fun m c => ⟨c, trivial⟩) q1⟩⟩
    · rename_i zs b
      obtain ⟨v, u, rfl, ⟨a, vs, rfl, h3, h4⟩, h1⟩ := rv2 rd
      obtain rfl : u = .ref b := h1
      obtain ⟨xs, hx, q1⟩ := q1
      obtain ⟨_, w, hw, us, rfl, g1⟩ := r1.mem b _ hx
      exact ⟨a, b, vs, us, rfl, .inl ⟨r1.sub.l h3, .inl (.inl hw), k G1 _ _ m1 _ H1 e1 r1 ((wk_zip (lsAt_lst h3 h4) lsAt_ref).imp fun m c => ⟨trivial, c⟩) q1⟩⟩
    · exact q1.elim⟩
def iEnumD (qa : QA) : QI := fun s m Φ => qa s m fun ds m1 => match ds with
  | [.lst xs] => Φ (enumD xs 0) (fun _ => True) m1
  | [.ref a] => ∃ xs, m1 a = some (.lst xs) ∧ Φ (enumD xs 0) (fun m => m a = some (.lst xs)) m1
  | _ => False
theorem di_enum {p pos tpos : Pos} {elts : List Expr} {kk : Nat} (hg : Gl X "enumerate") (hm : X.mg "enumerate" = none) (ha : PA X [e] (liftA X.K qa)) (hs : starEach [e] X.env = [(false, eval e X.env)] := by rfl) :
    PI X (.Tuple elts kk tpos) (.Call (.Name "enumerate" p) [e] [] pos) (liftI X.K (iEnumD qa)) :=
  pi_imp (pi_enum hg hm ha hs) fun σ H R ⟨G, s, m, Φ, rm, rs, q, k⟩ => ⟨G, s, m, _, rm, rs, q, fun G1 ds m1 vs H1 e1 r1 rd q1 => by
    split at q1
    · obtain ⟨v, rfl, a, xs, rfl, h1, h2⟩ := rv1 rd
      exact ⟨a, xs, rfl, r1.sub.l h1, k G1 _ _ m1 _ H1 e1 r1 (wk_enum (lsAt_lst h1 h2)) q1⟩
    · rename_i a
      obtain ⟨v, rfl, h1⟩ := rv1 rd
      obtain rfl : v = .ref a := h1
      obtain ⟨xs, hx, q1⟩ := q1
      obtain ⟨_, w, hw, vs, rfl, g1⟩ := r1.mem a _ hx
      exact ⟨a, vs, rfl, .inl (.inl hw), k G1 _ _ m1 _ H1 e1 r1 (wk_enum lsAt_ref) q1⟩
    · exact q1.elim⟩
end
/-! ### comprehensions -/
def wipeD (s : DSt) : List Nat → DSt
  | [] => s
  | v :: vs => (wipeD s vs).set v none
theorem wipeD_rel {K : PySem.W.Frag} {G : Hp} {s : DSt} {σ : St} (r : RelS K s G σ) : ∀ vs : List Nat, RelS K (wipeD s vs) G (wipe σ vs)
  | [] => r
  | v :: vs => by
    have ih := wipeD_rel r vs
    refine ⟨by show ((wipeD s vs).set v none).length = ((wipe σ vs).set v none).length; rw [List.length_set, List.length_set]; exact ih.len, fun i d h => ?_⟩
    have h : ((wipeD s vs).set v none)[i]? = some (some d) := h
    show ∃ u, ((wipe σ vs).set v none)[i]? = some (some u) ∧ RV K G d u
    rw [List.getElem?_set] at h
    rw [List.getElem?_set]
    split at h
    · split at h
      · cases h
      · cases h
    · rename_i e
      rw [if_neg e]
      exact ih.loc i d h
abbrev QTs := QT
def qYes : QT := fun _ m Φ => Φ true m
theorem pts_imp {X : Cx} {e : List Expr} {t t' : TT} (h : PTs X e t) (i : ∀ σ H Q, t' σ H Q → t σ H Q) : PTs X e t' := ⟨fun pins s σ H Q I w => h.run pins s σ H Q I (i σ H Q w)⟩
theorem dts_nil {X : Cx} {K : PySem.W.Frag} : PTs X [] (liftT K qYes) := pts_imp pts_nil fun σ H Q ⟨G, s, m, Φ, rm, rs, q, k⟩ => k G true m H (Sub.refl G) rm q
/-- a list comprehension: J by the turn, the list so far, the memory (the new list at a within) -/
def LcIn (p : Pat) (qt : QT) (qe : QE) (s1 : DSt) (ds : List D) (C : Mem → Prop) (m1 : Mem) (Φ : DK) : Prop := ∀ a, m1 a = none → ∃ J : Nat → List D → Mem → Prop, J 0 [] (mset m1 a (.lst [])) ∧
  (∀ i acc m', i ≤ ds.length → J i acc m' → C m' ∧ m' a = some (.lst acc)) ∧
  (∀ i d acc m', ds[i]? = some d → J i acc m' → match asg p d s1 with
    | some s2 => qt s2 m' fun b m2 => qIf b (qe s2 m2 fun y m3 => ∃ acc', m3 a = some (.lst acc') ∧ acc'.length < sizeLine ∧ J (i + 1) (acc' ++ [y]) (mset m3 a (.lst (acc' ++ [y])))) (∃ acc', J (i + 1) acc' m2)
    | none => False) ∧
  ∀ acc m', J ds.length acc m' → m' a = some (.lst acc) → Φ (.ref a) m'
def qLc (qi : QI) (p : Pat) (qt : QT) (qe : QE) (vs : List Nat) : QE := fun s m Φ => qi s m fun ds C m1 => LcIn p qt qe (wipeD s vs) ds C m1 Φ
theorem lift_lc {K : PySem.W.Frag} {qi : QI} {p : Pat} {qt : QT} {qe : QE} {vs : List Nat} (hv : ∀ i ∈ slots p, i ∈ vs) : ∀ σ H Q, liftE K (qLc qi p qt qe vs) σ H Q → tLc (liftI K qi) (tgOf K p) (liftT K qt) (liftE K qe) vs σ H Q :=
  fun σ H Q ⟨G, s, m, Φ, rm, rs, q, k⟩ => ⟨G, s, m, _, rm, rs, q, fun G1 ds C m1 J0 H1 e1 r1 wk h => by
    intro D hD
    obtain ⟨J, h0, hC, hS, hE⟩ := h D (r1.free hD)
    have rw0 := r1.new (o := .lst []) (u := .lst []) hD ⟨[], rfl, rfl⟩
    refine ⟨fun i n H' => n = ds.length - i ∧ i ≤ ds.length ∧ ∃ G2 acc m2, Sub G1 G2 ∧ RelM K m2 G2 H' ∧ J i acc m2, ⟨_, rfl, Nat.zero_le _, G1, [], _, Sub.refl G1, rw0, h0⟩, ?_⟩
    rintro i n H' ⟨rfl, hi, G2, acc, m2, e2, r2, h2⟩
    by_cases hlt : i < ds.length
    · refine .inr ⟨wk.go G2 m2 H' i e2 r2 (hC i acc m2 hi h2).1 hlt, fun H3 => ∃ G3 acc m3, Sub G1 G3 ∧ RelM K m3 G3 H3 ∧ J (i + 1) acc m3, fun H3 ⟨G3, acc, m3, a, b, c⟩ => ⟨_, by omega, rfl, hlt, G3, acc, m3, a, b, c⟩, fun x H3 y => ?_⟩
      obtain ⟨G3, d, e3, r3, hd, rd⟩ := wk.yld G2 m2 H' i x H3 e2 r2 (hC i acc m2 hi h2).1 hlt y
      have hs := hS i d acc m2 hd h2
      cases ha : asg p d (wipeD s vs) with
      | none => rw [ha] at hs; exact hs.elim
      | some s3 =>
        rw [ha] at hs
        have ee := e1.trans (e2.trans e3)
        obtain ⟨σ3, rs3, run, wp⟩ := asg_run r3.sub p rd (wipeD_rel (rs.mono ee) vs) ha
        refine run _ ⟨?_, G3, s3, m2, _, r3, rs3, hs, fun G4 b m4 H4 e4 r4 q4 => ?_⟩
        · have w0 : wipe (wipe σ vs) vs = wipe σ vs := by
            have aux : ∀ us : List Nat, (∀ u ∈ us, u ∈ vs) → wipe (wipe σ us) vs = wipe σ vs := by
              intro us
              induction us with
              | nil => intro _; rfl
              | cons u us ih =>
                intro hu
                show wipe ((wipe σ us).set u none) vs = wipe σ vs
                rw [wipe_set (hu u List.mem_cons_self)]
                exact ih fun z hz => hu z (List.mem_cons_of_mem _ hz)
            exact aux vs fun _ h => h
          rw [wp vs hv, w0]
        · have q4 := qif_e q4
          cases b with
          | true =>
            rw [if_pos rfl] at q4
            dsimp only
            rw [if_pos rfl]
            refine ⟨G4, s3, m4, _, r4, rs3.mono e4, q4, fun G5 y m5 v H5 e5 r5 rv ⟨acc', hm5, hl, hj⟩ => ?_⟩
            obtain ⟨_, w, hw, xs, rfl, hr⟩ := r5.mem D _ hm5
            exact ⟨xs, hw, by rw [← hr.length]; exact hl, G5, _, _, (e2.trans e3).trans (e4.trans e5), r5.put (o := .lst _) hm5 ⟨_, rfl, hr.append (RVs.one rv)⟩, hj⟩
          | false =>
            rw [if_neg Bool.false_ne_true] at q4
            dsimp only
            rw [if_neg Bool.false_ne_true]
            obtain ⟨acc', hj⟩ := q4
            exact ⟨G4, acc', m4, (e2.trans e3).trans e4, r4, hj⟩
    · have e : i = ds.length := by omega
      subst e
      obtain ⟨c1, c2⟩ := hC _ acc m2 hi h2
      exact .inl ⟨wk.stop G2 m2 H' e2 r2 c1, k G2 (.ref D) m2 _ H' (e1.trans e2) r2 rfl (hE acc m2 h2 c2)⟩⟩
theorem de_lc {X : Cx} {elt tg iter : Expr} {ifs : List Expr} {scope : Scope} {own : List (Str × Nat)} {pos : Pos} {qi : QI} {p : Pat} {qt : QT} {qe : QE} (hc : X.calm = true) (hN : X.N.Nodup) (hi : PI X tg iter (liftI X.K qi)) (ok : BlkOk X.N X.env.scope scope own)
    (hg : ∀ (s : Shared) (H : Hp) (C : Addr) (cl : List (Str × Addr)) (fp : List Addr), PG (X.blk s H scope (compEnvC scope cl C X.env) fp) tg (tgOf X.K p))
    (ht : ∀ (s : Shared) (H : Hp) (C : Addr) (cl : List (Str × Addr)) (fp : List Addr), PTs (X.blk s H scope (compEnvC scope cl C X.env) fp) ifs (liftT X.K qt))
    (he : ∀ (s : Shared) (H : Hp) (C : Addr) (cl : List (Str × Addr)) (fp : List Addr), PE (X.blk s H scope (compEnvC scope cl C X.env) fp) elt (liftE X.K qe))
    (hv : ∀ i ∈ slots p, i ∈ own.map (·.2) := by decide) (hs : ∀ x, foldedSetIterable iter X.env x = pure x := by intro _; rfl) :
    PE X (.ListComp elt [⟨tg, iter, ifs, 0⟩] scope pos) (liftE X.K (qLc qi p qt qe (own.map (·.2)))) := pe_imp (pe_lc hc hN hi ok hg ht he hs) (lift_lc hv)
/-- the word where the block leaves the memory as it is -/
def Jp (P : Nat → List D → Prop) (m1 : Mem) (a : Addr) : Nat → List D → Mem → Prop := fun i acc m' => m' = mset m1 a (.lst acc) ∧ acc.length ≤ i ∧ P i acc
theorem lc_by {p : Pat} {qt : QT} {qe : QE} {s1 : DSt} {ds : List D} {C : Mem → Prop} {m1 : Mem} {Φ : DK} (P : Nat → List D → Prop) (h0 : P 0 []) (hC : ∀ a o, m1 a = none → C (mset m1 a o))
    (hs : ∀ i d acc a, m1 a = none → ds[i]? = some d → acc.length ≤ i → P i acc → match asg p d s1 with
      | some s2 => qt s2 (mset m1 a (.lst acc)) fun b m2 => qIf b (qe s2 m2 fun y m3 => ∃ acc', m3 a = some (.lst acc') ∧ acc'.length < sizeLine ∧ Jp P m1 a (i + 1) (acc' ++ [y]) (mset m3 a (.lst (acc' ++ [y])))) (∃ acc', Jp P m1 a (i + 1) acc' m2)
      | none => False)
    (hd : ∀ acc a, m1 a = none → acc.length ≤ ds.length → P ds.length acc → Φ (.ref a) (mset m1 a (.lst acc))) : LcIn p qt qe s1 ds C m1 Φ := fun a ha =>
  ⟨Jp P m1 a, ⟨rfl, Nat.le_refl _, h0⟩, fun i acc m' _ h => by obtain ⟨rfl, _, _⟩ := h; exact ⟨hC a _ ha, mset_same⟩, fun i d acc m' hd' h => by obtain ⟨rfl, h1, h2⟩ := h; exact hs i d acc a ha hd' h1 h2,
    fun acc m' h _ => by obtain ⟨rfl, h1, h2⟩ := h; exact hd acc a ha h1 h2⟩
theorem lc_ok {P : Nat → List D → Prop} {m1 : Mem} {a : Addr} {i : Nat} {acc : List D} {y : D} (hl : acc.length ≤ i) (hi : i < sizeLine) (h : P (i + 1) (acc ++ [y])) :
    ∃ acc', mset m1 a (.lst acc) a = some (.lst acc') ∧ acc'.length < sizeLine ∧ Jp P m1 a (i + 1) (acc' ++ [y]) (mset (mset m1 a (.lst acc)) a (.lst (acc' ++ [y]))) :=
  ⟨acc, mset_same, Nat.lt_of_le_of_lt hl hi, mset_mset, by rw [List.length_append]; exact Nat.succ_le_succ hl, h⟩
theorem lc_skip {P : Nat → List D → Prop} {m1 : Mem} {a : Addr} {i : Nat} {acc : List D} (hl : acc.length ≤ i) (h : P (i + 1) acc) : ∃ acc', Jp P m1 a (i + 1) acc' (mset m1 a (.lst acc)) := ⟨acc, rfl, Nat.le_succ_of_le hl, h⟩
theorem fz_done {m1 : Mem} {a : Addr} {acc : List D} {Φ : DK} (ha : m1 a = none) (h : Φ (.lst acc) m1) : ∃ ds, mset m1 a (.lst acc) a = some (.lst ds) ∧ Φ (.lst ds) (mdel (mset m1 a (.lst acc)) a) := ⟨acc, mset_same, by rw [mdel_mset ha]; exact h⟩
/-! ### dict comprehensions -/
def DcIn (p : Pat) (qt : QT) (qk qe : QE) (s1 : DSt) (ds : List D) (C : Mem → Prop) (m1 : Mem) (Φ : DK) : Prop := ∀ a, m1 a = none → ∃ J : Nat → List (Key × D) → Mem → Prop, J 0 [] (mset m1 a (.dK [])) ∧
  (∀ i acc m', i ≤ ds.length → J i acc m' → C m' ∧ m' a = some (.dK acc)) ∧
  (∀ i d acc m', ds[i]? = some d → J i acc m' → match asg p d s1 with
    | some s2 => qt s2 m' fun b m2 => qIf b (qk s2 m2 fun x m3 => qe s2 m3 fun y m4 => ∃ acc' k, keyD x = some k ∧ m4 a = some (.dK acc') ∧ acc'.length < sizeLine ∧ J (i + 1) (putD acc' k y) (mset m4 a (.dK (putD acc' k y)))) (∃ acc', J (i + 1) acc' m2)
    | none => False) ∧
  ∀ acc m', J ds.length acc m' → m' a = some (.dK acc) → Φ (.ref a) m'
def qDc (qi : QI) (p : Pat) (qt : QT) (qk qe : QE) (vs : List Nat) : QE := fun s m Φ => qi s m fun ds C m1 => DcIn p qt qk qe (wipeD s vs) ds C m1 Φ
theorem wipe_wipe (σ : St) (vs : List Nat) : wipe (wipe σ vs) vs = wipe σ vs := by
  have aux : ∀ us : List Nat, (∀ u ∈ us, u ∈ vs) → wipe (wipe σ us) vs = wipe σ vs := by
    intro us
    induction us with
    | nil => intro _; rfl
    | cons u us ih =>
      intro hu
      show wipe ((wipe σ us).set u none) vs = wipe σ vs
      rw [wipe_set (hu u List.mem_cons_self)]
      exact ih fun z hz => hu z (List.mem_cons_of_mem _ hz)
  exact aux vs fun _ h => h
theorem lift_dc {K : PySem.W.Frag} {qi : QI} {p : Pat} {qt : QT} {qk qe : QE} {vs : List Nat} (hv : ∀ i ∈ slots p, i ∈ vs) : ∀ σ H Q, liftE K (qDc qi p qt qk qe vs) σ H Q → tDc (liftI K qi) (tgOf K p) (liftT K qt) (liftE K qk) (liftE K qe) vs σ H Q :=
  fun σ H Q ⟨G, s, m, Φ, rm, rs, q, k⟩ => ⟨G, s, m, _, rm, rs, q, fun G1 ds C m1 J0 H1 e1 r1 wk h => by
    intro D hD
    obtain ⟨J, h0, hC, hS, hE⟩ := h D (r1.free hD)
    have rw0 := r1.new (o := .dK []) (u := .dK []) hD ⟨[], rfl, rfl⟩
    refine ⟨fun i n H' => n = ds.length - i ∧ i ≤ ds.length ∧ ∃ G2 acc m2, Sub G1 G2 ∧ RelM K m2 G2 H' ∧ J i acc m2, ⟨_, rfl, Nat.zero_le _, G1, [], _, Sub.refl G1, rw0, h0⟩, ?_⟩
    rintro i n H' ⟨rfl, hi, G2, acc, m2, e2, r2, h2⟩
    by_cases hlt : i < ds.length
    · refine .inr ⟨wk.go G2 m2 H' i e2 r2 (hC i acc m2 hi h2).1 hlt, fun H3 => ∃ G3 acc m3, Sub G1 G3 ∧ RelM K m3 G3 H3 ∧ J (i + 1) acc m3, fun H3 ⟨G3, acc, m3, a, b, c⟩ => ⟨_, by omega, rfl, hlt, G3, acc, m3, a, b, c⟩, fun x H3 y => ?_⟩
      obtain ⟨G3, d, e3, r3, hd, rd⟩ := wk.yld G2 m2 H' i x H3 e2 r2 (hC i acc m2 hi h2).1 hlt y
      have hs := hS i d acc m2 hd h2
      cases ha : asg p d (wipeD s vs) with
      | none => rw [ha] at hs; exact hs.elim
      | some s3 =>
        rw [ha] at hs
        have ee := e1.trans (e2.trans e3)
        obtain ⟨σ3, rs3, run, wp⟩ := asg_run r3.sub p rd (wipeD_rel (rs.mono ee) vs) ha
        refine run _ ⟨by rw [wp vs hv, wipe_wipe], G3, s3, m2, _, r3, rs3, hs, fun G4 b m4 H4 e4 r4 q4 => ?_⟩
        have q4 := qif_e q4
        cases b with
        | true =>
          rw [if_pos rfl] at q4
          dsimp only
          rw [if_pos rfl]
          refine ⟨G4, s3, m4, _, r4, rs3.mono e4, q4, fun G5 x m5 v H5 e5 r5 rv q5 => ⟨G5, s3, m5, _, r5, rs3.mono (e4.trans e5), q5, fun G6 y m6 u H6 e6 r6 ru ⟨acc', k', hk, hm6, hl, hj⟩ => ?_⟩⟩
          obtain ⟨_, w, hw, xs, rfl, hr⟩ := r6.mem D _ hm6
          exact ⟨xs, k', rv.key hk, hw, by rw [← hr.length]; exact hl, G6, _, _, (e2.trans e3).trans ((e4.trans e5).trans e6), r6.put (o := .dK _) hm6 ⟨_, rfl, hr.put k' ru⟩, hj⟩
        | false =>
          rw [if_neg Bool.false_ne_true] at q4
          dsimp only
          rw [if_neg Bool.false_ne_true]
          obtain ⟨acc', hj⟩ := q4
          exact ⟨G4, acc', m4, (e2.trans e3).trans e4, r4, hj⟩
    · have e : i = ds.length := by omega
      subst e
      obtain ⟨c1, c2⟩ := hC _ acc m2 hi h2
      exact .inl ⟨wk.stop G2 m2 H' e2 r2 c1, k G2 (.ref D) m2 _ H' (e1.trans e2) r2 rfl (hE acc m2 h2 c2)⟩⟩
theorem de_dc {X : Cx} {kx vx tg iter : Expr} {ifs : List Expr} {scope : Scope} {own : List (Str × Nat)} {pos : Pos} {qi : QI} {p : Pat} {qt : QT} {qk qe : QE} (hc : X.calm = true) (hN : X.N.Nodup) (hi : PI X tg iter (liftI X.K qi)) (ok : BlkOk X.N X.env.scope scope own)
    (hg : ∀ (s : Shared) (H : Hp) (C : Addr) (cl : List (Str × Addr)) (fp : List Addr), PG (X.blk s H scope (compEnvC scope cl C X.env) fp) tg (tgOf X.K p))
    (ht : ∀ (s : Shared) (H : Hp) (C : Addr) (cl : List (Str × Addr)) (fp : List Addr), PTs (X.blk s H scope (compEnvC scope cl C X.env) fp) ifs (liftT X.K qt))
    (hk : ∀ (s : Shared) (H : Hp) (C : Addr) (cl : List (Str × Addr)) (fp : List Addr), PE (X.blk s H scope (compEnvC scope cl C X.env) fp) kx (liftE X.K qk))
    (he : ∀ (s : Shared) (H : Hp) (C : Addr) (cl : List (Str × Addr)) (fp : List Addr), PE (X.blk s H scope (compEnvC scope cl C X.env) fp) vx (liftE X.K qe))
    (hv : ∀ i ∈ slots p, i ∈ own.map (·.2) := by decide) (hs : ∀ x, foldedSetIterable iter X.env x = pure x := by intro _; rfl) :
    PE X (.DictComp kx vx [⟨tg, iter, ifs, 0⟩] scope pos) (liftE X.K (qDc qi p qt qk qe (own.map (·.2)))) := pe_imp (pe_dc hc hN hi ok hg ht hk he hs) (lift_dc hv)
def Jd (P : Nat → List (Key × D) → Prop) (m1 : Mem) (a : Addr) : Nat → List (Key × D) → Mem → Prop := fun i acc m' => m' = mset m1 a (.dK acc) ∧ acc.length ≤ i ∧ P i acc
theorem putD_len {κ : Type} [DecidableEq κ] (kvs : List (κ × D)) (k : κ) (d : D) : (putD kvs k d).length ≤ kvs.length + 1 := by
  unfold putD; split
  · rw [List.length_map]; exact Nat.le_succ _
  · rw [List.length_append]; exact Nat.le_refl _
theorem dc_by {p : Pat} {qt : QT} {qk qe : QE} {s1 : DSt} {ds : List D} {C : Mem → Prop} {m1 : Mem} {Φ : DK} (P : Nat → List (Key × D) → Prop) (h0 : P 0 []) (hC : ∀ a o, m1 a = none → C (mset m1 a o))
    (hs : ∀ i d acc a, m1 a = none → ds[i]? = some d → acc.length ≤ i → P i acc → match asg p d s1 with
      | some s2 => qt s2 (mset m1 a (.dK acc)) fun b m2 => qIf b (qk s2 m2 fun x m3 => qe s2 m3 fun y m4 => ∃ acc' k, keyD x = some k ∧ m4 a = some (.dK acc') ∧ acc'.length < sizeLine ∧ Jd P m1 a (i + 1) (putD acc' k y) (mset m4 a (.dK (putD acc' k y)))) (∃ acc', Jd P m1 a (i + 1) acc' m2)
      | none => False)
    (hd : ∀ acc a, m1 a = none → acc.length ≤ ds.length → P ds.length acc → Φ (.ref a) (mset m1 a (.dK acc))) : DcIn p qt qk qe s1 ds C m1 Φ := fun a ha =>
  ⟨Jd P m1 a, ⟨rfl, Nat.le_refl _, h0⟩, fun i acc m' _ h => by obtain ⟨rfl, _, _⟩ := h; exact ⟨hC a _ ha, mset_same⟩, fun i d acc m' hd' h => by obtain ⟨rfl, h1, h2⟩ := h; exact hs i d acc a ha hd' h1 h2,
    fun acc m' h _ => by obtain ⟨rfl, h1, h2⟩ := h; exact hd acc a ha h1 h2⟩
theorem dc_ok {P : Nat → List (Key × D) → Prop} {m1 : Mem} {a : Addr} {i : Nat} {acc : List (Key × D)} {x y : D} (k : Key) (hk : keyD x = some k) (hl : acc.length ≤ i) (hi : i < sizeLine) (h : P (i + 1) (putD acc k y)) :
    ∃ acc' k, keyD x = some k ∧ mset m1 a (.dK acc) a = some (.dK acc') ∧ acc'.length < sizeLine ∧ Jd P m1 a (i + 1) (putD acc' k y) (mset (mset m1 a (.dK acc)) a (.dK (putD acc' k y))) :=
  ⟨acc, k, hk, mset_same, Nat.lt_of_le_of_lt hl hi, mset_mset, Nat.le_trans (putD_len _ _ _) (Nat.succ_le_succ hl), h⟩
theorem dc_skip {P : Nat → List (Key × D) → Prop} {m1 : Mem} {a : Addr} {i : Nat} {acc : List (Key × D)} (hl : acc.length ≤ i) (h : P (i + 1) acc) : ∃ acc', Jd P m1 a (i + 1) acc' (mset m1 a (.dK acc)) := ⟨acc, rfl, Nat.le_succ_of_le hl, h⟩
end L3
namespace L3
open PySem PySem.Spec PyProof.Rows L2
theorem hu1 {A : Around} {k : Nat} (hr : Room k A) : A.units + 1 < cLine := Nat.lt_of_le_of_lt (Nat.add_le_add_left (by decide : 1 ≤ 64) _) hr.units
theorem hu64 {A : Around} {k : Nat} (hr : Room k A) : A.units + 64 < cLine := hr.units
theorem hu65 {A : Around} {k : Nat} (hr : Room k A) : A.units + 65 < cLine := by have := hr.un; omega
/-! ### xs[i], t[i], s[i], d[k] by one rule -/
section
variable {X : Cx} {a b : Expr} {qa qb : QE} {pos : Pos}
def rIxD : R2 := fun x y H Q => ∃ p v, x = .ref p ∧ DGet H p y (some v) ∧ Q v H
theorem tail_of {prog : Program} {w : World} {A : Around} {E : Value → Shared → Prop} {s : Shared} {value slice : Expr} {o i : Value} {T id : String} {Q : Value → Shared → Prop} (hT : s.TypeIs o T)
    (hl : typeLookup (.type T) "__getitem__" = pure (some (.builtin id))) (h : wpAny (model prog w) A (getItem o i) Q E s)
    (hs : subscripted slice false o i = operate [o, i] (getItem o i)) :
    wpAny (model prog w) A (subscriptTail value slice o i) Q E s := by
  unfold subscriptTail
  refine wpAny_bind ?_
  rw [getitemInPython_of_ne hT.not_modules]
  refine wpAny_bind (wpAny_specialOf hT hl ?_)
  have fin : wpAny (model prog w) A (subscripted slice false o i) (fun r s₃ => wpAny (model prog w) A (letTemporaryGo value o r >>= fun _ => pure r) Q E s₃) E s := by
    rw [hs]
    exact wpAny_operating (wpAny_mono h (fun r s₃ h₃ => wpAny_bind (wpAny_letTemporaryGo (wpAny_pure h₃))) fun _ _ x => x)
  first
    | exact wpAny_pure (wpAny_bind fin)
    | exact wpAny_bind (wpAny_pure (wpAny_bind fin))
    | exact wpAny_bind fin
theorem ix_dict (hu : X.A.units + 1 < cLine) : IxR X rIxD := by
  intro value slice pins s σ H x y v u Q I rx ry h hs
  obtain ⟨p, w, rfl, g, q⟩ := h
  obtain rfl : v = Value.ref p := rx
  exact tail_of (dict_typeIs I g) PySem.F.slot_dict_getitem.lookup (d_getItem hu I g ry fun w' s' I' rw' => ⟨w, H, I', rw', q⟩) hs
/-- xs[i]; d[k] -/
def vIx : D → D → Mem → DK → Prop := fun x y m Φ => match x, y with
  | .tup ds, .int i => ∃ d, atI ds i = some d ∧ Φ d m
  | .lst ds, .int i => ∃ d, atI ds i = some d ∧ Φ d m
  | .ref a, y => (∃ ds i d, y = .int i ∧ m a = some (.lst ds) ∧ atI ds i = some d ∧ Φ d m) ∨ ∃ d, dGet m a y (some d) ∧ Φ d m
  | .str z, .int i => ∃ c, z.length ≤ sizeLine ∧ atI z.cps.toList i = some c ∧ Φ (.str ⟨#[c]⟩) m
  | _, _ => False
theorem vix_lift {K : PySem.W.Frag} {x y : V} {H : Hp} {Q : VK} (h : liftR K vIx x y H Q) : rIx K x y H Q ∨ rIxD x y H Q := by
  obtain ⟨G, m, dx, dy, Φ, rm, rx, ry, q, k⟩ := h
  cases dx with
  | tup ds => cases dy with
    | int i => exact .inl (ix_lift ⟨G, m, .tup ds, .int i, Φ, rm, rx, ry, q, k⟩)
    | _ => exact q.elim
  | lst ds => cases dy with
    | int i => exact .inl (ix_lift ⟨G, m, .lst ds, .int i, Φ, rm, rx, ry, q, k⟩)
    | _ => exact q.elim
  | str z => cases dy with
    | int i => exact .inl (ix_lift ⟨G, m, .str z, .int i, Φ, rm, rx, ry, q, k⟩)
    | _ => exact q.elim
  | ref p =>
    rcases q with ⟨ds, i, d, rfl, hm, h1, h2⟩ | ⟨d, g, h2⟩
    · exact .inl (ix_lift ⟨G, m, .ref p, .int i, Φ, rm, rx, ry, ⟨ds, d, hm, h1, h2⟩, k⟩)
    · obtain rfl : x = .ref p := rx
      obtain ⟨o', g', ro⟩ := dget_lift rm ry g
      obtain ⟨w, rfl, rw'⟩ := ro.some
      exact .inr ⟨p, w, rfl, g', k G d m w H (Sub.refl G) rm rw' h2⟩
  | _ => exact q.elim
theorem de_idx (hu : X.A.units + 1 < cLine) (ha : PE X a (liftE X.K qa)) (hb : PE X b (liftE X.K qb)) (hs : PlainIx b := by exact fun _ _ => rfl) : PE X (.Subscript a b pos) (liftE X.K (qOp vIx qa qb)) :=
  pe_imp (pe_ix (ix_imp (IxR.or ix_seq (ix_dict hu)) fun x y H Q h => vix_lift (K := X.K) h) ha hb hs) lift_op
/-- the list's items as data: of a list that never changes, or of one in the memory -/
def lsQ (y : D) (m : Mem) (R : List PyData → Prop) : Prop := match y with
  | .lst ds => ∃ ps, toPys ds = some ps ∧ R ps
  | .ref a => ∃ ds ps, m a = some (.lst ds) ∧ toPys ds = some ps ∧ R ps
  | _ => False
/-- x in y: a dict, a list, a text, a tuple of flat items -/
def vIn (neg : Bool) : D → D → Mem → DK → Prop := fun x y m Φ =>
  match y with
  | .str z => ∃ w, x = .str w ∧ Φ (.bl (if neg then !(!(Builtin.Str.occurrences z w 0 z.length 1).isEmpty) else !(Builtin.Str.occurrences z w 0 z.length 1).isEmpty)) m
  | .ref a => (∃ o, dGet m a x o ∧ Φ (.bl (if neg then !o.isSome else o.isSome)) m) ∨ ∃ p ds ps, toPy x = some p ∧ m a = some (.lst ds) ∧ toPys ds = some ps ∧ SeqAt.shaped p = true ∧ SeqAt.shaped (.list ps) = true ∧ Φ (.bl (if neg then !(ps.any fun z => PyData.eqv z p) else ps.any fun z => PyData.eqv z p)) m
  | .lst ds => ∃ p ps, toPy x = some p ∧ toPys ds = some ps ∧ SeqAt.shaped p = true ∧ SeqAt.shaped (.list ps) = true ∧ Φ (.bl (if neg then !(ps.any fun z => PyData.eqv z p) else ps.any fun z => PyData.eqv z p)) m
  | _ => False
def rInDct (neg : Bool) : R2 := fun x y H Q => ∃ a o, y = .ref a ∧ DGet H a x o ∧ Q (.bl (if neg then !o.isSome else o.isSome)) H
theorem op_inDct (hu : X.A.units + 1 < cLine) : OpR X (compareOp .In) (rInDct false) := by
  intro pins s σ H x y v u Q I rx ry h
  obtain ⟨a, o, rfl, g, q⟩ := h
  obtain rfl : u = Value.ref a := ry
  exact d_in hu I g rx fun s' I' => ⟨.bl o.isSome, H, I', rfl, q⟩
theorem op_notInDct (hu : X.A.units + 1 < cLine) : OpR X (compareOp .NotIn) (rInDct true) := by
  intro pins s σ H x y v u Q I rx ry h
  obtain ⟨a, o, rfl, g, q⟩ := h
  obtain rfl : u = Value.ref a := ry
  exact d_notIn hu I g rx fun s' I' => ⟨.bl (!o.isSome), H, I', rfl, q⟩
theorem do_in2 (hu : X.A.units + 65 < cLine) : OpR X (compareOp .In) (liftR X.K (vIn false)) := op_imp (OpR.or op_in_str (OpR.or (op_inDct (by omega)) (op_inD hu))) fun x y H Q ⟨G, m, dx, dy, Φ, rm, rx, ry, q, k⟩ => by
  cases dy with
  | str z =>
    obtain ⟨w, rfl, q⟩ := q
    exact .inl ⟨w, z, rx, ry, k G (.bl _) m _ H (Sub.refl G) rm rfl q⟩
  | lst ds =>
    obtain ⟨p, ps, h1, h2, s1, s2, q⟩ := q
    obtain ⟨a, xs, rfl, g1, g2⟩ := ry
    exact .inr (.inr ⟨p, ps, RV.dp rm.sub dx rx h1, .lst (rm.sub.l g1) (RVs.dp rm.sub ds g2 h2), s1, s2, k G (.bl _) m _ H (Sub.refl G) rm rfl q⟩)
  | ref a =>
    rcases q with ⟨o, g, q⟩ | ⟨p, ds, ps, h1, hm, h2, s1, s2, q⟩
    · obtain rfl : y = .ref a := ry
      obtain ⟨o', g', ro⟩ := dget_lift rm rx g
      exact .inr (.inl ⟨a, o', rfl, g', by rw [← ro.isSome]; exact k G (.bl _) m _ H (Sub.refl G) rm rfl q⟩)
    · obtain rfl : y = .ref a := ry
      obtain ⟨_, w, hw, xs, rfl, g2⟩ := rm.mem a _ hm
      exact .inr (.inr ⟨p, ps, RV.dp rm.sub dx rx h1, .lst (.inl (.inl hw)) (RVs.dp rm.sub ds g2 h2), s1, s2, k G (.bl _) m _ H (Sub.refl G) rm rfl q⟩)
  | _ => exact q.elim
theorem do_notIn2 (hu : X.A.units + 65 < cLine) : OpR X (compareOp .NotIn) (liftR X.K (vIn true)) := op_imp (OpR.or op_notin_str (OpR.or (op_notInDct (by omega)) (op_notInD hu))) fun x y H Q ⟨G, m, dx, dy, Φ, rm, rx, ry, q, k⟩ => by
  cases dy with
  | str z =>
    obtain ⟨w, rfl, q⟩ := q
    exact .inl ⟨w, z, rx, ry, k G (.bl _) m _ H (Sub.refl G) rm rfl q⟩
  | lst ds =>
    obtain ⟨p, ps, h1, h2, s1, s2, q⟩ := q
    obtain ⟨a, xs, rfl, g1, g2⟩ := ry
    exact .inr (.inr ⟨p, ps, RV.dp rm.sub dx rx h1, .lst (rm.sub.l g1) (RVs.dp rm.sub ds g2 h2), s1, s2, k G (.bl _) m _ H (Sub.refl G) rm rfl q⟩)
  | ref a =>
    rcases q with ⟨o, g, q⟩ | ⟨p, ds, ps, h1, hm, h2, s1, s2, q⟩
    · obtain rfl : y = .ref a := ry
      obtain ⟨o', g', ro⟩ := dget_lift rm rx g
      exact .inr (.inl ⟨a, o', rfl, g', by rw [← ro.isSome]; exact k G (.bl _) m _ H (Sub.refl G) rm rfl q⟩)
    · obtain rfl : y = .ref a := ry
      obtain ⟨_, w, hw, xs, rfl, g2⟩ := rm.mem a _ hm
      exact .inr (.inr ⟨p, ps, RV.dp rm.sub dx rx h1, .lst (.inl (.inl hw)) (RVs.dp rm.sub ds g2 h2), s1, s2, k G (.bl _) m _ H (Sub.refl G) rm rfl q⟩)
  | _ => exact q.elim
end
/-- name = [..] on one line -/
theorem ds_setLc {X : Cx} (i : Nat) {y : Str} {py : Pos} {elt tg iter : Expr} {ifs : List Expr} {scope : Scope} {own : List (Str × Nat)} {pos spos : Pos} {qi : QI} {p : Pat} {qt : QT} {qe : QE} (hc : X.calm = true) (hN : X.N.Nodup) (hi : PI X tg iter (liftI X.K qi)) (ok : BlkOk X.N X.env.scope scope own)
    (hg : ∀ (s : Shared) (H : Hp) (C : Addr) (cl : List (Str × Addr)) (fp : List Addr), PG (X.blk s H scope (compEnvC scope cl C X.env) fp) tg (tgOf X.K p))
    (ht : ∀ (s : Shared) (H : Hp) (C : Addr) (cl : List (Str × Addr)) (fp : List Addr), PTs (X.blk s H scope (compEnvC scope cl C X.env) fp) ifs (liftT X.K qt))
    (he : ∀ (s : Shared) (H : Hp) (C : Addr) (cl : List (Str × Addr)) (fp : List Addr), PE (X.blk s H scope (compEnvC scope cl C X.env) fp) elt (liftE X.K qe))
    (hsw : swapsWith (.ListComp elt [⟨tg, iter, ifs, 0⟩] scope pos) (some (.Name y py)) spos.line X.env = pure true := by exact sw_true rfl rfl rfl (by decide +kernel))
    (hy : X.N[i]? = some y := by rfl) (hyl : X.env.scope.names.lookup y = some .local := by rfl)
    (hv : ∀ i ∈ slots p, i ∈ own.map (·.2) := by decide) (hs : ∀ x, foldedSetIterable iter X.env x = pure x := by intro _; rfl) :
    PS X (.Assign [.Name y py] (.ListComp elt [⟨tg, iter, ifs, 0⟩] scope pos) spos) (liftS X.K (sAsg (.nm i) (qLc qi p qt qe (own.map (·.2))))) :=
  ps_imp (ps_setLc hc hN hy hyl hsw hi ok hg ht he hs) fun D σ H h => by
    obtain ⟨G, s, m, Φ, rm, rs, q, k⟩ := (show liftE X.K (qLc qi p qt qe (own.map (·.2))) σ H (fun x H1 => gName i x σ H1 D.nx) by
      obtain ⟨G, s, m, E, rm, rs, q, kn, kr, kb, kc⟩ := h
      exact ⟨G, s, m, _, rm, rs, q, fun G1 d m1 v H1 e1 r1 rv q1 => kn G1 _ m1 _ H1 e1 r1 ((rs.mono e1).set i rv) q1⟩)
    exact lift_lc hv σ H _ ⟨G, s, m, Φ, rm, rs, q, k⟩
/-! ### defs -/
section
variable {P : Program} {w : World} {K : PySem.W.Frag} {mg : Str → Option Value} {base : Heap}
/-- the context in which a def's body is derived -/
abbrev cxB (P : Program) (w : World) (K : PySem.W.Frag) (mg : Str → Option Value) (base : Heap) (N : List Str) (qual : Str) (st : Stmt) (f : Addr) (cdv : Value) (A : Around) (outer : List Env) (s : Shared) (H : Hp) (E : XK) : Cx := (cxOf CX0 P w K mg base N qual (defScope st) f cdv A outer s H E).nox
theorem fno_of {x qual : Str} {st : Stmt} {f : Addr} {fd : FuncData} {N ps : List Str} {k : Nat} {sp : LSp} {qb : QS} (F : Fun K x qual st f fd) (S : FnScope N ps (defScope st)) (len : ∀ ds m Φ, sp ds m Φ → ds.length = ps.length)
    (hd : ∀ (cdv : Value) (A : Around) (outer : List Env) (s : Shared) (H : Hp) (E : XK), Room k (A.deeper (envOfC qual (defScope st) s.heap.objs.size f cdv)) → PSs (cxB P w K mg base N qual st f cdv A outer s H E) (defBody st) (liftS K qb))
    (h : ∀ ds m Φ, sp ds m Φ → qb (bodyE Φ) (begin_ N.length ds) m) : FnOk P w K mg base CX0 (k + 1) f fd ps (liftSp K sp) := by
  refine F.ok S (fun vs H Q E hs => ?_) (fun cdv A outer s H vs Q E hr hs => ⟨liftS K qb, hd cdv A outer s H E hr, body_lift h hs⟩)
  obtain ⟨G, m, ds, Φ, rm, rd, q, k⟩ := hs
  rw [← rd.length]; exact len ds m Φ q
theorem fnr_of {f : Addr} {fd : FuncData} {ps : List Str} {k : Nat} {sp : Sp} (F1 : FnOk P w K mg base CX0 k f fd ps sp) (hb : Binds K fd ps []) : FnR P w K mg base CX0 k f sp := by
  intro A outer s H us vs Q E hr e0 r hs
  have hl : vs.length = ps.length := F1.len vs H Q E hs
  exact F1.run A outer s H ⟨us, []⟩ us vs Q E hr e0 (by
    have := hb s us (e0.mod.kin.keeps fun b o z => (e0.bs b o z).1) (by rw [List.append_nil, ← r.length]; exact hl)
    rwa [List.append_nil] at this) r hs
/-- THE RULE for a def -/
theorem def_of {x qual : Str} {st : Stmt} {f : Addr} {fd : FuncData} {N ps : List Str} {k : Nat} {sp : LSp} {qb : QS} (F : Fun K x qual st f fd) (hb : Binds K fd ps []) (S : FnScope N ps (defScope st)) (len : ∀ ds m Φ, sp ds m Φ → ds.length = ps.length)
    (hd : ∀ (cdv : Value) (A : Around) (outer : List Env) (s : Shared) (H : Hp) (E : XK), Room k (A.deeper (envOfC qual (defScope st) s.heap.objs.size f cdv)) → PSs (cxB P w K mg base N qual st f cdv A outer s H E) (defBody st) (liftS K qb))
    (h : ∀ ds m Φ, sp ds m Φ → qb (bodyE Φ) (begin_ N.length ds) m) : FnD P w K mg base (k + 1) f sp := fnr_of (fno_of F S len hd h) hb
/-- def f(a, .., *v) -/
theorem star_of {x qual : Str} {st : Stmt} {f : Addr} {fd : FuncData} {N ps : List Str} {pv : Str} {k : Nat} {sp : LSp} {qb : QS} (F : Fun K x qual st f fd) (S : FnScope N (ps ++ [pv]) (defScope st))
    (hb : ∀ (kV doc pm : Value) (an : Option Addr) (cdv ct : Value) (us rest : List Value), us.length = ps.length → bindArgs (PySem.W.fnOf x qual (defArgs st) (defBody st) (defScope st) .none kV doc pm an cdv ct) ⟨us ++ rest, []⟩ = (newTuple rest >>= fun t => pure (ps.zip us ++ [(pv, t)])))
    (hd : ∀ (cdv : Value) (A : Around) (outer : List Env) (s : Shared) (H : Hp) (E : XK), Room k (A.deeper (envOfC qual (defScope st) s.heap.objs.size f cdv)) → PSs (cxB P w K mg base N qual st f cdv A outer s H E) (defBody st) (liftS K qb))
    (h : ∀ ds m Φ, sp ds m Φ → qb (bodyE Φ) (begin_ N.length ds) m) : FnD P w K mg base (k + 1) f (fun ds m Φ => ∃ ws rest, ds = ws ++ rest ∧ ws.length = ps.length ∧ rest.length ≤ sizeLine ∧ sp (ws ++ [.tup rest]) m Φ) := by
  obtain ⟨oc, od, kV, doc, pm, an, cdv, ct, osl, rfl, lk, hcd⟩ := F.ex
  have z := StX.fn_star (CX := CX0) (P := P) (w := w) (mg := mg) (base := base) (k := k) (sp := liftSp K sp) lk hcd S StX.cxUp_none (hb kV doc pm an cdv ct) (fun A outer s H vs Q E hr hs => ⟨liftS K qb, PSs.nox (hd cdv A outer s H E hr), body_lift h hs⟩)
  refine FnR.imp z fun vs H Q E ⟨G, m, ds, Φ, rm, rd, ⟨ws, rest, e, hl, hz, q⟩, k⟩ => ?_
  subst e
  obtain ⟨xs, ys, rfl, r1, r2⟩ : ∃ xs ys, vs = xs ++ ys ∧ RVs K G ws xs ∧ RVs K G rest ys := by
    have l := rd.length
    refine ⟨vs.take ws.length, vs.drop ws.length, (List.take_append_drop _ _).symm, ?_, ?_⟩
    · have := rd.take ws.length; rwa [List.take_left] at this
    · have := rd.drop ws.length; rwa [List.drop_left] at this
  refine ⟨xs, ys, rfl, by rw [← r1.length]; exact hl, by rw [← r2.length]; exact hz, fun p hp => ?_⟩
  obtain ⟨r3, e3⟩ := rm.lay (u := .tup ys) hp
  exact ⟨_, m, _, Φ, r3, RVs.append (RVs.mono e3 _ r1) (RVs.one (show RV K _ (.tup rest) (.ref p) from ⟨p, ys, rfl, .inl (.inl upd_same), RVs.mono e3 _ r2⟩)), q, k.mono e3⟩
end
/-! ### the law itself -/
def spLaw (K : PySem.W.Frag) : Sp := fun vs H Q _ => ∃ (a : Addr) (ns : List Int), vs = [.ref a] ∧ SqL K H a (ns.map V.int) ∧ ns.length ≤ 63 ∧ ∀ H', Q (.bl true) H'
/-- law(script): True for each list of at most 63 ints -/
def lspLaw : LSp := fun ds m Φ => ∃ ns : List Int, ds = [.lst (ns.map D.int)] ∧ ns.length ≤ 63 ∧ (∀ a, m a = none) ∧ ∀ m', Φ (.bl true) m'
theorem law_imp {K : PySem.W.Frag} : ∀ vs H Q E, spLaw K vs H Q E → liftSp K lspLaw vs H Q E := fun vs H Q E ⟨a, ns, h1, h2, h3, h4⟩ =>
  ⟨H, fun _ => none, [.lst (ns.map D.int)], fun d _ => d = .bl true, ⟨Sub.refl H, fun a o e => by cases e⟩, by
    subst h1
    exact RVs.one (show RV K H (.lst (ns.map D.int)) (.ref a) from ⟨a, _, rfl, h2, RVs.of_ints ns⟩), ⟨ns, rfl, h3, fun _ => rfl, fun _ => rfl⟩, fun G' d m' v H' e r rv q => by
    subst q
    obtain rfl : v = .bl true := rv
    exact h4 H'⟩
end L3
namespace L3
open PySem PySem.Spec PyProof.Rows L2
theorem dts_one {X : Cx} {c : Expr} {t : QT} (h : PT X c (liftT X.K t)) : PTs X [c] (liftT X.K t) := pts_one h
/-- a constant of the top that is a tuple -/
theorem de_glob {X : Cx} {x : Str} {pos : Pos} {a : Addr} (d : D) (hg : Gl X x) (hm : X.mg x = some (.ref a)) (rd : ∀ G, RV X.K G d (.ref a)) (hd : (x == ("__debug__" : Str)) = false := by decide) : PE X (.Name x pos) (liftE X.K (qC d)) :=
  de_c d (pe_glob (v := .ref a) hg hm rfl hd) rd
theorem ktup_of {K : PySem.W.Frag} {a : Addr} {od : Option Addr} {its : Array Value} {n : Nat} {sl : Array (Option Value)} {ds : List D} {xs : List V} (h : K.lookup a = some ⟨.type "tuple", od, .seq its n, sl⟩) (hz : its.size ≤ sizeLine) (hv : Vals xs its.toList) (hd : ∀ G, RVs K G ds xs) : ∀ G, RV K G (.tup ds) (.ref a) :=
  fun G => ⟨a, xs, rfl, .inr ⟨_, its, n, h, rfl, rfl, hz, hv⟩, hd G⟩
/-! ### weakening at the end of a def -/
def bodyW (Φ : DK) : DE := { nx := fun _ m => ∃ m', MLe m m' ∧ Φ .non m', rt := fun d m => ∃ m', MLe m m' ∧ Φ d m', bk := fun _ _ => False, ct := fun _ _ => False }
theorem wk_at {P : Mem → Prop} {m : Mem} (h : P m) : ∃ m', MLe m m' ∧ P m' := ⟨m, MLe.refl m, h⟩
theorem body_liftW {K : PySem.W.Frag} {sp : LSp} {qb : QS} {N : List Str} (h : ∀ ds m Φ, sp ds m Φ → qb (bodyW Φ) (begin_ N.length ds) m) {vs : List V} {H : Hp} {Q : VK} {E : XK} (hs : liftSp K sp vs H Q E) :
    liftS K qb { nx := fun _ H' => Q .non H', rt := Q } (L2.start N vs) H := by
  obtain ⟨G, m, ds, Φ, rm, rd, q, k⟩ := hs
  refine ⟨G, begin_ N.length ds, m, bodyW Φ, rm, relS_start rd, h ds m Φ q, ?_, ?_, fun _ _ _ _ _ _ _ _ z => z.elim, fun _ _ _ _ _ _ _ _ z => z.elim⟩
  · exact fun G' s' m' σ' H' e1 r1 _ ⟨m2, le, q1⟩ => k G' .non m2 .non H' e1 (r1.le le) rfl q1
  · exact fun G' d m' v H' e1 r1 rv ⟨m2, le, q1⟩ => k G' d m2 v H' e1 (r1.le le) rv q1
/-- a list known by a property alone is looked into -/
def sOpen (q : QS) : QS := fun E s m => ∃ b P, m b = some (.any P) ∧ ∀ ds, P ds → q E s (mset m b (.lst ds))
theorem RelM.look {K : PySem.W.Frag} {m : Mem} {G H : Hp} {b : Addr} {P : List D → Prop} (r : RelM K m G H) (hb : m b = some (.any P)) : ∃ ds, P ds ∧ RelM K (mset m b (.lst ds)) G H := by
  obtain ⟨g, u, hu, ds, xs, p, e1, e2⟩ := r.mem b _ hb
  refine ⟨ds, p, r.sub, fun a o e => ?_⟩
  by_cases ha : a = b
  · subst ha
    rw [mset_same] at e; cases e
    exact ⟨g, u, hu, xs, e1, e2⟩
  · rw [mset_ne ha] at e
    exact r.mem a o e
theorem open_lift {K : PySem.W.Frag} {q : QS} : ∀ D σ H, liftS K (sOpen q) D σ H → liftS K q D σ H := fun D σ H ⟨G, s, m, E, rm, rs, ⟨b, P, hb, q⟩, kn, kr, kb, kc⟩ => by
  obtain ⟨ds, p, r⟩ := rm.look hb
  exact ⟨G, s, _, E, r, rs, q ds p, kn, kr, kb, kc⟩
theorem dss_open {X : Cx} {st : List Stmt} {q : QS} (h : PSs X st (liftS X.K q)) : PSs X st (liftS X.K (sOpen q)) := pss_imp h open_lift
/-! ### loops with weakening -/
def DE.wk (E : DE) : DE := { E with nx := fun s m => ∃ m', MLe m m' ∧ E.nx s m', ct := fun s m => ∃ m', MLe m m' ∧ E.ct s m' }
def sDone (q : QS) : QS := fun E s m => q E.wk s m
theorem done_lift {K : PySem.W.Frag} {q : QS} : ∀ D σ H, liftS K (sDone q) D σ H → liftS K q D σ H := fun D σ H ⟨G, s, m, E, rm, rs, q, kn, kr, kb, kc⟩ =>
  ⟨G, s, m, E.wk, rm, rs, q, fun G' s' m' σ' H' e1 r1 r2 ⟨m2, le, q1⟩ => kn G' s' m2 σ' H' e1 (r1.le le) r2 q1, kr, kb, fun G' s' m' σ' H' e1 r1 r2 ⟨m2, le, q1⟩ => kc G' s' m2 σ' H' e1 (r1.le le) r2 q1⟩
theorem dss_done {X : Cx} {st : List Stmt} {q : QS} (h : PSs X st (liftS X.K q)) : PSs X st (liftS X.K (sDone q)) := pss_imp h done_lift
/-! ### name = a comprehension, on one line -/
section
variable {X : Cx}
theorem lift_freeze {K : PySem.W.Frag} {qe : QE} : ∀ σ H Q, liftE K (qFreeze qe) σ H Q → liftE K qe σ H Q := fun σ H Q ⟨G, s, m, Φ, rm, rs, q, k⟩ => ⟨G, s, m, _, rm, rs, q, fun G1 d m1 v H1 e1 r1 rd q1 => by
    cases d with
    | ref a =>
      obtain rfl : v = .ref a := rd
      obtain ⟨ds, hm, q1⟩ := q1
      obtain ⟨G2, e2, r2, rv⟩ := r1.freeze hm
      exact k G2 _ _ _ H1 (e1.trans e2) r2 rv q1
    | _ => exact q1.elim⟩
theorem lift_nm {K : PySem.W.Frag} {i : Nat} {qe : QE} {D : Ends} {σ : L2.St} {H : Hp} (h : liftS K (sAsg (.nm i) qe) D σ H) : liftE K qe σ H (fun x H1 => gName i x σ H1 D.nx) := by
  obtain ⟨G, s, m, E, rm, rs, q, kn, kr, kb, kc⟩ := h
  exact ⟨G, s, m, _, rm, rs, q, fun G1 d m1 v H1 e1 r1 rv q1 => kn G1 _ m1 _ H1 e1 r1 ((rs.mono e1).set i rv) q1⟩
theorem ds_setLcF (i : Nat) {y : Str} {py : Pos} {elt tg iter : Expr} {ifs : List Expr} {scope : Scope} {own : List (Str × Nat)} {pos spos : Pos} {qi : QI} {p : Pat} {qt : QT} {qe : QE} (hc : X.calm = true) (hN : X.N.Nodup) (hi : PI X tg iter (liftI X.K qi)) (ok : BlkOk X.N X.env.scope scope own)
    (hg : ∀ (s : Shared) (H : Hp) (C : Addr) (cl : List (Str × Addr)) (fp : List Addr), PG (X.blk s H scope (compEnvC scope cl C X.env) fp) tg (tgOf X.K p))
    (ht : ∀ (s : Shared) (H : Hp) (C : Addr) (cl : List (Str × Addr)) (fp : List Addr), PTs (X.blk s H scope (compEnvC scope cl C X.env) fp) ifs (liftT X.K qt))
    (he : ∀ (s : Shared) (H : Hp) (C : Addr) (cl : List (Str × Addr)) (fp : List Addr), PE (X.blk s H scope (compEnvC scope cl C X.env) fp) elt (liftE X.K qe))
    (hsw : swapsWith (.ListComp elt [⟨tg, iter, ifs, 0⟩] scope pos) (some (.Name y py)) spos.line X.env = pure true := by exact sw_true rfl rfl rfl (by decide +kernel))
    (hy : X.N[i]? = some y := by rfl) (hyl : X.env.scope.names.lookup y = some .local := by rfl)
    (hv : ∀ i ∈ slots p, i ∈ own.map (·.2) := by decide) (hs : ∀ x, foldedSetIterable iter X.env x = pure x := by intro _; rfl) :
    PS X (.Assign [.Name y py] (.ListComp elt [⟨tg, iter, ifs, 0⟩] scope pos) spos) (liftS X.K (sAsg (.nm i) (qFreeze (qLc qi p qt qe (own.map (·.2)))))) :=
  ps_imp (ps_setLc hc hN hy hyl hsw hi ok hg ht he hs) fun D σ H h => lift_lc hv σ H _ (lift_freeze σ H _ (lift_nm h))
/-- name = {..} on one line -/
theorem ps_setDc {i : Nat} {y : Str} {py : Pos} {kx vx tg iter : Expr} {ifs : List Expr} {scope : Scope} {own : List (Str × Nat)} {pos spos : Pos} {wi : TI} {g : TG} {tt : TT} {tk tv : TE} (hc : X.calm = true) (hN : X.N.Nodup) (hy : X.N[i]? = some y) (hyl : X.env.scope.names.lookup y = some .local)
    (hsw : swapsWith (.DictComp kx vx [⟨tg, iter, ifs, 0⟩] scope pos) (some (.Name y py)) spos.line X.env = pure true) (hi : PI X tg iter wi) (ok : BlkOk X.N X.env.scope scope own)
    (hg : ∀ (s : Shared) (H : Hp) (C : Addr) (cl : List (Str × Addr)) (fp : List Addr), PG (X.blk s H scope (compEnvC scope cl C X.env) fp) tg g) (ht : ∀ (s : Shared) (H : Hp) (C : Addr) (cl : List (Str × Addr)) (fp : List Addr), PTs (X.blk s H scope (compEnvC scope cl C X.env) fp) ifs tt)
    (hk : ∀ (s : Shared) (H : Hp) (C : Addr) (cl : List (Str × Addr)) (fp : List Addr), PE (X.blk s H scope (compEnvC scope cl C X.env) fp) kx tk)
    (he : ∀ (s : Shared) (H : Hp) (C : Addr) (cl : List (Str × Addr)) (fp : List Addr), PE (X.blk s H scope (compEnvC scope cl C X.env) fp) vx tv) (hs : ∀ x, foldedSetIterable iter X.env x = pure x := by intro _; rfl) :
    PS X (.Assign [.Name y py] (.DictComp kx vx [⟨tg, iter, ifs, 0⟩] scope pos) spos) (tAsg (tDc wi g tt tk tv (own.map (·.2))) (gName i)) := by
  refine ⟨fun pins s σ H D I h => ?_⟩
  rw [exec_Assign_Name_used _ _ _ _ hsw]
  refine wpAny_bind (wpAny_standAt (wpAny_bind ?_))
  show wpAny _ X.A (do let _ ← comprehension (.DictComp kx vx [⟨tg, iter, ifs, 0⟩] scope pos) scope X.env (firstIterPos [⟨tg, iter, ifs, 0⟩] pos) newDict false (eval iter X.env) (some (assign (.Name y py) X.env))) _ _ s
  have h : tDc wi g tt tk tv (own.map (·.2)) σ H (fun x H1 => gName i x σ H1 D.nx) := h
  refine wpAny_bind (thn (dc_core (Qf := fun _ s' => SP X pins D .next s') hc hN I hi ok hg ht hk he hs h fun L C s' m H' I' q hn f => ?_) fun _ s' hq => wpAny_pure (wpAny_pure hq))
  show wpAny _ _ (assign (.Name y py) X.env (.ref L)) _ _ _
  refine wpAny_assign_Name (store_ok2 (v := V.ref L) I' hN hy (.inl hyl) rfl (fun s2 I2 ⟨a, sb, ha⟩ => ?_) (.inr hyl))
  obtain ⟨f0, f1, f2, f3, f4, f5⟩ := f
  have haC : C ≠ a := by
    rcases ha with z | z
    · rw [z]; exact f1
    · exact fun e => f4 y a z e.symm
  refine ⟨m, hn.sameBut sb haC, fun h3 sb3 => ?_⟩
  exact ⟨_, H', I2.turned (t' := s2.toks) (fun b o hb e => (sb3.2 b hb).trans e) f0 f1 f3 f4 f5, q⟩
theorem sw_trueD {kx vx : Expr} {gs : List Comprehension} {scope : Scope} {pos py : Pos} {y : Str} {l : Nat} {env : Env} (hk : env.scope.kind = .function) (hy : env.scope.names.lookup y = some .local) (hl : (py.line == pos.line) = true)
    (ha : (scope.names.any fun (n, k) => n == y && (k == .local || k == .cell)) = false) : swapsWith (.DictComp kx vx gs scope pos) (some (.Name y py)) l env = pure true := by
  have ky : env.kindOf y = some .local := hy
  have hb : env.blockKind = .function := by unfold Env.blockKind; rw [hk]; rfl
  unfold swapsWith
  simp only [hb, ky, ha, Expr.pos, hl]
  rfl
theorem ds_setDc (i : Nat) {y : Str} {py : Pos} {kx vx tg iter : Expr} {ifs : List Expr} {scope : Scope} {own : List (Str × Nat)} {pos spos : Pos} {qi : QI} {p : Pat} {qt : QT} {qk qe : QE} (hc : X.calm = true) (hN : X.N.Nodup) (hi : PI X tg iter (liftI X.K qi)) (ok : BlkOk X.N X.env.scope scope own)
    (hg : ∀ (s : Shared) (H : Hp) (C : Addr) (cl : List (Str × Addr)) (fp : List Addr), PG (X.blk s H scope (compEnvC scope cl C X.env) fp) tg (tgOf X.K p))
    (ht : ∀ (s : Shared) (H : Hp) (C : Addr) (cl : List (Str × Addr)) (fp : List Addr), PTs (X.blk s H scope (compEnvC scope cl C X.env) fp) ifs (liftT X.K qt))
    (hk : ∀ (s : Shared) (H : Hp) (C : Addr) (cl : List (Str × Addr)) (fp : List Addr), PE (X.blk s H scope (compEnvC scope cl C X.env) fp) kx (liftE X.K qk))
    (he : ∀ (s : Shared) (H : Hp) (C : Addr) (cl : List (Str × Addr)) (fp : List Addr), PE (X.blk s H scope (compEnvC scope cl C X.env) fp) vx (liftE X.K qe))
    (hsw : swapsWith (.DictComp kx vx [⟨tg, iter, ifs, 0⟩] scope pos) (some (.Name y py)) spos.line X.env = pure true := by exact sw_trueD rfl rfl rfl (by decide +kernel))
    (hy : X.N[i]? = some y := by rfl) (hyl : X.env.scope.names.lookup y = some .local := by rfl)
    (hv : ∀ i ∈ slots p, i ∈ own.map (·.2) := by decide) (hs : ∀ x, foldedSetIterable iter X.env x = pure x := by intro _; rfl) :
    PS X (.Assign [.Name y py] (.DictComp kx vx [⟨tg, iter, ifs, 0⟩] scope pos) spos) (liftS X.K (sAsg (.nm i) (qDc qi p qt qk qe (own.map (·.2))))) :=
  ps_imp (ps_setDc hc hN hy hyl hsw hi ok hg ht hk he hs) fun D σ H h => lift_dc hv σ H _ (lift_nm h)
end
/-! ### a property -/
section
variable {X : Cx} {k : Nat} {C p g a dx : Addr} {fs : List (Str × V)} {f : Str} {e : Expr} {pos : Pos}
theorem getpropR {CX : CXT} {sp : Sp} {E : XK} {pins : List (Addr × Obj)} {σ : L2.St} {H : Hp} {s : Shared} {Q : VK} {b : Bool} {E' : Value → Shared → Prop} (I : L2.Inv X pins σ H s) (ea : H a = some (.ins C dx fs)) (c : Cls X.K C) (hp : PropOf X.K C f p g)
    (F : FnR X.prog X.w X.K X.mg X.base CX k g sp) (hr : Room (k + 1) X.A) (hx : Passes CX X.nox E) (h : sp [.ref a] H Q E) :
    wpAny (model X.prog X.w) X.A (getAttr (.ref a) f b) (EP X pins σ Q) E' s := by
  obtain ⟨mA, O, _, _, _, _⟩ := ins_get I.hok ea
  obtain ⟨od, J, _⟩ := O.look
  obtain ⟨rest, hrec⟩ := hp.rec_
  have I1 := I.tok (s.toks + 1)
  have hc : (PySem.W.clsIn X.K C).isSome = true := by
    obtain ⟨cd, hc, _⟩ := PySem.W.any_some c.hd
    rw [hc]
    rfl
  refine PySem.W.get_bind I.kIn J (PySem.W.plainGet_of (c.get f)).1 (PySem.W.findObj_data hc hp.at_ hp.get hp.tak) (PySem.W.plainGet_of (c.get f)).2 (wpAny_call (PySem.W.prop_get (s := { s with toks := s.toks + 1 }) I.kIn hrec ?_))
  refine codeAny_mono (F X.A.in1 X.stack { s with toks := s.toks + 1 } H [.ref a] [.ref a] Q E hr.in1 I1.env0.in1 (.cons rfl .nil) h) fun r s' hq => ?_
  cases r with
  | error er => exact False.elim (hx pins σ H { s with toks := s.toks + 1 } er s' (I1.wish _) hq)
  | ok fl =>
    cases fl with
    | ret u =>
      obtain ⟨v, H', I3, rv, q3⟩ := I1.after hq
      show wpAny _ _ (handedOut u) _ _ _
      rw [PySem.W.handedOut_of (handed_of rv)]
      exact wpAny_pure ⟨v, H', I3, rv, q3⟩
    | next => exact False.elim hq
    | brk => exact False.elim hq
    | cont => exact False.elim hq
theorem de_prop {sp : LSp} {qe : QE} (he : PE X e (liftE X.K qe)) (c : Cls X.K C) (hp : PropOf X.K C f p g) (F : FnD X.prog X.w X.K X.mg X.base k g sp) (hr : Room (k + 1) X.A) (hab : attributeBase e f X.env (eval e X.env) = eval e X.env := by rfl) :
    PE X (.Attribute e f pos) (liftE X.K (qProp C sp qe)) := by
  refine ⟨fun pins s σ H Q I h => ?_⟩
  obtain ⟨G, s0, m, Φ, rm, rs, q, k0⟩ := h
  refine attr_of hab (thn (he.run pins s σ H _ I ⟨G, s0, m, _, rm, rs, q, fun G1 d m1 v H1 e1 r1 rd q1 => (?_ : ∃ G1 d m1 Φ, RelM X.K m1 G1 H1 ∧ RV X.K G1 d v ∧ qProp C sp (fun _ m2 Φ2 => Φ2 d m2) s0 m1 Φ ∧ KQ X.K G1 Φ Q)⟩) fun u s1 hh => ?_)
  · exact ⟨G1, d, m1, Φ, r1, rd, q1, k0.mono e1⟩
  · obtain ⟨x, H1, I1, rx, G1, d, m1, Φ, r1, rd, q1, k1⟩ := hh
    cases d with
    | ref a =>
      obtain rfl : x = .ref a := rd
      obtain rfl : u = Value.ref a := rx
      obtain ⟨⟨fs, hm⟩, q1⟩ := q1
      obtain ⟨_, w, hw, dx, xs, rfl, r⟩ := r1.mem a _ hm
      exact getpropR I1 hw c hp F hr (X := X) (CX := CX0) (E := E0) pass0 ⟨G1, m1, _, Φ, r1, RVs.one (show RV X.K G1 (.ref a) (.ref a) from rfl), q1, k1⟩
    | _ => exact q1.elim
end
/-! ### defs, with weakening behind -/
section
variable {P : Program} {w : World} {K : PySem.W.Frag} {mg : Str → Option Value} {base : Heap}
theorem fno_ofW {x qual : Str} {st : Stmt} {f : Addr} {fd : FuncData} {N ps : List Str} {k : Nat} {sp : LSp} {qb : QS} (F : Fun K x qual st f fd) (S : FnScope N ps (defScope st)) (len : ∀ ds m Φ, sp ds m Φ → ds.length = ps.length)
    (hd : ∀ (cdv : Value) (A : Around) (outer : List Env) (s : Shared) (H : Hp) (E : XK), Room k (A.deeper (envOfC qual (defScope st) s.heap.objs.size f cdv)) → PSs (cxB P w K mg base N qual st f cdv A outer s H E) (defBody st) (liftS K qb))
    (h : ∀ ds m Φ, sp ds m Φ → qb (bodyW Φ) (begin_ N.length ds) m) : FnOk P w K mg base CX0 (k + 1) f fd ps (liftSp K sp) := by
  refine F.ok S (fun vs H Q E hs => ?_) (fun cdv A outer s H vs Q E hr hs => ⟨liftS K qb, hd cdv A outer s H E hr, body_liftW h hs⟩)
  obtain ⟨G, m, ds, Φ, rm, rd, q, k⟩ := hs
  rw [← rd.length]; exact len ds m Φ q
/-- THE RULE for a def -/
theorem def_ofW {x qual : Str} {st : Stmt} {f : Addr} {fd : FuncData} {N ps : List Str} {k : Nat} {sp : LSp} {qb : QS} (F : Fun K x qual st f fd) (hb : Binds K fd ps []) (S : FnScope N ps (defScope st)) (len : ∀ ds m Φ, sp ds m Φ → ds.length = ps.length)
    (hd : ∀ (cdv : Value) (A : Around) (outer : List Env) (s : Shared) (H : Hp) (E : XK), Room k (A.deeper (envOfC qual (defScope st) s.heap.objs.size f cdv)) → PSs (cxB P w K mg base N qual st f cdv A outer s H E) (defBody st) (liftS K qb))
    (h : ∀ ds m Φ, sp ds m Φ → qb (bodyW Φ) (begin_ N.length ds) m) : FnD P w K mg base (k + 1) f sp := fnr_of (fno_ofW F S len hd h) hb
/-- def f(a, .., *v) -/
theorem star_ofW {x qual : Str} {st : Stmt} {f : Addr} {fd : FuncData} {N ps : List Str} {pv : Str} {k : Nat} {sp : LSp} {qb : QS} (F : Fun K x qual st f fd) (S : FnScope N (ps ++ [pv]) (defScope st))
    (hb : ∀ (kV doc pm : Value) (an : Option Addr) (cdv ct : Value) (us rest : List Value), us.length = ps.length → bindArgs (PySem.W.fnOf x qual (defArgs st) (defBody st) (defScope st) .none kV doc pm an cdv ct) ⟨us ++ rest, []⟩ = (newTuple rest >>= fun t => pure (ps.zip us ++ [(pv, t)])))
    (hd : ∀ (cdv : Value) (A : Around) (outer : List Env) (s : Shared) (H : Hp) (E : XK), Room k (A.deeper (envOfC qual (defScope st) s.heap.objs.size f cdv)) → PSs (cxB P w K mg base N qual st f cdv A outer s H E) (defBody st) (liftS K qb))
    (h : ∀ ds m Φ, sp ds m Φ → qb (bodyW Φ) (begin_ N.length ds) m) : FnD P w K mg base (k + 1) f (fun ds m Φ => ∃ ws rest, ds = ws ++ rest ∧ ws.length = ps.length ∧ rest.length ≤ sizeLine ∧ sp (ws ++ [.tup rest]) m Φ) := by
  obtain ⟨oc, od, kV, doc, pm, an, cdv, ct, osl, rfl, lk, hcd⟩ := F.ex
  have z := StX.fn_star (CX := CX0) (P := P) (w := w) (mg := mg) (base := base) (k := k) (sp := liftSp K sp) lk hcd S StX.cxUp_none (hb kV doc pm an cdv ct) (fun A outer s H vs Q E hr hs => ⟨liftS K qb, PSs.nox (hd cdv A outer s H E hr), body_liftW h hs⟩)
  refine FnR.imp z fun vs H Q E ⟨G, m, ds, Φ, rm, rd, ⟨ws, rest, e, hl, hz, q⟩, k⟩ => ?_
  subst e
  obtain ⟨xs, ys, rfl, r1, r2⟩ : ∃ xs ys, vs = xs ++ ys ∧ RVs K G ws xs ∧ RVs K G rest ys := by
    have l := rd.length
    refine ⟨vs.take ws.length, vs.drop ws.length, (List.take_append_drop _ _).symm, ?_, ?_⟩
    · have := rd.take ws.length; rwa [List.take_left] at this
    · have := rd.drop ws.length; rwa [List.drop_left] at this
  refine ⟨xs, ys, rfl, by rw [← r1.length]; exact hl, by rw [← r2.length]; exact hz, fun p hp => ?_⟩
  obtain ⟨r3, e3⟩ := rm.lay (u := .tup ys) hp
  exact ⟨_, m, _, Φ, r3, RVs.append (RVs.mono e3 _ r1) (RVs.one (show RV K _ (.tup rest) (.ref p) from ⟨p, ys, rfl, .inl (.inl upd_same), RVs.mono e3 _ r2⟩)), q, k.mono e3⟩
/-- no promise is kept -/
theorem fnd_false {k : Nat} {f : Addr} : FnD P w K mg base k f (fun _ _ _ => False) := fun A outer s H us vs Q E hr e0 r ⟨_, _, _, _, _, _, h, _⟩ => h.elim
theorem FnD.imp {k : Nat} {f : Addr} {sp sp' : LSp} (h : FnD P w K mg base k f sp) (i : ∀ ds m Φ, sp' ds m Φ → sp ds m Φ) : FnD P w K mg base k f sp' := FnR.imp h fun vs H Q E ⟨G, m, ds, Φ, rm, rd, q, k⟩ => ⟨G, m, ds, Φ, rm, rd, i ds m Φ q, k⟩
end
end L3
namespace L3
open PySem PySem.Spec PyProof.Rows L2
/-! ### == by kinds -/
theorem eqv_int (i j : Int) : PyData.eqv (.int i) (.int j) = decide (i = j) := by
  simp [PyData.eqv]
  exact Bool.eq_iff_iff.mpr (by simp)
theorem eqv_bl (i j : Bool) : PyData.eqv (.bool i) (.bool j) = decide (i = j) := by
  cases i <;> cases j <;> rfl
theorem sh_int (i : Int) : SeqAt.shaped (.int i) = true := by rfl
theorem sh_bl (i : Bool) : SeqAt.shaped (.bool i) = true := by rfl
def vEq : D → D → Mem → DK → Prop := fun x y m Φ => match x, y with
  | .int i, .int j => Φ (.bl (decide (i = j))) m
  | .bl i, .bl j => Φ (.bl (decide (i = j))) m
  | x, y => qEq x y m Φ
def vNe : D → D → Mem → DK → Prop := fun x y m Φ => match x, y with
  | .int i, .int j => Φ (.bl (!decide (i = j))) m
  | .bl i, .bl j => Φ (.bl (!decide (i = j))) m
  | x, y => qNe x y m Φ
theorem veq_of {x y : D} {m : Mem} {Φ : DK} (h : vEq x y m Φ) : qEq x y m Φ := by
  unfold vEq at h
  split at h
  · exact ⟨_, _, .inl rfl, .inl rfl, sh_int _, sh_int _, by rw [eqv_int]; exact h⟩
  · exact ⟨_, _, .inl rfl, .inl rfl, sh_bl _, sh_bl _, by rw [eqv_bl]; exact h⟩
  · exact h
theorem vne_of {x y : D} {m : Mem} {Φ : DK} (h : vNe x y m Φ) : qNe x y m Φ := by
  unfold vNe at h
  split at h
  · exact ⟨_, _, .inl rfl, .inl rfl, sh_int _, sh_int _, by rw [eqv_int]; exact h⟩
  · exact ⟨_, _, .inl rfl, .inl rfl, sh_bl _, sh_bl _, by rw [eqv_bl]; exact h⟩
  · exact h
section
variable {X : Cx}
theorem do_eq2 (hu : X.A.units + 64 < cLine) : OpR X (compareOp .Eq) (liftR X.K vEq) := op_imp (do_eq hu) fun x y H Q ⟨G, m, dx, dy, Φ, rm, rx, ry, q, k⟩ => ⟨G, m, dx, dy, Φ, rm, rx, ry, veq_of q, k⟩
theorem do_ne2 (hu : X.A.units + 64 < cLine) : OpR X (compareOp .NotEq) (liftR X.K vNe) := op_imp (do_ne hu) fun x y H Q ⟨G, m, dx, dy, Φ, rm, rx, ry, q, k⟩ => ⟨G, m, dx, dy, Φ, rm, rx, ry, vne_of q, k⟩
end
end L3
namespace L3
open PySem PySem.Spec PyProof.Rows L2
open Rat (divInt)
/-! ### amounts: fractions in lowest terms -/
def am (q : Rat) : D := .tup [.int q.num, .int q.den]
theorem am_low {t b g : Int} (hb : 0 < b) (hg : g = (Int.gcd t b : Nat)) : D.tup [.int (t / g), .int (b / g)] = am (divInt t b) := by
  have h1 : (divInt t b).num = t / g := by rw [Rat.num_divInt, Int.sign_eq_one_of_pos hb, Int.one_mul, Int.gcd_comm, hg]
  have h2 : ((divInt t b).den : Int) = b / g := by
    rw [Rat.den_divInt, if_neg (by omega), Int.gcd_comm, hg, Int.natCast_ediv]
    congr 1
    omega
  unfold am
  rw [h1, h2]
theorem divInt_num_den (q : Rat) : divInt q.num q.den = q := Rat.num_divInt_den q
theorem den_pos (q : Rat) : (0 : Int) < q.den := by have := q.den_pos; omega
theorem den_ne (q : Rat) : (q.den : Int) ≠ 0 := by have := q.den_pos; omega
theorem am_add (p q : Rat) : divInt (p.num * q.den + q.num * p.den) (p.den * q.den) = p + q := by
  conv => rhs; rw [← divInt_num_den p, ← divInt_num_den q]
  rw [Rat.divInt_add_divInt _ _ (den_ne p) (den_ne q)]
theorem am_sub (p q : Rat) : divInt (p.num * q.den - q.num * p.den) (p.den * q.den) = p - q := by
  conv => rhs; rw [← divInt_num_den p, ← divInt_num_den q]
  rw [Rat.divInt_sub_divInt _ _ (den_ne p) (den_ne q)]
theorem am_scale (p : Rat) (t b : Int) : divInt (p.num * t) (p.den * b) = p * (divInt t b) := by
  conv => rhs; rw [← divInt_num_den p]
  rw [Rat.divInt_mul_divInt]
theorem am_lt (p q : Rat) : p < q ↔ p.num * q.den < q.num * p.den := Rat.lt_iff p q
theorem am_le (p q : Rat) : p ≤ q ↔ p.num * q.den ≤ q.num * p.den := Rat.le_iff p q
theorem am_nonneg {p : Rat} : 0 ≤ p ↔ 0 ≤ p.num := Rat.num_nonneg.symm
/-- q's denominator divides N -/
def Dn (N : Nat) (q : Rat) : Prop := ∃ z : Int, q * (N : Rat) = z
theorem Dn.zero (N : Nat) : Dn N 0 := ⟨0, by rw [Rat.zero_mul]; rfl⟩
theorem Dn.add {N : Nat} {p q : Rat} (h : Dn N p) (k : Dn N q) : Dn N (p + q) := by
  obtain ⟨z, h⟩ := h
  obtain ⟨w, k⟩ := k
  exact ⟨z + w, by rw [Rat.intCast_add]; grind⟩
theorem Dn.sub {N : Nat} {p q : Rat} (h : Dn N p) (k : Dn N q) : Dn N (p - q) := by
  obtain ⟨z, h⟩ := h
  obtain ⟨w, k⟩ := k
  exact ⟨z - w, by rw [Rat.intCast_sub]; grind⟩
theorem Dn.mono {N : Nat} (M : Nat) {p : Rat} (h : Dn N p) : Dn (N * M) p := by
  obtain ⟨z, h⟩ := h
  exact ⟨z * M, by rw [Rat.natCast_mul, Rat.intCast_mul, Rat.intCast_natCast]; grind⟩
theorem Dn.of {N : Nat} {t b : Int} (hb : b ≠ 0) (M : Nat) (e : b * M = N) : Dn N (divInt t b) := by
  refine ⟨t * M, ?_⟩
  have hN : (N : Rat) = (b : Rat) * (M : Rat) := by rw [← Rat.intCast_natCast, ← e, Rat.intCast_mul, Rat.intCast_natCast]
  have hb' : (b : Rat) ≠ 0 := by intro z; exact hb (Rat.intCast_eq_zero_iff.mp z)
  rw [Rat.divInt_eq_div, hN, Rat.intCast_mul, Rat.intCast_natCast]
  grind
theorem Dn.mul {N M : Nat} {p q : Rat} (h : Dn N p) (k : Dn M q) : Dn (N * M) (p * q) := by
  obtain ⟨z, h⟩ := h
  obtain ⟨w, k⟩ := k
  exact ⟨z * w, by rw [Rat.natCast_mul, Rat.intCast_mul]; grind⟩
theorem Dn.dvd {N : Nat} {q : Rat} (h : Dn N q) (hN : N ≠ 0) : q.den ∣ N := by
  obtain ⟨z, h⟩ := h
  have e : q = divInt z (N : Int) := by
    rw [Rat.divInt_eq_div, ← h]
    have : ((N : Int) : Rat) ≠ 0 := by intro z; have := Rat.intCast_eq_zero_iff.mp z; omega
    rw [Rat.intCast_natCast] at this ⊢
    grind
  rw [e, Rat.den_divInt, if_neg (by omega)]
  rw [Int.natAbs_natCast]
  exact Nat.div_dvd_of_dvd (by
    have := Int.gcd_dvd_left (a := (N : Int)) (b := z)
    exact Int.ofNat_dvd.mp this)
theorem Dn.le {N : Nat} {q : Rat} (h : Dn N q) (hN : 0 < N) : q.den ≤ N := Nat.le_of_dvd hN (h.dvd (by omega))
theorem gcd_step {x y : Int} (hx : 0 ≤ x) (hy : 0 ≤ y) : Int.gcd y (x % y) = Int.gcd y x := by
  obtain ⟨a, rfl⟩ := Int.eq_ofNat_of_zero_le hx
  obtain ⟨b, rfl⟩ := Int.eq_ofNat_of_zero_le hy
  show Nat.gcd b (a % b) = Nat.gcd b a
  rw [Nat.gcd_comm b (a % b), ← Nat.gcd_rec]
theorem MLe.any {m : Mem} {a : Addr} {ds : List D} {P : List D → Prop} (p : P ds) : MLe (mset m a (.lst ds)) (mset m a (.any P)) := fun b o h => by
  by_cases hb : b = a
  · subst hb
    rw [mset_same] at h
    cases h
    exact ⟨_, mset_same, .inr (.inl ⟨ds, P, rfl, rfl, p⟩)⟩
  · rw [mset_ne hb] at h
    exact ⟨o, by rw [mset_ne hb]; exact h, .inl rfl⟩
end L3
open PySem PySem.Spec PyProof.Rows L2 L3
theorem L2.FnOk.imp_law {P : Program} {w : World} {K : PySem.W.Frag} {mg : Str → Option Value} {base : Heap} {CX : CXT} {k : Nat} {f : Addr} {fd : FuncData} {ps : List Str} (F : FnOk P w K mg base CX k f fd ps (liftSp K lspLaw)) : FnOk P w K mg base CX k f fd ps (spLaw K) := F.imp law_imp
namespace L3
/-- i ** j, its value kept as a name (so that no test over it is reckoned out) -/
def qPow : D → D → Mem → DK → Prop := fun x y m Φ => match x, y with
  | .int i, .int j => CPow i j ∧ ∀ n : Int, n = i ^ j.toNat → Φ (.int n) m
  | _, _ => False
theorem do_pow2 {X : Cx} : OpR X (binaryOp .Pow) (liftR X.K qPow) := op_imp do_pow fun x y H Q ⟨G, m, dx, dy, Φ, rm, rx, ry, q, k⟩ => by
  refine ⟨G, m, dx, dy, Φ, rm, rx, ry, ?_, k⟩
  unfold qPow at q
  split at q
  · exact ⟨q.1, q.2 _ rfl⟩
  · exact q.elim
end L3
namespace L3
open PySem PySem.Spec PyProof.Rows L2
/-! ### {k: v, ..} -/
def qPairs : List (QE × QE) → DSt → Mem → (List (D × D) → Mem → Prop) → Prop
  | [], _, m, Φ => Φ [] m
  | p :: r, s, m, Φ => p.1 s m fun x m1 => p.2 s m1 fun y m2 => qPairs r s m2 fun ps m3 => Φ ((x, y) :: ps) m3
def keysP : List (D × D) → Option (List (Key × D))
  | [] => some []
  | p :: r => match keyD p.1, keysP r with
    | some k, some ks => some ((k, p.2) :: ks)
    | _, _ => none
def mergeD (ks more : List (Key × D)) : List (Key × D) := more.foldl (fun acc kv => putD acc kv.1 kv.2) ks
def qDisp (ps : List (QE × QE)) : QE := fun s m Φ => ∀ p, m p = none → qPairs ps s (mset m p (.dK [])) fun xs m2 => m2 p = some (.dK []) ∧ ∃ kvs, keysP xs = some kvs ∧ kvs.length ≤ 15 ∧ Φ (.ref p) (mset m2 p (.dK (mergeD [] kvs)))
section
variable {K : PySem.W.Frag}
def RPs (K : PySem.W.Frag) (G : Hp) : List (D × D) → List (V × V) → Prop
  | [], [] => True
  | p :: r, q :: t => RV K G p.1 q.1 ∧ RV K G p.2 q.2 ∧ RPs K G r t
  | _, _ => False
theorem RPs.keys {G : Hp} : ∀ {xs : List (D × D)} {vs : List (V × V)} {kvs : List (Key × D)}, RPs K G xs vs → keysP xs = some kvs → ∃ kws : List (Key × V), vs = kws.map (fun kv => (kV kv.1, kv.2)) ∧ RKs K G kvs kws
  | [], [], kvs, _, e => by cases e; exact ⟨[], rfl, rfl⟩
  | p :: r, q :: t, kvs, ⟨h1, h2, h3⟩, e => by
    unfold keysP at e
    cases k1 : keyD p.1 with
    | none => rw [k1] at e; cases e
    | some k =>
      cases k2 : keysP r with
      | none => rw [k1, k2] at e; cases e
      | some ks =>
        rw [k1, k2] at e
        cases e
        obtain ⟨kws, rfl, hr⟩ := RPs.keys h3 k2
        refine ⟨(k, q.2) :: kws, ?_, q.2, kws, rfl, h2, hr⟩
        rw [List.map_cons]
        have : q.1 = kV k := RV.key h1 k1
        rw [← this]
  | [], _ :: _, _, h, _ => h.elim
  | _ :: _, [], _, h, _ => h.elim
theorem RKs.merge {G : Hp} : ∀ {more : List (Key × D)} {rs : List (Key × V)} {ks : List (Key × D)} {vs : List (Key × V)}, RKs K G more rs → RKs K G ks vs → RKs K G (mergeD ks more) (mergeK vs rs)
  | [], _, ks, vs, h, r0 => by rw [show _ = [] from h]; exact r0
  | p :: more, _, ks, vs, ⟨x, q, h1, h2, h3⟩, r0 => by
    subst h1
    exact RKs.merge (more := more) (rs := q) h3 (RKs.put p.1 h2 r0)
theorem pairs_lift {G : Hp} {s : DSt} {σ : L2.St} : ∀ {ps : List (QE × QE)} {G' : Hp} {m : Mem} {H : Hp} {Φ : List (D × D) → Mem → Prop} {Q : List (V × V) → Hp → Prop}, RelS K s G σ → Sub G G' → RelM K m G' H → qPairs ps s m Φ →
    (∀ G2 xs m2 vs H2, Sub G' G2 → RelM K m2 G2 H2 → RPs K G2 xs vs → Φ xs m2 → Q vs H2) → tPairs (ps.map fun p => (liftE K p.1, liftE K p.2)) σ H Q
  | [], G', m, H, Φ, Q, rs, e, rm, q, k => k G' [] m [] H (Sub.refl G') rm trivial q
  | p :: ps, G', m, H, Φ, Q, rs, e, rm, q, k => ⟨G', s, m, _, rm, rs.mono e, q, fun G1 x m1 v H1 e1 r1 rx q1 => ⟨G1, s, m1, _, r1, rs.mono (e.trans e1), q1, fun G2 y m2 u H2 e2 r2 ry q2 =>
      pairs_lift rs ((e.trans e1).trans e2) r2 q2 fun G3 xs m3 vs H3 e3 r3 rx3 q3 => k G3 ((x, y) :: xs) m3 ((v, u) :: vs) H3 ((e1.trans e2).trans e3) r3 ⟨RV.mono (e2.trans e3) _ rx, RV.mono e3 _ ry, rx3⟩ q3⟩⟩
theorem lift_disp {ps : List (QE × QE)} : ∀ σ H Q, liftE K (qDisp ps) σ H Q → tDisp (ps.map fun p => (liftE K p.1, liftE K p.2)) σ H Q := fun σ H Q ⟨G, s, m, Φ, rm, rs, q, k⟩ p hp => by
  refine pairs_lift rs (Sub.refl G) (rm.new (o := .dK []) hp ⟨[], rfl, rfl⟩) (q p (rm.free hp)) fun G2 xs m2 vs H2 e2 r2 rx ⟨hm, kvs, hk, hl, q2⟩ => ?_
  obtain ⟨g, u, hu, ws, rfl, rw0⟩ := r2.mem p _ hm
  have hw : ws = [] := rw0
  subst hw
  obtain ⟨kws, rfl, rk⟩ := rx.keys hk
  refine ⟨hu, kws, rfl, by rw [← rk.length]; exact hl, k G2 (.ref p) _ _ _ e2 (r2.put (o := .dK (mergeD [] kvs)) hm ⟨_, rfl, RKs.merge rk (show RKs K G2 [] [] from rfl)⟩) rfl q2⟩
end
section
variable {X : Cx} {pos : Pos} {k v : Expr} {ks : List (Option Expr)} {vs : List Expr} {qk qv : QE} {ps : List (QE × QE)}
theorem dps_nil : PPs X pos [] [] (([] : List (QE × QE)).map fun p => (liftE X.K p.1, liftE X.K p.2)) := pps_nil
theorem dps_cons (hk : PE X k (liftE X.K qk)) (hv : PE X v (liftE X.K qv)) (hr : PPs X pos ks vs (ps.map fun p => (liftE X.K p.1, liftE X.K p.2))) : PPs X pos (some k :: ks) (v :: vs) (((qk, qv) :: ps).map fun p => (liftE X.K p.1, liftE X.K p.2)) := pps_cons hk hv hr
theorem de_disp {keys : List (Option Expr)} {values : List Expr} (h : PPs X pos keys values (ps.map fun p => (liftE X.K p.1, liftE X.K p.2))) (hall : keys.all (·.isSome) = true := by rfl) (hl : keys.length = values.length := by rfl) (h0 : keys ≠ [] := by simp) (h15 : keys.length ≤ 15 := by decide) :
    PE X (.Dict keys values pos) (liftE X.K (qDisp ps)) := pe_imp (pe_disp h hall hl h0 h15) lift_disp
end
end L3
/-! L4a: plain mathematics of amounts, sums, tables -/
namespace L4
open PySem PySem.Spec PyProof.Rows L2 L3
open Rat (divInt)
theorem dec_t {p : Prop} [Decidable p] (h : decide p = true) : p := of_decide_eq_true h
theorem dec_f {p : Prop} [Decidable p] (h : decide p = false) : ¬ p := of_decide_eq_false h
theorem cm_r {i j : Int} (h : 0 ≤ j) (h2 : j < 2 ^ 62) : CM i j := .inl (.inr ⟨by omega, by omega⟩)
theorem cm_l {i j : Int} (h : 0 ≤ i) (h2 : i < 2 ^ 62) : CM i j := .inl (.inl ⟨by omega, by omega⟩)
theorem cm_b {i j : Int} (h : i.natAbs.log2 < 9000) (h2 : j.natAbs.log2 < 9000) : CM i j := .inr (show _ < 1000000 by omega)
theorem log2_le {a b : Nat} (h : a ≤ b) : a.log2 ≤ b.log2 := by
  rcases Nat.eq_zero_or_pos a with z | z
  · subst z; simp
  · exact (Nat.le_log2 (by omega)).mpr (Nat.le_trans (Nat.log2_self_le (by omega)) h)
theorem log2_mul (a b : Nat) : (a * b).log2 ≤ a.log2 + b.log2 + 1 := by
  rcases Nat.eq_zero_or_pos (a * b) with z | z
  · rw [z]; simp
  · have ha : a ≠ 0 := fun e => by subst e; simp at z
    have hb : b ≠ 0 := fun e => by subst e; simp at z
    have h1 : a < 2 ^ (a.log2 + 1) := (Nat.log2_lt ha).mp (by omega)
    have h2 : b < 2 ^ (b.log2 + 1) := (Nat.log2_lt hb).mp (by omega)
    have h3 : a * b < 2 ^ (a.log2 + 1) * 2 ^ (b.log2 + 1) := Nat.mul_lt_mul_of_lt_of_lt h1 h2
    rw [← Nat.pow_add] at h3
    have := (Nat.log2_lt (by omega)).mpr h3
    omega
theorem log2_small {a : Nat} {k : Nat} (h : a < 2 ^ k) (hk : 0 < k) : a.log2 < k := by
  rcases Nat.eq_zero_or_pos a with z | z
  · subst z; simpa using hk
  · exact (Nat.log2_lt (by omega)).mpr h
theorem cd_of {i j : Int} (h : 0 < j) (h2 : j.natAbs.log2 < 9000) : CDivW i j := ⟨h, h2⟩
theorem cd_le {i g b : Int} (h : 0 < g) (h1 : g ≤ b) (h2 : b.natAbs.log2 < 9000) : CDivW i g := ⟨h, Nat.lt_of_le_of_lt (log2_le (by omega)) h2⟩
theorem cd_s {i j : Int} (h : 0 < j) (h2 : j < 2 ^ 62) : CDivW i j := ⟨h, by
  have := log2_small (a := j.natAbs) (k := 62) (by omega) (by decide)
  omega⟩
/-! ### bounded amounts -/
def Bg (q : Rat) : Prop := q.num.natAbs.log2 < 4000 ∧ q.den.log2 < 4000
/-- not below nought, at most M, the denominator divides N -/
structure Okb (N M : Nat) (q : Rat) : Prop where
  nn : 0 ≤ q
  le : q ≤ (M : Rat)
  dn : Dn N q
theorem Okb.bg {N M : Nat} {q : Rat} (h : Okb N M q) (h0 : 0 < N) (h1 : N.log2 < 1900) (h2 : M.log2 < 2000) : Bg q := by
  have hd : q.den ≤ N := h.dn.le h0
  have h3 : q.num * 1 ≤ (M : Int) * q.den := by
    have := (am_le q (M : Rat)).mp h.le
    rw [Rat.den_natCast, Rat.num_natCast] at this
    exact this
  have h4 : 0 ≤ q.num := am_nonneg.mp h.nn
  have h5 : q.num.natAbs ≤ M * N := by
    have h6 : ((q.num.natAbs : Nat) : Int) = q.num := by omega
    have h7 : (M : Int) * q.den ≤ (M : Int) * N := Int.mul_le_mul_of_nonneg_left (by omega) (by omega)
    have h8 : ((q.num.natAbs : Nat) : Int) ≤ ((M * N : Nat) : Int) := by rw [h6, Int.natCast_mul]; omega
    omega
  have a1 := log2_le h5
  have a2 := log2_mul M N
  have a3 := log2_le hd
  exact ⟨by omega, by omega⟩
theorem Okb.zero (N M : Nat) : Okb N M 0 := ⟨Rat.le_refl, by exact Rat.natCast_nonneg, Dn.zero N⟩
theorem Okb.add {N M M' : Nat} {p q : Rat} (h : Okb N M p) (k : Okb N M' q) : Okb N (M + M') (p + q) := by
  have h1 := h.nn; have h2 := k.nn; have h3 := h.le; have h4 := k.le
  exact ⟨by grind, by rw [Rat.natCast_add]; grind, h.dn.add k.dn⟩
theorem natCast_mono {M M' : Nat} (e : M ≤ M') : (M : Rat) ≤ (M' : Rat) := by
  have := Rat.intCast_le_intCast.mpr (show (M : Int) ≤ (M' : Int) by omega)
  rwa [Rat.intCast_natCast, Rat.intCast_natCast] at this
theorem Okb.up {N M M' : Nat} {q : Rat} (h : Okb N M q) (e : M ≤ M') : Okb N M' q := ⟨h.nn, Rat.le_trans h.le (natCast_mono e), h.dn⟩
theorem Okb.wide {N M : Nat} {q : Rat} (h : Okb N M q) (k : Nat) : Okb (N * k) M q := ⟨h.nn, h.le, h.dn.mono k⟩
theorem Okb.less {N M : Nat} {p q : Rat} (h : Okb N M p) (h0 : 0 ≤ q) (h1 : q ≤ p) (hd : Dn N q) : Okb N M q := ⟨h0, Rat.le_trans h1 h.le, hd⟩
theorem divInt_nn {t b : Int} (h : 0 ≤ t) (hb : 0 < b) : 0 ≤ divInt t b := by
  rw [am_nonneg, Rat.num_divInt, Int.sign_eq_one_of_pos hb, Int.one_mul]
  exact Int.ediv_nonneg h (by omega)
theorem divInt_le {t b M : Int} (hb : 0 < b) (h : t ≤ M * b) : divInt t b ≤ (M : Rat) := by
  rw [Rat.divInt_eq_div]
  have h1 : (0 : Rat) < (b : Rat) := by have := Rat.intCast_lt_intCast.mpr hb; exact this
  have h2 : (t : Rat) ≤ (M : Rat) * (b : Rat) := by rw [← Rat.intCast_mul]; exact Rat.intCast_le_intCast.mpr h
  refine Rat.le_of_mul_le_mul_right (c := (b : Rat)) ?_ h1
  have h3 : (b : Rat) ≠ 0 := by grind
  have h4 : (t : Rat) / (b : Rat) * (b : Rat) = t := by grind
  rw [h4]; exact h2
theorem den_abs (q : Rat) : ((q.den : Int)).natAbs = q.den := Int.natAbs_natCast _
theorem cm_nd {p q : Rat} (h : Bg p) (k : Bg q) : CM p.num (q.den : Int) := cm_b (by have := h.1; omega) (by rw [den_abs]; have := k.2; omega)
theorem cm_dd {p q : Rat} (h : Bg p) (k : Bg q) : CM (p.den : Int) (q.den : Int) := cm_b (by rw [den_abs]; have := h.2; omega) (by rw [den_abs]; have := k.2; omega)
theorem den_mul_pos (p q : Rat) : 0 < (p.den : Int) * (q.den : Int) := Int.mul_pos (den_pos p) (den_pos q)
theorem dd_log {p q : Rat} (h : Bg p) (k : Bg q) : ((p.den : Int) * (q.den : Int)).natAbs.log2 < 9000 := by
  rw [Int.natAbs_mul, den_abs, den_abs]
  have := log2_mul p.den q.den
  have := h.2; have := k.2; omega
theorem am0 : am 0 = .tup [.int 0, .int 1] := rfl
theorem am1 (n : Int) : am (n : Rat) = .tup [.int n, .int 1] := by unfold am; rw [Rat.num_intCast, Rat.den_intCast]; rfl
theorem am_eq (p q : Rat) : p = q ↔ p.num * q.den = q.num * p.den := by
  constructor
  · rintro rfl; rfl
  · intro h
    exact Rat.le_antisymm ((am_le p q).mpr (by omega)) ((am_le q p).mpr (by omega))
theorem am_inj {p q : Rat} (h : am p = am q) : p = q := by
  unfold am at h
  have h1 := (D.tup.inj h)
  simp only [List.cons.injEq, and_true, D.int.injEq] at h1
  exact Rat.ext h1.1 (by omega)
/-- what is left -/
def rest (p q : Rat) : Rat := if q ≤ p then p - q else 0
theorem rest_eq (p q : Rat) : divInt (if 0 > p.num * q.den - q.num * p.den then 0 else p.num * q.den - q.num * p.den) (p.den * q.den) = rest p q := by
  unfold rest
  by_cases h : q ≤ p
  · rw [if_pos h, if_neg (by have := (am_le q p).mp h; omega), am_sub]
  · have h' : p < q := Rat.not_le.mp h
    rw [if_neg h, if_pos (by have := (am_lt p q).mp h'; omega), Rat.zero_divInt]
theorem rest_nn (p q : Rat) : 0 ≤ rest p q := by
  unfold rest
  split
  · rename_i h; grind
  · exact Rat.le_refl
theorem rest_le {p q : Rat} (h : 0 ≤ p) (k : 0 ≤ q) : rest p q ≤ p := by
  unfold rest
  split <;> grind
theorem rest_pos {p q : Rat} (h : q ≤ p) : rest p q = p - q := if_pos h
theorem rest_dn {N : Nat} {p q : Rat} (h : Dn N p) (k : Dn N q) : Dn N (rest p q) := by
  unfold rest
  split
  · exact h.sub k
  · exact Dn.zero N
theorem rest_ok {N M : Nat} {p q : Rat} (h : Okb N M p) (k0 : 0 ≤ q) (kd : Dn N q) : Okb N M (rest p q) := h.less (rest_nn p q) (rest_le h.nn k0) (rest_dn h.dn kd)
def mn (p q : Rat) : Rat := if q < p then q else p
def mx (p q : Rat) : Rat := if p < q then q else p
theorem mx_le {p q r : Rat} (h : p ≤ r) (k : q ≤ r) : mx p q ≤ r := by unfold mx; split <;> assumption
theorem mx_bg {p q : Rat} (h : Bg p) (k : Bg q) : Bg (mx p q) := by unfold mx; split <;> assumption
theorem mn_bg {p q : Rat} (h : Bg p) (k : Bg q) : Bg (mn p q) := by unfold mn; split <;> assumption
theorem mx_ok {N M : Nat} {p q : Rat} (h : Okb N M p) (k : Okb N M q) : Okb N M (mx p q) := by unfold mx; split <;> assumption
theorem mn_ok {N M : Nat} {p q : Rat} (h : Okb N M p) (k : Okb N M q) : Okb N M (mn p q) := by unfold mn; split <;> assumption
def total : List Rat → Rat
  | [] => 0
  | q :: r => q + total r
theorem total_app (a b : List Rat) : total (a ++ b) = total a + total b := by
  induction a with
  | nil => show total b = 0 + total b; rw [Rat.zero_add]
  | cons x a ih => show x + total (a ++ b) = x + total a + total b; rw [ih, Rat.add_assoc]
theorem total_ok {N M : Nat} : ∀ {l : List Rat}, (∀ q ∈ l, Okb N M q) → Okb N (l.length * M) (total l)
  | [], _ => Okb.zero N _
  | q :: l, h => by
    have := (h q List.mem_cons_self).add (total_ok (l := l) fun x hx => h x (List.mem_cons_of_mem _ hx))
    have e : (q :: l).length * M = M + l.length * M := by rw [List.length_cons, Nat.succ_mul]; omega
    rw [e]; exact this
theorem take_more {α : Type} : ∀ {l : List α} {i : Nat} {x : α}, l[i]? = some x → l.take (i + 1) = l.take i ++ [x]
  | [], i, x, h => by simp at h
  | a :: l, 0, x, h => by
    have e : a = x := Option.some.inj h
    subst e
    rfl
  | a :: l, i + 1, x, h => by
    have ih := take_more (l := l) (i := i) (x := x) h
    show a :: l.take (i + 1) = a :: l.take i ++ [x]
    rw [ih]
    rfl
theorem total_more {l : List Rat} {i : Nat} {q : Rat} (h : l[i]? = some q) : total (l.take (i + 1)) = total (l.take i) + q := by
  rw [take_more h, total_app]
  show _ + (q + 0) = _
  rw [Rat.add_zero]
theorem get_map {α β : Type} {f : α → β} {l : List α} {i : Nat} {y : β} (h : (l.map f)[i]? = some y) : ∃ x, l[i]? = some x ∧ f x = y := by
  rw [List.getElem?_map] at h
  cases e : l[i]? with
  | none => rw [e] at h; cases h
  | some x => rw [e] at h; exact ⟨x, rfl, Option.some.inj h⟩
theorem get_ints {lo : Int} {n i : Nat} {d : D} (h : (intsD lo n)[i]? = some d) : i < n ∧ d = .int (lo + i) := by
  obtain ⟨j, hj, rfl⟩ := get_map h
  have hi := (List.getElem?_eq_some_iff.mp hj).1
  rw [List.length_range] at hi
  rw [List.getElem?_range hi] at hj
  cases hj
  exact ⟨hi, rfl⟩
theorem ints_len {lo : Int} {n : Nat} : (intsD lo n).length = n := by unfold intsD; rw [List.length_map, List.length_range]
theorem atI_in {α : Type} (xs : List α) {d : Int} (h0 : 0 ≤ d) (h1 : d < xs.length) : ∃ x ∈ xs, atI xs d = some x := by
  obtain ⟨j, rfl⟩ : ∃ j : Nat, d = j := ⟨d.toNat, by omega⟩
  have hj : j < xs.length := by omega
  exact ⟨xs[j], List.getElem_mem hj, atI_nat (List.getElem?_eq_getElem hj)⟩
theorem plus_same {t b : Int} {q : Rat} (e : (q.den : Int) = b) (hb : 0 < b) : divInt (t + q.num) b = divInt t b + q := by
  conv => rhs; rw [← divInt_num_den q]
  rw [e, Rat.divInt_add_divInt _ _ (by omega) (by omega), ← Int.add_mul, Rat.divInt_mul_right (by omega)]
theorem plus_else {t : Int} {bn : Nat} {q : Rat} (hb : 0 < bn) : divInt (t * ((q.den / Nat.gcd bn q.den : Nat) : Int) + q.num * ((bn / Nat.gcd bn q.den : Nat) : Int)) ((bn / Nat.gcd bn q.den * q.den : Nat) : Int) = divInt t bn + q := by
  have hg : 0 < Nat.gcd bn q.den := Nat.gcd_pos_of_pos_left _ hb
  obtain ⟨b', hb'⟩ := Nat.gcd_dvd_left bn q.den
  obtain ⟨p', hp'⟩ := Nat.gcd_dvd_right bn q.den
  generalize hgg : Nat.gcd bn q.den = g at *
  have e1 : bn / g = b' := by rw [hb', Nat.mul_div_cancel_left _ hg]
  have e2 : q.den / g = p' := by rw [hp', Nat.mul_div_cancel_left _ hg]
  have hb0 : 0 < b' := by
    rcases Nat.eq_zero_or_pos b' with z | z
    · subst z; omega
    · exact z
  rw [e1, e2]
  conv => rhs; rw [← divInt_num_den q]
  rw [Rat.divInt_add_divInt _ _ (by omega) (den_ne q)]
  have hd := den_pos q
  rw [Rat.divInt_eq_divInt_iff (by have := Nat.mul_pos hb0 q.den_pos; omega) (by have := Int.mul_pos (show (0 : Int) < bn by omega) hd; omega)]
  have h3 : (bn : Int) = g * b' := by rw [← Int.natCast_mul, ← hb']
  have h4 : (q.den : Int) = g * p' := by rw [← Int.natCast_mul, ← hp']
  rw [Int.natCast_mul, h3, h4]
  grind
/-! ### the memory -/
theorem ne_none {m : Mem} {a b : Addr} {o : AO} (h : m a = some o) (k : m b = none) : a ≠ b := fun e => by subst e; rw [h] at k; cases k
theorem ne_obj {m : Mem} {a b : Addr} {o u : AO} (h : m a = some o) (k : m b = some u) (d : o ≠ u) : a ≠ b := fun e => by subst e; rw [h] at k; exact d (Option.some.inj k)
theorem mset_none {m : Mem} {a b : Addr} {o : AO} (h : mset m a o b = none) : b ≠ a ∧ m b = none := by
  by_cases e : b = a
  · subst e; rw [mset_same] at h; cases h
  · rw [mset_ne e] at h; exact ⟨e, h⟩
/-- all that stood stands, but for what P tells -/
def Keeps (m m' : Mem) (P : Addr → Prop) : Prop := ∀ a o, ¬ P a → m a = some o → m' a = some o
abbrev Grows (m m' : Mem) : Prop := Keeps m m' (fun _ => False)
theorem Keeps.refl (m : Mem) : Grows m m := fun _ _ _ e => e
theorem Keeps.le {m m' : Mem} (k : Grows m m') : MLe m' m := fun a o e => ⟨o, k a o id e, .inl rfl⟩
theorem Keeps.at {m m' : Mem} (k : Grows m m') {a : Addr} {o : AO} (e : m a = some o) : m' a = some o := k a o id e
theorem Keeps.new {m m' : Mem} (k : Grows m m') {p : Addr} {o : AO} (h : m' p = none) : Grows m (mset m' p o) := fun a u _ e => by rw [mset_ne (ne_none (k.at e) h)]; exact k.at e
theorem Keeps.trans {m m' m2 : Mem} (k : Grows m m') (k' : Grows m' m2) : Grows m m2 := fun a u _ e => k'.at (k.at e)
theorem lock_back {m : Mem} {d : Addr} {ks : List (Key × D)} (h : m d = some (.dK ks)) : mset (mset m d (.fz ks)) d (.dK ks) = m := by rw [mset_mset, mset_id h]
theorem lock_lst {m : Mem} {d a : Addr} {ks : List (Key × D)} {F L : AO} (h : m d = some (.dK ks)) (ha : m a = none) (had : a ≠ d) : mdel (mset (mset (mset m d F) a L) d (.dK ks)) a = m := by
  funext b
  by_cases hb : b = a
  · subst hb; rw [mdel_same, ha]
  · rw [mdel_ne hb]
    by_cases hd : b = d
    · subst hd; rw [mset_same, h]
    · rw [mset_ne hd, mset_ne hb, mset_ne hd]
/-! ### tables of amounts by ticks -/
abbrev Tab := List (Int × Rat)
def tabD (t : Tab) : List (Key × D) := t.map fun p => (Sum.inl p.1, am p.2)
def inW (lo hi : Int) (p : Int × Rat) : Bool := decide (lo < p.1) && decide (p.1 < hi)
def taken (t : Tab) (lo hi : Int) : Rat := total ((t.filter (inW lo hi)).map (·.2))
def putT (t : Tab) (k : Int) (q : Rat) : Tab := if (t.any fun p => decide (p.1 = k)) = true then t.map (fun p => if p.1 = k then (p.1, q) else p) else t ++ [(k, q)]
theorem tab_put (t : Tab) (k : Int) (q : Rat) : putD (tabD t) (Sum.inl k : Key) (am q) = tabD (putT t k q) := by
  unfold putD putT
  have e : ((tabD t).any fun kv => decide (kv.1 = (Sum.inl k : Key))) = t.any fun p => decide (p.1 = k) := by
    unfold tabD
    rw [List.any_map]
    congr 1
    funext p
    show decide ((Sum.inl p.1 : Key) = Sum.inl k) = decide (p.1 = k)
    simp
  rw [e]
  by_cases h : (t.any fun p => decide (p.1 = k)) = true
  · rw [if_pos h, if_pos h]
    unfold tabD
    rw [List.map_map, List.map_map]
    congr 1
    funext p
    show (if (Sum.inl p.1 : Key) = Sum.inl k then ((Sum.inl p.1 : Key), am q) else (Sum.inl p.1, am p.2)) = _
    show _ = ((Sum.inl (if p.1 = k then (p.1, q) else p).1 : Key), am (if p.1 = k then (p.1, q) else p).2)
    by_cases z : p.1 = k
    · rw [if_pos (by rw [z]), if_pos z]
    · rw [if_neg (fun w => z (Sum.inl.inj w)), if_neg z]
  · rw [if_neg h, if_neg h]
    unfold tabD
    rw [List.map_append]
    rfl
theorem putT_new {t : Tab} {k : Int} {q : Rat} (h : k ∉ t.map (·.1)) : putT t k q = t ++ [(k, q)] := by
  unfold putT
  rw [if_neg]
  intro w
  obtain ⟨p, hp, e⟩ := List.any_eq_true.mp w
  exact h (List.mem_map.mpr ⟨p, hp, of_decide_eq_true e⟩)
theorem nd_get {α β : Type} {f : α → β} : ∀ {l : List α} {i : Nat} {x : α}, (l.map f).Nodup → l[i]? = some x → f x ∉ (l.take i).map f
  | [], i, x, _, h => by simp at h
  | a :: l, 0, x, _, _ => by simp
  | a :: l, i + 1, x, nd, h => by
    have nd := List.nodup_cons.mp nd
    have hm : x ∈ l := List.mem_of_getElem? h
    intro w
    rcases List.mem_cons.mp w with w | w
    · exact nd.1 (by rw [← w]; exact List.mem_map_of_mem hm)
    · exact nd_get nd.2 h w
theorem take_filter_more {α : Type} {f : α → Bool} {l : List α} {i : Nat} {x : α} (h : l[i]? = some x) : (l.take (i + 1)).filter f = (l.take i).filter f ++ (if f x = true then [x] else []) := by
  rw [take_more h, List.filter_append]
  congr 1
  by_cases e : f x = true
  · rw [if_pos e]; simp [e]
  · rw [if_neg e]; simp [e]
theorem items_tab (t : Tab) : (tabD t).map fItem = t.map fun p => D.tup [.int p.1, am p.2] := by
  unfold tabD
  rw [List.map_map]; rfl
theorem keys_tab (t : Tab) : (tabD t).map fKey = t.map fun p => D.int p.1 := by
  unfold tabD
  rw [List.map_map]; rfl
theorem flen (t : Tab) (f : Int × Rat → Bool) : (((t.filter f).map (·.2)).map am).length ≤ t.length := by
  rw [List.length_map, List.length_map]
  exact List.length_filter_le _ _
theorem tabD_len (t : Tab) : (tabD t).length = t.length := by unfold tabD; rw [List.length_map]
theorem tab_val {t : Tab} (nd : (t.map (·.1)).Nodup) {p : Int × Rat} (h : p ∈ t) : valD (tabD t) (Sum.inl p.1 : Key) = some (am p.2) := by
  unfold valD tabD
  induction t with
  | nil => cases h
  | cons x t ih =>
    have nd' := List.nodup_cons.mp nd
    rw [List.map_cons, List.find?_cons]
    by_cases e : x.1 = p.1
    · rw [decide_eq_true (by rw [e])]
      rcases List.mem_cons.mp h with rfl | h
      · rfl
      · exact absurd (List.mem_map.mpr ⟨p, h, e.symm⟩) nd'.1
    · rw [decide_eq_false (fun z => e (Sum.inl.inj z))]
      rcases List.mem_cons.mp h with rfl | h
      · exact absurd rfl e
      · exact ih nd'.2 h
/-- the amount at a tick, where there is one -/
def getT (t : Tab) (k : Int) : Option Rat := (t.find? fun p => decide (p.1 = k)).map (·.2)
theorem tab_get (t : Tab) (k : Int) : valD (tabD t) (Sum.inl k : Key) = (getT t k).map am := by
  unfold valD tabD getT
  induction t with
  | nil => rfl
  | cons x t ih =>
    rw [List.map_cons, List.find?_cons, List.find?_cons]
    by_cases e : x.1 = k
    · rw [decide_eq_true (show (Sum.inl x.1 : Key) = Sum.inl k by rw [e]), decide_eq_true e]; rfl
    · rw [decide_eq_false (fun z => e (Sum.inl.inj z)), decide_eq_false e]
      exact ih
/-- a table of waters -/
structure TabOk (N M : Nat) (t : Tab) : Prop where
  nd : (t.map (·.1)).Nodup
  ok : ∀ p ∈ t, Okb N M p.2
  len : t.length ≤ 1000
theorem taken_ok {N M : Nat} {t : Tab} (h : TabOk N M t) (lo hi : Int) : Okb N (1000 * M) (taken t lo hi) := by
  have h1 := total_ok (N := N) (M := M) (l := (t.filter (inW lo hi)).map (·.2)) fun q hq => by
    obtain ⟨p, hp', rfl⟩ := List.mem_map.mp hq
    exact h.ok p (List.mem_filter.mp hp').1
  refine h1.up (Nat.mul_le_mul_right _ ?_)
  rw [List.length_map]
  exact Nat.le_trans (List.length_filter_le _ _) h.len
def cutF (c : Int) (p : Int × Rat) : Bool := decide (c ≤ p.1)
theorem taken_cut {u : Tab} {c lo hi : Int} (h : c ≤ lo + 1) : taken (u.filter (cutF c)) lo hi = taken u lo hi := by
  unfold taken
  rw [List.filter_filter]
  congr 2
  apply List.filter_congr
  intro p _
  unfold inW cutF
  by_cases h1 : lo < p.1
  · rw [decide_eq_true (show c ≤ p.1 by omega), Bool.and_true]
  · rw [decide_eq_false h1]; rfl
theorem nd_filter {u : Tab} (f : Int × Rat → Bool) (nd : (u.map (·.1)).Nodup) : ((u.filter f).map (·.1)).Nodup := List.Nodup.sublist (List.Sublist.map _ List.filter_sublist) nd
theorem any_filter {u : Tab} {c j : Int} (h : c ≤ j) : ((u.filter (cutF c)).any fun p => decide (p.1 = j)) = u.any fun p => decide (p.1 = j) := by
  induction u with
  | nil => rfl
  | cons x u ih =>
    rw [List.filter_cons, List.any_cons]
    by_cases e : cutF c x = true
    · rw [if_pos e, List.any_cons, ih]
    · rw [if_neg e, ih]
      have z : ¬ x.1 = j := fun z => e (by unfold cutF; rw [z]; exact decide_eq_true h)
      rw [decide_eq_false z, Bool.false_or]
theorem put_filter {u : Tab} {c j : Int} {q : Rat} (h : c ≤ j) : putT (u.filter (cutF c)) j q = (putT u j q).filter (cutF c) := by
  unfold putT
  rw [any_filter h]
  by_cases e : (u.any fun p => decide (p.1 = j)) = true
  · rw [if_pos e, if_pos e, List.filter_map]
    congr 1
    apply List.filter_congr
    intro p _
    show cutF c p = cutF c (if p.1 = j then (p.1, q) else p)
    by_cases z : p.1 = j
    · rw [if_pos z]; rfl
    · rw [if_neg z]
  · rw [if_neg e, if_neg e, List.filter_append]
    congr 1
    have : cutF c (j, q) = true := decide_eq_true h
    simp [this]
theorem put_keys {u : Tab} {j : Int} {q : Rat} : (putT u j q).map (·.1) = if (u.any fun p => decide (p.1 = j)) = true then u.map (·.1) else u.map (·.1) ++ [j] := by
  unfold putT
  split
  · rw [List.map_map]
    congr 1
    funext p
    show (if p.1 = j then (p.1, q) else p).1 = p.1
    split <;> rfl
  · rw [List.map_append]; rfl
theorem put_nd {u : Tab} {j : Int} {q : Rat} (nd : (u.map (·.1)).Nodup) : ((putT u j q).map (·.1)).Nodup := by
  rw [put_keys]
  split
  · exact nd
  · rename_i h
    refine List.nodup_append.mpr ⟨nd, by simp, ?_⟩
    intro x hx y hy e
    obtain rfl : y = j := by simpa using hy
    subst e
    obtain ⟨p, hp, rfl⟩ := List.mem_map.mp hx
    exact h (List.any_eq_true.mpr ⟨p, hp, decide_eq_true rfl⟩)
theorem put_mem {u : Tab} {j : Int} {q : Rat} {p : Int × Rat} (h : p ∈ putT u j q) : p ∈ u ∨ p.2 = q := by
  unfold putT at h
  split at h
  · obtain ⟨x, hx, e⟩ := List.mem_map.mp h
    by_cases z : x.1 = j
    · rw [if_pos z] at e; subst e; exact .inr rfl
    · rw [if_neg z] at e; subst e; exact .inl hx
  · rcases List.mem_append.mp h with h | h
    · exact .inl h
    · obtain rfl : p = (j, q) := by simpa using h
      exact .inr rfl
theorem put_len {u : Tab} {j : Int} {q : Rat} : (putT u j q).length ≤ u.length + 1 := by
  unfold putT
  split
  · rw [List.length_map]; omega
  · rw [List.length_append]; exact Nat.le_refl _
/-! ### data looked at as a whole -/
def flat : Nat → D → Prop
  | _, .non => True
  | _, .bl _ => True
  | _, .int _ => True
  | n + 1, .tup ds => ds.length < 1000000 ∧ ∀ d ∈ ds, flat n d
  | n + 1, .lst ds => ds.length < 1000000 ∧ ∀ d ∈ ds, flat n d
  | _, _ => False
theorem flat_am (n : Nat) (q : Rat) : flat (n + 1) (am q) := ⟨by show 2 < 1000000; decide, fun d hd => by
  simp only [List.mem_cons, List.not_mem_nil, or_false] at hd
  rcases hd with rfl | rfl <;> (cases n <;> trivial)⟩
theorem zip_self : ∀ (ds : List D) {i : Nat} {d : D}, (zipD ds ds)[i]? = some d → ∃ x ∈ ds, d = .tup [x, x]
  | [], i, d, h => by simp [zipD] at h
  | x :: ds, 0, d, h => ⟨x, List.mem_cons_self, (Option.some.inj h).symm⟩
  | x :: ds, i + 1, d, h => by
    obtain ⟨y, hy, e⟩ := zip_self ds (i := i) h
    exact ⟨y, List.mem_cons_of_mem _ hy, e⟩
theorem all_true (n : Nat) : (List.replicate n true).all id = true := by induction n with | zero => rfl | succ n ih => simp [List.replicate_succ]
def sumI : List Int → Int
  | [] => 0
  | x :: r => x + sumI r
theorem sumI_sum : ∀ l : List Int, l.sum = sumI l
  | [] => rfl
  | x :: r => by rw [List.sum_cons, sumI_sum r]; rfl
theorem total_cast : ∀ l : List Int, total (l.map fun z : Int => (z : Rat)) = ((sumI l : Int) : Rat)
  | [] => rfl
  | x :: r => by
    show (x : Rat) + total (r.map fun z : Int => (z : Rat)) = ((x + sumI r : Int) : Rat)
    rw [total_cast r, Rat.intCast_add]
end L4
/-! C13: the laws' shared helpers (the bag of draws whose first seed is 13965; amounts reckoned by Euclid) -/
namespace C13
open PySem PySem.Spec PyProof.Rows L2 L3 L4
open Rat (divInt)
/-- the bag of draws -/
def BagP (ds : List D) : Prop := ∃ (cells : List Int) (i : Nat) (big seed cnt : Int), ds = [.lst (cells.map D.int), .int i, .int big, .int seed, .int cnt] ∧ i ≤ cells.length ∧ cells.length ≤ 63 ∧ 0 ≤ big ∧ 0 ≤ seed ∧ seed < 2147483648
def sp_law_bag : LSp := fun ds m Φ => ∃ ns : List Int, ds = [.lst (ns.map D.int)] ∧ ns.length ≤ 63 ∧ ∀ b, m b = none → Φ (.ref b) (mset m b (.any BagP))
def sp_law_draw : LSp := fun ds m Φ => ∃ (b : Addr) (n : Int), ds = [.ref b, .int n] ∧ m b = some (.any BagP) ∧ 1 ≤ n ∧ n < 2 ^ 62 ∧ ∀ d, 0 ≤ d → d < n → Φ (.int d) m
def sp_law_of : LSp := fun ds m Φ => ∃ (b : Addr) (xs : List D), m b = some (.any BagP) ∧ xs ≠ [] ∧ xs.length < 1000000 ∧ (ds = [.ref b, .lst xs] ∨ ∃ a, ds = [.ref b, .ref a] ∧ m a = some (.lst xs)) ∧ ∀ x ∈ xs, Φ x m
def sp_law_amount : LSp := fun ds m Φ => ∃ (t b : Int), ds = [.int t, .int b] ∧ 0 ≤ t ∧ 0 < b ∧ b.natAbs.log2 < 9000 ∧ Φ (am (divInt t b)) m
def sp_law_sum : LSp := fun ds m Φ => ∃ (p q : Rat), ds = [am p, am q] ∧ 0 ≤ p ∧ 0 ≤ q ∧ Bg p ∧ Bg q ∧ Φ (am (p + q)) m
def sp_law_rest : LSp := fun ds m Φ => ∃ (p q : Rat), ds = [am p, am q] ∧ 0 ≤ p ∧ 0 ≤ q ∧ Bg p ∧ Bg q ∧ Φ (am (rest p q)) m
def sp_law_scaled : LSp := fun ds m Φ => ∃ (p : Rat) (t b : Int), ds = [am p, .int t, .int b] ∧ 0 ≤ p ∧ Bg p ∧ 0 ≤ t ∧ t < 2 ^ 30 ∧ 0 < b ∧ b < 2 ^ 30 ∧ Φ (am (p * divInt t b)) m
def sp_law_less : LSp := fun ds m Φ => ∃ (p q : Rat), ds = [am p, am q] ∧ Bg p ∧ Bg q ∧ Φ (.bl (decide (p < q))) m
def sp_law_min : LSp := fun ds m Φ => ∃ (p q : Rat), ds = [am p, am q] ∧ Bg p ∧ Bg q ∧ Φ (am (mn p q)) m
def sp_law_max : LSp := fun ds m Φ => ∃ (p q : Rat), ds = [am p, am q] ∧ Bg p ∧ Bg q ∧ Φ (am (mx p q)) m
def sp_law_all : LSp := fun ds m Φ => ∃ (qs : List Rat) (N M : Nat), ds = [.lst (qs.map am)] ∧ (∀ q ∈ qs, Okb N M q) ∧ qs.length ≤ 1000000 ∧ 0 < N ∧ N.log2 < 1900 ∧ M.log2 < 1900 ∧ Φ (am (total qs)) m
def sp_law_same : Nat → LSp
  | 0 => fun _ _ _ => False
  | n + 1 => fun ds m Φ => ∃ x, ds = [x, x] ∧ flat n x ∧ Φ (.bl true) m
def sp_law_some : LSp := fun ds m Φ => ∃ (b : Addr) (n : Nat), ds = [.ref b, .int n] ∧ m b = some (.any BagP) ∧ n < 2 ^ 30 ∧ ∀ q, Okb 30 n q → Φ (am q) m
def sp_law_part : LSp := fun ds m Φ => ∃ (b : Addr) (p : Rat), ds = [.ref b, am p] ∧ m b = some (.any BagP) ∧ 0 ≤ p ∧ Bg p ∧ ∀ q, 0 ≤ q → q ≤ p → (∀ N, Dn N p → Dn (N * 30) q) → Φ (am q) m
/-- _law_bag: 0 _law_script, 1 _law_seed, 2 _law_cell -/
def qb_law_bag : QS :=
  (sSeq (sAsg (.nm 1) (qC (.int 13965)))
    (sSeq (sFor (iLst (qSlL (qVar 0) qNoPart (qPart (qC (.int 63))))) (.nm 2) (sAsg (.nm 1) (qOp (qIC (fun _ j => 0 < j) fun i j => .int (i % j)) (qCB bInt (qCons (qOp qAdd (qOp qAdd (qOp (qIC CM fun i j => .int (i * j)) (qVar 1) (qC (.int 69621))) (qOp (qIC (fun _ j => 0 < j) fun i j => .int (i % j)) (qCB bInt (qCons (qVar 2) qNil)) (qC (.int 2147483629)))) (qC (.int 17))) qNil)) (qC (.int 2147483587)))))
    (sRet (qLstM (qCons (qFreeze (qCB bList (qCons (qSlL (qVar 0) qNoPart (qPart (qC (.int 63)))) qNil))) (qCons (qC (.int 0)) (qCons (qC (.int 0)) (qCons (qVar 1) (qCons (qC (.int 0)) qNil)))))))))
/-- _law_draw: 0 _law_bag_here, 1 _law_many, 2 _law_cell, 3 _law_digit, 4 _law_seed -/
def qb_law_draw : QS :=
  (sOpen (sSeq (sSub (qVar 0) (qC (.int 4)) (qOp qAdd (qOp vIx (qVar 0) (qC (.int 4))) (qC (.int 1))))
    (sSeq (sIf (qAnd (qB (qOp vEq (qOp vIx (qVar 0) (qC (.int 2))) (qC (.int 0)))) (qB (qOp (qI0 fun i j => .bl (decide (i < j))) (qOp vIx (qVar 0) (qC (.int 1))) (qCB bLen (qCons (qOp vIx (qVar 0) (qC (.int 0))) qNil))))) (sSeq (sAsg (.nm 2) (qOp vIx (qOp vIx (qVar 0) (qC (.int 0))) (qOp vIx (qVar 0) (qC (.int 1)))))
    (sSeq (sSub (qVar 0) (qC (.int 1)) (qOp qAdd (qOp vIx (qVar 0) (qC (.int 1))) (qC (.int 1))))
    (sIf (qB (qOp (qI0 fun i j => .bl (decide (j ≤ i))) (qVar 2) (qOp qPow (qC (.int 10)) (qC (.int 18))))) (sSub (qVar 0) (qC (.int 2)) (qVar 2)) (sSub (qVar 0) (qC (.int 3)) (qOp (qIC (fun _ j => 0 < j) fun i j => .int (i % j)) (qCB bInt (qCons (qOp qAdd (qOp qAdd (qOp (qIC CM fun i j => .int (i * j)) (qOp vIx (qVar 0) (qC (.int 3))) (qC (.int 39373))) (qOp (qIC CM fun i j => .int (i * j)) (qOp (qIC (fun _ j => 0 < j) fun i j => .int (i % j)) (qCB bInt (qCons (qVar 2) qNil)) (qC (.int 2147483549))) (qC (.int 24571)))) (qC (.int 59))) qNil)) (qC (.int 2147483579))))))) sNext)
    (sSeq (sIf (qB (qOp (qI0 fun i j => .bl (decide (j < i))) (qOp vIx (qVar 0) (qC (.int 2))) (qC (.int 0)))) (sSeq (sAsg (.nm 3) (qOp (qIC (fun _ j => 0 < j) fun i j => .int (i % j)) (qCB bInt (qCons (qOp vIx (qVar 0) (qC (.int 2))) qNil)) (qVar 1)))
    (sSeq (sSub (qVar 0) (qC (.int 2)) (qOp (qIC CDivW fun i j => .int (i / j)) (qOp vIx (qVar 0) (qC (.int 2))) (qVar 1)))
    (sRet (qVar 3)))) sNext)
    (sSeq (sAsg (.nm 4) (qOp vIx (qVar 0) (qC (.int 3))))
    (sSeq (sSub (qVar 0) (qC (.int 3)) (qOp (qIC (fun _ j => 0 < j) fun i j => .int (i % j)) (qCB bInt (qCons (qOp qAdd (qOp qAdd (qOp qAdd (qOp (qIC CM fun i j => .int (i * j)) (qOp (qIC CM fun i j => .int (i * j)) (qVar 4) (qVar 4)) (qC (.int 29))) (qOp (qIC CM fun i j => .int (i * j)) (qVar 4) (qC (.int 48673)))) (qOp (qIC CM fun i j => .int (i * j)) (qOp vIx (qVar 0) (qC (.int 4))) (qC (.int 1500007)))) (qC (.int 70001))) qNil)) (qC (.int 2147483579))))
    (sRet (qOp (qIC (fun _ j => 0 < j) fun i j => .int (i % j)) (qCB bInt (qCons (qOp qAdd (qOp (qIC CDivW fun i j => .int (i / j)) (qOp vIx (qVar 0) (qC (.int 3))) (qC (.int 101))) (qOp (qIC CM fun i j => .int (i * j)) (qOp (qIC (fun _ j => 0 < j) fun i j => .int (i % j)) (qCB bInt (qCons (qOp vIx (qVar 0) (qC (.int 3))) qNil)) (qC (.int 6007))) (qC (.int 83)))) qNil)) (qVar 1)))))))))
/-- _law_of: 0 _law_bag_here, 1 _law_things -/
def qb_law_of : QS :=
  (sRet (qOp vIx (qVar 1) (qCall sp_law_draw (qCons (qVar 0) (qCons (qCB bLen (qCons (qVar 1) qNil)) qNil)))))
/-- _law_amount: 0 _law_top, 1 _law_bottom, 2 _law_one, 3 _law_two -/
def qb_law_amount : QS :=
  (sSeq (sPar 2 3 (qCons (qVar 0) (qCons (qVar 1) qNil)))
    (sSeq (sWhile (qB (qOp (qI0 fun i j => .bl (decide (j < i))) (qVar 3) (qC (.int 0)))) (sPar 2 3 (qCons (qVar 3) (qCons (qOp (qIC (fun _ j => 0 < j) fun i j => .int (i % j)) (qCB bInt (qCons (qVar 2) qNil)) (qVar 3)) qNil))))
    (sRet (qTup (qCons (qOp (qIC CDivW fun i j => .int (i / j)) (qVar 0) (qVar 2)) (qCons (qOp (qIC CDivW fun i j => .int (i / j)) (qVar 1) (qVar 2)) qNil))))))
/-- _law_sum: 0 _law_one, 1 _law_two -/
def qb_law_sum : QS :=
  (sRet (qCall sp_law_amount (qCons (qOp qAdd (qOp (qIC CM fun i j => .int (i * j)) (qOp vIx (qVar 0) (qC (.int 0))) (qOp vIx (qVar 1) (qC (.int 1)))) (qOp (qIC CM fun i j => .int (i * j)) (qOp vIx (qVar 1) (qC (.int 0))) (qOp vIx (qVar 0) (qC (.int 1))))) (qCons (qOp (qIC CM fun i j => .int (i * j)) (qOp vIx (qVar 0) (qC (.int 1))) (qOp vIx (qVar 1) (qC (.int 1)))) qNil))))
/-- _law_rest: 0 _law_one, 1 _law_two -/
def qb_law_rest : QS :=
  (sRet (qCall sp_law_amount (qCons (qCB bMax2 (qCons (qOp (qI0 fun i j => .int (i - j)) (qOp (qIC CM fun i j => .int (i * j)) (qOp vIx (qVar 0) (qC (.int 0))) (qOp vIx (qVar 1) (qC (.int 1)))) (qOp (qIC CM fun i j => .int (i * j)) (qOp vIx (qVar 1) (qC (.int 0))) (qOp vIx (qVar 0) (qC (.int 1))))) (qCons (qC (.int 0)) qNil))) (qCons (qOp (qIC CM fun i j => .int (i * j)) (qOp vIx (qVar 0) (qC (.int 1))) (qOp vIx (qVar 1) (qC (.int 1)))) qNil))))
/-- _law_scaled: 0 _law_one, 1 _law_top, 2 _law_bottom -/
def qb_law_scaled : QS :=
  (sRet (qCall sp_law_amount (qCons (qOp (qIC CM fun i j => .int (i * j)) (qOp vIx (qVar 0) (qC (.int 0))) (qVar 1)) (qCons (qOp (qIC CM fun i j => .int (i * j)) (qOp vIx (qVar 0) (qC (.int 1))) (qVar 2)) qNil))))
/-- _law_all: 0 _law_row, 1 _law_found, 2 _law_one -/
def qb_law_all : QS :=
  (sSeq (sAsg (.nm 1) (qTup (qCons (qC (.int 0)) (qCons (qC (.int 1)) qNil))))
    (sSeq (sFor (iLst (qVar 0)) (.nm 2) (sAsg (.nm 1) (qCall sp_law_sum (qCons (qVar 1) (qCons (qVar 2) qNil)))))
    (sRet (qVar 1))))
/-- _law_same: 0 _law_told, 1 _law_due, 2 _law_one, 3 _law_two -/
def qb_law_same (n : Nat) : QS :=
  (sSeq (sIf (qB (qIsiT ["tuple", "list"] (qVar 1))) (sSeq (sIf (qOr (qB (qOp vNe (qIsi "tuple" (qVar 0)) (qIsi "tuple" (qVar 1)))) (qB (qOp vNe (qIsi "list" (qVar 0)) (qIsi "list" (qVar 1))))) (sRet (qC (.bl false))) sNext)
    (sRet (qAndV (qOp vEq (qCB bLen (qCons (qVar 0) qNil)) (qCB bLen (qCons (qVar 1) qNil))) (qCB bAll (qCons (qFreeze (qLc (iZipD (qCons (qVar 0) (qCons (qVar 1) qNil))) (.tp [(.nm 2), (.nm 3)]) qYes (qCall (sp_law_same n) (qCons (qVar 2) (qCons (qVar 3) qNil))) [2, 3])) qNil))))) sNext)
    (sSeq (sIf (qOr (qB (qOp qIsN (qVar 1) (qC .non))) (qB (qOp qIsN (qVar 0) (qC .non)))) (sRet (qAndV (qOp qIsN (qVar 1) (qC .non)) (qOp qIsN (qVar 0) (qC .non)))) sNext)
    (sSeq (sIf (qOr (qB (qOp vNe (qIsi "bool" (qVar 0)) (qIsi "bool" (qVar 1)))) (qB (qOp vNe (qIsi "int" (qVar 0)) (qIsi "int" (qVar 1))))) (sRet (qC (.bl false))) sNext)
    (sRet (qAndV (qOp vEq (qIsi "str" (qVar 0)) (qIsi "str" (qVar 1))) (qOp vEq (qVar 0) (qVar 1)))))))
/-- _law_some: 0 _law_bag_here, 1 _law_most, 2 _law_bottom -/
def qb_law_some : QS :=
  (sSeq (sAsg (.nm 2) (qCall sp_law_of (qCons (qVar 0) (qCons (qLstF (qCons (qC (.int 1)) (qCons (qC (.int 1)) (qCons (qC (.int 2)) (qCons (qC (.int 1)) (qCons (qC (.int 3)) (qCons (qC (.int 1)) (qCons (qC (.int 2)) (qCons (qC (.int 5)) qNil))))))))) qNil))))
    (sRet (qCall sp_law_amount (qCons (qCall sp_law_draw (qCons (qVar 0) (qCons (qOp qAdd (qOp (qIC CM fun i j => .int (i * j)) (qVar 1) (qVar 2)) (qC (.int 1))) qNil))) (qCons (qVar 2) qNil)))))
/-- _law_part: 0 _law_bag_here, 1 _law_one, 2 _law_top, 3 _law_bottom -/
def qb_law_part : QS :=
  (sSeq (sAsg (.tp [(.nm 2), (.nm 3)]) (qCall sp_law_of (qCons (qVar 0) (qCons (qLstF (qCons (qTup (qCons (qC (.int 1)) (qCons (qC (.int 1)) qNil))) (qCons (qTup (qCons (qC (.int 0)) (qCons (qC (.int 1)) qNil))) (qCons (qTup (qCons (qC (.int 1)) (qCons (qC (.int 2)) qNil))) (qCons (qTup (qCons (qC (.int 1)) (qCons (qC (.int 1)) qNil))) (qCons (qTup (qCons (qC (.int 2)) (qCons (qC (.int 3)) qNil))) (qCons (qTup (qCons (qC (.int 1)) (qCons (qC (.int 5)) qNil))) qNil))))))) qNil))))
    (sRet (qCall sp_law_scaled (qCons (qVar 1) (qCons (qVar 2) (qCons (qVar 3) qNil))))))
/-- _law_less: 0 _law_one, 1 _law_two -/
def qb_law_less : QS :=
  (sRet (qOp (qI0 fun i j => .bl (decide (i < j))) (qOp (qIC CM fun i j => .int (i * j)) (qOp vIx (qVar 0) (qC (.int 0))) (qOp vIx (qVar 1) (qC (.int 1)))) (qOp (qIC CM fun i j => .int (i * j)) (qOp vIx (qVar 1) (qC (.int 0))) (qOp vIx (qVar 0) (qC (.int 1))))))
/-- _law_min -/
def qb_law_min : QS :=
  (sRet (qIfE (qB (qCall sp_law_less (qCons (qVar 1) (qCons (qVar 0) qNil)))) (qVar 1) (qVar 0)))
/-- _law_max -/
def qb_law_max : QS :=
  (sRet (qIfE (qB (qCall sp_law_less (qCons (qVar 0) (qCons (qVar 1) qNil)))) (qVar 1) (qVar 0)))
theorem bag_ok {cells : List Int} {i : Nat} {big seed cnt : Int} (h1 : i ≤ cells.length) (h2 : cells.length ≤ 63) (h3 : 0 ≤ big) (h4 : 0 ≤ seed) (h5 : seed < 2147483648) : BagP [.lst (cells.map D.int), .int i, .int big, .int seed, .int cnt] := ⟨cells, i, big, seed, cnt, rfl, h1, h2, h3, h4, h5⟩
theorem len_law_draw : ∀ ds m Φ, sp_law_draw ds m Φ → ds.length = 2 := by rintro _ _ _ ⟨_, _, rfl, _⟩; rfl
theorem rd_law_draw : ∀ ds m Φ, sp_law_draw ds m Φ → qb_law_draw (bodyW Φ) (begin_ 5 ds) m := by
  rintro _ m Φ ⟨b, n, rfl, hb, h1, h2, k⟩
  refine ⟨b, _, hb, ?_⟩
  rintro _ ⟨cells, i, big, seed, cnt, rfl, c1, c2, c3, c4, c5⟩
  refine Or.inl ⟨_, _, _, rfl, mset_same, rfl, Or.inl ⟨_, _, _, rfl, mset_same, rfl, ?_⟩⟩
  rw [mset_mset]
  -- the second statement leaves such a bag, whatever it does
  have go : ∀ (s2 : DSt) (i : Nat) (big seed cnt : Int), look s2 0 = some (.ref b) → look s2 1 = some (.int n) → s2.length = 5 → i ≤ cells.length → 0 ≤ big → 0 ≤ seed → seed < 2147483648 → (sSeq (sIf (qB (qOp (qI0 fun i j => .bl (decide (j < i))) (qOp vIx (qVar 0) (qC (.int 2))) (qC (.int 0)))) (sSeq (sAsg (.nm 3) (qOp (qIC (fun _ j => 0 < j) fun i j => .int (i % j)) (qCB bInt (qCons (qOp vIx (qVar 0) (qC (.int 2))) qNil)) (qVar 1)))
    (sSeq (sSub (qVar 0) (qC (.int 2)) (qOp (qIC CDivW fun i j => .int (i / j)) (qOp vIx (qVar 0) (qC (.int 2))) (qVar 1)))
    (sRet (qVar 3)))) sNext)
    (sSeq (sAsg (.nm 4) (qOp vIx (qVar 0) (qC (.int 3))))
    (sSeq (sSub (qVar 0) (qC (.int 3)) (qOp (qIC (fun _ j => 0 < j) fun i j => .int (i % j)) (qCB bInt (qCons (qOp qAdd (qOp qAdd (qOp qAdd (qOp (qIC CM fun i j => .int (i * j)) (qOp (qIC CM fun i j => .int (i * j)) (qVar 4) (qVar 4)) (qC (.int 29))) (qOp (qIC CM fun i j => .int (i * j)) (qVar 4) (qC (.int 48673)))) (qOp (qIC CM fun i j => .int (i * j)) (qOp vIx (qVar 0) (qC (.int 4))) (qC (.int 1500007)))) (qC (.int 70001))) qNil)) (qC (.int 2147483579))))
    (sRet (qOp (qIC (fun _ j => 0 < j) fun i j => .int (i % j)) (qCB bInt (qCons (qOp qAdd (qOp (qIC CDivW fun i j => .int (i / j)) (qOp vIx (qVar 0) (qC (.int 3))) (qC (.int 101))) (qOp (qIC CM fun i j => .int (i * j)) (qOp (qIC (fun _ j => 0 < j) fun i j => .int (i % j)) (qCB bInt (qCons (qOp vIx (qVar 0) (qC (.int 3))) qNil)) (qC (.int 6007))) (qC (.int 83)))) qNil)) (qVar 1)))))) (bodyW Φ) s2 (mset m b (.lst [.lst (cells.map D.int), .int i, .int big, .int seed, .int cnt])) := by
    intro s2 i big seed cnt l0 l1 hl c1 c3 c4 c5
    obtain ⟨x0, x1, x2, x3, x4, rfl⟩ : ∃ x0 x1 x2 x3 x4, s2 = [x0, x1, x2, x3, x4] := by
      match s2, hl with | [x0, x1, x2, x3, x4], _ => exact ⟨_, _, _, _, _, rfl⟩
    obtain rfl : x0 = some (.ref b) := l0
    obtain rfl : x1 = some (.int n) := l1
    refine Or.inl ⟨_, _, _, rfl, mset_same, rfl, ?_⟩
    refine qif (fun h => ?_) (fun h => ?_)
    · refine Or.inl ⟨_, _, _, rfl, mset_same, rfl, ?_, Or.inl ⟨_, _, _, rfl, mset_same, rfl, ?_, Or.inl ⟨_, _, _, rfl, mset_same, rfl, ?_⟩⟩⟩
      · show 0 < n; omega
      · exact cd_s (by omega) (by omega)
      · rw [mset_mset]
        refine ⟨m, MLe.close hb (bag_ok (cnt := cnt) c1 c2 (Int.ediv_nonneg c3 (by omega)) c4 c5), ?_⟩
        exact k _ (Int.emod_nonneg _ (by omega)) (Int.emod_lt_of_pos _ (by omega))
    · refine Or.inl ⟨_, _, _, rfl, mset_same, rfl, ?_⟩
      refine ⟨cm_l c4 (by omega), cm_r (by omega) (by omega), cm_r (by omega) (by omega), Or.inl ⟨_, _, _, rfl, mset_same, rfl, cm_r (by omega) (by omega), ?_, Or.inl ⟨_, _, _, rfl, mset_same, rfl, ?_⟩⟩⟩
      · show (0 : Int) < 2147483579; omega
      · rw [mset_mset]
        refine Or.inl ⟨_, _, _, rfl, mset_same, rfl, cd_s (by omega) (by omega), Or.inl ⟨_, _, _, rfl, mset_same, rfl, ?_, cm_r (by omega) (by omega), ?_, ?_⟩⟩
        · show (0 : Int) < 6007; omega
        · show 0 < n; omega
        · refine ⟨m, MLe.close hb (bag_ok c1 c2 c3 (Int.emod_nonneg _ (by omega)) ?_), ?_⟩
          · exact Int.lt_trans (Int.emod_lt_of_pos _ (by omega)) (by omega)
          · exact k _ (Int.emod_nonneg _ (by omega)) (Int.emod_lt_of_pos _ (by omega))
  refine Or.inl ⟨_, _, _, rfl, mset_same, rfl, ?_⟩
  refine qif (fun h => ?_) (fun h => ?_)
  · have hz : big = 0 := dec_t h
    refine Or.inl ⟨_, _, _, rfl, mset_same, rfl, Or.inl ⟨_, _, _, rfl, mset_same, rfl, ?_⟩⟩
    refine qif (fun h => ?_) (fun h => ?_)
    · have hi : (i : Int) < ((cells.map D.int).length : Int) := dec_t h
      rw [List.length_map] at hi
      have hi : i < cells.length := by omega
      refine Or.inl ⟨_, _, _, rfl, mset_same, rfl, Or.inl ⟨_, _, _, rfl, mset_same, rfl, D.int cells[i], atI_nat (by rw [List.getElem?_map, List.getElem?_eq_getElem hi]; rfl), ?_⟩⟩
      refine Or.inl ⟨_, _, _, rfl, mset_same, rfl, Or.inl ⟨_, _, _, rfl, mset_same, rfl, ?_⟩⟩
      rw [mset_mset]
      refine ⟨⟨by decide, by decide, by decide⟩, fun n18 hn18 => ?_⟩
      have hp18 : (0 : Int) ≤ n18 := by rw [hn18]; decide
      refine qif (fun h => ?_) (fun h => ?_)
      · have h : n18 ≤ cells[i] := dec_t h
        refine Or.inl ⟨_, _, _, rfl, mset_same, rfl, ?_⟩
        rw [mset_mset]
        exact go [some (.ref b), some (.int n), some (.int cells[i]), none, none] (i + 1) cells[i] seed (cnt + 1) rfl rfl rfl hi (by omega) c4 c5
      · refine Or.inl ⟨_, _, _, rfl, mset_same, rfl, cm_r (by omega) (by omega), ?_, cm_r (by omega) (by omega), ?_, Or.inl ⟨_, _, _, rfl, mset_same, rfl, ?_⟩⟩
        · show (0 : Int) < 2147483549; omega
        · show (0 : Int) < 2147483579; omega
        · rw [mset_mset]
          refine go [some (.ref b), some (.int n), some (.int cells[i]), none, none] (i + 1) big ((seed * 39373 + cells[i] % 2147483549 * 24571 + 59) % 2147483579) (cnt + 1) rfl rfl rfl hi c3 (by omega) (by omega)
    · exact go [some (.ref b), some (.int n), none, none, none] i big seed (cnt + 1) rfl rfl rfl c1 c3 c4 c5
  · refine qif_f rfl ?_
    exact go [some (.ref b), some (.int n), none, none, none] i big seed (cnt + 1) rfl rfl rfl c1 c3 c4 c5
theorem len_law_bag : ∀ ds m Φ, sp_law_bag ds m Φ → ds.length = 1 := by rintro _ _ _ ⟨_, rfl, _⟩; rfl
theorem cut63 {ns : List Int} (h : ns.length ≤ 63) : L3.cutD (ns.map D.int) none (some 63) = ns.map D.int := by
  unfold L3.cutD
  have e1 : HT.sIx (ns.map D.int).length 0 none = 0 := rfl
  have e2 : HT.sIx (ns.map D.int).length (ns.map D.int).length (some 63) = ns.length := by
    rw [List.length_map]
    exact (HT.sIx_nat ns.length ns.length 63).trans (by omega)
  rw [e1, e2, List.drop_zero, Nat.sub_zero]
  exact List.take_of_length_le (by rw [List.length_map]; exact Nat.le_refl _)
theorem rd_law_bag : ∀ ds m Φ, sp_law_bag ds m Φ → qb_law_bag (bodyW Φ) (begin_ 3 ds) m := by
  rintro _ m Φ ⟨ns, rfl, hl, k⟩
  refine ⟨fun i s' m' => m' = m ∧ ∃ (seed : Int) (c : Option D), s' = [some (.lst (ns.map D.int)), some (.int seed), c] ∧ 0 ≤ seed ∧ seed < 2147483648, ⟨rfl, 13965, none, rfl, by omega, by omega⟩, fun _ _ _ _ _ => trivial, ?_, ?_⟩
  · rintro i d s' m' hd ⟨rfl, seed, c, rfl, h1, h2⟩
    rw [cut63 hl, List.getElem?_map] at hd
    cases e : ns[i]? with
    | none => rw [e] at hd; cases hd
    | some z =>
      rw [e] at hd
      obtain rfl : D.int z = d := Option.some.inj hd
      refine ⟨cm_r (by omega) (by omega), ?_, ?_, ?_⟩
      · show (0 : Int) < 2147483629; omega
      · show (0 : Int) < 2147483587; omega
      · exact ⟨rfl, (seed * 69621 + z % 2147483629 + 17) % 2147483587, _, rfl, by omega, by omega⟩
  · rintro s' m' ⟨rfl, seed, c, rfl, h1, h2⟩
    -- list(script[:63]), frozen; the bag
    intro p hp
    refine ⟨_, mset_same, ?_⟩
    rw [mdel_mset hp]
    refine ⟨by show 5 ≤ sizeLine; decide, fun b hb => ?_⟩
    refine ⟨mset m' b (.any BagP), MLe.any ?_, k b hb⟩
    exact ⟨ns, 0, 0, seed, 0, by rw [cut63 hl]; rfl, Nat.zero_le _, hl, by omega, h1, h2⟩
theorem len_law_of : ∀ ds m Φ, sp_law_of ds m Φ → ds.length = 2 := by
  rintro _ _ _ ⟨_, _, _, _, _, rfl | ⟨_, rfl, _⟩, _⟩ <;> rfl
theorem rd_law_of : ∀ ds m Φ, sp_law_of ds m Φ → qb_law_of (bodyW Φ) (begin_ 2 ds) m := by
  rintro _ m Φ ⟨b, xs, hb, hx, hz, h, k⟩
  have hl : 0 < xs.length := List.length_pos_iff.mpr hx
  rcases h with rfl | ⟨a, rfl, ha⟩
  · refine ⟨b, _, rfl, hb, by omega, by omega, fun d h0 h1 => ?_⟩
    obtain ⟨x, hx, e⟩ := atI_in xs h0 h1
    exact ⟨x, e, wk_at (k x hx)⟩
  · refine Or.inl ⟨xs, ha, b, _, rfl, hb, by omega, by omega, fun d h0 h1 => ?_⟩
    obtain ⟨x, hx, e⟩ := atI_in xs h0 h1
    exact Or.inl ⟨_, _, x, rfl, ha, e, wk_at (k x hx)⟩
theorem len_law_amount : ∀ ds m Φ, sp_law_amount ds m Φ → ds.length = 2 := by rintro _ _ _ ⟨_, _, rfl, _⟩; rfl
theorem rd_law_amount : ∀ ds m Φ, sp_law_amount ds m Φ → qb_law_amount (bodyW Φ) (begin_ 4 ds) m := by
  rintro _ m Φ ⟨t, b, rfl, h1, h2, h3, k⟩
  refine ⟨fun n s' m' => m' = m ∧ ∃ (x y : Int), s' = [some (.int t), some (.int b), some (.int x), some (.int y)] ∧ 0 ≤ x ∧ 0 ≤ y ∧ y.toNat = n ∧ Int.gcd x y = Int.gcd t b ∧ (0 < x ∨ 0 < y), ⟨_, rfl, t, b, rfl, h1, by omega, rfl, rfl, .inr h2⟩, ?_⟩
  rintro n s' m' ⟨rfl, x, y, rfl, hx, hy, rfl, hg, hp⟩
  refine qif (fun h => ?_) (fun h => ?_)
  · have h : 0 < y := dec_t h
    refine ⟨?_, ?_⟩
    · exact h
    · have e1 : 0 ≤ x % y := Int.emod_nonneg _ (by omega)
      have e2 : x % y < y := Int.emod_lt_of_pos _ h
      refine ⟨(x % y).toNat, by omega, rfl, y, x % y, rfl, hy, e1, rfl, ?_, .inl h⟩
      rw [← hg]
      rw [Int.gcd_comm x y]
      exact gcd_step hx hy
  · have h : ¬ 0 < y := dec_f h
    have hy0 : y = 0 := by omega
    subst hy0
    have ex : x = (Int.gcd t b : Nat) := by
      rw [← hg, Int.gcd_zero_right]; omega
    have hlt : x ≤ b := by
      rw [ex]
      have := Int.gcd_le_right (a := t) h2
      omega
    refine ⟨cd_le (by omega) hlt h3, cd_le (by omega) hlt h3, by show 2 ≤ 16777216; decide, wk_at ?_⟩
    have e : D.tup [.int (t / x), .int (b / x)] = am (divInt t b) := am_low h2 ex
    rw [e]
    exact k
theorem len_law_sum : ∀ ds m Φ, sp_law_sum ds m Φ → ds.length = 2 := by rintro _ _ _ ⟨_, _, rfl, _⟩; rfl
theorem rd_law_sum : ∀ ds m Φ, sp_law_sum ds m Φ → qb_law_sum (bodyW Φ) (begin_ 2 ds) m := by
  rintro _ m Φ ⟨p, q, rfl, hp, hq, h1, h2, k⟩
  refine ⟨_, rfl, _, rfl, cm_nd h1 h2, _, rfl, _, rfl, cm_nd h2 h1, _, rfl, _, rfl, cm_dd h1 h2, _, _, rfl, ?_, den_mul_pos p q, dd_log h1 h2, wk_at ?_⟩
  · exact Int.add_nonneg (Int.mul_nonneg (am_nonneg.mp hp) (by omega)) (Int.mul_nonneg (am_nonneg.mp hq) (by omega))
  · rw [am_add]; exact k
theorem len_law_rest : ∀ ds m Φ, sp_law_rest ds m Φ → ds.length = 2 := by rintro _ _ _ ⟨_, _, rfl, _⟩; rfl
theorem rd_law_rest : ∀ ds m Φ, sp_law_rest ds m Φ → qb_law_rest (bodyW Φ) (begin_ 2 ds) m := by
  rintro _ m Φ ⟨p, q, rfl, hp, hq, h1, h2, k⟩
  refine ⟨_, rfl, _, rfl, cm_nd h1 h2, _, rfl, _, rfl, cm_nd h2 h1, ?_⟩
  refine ⟨_, rfl, _, rfl, cm_dd h1 h2, _, _, rfl, ?_, den_mul_pos p q, dd_log h1 h2, wk_at ?_⟩
  · show 0 ≤ (if 0 > p.num * q.den - q.num * p.den then 0 else p.num * q.den - q.num * p.den)
    split <;> omega
  · show Φ (am (divInt (if 0 > p.num * q.den - q.num * p.den then 0 else p.num * q.den - q.num * p.den) (p.den * q.den))) m
    rw [rest_eq]; exact k
theorem len_law_scaled : ∀ ds m Φ, sp_law_scaled ds m Φ → ds.length = 3 := by rintro _ _ _ ⟨_, _, _, rfl, _⟩; rfl
theorem rd_law_scaled : ∀ ds m Φ, sp_law_scaled ds m Φ → qb_law_scaled (bodyW Φ) (begin_ 3 ds) m := by
  rintro _ m Φ ⟨p, t, b, rfl, hp, h1, h2, h3, h4, h5, k⟩
  have hb : ((p.den : Int) * b).natAbs.log2 < 9000 := by
    rw [Int.natAbs_mul, den_abs]
    have a1 := log2_mul p.den b.natAbs
    have a2 := log2_small (a := b.natAbs) (k := 30) (by omega) (by decide)
    have a3 := h1.2
    omega
  refine ⟨_, rfl, cm_r h2 (by omega), _, rfl, cm_r (by omega) (by omega), _, _, rfl, ?_, Int.mul_pos (den_pos p) h4, hb, wk_at ?_⟩
  · exact Int.mul_nonneg (am_nonneg.mp hp) h2
  · rw [am_scale]; exact k
theorem len_law_less : ∀ ds m Φ, sp_law_less ds m Φ → ds.length = 2 := by rintro _ _ _ ⟨_, _, rfl, _⟩; rfl
theorem rd_law_less : ∀ ds m Φ, sp_law_less ds m Φ → qb_law_less (bodyW Φ) (begin_ 2 ds) m := by
  rintro _ m Φ ⟨p, q, rfl, h1, h2, k⟩
  refine ⟨_, rfl, _, rfl, cm_nd h1 h2, _, rfl, _, rfl, cm_nd h2 h1, wk_at ?_⟩
  show Φ (.bl (decide (p.num * q.den < q.num * p.den))) m
  have e : decide (p.num * q.den < q.num * p.den) = decide (p < q) := by congr 1; exact propext (am_lt p q).symm
  rw [e]; exact k
theorem len_law_min : ∀ ds m Φ, sp_law_min ds m Φ → ds.length = 2 := by rintro _ _ _ ⟨_, _, rfl, _⟩; rfl
theorem rd_law_min : ∀ ds m Φ, sp_law_min ds m Φ → qb_law_min (bodyW Φ) (begin_ 2 ds) m := by
  rintro _ m Φ ⟨p, q, rfl, h1, h2, k⟩
  unfold mn at k
  refine ⟨q, p, rfl, h2, h1, qif (fun h => ?_) (fun h => ?_)⟩
  · rw [if_pos (dec_t h)] at k; exact wk_at k
  · rw [if_neg (dec_f h)] at k; exact wk_at k
theorem len_law_max : ∀ ds m Φ, sp_law_max ds m Φ → ds.length = 2 := by rintro _ _ _ ⟨_, _, rfl, _⟩; rfl
theorem rd_law_max : ∀ ds m Φ, sp_law_max ds m Φ → qb_law_max (bodyW Φ) (begin_ 2 ds) m := by
  rintro _ m Φ ⟨p, q, rfl, h1, h2, k⟩
  unfold mx at k
  refine ⟨p, q, rfl, h1, h2, qif (fun h => ?_) (fun h => ?_)⟩
  · rw [if_pos (dec_t h)] at k; exact wk_at k
  · rw [if_neg (dec_f h)] at k; exact wk_at k
theorem len_law_all : ∀ ds m Φ, sp_law_all ds m Φ → ds.length = 1 := by rintro _ _ _ ⟨_, _, _, rfl, _⟩; rfl
theorem rd_law_all : ∀ ds m Φ, sp_law_all ds m Φ → qb_law_all (bodyW Φ) (begin_ 3 ds) m := by
  rintro _ m Φ ⟨qs, N, M, rfl, hq, hl, h0, hN, hM, k⟩
  refine ⟨by show 2 ≤ 16777216; decide, fun i s' m' => m' = m ∧ ∃ c : Option D, s' = [some (.lst (qs.map am)), some (am (total (qs.take i))), c], ⟨rfl, none, rfl⟩, fun _ _ _ _ _ => trivial, ?_, ?_⟩
  · rintro i d s' m' hd ⟨rfl, c, rfl⟩
    obtain ⟨q, hi, rfl⟩ := get_map hd
    have o1 := total_ok (l := qs.take i) fun x hx => hq x (List.mem_of_mem_take hx)
    have o2 := hq q (List.mem_of_getElem? hi)
    have b1 : Bg (total (qs.take i)) := o1.bg h0 hN (by
      have a1 := log2_mul (qs.take i).length M
      have a2 : (qs.take i).length ≤ 1000000 := by rw [List.length_take]; omega
      have a3 := log2_le a2
      have a4 : Nat.log2 1000000 < 20 := by decide
      omega)
    refine ⟨_, _, rfl, o1.nn, o2.nn, b1, o2.bg h0 hN (by omega), rfl, some (am q), ?_⟩
    rw [total_more hi]; rfl
  · rintro s' m' ⟨rfl, c, rfl⟩
    rw [List.length_map, List.take_of_length_le (Nat.le_refl _)]
    exact wk_at k
theorem len_law_same : ∀ n, ∀ ds m Φ, sp_law_same n ds m Φ → ds.length = 2
  | 0 => fun _ _ _ h => h.elim
  | _ + 1 => by rintro _ _ _ ⟨_, rfl, _⟩; rfl
theorem same_zip {n : Nat} {Φ : DK} {m : Mem} {x : D} {ds : List D} (hl : ds.length < 1000000) (hf : ∀ d ∈ ds, flat n d) (k : Φ (.bl true) m) :
    LcIn (.tp [.nm 2, .nm 3]) qYes (qCall (sp_law_same (n + 1)) (qCons (qVar 2) (qCons (qVar 3) qNil))) [some x, some x, none, none] (zipD ds ds) (fun _ => True) m (fun d m1 => match d with
      | .ref a => ∃ ds, m1 a = some (.lst ds) ∧ qCB bAll (qCons (qC (.lst ds)) qNil) [] (mdel m1 a) (bodyW Φ).rt
      | _ => False) := by
  refine lc_by (fun i acc => acc = List.replicate i (.bl true)) rfl (fun _ _ _ => trivial) ?_ ?_
  · rintro i d acc a ha hd hl' rfl
    obtain ⟨y, hy, rfl⟩ := zip_self ds hd
    have hi : i < ds.length := by
      have := (List.getElem?_eq_some_iff.mp hd).1
      rw [zipD_length] at this; omega
    refine qif_t rfl ⟨y, rfl, hf y hy, ?_⟩
    exact lc_ok hl' (by show i < 16777216; omega) (by rw [List.replicate_succ'])
  · rintro acc a ha hl' rfl
    refine ⟨_, mset_same, ?_⟩
    rw [mdel_mset ha]
    refine ⟨List.replicate (zipD ds ds).length true, by rw [List.map_replicate], ?_⟩
    rw [all_true]
    exact wk_at k
theorem rd_law_same (n : Nat) : ∀ ds m Φ, sp_law_same (n + 1) ds m Φ → qb_law_same n (bodyW Φ) (begin_ 4 ds) m := by
  rintro _ m Φ ⟨x, rfl, hf, k⟩
  cases x with
  | int i =>
    refine ⟨"int", false, rfl, rfl, qif_f rfl ?_⟩
    refine qif_f rfl (qif_f rfl ?_)
    refine ⟨"int", false, rfl, rfl, "int", false, rfl, rfl, qif_f rfl ⟨"int", true, rfl, rfl, "int", true, rfl, rfl, qif_f rfl ?_⟩⟩
    refine ⟨"int", false, rfl, rfl, "int", false, rfl, rfl, qif_t rfl ?_⟩
    show ∃ m', MLe m m' ∧ Φ (.bl (decide (i = i))) m'
    rw [decide_eq_true rfl]
    exact wk_at k
  | bl i =>
    refine ⟨"bool", false, rfl, rfl, qif_f rfl ?_⟩
    refine qif_f rfl (qif_f rfl ?_)
    refine ⟨"bool", true, rfl, rfl, "bool", true, rfl, rfl, qif_f rfl ⟨"bool", true, rfl, rfl, "bool", true, rfl, rfl, qif_f rfl ?_⟩⟩
    refine ⟨"bool", false, rfl, rfl, "bool", false, rfl, rfl, qif_t rfl ?_⟩
    show ∃ m', MLe m m' ∧ Φ (.bl (decide (i = i))) m'
    rw [decide_eq_true rfl]
    exact wk_at k
  | non =>
    refine ⟨"NoneType", false, rfl, rfl, qif_f rfl ?_⟩
    refine qif_t rfl (qif_t rfl ?_)
    exact qif_t rfl (wk_at k)
  | str z => cases n <;> exact hf.elim
  | ref a => cases n <;> exact hf.elim
  | tup ds =>
    cases n with
    | zero => exact hf.elim
    | succ n =>
      obtain ⟨hl, hf⟩ := hf
      refine ⟨"tuple", true, rfl, rfl, qif_t rfl ?_⟩
      refine ⟨"tuple", true, rfl, rfl, "tuple", true, rfl, rfl, qif_f rfl ⟨"tuple", false, rfl, rfl, "tuple", false, rfl, rfl, qif_f rfl ?_⟩⟩
      refine qif_t (decide_eq_true rfl) ?_
      exact same_zip hl hf k
  | lst ds =>
    cases n with
    | zero => exact hf.elim
    | succ n =>
      obtain ⟨hl, hf⟩ := hf
      refine ⟨"list", true, rfl, rfl, qif_t rfl ?_⟩
      refine ⟨"list", false, rfl, rfl, "list", false, rfl, rfl, qif_f rfl ⟨"list", true, rfl, rfl, "list", true, rfl, rfl, qif_f rfl ?_⟩⟩
      refine qif_t (decide_eq_true rfl) ?_
      exact same_zip hl hf k
theorem len_law_some : ∀ ds m Φ, sp_law_some ds m Φ → ds.length = 2 := by rintro _ _ _ ⟨_, _, rfl, _⟩; rfl
theorem rd_law_some : ∀ ds m Φ, sp_law_some ds m Φ → qb_law_some (bodyW Φ) (begin_ 3 ds) m := by
  rintro _ m Φ ⟨b, n, rfl, hb, h1, k⟩
  refine ⟨by show 8 ≤ 16777216; decide, b, _, hb, by simp, by decide, .inl rfl, fun x hx => ?_⟩
  obtain ⟨w, M, rfl, w0, w5, e⟩ : ∃ (w : Int) (M : Nat), x = .int w ∧ 0 < w ∧ w ≤ 5 ∧ w * M = (30 : Nat) := by
    simp only [List.mem_cons, List.not_mem_nil, or_false] at hx
    rcases hx with rfl | rfl | rfl | rfl | rfl | rfl | rfl | rfl
    · exact ⟨1, 30, rfl, by decide, by decide, by decide⟩
    · exact ⟨1, 30, rfl, by decide, by decide, by decide⟩
    · exact ⟨2, 15, rfl, by decide, by decide, by decide⟩
    · exact ⟨1, 30, rfl, by decide, by decide, by decide⟩
    · exact ⟨3, 10, rfl, by decide, by decide, by decide⟩
    · exact ⟨1, 30, rfl, by decide, by decide, by decide⟩
    · exact ⟨2, 15, rfl, by decide, by decide, by decide⟩
    · exact ⟨5, 6, rfl, by decide, by decide, by decide⟩
  have hm : (n : Int) * w ≤ n * 5 := Int.mul_le_mul_of_nonneg_left w5 (by omega)
  have hm0 : 0 ≤ (n : Int) * w := Int.mul_nonneg (by omega) (by omega)
  refine ⟨cm_r (by omega) (by omega), b, _, rfl, hb, by omega, by omega, fun d d0 d1 => ?_⟩
  refine ⟨d, w, rfl, d0, w0, ?_, wk_at (k _ ⟨divInt_nn d0 w0, ?_, Dn.of (by omega) M e⟩)⟩
  · have := log2_small (a := w.natAbs) (k := 5) (by omega) (by decide)
    omega
  · have := divInt_le (M := (n : Int)) w0 (show d ≤ n * w by omega)
    rwa [Rat.intCast_natCast] at this
theorem len_law_part : ∀ ds m Φ, sp_law_part ds m Φ → ds.length = 2 := by rintro _ _ _ ⟨_, _, rfl, _⟩; rfl
theorem rd_law_part : ∀ ds m Φ, sp_law_part ds m Φ → qb_law_part (bodyW Φ) (begin_ 4 ds) m := by
  rintro _ m Φ ⟨b, p, rfl, hb, hp, hbg, k⟩
  refine ⟨by show 2 ≤ 16777216; decide, by show 2 ≤ 16777216; decide, by show 2 ≤ 16777216; decide, by show 2 ≤ 16777216; decide, by show 2 ≤ 16777216; decide, by show 2 ≤ 16777216; decide, by show 6 ≤ 16777216; decide, b, _, hb, by simp, by decide, .inl rfl, fun x hx => ?_⟩
  obtain ⟨t, w, M, rfl, t0, t5, w0, w5, e⟩ : ∃ (t w : Int) (M : Nat), x = .tup [.int t, .int w] ∧ 0 ≤ t ∧ t ≤ w ∧ 0 < w ∧ w ≤ 5 ∧ w * M = (30 : Nat) := by
    simp only [List.mem_cons, List.not_mem_nil, or_false] at hx
    rcases hx with rfl | rfl | rfl | rfl | rfl | rfl
    · exact ⟨1, 1, 30, rfl, by decide, by decide, by decide, by decide, by decide⟩
    · exact ⟨0, 1, 30, rfl, by decide, by decide, by decide, by decide, by decide⟩
    · exact ⟨1, 2, 15, rfl, by decide, by decide, by decide, by decide, by decide⟩
    · exact ⟨1, 1, 30, rfl, by decide, by decide, by decide, by decide, by decide⟩
    · exact ⟨2, 3, 10, rfl, by decide, by decide, by decide, by decide, by decide⟩
    · exact ⟨1, 5, 6, rfl, by decide, by decide, by decide, by decide, by decide⟩
  have f0 := divInt_nn t0 w0
  have f1 : divInt t w ≤ 1 := by
    have := divInt_le (M := 1) w0 (show t ≤ 1 * w by omega)
    exact this
  refine ⟨p, t, w, rfl, hp, hbg, t0, by omega, w0, by omega, wk_at (k _ (Rat.mul_nonneg hp f0) ?_ fun N hN => hN.mul (Dn.of (by omega) M e))⟩
  have := Rat.mul_le_mul_of_nonneg_right f1 hp
  rw [Rat.one_mul, Rat.mul_comm] at this
  exact this
end C13
/-! PA: the program's amounts, hops, buffers, wires -/
namespace PA
open PySem PySem.Spec PyProof.Rows L2 L3 L4
open Rat (divInt)
/-! ### amounts -/
def sp_p_lowest : LSp := fun ds m Φ => ∃ (t b : Int), ds = [.int t, .int b] ∧ 0 < b ∧ b.natAbs.log2 < 9000 ∧ Φ (am (divInt t b)) m
def sp_plus : LSp := fun ds m Φ => ∃ (qs : List Rat) (N M : Nat), ds = [.tup (qs.map am)] ∧ (∀ q ∈ qs, Okb N M q) ∧ qs.length ≤ 1000000 ∧ 0 < N ∧ N.log2 < 1900 ∧ M.log2 < 1900 ∧ Φ (am (total qs)) m
def sp_plus_s : LSp := fun ds m Φ => ∃ ws rest, ds = ws ++ rest ∧ ws.length = 0 ∧ rest.length ≤ sizeLine ∧ sp_plus (ws ++ [.tup rest]) m Φ
def sp_minus : LSp := fun ds m Φ => ∃ (p q : Rat), ds = [am p, am q] ∧ q ≤ p ∧ Bg p ∧ Bg q ∧ Φ (am (p - q)) m
def cmpI (p q : Rat) : Int := if p = q then 0 else if p < q then -1 else 1
def sp_compare : LSp := fun ds m Φ => ∃ (p q : Rat), ds = [am p, am q] ∧ Bg p ∧ Bg q ∧ Φ (.int (cmpI p q)) m
def sp_largest : LSp := fun ds m Φ => ∃ (p : Rat) (qs : List Rat), ds = [am p, .tup (qs.map am)] ∧ Bg p ∧ (∀ q ∈ qs, Bg q) ∧ Φ (am (qs.foldl mx p)) m
def sp_largest_s : LSp := fun ds m Φ => ∃ ws rest, ds = ws ++ rest ∧ ws.length = 1 ∧ rest.length ≤ sizeLine ∧ sp_largest (ws ++ [.tup rest]) m Φ
/-- _lowest: 0 top, 1 bottom, 2 common -/
def qb_p_lowest : QS :=
  (sSeq (sAsg (.nm 2) (qCB bGcd (qCons (qVar 0) (qCons (qVar 1) qNil))))
    (sRet (qTup (qCons (qOp (qIC CDivW fun i j => .int (i / j)) (qVar 0) (qVar 2)) (qCons (qOp (qIC CDivW fun i j => .int (i / j)) (qVar 1) (qVar 2)) qNil)))))
/-- plus: 0 amounts, 1 top, 2 bottom, 3 more, 4 parts, 5 common -/
def qb_plus : QS :=
  (sSeq (sAsg (.tp [(.nm 1), (.nm 2)]) (qC (.tup [(.int 0), (.int 1)])))
    (sSeq (sFor (iTup (qVar 0)) (.tp [(.nm 3), (.nm 4)]) (sIf (qB (qOp vEq (qVar 4) (qVar 2))) (sAug 1 qIAdd (qVar 3)) (sSeq (sAsg (.nm 5) (qCB bGcd (qCons (qVar 2) (qCons (qVar 4) qNil))))
    (sSeq (sAsg (.nm 1) (qOp qAdd (qOp (qIC CM fun i j => .int (i * j)) (qVar 1) (qOp (qIC CDivW fun i j => .int (i / j)) (qVar 4) (qVar 5))) (qOp (qIC CM fun i j => .int (i * j)) (qVar 3) (qOp (qIC CDivW fun i j => .int (i / j)) (qVar 2) (qVar 5)))))
    (sAsg (.nm 2) (qOp (qIC CM fun i j => .int (i * j)) (qOp (qIC CDivW fun i j => .int (i / j)) (qVar 2) (qVar 5)) (qVar 4)))))))
    (sRet (qCall sp_p_lowest (qCons (qVar 1) (qCons (qVar 2) qNil))))))
/-- minus: 0 first, 1 second, 2 top -/
def qb_minus : QS :=
  (sSeq (sAsg (.nm 2) (qOp (qI0 fun i j => .int (i - j)) (qOp (qIC CM fun i j => .int (i * j)) (qOp vIx (qVar 0) (qC (.int 0))) (qOp vIx (qVar 1) (qC (.int 1)))) (qOp (qIC CM fun i j => .int (i * j)) (qOp vIx (qVar 1) (qC (.int 0))) (qOp vIx (qVar 0) (qC (.int 1))))))
    (sSeq (sIf (qB (qOp (qI0 fun i j => .bl (decide (i < j))) (qVar 2) (qC (.int 0)))) sNever sNext)
    (sRet (qCall sp_p_lowest (qCons (qVar 2) (qCons (qOp (qIC CM fun i j => .int (i * j)) (qOp vIx (qVar 0) (qC (.int 1))) (qOp vIx (qVar 1) (qC (.int 1)))) qNil))))))
/-- compare: 0 first, 1 second, 2 left, 3 right -/
def qb_compare : QS :=
  (sSeq (sAsg (.nm 2) (qOp (qIC CM fun i j => .int (i * j)) (qOp vIx (qVar 0) (qC (.int 0))) (qOp vIx (qVar 1) (qC (.int 1)))))
    (sSeq (sAsg (.nm 3) (qOp (qIC CM fun i j => .int (i * j)) (qOp vIx (qVar 1) (qC (.int 0))) (qOp vIx (qVar 0) (qC (.int 1)))))
    (sSeq (sIf (qB (qOp vEq (qVar 2) (qVar 3))) (sRet (qC (.int 0))) sNext)
    (sRet (qIfE (qB (qOp (qI0 fun i j => .bl (decide (i < j))) (qVar 2) (qVar 3))) (qNeg (qC (.int 1))) (qC (.int 1)))))))
/-- largest: 0 first, 1 others, 2 found, 3 other -/
def qb_largest : QS :=
  (sSeq (sAsg (.nm 2) (qVar 0))
    (sSeq (sFor (iTup (qVar 1)) (.nm 3) (sIf (qB (qOp (qI0 fun i j => .bl (decide (j < i))) (qCall sp_compare (qCons (qVar 3) (qCons (qVar 2) qNil))) (qC (.int 0)))) (sAsg (.nm 2) (qVar 3)) sNext))
    (sRet (qVar 2))))
theorem len_p_lowest : ∀ ds m Φ, sp_p_lowest ds m Φ → ds.length = 2 := by rintro _ _ _ ⟨_, _, rfl, _⟩; rfl
theorem rd_p_lowest : ∀ ds m Φ, sp_p_lowest ds m Φ → qb_p_lowest (bodyW Φ) (begin_ 3 ds) m := by
  rintro _ m Φ ⟨t, b, rfl, h0, h1, k⟩
  have hg0 : 0 < Int.gcd t b := Int.gcd_pos_of_ne_zero_right _ (by omega)
  have hg1 : (Int.gcd t b : Int) ≤ b := Int.gcd_le_right (a := t) h0
  have e := am_low (t := t) h0 rfl
  refine ⟨cd_le (g := (Int.gcd t b : Nat)) (by omega) hg1 h1, cd_le (g := (Int.gcd t b : Nat)) (by omega) hg1 h1, by show 2 ≤ 16777216; decide, wk_at ?_⟩
  show Φ (.tup [.int (t / (Int.gcd t b : Nat)), .int (b / (Int.gcd t b : Nat))]) m
  rw [e]; exact k
theorem num_log {N M : Nat} {q : Rat} (h : Okb N M q) {t : Int} {bn : Nat} (hb : 0 < bn) (hbN : bn ≤ N) (e : divInt t bn = q) (h1 : N.log2 < 1900) (h2 : M.log2 < 2000) : t.natAbs.log2 < 4000 := by
  have h3 : divInt t bn ≤ (M : Rat) := by rw [e]; exact h.le
  have h4 : 0 ≤ divInt t bn := by rw [e]; exact h.nn
  have hb' : (0 : Rat) < ((bn : Int) : Rat) := (Rat.intCast_lt_intCast (a := 0)).mpr (show (0 : Int) < (bn : Int) by omega)
  have hb0 : ((bn : Int) : Rat) ≠ 0 := by grind
  have e1 : divInt t bn * ((bn : Int) : Rat) = (t : Rat) := by rw [Rat.divInt_eq_div]; grind
  have h5 : (t : Rat) ≤ (M : Rat) * ((bn : Int) : Rat) := by rw [← e1]; exact Rat.mul_le_mul_of_nonneg_right h3 (Rat.le_of_lt hb')
  have h6 : (0 : Rat) ≤ (t : Rat) := by rw [← e1]; exact Rat.mul_nonneg h4 (Rat.le_of_lt hb')
  have h7 : t ≤ (M : Int) * bn := by
    rw [← Rat.intCast_natCast M, ← Rat.intCast_mul] at h5
    exact Rat.intCast_le_intCast.mp h5
  have h8 : 0 ≤ t := Rat.intCast_nonneg.mp h6
  have h9 : t.natAbs ≤ M * N := by
    have a : (M : Int) * bn ≤ (M : Int) * N := Int.mul_le_mul_of_nonneg_left (by omega) (by omega)
    have b : ((t.natAbs : Nat) : Int) ≤ ((M * N : Nat) : Int) := by rw [Int.natCast_mul]; omega
    omega
  have a1 := log2_le h9
  have a2 := log2_mul M N
  omega
theorem rd_plus : ∀ ds m Φ, sp_plus ds m Φ → qb_plus (bodyW Φ) (begin_ 6 ds) m := by
  rintro _ m Φ ⟨qs, N, M, rfl, hq, hl, h0, hN, hM, k⟩
  refine ⟨fun i s' m' => m' = m ∧ ∃ (t : Int) (bn : Nat) (c1 c2 c3 : Option D), s' = [some (.tup (qs.map am)), some (.int t), some (.int bn), c1, c2, c3] ∧ 0 < bn ∧ bn ∣ N ∧ divInt t bn = total (qs.take i), ⟨rfl, 0, 1, none, none, none, rfl, by decide, Nat.one_dvd _, by rw [List.take_zero, Rat.zero_divInt]; rfl⟩, fun _ _ _ _ _ => trivial, ?_, ?_⟩
  · rintro i d s' m' hd ⟨rfl, t, bn, c1, c2, c3, rfl, hb, hbN, e⟩
    obtain ⟨q, hi, rfl⟩ := get_map hd
    have o2 : Okb N M q := hq q (List.mem_of_getElem? hi)
    have o1 := total_ok (l := qs.take i) fun x hx => hq x (List.mem_of_mem_take hx)
    have d2 := o2.dn.le h0
    have dv2 := o2.dn.dvd (by omega)
    have hbn : bn ≤ N := Nat.le_of_dvd h0 hbN
    have tl : t.natAbs.log2 < 4000 := num_log o1 hb hbn e hN (by
      have a1 := log2_mul (qs.take i).length M
      have a2 : (qs.take i).length ≤ 1000000 := by rw [List.length_take]; omega
      have a3 := log2_le a2
      have a4 : Nat.log2 1000000 < 20 := by decide
      omega)
    have bq : Bg q := o2.bg h0 hN (by omega)
    have lN : ∀ x : Nat, x ≤ N → ((x : Nat) : Int).natAbs.log2 < 9000 := fun x hx => by
      rw [Int.natAbs_natCast]
      have := log2_le hx
      omega
    refine qif (fun h => ?_) (fun h => ?_)
    · have h : (q.den : Int) = bn := dec_t h
      refine ⟨rfl, t + q.num, bn, some (.int q.num), some (.int q.den), c3, rfl, hb, hbN, ?_⟩
      rw [total_more hi, ← e, plus_same h (by omega)]
    · have hg : 0 < Nat.gcd bn q.den := Nat.gcd_pos_of_pos_left _ hb
      have hg2 : Nat.gcd bn q.den ≤ bn := Nat.gcd_le_left _ hb
      have gc : ∀ x : Int, CDivW x (Nat.gcd (bn : Int).natAbs (q.den : Int).natAbs : Nat) := fun x => by
        rw [Int.natAbs_natCast, Int.natAbs_natCast]
        exact cd_of (by omega) (lN _ (by omega))
      have e1 : (q.den : Int) / (Nat.gcd (bn : Int).natAbs (q.den : Int).natAbs : Nat) = ((q.den / Nat.gcd bn q.den : Nat) : Int) := by rw [Int.natAbs_natCast, Int.natAbs_natCast, Int.natCast_ediv]
      have e2 : (bn : Int) / (Nat.gcd (bn : Int).natAbs (q.den : Int).natAbs : Nat) = ((bn / Nat.gcd bn q.den : Nat) : Int) := by rw [Int.natAbs_natCast, Int.natAbs_natCast, Int.natCast_ediv]
      have l1 : q.den / Nat.gcd bn q.den ≤ q.den := Nat.div_le_self _ _
      have l2 : bn / Nat.gcd bn q.den ≤ bn := Nat.div_le_self _ _
      have f1 : ((q.den : Int) / (Nat.gcd (bn : Int).natAbs (q.den : Int).natAbs : Nat)).natAbs.log2 < 9000 := by rw [e1]; exact lN _ (by omega)
      have f2 : ((bn : Int) / (Nat.gcd (bn : Int).natAbs (q.den : Int).natAbs : Nat)).natAbs.log2 < 9000 := by rw [e2]; exact lN _ (by omega)
      refine ⟨gc _, cm_b (by omega) f1, gc _, cm_b (by have := bq.1; omega) f2, gc _, cm_b f2 (lN _ d2), rfl, ?_⟩
      have e3 : Nat.lcm bn q.den = bn / Nat.gcd bn q.den * q.den := by
        unfold Nat.lcm
        rw [Nat.div_mul_right_comm (Nat.gcd_dvd_left _ _)]
      refine ⟨t * ((q.den / Nat.gcd bn q.den : Nat) : Int) + q.num * ((bn / Nat.gcd bn q.den : Nat) : Int), bn / Nat.gcd bn q.den * q.den, some (.int q.num), some (.int q.den), some (.int (Nat.gcd bn q.den : Nat)), ?_, ?_, ?_, ?_⟩
      · rw [Int.natCast_mul, ← e1, ← e2]; rfl
      · rw [← e3]; exact Nat.lcm_pos hb q.den_pos
      · rw [← e3]; exact Nat.lcm_dvd hbN dv2
      · rw [plus_else hb, e, total_more hi]
  · rintro s' m' ⟨rfl, t, bn, c1, c2, c3, rfl, hb, hbN, e⟩
    rw [List.length_map, List.take_of_length_le (Nat.le_refl _)] at e
    have hbn : bn ≤ N := Nat.le_of_dvd h0 hbN
    refine ⟨t, bn, rfl, by omega, by rw [Int.natAbs_natCast]; have := log2_le hbn; omega, wk_at ?_⟩
    rw [e]; exact k
theorem len_minus : ∀ ds m Φ, sp_minus ds m Φ → ds.length = 2 := by rintro _ _ _ ⟨_, _, rfl, _⟩; rfl
theorem rd_minus : ∀ ds m Φ, sp_minus ds m Φ → qb_minus (bodyW Φ) (begin_ 3 ds) m := by
  rintro _ m Φ ⟨p, q, rfl, hp, h1, h2, k⟩
  refine ⟨_, rfl, _, rfl, cm_nd h1 h2, _, rfl, _, rfl, cm_nd h2 h1, ?_⟩
  refine qif (fun h => ?_) (fun h => ?_)
  · have h : p.num * q.den - q.num * p.den < 0 := dec_t h
    have := (am_le q p).mp hp
    omega
  · refine ⟨_, rfl, _, rfl, cm_dd h1 h2, _, _, rfl, den_mul_pos p q, dd_log h1 h2, wk_at ?_⟩
    rw [am_sub]; exact k
theorem len_compare : ∀ ds m Φ, sp_compare ds m Φ → ds.length = 2 := by rintro _ _ _ ⟨_, _, rfl, _⟩; rfl
theorem rd_compare : ∀ ds m Φ, sp_compare ds m Φ → qb_compare (bodyW Φ) (begin_ 4 ds) m := by
  rintro _ m Φ ⟨p, q, rfl, h1, h2, k⟩
  unfold cmpI at k
  refine ⟨_, rfl, _, rfl, cm_nd h1 h2, _, rfl, _, rfl, cm_nd h2 h1, ?_⟩
  refine qif (fun h => ?_) (fun h => ?_)
  · have h : p.num * q.den = q.num * p.den := dec_t h
    rw [if_pos ((am_eq p q).mpr h)] at k
    exact wk_at k
  · have h : ¬ p.num * q.den = q.num * p.den := dec_f h
    rw [if_neg (fun e => h ((am_eq p q).mp e))] at k
    refine qif (fun h => ?_) (fun h => ?_)
    · have h : p.num * q.den < q.num * p.den := dec_t h
      rw [if_pos ((am_lt p q).mpr h)] at k
      exact wk_at k
    · have h : ¬ p.num * q.den < q.num * p.den := dec_f h
      rw [if_neg (fun e => h ((am_lt p q).mp e))] at k
      exact wk_at k
theorem cmp_pos {p q : Rat} : 0 < cmpI p q ↔ q < p := by
  unfold cmpI
  by_cases h : p = q
  · rw [if_pos h]; subst h; constructor
    · intro z; omega
    · intro z; exact absurd z (Rat.lt_irrefl)
  · rw [if_neg h]
    by_cases h2 : p < q
    · rw [if_pos h2]; constructor
      · intro z; omega
      · intro z; grind
    · rw [if_neg h2]; constructor
      · intro _; grind
      · intro _; omega
theorem cmp_nn {p q : Rat} : 0 ≤ cmpI p q ↔ q ≤ p := by
  unfold cmpI
  by_cases h : p = q
  · rw [if_pos h]; subst h; exact ⟨fun _ => Rat.le_refl, fun _ => Int.le_refl _⟩
  · rw [if_neg h]
    by_cases h2 : p < q
    · rw [if_pos h2]; constructor
      · intro z; omega
      · intro z; grind
    · rw [if_neg h2]; constructor
      · intro _; grind
      · intro _; omega
theorem cmp_np {p q : Rat} : cmpI p q ≤ 0 ↔ p ≤ q := by
  have := @cmp_pos p q
  constructor
  · intro h
    exact Rat.not_lt.mp fun z => by have := this.mpr z; omega
  · intro h
    have h2 : ¬ q < p := by grind
    have := mt this.mp h2
    omega
theorem fold_bg : ∀ {qs : List Rat} {p : Rat}, Bg p → (∀ q ∈ qs, Bg q) → Bg (qs.foldl mx p)
  | [], _, h, _ => h
  | q :: qs, p, h, k => fold_bg (qs := qs) (mx_bg h (k q List.mem_cons_self)) fun x hx => k x (List.mem_cons_of_mem _ hx)
theorem rd_largest : ∀ ds m Φ, sp_largest ds m Φ → qb_largest (bodyW Φ) (begin_ 4 ds) m := by
  rintro _ m Φ ⟨p, qs, rfl, hp, hq, k⟩
  refine ⟨fun i s' m' => m' = m ∧ ∃ c : Option D, s' = [some (am p), some (.tup (qs.map am)), some (am ((qs.take i).foldl mx p)), c], ⟨rfl, none, rfl⟩, fun _ _ _ _ _ => trivial, ?_, ?_⟩
  · rintro i d s' m' hd ⟨rfl, c, rfl⟩
    obtain ⟨q, hi, rfl⟩ := get_map hd
    have b1 : Bg ((qs.take i).foldl mx p) := fold_bg hp fun x hx => hq x (List.mem_of_mem_take hx)
    have b2 := hq q (List.mem_of_getElem? hi)
    have e : (qs.take (i + 1)).foldl mx p = mx ((qs.take i).foldl mx p) q := by rw [take_more hi, List.foldl_append]; rfl
    refine ⟨q, _, rfl, b2, b1, qif (fun h => ?_) (fun h => ?_)⟩
    · have h := cmp_pos.mp (dec_t h)
      refine ⟨rfl, some (am q), ?_⟩
      rw [e, show mx (List.foldl mx p (List.take i qs)) q = q from if_pos h]; rfl
    · have h := mt cmp_pos.mpr (dec_f h)
      refine ⟨rfl, some (am q), ?_⟩
      rw [e, show mx (List.foldl mx p (List.take i qs)) q = List.foldl mx p (List.take i qs) from if_neg h]; rfl
  · rintro s' m' ⟨rfl, c, rfl⟩
    rw [List.length_map, List.take_of_length_le (Nat.le_refl _)]
    exact wk_at k
/-! ### hops -/
def flds (way age : Int) (d : Addr) : List (Str × D) := [("_way", .int way), ("_age", .int age), ("_sent", .ref d)]
/-- a hop at h, its dict at d -/
structure HopAt (C : Addr) (m : Mem) (h d : Addr) (way age : Int) (t : Tab) : Prop where
  ob : m h = some (.ins C (flds way age d))
  dc : m d = some (.dK (tabD t))
theorem HopAt.ne {C : Addr} {m : Mem} {h d : Addr} {way age : Int} {t : Tab} (p : HopAt C m h d way age t) : h ≠ d := ne_obj p.ob p.dc (fun z => by cases z)
theorem HopAt.keep {C : Addr} {m m' : Mem} {h d : Addr} {way age : Int} {t : Tab} (p : HopAt C m h d way age t) (k : Grows m m') : HopAt C m' h d way age t := ⟨k.at p.ob, k.at p.dc⟩
def sp_Hop_init (C : Addr) : LSp := fun ds m Φ => ∃ (h : Addr) (way age : Int), ds = [.ref h, .int way, .int age] ∧ m h = some (.ins C []) ∧ ∀ d m', m d = none → HopAt C m' h d way age [] → Keeps m m' (fun a => a = h) → Φ .non m'
def sp_Hop_remember (C : Addr) : LSp := fun ds m Φ => ∃ (h d : Addr) (way age tick : Int) (t : Tab) (q : Rat), ds = [.ref h, .int tick, am q] ∧ HopAt C m h d way age t ∧ t.length ≤ 1000 ∧ (t.map (·.1)).Nodup ∧
  ∀ d' m', m d' = none → HopAt C m' h d' way age (putT (t.filter (cutF (tick - age - way))) tick q) → Keeps m m' (fun a => a = h ∨ a = d) → Φ .non m'
def sp_Hop_sent_after (C : Addr) : LSp := fun ds m Φ => ∃ (h d : Addr) (way age lo hi : Int) (t : Tab) (N M : Nat), ds = [.ref h, .int lo, .int hi] ∧ HopAt C m h d way age t ∧ TabOk N M t ∧ 0 < N ∧ N.log2 < 1900 ∧ M.log2 < 1900 ∧ Φ (am (taken t lo hi)) m
def sp_Hop_room (C : Addr) : LSp := fun ds m Φ => ∃ (h d : Addr) (way age now made : Int) (t : Tab) (told : Rat) (N M : Nat), ds = [.ref h, .int now, .int made, am told] ∧ HopAt C m h d way age t ∧ TabOk N M t ∧ 0 < N ∧ N.log2 < 1900 ∧ M.log2 < 1900 ∧ Bg told ∧ Φ (am (rest told (taken t (made - way) now))) m
def sp_Hop_copy (C : Addr) : LSp := fun ds m Φ => ∃ (h d : Addr) (way age : Int) (t : Tab), ds = [.ref h] ∧ HopAt C m h d way age t ∧ ∀ h' d' m', h' ≠ d' → m h' = none → m d' = none → HopAt C m' h' d' way age t → Grows m m' → Φ (.ref h') m'
/-- Hop.__init__: 0 self, 1 way, 2 age -/
def qb_Hop_init (C : Addr) : QS :=
  (sSeq (sSetF C "_way" (qVar 0) (qVar 1))
    (sSeq (sSetF C "_age" (qVar 0) (qVar 2))
    (sSetF C "_sent" (qVar 0) qDNewK)))
/-- Hop.remember: 0 self, 1 tick, 2 water, 3 oldest, 4 kept, 5 sent, 6 put -/
def qb_Hop_remember (C : Addr) : QS :=
  (sSeq (sAsg (.nm 3) (qOp (qI0 fun i j => .int (i - j)) (qOp (qI0 fun i j => .int (i - j)) (qVar 1) (qFld C "_age" (qVar 0))) (qFld C "_way" (qVar 0))))
    (sSeq (sLock (sAsg (.nm 4) (qDc (iDict fItem (qFld C "_sent" (qVar 0))) (.tp [(.nm 5), (.nm 6)]) (qB (qOp (qI0 fun i j => .bl (decide (j ≤ i))) (qVar 5) (qVar 3))) (qVar 5) (qVar 6) [5, 6])))
    (sSeq (sSub (qVar 4) (qVar 1) (qVar 2))
    (sSetF C "_sent" (qVar 0) (qVar 4)))))
/-- Hop.sent_after: 0 self, 1 tick, 2 now, 3 waters, 4 sent, 5 put -/
def qb_Hop_sent_after (C : Addr) : QS :=
  (sSeq (sLock (sAsg (.nm 3) (qFreeze (qLc (iDict fItem (qFld C "_sent" (qVar 0))) (.tp [(.nm 4), (.nm 5)]) (qB (qChain (qI0 fun i j => .bl (decide (i < j))) (qI0 fun i j => .bl (decide (i < j))) (qVar 1) (qVar 4) (qVar 2))) (qVar 5) [4, 5]))))
    (sRet (qCallS1 sp_plus_s (qVar 3))))
/-- Hop.room: 0 self, 1 now, 2 made, 3 told, 4 used -/
def qb_Hop_room (C : Addr) : QS :=
  (sSeq (sAsg (.nm 4) (qMeth C "sent_after" (sp_Hop_sent_after C) (qVar 0) (qCons (qOp (qI0 fun i j => .int (i - j)) (qVar 2) (qFld C "_way" (qVar 0))) (qCons (qVar 1) qNil))))
    (sSeq (sIf (qB (qOp (qI0 fun i j => .bl (decide (j ≤ i))) (qCall sp_compare (qCons (qVar 4) (qCons (qVar 3) qNil))) (qC (.int 0)))) (sRet (qC (.tup [(.int 0), (.int 1)]))) sNext)
    (sRet (qCall sp_minus (qCons (qVar 3) (qCons (qVar 4) qNil))))))
/-- Hop.copy: 0 self, 1 twin -/
def qb_Hop_copy (C : Addr) : QS :=
  (sSeq (sAsg (.nm 1) (qMake C (sp_Hop_init C) (qCons (qFld C "_way" (qVar 0)) (qCons (qFld C "_age" (qVar 0)) qNil))))
    (sSeq (sSetF C "_sent" (qVar 1) (qCB bDict (qCons (qFld C "_sent" (qVar 0)) qNil)))
    (sRet (qVar 1))))
theorem fl_way {w a : Int} {d : Addr} : (flds w a d).lookup ("_way" : Str) = some (D.int w) := by rfl
theorem fl_age {w a : Int} {d : Addr} : (flds w a d).lookup ("_age" : Str) = some (D.int a) := by rfl
theorem fl_sent {w a : Int} {d : Addr} : (flds w a d).lookup ("_sent" : Str) = some (D.ref d) := by rfl
theorem fl_set {w a : Int} {d e : Addr} : putFD ("_sent" : Str) (D.ref e) (flds w a d) = flds w a e := by rfl
theorem fl_new {w a : Int} {d : Addr} : putFD ("_sent" : Str) (D.ref d) (putFD ("_age" : Str) (D.int a) (putFD ("_way" : Str) (D.int w) [])) = flds w a d := by rfl
theorem len_Hop_init (C : Addr) : ∀ ds m Φ, sp_Hop_init C ds m Φ → ds.length = 3 := by rintro _ _ _ ⟨_, _, _, rfl, _⟩; rfl
theorem rd_Hop_init (C : Addr) : ∀ ds m Φ, sp_Hop_init C ds m Φ → qb_Hop_init C (bodyW Φ) (begin_ 3 ds) m := by
  rintro _ m Φ ⟨h, way, age, rfl, hh, k⟩
  refine ⟨_, hh, by decide, _, mset_same, by show 1 < 1000; decide, fun d hd => ⟨putFD ("_age" : Str) (D.int age) (putFD ("_way" : Str) (D.int way) []), ?_, by show 2 < 1000; decide, ?_⟩⟩
  · rw [mset_mset] at hd
    obtain ⟨hdh, hd⟩ := mset_none hd
    rw [mset_ne (Ne.symm hdh), mset_same]
  · rw [mset_mset] at hd
    obtain ⟨hdh, hd⟩ := mset_none hd
    refine wk_at (k d _ hd ⟨mset_same, ?_⟩ ?_)
    · rw [mset_ne hdh, mset_same]; rfl
    · intro a o ha e
      rw [mset_ne ha, mset_ne (ne_none e hd), mset_ne ha, mset_ne ha]; exact e
theorem len_Hop_remember (C : Addr) : ∀ ds m Φ, sp_Hop_remember C ds m Φ → ds.length = 3 := by rintro _ _ _ ⟨_, _, _, _, _, _, _, rfl, _⟩; rfl
theorem rd_Hop_remember (C : Addr) : ∀ ds m Φ, sp_Hop_remember C ds m Φ → qb_Hop_remember C (bodyW Φ) (begin_ 7 ds) m := by
  rintro _ m Φ ⟨h, d, way, age, tick, t, q, rfl, hp, hl, nd, k⟩
  have hne : h ≠ d := hp.ne
  refine ⟨_, _, hp.ob, fl_age, _, _, hp.ob, fl_way, d, tabD t, hp.dc, _, _, by rw [mset_ne hne]; exact hp.ob, fl_sent, _, mset_same, ?_⟩
  refine dc_by (fun i acc => acc = tabD ((t.take i).filter (cutF (tick - age - way)))) rfl ?_ ?_ ?_
  · intro a o ha
    obtain ⟨had, ha⟩ := mset_none ha
    rw [mset_ne (Ne.symm had), mset_same]
  · rintro i dd acc a ha hd hl' rfl
    rw [items_tab] at hd
    obtain ⟨p, hi, rfl⟩ := get_map hd
    have hil : i < t.length := (List.getElem?_eq_some_iff.mp hi).1
    refine qif (fun w => ?_) (fun w => ?_)
    · refine dc_ok (Sum.inl p.1) rfl hl' (by show i < 16777216; omega) ?_
      have w : tick - age - way ≤ p.1 := dec_t w
      rw [tab_put, take_filter_more hi, if_pos (show cutF (tick - age - way) p = true from decide_eq_true w), putT_new]
      intro z
      obtain ⟨y, hy, e⟩ := List.mem_map.mp z
      exact nd_get nd hi (List.mem_map.mpr ⟨y, (List.mem_filter.mp hy).1, e⟩)
    · have w : ¬ tick - age - way ≤ p.1 := dec_f w
      refine dc_skip hl' ?_
      rw [take_filter_more hi, if_neg (fun z : cutF (tick - age - way) p = true => w (of_decide_eq_true z)), List.append_nil]
  · rintro acc a ha hl' rfl
    obtain ⟨had, ha⟩ := mset_none ha
    have hah : a ≠ h := Ne.symm (ne_none hp.ob ha)
    rw [items_tab, List.length_map] at *
    rw [List.take_of_length_le (Nat.le_refl _)] at *
    refine Or.inr ⟨_, Sum.inl tick, by rw [mset_ne had, mset_same], rfl, ?_, ?_⟩
    · have : (tabD (t.filter (cutF (tick - age - way)))).length ≤ t.length := hl'
      show _ < 16777216
      omega
    · refine ⟨_, by rw [mset_ne (Ne.symm hah), mset_ne hne, mset_ne (Ne.symm hah), mset_ne hne]; exact hp.ob, by show 3 < 1000; decide, ?_⟩
      refine wk_at (k a _ ha ⟨by rw [fl_set]; exact mset_same, ?_⟩ ?_)
      · rw [mset_ne hah, mset_same, tab_put]
      · intro b o hb e
        have hb1 : b ≠ h := fun z => hb (.inl z)
        have hb2 : b ≠ d := fun z => hb (.inr z)
        have hba : b ≠ a := ne_none e ha
        rw [mset_ne hb1, mset_ne hba, mset_ne hb2, mset_ne hba, mset_ne hb2]; exact e
theorem len_Hop_sent_after (C : Addr) : ∀ ds m Φ, sp_Hop_sent_after C ds m Φ → ds.length = 3 := by rintro _ _ _ ⟨_, _, _, _, _, _, _, _, _, rfl, _⟩; rfl
theorem rd_Hop_sent_after (C : Addr) : ∀ ds m Φ, sp_Hop_sent_after C ds m Φ → qb_Hop_sent_after C (bodyW Φ) (begin_ 6 ds) m := by
  rintro _ m Φ ⟨h, d, way, age, lo, hi, t, N, M, rfl, hp, ok, h0, hN, hM, k⟩
  have hne : h ≠ d := hp.ne
  have hl := ok.len
  refine ⟨d, tabD t, hp.dc, _, _, by rw [mset_ne hne]; exact hp.ob, fl_sent, _, mset_same, ?_⟩
  refine lc_by (fun i acc => acc = (((t.take i).filter (inW lo hi)).map (·.2)).map am) rfl ?_ ?_ ?_
  · intro a o ha
    obtain ⟨had, ha⟩ := mset_none ha
    rw [mset_ne (Ne.symm had), mset_same]
  · rintro i dd acc a ha hd hl' rfl
    rw [items_tab] at hd
    obtain ⟨p, hi', rfl⟩ := get_map hd
    have hil : i < t.length := (List.getElem?_eq_some_iff.mp hi').1
    refine qif (fun w1 => ?_) (fun w1 => ?_)
    · refine qif (fun w2 => ?_) (fun w2 => ?_)
      · refine lc_ok hl' (by show i < 16777216; omega) ?_
        have e : inW lo hi p = true := by unfold inW; rw [w1, w2]; rfl
        rw [take_filter_more hi', if_pos e, List.map_append, List.map_append]; rfl
      · refine lc_skip hl' ?_
        have e : ¬ inW lo hi p = true := by unfold inW; rw [w1, w2]; decide
        rw [take_filter_more hi', if_neg e, List.append_nil]
    · refine qif_f rfl (lc_skip hl' ?_)
      have e : ¬ inW lo hi p = true := by unfold inW; rw [w1]; simp
      rw [take_filter_more hi', if_neg e, List.append_nil]
  · rintro acc a ha hl' rfl
    refine ⟨_, mset_same, ?_⟩
    rw [mdel_mset ha]
    rw [items_tab, List.length_map] at *
    rw [List.take_of_length_le (Nat.le_refl _)] at *
    refine ⟨[], _, rfl, rfl, ?_, (t.filter (inW lo hi)).map (·.2), N, M, rfl, ?_, ?_, h0, hN, hM, wk_at (by rw [lock_back hp.dc]; exact k)⟩
    · have := flen t (inW lo hi)
      show _ ≤ 16777216; omega
    · rintro q hq
      obtain ⟨p, hp', rfl⟩ := List.mem_map.mp hq
      exact ok.ok p (List.mem_filter.mp hp').1
    · have := flen t (inW lo hi)
      rw [List.length_map] at this
      omega
theorem len_Hop_room (C : Addr) : ∀ ds m Φ, sp_Hop_room C ds m Φ → ds.length = 4 := by rintro _ _ _ ⟨_, _, _, _, _, _, _, _, _, _, rfl, _⟩; rfl
theorem rd_Hop_room (C : Addr) : ∀ ds m Φ, sp_Hop_room C ds m Φ → qb_Hop_room C (bodyW Φ) (begin_ 5 ds) m := by
  rintro _ m Φ ⟨h, d, way, age, now, made, t, told, N, M, rfl, hp, ok, h0, hN, hM, h1, k⟩
  have o := taken_ok ok (made - way) now
  have ob : Bg (taken t (made - way) now) := o.bg h0 hN (by
    have a1 := log2_mul 1000 M
    have a2 : Nat.log2 1000 < 20 := by decide
    omega)
  refine ⟨_, hp.ob, rfl, _, _, hp.ob, fl_way, h, d, way, age, made - way, now, t, N, M, rfl, hp, ok, h0, hN, hM, ?_⟩
  refine ⟨_, told, rfl, ob, h1, ?_⟩
  refine qif (fun w => ?_) (fun w => ?_)
  · have w := cmp_nn.mp (dec_t w)
    have e : rest told (taken t (made - way) now) = 0 := by
      unfold L4.rest
      split <;> grind
    rw [e] at k
    exact wk_at k
  · have w := mt cmp_nn.mpr (dec_f w)
    have z3 : taken t (made - way) now ≤ told := by grind
    rw [rest_pos z3] at k
    exact ⟨told, _, rfl, z3, h1, ob, wk_at k⟩
theorem len_Hop_copy (C : Addr) : ∀ ds m Φ, sp_Hop_copy C ds m Φ → ds.length = 1 := by rintro _ _ _ ⟨_, _, _, _, _, rfl, _⟩; rfl
theorem rd_Hop_copy (C : Addr) : ∀ ds m Φ, sp_Hop_copy C ds m Φ → qb_Hop_copy C (bodyW Φ) (begin_ 2 ds) m := by
  rintro _ m Φ ⟨h, d, way, age, t, rfl, hp, k⟩
  refine ⟨_, _, hp.ob, fl_way, _, _, hp.ob, fl_age, fun a ha => ?_⟩
  refine ⟨a, way, age, rfl, mset_same, fun d0 m0 hd0 hp0 kp => ?_⟩
  obtain ⟨nda, hd0'⟩ := mset_none hd0
  have kp1 : ∀ b o, m b = some o → m0 b = some o := fun b o e => kp b o (ne_none e ha) (by rw [mset_ne (ne_none e ha)]; exact e)
  refine ⟨_, _, kp1 _ _ hp.ob, fl_sent, _, .inl (kp1 _ _ hp.dc), fun p hpn => ?_⟩
  have hap : a ≠ p := ne_none hp0.ob hpn
  have hmp : m p = none := by
    cases e : m p with
    | none => rfl
    | some o => rw [kp1 p o e] at hpn; cases hpn
  refine ⟨_, by rw [mset_ne hap]; exact hp0.ob, by show 3 < 1000; decide, wk_at (k a p _ hap ha hmp ⟨by rw [fl_set]; exact mset_same, by rw [mset_ne (Ne.symm hap), mset_same]⟩ ?_)⟩
  intro b o _ e
  rw [mset_ne (ne_none e ha), mset_ne (ne_none e hmp)]
  exact kp1 b o e
end PA
/-! PB: buffers, wires -/
namespace PA
open PySem PySem.Spec PyProof.Rows L2 L3 L4
open Rat (divInt)
/-! ### buffers -/
def bufF (size held full : Rat) : List (Str × D) := [("size", am size), ("_held", am held), ("_fullest", am full)]
def BufAt (C : Addr) (m : Mem) (a : Addr) (size held full : Rat) : Prop := m a = some (.ins C (bufF size held full))
def sp_Buffer_init (C : Addr) : LSp := fun ds m Φ => ∃ (a : Addr) (size : Rat), ds = [.ref a, am size] ∧ m a = some (.ins C []) ∧ ∀ m', BufAt C m' a size 0 0 → Keeps m m' (fun b => b = a) → Φ .non m'
def sp_Buffer_held (C : Addr) : LSp := fun ds m Φ => ∃ (a : Addr) (size held full : Rat), ds = [.ref a] ∧ BufAt C m a size held full ∧ Φ (am held) m
def sp_Buffer_fullest (C : Addr) : LSp := fun ds m Φ => ∃ (a : Addr) (size held full : Rat), ds = [.ref a] ∧ BufAt C m a size held full ∧ Φ (am full) m
def sp_Buffer_set_to (C : Addr) : LSp := fun ds m Φ => ∃ (a : Addr) (size held full w : Rat), ds = [.ref a, am w] ∧ BufAt C m a size held full ∧ Bg full ∧ Bg w ∧ ∀ m', BufAt C m' a size w (mx full w) → Keeps m m' (fun b => b = a) → Φ .non m'
def sp_Buffer_take_in (C : Addr) : LSp := fun ds m Φ => ∃ (a : Addr) (size held full w : Rat) (N M : Nat), ds = [.ref a, am w] ∧ BufAt C m a size held full ∧ Okb N M held ∧ Okb N M w ∧ 0 < N ∧ N.log2 < 1900 ∧ M.log2 < 1900 ∧ Bg size ∧ Bg full ∧
  ∀ m', BufAt C m' a size (mn (held + w) size) (mx full (mn (held + w) size)) → Keeps m m' (fun b => b = a) → Φ (am (L4.rest (held + w) size)) m'
def sp_Buffer_give (C : Addr) : LSp := fun ds m Φ => ∃ (a : Addr) (size held full w : Rat), ds = [.ref a, am w] ∧ BufAt C m a size held full ∧ Bg held ∧ Bg w ∧ w ≤ held ∧ ∀ m', BufAt C m' a size (held - w) full → Keeps m m' (fun b => b = a) → Φ .non m'
/-- Buffer.__init__: 0 self, 1 size -/
def qb_Buffer_init (C : Addr) : QS :=
  (sSeq (sSetF C "size" (qVar 0) (qVar 1))
    (sSeq (sSetF C "_held" (qVar 0) (qC (.tup [(.int 0), (.int 1)])))
    (sSetF C "_fullest" (qVar 0) (qC (.tup [(.int 0), (.int 1)])))))
/-- Buffer.held: 0 self -/
def qb_Buffer_held (C : Addr) : QS :=
  (sRet (qFld C "_held" (qVar 0)))
/-- Buffer.fullest: 0 self -/
def qb_Buffer_fullest (C : Addr) : QS :=
  (sRet (qFld C "_fullest" (qVar 0)))
/-- Buffer.set_to: 0 self, 1 water -/
def qb_Buffer_set_to (C : Addr) : QS :=
  (sSeq (sSetF C "_held" (qVar 0) (qVar 1))
    (sSetF C "_fullest" (qVar 0) (qCall sp_largest_s (qCons (qFld C "_fullest" (qVar 0)) (qCons (qVar 1) qNil)))))
/-- Buffer.take_in: 0 self, 1 water, 2 whole -/
def qb_Buffer_take_in (C : Addr) : QS :=
  (sSeq (sAsg (.nm 2) (qCall sp_plus_s (qCons (qFld C "_held" (qVar 0)) (qCons (qVar 1) qNil))))
    (sSeq (sIf (qB (qOp (qI0 fun i j => .bl (decide (i ≤ j))) (qCall sp_compare (qCons (qVar 2) (qCons (qFld C "size" (qVar 0)) qNil))) (qC (.int 0)))) (sSeq (sExpr (qMeth C "set_to" (sp_Buffer_set_to C) (qVar 0) (qCons (qVar 2) qNil)))
    (sRet (qC (.tup [(.int 0), (.int 1)])))) sNext)
    (sSeq (sExpr (qMeth C "set_to" (sp_Buffer_set_to C) (qVar 0) (qCons (qFld C "size" (qVar 0)) qNil)))
    (sRet (qCall sp_minus (qCons (qVar 2) (qCons (qFld C "size" (qVar 0)) qNil)))))))
/-- Buffer.give: 0 self, 1 water -/
def qb_Buffer_give (C : Addr) : QS :=
  (sSeq (sIf (qB (qOp (qI0 fun i j => .bl (decide (j < i))) (qCall sp_compare (qCons (qVar 1) (qCons (qFld C "_held" (qVar 0)) qNil))) (qC (.int 0)))) sNever sNext)
    (sSetF C "_held" (qVar 0) (qCall sp_minus (qCons (qFld C "_held" (qVar 0)) (qCons (qVar 1) qNil)))))
theorem bf_size {s h f : Rat} : (bufF s h f).lookup ("size" : Str) = some (am s) := by rfl
theorem bf_held {s h f : Rat} : (bufF s h f).lookup ("_held" : Str) = some (am h) := by rfl
theorem bf_full {s h f : Rat} : (bufF s h f).lookup ("_fullest" : Str) = some (am f) := by rfl
theorem bf_sh {s h f x : Rat} : putFD ("_held" : Str) (am x) (bufF s h f) = bufF s x f := by rfl
theorem bf_sf {s h f x : Rat} : putFD ("_fullest" : Str) (am x) (bufF s h f) = bufF s h x := by rfl
theorem len_Buffer_init (C : Addr) : ∀ ds m Φ, sp_Buffer_init C ds m Φ → ds.length = 2 := by rintro _ _ _ ⟨_, _, rfl, _⟩; rfl
theorem rd_Buffer_init (C : Addr) : ∀ ds m Φ, sp_Buffer_init C ds m Φ → qb_Buffer_init C (bodyW Φ) (begin_ 2 ds) m := by
  rintro _ m Φ ⟨a, size, rfl, ha, k⟩
  refine ⟨_, ha, by decide, _, mset_same, by show 1 < 1000; decide, _, mset_same, by show 2 < 1000; decide, wk_at (k _ mset_same ?_)⟩
  intro b o hb e
  rw [mset_ne hb, mset_ne hb, mset_ne hb]; exact e
theorem len_Buffer_held (C : Addr) : ∀ ds m Φ, sp_Buffer_held C ds m Φ → ds.length = 1 := by rintro _ _ _ ⟨_, _, _, _, rfl, _⟩; rfl
theorem rd_Buffer_held (C : Addr) : ∀ ds m Φ, sp_Buffer_held C ds m Φ → qb_Buffer_held C (bodyW Φ) (begin_ 1 ds) m := by
  rintro _ m Φ ⟨a, size, held, full, rfl, ha, k⟩
  exact ⟨_, _, ha, bf_held, wk_at k⟩
theorem len_Buffer_fullest (C : Addr) : ∀ ds m Φ, sp_Buffer_fullest C ds m Φ → ds.length = 1 := by rintro _ _ _ ⟨_, _, _, _, rfl, _⟩; rfl
theorem rd_Buffer_fullest (C : Addr) : ∀ ds m Φ, sp_Buffer_fullest C ds m Φ → qb_Buffer_fullest C (bodyW Φ) (begin_ 1 ds) m := by
  rintro _ m Φ ⟨a, size, held, full, rfl, ha, k⟩
  exact ⟨_, _, ha, bf_full, wk_at k⟩
theorem len_Buffer_set_to (C : Addr) : ∀ ds m Φ, sp_Buffer_set_to C ds m Φ → ds.length = 2 := by rintro _ _ _ ⟨_, _, _, _, _, rfl, _⟩; rfl
theorem rd_Buffer_set_to (C : Addr) : ∀ ds m Φ, sp_Buffer_set_to C ds m Φ → qb_Buffer_set_to C (bodyW Φ) (begin_ 2 ds) m := by
  rintro _ m Φ ⟨a, size, held, full, w, rfl, ha, h1, h2, k⟩
  refine ⟨_, ha, by show 3 < 1000; decide, bufF size w full, am full, by rw [bf_sh]; exact mset_same, bf_full, [am full], [am w], rfl, rfl, by show 1 ≤ 16777216; decide, full, [w], rfl, h1, by simpa using h2, ?_⟩
  refine ⟨bufF size w full, by rw [bf_sh]; exact mset_same, by show 3 < 1000; decide, wk_at (k _ ?_ ?_)⟩
  · show mset _ a _ a = _
    rw [mset_same, bf_sf]; rfl
  · intro b o hb e
    rw [mset_ne hb, mset_ne hb]; exact e
theorem len_Buffer_take_in (C : Addr) : ∀ ds m Φ, sp_Buffer_take_in C ds m Φ → ds.length = 2 := by rintro _ _ _ ⟨_, _, _, _, _, _, _, rfl, _⟩; rfl
theorem rd_Buffer_take_in (C : Addr) : ∀ ds m Φ, sp_Buffer_take_in C ds m Φ → qb_Buffer_take_in C (bodyW Φ) (begin_ 3 ds) m := by
  rintro _ m Φ ⟨a, size, held, full, w, N, M, rfl, ha, o1, o2, h0, hN, hM, hs, hf, k⟩
  have o3 := o1.add o2
  have b3 : Bg (held + w) := o3.bg h0 hN (by
    have a2 := log2_mul 2 M
    have a3 : Nat.log2 2 = 1 := by decide
    have e : M + M = 2 * M := by omega
    rw [e]; omega)
  have hqs : ∀ q ∈ [held, w], Okb N M q := by
    intro q hq
    rcases List.mem_cons.mp hq with rfl | hq
    · exact o1
    · rcases List.mem_cons.mp hq with rfl | hq
      · exact o2
      · cases hq
  have tot : total [held, w] = held + w := by
    show held + (w + 0) = _
    rw [Rat.add_zero]
  refine ⟨bufF size held full, am held, ha, bf_held, [], [am held, am w], rfl, rfl, by show 2 ≤ 16777216; decide, [held, w], N, M, rfl, hqs, by show 2 ≤ 1000000; decide, h0, hN, hM, ?_⟩
  rw [tot]
  refine ⟨bufF size held full, am size, ha, bf_size, held + w, size, rfl, b3, hs, qif (fun h => ?_) (fun h => ?_)⟩
  · have h := cmp_np.mp (dec_t h)
    have e1 : mn (held + w) size = held + w := if_neg (by grind)
    have e2 : L4.rest (held + w) size = 0 := by unfold L4.rest; split <;> grind
    rw [e1, e2] at k
    exact ⟨_, ha, rfl, a, size, held, full, held + w, rfl, ha, hf, b3, fun m' hb kp => wk_at (k m' hb kp)⟩
  · have h := mt cmp_np.mpr (dec_f h)
    have h' : size < held + w := by grind
    have e1 : mn (held + w) size = size := if_pos h'
    have e2 : L4.rest (held + w) size = held + w - size := if_pos (by grind)
    rw [e1, e2] at k
    exact ⟨_, ha, rfl, bufF size held full, am size, ha, bf_size, a, size, held, full, size, rfl, ha, hf, hs, fun m' hb kp => ⟨_, am size, hb, bf_size, held + w, size, rfl, by grind, b3, hs, wk_at (k m' hb kp)⟩⟩
theorem len_Buffer_give (C : Addr) : ∀ ds m Φ, sp_Buffer_give C ds m Φ → ds.length = 2 := by rintro _ _ _ ⟨_, _, _, _, _, rfl, _⟩; rfl
theorem rd_Buffer_give (C : Addr) : ∀ ds m Φ, sp_Buffer_give C ds m Φ → qb_Buffer_give C (bodyW Φ) (begin_ 2 ds) m := by
  rintro _ m Φ ⟨a, size, held, full, w, rfl, ha, h1, h2, hw, k⟩
  refine ⟨_, _, ha, bf_held, w, held, rfl, h2, h1, qif (fun h => ?_) (fun h => ?_)⟩
  · have h := cmp_pos.mp (dec_t h)
    grind
  · refine ⟨_, _, ha, bf_held, held, w, rfl, hw, h1, h2, _, ha, by show 3 < 1000; decide, wk_at (k _ ?_ ?_)⟩
    · show mset _ a _ a = _
      rw [mset_same, bf_sh]
    · intro b o hb e
      rw [mset_ne hb]; exact e
/-! ### wires -/
def wirF (way : Int) (d : Addr) : List (Str × D) := [("_way", .int way), ("_sent", .ref d)]
structure WireAt (C : Addr) (m : Mem) (a d : Addr) (way : Int) (t : Tab) : Prop where
  ob : m a = some (.ins C (wirF way d))
  dc : m d = some (.dK (tabD t))
theorem WireAt.ne {C : Addr} {m : Mem} {h d : Addr} {way : Int} {t : Tab} (p : WireAt C m h d way t) : h ≠ d := ne_obj p.ob p.dc (fun z => by cases z)
theorem WireAt.keep {C : Addr} {m m' : Mem} {h d : Addr} {way : Int} {t : Tab} (p : WireAt C m h d way t) (k : Grows m m') : WireAt C m' h d way t := ⟨k.at p.ob, k.at p.dc⟩
def atT (t : Tab) (k : Int) : Rat := (getT t k).getD 0
def sp_Wire_init (C : Addr) : LSp := fun ds m Φ => ∃ (a : Addr) (way : Int), ds = [.ref a, .int way] ∧ m a = some (.ins C []) ∧ ∀ d m', m d = none → WireAt C m' a d way [] → Keeps m m' (fun b => b = a) → Φ .non m'
def sp_Wire_put (C : Addr) : LSp := fun ds m Φ => ∃ (a d : Addr) (way tick : Int) (t : Tab) (q : Rat), ds = [.ref a, .int tick, am q] ∧ WireAt C m a d way t ∧ t.length ≤ 1000 ∧ ∀ m', WireAt C m' a d way (putT t tick q) → Keeps m m' (fun b => b = d) → Φ .non m'
def sp_Wire_arriving (C : Addr) : LSp := fun ds m Φ => ∃ (a d : Addr) (way tick : Int) (t : Tab), ds = [.ref a, .int tick] ∧ WireAt C m a d way t ∧ Φ (am (atT t (tick - way))) m
def under (t : Tab) (way tick : Int) : Rat := total ((List.range way.toNat).map fun i : Nat => atT t (tick - way + 1 + i))
def sp_Wire_under_way (C : Addr) : LSp := fun ds m Φ => ∃ (a d : Addr) (way tick : Int) (t : Tab) (N M : Nat), ds = [.ref a, .int tick] ∧ WireAt C m a d way t ∧ (∀ p ∈ t, Okb N M p.2) ∧ 0 < N ∧ N.log2 < 1900 ∧ M.log2 < 1900 ∧ 0 ≤ way ∧ way < 1000 ∧ -1000000 < tick ∧ tick < 1000000 ∧ Φ (am (under t way tick)) m
/-- Wire.__init__: 0 self, 1 way -/
def qb_Wire_init (C : Addr) : QS :=
  (sSeq (sSetF C "_way" (qVar 0) (qVar 1))
    (sSetF C "_sent" (qVar 0) qDNewK))
/-- Wire.put: 0 self, 1 tick, 2 water -/
def qb_Wire_put (C : Addr) : QS :=
  (sSub (qFld C "_sent" (qVar 0)) (qVar 1) (qVar 2))
/-- Wire.arriving: 0 self, 1 tick -/
def qb_Wire_arriving (C : Addr) : QS :=
  (sRet (qDGet2 (qFld C "_sent" (qVar 0)) (qOp (qI0 fun i j => .int (i - j)) (qVar 1) (qFld C "_way" (qVar 0))) (qC (.tup [(.int 0), (.int 1)]))))
/-- Wire.under_way: 0 self, 1 tick, 2 waters, 3 sent -/
def qb_Wire_under_way (C : Addr) : QS :=
  (sSeq (sAsg (.nm 2) (qFreeze (qLc (iRange2 (qCons (qOp qAdd (qOp (qI0 fun i j => .int (i - j)) (qVar 1) (qFld C "_way" (qVar 0))) (qC (.int 1))) (qCons (qOp qAdd (qVar 1) (qC (.int 1))) qNil))) (.nm 3) qYes (qDGet2 (qFld C "_sent" (qVar 0)) (qVar 3) (qC (.tup [(.int 0), (.int 1)]))) [3])))
    (sRet (qCallS1 sp_plus_s (qVar 2))))
theorem wf_way {w : Int} {d : Addr} : (wirF w d).lookup ("_way" : Str) = some (D.int w) := by rfl
theorem wf_sent {w : Int} {d : Addr} : (wirF w d).lookup ("_sent" : Str) = some (D.ref d) := by rfl
theorem len_Wire_init (C : Addr) : ∀ ds m Φ, sp_Wire_init C ds m Φ → ds.length = 2 := by rintro _ _ _ ⟨_, _, rfl, _⟩; rfl
theorem rd_Wire_init (C : Addr) : ∀ ds m Φ, sp_Wire_init C ds m Φ → qb_Wire_init C (bodyW Φ) (begin_ 2 ds) m := by
  rintro _ m Φ ⟨h, way, rfl, hh, k⟩
  refine ⟨_, hh, by decide, fun d hd => ⟨putFD ("_way" : Str) (D.int way) [], ?_, by show 1 < 1000; decide, ?_⟩⟩
  · obtain ⟨hdh, hd⟩ := mset_none hd
    rw [mset_ne (Ne.symm hdh), mset_same]
  · obtain ⟨hdh, hd⟩ := mset_none hd
    refine wk_at (k d _ hd ⟨mset_same, ?_⟩ ?_)
    · rw [mset_ne hdh, mset_same]; rfl
    · intro a o ha e
      rw [mset_ne ha, mset_ne (ne_none e hd), mset_ne ha]; exact e
theorem len_Wire_put (C : Addr) : ∀ ds m Φ, sp_Wire_put C ds m Φ → ds.length = 3 := by rintro _ _ _ ⟨_, _, _, _, _, _, rfl, _⟩; rfl
theorem rd_Wire_put (C : Addr) : ∀ ds m Φ, sp_Wire_put C ds m Φ → qb_Wire_put C (bodyW Φ) (begin_ 3 ds) m := by
  rintro _ m Φ ⟨a, d, way, tick, t, q, rfl, hp, hl, k⟩
  refine ⟨_, _, hp.ob, wf_sent, Or.inr ⟨_, Sum.inl tick, hp.dc, rfl, by show _ < 16777216; rw [tabD_len]; omega, ?_⟩⟩
  rw [tab_put]
  refine wk_at (k _ ⟨by rw [mset_ne hp.ne]; exact hp.ob, mset_same⟩ ?_)
  intro b o hb e
  rw [mset_ne hb]; exact e
theorem getD_am (o : Option Rat) : (o.map am).getD (D.tup [.int 0, .int 1]) = am (o.getD 0) := by cases o <;> rfl
theorem len_Wire_arriving (C : Addr) : ∀ ds m Φ, sp_Wire_arriving C ds m Φ → ds.length = 2 := by rintro _ _ _ ⟨_, _, _, _, _, rfl, _⟩; rfl
theorem rd_Wire_arriving (C : Addr) : ∀ ds m Φ, sp_Wire_arriving C ds m Φ → qb_Wire_arriving C (bodyW Φ) (begin_ 2 ds) m := by
  rintro _ m Φ ⟨a, d, way, tick, t, rfl, hp, k⟩
  refine ⟨_, _, hp.ob, wf_sent, ⟨_, .inl hp.dc⟩, _, _, hp.ob, wf_way, _, ⟨_, _, .inl hp.dc, rfl, rfl⟩, wk_at ?_⟩
  rw [tab_get, getD_am]; exact k
theorem atT_ok {N M : Nat} {t : Tab} (h : ∀ p ∈ t, Okb N M p.2) (k : Int) : Okb N M (atT t k) := by
  unfold atT getT
  cases e : t.find? fun p => decide (p.1 = k) with
  | none => exact Okb.zero N M
  | some p => exact h p (List.mem_of_find?_eq_some e)
theorem len_Wire_under_way (C : Addr) : ∀ ds m Φ, sp_Wire_under_way C ds m Φ → ds.length = 2 := by rintro _ _ _ ⟨_, _, _, _, _, _, _, rfl, _⟩; rfl
theorem rd_Wire_under_way (C : Addr) : ∀ ds m Φ, sp_Wire_under_way C ds m Φ → qb_Wire_under_way C (bodyW Φ) (begin_ 4 ds) m := by
  rintro _ m Φ ⟨a, d, way, tick, t, N, M, rfl, hp, ok, h0, hN, hM, w0, w1, t0, t1, k⟩
  refine ⟨_, _, hp.ob, wf_way, ⟨by omega, by omega, by omega, by omega⟩, ?_⟩
  refine lc_by (fun i acc => acc = ((List.range i).map fun i : Nat => atT t (tick - way + 1 + i)).map am) rfl (fun _ _ _ => trivial) ?_ ?_
  · rintro i dd acc p hpn hd hl' rfl
    obtain ⟨hi, rfl⟩ := get_ints hd
    refine qif_t rfl ⟨_, _, by rw [mset_ne (ne_none hp.ob hpn)]; exact hp.ob, wf_sent, ⟨_, .inl (by rw [mset_ne (ne_none hp.dc hpn)]; exact hp.dc)⟩, _, ⟨_, _, .inl (by rw [mset_ne (ne_none hp.dc hpn)]; exact hp.dc), rfl, rfl⟩, ?_⟩
    rw [tab_get, getD_am]
    refine lc_ok hl' (by show i < 16777216; omega) ?_
    rw [List.range_succ, List.map_append, List.map_append]; rfl
  · rintro acc p hpn hl' rfl
    refine ⟨_, mset_same, ?_⟩
    rw [mdel_mset hpn]
    have e : (tick + 1 - (tick - way + 1)).toNat = way.toNat := by omega
    rw [ints_len, e] at *
    refine ⟨[], _, rfl, rfl, ?_, _, N, M, rfl, ?_, ?_, h0, hN, hM, wk_at k⟩
    · rw [List.length_map, List.length_map, List.length_range]; show _ ≤ 16777216; omega
    · rintro q hq
      obtain ⟨i, _, rfl⟩ := List.mem_map.mp hq
      exact atT_ok ok _
    · rw [List.length_map, List.length_range]; omega
end PA
namespace K33
open PySem PySem.Spec PyProof.Rows L2 L3
structure Adr where
  Wire : Addr
  Hop : Addr
  Buffer : Addr
  ZERO : Addr
  law_bag : Addr
  law_draw : Addr
  law_of : Addr
  Wire_init : Addr
  Hop_init : Addr
  Buffer_init : Addr
  law_amount : Addr
  law_sum : Addr
  law_less : Addr
  law_max : Addr
  law_min : Addr
  Hop_remember : Addr
  Wire_put : Addr
  p_lowest : Addr
  minus : Addr
  compare : Addr
  Buffer_give : Addr
  law_rest : Addr
  law_same : Addr
  law_some : Addr
  law_scaled : Addr
  law_part : Addr
  Buffer_fullest : Addr
  law_all : Addr
  Buffer_held : Addr
  plus : Addr
  Wire_under_way : Addr
  law_parts_agree : Addr
  Wire_arriving : Addr
  largest : Addr
  Buffer_set_to : Addr
  Buffer_take_in : Addr
  Hop_sent_after : Addr
  Hop_room : Addr
  law : Addr
  pr_Buffer_held : Addr
  pr_Buffer_fullest : Addr
end K33
namespace K33
open PySem PySem.Spec PyProof.Rows L2 L3
abbrev sp_law_bag (A : Adr) : LSp := C13.sp_law_bag
abbrev sp_law_draw (A : Adr) : LSp := C13.sp_law_draw
abbrev sp_law_of (A : Adr) : LSp := C13.sp_law_of
abbrev sp_Wire_init (A : Adr) : LSp := PA.sp_Wire_init A.Wire
abbrev sp_Hop_init (A : Adr) : LSp := PA.sp_Hop_init A.Hop
abbrev sp_Buffer_init (A : Adr) : LSp := PA.sp_Buffer_init A.Buffer
abbrev sp_law_amount (A : Adr) : LSp := C13.sp_law_amount
abbrev sp_law_sum (A : Adr) : LSp := C13.sp_law_sum
abbrev sp_law_less (A : Adr) : LSp := C13.sp_law_less
abbrev sp_law_max (A : Adr) : LSp := C13.sp_law_max
abbrev sp_law_min (A : Adr) : LSp := C13.sp_law_min
abbrev sp_Hop_remember (A : Adr) : LSp := PA.sp_Hop_remember A.Hop
abbrev sp_Wire_put (A : Adr) : LSp := PA.sp_Wire_put A.Wire
abbrev sp_p_lowest (A : Adr) : LSp := PA.sp_p_lowest
abbrev sp_minus (A : Adr) : LSp := PA.sp_minus
abbrev sp_compare (A : Adr) : LSp := PA.sp_compare
abbrev sp_Buffer_give (A : Adr) : LSp := PA.sp_Buffer_give A.Buffer
abbrev sp_law_rest (A : Adr) : LSp := C13.sp_law_rest
abbrev sp_law_same (n : Nat) (A : Adr) : LSp := C13.sp_law_same n
abbrev sp_law_some (A : Adr) : LSp := C13.sp_law_some
abbrev sp_law_scaled (A : Adr) : LSp := C13.sp_law_scaled
abbrev sp_law_part (A : Adr) : LSp := C13.sp_law_part
abbrev sp_Buffer_fullest (A : Adr) : LSp := PA.sp_Buffer_fullest A.Buffer
abbrev sp_law_all (A : Adr) : LSp := C13.sp_law_all
abbrev sp_Buffer_held (A : Adr) : LSp := PA.sp_Buffer_held A.Buffer
abbrev sp_plus (A : Adr) : LSp := PA.sp_plus
abbrev sp_Wire_under_way (A : Adr) : LSp := PA.sp_Wire_under_way A.Wire
abbrev sp_Wire_arriving (A : Adr) : LSp := PA.sp_Wire_arriving A.Wire
abbrev sp_largest (A : Adr) : LSp := PA.sp_largest
abbrev sp_Buffer_set_to (A : Adr) : LSp := PA.sp_Buffer_set_to A.Buffer
abbrev sp_Buffer_take_in (A : Adr) : LSp := PA.sp_Buffer_take_in A.Buffer
abbrev sp_Hop_sent_after (A : Adr) : LSp := PA.sp_Hop_sent_after A.Hop
abbrev sp_Hop_room (A : Adr) : LSp := PA.sp_Hop_room A.Hop
end K33
namespace K33
open PySem PySem.Spec PyProof.Rows L2 L3 L4 PA
def sp_law_parts_agree (A : Adr) : LSp := fun ds m Φ => ∃ (a d b : Addr) (way now : Int) (t : Tab) (size held full top so out : Rat) (N M : Nat), ds = [.tup [.ref a, .ref b, am top], .int now, am so, am out] ∧ WireAt A.Wire m a d way t ∧ BufAt A.Buffer m b size held full ∧
  (∀ p ∈ t, Okb N M p.2) ∧ 0 < N ∧ N.log2 < 1800 ∧ M.log2 < 1800 ∧ 0 ≤ way ∧ way < 1000 ∧ -1000000 < now ∧ now < 1000000 ∧ Okb N M held ∧ Okb N M top ∧ Okb N M out ∧ held ≤ top ∧ under t way now + held + out = so ∧ Φ (.bl true) m
end K33
namespace K33
open PySem PySem.Spec PyProof.Rows L2 L3
/-- _law_bag: 0 _law_script, 1 _law_seed, 2 _law_cell -/
def qb_law_bag (A : Adr) : QS :=
  (sSeq (sAsg (.nm 1) (qC (.int 13965)))
    (sSeq (sFor (iLst (qSlL (qVar 0) qNoPart (qPart (qC (.int 63))))) (.nm 2) (sAsg (.nm 1) (qOp (qIC (fun _ j => 0 < j) fun i j => .int (i % j)) (qCB bInt (qCons (qOp qAdd (qOp qAdd (qOp (qIC CM fun i j => .int (i * j)) (qVar 1) (qC (.int 69621))) (qOp (qIC (fun _ j => 0 < j) fun i j => .int (i % j)) (qCB bInt (qCons (qVar 2) qNil)) (qC (.int 2147483629)))) (qC (.int 17))) qNil)) (qC (.int 2147483587)))))
    (sRet (qLstM (qCons (qFreeze (qCB bList (qCons (qSlL (qVar 0) qNoPart (qPart (qC (.int 63)))) qNil))) (qCons (qC (.int 0)) (qCons (qC (.int 0)) (qCons (qVar 1) (qCons (qC (.int 0)) qNil)))))))))
/-- _law_draw: 0 _law_bag_here, 1 _law_many, 2 _law_cell, 3 _law_digit, 4 _law_seed -/
def qb_law_draw (A : Adr) : QS :=
  (sOpen (sSeq (sSub (qVar 0) (qC (.int 4)) (qOp qAdd (qOp vIx (qVar 0) (qC (.int 4))) (qC (.int 1))))
    (sSeq (sIf (qAnd (qB (qOp vEq (qOp vIx (qVar 0) (qC (.int 2))) (qC (.int 0)))) (qB (qOp (qI0 fun i j => .bl (decide (i < j))) (qOp vIx (qVar 0) (qC (.int 1))) (qCB bLen (qCons (qOp vIx (qVar 0) (qC (.int 0))) qNil))))) (sSeq (sAsg (.nm 2) (qOp vIx (qOp vIx (qVar 0) (qC (.int 0))) (qOp vIx (qVar 0) (qC (.int 1)))))
    (sSeq (sSub (qVar 0) (qC (.int 1)) (qOp qAdd (qOp vIx (qVar 0) (qC (.int 1))) (qC (.int 1))))
    (sIf (qB (qOp (qI0 fun i j => .bl (decide (j ≤ i))) (qVar 2) (qOp qPow (qC (.int 10)) (qC (.int 18))))) (sSub (qVar 0) (qC (.int 2)) (qVar 2)) (sSub (qVar 0) (qC (.int 3)) (qOp (qIC (fun _ j => 0 < j) fun i j => .int (i % j)) (qCB bInt (qCons (qOp qAdd (qOp qAdd (qOp (qIC CM fun i j => .int (i * j)) (qOp vIx (qVar 0) (qC (.int 3))) (qC (.int 39373))) (qOp (qIC CM fun i j => .int (i * j)) (qOp (qIC (fun _ j => 0 < j) fun i j => .int (i % j)) (qCB bInt (qCons (qVar 2) qNil)) (qC (.int 2147483549))) (qC (.int 24571)))) (qC (.int 59))) qNil)) (qC (.int 2147483579))))))) sNext)
    (sSeq (sIf (qB (qOp (qI0 fun i j => .bl (decide (j < i))) (qOp vIx (qVar 0) (qC (.int 2))) (qC (.int 0)))) (sSeq (sAsg (.nm 3) (qOp (qIC (fun _ j => 0 < j) fun i j => .int (i % j)) (qCB bInt (qCons (qOp vIx (qVar 0) (qC (.int 2))) qNil)) (qVar 1)))
    (sSeq (sSub (qVar 0) (qC (.int 2)) (qOp (qIC CDivW fun i j => .int (i / j)) (qOp vIx (qVar 0) (qC (.int 2))) (qVar 1)))
    (sRet (qVar 3)))) sNext)
    (sSeq (sAsg (.nm 4) (qOp vIx (qVar 0) (qC (.int 3))))
    (sSeq (sSub (qVar 0) (qC (.int 3)) (qOp (qIC (fun _ j => 0 < j) fun i j => .int (i % j)) (qCB bInt (qCons (qOp qAdd (qOp qAdd (qOp qAdd (qOp (qIC CM fun i j => .int (i * j)) (qOp (qIC CM fun i j => .int (i * j)) (qVar 4) (qVar 4)) (qC (.int 29))) (qOp (qIC CM fun i j => .int (i * j)) (qVar 4) (qC (.int 48673)))) (qOp (qIC CM fun i j => .int (i * j)) (qOp vIx (qVar 0) (qC (.int 4))) (qC (.int 1500007)))) (qC (.int 70001))) qNil)) (qC (.int 2147483579))))
    (sRet (qOp (qIC (fun _ j => 0 < j) fun i j => .int (i % j)) (qCB bInt (qCons (qOp qAdd (qOp (qIC CDivW fun i j => .int (i / j)) (qOp vIx (qVar 0) (qC (.int 3))) (qC (.int 101))) (qOp (qIC CM fun i j => .int (i * j)) (qOp (qIC (fun _ j => 0 < j) fun i j => .int (i % j)) (qCB bInt (qCons (qOp vIx (qVar 0) (qC (.int 3))) qNil)) (qC (.int 6007))) (qC (.int 83)))) qNil)) (qVar 1)))))))))
/-- _law_of: 0 _law_bag_here, 1 _law_things -/
def qb_law_of (A : Adr) : QS :=
  (sRet (qOp vIx (qVar 1) (qCall (sp_law_draw A) (qCons (qVar 0) (qCons (qCB bLen (qCons (qVar 1) qNil)) qNil)))))
/-- Wire.__init__: 0 self, 1 way -/
def qb_Wire_init (A : Adr) : QS :=
  (sSeq (sSetF A.Wire "_way" (qVar 0) (qVar 1))
    (sSetF A.Wire "_sent" (qVar 0) qDNewK))
/-- Hop.__init__: 0 self, 1 way, 2 age -/
def qb_Hop_init (A : Adr) : QS :=
  (sSeq (sSetF A.Hop "_way" (qVar 0) (qVar 1))
    (sSeq (sSetF A.Hop "_age" (qVar 0) (qVar 2))
    (sSetF A.Hop "_sent" (qVar 0) qDNewK)))
/-- Buffer.__init__: 0 self, 1 size -/
def qb_Buffer_init (A : Adr) : QS :=
  (sSeq (sSetF A.Buffer "size" (qVar 0) (qVar 1))
    (sSeq (sSetF A.Buffer "_held" (qVar 0) (qC (.tup [(.int 0), (.int 1)])))
    (sSetF A.Buffer "_fullest" (qVar 0) (qC (.tup [(.int 0), (.int 1)])))))
/-- _law_amount: 0 _law_top, 1 _law_bottom, 2 _law_one, 3 _law_two -/
def qb_law_amount (A : Adr) : QS :=
  (sSeq (sPar 2 3 (qCons (qVar 0) (qCons (qVar 1) qNil)))
    (sSeq (sWhile (qB (qOp (qI0 fun i j => .bl (decide (j < i))) (qVar 3) (qC (.int 0)))) (sPar 2 3 (qCons (qVar 3) (qCons (qOp (qIC (fun _ j => 0 < j) fun i j => .int (i % j)) (qCB bInt (qCons (qVar 2) qNil)) (qVar 3)) qNil))))
    (sRet (qTup (qCons (qOp (qIC CDivW fun i j => .int (i / j)) (qVar 0) (qVar 2)) (qCons (qOp (qIC CDivW fun i j => .int (i / j)) (qVar 1) (qVar 2)) qNil))))))
/-- _law_sum: 0 _law_one, 1 _law_two -/
def qb_law_sum (A : Adr) : QS :=
  (sRet (qCall (sp_law_amount A) (qCons (qOp qAdd (qOp (qIC CM fun i j => .int (i * j)) (qOp vIx (qVar 0) (qC (.int 0))) (qOp vIx (qVar 1) (qC (.int 1)))) (qOp (qIC CM fun i j => .int (i * j)) (qOp vIx (qVar 1) (qC (.int 0))) (qOp vIx (qVar 0) (qC (.int 1))))) (qCons (qOp (qIC CM fun i j => .int (i * j)) (qOp vIx (qVar 0) (qC (.int 1))) (qOp vIx (qVar 1) (qC (.int 1)))) qNil))))
/-- _law_less: 0 _law_one, 1 _law_two -/
def qb_law_less (A : Adr) : QS :=
  (sRet (qOp (qI0 fun i j => .bl (decide (i < j))) (qOp (qIC CM fun i j => .int (i * j)) (qOp vIx (qVar 0) (qC (.int 0))) (qOp vIx (qVar 1) (qC (.int 1)))) (qOp (qIC CM fun i j => .int (i * j)) (qOp vIx (qVar 1) (qC (.int 0))) (qOp vIx (qVar 0) (qC (.int 1))))))
/-- _law_max: 0 _law_one, 1 _law_two -/
def qb_law_max (A : Adr) : QS :=
  (sRet (qIfE (qB (qCall (sp_law_less A) (qCons (qVar 0) (qCons (qVar 1) qNil)))) (qVar 1) (qVar 0)))
/-- _law_min: 0 _law_one, 1 _law_two -/
def qb_law_min (A : Adr) : QS :=
  (sRet (qIfE (qB (qCall (sp_law_less A) (qCons (qVar 1) (qCons (qVar 0) qNil)))) (qVar 1) (qVar 0)))
/-- Hop.remember: 0 self, 1 tick, 2 water, 3 oldest, 4 kept, 5 sent, 6 put -/
def qb_Hop_remember (A : Adr) : QS :=
  (sSeq (sAsg (.nm 3) (qOp (qI0 fun i j => .int (i - j)) (qOp (qI0 fun i j => .int (i - j)) (qVar 1) (qFld A.Hop "_age" (qVar 0))) (qFld A.Hop "_way" (qVar 0))))
    (sSeq (sLock (sAsg (.nm 4) (qDc (iDict fItem (qFld A.Hop "_sent" (qVar 0))) (.tp [(.nm 5), (.nm 6)]) (qB (qOp (qI0 fun i j => .bl (decide (j ≤ i))) (qVar 5) (qVar 3))) (qVar 5) (qVar 6) [5, 6])))
    (sSeq (sSub (qVar 4) (qVar 1) (qVar 2))
    (sSetF A.Hop "_sent" (qVar 0) (qVar 4)))))
/-- Wire.put: 0 self, 1 tick, 2 water -/
def qb_Wire_put (A : Adr) : QS :=
  (sSub (qFld A.Wire "_sent" (qVar 0)) (qVar 1) (qVar 2))
/-- _lowest: 0 top, 1 bottom, 2 common -/
def qb_p_lowest (A : Adr) : QS :=
  (sSeq (sAsg (.nm 2) (qCB bGcd (qCons (qVar 0) (qCons (qVar 1) qNil))))
    (sRet (qTup (qCons (qOp (qIC CDivW fun i j => .int (i / j)) (qVar 0) (qVar 2)) (qCons (qOp (qIC CDivW fun i j => .int (i / j)) (qVar 1) (qVar 2)) qNil)))))
/-- minus: 0 first, 1 second, 2 top -/
def qb_minus (A : Adr) : QS :=
  (sSeq (sAsg (.nm 2) (qOp (qI0 fun i j => .int (i - j)) (qOp (qIC CM fun i j => .int (i * j)) (qOp vIx (qVar 0) (qC (.int 0))) (qOp vIx (qVar 1) (qC (.int 1)))) (qOp (qIC CM fun i j => .int (i * j)) (qOp vIx (qVar 1) (qC (.int 0))) (qOp vIx (qVar 0) (qC (.int 1))))))
    (sSeq (sIf (qB (qOp (qI0 fun i j => .bl (decide (i < j))) (qVar 2) (qC (.int 0)))) sNever sNext)
    (sRet (qCall (sp_p_lowest A) (qCons (qVar 2) (qCons (qOp (qIC CM fun i j => .int (i * j)) (qOp vIx (qVar 0) (qC (.int 1))) (qOp vIx (qVar 1) (qC (.int 1)))) qNil))))))
/-- compare: 0 first, 1 second, 2 left, 3 right -/
def qb_compare (A : Adr) : QS :=
  (sSeq (sAsg (.nm 2) (qOp (qIC CM fun i j => .int (i * j)) (qOp vIx (qVar 0) (qC (.int 0))) (qOp vIx (qVar 1) (qC (.int 1)))))
    (sSeq (sAsg (.nm 3) (qOp (qIC CM fun i j => .int (i * j)) (qOp vIx (qVar 1) (qC (.int 0))) (qOp vIx (qVar 0) (qC (.int 1)))))
    (sSeq (sIf (qB (qOp vEq (qVar 2) (qVar 3))) (sRet (qC (.int 0))) sNext)
    (sRet (qIfE (qB (qOp (qI0 fun i j => .bl (decide (i < j))) (qVar 2) (qVar 3))) (qNeg (qC (.int 1))) (qC (.int 1)))))))
/-- Buffer.give: 0 self, 1 water -/
def qb_Buffer_give (A : Adr) : QS :=
  (sSeq (sIf (qB (qOp (qI0 fun i j => .bl (decide (j < i))) (qCall (sp_compare A) (qCons (qVar 1) (qCons (qFld A.Buffer "_held" (qVar 0)) qNil))) (qC (.int 0)))) sNever sNext)
    (sSetF A.Buffer "_held" (qVar 0) (qCall (sp_minus A) (qCons (qFld A.Buffer "_held" (qVar 0)) (qCons (qVar 1) qNil)))))
/-- _law_rest: 0 _law_one, 1 _law_two -/
def qb_law_rest (A : Adr) : QS :=
  (sRet (qCall (sp_law_amount A) (qCons (qCB bMax2 (qCons (qOp (qI0 fun i j => .int (i - j)) (qOp (qIC CM fun i j => .int (i * j)) (qOp vIx (qVar 0) (qC (.int 0))) (qOp vIx (qVar 1) (qC (.int 1)))) (qOp (qIC CM fun i j => .int (i * j)) (qOp vIx (qVar 1) (qC (.int 0))) (qOp vIx (qVar 0) (qC (.int 1))))) (qCons (qC (.int 0)) qNil))) (qCons (qOp (qIC CM fun i j => .int (i * j)) (qOp vIx (qVar 0) (qC (.int 1))) (qOp vIx (qVar 1) (qC (.int 1)))) qNil))))
/-- _law_same: 0 _law_told, 1 _law_due, 2 _law_one, 3 _law_two -/
def qb_law_same (n : Nat) (A : Adr) : QS :=
  (sSeq (sIf (qB (qIsiT ["tuple", "list"] (qVar 1))) (sSeq (sIf (qOr (qB (qOp vNe (qIsi "tuple" (qVar 0)) (qIsi "tuple" (qVar 1)))) (qB (qOp vNe (qIsi "list" (qVar 0)) (qIsi "list" (qVar 1))))) (sRet (qC (.bl false))) sNext)
    (sRet (qAndV (qOp vEq (qCB bLen (qCons (qVar 0) qNil)) (qCB bLen (qCons (qVar 1) qNil))) (qCB bAll (qCons (qFreeze (qLc (iZipD (qCons (qVar 0) (qCons (qVar 1) qNil))) (.tp [(.nm 2), (.nm 3)]) qYes (qCall (sp_law_same n A) (qCons (qVar 2) (qCons (qVar 3) qNil))) [2, 3])) qNil))))) sNext)
    (sSeq (sIf (qOr (qB (qOp qIsN (qVar 1) (qC .non))) (qB (qOp qIsN (qVar 0) (qC .non)))) (sRet (qAndV (qOp qIsN (qVar 1) (qC .non)) (qOp qIsN (qVar 0) (qC .non)))) sNext)
    (sSeq (sIf (qOr (qB (qOp vNe (qIsi "bool" (qVar 0)) (qIsi "bool" (qVar 1)))) (qB (qOp vNe (qIsi "int" (qVar 0)) (qIsi "int" (qVar 1))))) (sRet (qC (.bl false))) sNext)
    (sRet (qAndV (qOp vEq (qIsi "str" (qVar 0)) (qIsi "str" (qVar 1))) (qOp vEq (qVar 0) (qVar 1)))))))
/-- _law_some: 0 _law_bag_here, 1 _law_most, 2 _law_bottom -/
def qb_law_some (A : Adr) : QS :=
  (sSeq (sAsg (.nm 2) (qCall (sp_law_of A) (qCons (qVar 0) (qCons (qLstF (qCons (qC (.int 1)) (qCons (qC (.int 1)) (qCons (qC (.int 2)) (qCons (qC (.int 1)) (qCons (qC (.int 3)) (qCons (qC (.int 1)) (qCons (qC (.int 2)) (qCons (qC (.int 5)) qNil))))))))) qNil))))
    (sRet (qCall (sp_law_amount A) (qCons (qCall (sp_law_draw A) (qCons (qVar 0) (qCons (qOp qAdd (qOp (qIC CM fun i j => .int (i * j)) (qVar 1) (qVar 2)) (qC (.int 1))) qNil))) (qCons (qVar 2) qNil)))))
/-- _law_scaled: 0 _law_one, 1 _law_top, 2 _law_bottom -/
def qb_law_scaled (A : Adr) : QS :=
  (sRet (qCall (sp_law_amount A) (qCons (qOp (qIC CM fun i j => .int (i * j)) (qOp vIx (qVar 0) (qC (.int 0))) (qVar 1)) (qCons (qOp (qIC CM fun i j => .int (i * j)) (qOp vIx (qVar 0) (qC (.int 1))) (qVar 2)) qNil))))
/-- _law_part: 0 _law_bag_here, 1 _law_one, 2 _law_top, 3 _law_bottom -/
def qb_law_part (A : Adr) : QS :=
  (sSeq (sAsg (.tp [(.nm 2), (.nm 3)]) (qCall (sp_law_of A) (qCons (qVar 0) (qCons (qLstF (qCons (qTup (qCons (qC (.int 1)) (qCons (qC (.int 1)) qNil))) (qCons (qTup (qCons (qC (.int 0)) (qCons (qC (.int 1)) qNil))) (qCons (qTup (qCons (qC (.int 1)) (qCons (qC (.int 2)) qNil))) (qCons (qTup (qCons (qC (.int 1)) (qCons (qC (.int 1)) qNil))) (qCons (qTup (qCons (qC (.int 2)) (qCons (qC (.int 3)) qNil))) (qCons (qTup (qCons (qC (.int 1)) (qCons (qC (.int 5)) qNil))) qNil))))))) qNil))))
    (sRet (qCall (sp_law_scaled A) (qCons (qVar 1) (qCons (qVar 2) (qCons (qVar 3) qNil))))))
/-- Buffer.fullest: 0 self -/
def qb_Buffer_fullest (A : Adr) : QS :=
  (sRet (qFld A.Buffer "_fullest" (qVar 0)))
/-- _law_all: 0 _law_row, 1 _law_found, 2 _law_one -/
def qb_law_all (A : Adr) : QS :=
  (sSeq (sAsg (.nm 1) (qTup (qCons (qC (.int 0)) (qCons (qC (.int 1)) qNil))))
    (sSeq (sFor (iLst (qVar 0)) (.nm 2) (sAsg (.nm 1) (qCall (sp_law_sum A) (qCons (qVar 1) (qCons (qVar 2) qNil)))))
    (sRet (qVar 1))))
/-- Buffer.held: 0 self -/
def qb_Buffer_held (A : Adr) : QS :=
  (sRet (qFld A.Buffer "_held" (qVar 0)))
def sp_plus_s (A : Adr) : LSp := fun ds m Φ => ∃ ws rest, ds = ws ++ rest ∧ ws.length = 0 ∧ rest.length ≤ sizeLine ∧ sp_plus A (ws ++ [.tup rest]) m Φ
/-- plus: 0 amounts, 1 top, 2 bottom, 3 more, 4 parts, 5 common -/
def qb_plus (A : Adr) : QS :=
  (sSeq (sAsg (.tp [(.nm 1), (.nm 2)]) (qC (.tup [(.int 0), (.int 1)])))
    (sSeq (sFor (iTup (qVar 0)) (.tp [(.nm 3), (.nm 4)]) (sIf (qB (qOp vEq (qVar 4) (qVar 2))) (sAug 1 qIAdd (qVar 3)) (sSeq (sAsg (.nm 5) (qCB bGcd (qCons (qVar 2) (qCons (qVar 4) qNil))))
    (sSeq (sAsg (.nm 1) (qOp qAdd (qOp (qIC CM fun i j => .int (i * j)) (qVar 1) (qOp (qIC CDivW fun i j => .int (i / j)) (qVar 4) (qVar 5))) (qOp (qIC CM fun i j => .int (i * j)) (qVar 3) (qOp (qIC CDivW fun i j => .int (i / j)) (qVar 2) (qVar 5)))))
    (sAsg (.nm 2) (qOp (qIC CM fun i j => .int (i * j)) (qOp (qIC CDivW fun i j => .int (i / j)) (qVar 2) (qVar 5)) (qVar 4)))))))
    (sRet (qCall (sp_p_lowest A) (qCons (qVar 1) (qCons (qVar 2) qNil))))))
/-- Wire.under_way: 0 self, 1 tick, 2 waters, 3 sent -/
def qb_Wire_under_way (A : Adr) : QS :=
  (sSeq (sAsg (.nm 2) (qFreeze (qLc (iRange2 (qCons (qOp qAdd (qOp (qI0 fun i j => .int (i - j)) (qVar 1) (qFld A.Wire "_way" (qVar 0))) (qC (.int 1))) (qCons (qOp qAdd (qVar 1) (qC (.int 1))) qNil))) (.nm 3) qYes (qDGet2 (qFld A.Wire "_sent" (qVar 0)) (qVar 3) (qC (.tup [(.int 0), (.int 1)]))) [3])))
    (sRet (qCallS1 (sp_plus_s A) (qVar 2))))
/-- _law_parts_agree: 0 _law_told, 1 _law_now_of, 2 _law_sent_of, 3 _law_out, 4 _law_wire, 5 _law_store, 6 _law_top -/
def qb_law_parts_agree (A : Adr) : QS :=
  (sSeq (sAsg (.tp [(.nm 4), (.nm 5), (.nm 6)]) (qVar 0))
    (sSeq (sIf (qB (qCall (sp_law_less A) (qCons (qVar 6) (qCons (qProp A.Buffer (sp_Buffer_held A) (qVar 5)) qNil)))) (sRet (qC (.bl false))) sNext)
    (sRet (qCall (sp_law_same 4 A) (qCons (qCall (sp_law_sum A) (qCons (qCall (sp_law_sum A) (qCons (qMeth A.Wire "under_way" (sp_Wire_under_way A) (qVar 4) (qCons (qVar 1) qNil)) (qCons (qProp A.Buffer (sp_Buffer_held A) (qVar 5)) qNil))) (qCons (qVar 3) qNil))) (qCons (qVar 2) qNil))))))
/-- Wire.arriving: 0 self, 1 tick -/
def qb_Wire_arriving (A : Adr) : QS :=
  (sRet (qDGet2 (qFld A.Wire "_sent" (qVar 0)) (qOp (qI0 fun i j => .int (i - j)) (qVar 1) (qFld A.Wire "_way" (qVar 0))) (qC (.tup [(.int 0), (.int 1)]))))
def sp_largest_s (A : Adr) : LSp := fun ds m Φ => ∃ ws rest, ds = ws ++ rest ∧ ws.length = 1 ∧ rest.length ≤ sizeLine ∧ sp_largest A (ws ++ [.tup rest]) m Φ
/-- largest: 0 first, 1 others, 2 found, 3 other -/
def qb_largest (A : Adr) : QS :=
  (sSeq (sAsg (.nm 2) (qVar 0))
    (sSeq (sFor (iTup (qVar 1)) (.nm 3) (sIf (qB (qOp (qI0 fun i j => .bl (decide (j < i))) (qCall (sp_compare A) (qCons (qVar 3) (qCons (qVar 2) qNil))) (qC (.int 0)))) (sAsg (.nm 2) (qVar 3)) sNext))
    (sRet (qVar 2))))
/-- Buffer.set_to: 0 self, 1 water -/
def qb_Buffer_set_to (A : Adr) : QS :=
  (sSeq (sSetF A.Buffer "_held" (qVar 0) (qVar 1))
    (sSetF A.Buffer "_fullest" (qVar 0) (qCall (sp_largest_s A) (qCons (qFld A.Buffer "_fullest" (qVar 0)) (qCons (qVar 1) qNil)))))
/-- Buffer.take_in: 0 self, 1 water, 2 whole -/
def qb_Buffer_take_in (A : Adr) : QS :=
  (sSeq (sAsg (.nm 2) (qCall (sp_plus_s A) (qCons (qFld A.Buffer "_held" (qVar 0)) (qCons (qVar 1) qNil))))
    (sSeq (sIf (qB (qOp (qI0 fun i j => .bl (decide (i ≤ j))) (qCall (sp_compare A) (qCons (qVar 2) (qCons (qFld A.Buffer "size" (qVar 0)) qNil))) (qC (.int 0)))) (sSeq (sExpr (qMeth A.Buffer "set_to" (sp_Buffer_set_to A) (qVar 0) (qCons (qVar 2) qNil)))
    (sRet (qC (.tup [(.int 0), (.int 1)])))) sNext)
    (sSeq (sExpr (qMeth A.Buffer "set_to" (sp_Buffer_set_to A) (qVar 0) (qCons (qFld A.Buffer "size" (qVar 0)) qNil)))
    (sRet (qCall (sp_minus A) (qCons (qVar 2) (qCons (qFld A.Buffer "size" (qVar 0)) qNil)))))))
/-- Hop.sent_after: 0 self, 1 tick, 2 now, 3 waters, 4 sent, 5 put -/
def qb_Hop_sent_after (A : Adr) : QS :=
  (sSeq (sLock (sAsg (.nm 3) (qFreeze (qLc (iDict fItem (qFld A.Hop "_sent" (qVar 0))) (.tp [(.nm 4), (.nm 5)]) (qB (qChain (qI0 fun i j => .bl (decide (i < j))) (qI0 fun i j => .bl (decide (i < j))) (qVar 1) (qVar 4) (qVar 2))) (qVar 5) [4, 5]))))
    (sRet (qCallS1 (sp_plus_s A) (qVar 3))))
/-- Hop.room: 0 self, 1 now, 2 made, 3 told, 4 used -/
def qb_Hop_room (A : Adr) : QS :=
  (sSeq (sAsg (.nm 4) (qMeth A.Hop "sent_after" (sp_Hop_sent_after A) (qVar 0) (qCons (qOp (qI0 fun i j => .int (i - j)) (qVar 2) (qFld A.Hop "_way" (qVar 0))) (qCons (qVar 1) qNil))))
    (sSeq (sIf (qB (qOp (qI0 fun i j => .bl (decide (j ≤ i))) (qCall (sp_compare A) (qCons (qVar 4) (qCons (qVar 3) qNil))) (qC (.int 0)))) (sRet (qC (.tup [(.int 0), (.int 1)]))) sNext)
    (sRet (qCall (sp_minus A) (qCons (qVar 3) (qCons (qVar 4) qNil))))))
/-- law: 0 _law_script, 1 _law_bag_here, 2 _law_way_of, 3 _law_age_of, 4 _law_top, 5 _law_wire, 6 _law_hop, 7 _law_store, 8 _law_notes, 9 _law_sends, 10 _law_here, 11 _law_most, 12 _law_sent_of, 13 _law_out, 14 _law_eager, 15 _law_now_of, 16 _law_comes, 17 _law_made, 18 _law_wish, 19 _law_room, 20 _law_given, 21 _law_part_here, 22 _law_at -/
def qb_law (A : Adr) : QS :=
  (sSeq (sAsg (.nm 1) (qCall (sp_law_bag A) (qCons (qVar 0) qNil)))
    (sSeq (sAsg (.tp [(.nm 2), (.nm 3)]) (qTup (qCons (qCall (sp_law_of A) (qCons (qVar 1) (qCons (qLstF (qCons (qC (.int 1)) (qCons (qC (.int 2)) (qCons (qC (.int 3)) (qCons (qC (.int 5)) qNil))))) qNil))) (qCons (qCall (sp_law_of A) (qCons (qVar 1) (qCons (qLstF (qCons (qC (.int 1)) (qCons (qC (.int 2)) (qCons (qC (.int 3)) (qCons (qC (.int 4)) qNil))))) qNil))) qNil))))
    (sSeq (sAsg (.nm 4) (qCall (sp_law_of A) (qCons (qVar 1) (qCons (qLstF (qCons (qCall (sp_law_some A) (qCons (qVar 1) (qCons (qC (.int 9)) qNil))) (qCons (qCall (sp_law_some A) (qCons (qVar 1) (qCons (qC (.int 20)) qNil))) (qCons (qTup (qCons (qC (.int 10)) (qCons (qC (.int 1)) qNil))) (qCons (qTup (qCons (qC (.int 0)) (qCons (qC (.int 1)) qNil))) (qCons (qTup (qCons (qC (.int 7)) (qCons (qC (.int 12)) qNil))) qNil)))))) qNil))))
    (sSeq (sPar3 5 6 7 (qCons (qMake A.Wire (sp_Wire_init A) (qCons (qVar 2) qNil)) (qCons (qMake A.Hop (sp_Hop_init A) (qCons (qVar 2) (qCons (qVar 3) qNil))) (qCons (qMake A.Buffer (sp_Buffer_init A) (qCons (qVar 4) qNil)) qNil))))
    (sSeq (sAsg (.tp [(.nm 8), (.nm 9), (.nm 10), (.nm 11), (.nm 12), (.nm 13)]) (qTup (qCons (qDisp [((qNeg (qC (.int 1))), (qVar 4))]) (qCons qDNewK (qCons (qTup (qCons (qC (.int 0)) (qCons (qC (.int 1)) qNil))) (qCons (qTup (qCons (qC (.int 0)) (qCons (qC (.int 1)) qNil))) (qCons (qTup (qCons (qC (.int 0)) (qCons (qC (.int 1)) qNil))) (qCons (qTup (qCons (qC (.int 0)) (qCons (qC (.int 1)) qNil))) qNil))))))))
    (sSeq (sAsg (.nm 14) (qOp vEq (qCall (sp_law_draw A) (qCons (qVar 1) (qCons (qC (.int 3)) qNil))) (qC (.int 0))))
    (sSeq (sFor (iRange1 (qCons (qOp qAdd (qC (.int 10)) (qCall (sp_law_draw A) (qCons (qVar 1) (qCons (qC (.int 31)) qNil)))) qNil)) (.nm 15) (sSeq (sAsg (.nm 16) (qDGet2 (qVar 9) (qOp (qI0 fun i j => .int (i - j)) (qVar 15) (qVar 2)) (qTup (qCons (qC (.int 0)) (qCons (qC (.int 1)) qNil)))))
    (sSeq (sIf (qOr (qNot (qB (qCall (sp_law_same 4 A) (qCons (qMeth A.Wire "arriving" (sp_Wire_arriving A) (qVar 5) (qCons (qVar 15) qNil)) (qCons (qVar 16) qNil))))) (qNot (qB (qCall (sp_law_same 4 A) (qCons (qMeth A.Buffer "take_in" (sp_Buffer_take_in A) (qVar 7) (qCons (qVar 16) qNil)) (qCons (qTup (qCons (qC (.int 0)) (qCons (qC (.int 1)) qNil))) qNil)))))) (sRet (qC (.bl false))) sNext)
    (sSeq (sAsg (.nm 10) (qCall (sp_law_sum A) (qCons (qVar 10) (qCons (qVar 16) qNil))))
    (sSeq (sAsg (.nm 11) (qCall (sp_law_max A) (qCons (qVar 11) (qCons (qVar 10) qNil))))
    (sSeq (sAsg (.nm 17) (qOp (qI0 fun i j => .int (i - j)) (qOp (qI0 fun i j => .int (i - j)) (qVar 15) (qC (.int 1))) (qCall (sp_law_draw A) (qCons (qVar 1) (qCons (qOp qAdd (qVar 3) (qC (.int 1))) qNil)))))
    (sSeq (sAsg (.nm 18) (qIfE (qTru (qVar 14)) (qTup (qCons (qC (.int 1000)) (qCons (qC (.int 1)) qNil))) (qCall (sp_law_of A) (qCons (qVar 1) (qCons (qLstF (qCons (qCall (sp_law_some A) (qCons (qVar 1) (qCons (qC (.int 9)) qNil))) (qCons (qTup (qCons (qC (.int 0)) (qCons (qC (.int 1)) qNil))) (qCons (qTup (qCons (qC (.int 1000)) (qCons (qC (.int 1)) qNil))) (qCons (qCall (sp_law_some A) (qCons (qVar 1) (qCons (qC (.int 3)) qNil))) qNil))))) qNil)))))
    (sSeq (sAsg (.nm 19) (qTup (qCons (qC (.int 0)) (qCons (qC (.int 1)) qNil))))
    (sSeq (sIf (qAnd (qB (qOp (vIn false) (qVar 17) (qVar 8))) (qB (qOp (qI0 fun i j => .bl (decide (j ≤ i))) (qVar 17) (qOp (qI0 fun i j => .int (i - j)) (qVar 15) (qVar 3))))) (sSeq (sAsg (.nm 19) (qCall (sp_law_rest A) (qCons (qOp vIx (qVar 8) (qVar 17)) (qCons (qCall (sp_law_all A) (qCons (qFreeze (qLock (qLc (iDict fKey (qVar 9)) (.nm 22) (qB (qOp (qI0 fun i j => .bl (decide (j < i))) (qVar 22) (qOp (qI0 fun i j => .int (i - j)) (qVar 17) (qVar 2)))) (qOp vIx (qVar 9) (qVar 22)) [22]))) qNil)) qNil))))
    (sIf (qNot (qB (qCall (sp_law_same 4 A) (qCons (qMeth A.Hop "room" (sp_Hop_room A) (qVar 6) (qCons (qVar 15) (qCons (qVar 17) (qCons (qOp vIx (qVar 8) (qVar 17)) qNil)))) (qCons (qVar 19) qNil))))) (sRet (qC (.bl false))) sNext)) sNext)
    (sSeq (sAsg (.nm 20) (qCall (sp_law_min A) (qCons (qVar 18) (qCons (qVar 19) qNil))))
    (sSeq (sExpr (qMeth A.Hop "remember" (sp_Hop_remember A) (qVar 6) (qCons (qVar 15) (qCons (qVar 20) qNil))))
    (sSeq (sExpr (qMeth A.Wire "put" (sp_Wire_put A) (qVar 5) (qCons (qVar 15) (qCons (qVar 20) qNil))))
    (sSeq (sSub (qVar 9) (qVar 15) (qVar 20))
    (sSeq (sAsg (.nm 12) (qCall (sp_law_sum A) (qCons (qVar 12) (qCons (qVar 20) qNil))))
    (sSeq (sAsg (.nm 21) (qIfE (qB (qOp (qI0 fun i j => .bl (decide (i < j))) (qOp vIx (qVar 10) (qC (.int 1))) (qOp qPow (qC (.int 10)) (qC (.int 12))))) (qCall (sp_law_part A) (qCons (qVar 1) (qCons (qVar 10) qNil))) (qVar 10)))
    (sSeq (sExpr (qMeth A.Buffer "give" (sp_Buffer_give A) (qVar 7) (qCons (qVar 21) qNil)))
    (sSeq (sPar 10 13 (qCons (qCall (sp_law_rest A) (qCons (qVar 10) (qCons (qVar 21) qNil))) (qCons (qCall (sp_law_sum A) (qCons (qVar 13) (qCons (qVar 21) qNil))) qNil)))
    (sSeq (sSub (qVar 8) (qVar 15) (qCall (sp_law_rest A) (qCons (qVar 4) (qCons (qVar 10) qNil))))
    (sIf (qOr (qNot (qB (qCall (sp_law_same 4 A) (qCons (qProp A.Buffer (sp_Buffer_held A) (qVar 7)) (qCons (qVar 10) qNil))))) (qNot (qB (qCall (sp_law_parts_agree A) (qCons (qTup (qCons (qVar 5) (qCons (qVar 7) (qCons (qVar 4) qNil)))) (qCons (qVar 15) (qCons (qVar 12) (qCons (qVar 13) qNil)))))))) (sRet (qC (.bl false))) sNext)))))))))))))))))))
    (sRet (qAndV (qCall (sp_law_same 4 A) (qCons (qProp A.Buffer (sp_Buffer_fullest A) (qVar 7)) (qCons (qVar 11) qNil))) (qCall (sp_law_same 4 A) (qCons (qFld A.Buffer "size" (qVar 7)) (qCons (qVar 4) qNil))))))))))))
end K33
namespace K33
open PySem PySem.Spec PyProof.Rows L2 L3
theorem len_law_bag (A : Adr) : ∀ ds m Φ, sp_law_bag A ds m Φ → ds.length = 1 := C13.len_law_bag
theorem rd_law_bag (A : Adr) : ∀ ds m Φ, sp_law_bag A ds m Φ → qb_law_bag A (bodyW Φ) (begin_ 3 ds) m := C13.rd_law_bag
theorem len_law_draw (A : Adr) : ∀ ds m Φ, sp_law_draw A ds m Φ → ds.length = 2 := C13.len_law_draw
theorem rd_law_draw (A : Adr) : ∀ ds m Φ, sp_law_draw A ds m Φ → qb_law_draw A (bodyW Φ) (begin_ 5 ds) m := C13.rd_law_draw
theorem len_law_of (A : Adr) : ∀ ds m Φ, sp_law_of A ds m Φ → ds.length = 2 := C13.len_law_of
theorem rd_law_of (A : Adr) : ∀ ds m Φ, sp_law_of A ds m Φ → qb_law_of A (bodyW Φ) (begin_ 2 ds) m := C13.rd_law_of
theorem len_Wire_init (A : Adr) : ∀ ds m Φ, sp_Wire_init A ds m Φ → ds.length = 2 := PA.len_Wire_init A.Wire
theorem rd_Wire_init (A : Adr) : ∀ ds m Φ, sp_Wire_init A ds m Φ → qb_Wire_init A (bodyW Φ) (begin_ 2 ds) m := PA.rd_Wire_init A.Wire
theorem len_Hop_init (A : Adr) : ∀ ds m Φ, sp_Hop_init A ds m Φ → ds.length = 3 := PA.len_Hop_init A.Hop
theorem rd_Hop_init (A : Adr) : ∀ ds m Φ, sp_Hop_init A ds m Φ → qb_Hop_init A (bodyW Φ) (begin_ 3 ds) m := PA.rd_Hop_init A.Hop
theorem len_Buffer_init (A : Adr) : ∀ ds m Φ, sp_Buffer_init A ds m Φ → ds.length = 2 := PA.len_Buffer_init A.Buffer
theorem rd_Buffer_init (A : Adr) : ∀ ds m Φ, sp_Buffer_init A ds m Φ → qb_Buffer_init A (bodyW Φ) (begin_ 2 ds) m := PA.rd_Buffer_init A.Buffer
theorem len_law_amount (A : Adr) : ∀ ds m Φ, sp_law_amount A ds m Φ → ds.length = 2 := C13.len_law_amount
theorem rd_law_amount (A : Adr) : ∀ ds m Φ, sp_law_amount A ds m Φ → qb_law_amount A (bodyW Φ) (begin_ 4 ds) m := C13.rd_law_amount
theorem len_law_sum (A : Adr) : ∀ ds m Φ, sp_law_sum A ds m Φ → ds.length = 2 := C13.len_law_sum
theorem rd_law_sum (A : Adr) : ∀ ds m Φ, sp_law_sum A ds m Φ → qb_law_sum A (bodyW Φ) (begin_ 2 ds) m := C13.rd_law_sum
theorem len_law_less (A : Adr) : ∀ ds m Φ, sp_law_less A ds m Φ → ds.length = 2 := C13.len_law_less
theorem rd_law_less (A : Adr) : ∀ ds m Φ, sp_law_less A ds m Φ → qb_law_less A (bodyW Φ) (begin_ 2 ds) m := C13.rd_law_less
theorem len_law_max (A : Adr) : ∀ ds m Φ, sp_law_max A ds m Φ → ds.length = 2 := C13.len_law_max
theorem rd_law_max (A : Adr) : ∀ ds m Φ, sp_law_max A ds m Φ → qb_law_max A (bodyW Φ) (begin_ 2 ds) m := C13.rd_law_max
theorem len_law_min (A : Adr) : ∀ ds m Φ, sp_law_min A ds m Φ → ds.length = 2 := C13.len_law_min
theorem rd_law_min (A : Adr) : ∀ ds m Φ, sp_law_min A ds m Φ → qb_law_min A (bodyW Φ) (begin_ 2 ds) m := C13.rd_law_min
theorem len_Hop_remember (A : Adr) : ∀ ds m Φ, sp_Hop_remember A ds m Φ → ds.length = 3 := PA.len_Hop_remember A.Hop
theorem rd_Hop_remember (A : Adr) : ∀ ds m Φ, sp_Hop_remember A ds m Φ → qb_Hop_remember A (bodyW Φ) (begin_ 7 ds) m := PA.rd_Hop_remember A.Hop
theorem len_Wire_put (A : Adr) : ∀ ds m Φ, sp_Wire_put A ds m Φ → ds.length = 3 := PA.len_Wire_put A.Wire
theorem rd_Wire_put (A : Adr) : ∀ ds m Φ, sp_Wire_put A ds m Φ → qb_Wire_put A (bodyW Φ) (begin_ 3 ds) m := PA.rd_Wire_put A.Wire
theorem len_p_lowest (A : Adr) : ∀ ds m Φ, sp_p_lowest A ds m Φ → ds.length = 2 := PA.len_p_lowest
theorem rd_p_lowest (A : Adr) : ∀ ds m Φ, sp_p_lowest A ds m Φ → qb_p_lowest A (bodyW Φ) (begin_ 3 ds) m := PA.rd_p_lowest
theorem len_minus (A : Adr) : ∀ ds m Φ, sp_minus A ds m Φ → ds.length = 2 := PA.len_minus
theorem rd_minus (A : Adr) : ∀ ds m Φ, sp_minus A ds m Φ → qb_minus A (bodyW Φ) (begin_ 3 ds) m := PA.rd_minus
theorem len_compare (A : Adr) : ∀ ds m Φ, sp_compare A ds m Φ → ds.length = 2 := PA.len_compare
theorem rd_compare (A : Adr) : ∀ ds m Φ, sp_compare A ds m Φ → qb_compare A (bodyW Φ) (begin_ 4 ds) m := PA.rd_compare
theorem len_Buffer_give (A : Adr) : ∀ ds m Φ, sp_Buffer_give A ds m Φ → ds.length = 2 := PA.len_Buffer_give A.Buffer
theorem rd_Buffer_give (A : Adr) : ∀ ds m Φ, sp_Buffer_give A ds m Φ → qb_Buffer_give A (bodyW Φ) (begin_ 2 ds) m := PA.rd_Buffer_give A.Buffer
theorem len_law_rest (A : Adr) : ∀ ds m Φ, sp_law_rest A ds m Φ → ds.length = 2 := C13.len_law_rest
theorem rd_law_rest (A : Adr) : ∀ ds m Φ, sp_law_rest A ds m Φ → qb_law_rest A (bodyW Φ) (begin_ 2 ds) m := C13.rd_law_rest
theorem len_law_same (n : Nat) (A : Adr) : ∀ ds m Φ, sp_law_same n A ds m Φ → ds.length = 2 := C13.len_law_same n
theorem rd_law_same (n : Nat) (A : Adr) : ∀ ds m Φ, sp_law_same (n + 1) A ds m Φ → qb_law_same n A (bodyW Φ) (begin_ 4 ds) m := C13.rd_law_same n
theorem len_law_some (A : Adr) : ∀ ds m Φ, sp_law_some A ds m Φ → ds.length = 2 := C13.len_law_some
theorem rd_law_some (A : Adr) : ∀ ds m Φ, sp_law_some A ds m Φ → qb_law_some A (bodyW Φ) (begin_ 3 ds) m := C13.rd_law_some
theorem len_law_scaled (A : Adr) : ∀ ds m Φ, sp_law_scaled A ds m Φ → ds.length = 3 := C13.len_law_scaled
theorem rd_law_scaled (A : Adr) : ∀ ds m Φ, sp_law_scaled A ds m Φ → qb_law_scaled A (bodyW Φ) (begin_ 3 ds) m := C13.rd_law_scaled
theorem len_law_part (A : Adr) : ∀ ds m Φ, sp_law_part A ds m Φ → ds.length = 2 := C13.len_law_part
theorem rd_law_part (A : Adr) : ∀ ds m Φ, sp_law_part A ds m Φ → qb_law_part A (bodyW Φ) (begin_ 4 ds) m := C13.rd_law_part
theorem len_Buffer_fullest (A : Adr) : ∀ ds m Φ, sp_Buffer_fullest A ds m Φ → ds.length = 1 := PA.len_Buffer_fullest A.Buffer
theorem rd_Buffer_fullest (A : Adr) : ∀ ds m Φ, sp_Buffer_fullest A ds m Φ → qb_Buffer_fullest A (bodyW Φ) (begin_ 1 ds) m := PA.rd_Buffer_fullest A.Buffer
theorem len_law_all (A : Adr) : ∀ ds m Φ, sp_law_all A ds m Φ → ds.length = 1 := C13.len_law_all
theorem rd_law_all (A : Adr) : ∀ ds m Φ, sp_law_all A ds m Φ → qb_law_all A (bodyW Φ) (begin_ 3 ds) m := C13.rd_law_all
theorem len_Buffer_held (A : Adr) : ∀ ds m Φ, sp_Buffer_held A ds m Φ → ds.length = 1 := PA.len_Buffer_held A.Buffer
theorem rd_Buffer_held (A : Adr) : ∀ ds m Φ, sp_Buffer_held A ds m Φ → qb_Buffer_held A (bodyW Φ) (begin_ 1 ds) m := PA.rd_Buffer_held A.Buffer
theorem rd_plus (A : Adr) : ∀ ds m Φ, sp_plus A ds m Φ → qb_plus A (bodyW Φ) (begin_ 6 ds) m := PA.rd_plus
theorem len_Wire_under_way (A : Adr) : ∀ ds m Φ, sp_Wire_under_way A ds m Φ → ds.length = 2 := PA.len_Wire_under_way A.Wire
theorem rd_Wire_under_way (A : Adr) : ∀ ds m Φ, sp_Wire_under_way A ds m Φ → qb_Wire_under_way A (bodyW Φ) (begin_ 4 ds) m := PA.rd_Wire_under_way A.Wire
theorem len_Wire_arriving (A : Adr) : ∀ ds m Φ, sp_Wire_arriving A ds m Φ → ds.length = 2 := PA.len_Wire_arriving A.Wire
theorem rd_Wire_arriving (A : Adr) : ∀ ds m Φ, sp_Wire_arriving A ds m Φ → qb_Wire_arriving A (bodyW Φ) (begin_ 2 ds) m := PA.rd_Wire_arriving A.Wire
theorem rd_largest (A : Adr) : ∀ ds m Φ, sp_largest A ds m Φ → qb_largest A (bodyW Φ) (begin_ 4 ds) m := PA.rd_largest
theorem len_Buffer_set_to (A : Adr) : ∀ ds m Φ, sp_Buffer_set_to A ds m Φ → ds.length = 2 := PA.len_Buffer_set_to A.Buffer
theorem rd_Buffer_set_to (A : Adr) : ∀ ds m Φ, sp_Buffer_set_to A ds m Φ → qb_Buffer_set_to A (bodyW Φ) (begin_ 2 ds) m := PA.rd_Buffer_set_to A.Buffer
theorem len_Buffer_take_in (A : Adr) : ∀ ds m Φ, sp_Buffer_take_in A ds m Φ → ds.length = 2 := PA.len_Buffer_take_in A.Buffer
theorem rd_Buffer_take_in (A : Adr) : ∀ ds m Φ, sp_Buffer_take_in A ds m Φ → qb_Buffer_take_in A (bodyW Φ) (begin_ 3 ds) m := PA.rd_Buffer_take_in A.Buffer
theorem len_Hop_sent_after (A : Adr) : ∀ ds m Φ, sp_Hop_sent_after A ds m Φ → ds.length = 3 := PA.len_Hop_sent_after A.Hop
theorem rd_Hop_sent_after (A : Adr) : ∀ ds m Φ, sp_Hop_sent_after A ds m Φ → qb_Hop_sent_after A (bodyW Φ) (begin_ 6 ds) m := PA.rd_Hop_sent_after A.Hop
theorem len_Hop_room (A : Adr) : ∀ ds m Φ, sp_Hop_room A ds m Φ → ds.length = 4 := PA.len_Hop_room A.Hop
theorem rd_Hop_room (A : Adr) : ∀ ds m Φ, sp_Hop_room A ds m Φ → qb_Hop_room A (bodyW Φ) (begin_ 5 ds) m := PA.rd_Hop_room A.Hop
end K33
/-! K33_M: sums of sends -/
namespace K33
open PySem PySem.Spec PyProof.Rows L2 L3 L4 PA
def tabG (g : Nat → Rat) (n : Nat) : Tab := (List.range n).map fun j : Nat => ((j : Int), g j)
def updG (g : Nat → Rat) (n : Nat) (q : Rat) : Nat → Rat := fun j => if j = n then q else g j
theorem updG_lt {g : Nat → Rat} {n j : Nat} {q : Rat} (h : j ≠ n) : updG g n q j = g j := if_neg h
theorem updG_eq {g : Nat → Rat} {n : Nat} {q : Rat} : updG g n q n = q := if_pos rfl
theorem tabG_more (g : Nat → Rat) (n : Nat) : tabG g (n + 1) = tabG g n ++ [((n : Int), g n)] := by
  unfold tabG
  rw [List.range_succ, List.map_append]; rfl
theorem tabG_congr {g g' : Nat → Rat} {n : Nat} (h : ∀ j, j < n → g j = g' j) : tabG g n = tabG g' n := by
  unfold tabG
  apply List.map_congr_left
  intro j hj
  rw [h j (List.mem_range.mp hj)]
theorem tabG_mem {g : Nat → Rat} {n : Nat} {p : Int × Rat} (h : p ∈ tabG g n) : ∃ j, j < n ∧ p = ((j : Int), g j) := by
  obtain ⟨j, hj, rfl⟩ := List.mem_map.mp h
  exact ⟨j, List.mem_range.mp hj, rfl⟩
theorem tabG_keys (g : Nat → Rat) (n : Nat) : (tabG g n).map (·.1) = (List.range n).map fun j : Nat => (j : Int) := by unfold tabG; rw [List.map_map]; rfl
theorem tabG_nd (g : Nat → Rat) (n : Nat) : ((tabG g n).map (·.1)).Nodup := by
  rw [tabG_keys]
  refine List.Pairwise.map _ ?_ List.nodup_range
  intro a b h z
  exact h (by omega)
theorem tabG_len (g : Nat → Rat) (n : Nat) : (tabG g n).length = n := by unfold tabG; rw [List.length_map, List.length_range]
theorem tabG_put (g : Nat → Rat) (n : Nat) (q : Rat) : putT (tabG g n) n q = tabG (updG g n q) (n + 1) := by
  rw [putT_new, tabG_more, updG_eq]
  · congr 1
    exact tabG_congr fun j hj => (updG_lt (by omega)).symm
  · intro z
    obtain ⟨p, hp, e⟩ := List.mem_map.mp z
    obtain ⟨j, hj, rfl⟩ := tabG_mem hp
    have : (j : Int) = n := e
    omega
def pre (g : Nat → Rat) : Nat → Rat
  | 0 => 0
  | k + 1 => pre g k + g k
theorem pre_congr {g g' : Nat → Rat} : ∀ {n : Nat}, (∀ j, j < n → g j = g' j) → pre g n = pre g' n
  | 0, _ => rfl
  | n + 1, h => by
    show pre g n + g n = pre g' n + g' n
    rw [pre_congr (n := n) fun j hj => h j (by omega), h n (by omega)]
theorem pre_mono {g : Nat → Rat} (h : ∀ j, 0 ≤ g j) {a b : Nat} (e : a ≤ b) : pre g a ≤ pre g b := by
  induction b with
  | zero => obtain rfl : a = 0 := by omega
            exact Rat.le_refl
  | succ b ih =>
    rcases Nat.lt_or_ge a (b + 1) with w | w
    · have h1 := ih (by omega)
      have h2 := h b
      show pre g a ≤ pre g b + g b
      grind
    · obtain rfl : a = b + 1 := by omega
      exact Rat.le_refl
theorem pre_dn {N : Nat} {g : Nat → Rat} (h : ∀ j, Dn N (g j)) : ∀ n, Dn N (pre g n)
  | 0 => Dn.zero N
  | n + 1 => (pre_dn h n).add (h n)
theorem pre_le {g : Nat → Rat} {M : Nat} (h : ∀ j, g j ≤ (M : Rat)) : ∀ n, pre g n ≤ ((n * M : Nat) : Rat)
  | 0 => by rw [Nat.zero_mul]; exact Rat.le_refl
  | n + 1 => by
    have h1 := pre_le h n
    have h2 := h n
    rw [Nat.succ_mul, Rat.natCast_add]
    show pre g n + g n ≤ _
    grind
theorem taken_app (t : Tab) (x : Int × Rat) (lo hi : Int) : taken (t ++ [x]) lo hi = taken t lo hi + if inW lo hi x = true then x.2 else 0 := by
  unfold taken
  rw [List.filter_append, List.map_append, total_app]
  congr 1
  by_cases h : inW lo hi x = true
  · rw [if_pos h]
    simp only [List.filter_cons, h, if_true, List.filter_nil, List.map_cons, List.map_nil]
    show x.2 + 0 = x.2
    rw [Rat.add_zero]
  · rw [if_neg h]
    simp only [List.filter_cons, h, List.filter_nil]
    rfl
theorem taken_tabG (g : Nat → Rat) (lo : Int) : ∀ (n : Nat) (hi : Int), (n : Int) ≤ hi → taken (tabG g n) lo hi = if (lo + 1).toNat ≤ n then pre g n - pre g (lo + 1).toNat else 0
  | 0, hi, h => by
    show (0 : Rat) = _
    split
    · rename_i z
      have : (lo + 1).toNat = 0 := by omega
      rw [this]
      show (0 : Rat) = 0 - 0
      grind
    · rfl
  | n + 1, hi, h => by
    rw [tabG_more, taken_app, taken_tabG g lo n hi (by omega)]
    have hn : decide ((n : Int) < hi) = true := decide_eq_true (by omega)
    have e : inW lo hi ((n : Int), g n) = decide (lo < (n : Int)) := by
      show (decide (lo < (n : Int)) && decide ((n : Int) < hi)) = _
      rw [hn, Bool.and_true]
    rw [e]
    show _ + (if decide (lo < (n : Int)) = true then g n else 0) = if (lo + 1).toNat ≤ n + 1 then pre g n + g n - pre g (lo + 1).toNat else 0
    by_cases h1 : (lo + 1).toNat ≤ n
    · rw [if_pos h1, if_pos (show (lo + 1).toNat ≤ n + 1 by omega), if_pos (decide_eq_true (show lo < (n : Int) by omega))]
      grind
    · rw [if_neg h1, if_neg (fun z => by have := of_decide_eq_true z; omega)]
      by_cases h2 : (lo + 1).toNat ≤ n + 1
      · rw [if_pos h2]
        have : (lo + 1).toNat = n + 1 := by omega
        rw [this]
        show (0 : Rat) + 0 = pre g n + g n - (pre g n + g n)
        grind
      · rw [if_neg h2]; grind
theorem getT_app (t : Tab) (x : Int × Rat) (k : Int) : getT (t ++ [x]) k = (getT t k).or (if x.1 = k then some x.2 else none) := by
  unfold getT
  rw [List.find?_append]
  cases t.find? fun p => decide (p.1 = k) with
  | some p => rfl
  | none =>
    rw [Option.none_or]
    show Option.map _ (List.find? _ [x]) = _
    by_cases h : x.1 = k
    · rw [if_pos h, List.find?_cons, decide_eq_true h]; rfl
    · rw [if_neg h, List.find?_cons, decide_eq_false h]; rfl
theorem getT_tabG (g : Nat → Rat) (k : Int) : ∀ n : Nat, getT (tabG g n) k = if 0 ≤ k ∧ k < n then some (g k.toNat) else none
  | 0 => by rw [if_neg (by omega)]; rfl
  | n + 1 => by
    rw [tabG_more, getT_app, getT_tabG g k n]
    by_cases h : 0 ≤ k ∧ k < n
    · rw [if_pos h, if_pos (show 0 ≤ k ∧ k < ((n + 1 : Nat) : Int) by omega)]; rfl
    · rw [if_neg h]
      show (if (n : Int) = k then some (g n) else none) = _
      by_cases h2 : (n : Int) = k
      · rw [if_pos h2, if_pos (by omega)]
        have : k.toNat = n := by omega
        rw [this]
      · rw [if_neg h2, if_neg (by omega)]
theorem atT_tabG (g : Nat → Rat) (k : Int) (n : Nat) : atT (tabG g n) k = if 0 ≤ k ∧ k < n then g k.toNat else 0 := by
  unfold PA.atT
  rw [getT_tabG]
  split <;> rfl
theorem under_tabG (g : Nat → Rat) (n : Nat) : ∀ w : Nat, under (tabG g n) (w : Int) ((n : Int) - 1) = pre g n - pre g (n - w)
  | 0 => by
    show (0 : Rat) = pre g n - pre g n
    grind
  | w + 1 => by
    have ih := under_tabG g n w
    unfold PA.under at ih ⊢
    rw [Int.toNat_natCast] at ih ⊢
    rw [List.range_succ_eq_map, List.map_cons, List.map_map]
    show atT (tabG g n) _ + total _ = _
    have e : ((List.range w).map ((fun i : Nat => atT (tabG g n) ((n : Int) - 1 - ((w + 1 : Nat) : Int) + 1 + (i : Int))) ∘ Nat.succ)) = (List.range w).map fun i : Nat => atT (tabG g n) ((n : Int) - 1 - (w : Int) + 1 + (i : Int)) := by
      apply List.map_congr_left
      intro i _
      show atT (tabG g n) ((n : Int) - 1 - ((w + 1 : Nat) : Int) + 1 + ((i + 1 : Nat) : Int)) = _
      congr 1
      omega
    rw [e, ih, atT_tabG]
    by_cases h : w + 1 ≤ n
    · rw [if_pos (by omega)]
      have e1 : ((n : Int) - 1 - ((w + 1 : Nat) : Int) + 1 + ((0 : Nat) : Int)).toNat = n - (w + 1) := by omega
      have e2 : n - w = (n - (w + 1)) + 1 := by omega
      rw [e1, e2]
      show _ + (pre g n - (pre g (n - (w + 1)) + g (n - (w + 1)))) = _
      grind
    · rw [if_neg (by omega)]
      have e1 : n - w = 0 := by omega
      have e2 : n - (w + 1) = 0 := by omega
      rw [e1, e2]
      grind
/-- the notes: what is free behind tick k - 1 -/
def tabN (top : Rat) (h : Nat → Rat) (n : Nat) : Tab := (List.range (n + 1)).map fun k : Nat => ((k : Int) - 1, top - h k)
theorem tabN_more (top : Rat) (h : Nat → Rat) (n : Nat) : tabN top h (n + 1) = tabN top h n ++ [((n : Int), top - h (n + 1))] := by
  unfold tabN
  rw [List.range_succ, List.map_append]
  congr 1
  show [(((n + 1 : Nat) : Int) - 1, top - h (n + 1))] = _
  have : ((n + 1 : Nat) : Int) - 1 = n := by omega
  rw [this]
theorem tabN_mem {top : Rat} {h : Nat → Rat} {n : Nat} {p : Int × Rat} (hp : p ∈ tabN top h n) : ∃ k, k ≤ n ∧ p = ((k : Int) - 1, top - h k) := by
  obtain ⟨j, hj, rfl⟩ := List.mem_map.mp hp
  exact ⟨j, by have := List.mem_range.mp hj; omega, rfl⟩
theorem tabN_put (top : Rat) (h : Nat → Rat) (n : Nat) (q : Rat) : putT (tabN top h n) n (top - q) = tabN top (updG h (n + 1) q) (n + 1) := by
  rw [putT_new, tabN_more, updG_eq]
  · congr 1
    unfold tabN
    apply List.map_congr_left
    intro j hj
    have := List.mem_range.mp hj
    rw [updG_lt (by omega)]
  · intro z
    obtain ⟨p, hp, e⟩ := List.mem_map.mp z
    obtain ⟨j, hj, rfl⟩ := tabN_mem hp
    have : (j : Int) - 1 = n := e
    omega
theorem getT_tabN (top : Rat) (h : Nat → Rat) (k : Int) : ∀ n : Nat, getT (tabN top h n) k = if 0 ≤ k + 1 ∧ k < n then some (top - h (k + 1).toNat) else none
  | 0 => by
    unfold getT tabN
    show Option.map _ (List.find? _ [(((0 : Nat) : Int) - 1, top - h 0)]) = _
    rw [List.find?_cons]
    by_cases e : k = -1
    · subst e
      rw [if_pos (by omega)]; rfl
    · rw [if_neg (by omega), decide_eq_false (by show ¬ ((0 : Nat) : Int) - 1 = k; omega)]; rfl
  | n + 1 => by
    rw [tabN_more, getT_app, getT_tabN top h k n]
    by_cases e : 0 ≤ k + 1 ∧ k < n
    · rw [if_pos e, if_pos (show 0 ≤ k + 1 ∧ k < ((n + 1 : Nat) : Int) by omega)]; rfl
    · rw [if_neg e]
      show (if (n : Int) = k then some (top - h (n + 1)) else none) = _
      by_cases h2 : (n : Int) = k
      · rw [if_pos h2, if_pos (by omega)]
        have : (k + 1).toNat = n + 1 := by omega
        rw [this]
      · rw [if_neg h2, if_neg (by omega)]
theorem tabN_len (top : Rat) (h : Nat → Rat) (n : Nat) : (tabN top h n).length = n + 1 := by unfold tabN; rw [List.length_map, List.length_range]
/-- the common denominator at tick n -/
def NN (n : Nat) : Nat := 60 * 30 ^ n
theorem NN_pos (n : Nat) : 0 < NN n := Nat.mul_pos (by decide) (Nat.pow_pos (by decide))
theorem NN_log {n : Nat} (h : n ≤ 50) : (NN n).log2 < 1000 := by
  have h1 : NN n ≤ NN 50 := Nat.mul_le_mul_left _ (Nat.pow_le_pow_right (by decide) h)
  have h2 := log2_le h1
  have h3 : (NN 50).log2 < 1000 := by decide +kernel
  omega
theorem NN_succ (n : Nat) : NN (n + 1) = NN n * 30 := by unfold NN; rw [Nat.pow_succ, Nat.mul_assoc]
theorem NN_div (n : Nat) : ∃ k, NN n = 60 * k := ⟨30 ^ n, rfl⟩
theorem dn_up {n : Nat} {q : Rat} (h : Dn (NN n) q) : Dn (NN (n + 1)) q := by rw [NN_succ]; exact h.mono 30
theorem dn_60 {q : Rat} (n : Nat) (h : Dn 60 q) : Dn (NN n) q := h.mono _
theorem dn_30 {q : Rat} (n : Nat) (h : Dn 30 q) : Dn (NN n) q := dn_60 n (h.mono 2)
end K33
namespace K33
open PySem PySem.Spec PyProof.Rows L2 L3 L4 PA
open Rat (divInt)
theorem under_ok {N M : Nat} {t : Tab} (h : ∀ p ∈ t, Okb N M p.2) {way tick : Int} (hw : way < 1000) : Okb N (1000 * M) (PA.under t way tick) := by
  have h1 := total_ok (N := N) (M := M) (l := (List.range way.toNat).map fun i : Nat => PA.atT t (tick - way + 1 + i)) fun q hq => by
    obtain ⟨i, _, rfl⟩ := List.mem_map.mp hq
    exact atT_ok h _
  refine h1.up (Nat.mul_le_mul_right _ ?_)
  rw [List.length_map, List.length_range]; omega
theorem log1000 {M : Nat} (h : M.log2 < 1800) : (1000 * M).log2 < 1900 := by
  have a1 := log2_mul 1000 M
  have a2 : Nat.log2 1000 < 20 := by decide
  omega
theorem len_law_parts_agree (A : Adr) : ∀ ds m Φ, sp_law_parts_agree A ds m Φ → ds.length = 4 := by rintro _ _ _ ⟨_, _, _, _, _, _, _, _, _, _, _, _, _, _, rfl, _⟩; rfl
theorem rd_law_parts_agree (A : Adr) : ∀ ds m Φ, sp_law_parts_agree A ds m Φ → qb_law_parts_agree A (bodyW Φ) (begin_ 7 ds) m := by
  rintro _ m Φ ⟨a, d, b, way, now, t, size, held, full, top, so, out, N, M, rfl, hw, hb, ok, h0, hN, hM, w0, w1, n0, n1, oh, ot, oo, hle, e, k⟩
  have ou := under_ok ok (tick := now) w1
  have bu : Bg (PA.under t way now) := ou.bg h0 (by omega) (by have := log1000 hM; omega)
  have bh := oh.bg h0 (by omega) (by omega)
  have bt := ot.bg h0 (by omega) (by omega)
  have bo := oo.bg h0 (by omega) (by omega)
  have os := ou.add oh
  have bs : Bg (PA.under t way now + held) := os.bg h0 (by omega) (by
    have a1 := log2_mul 1001 M
    have a2 : Nat.log2 1001 < 20 := by decide
    have e : 1000 * M + M = 1001 * M := by omega
    rw [e]; omega)
  refine ⟨⟨_, hb⟩, b, size, held, full, rfl, hb, top, held, rfl, bt, bh, ?_⟩
  refine qif_f (decide_eq_false (by grind)) ?_
  refine ⟨_, hw.ob, rfl, a, d, way, now, t, N, M, rfl, hw, ok, h0, by omega, by omega, w0, w1, n0, n1, ?_⟩
  refine ⟨⟨_, hb⟩, b, size, held, full, rfl, hb, _, held, rfl, ou.nn, oh.nn, bu, bh, ?_⟩
  refine ⟨_, out, rfl, os.nn, oo.nn, bs, bo, ?_⟩
  exact ⟨am so, by rw [e], flat_am _ _, wk_at k⟩
/-- what stands at the beginning of tick n -/
structure St (A : Adr) (m : Mem) (b aw dw hh dh bb nd sd : Addr) (way age : Nat) (top : Rat) (g h : Nat → Rat) (out most : Rat) (n : Nat) : Prop where
  bag : m b = some (.any C13.BagP)
  wire : WireAt A.Wire m aw dw way (tabG g n)
  hop : ∃ c : Int, c ≤ (n : Int) - age - way ∧ HopAt A.Hop m hh dh way age ((tabG g n).filter (cutF c))
  buf : BufAt A.Buffer m bb top (h n) most
  notes : m nd = some (.dK (tabD (tabN top h n)))
  sends : m sd = some (.dK (tabD (tabG g n)))
  n1 : dw ≠ dh
  n2 : dw ≠ nd
  n3 : dw ≠ sd
  n4 : dh ≠ nd
  n5 : dh ≠ sd
  n6 : nd ≠ sd
  n7 : aw ≠ hh
  n8 : aw ≠ bb
  n9 : hh ≠ bb
/-- .. and what holds of the amounts -/
structure Am (way age : Nat) (top : Rat) (g h : Nat → Rat) (out most : Rat) (n : Nat) : Prop where
  g0 : ∀ j, Okb (NN n) 100 (g j)
  h0 : ∀ k, k ≤ n → 0 ≤ h k ∧ h k ≤ top ∧ Dn (NN n) (h k)
  tp : Okb (NN n) 100 top
  fit : h n + (pre g n - pre g (n - way)) ≤ top
  acc : ∀ k, k ≤ n → h n - pre g (n - way) ≤ h k - pre g (k - way)
  sum : out + h n = pre g (n - way)
  out0 : 0 ≤ out
  most0 : Okb (NN n) 100 most
  far : ∀ j, n ≤ j → g j = 0
theorem Am.pre_ok {way age n : Nat} {top out most : Rat} {g h : Nat → Rat} (a : Am way age top g h out most n) (hn : n ≤ 50) (k : Nat) (hk : k ≤ n) : Okb (NN n) 5000 (pre g k) := by
  refine ⟨?_, ?_, pre_dn (fun j => (a.g0 j).dn) k⟩
  · exact pre_mono (fun j => (a.g0 j).nn) (Nat.zero_le k)
  · refine Rat.le_trans (pre_le (fun j => (a.g0 j).le) k) (natCast_mono ?_)
    have : k * 100 ≤ 50 * 100 := Nat.mul_le_mul (by omega) (Nat.le_refl 100)
    omega
theorem St.ne_bag {A : Adr} {m : Mem} {b aw dw hh dh bb nd sd : Addr} {way age : Nat} {top : Rat} {g h : Nat → Rat} {out most : Rat} {n : Nat} (s : St A m b aw dw hh dh bb nd sd way age top g h out most n) :
    b ≠ aw ∧ b ≠ dw ∧ b ≠ hh ∧ b ≠ dh ∧ b ≠ bb ∧ b ≠ nd ∧ b ≠ sd := by
  obtain ⟨c, _, hp⟩ := s.hop
  exact ⟨ne_obj s.bag s.wire.ob (fun z => by cases z), ne_obj s.bag s.wire.dc (fun z => by cases z), ne_obj s.bag hp.ob (fun z => by cases z), ne_obj s.bag hp.dc (fun z => by cases z), ne_obj s.bag s.buf (fun z => by cases z), ne_obj s.bag s.notes (fun z => by cases z), ne_obj s.bag s.sends (fun z => by cases z)⟩
end K33
namespace K33
open PySem PySem.Spec PyProof.Rows L2 L3 L4 PA
def t1 (A : Adr) : QS :=
  (sSeq (sAsg (.nm 19) (qTup (qCons (qC (.int 0)) (qCons (qC (.int 1)) qNil))))
    (sSeq (sIf (qAnd (qB (qOp (vIn false) (qVar 17) (qVar 8))) (qB (qOp (qI0 fun i j => .bl (decide (j ≤ i))) (qVar 17) (qOp (qI0 fun i j => .int (i - j)) (qVar 15) (qVar 3))))) (sSeq (sAsg (.nm 19) (qCall (sp_law_rest A) (qCons (qOp vIx (qVar 8) (qVar 17)) (qCons (qCall (sp_law_all A) (qCons (qFreeze (qLock (qLc (iDict fKey (qVar 9)) (.nm 22) (qB (qOp (qI0 fun i j => .bl (decide (j < i))) (qVar 22) (qOp (qI0 fun i j => .int (i - j)) (qVar 17) (qVar 2)))) (qOp vIx (qVar 9) (qVar 22)) [22]))) qNil)) qNil))))
    (sIf (qNot (qB (qCall (sp_law_same 4 A) (qCons (qMeth A.Hop "room" (sp_Hop_room A) (qVar 6) (qCons (qVar 15) (qCons (qVar 17) (qCons (qOp vIx (qVar 8) (qVar 17)) qNil)))) (qCons (qVar 19) qNil))))) (sRet (qC (.bl false))) sNext)) sNext)
    (sSeq (sAsg (.nm 20) (qCall (sp_law_min A) (qCons (qVar 18) (qCons (qVar 19) qNil))))
    (sSeq (sExpr (qMeth A.Hop "remember" (sp_Hop_remember A) (qVar 6) (qCons (qVar 15) (qCons (qVar 20) qNil))))
    (sSeq (sExpr (qMeth A.Wire "put" (sp_Wire_put A) (qVar 5) (qCons (qVar 15) (qCons (qVar 20) qNil))))
    (sSeq (sSub (qVar 9) (qVar 15) (qVar 20))
    (sSeq (sAsg (.nm 12) (qCall (sp_law_sum A) (qCons (qVar 12) (qCons (qVar 20) qNil))))
    (sSeq (sAsg (.nm 21) (qIfE (qB (qOp (qI0 fun i j => .bl (decide (i < j))) (qOp vIx (qVar 10) (qC (.int 1))) (qOp qPow (qC (.int 10)) (qC (.int 12))))) (qCall (sp_law_part A) (qCons (qVar 1) (qCons (qVar 10) qNil))) (qVar 10)))
    (sSeq (sExpr (qMeth A.Buffer "give" (sp_Buffer_give A) (qVar 7) (qCons (qVar 21) qNil)))
    (sSeq (sPar 10 13 (qCons (qCall (sp_law_rest A) (qCons (qVar 10) (qCons (qVar 21) qNil))) (qCons (qCall (sp_law_sum A) (qCons (qVar 13) (qCons (qVar 21) qNil))) qNil)))
    (sSeq (sSub (qVar 8) (qVar 15) (qCall (sp_law_rest A) (qCons (qVar 4) (qCons (qVar 10) qNil))))
    (sIf (qOr (qNot (qB (qCall (sp_law_same 4 A) (qCons (qProp A.Buffer (sp_Buffer_held A) (qVar 7)) (qCons (qVar 10) qNil))))) (qNot (qB (qCall (sp_law_parts_agree A) (qCons (qTup (qCons (qVar 5) (qCons (qVar 7) (qCons (qVar 4) qNil)))) (qCons (qVar 15) (qCons (qVar 12) (qCons (qVar 13) qNil)))))))) (sRet (qC (.bl false))) sNext))))))))))))
def t2 (A : Adr) : QS :=
  (sSeq (sAsg (.nm 20) (qCall (sp_law_min A) (qCons (qVar 18) (qCons (qVar 19) qNil))))
    (sSeq (sExpr (qMeth A.Hop "remember" (sp_Hop_remember A) (qVar 6) (qCons (qVar 15) (qCons (qVar 20) qNil))))
    (sSeq (sExpr (qMeth A.Wire "put" (sp_Wire_put A) (qVar 5) (qCons (qVar 15) (qCons (qVar 20) qNil))))
    (sSeq (sSub (qVar 9) (qVar 15) (qVar 20))
    (sSeq (sAsg (.nm 12) (qCall (sp_law_sum A) (qCons (qVar 12) (qCons (qVar 20) qNil))))
    (sSeq (sAsg (.nm 21) (qIfE (qB (qOp (qI0 fun i j => .bl (decide (i < j))) (qOp vIx (qVar 10) (qC (.int 1))) (qOp qPow (qC (.int 10)) (qC (.int 12))))) (qCall (sp_law_part A) (qCons (qVar 1) (qCons (qVar 10) qNil))) (qVar 10)))
    (sSeq (sExpr (qMeth A.Buffer "give" (sp_Buffer_give A) (qVar 7) (qCons (qVar 21) qNil)))
    (sSeq (sPar 10 13 (qCons (qCall (sp_law_rest A) (qCons (qVar 10) (qCons (qVar 21) qNil))) (qCons (qCall (sp_law_sum A) (qCons (qVar 13) (qCons (qVar 21) qNil))) qNil)))
    (sSeq (sSub (qVar 8) (qVar 15) (qCall (sp_law_rest A) (qCons (qVar 4) (qCons (qVar 10) qNil))))
    (sIf (qOr (qNot (qB (qCall (sp_law_same 4 A) (qCons (qProp A.Buffer (sp_Buffer_held A) (qVar 7)) (qCons (qVar 10) qNil))))) (qNot (qB (qCall (sp_law_parts_agree A) (qCons (qTup (qCons (qVar 5) (qCons (qVar 7) (qCons (qVar 4) qNil)))) (qCons (qVar 15) (qCons (qVar 12) (qCons (qVar 13) qNil)))))))) (sRet (qC (.bl false))) sNext))))))))))
def t3 (A : Adr) : QS :=
  (sSeq (sExpr (qMeth A.Buffer "give" (sp_Buffer_give A) (qVar 7) (qCons (qVar 21) qNil)))
    (sSeq (sPar 10 13 (qCons (qCall (sp_law_rest A) (qCons (qVar 10) (qCons (qVar 21) qNil))) (qCons (qCall (sp_law_sum A) (qCons (qVar 13) (qCons (qVar 21) qNil))) qNil)))
    (sSeq (sSub (qVar 8) (qVar 15) (qCall (sp_law_rest A) (qCons (qVar 4) (qCons (qVar 10) qNil))))
    (sIf (qOr (qNot (qB (qCall (sp_law_same 4 A) (qCons (qProp A.Buffer (sp_Buffer_held A) (qVar 7)) (qCons (qVar 10) qNil))))) (qNot (qB (qCall (sp_law_parts_agree A) (qCons (qTup (qCons (qVar 5) (qCons (qVar 7) (qCons (qVar 4) qNil)))) (qCons (qVar 15) (qCons (qVar 12) (qCons (qVar 13) qNil)))))))) (sRet (qC (.bl false))) sNext))))
end K33
namespace K33
open PySem PySem.Spec PyProof.Rows L2 L3 L4 PA
open Rat (divInt)
/-- the law's names: behind the first fifteen what a turn sets -/
def SL (c0 : Option D) (b : Addr) (way age : Nat) (top : Rat) (aw hh bb nd sd : Addr) (he most so out : Rat) (eg : Bool) (r : DSt) : DSt :=
  [c0, some (.ref b), some (.int way), some (.int age), some (am top), some (.ref aw), some (.ref hh), some (.ref bb), some (.ref nd), some (.ref sd), some (am he), some (am most), some (am so), some (am out), some (.bl eg)] ++ r
/-- behind the sends of tick n -/
structure Mid (A : Adr) (m : Mem) (b aw dw hh dh bb nd sd : Addr) (way age : Nat) (top : Rat) (g h : Nat → Rat) (he most : Rat) (n : Nat) : Prop where
  bag : m b = some (.any C13.BagP)
  wire : WireAt A.Wire m aw dw way (tabG g (n + 1))
  hop : ∃ c : Int, c ≤ (n : Int) + 1 - age - way ∧ HopAt A.Hop m hh dh way age ((tabG g (n + 1)).filter (cutF c))
  buf : BufAt A.Buffer m bb top he most
  notes : m nd = some (.dK (tabD (tabN top h n)))
  sends : m sd = some (.dK (tabD (tabG g (n + 1))))
  n1 : dw ≠ dh
  n2 : dw ≠ nd
  n3 : dw ≠ sd
  n4 : dh ≠ nd
  n5 : dh ≠ sd
  n6 : nd ≠ sd
  n7 : aw ≠ hh
  n8 : aw ≠ bb
  n9 : hh ≠ bb
/-- the amounts behind the sends; nx: what is wanted behind the turn -/
theorem rd_t3 (A : Adr) {E : DE} {m : Mem} {b aw dw hh dh bb nd sd : Addr} {way age : Nat} {top : Rat} {g h : Nat → Rat} {he most so out pt : Rat} {n : Nat} {c0 : Option D} {eg : Bool} {c16 c17 c18 c19 c20 c22 : Option D}
    (S : Mid A m b aw dw hh dh bb nd sd way age top g h he most n) (hw : way < 1000) (hn : n ≤ 45)
    (og : ∀ j, Okb (NN (n + 1)) 100 (g j)) (oh : Okb (NN (n + 1)) 100 he) (op : Okb (NN (n + 1)) 100 pt) (hp : pt ≤ he) (ot : Okb (NN (n + 1)) 100 top) (oo : Okb (NN (n + 1)) 5000 out)
    (hfit : he - pt + (pre g (n + 1) - pre g (n + 1 - way)) ≤ top) (hle : he ≤ top) (hsum : out + he = pre g (n + 1 - way)) (hso : so = pre g (n + 1))
    (hE : ∀ (m' : Mem) (r : DSt), r.length = 8 → St A m' b aw dw hh dh bb nd sd way age top g (updG h (n + 1) (he - pt)) (out + pt) most (n + 1) → E.nx (SL c0 b way age top aw hh bb nd sd (he - pt) most so (out + pt) eg r) m') :
    t3 A E (SL c0 b way age top aw hh bb nd sd he most so out eg [some (.int (n : Int)), c16, c17, c18, c19, c20, some (am pt), c22]) m := by
  have hN : (NN (n + 1)).log2 < 1000 := NN_log (by omega)
  have h0 := NN_pos (n + 1)
  have bh := oh.bg h0 (by omega) (by decide)
  have bp := op.bg h0 (by omega) (by decide)
  have bt := ot.bg h0 (by omega) (by decide)
  have bo := oo.bg h0 (by omega) (by decide)
  have e1 : L4.rest he pt = he - pt := rest_pos hp
  have n0 : 0 ≤ he - pt := by grind
  have o2 : Okb (NN (n + 1)) 100 (he - pt) := ⟨n0, by have := oh.le; have := op.nn; grind, oh.dn.sub op.dn⟩
  have l2 : he - pt ≤ top := by have := op.nn; grind
  have e2 : L4.rest top (he - pt) = top - (he - pt) := rest_pos l2
  obtain ⟨c, hc, hop⟩ := S.hop
  -- give
  refine ⟨_, S.buf, rfl, bb, top, he, most, pt, rfl, S.buf, bh, bp, hp, fun m1 hb1 k1 => ?_⟩
  -- here, out
  refine ⟨he, pt, rfl, oh.nn, op.nn, bh, bp, out, pt, rfl, oo.nn, op.nn, bo, bp, ?_⟩
  rw [e1]
  -- notes
  refine ⟨top, he - pt, rfl, ot.nn, n0, bt, o2.bg h0 (by omega) (by decide), ?_⟩
  rw [e2]
  have k1' : ∀ {a : Addr} {o : AO}, m a = some o → (∀ fs C, o ≠ .ins C fs) → m1 a = some o := fun {a o} e hno => k1 a o (fun z => by
    subst z
    have := S.buf
    unfold BufAt at this
    rw [this] at e
    exact hno _ _ (Option.some.inj e).symm) e
  have w1 : WireAt A.Wire m1 aw dw way (tabG g (n + 1)) := ⟨k1 _ _ S.n8 S.wire.ob, k1' S.wire.dc (fun _ _ z => by cases z)⟩
  have hop1 : HopAt A.Hop m1 hh dh way age ((tabG g (n + 1)).filter (cutF c)) := ⟨k1 _ _ S.n9 hop.ob, k1' hop.dc (fun _ _ z => by cases z)⟩
  have nt1 : m1 nd = some (.dK (tabD (tabN top h n))) := k1' S.notes (fun _ _ z => by cases z)
  have sd1 : m1 sd = some (.dK (tabD (tabG g (n + 1)))) := k1' S.sends (fun _ _ z => by cases z)
  have bag1 : m1 b = some (.any C13.BagP) := k1' S.bag (fun _ _ z => by cases z)
  refine Or.inr ⟨_, Sum.inl (n : Int), nt1, rfl, by show _ < 16777216; rw [tabD_len, tabN_len]; omega, ?_⟩
  rw [tab_put, tabN_put]
  -- the state behind
  have m2 := fun a o (hne : a ≠ nd) (e : m1 a = some o) => (show mset m1 nd (.dK (tabD (tabN top (updG h (n + 1) (he - pt)) (n + 1)))) a = some o by rw [mset_ne hne]; exact e)
  have x1 : aw ≠ nd := ne_obj w1.ob nt1 (fun z => by cases z)
  have x2 : hh ≠ nd := ne_obj hop1.ob nt1 (fun z => by cases z)
  have x3 : bb ≠ nd := ne_obj hb1 nt1 (fun z => by cases z)
  have x4 : b ≠ nd := ne_obj bag1 nt1 (fun z => by cases z)
  have w2 : WireAt A.Wire (mset m1 nd (.dK (tabD (tabN top (updG h (n + 1) (he - pt)) (n + 1))))) aw dw way (tabG g (n + 1)) := ⟨m2 _ _ x1 w1.ob, m2 _ _ S.n2 w1.dc⟩
  have hop2 : HopAt A.Hop (mset m1 nd (.dK (tabD (tabN top (updG h (n + 1) (he - pt)) (n + 1))))) hh dh way age ((tabG g (n + 1)).filter (cutF c)) := ⟨m2 _ _ x2 hop1.ob, m2 _ _ S.n4 hop1.dc⟩
  have b2 : BufAt A.Buffer (mset m1 nd (.dK (tabD (tabN top (updG h (n + 1) (he - pt)) (n + 1))))) bb top (he - pt) most := m2 _ _ x3 hb1
  have un : PA.under (tabG g (n + 1)) (way : Int) (n : Int) = pre g (n + 1) - pre g (n + 1 - way) := by
    have := under_tabG g (n + 1) way
    rwa [show ((n + 1 : Nat) : Int) - 1 = n by omega] at this
  refine ⟨⟨_, b2⟩, bb, top, he - pt, most, rfl, b2, am (he - pt), rfl, flat_am _ _, qif_f rfl ?_⟩
  refine ⟨by show 3 ≤ 16777216; decide, aw, dw, bb, way, n, tabG g (n + 1), top, he - pt, most, top, so, out + pt, NN (n + 1), 5100, rfl, w2, b2, fun p hp => ?_, h0, by omega, by decide, by omega, by omega, by omega, by omega, o2.up (by decide), ot.up (by decide), oo.add op, l2, ?_, qif_f rfl ?_⟩
  · obtain ⟨j, _, rfl⟩ := tabG_mem hp
    exact (og j).up (by decide)
  · rw [un, hso]; grind
  · refine hE _ _ rfl ⟨m2 _ _ x4 bag1, w2, ⟨c, by omega, hop2⟩, ?_, mset_same, m2 _ _ (Ne.symm S.n6) sd1, S.n1, S.n2, S.n3, S.n4, S.n5, S.n6, S.n7, S.n8, S.n9⟩
    rw [updG_eq]; exact b2
/-- the frame of a turn -/
structure Fr (A : Adr) (m : Mem) (b aw dw hh dh bb nd sd : Addr) (way age : Nat) (top he most : Rat) (tw th tn ts : Tab) : Prop where
  bag : m b = some (.any C13.BagP)
  wire : WireAt A.Wire m aw dw way tw
  hop : HopAt A.Hop m hh dh way age th
  buf : BufAt A.Buffer m bb top he most
  notes : m nd = some (.dK (tabD tn))
  sends : m sd = some (.dK (tabD ts))
  n1 : dw ≠ dh
  n2 : dw ≠ nd
  n3 : dw ≠ sd
  n4 : dh ≠ nd
  n5 : dh ≠ sd
  n6 : nd ≠ sd
  n7 : aw ≠ hh
  n8 : aw ≠ bb
  n9 : hh ≠ bb
theorem mn_le (p q : Rat) : mn p q ≤ q := by unfold mn; split <;> grind
theorem mn_nn {p q : Rat} (h : 0 ≤ p) (k : 0 ≤ q) : 0 ≤ mn p q := by unfold mn; split <;> assumption
theorem pre_upd {g : Nat → Rat} {n : Nat} {q : Rat} {k : Nat} (h : k ≤ n) : pre (updG g n q) k = pre g k := pre_congr fun j hj => updG_lt (by omega)
theorem pre_upd1 {g : Nat → Rat} {n : Nat} {q : Rat} : pre (updG g n q) (n + 1) = pre g n + q := by
  show pre (updG g n q) n + updG g n q n = _
  rw [pre_upd (Nat.le_refl n), updG_eq]
theorem cut_put {g : Nat → Rat} {n : Nat} {q : Rat} {c d : Int} (hc : c ≤ n) (hd : d ≤ n) : putT (((tabG g n).filter (cutF c)).filter (cutF d)) n q = (tabG (updG g n q) (n + 1)).filter (cutF (max c d)) := by
  have e : ((tabG g n).filter (cutF c)).filter (cutF d) = (tabG g n).filter (cutF (max c d)) := by
    rw [List.filter_filter]
    apply List.filter_congr
    intro p _
    unfold cutF
    rw [← Bool.decide_and]
    congr 1
    exact propext ⟨fun z => by omega, fun z => by omega⟩
  rw [e, put_filter (by omega), tabG_put]
theorem rd_t2 (A : Adr) {E : DE} {m : Mem} {b aw dw hh dh bb nd sd : Addr} {way age : Nat} {top : Rat} {g h : Nat → Rat} {he most so out w r : Rat} {n : Nat} {c : Int} {c0 : Option D} {eg : Bool} {c16 c17 c20 c21 c22 : Option D}
    (F : Fr A m b aw dw hh dh bb nd sd way age top he most (tabG g n) ((tabG g n).filter (cutF c)) (tabN top h n) (tabG g n)) (hc : c ≤ (n : Int) - age - way) (hw : way < 1000) (hw1 : 1 ≤ way) (hn : n ≤ 45)
    (og : ∀ j, Okb (NN n) 100 (g j)) (oh : Okb (NN n) 100 he) (ot : Okb (NN n) 100 top) (oo : Okb (NN n) 5000 out) (os : Okb (NN n) 5000 so) (ow : Okb (NN n) 1000 w) (orr : Okb (NN n) 100 r)
    (hfit : he + (pre g n + r - pre g (n + 1 - way)) ≤ top) (hle : he ≤ top) (hsum : out + he = pre g (n + 1 - way)) (hso : so = pre g n)
    (hE : ∀ (m' : Mem) (dh' : Addr) (r' : DSt) (q pt : Rat), r'.length = 8 → Okb (NN n) 100 q → Okb (NN (n + 1)) 100 pt → pt ≤ he → he + (pre g n + q - pre g (n + 1 - way)) ≤ top →
      St A m' b aw dw hh dh' bb nd sd way age top (updG g n q) (updG h (n + 1) (he - pt)) (out + pt) most (n + 1) → E.nx (SL c0 b way age top aw hh bb nd sd (he - pt) most (so + q) (out + pt) eg r') m') :
    t2 A E (SL c0 b way age top aw hh bb nd sd he most so out eg [some (.int (n : Int)), c16, c17, some (am w), some (am r), c20, c21, c22]) m := by
  have hN : (NN n).log2 < 1000 := NN_log (by omega)
  have h0 := NN_pos n
  have bh := oh.bg h0 (by omega) (by decide)
  refine ⟨w, r, rfl, ow.bg h0 (by omega) (by decide), orr.bg h0 (by omega) (by decide), ?_⟩
  have q0 : 0 ≤ mn w r := mn_nn ow.nn orr.nn
  have q1 : mn w r ≤ r := mn_le w r
  have qd : Dn (NN n) (mn w r) := by unfold mn; split; exact orr.dn; exact ow.dn
  have oq : Okb (NN n) 100 (mn w r) := ⟨q0, Rat.le_trans q1 orr.le, qd⟩
  generalize mn w r = q at q0 q1 qd oq
  have bq := oq.bg h0 (by omega) (by decide)
  -- remember
  refine ⟨_, F.hop.ob, rfl, hh, dh, way, age, n, (tabG g n).filter (cutF c), q, rfl, F.hop, Nat.le_trans (List.length_filter_le _ _) (by rw [tabG_len]; omega), nd_filter _ (tabG_nd g n), fun dh' m1 hd' hp1 k1 => ?_⟩
  rw [cut_put (by omega) (by omega)] at hp1
  have K1 : ∀ {a : Addr} {o : AO}, a ≠ hh → a ≠ dh → m a = some o → m1 a = some o := fun {a o} x y e => k1 a o (fun z => z.elim x y) e
  have w1 : WireAt A.Wire m1 aw dw way (tabG g n) := ⟨K1 F.n7 (ne_obj F.wire.ob F.hop.dc (fun z => by cases z)) F.wire.ob, K1 (ne_obj F.wire.dc F.hop.ob (fun z => by cases z)) F.n1 F.wire.dc⟩
  have bf1 : m1 bb = _ := K1 (Ne.symm F.n9) (ne_obj F.buf F.hop.dc (fun z => by cases z)) F.buf
  have nt1 : m1 nd = _ := K1 (ne_obj F.notes F.hop.ob (fun z => by cases z)) (Ne.symm F.n4) F.notes
  have sd1 : m1 sd = _ := K1 (ne_obj F.sends F.hop.ob (fun z => by cases z)) (Ne.symm F.n5) F.sends
  have bg1 : m1 b = _ := K1 (ne_obj F.bag F.hop.ob (fun z => by cases z)) (ne_obj F.bag F.hop.dc (fun z => by cases z)) F.bag
  have d1 : dw ≠ dh' := ne_none F.wire.dc hd'
  have d4 : dh' ≠ nd := Ne.symm (ne_none F.notes hd')
  have d5 : dh' ≠ sd := Ne.symm (ne_none F.sends hd')
  -- put
  refine ⟨_, w1.ob, rfl, aw, dw, way, n, tabG g n, q, rfl, w1, by rw [tabG_len]; omega, fun m2 hw2 k2 => ?_⟩
  rw [tabG_put] at hw2
  have hp2 : HopAt A.Hop m2 hh dh' way age _ := ⟨k2 _ _ (Ne.symm (ne_obj w1.dc hp1.ob (fun z => by cases z))) hp1.ob, k2 _ _ (Ne.symm d1) hp1.dc⟩
  have bf2 : m2 bb = _ := k2 _ _ (Ne.symm (ne_obj w1.dc bf1 (fun z => by cases z))) bf1
  have nt2 : m2 nd = _ := k2 _ _ (Ne.symm F.n2) nt1
  have sd2 : m2 sd = _ := k2 _ _ (Ne.symm F.n3) sd1
  have bg2 : m2 b = _ := k2 _ _ (Ne.symm (ne_obj w1.dc bg1 (fun z => by cases z))) bg1
  -- sends
  refine Or.inr ⟨_, Sum.inl (n : Int), sd2, rfl, by show _ < 16777216; rw [tabD_len, tabG_len]; omega, ?_⟩
  rw [tab_put, tabG_put]
  have m3 := fun a o (hne : a ≠ sd) (e : m2 a = some o) => (show mset m2 sd (.dK (tabD (tabG (updG g n q) (n + 1)))) a = some o by rw [mset_ne hne]; exact e)
  have S3 : Mid A (mset m2 sd (.dK (tabD (tabG (updG g n q) (n + 1))))) b aw dw hh dh' bb nd sd way age top (updG g n q) h he most n :=
    ⟨m3 _ _ (ne_obj bg2 sd2 (fun z => by cases z)) bg2, ⟨m3 _ _ (ne_obj hw2.ob sd2 (fun z => by cases z)) hw2.ob, m3 _ _ F.n3 hw2.dc⟩,
      ⟨max c ((n : Int) - age - way), by omega, ⟨m3 _ _ (ne_obj hp2.ob sd2 (fun z => by cases z)) hp2.ob, m3 _ _ d5 hp2.dc⟩⟩, m3 _ _ (ne_obj bf2 sd2 (fun z => by cases z)) bf2,
      m3 _ _ F.n6 nt2, mset_same, d1, F.n2, F.n3, d4, d5, F.n6, F.n7, F.n8, F.n9⟩
  -- sent
  refine ⟨so, q, rfl, os.nn, oq.nn, os.bg h0 (by omega) (by decide), bq, ?_⟩
  have og' : ∀ j, Okb (NN (n + 1)) 100 (updG g n q j) := fun j => by
    unfold updG
    split
    · exact ⟨oq.nn, oq.le, dn_up oq.dn⟩
    · exact ⟨(og j).nn, (og j).le, dn_up (og j).dn⟩
  have go : ∀ pt, Okb (NN (n + 1)) 100 pt → pt ≤ he → t3 A E (SL c0 b way age top aw hh bb nd sd he most (so + q) out eg [some (.int (n : Int)), c16, c17, some (am w), some (am r), some (am q), some (am pt), c22]) (mset m2 sd (.dK (tabD (tabG (updG g n q) (n + 1))))) := fun pt op hp =>
    rd_t3 A S3 hw hn og' ⟨oh.nn, oh.le, dn_up oh.dn⟩ op hp ⟨ot.nn, ot.le, dn_up ot.dn⟩ ⟨oo.nn, oo.le, dn_up oo.dn⟩ (by rw [pre_upd1, pre_upd (by omega)]; have := op.nn; grind) hle (by rw [pre_upd (by omega)]; exact hsum) (by rw [pre_upd1, hso])
      fun m' r' hr st => hE m' dh' r' q pt hr oq op hp (by grind) st
  -- the part taken out
  refine ⟨_, rfl, ⟨by decide, by decide, by decide⟩, fun n12 _ => ?_⟩
  refine qif (fun _ => ?_) (fun _ => ?_)
  · refine ⟨b, he, rfl, S3.bag, oh.nn, bh, fun pt p0 p1 pd => go pt ⟨p0, Rat.le_trans p1 oh.le, ?_⟩ p1⟩
    rw [NN_succ]; exact pd _ oh.dn
  · exact go he ⟨oh.nn, oh.le, dn_up oh.dn⟩ Rat.le_refl
end K33
namespace K33
open PySem PySem.Spec PyProof.Rows L2 L3 L4 PA
open Rat (divInt)
theorem tabG_ok {N M : Nat} {g : Nat → Rat} {n : Nat} (h : ∀ j, Okb N M (g j)) (hn : n ≤ 1000) : TabOk N M (tabG g n) := ⟨tabG_nd g n, fun p hp => by
  obtain ⟨j, _, rfl⟩ := tabG_mem hp
  exact h j, by rw [tabG_len]; exact hn⟩
theorem filt_ok {N M : Nat} {t : Tab} (f : Int × Rat → Bool) (h : TabOk N M t) : TabOk N M (t.filter f) := ⟨nd_filter f h.nd, fun p hp => h.ok p (List.mem_filter.mp hp).1, Nat.le_trans (List.length_filter_le _ _) h.len⟩
theorem note_at {nd : Addr} {m : Mem} {top : Rat} {h : Nat → Rat} {n : Nat} {k : Int} {v : Rat} (hm : m nd = some (.dK (tabD (tabN top h n)))) (hg : getT (tabN top h n) k = some v) : dGet m nd (.int k) (some (am v)) :=
  ⟨_, Sum.inl k, .inl hm, rfl, by rw [tab_get, hg]; rfl⟩
theorem rd_t1 (A : Adr) {E : DE} {m : Mem} {b aw dw hh dh bb nd sd : Addr} {way age : Nat} {top : Rat} {g h : Nat → Rat} {he most so out w : Rat} {n : Nat} {c e : Int} {c0 : Option D} {eg : Bool} {c16 c19 c20 c21 c22 : Option D}
    (F : Fr A m b aw dw hh dh bb nd sd way age top he most (tabG g n) ((tabG g n).filter (cutF c)) (tabN top h n) (tabG g n)) (hc : c ≤ (n : Int) - age - way) (hw : way < 1000) (hw1 : 1 ≤ way) (hn : n ≤ 45) (hage : age ≤ 100)
    (og : ∀ j, Okb (NN n) 100 (g j)) (oh : Okb (NN n) 100 he) (ot : Okb (NN n) 100 top) (oo : Okb (NN n) 5000 out) (os : Okb (NN n) 5000 so) (ow : Okb (NN n) 1000 w)
    (hh0 : ∀ k, k ≤ n → 0 ≤ h k ∧ h k ≤ top ∧ Dn (NN n) (h k)) (hfit0 : he + (pre g n - pre g (n + 1 - way)) ≤ top) (hacc : ∀ k, k ≤ n → he - pre g (n + 1 - way) ≤ h k - pre g (k - way)) (hle : he ≤ top) (hsum : out + he = pre g (n + 1 - way)) (hso : so = pre g n) (he0 : 0 ≤ e) (he1 : e ≤ age)
    (hE : ∀ (m' : Mem) (dh' : Addr) (r' : DSt) (q pt : Rat), r'.length = 8 → Okb (NN n) 100 q → Okb (NN (n + 1)) 100 pt → pt ≤ he → he + (pre g n + q - pre g (n + 1 - way)) ≤ top →
      St A m' b aw dw hh dh' bb nd sd way age top (updG g n q) (updG h (n + 1) (he - pt)) (out + pt) most (n + 1) → E.nx (SL c0 b way age top aw hh bb nd sd (he - pt) most (so + q) (out + pt) eg r') m') :
    t1 A E (SL c0 b way age top aw hh bb nd sd he most so out eg [some (.int (n : Int)), c16, some (.int ((n : Int) - 1 - e)), some (am w), c19, c20, c21, c22]) m := by
  have hN : (NN n).log2 < 1000 := NN_log (by omega)
  have h0 := NN_pos n
  have go : ∀ (r : Rat) (c22 : Option D), Okb (NN n) 100 r → he + (pre g n + r - pre g (n + 1 - way)) ≤ top → t2 A E (SL c0 b way age top aw hh bb nd sd he most so out eg [some (.int (n : Int)), c16, some (.int ((n : Int) - 1 - e)), some (am w), some (am r), c20, c21, c22]) m := fun r c22 orr hf =>
    rd_t2 A F hc hw hw1 hn og oh ot oo os ow orr hf hle hsum hso hE
  have go0 := go 0 c22 (Okb.zero _ _) (by grind)
  refine ⟨by show 2 ≤ 16777216; decide, ?_⟩
  refine Or.inl ⟨_, ⟨_, _, .inl F.notes, rfl, rfl⟩, ?_⟩
  refine qif (fun x1 => ?_) (fun _ => qif_f rfl go0)
  refine qif (fun x2 => ?_) (fun _ => go0)
  have x2 : (n : Int) - age ≤ (n : Int) - 1 - e := dec_t x2
  have x1 : (valD (tabD (tabN top h n)) (Sum.inl ((n : Int) - 1 - e))).isSome = true := x1
  rw [tab_get, getT_tabN] at x1
  have hk : 0 ≤ (n : Int) - 1 - e + 1 ∧ (n : Int) - 1 - e < n := by
    by_cases z : 0 ≤ (n : Int) - 1 - e + 1 ∧ (n : Int) - 1 - e < n
    · exact z
    · rw [if_neg z] at x1; cases x1
  obtain ⟨k, hke⟩ : ∃ k : Nat, (n : Int) - 1 - e + 1 = k := ⟨((n : Int) - 1 - e + 1).toNat, by omega⟩
  have hkn : k ≤ n := by omega
  have hv : getT (tabN top h n) ((n : Int) - 1 - e) = some (top - h k) := by
    rw [getT_tabN, if_pos hk]
    have : ((n : Int) - 1 - e + 1).toNat = k := by omega
    rw [this]
  obtain ⟨k0, k1, k2⟩ := hh0 k hkn
  have ov : Okb (NN n) 100 (top - h k) := ⟨by grind, by have := ot.le; grind, ot.dn.sub k2⟩
  generalize hmd : (n : Int) - 1 - e = md at *
  have hlo : (md - way + 1).toNat = k - way := by omega
  have hX : taken (tabG g n) (md - way) n = pre g n - pre g (k - way) := by
    rw [taken_tabG g (md - way) n n (Int.le_refl _), hlo, if_pos (by omega)]
  have okG := tabG_ok og (n := n) (by omega)
  have oX : Okb (NN n) (1000 * 100) (taken (tabG g n) (md - way) n) := taken_ok okG _ _
  have bX := oX.bg h0 (by omega) (by decide)
  have bv := ov.bg h0 (by omega) (by decide)
  have eT : taken ((tabG g n).filter (cutF c)) (md - way) n = taken (tabG g n) (md - way) n := taken_cut (by omega)
  -- the room by the law's own sum
  refine Or.inr ⟨am (top - h k), note_at F.notes hv, sd, _, F.sends, _, mset_same, ?_⟩
  refine lc_by (fun i acc => acc = ((((tabG g n).take i).filter (inW (md - way) n)).map (·.2)).map am) rfl ?_ ?_ ?_
  · intro a o ha
    obtain ⟨had, ha⟩ := mset_none ha
    rw [mset_ne (Ne.symm had), mset_same]
  · rintro i dd acc a ha hd hl' rfl
    rw [keys_tab] at hd
    obtain ⟨p, hi', rfl⟩ := get_map hd
    obtain ⟨had, ha'⟩ := mset_none ha
    have hil : i < n := by have := (List.getElem?_eq_some_iff.mp hi').1; rw [tabG_len] at this; exact this
    have hin : decide (p.1 < (n : Int)) = true := by
      obtain ⟨j, hj, rfl⟩ := tabG_mem (List.mem_of_getElem? hi')
      exact decide_eq_true (show (j : Int) < n by omega)
    refine qif (fun w1 => ?_) (fun w1 => ?_)
    · refine Or.inr ⟨_, ⟨_, _, .inr (by rw [mset_ne (Ne.symm had), mset_same]), rfl, (tab_val (tabG_nd g n) (List.mem_of_getElem? hi')).symm⟩, ?_⟩
      refine lc_ok hl' (by show i < 16777216; omega) ?_
      have e : inW (md - way) n p = true := by unfold inW; rw [hin, Bool.and_true]; exact w1
      rw [take_filter_more hi', if_pos e, List.map_append, List.map_append]; rfl
    · refine lc_skip hl' ?_
      have e : ¬ inW (md - way) n p = true := by unfold inW; rw [hin, Bool.and_true]; exact fun z => by rw [show decide (md - way < p.1) = false from w1] at z; cases z
      rw [take_filter_more hi', if_neg e, List.append_nil]
  · rintro acc a ha hl' rfl
    obtain ⟨had, ha'⟩ := mset_none ha
    refine ⟨_, by rw [mset_ne had, mset_same], ?_⟩
    rw [keys_tab, List.length_map] at *
    rw [List.take_of_length_le (Nat.le_refl _)] at *
    rw [lock_lst F.sends ha' had]
    refine ⟨((tabG g n).filter (inW (md - way) n)).map fun p : Int × Rat => p.2, NN n, 100, rfl, ?_, ?_, h0, by omega, by decide, ?_⟩
    · rintro q hq
      obtain ⟨p, hp', rfl⟩ := List.mem_map.mp hq
      exact okG.ok p (List.mem_filter.mp hp').1
    · rw [List.length_map]
      have := List.length_filter_le (inW (md - way) n) (tabG g n)
      rw [tabG_len] at this
      omega
    · refine ⟨top - h k, taken (tabG g n) (md - way) n, rfl, ov.nn, oX.nn, bv, bX, ?_⟩
      -- the hop's own
      refine ⟨_, F.hop.ob, rfl, Or.inr ⟨am (top - h k), note_at F.notes hv, ?_⟩⟩
      refine ⟨hh, dh, way, age, n, md, _, top - h k, NN n, 100, rfl, F.hop, filt_ok _ okG, h0, by omega, by decide, bv, ?_⟩
      refine ⟨am (L4.rest (top - h k) (taken (tabG g n) (md - way) n)), by rw [eT], flat_am _ _, qif_f rfl ?_⟩
      refine go _ c22 (rest_ok ov oX.nn oX.dn) ?_
      have a1 := hacc k hkn
      unfold L4.rest
      split
      · rw [hX]; grind
      · grind
end K33
namespace K33
open PySem PySem.Spec PyProof.Rows L2 L3 L4 PA
open Rat (divInt)
theorem len_law : ∀ ds m Φ, lspLaw ds m Φ → ds.length = 1 := by rintro _ _ _ ⟨_, rfl, _⟩; rfl
theorem grows_new {m m' : Mem} {p : Addr} {o : AO} (hp : m p = none) (k : Keeps (mset m p o) m' (fun a => a = p)) : Grows m m' := fun a u _ e => k a u (ne_none e hp) (by rw [mset_ne (ne_none e hp)]; exact e)
def tb (A : Adr) : QS :=
  (sSeq (sAsg (.nm 16) (qDGet2 (qVar 9) (qOp (qI0 fun i j => .int (i - j)) (qVar 15) (qVar 2)) (qTup (qCons (qC (.int 0)) (qCons (qC (.int 1)) qNil)))))
    (sSeq (sIf (qOr (qNot (qB (qCall (sp_law_same 4 A) (qCons (qMeth A.Wire "arriving" (sp_Wire_arriving A) (qVar 5) (qCons (qVar 15) qNil)) (qCons (qVar 16) qNil))))) (qNot (qB (qCall (sp_law_same 4 A) (qCons (qMeth A.Buffer "take_in" (sp_Buffer_take_in A) (qVar 7) (qCons (qVar 16) qNil)) (qCons (qTup (qCons (qC (.int 0)) (qCons (qC (.int 1)) qNil))) qNil)))))) (sRet (qC (.bl false))) sNext)
    (sSeq (sAsg (.nm 10) (qCall (sp_law_sum A) (qCons (qVar 10) (qCons (qVar 16) qNil))))
    (sSeq (sAsg (.nm 11) (qCall (sp_law_max A) (qCons (qVar 11) (qCons (qVar 10) qNil))))
    (sSeq (sAsg (.nm 17) (qOp (qI0 fun i j => .int (i - j)) (qOp (qI0 fun i j => .int (i - j)) (qVar 15) (qC (.int 1))) (qCall (sp_law_draw A) (qCons (qVar 1) (qCons (qOp qAdd (qVar 3) (qC (.int 1))) qNil)))))
    (sSeq (sAsg (.nm 18) (qIfE (qTru (qVar 14)) (qTup (qCons (qC (.int 1000)) (qCons (qC (.int 1)) qNil))) (qCall (sp_law_of A) (qCons (qVar 1) (qCons (qLstF (qCons (qCall (sp_law_some A) (qCons (qVar 1) (qCons (qC (.int 9)) qNil))) (qCons (qTup (qCons (qC (.int 0)) (qCons (qC (.int 1)) qNil))) (qCons (qTup (qCons (qC (.int 1000)) (qCons (qC (.int 1)) qNil))) (qCons (qCall (sp_law_some A) (qCons (qVar 1) (qCons (qC (.int 3)) qNil))) qNil))))) qNil)))))
    (t1 A)))))))
/-- a turn -/
theorem rd_turn (A : Adr) {E : DE} {m : Mem} {b aw dw hh dh bb nd sd : Addr} {way age : Nat} {top : Rat} {g h : Nat → Rat} {out most : Rat} {n : Nat} {c0 : Option D} {eg : Bool} {r : DSt} (hr : r.length = 8)
    (s : St A m b aw dw hh dh bb nd sd way age top g h out most n) (a : Am way age top g h out most n) (hw : way < 1000) (hw1 : 1 ≤ way) (hn : n ≤ 45) (hage : age ≤ 100)
    (hE : ∀ (m' : Mem) (dh' : Addr) (g' h' : Nat → Rat) (out' most' : Rat) (r' : DSt), r'.length = 8 → St A m' b aw dw hh dh' bb nd sd way age top g' h' out' most' (n + 1) → Am way age top g' h' out' most' (n + 1) →
      E.nx (SL c0 b way age top aw hh bb nd sd (h' (n + 1)) most' (pre g' (n + 1)) out' eg r') m') :
    tb A E (SL c0 b way age top aw hh bb nd sd (h n) most (pre g n) out eg (r.set 0 (some (.int (n : Int))))) m := by
  obtain ⟨r0, r1, r2, r3, r4, r5, r6, r7, rfl⟩ : ∃ r0 r1 r2 r3 r4 r5 r6 r7, r = [r0, r1, r2, r3, r4, r5, r6, r7] := by
    match r, hr with | [r0, r1, r2, r3, r4, r5, r6, r7], _ => exact ⟨_, _, _, _, _, _, _, _, rfl⟩
  have hN : (NN n).log2 < 1000 := NN_log (by omega)
  have h0 := NN_pos n
  obtain ⟨hn0, hn1, hn2⟩ := a.h0 n (Nat.le_refl n)
  have oh0 : Okb (NN n) 100 (h n) := ⟨hn0, Rat.le_trans hn1 a.tp.le, hn2⟩
  -- what comes
  refine ⟨⟨_, .inl s.sends⟩, by show 2 ≤ 16777216; decide, _, ⟨_, _, .inl s.sends, rfl, rfl⟩, ?_⟩
  rw [tab_get, getD_am]
  have ecm : (getT (tabG g n) ((n : Int) - way)).getD 0 = pre g (n + 1 - way) - pre g (n - way) := by
    have := atT_tabG g ((n : Int) - way) n
    unfold PA.atT at this
    rw [this]
    by_cases z : way ≤ n
    · rw [if_pos (by omega)]
      have e1 : ((n : Int) - way).toNat = n - way := by omega
      have e2 : n + 1 - way = (n - way) + 1 := by omega
      rw [e1, e2]
      show _ = pre g (n - way) + g (n - way) - pre g (n - way)
      grind
    · rw [if_neg (by omega)]
      have e1 : n + 1 - way = 0 := by omega
      have e2 : n - way = 0 := by omega
      rw [e1, e2]; grind
  have ocm : Okb (NN n) 100 ((getT (tabG g n) ((n : Int) - way)).getD 0) := atT_ok (t := tabG g n) (fun p hp => by obtain ⟨j, _, rfl⟩ := tabG_mem hp; exact a.g0 j) _
  have sA : ∀ x : Rat, (getT (tabG g n) ((n : Int) - way)).getD 0 = x → am ((getT (tabG g n) ((n : Int) - way)).getD 0) = am x := fun x e => by rw [e]
  -- arriving
  refine ⟨_, s.wire.ob, rfl, aw, dw, way, n, tabG g n, rfl, s.wire, am ((getT (tabG g n) ((n : Int) - way)).getD 0), rfl, flat_am _ _, qif_f rfl ?_⟩
  generalize (getT (tabG g n) ((n : Int) - way)).getD 0 = cm at *
  -- take_in: it never spills
  have mono1 : pre g (n + 1 - way) ≤ pre g n := pre_mono (fun j => (a.g0 j).nn) (by omega)
  have hfit1 : h n + cm ≤ top := by have := a.fit; grind
  have e1 : mn (h n + cm) top = h n + cm := if_neg (by grind)
  have e2 : L4.rest (h n + cm) top = 0 := by unfold L4.rest; split <;> grind
  have bt := a.tp.bg h0 (by omega) (by decide)
  have bm := a.most0.bg h0 (by omega) (by decide)
  refine ⟨_, s.buf, rfl, bb, top, h n, most, cm, NN n, 100, rfl, s.buf, oh0, ocm, h0, by omega, by decide, bt, bm, fun m1 hb1 k1 => ?_⟩
  rw [e1] at hb1
  refine ⟨by show 2 ≤ 16777216; decide, am 0, by rw [e2]; rfl, flat_am _ _, qif_f rfl ?_⟩
  -- here, most
  have ohe : Okb (NN n) 100 (h n + cm) := ⟨by have := ocm.nn; grind, Rat.le_trans hfit1 a.tp.le, oh0.dn.add ocm.dn⟩
  have bhe := ohe.bg h0 (by omega) (by decide)
  refine ⟨h n, cm, rfl, hn0, ocm.nn, oh0.bg h0 (by omega) (by decide), ocm.bg h0 (by omega) (by decide), ?_⟩
  refine ⟨most, h n + cm, rfl, bm, bhe, ?_⟩
  have om := mx_ok a.most0 ohe
  generalize mx most (h n + cm) = most1 at *
  -- the frame
  have K1 : ∀ {x : Addr} {o : AO}, x ≠ bb → m x = some o → m1 x = some o := fun {x o} hx e => k1 x o hx e
  obtain ⟨c, hc, hop⟩ := s.hop
  have bag1 : m1 b = some (.any C13.BagP) := K1 (ne_obj s.bag s.buf (fun z => by cases z)) s.bag
  have F : Fr A m1 b aw dw hh dh bb nd sd way age top (h n + cm) most1 (tabG g n) ((tabG g n).filter (cutF c)) (tabN top h n) (tabG g n) :=
    ⟨bag1, ⟨K1 s.n8 s.wire.ob, K1 (ne_obj s.wire.dc s.buf (fun z => by cases z)) s.wire.dc⟩, ⟨K1 s.n9 hop.ob, K1 (ne_obj hop.dc s.buf (fun z => by cases z)) hop.dc⟩, hb1, K1 (ne_obj s.notes s.buf (fun z => by cases z)) s.notes, K1 (ne_obj s.sends s.buf (fun z => by cases z)) s.sends,
      s.n1, s.n2, s.n3, s.n4, s.n5, s.n6, s.n7, s.n8, s.n9⟩
  -- made
  refine ⟨b, _, rfl, bag1, by omega, by omega, fun e e0 e1 => ?_⟩
  -- wish
  have osn := a.pre_ok (by omega) n (Nat.le_refl n)
  have oout : Okb (NN n) 5000 out := by
    have hs := a.sum
    have op := a.pre_ok (by omega) (n - way) (by omega)
    refine ⟨a.out0, by have := op.le; grind, ?_⟩
    have : out = pre g (n - way) - h n := by grind
    rw [this]; exact op.dn.sub hn2
  have go : ∀ (w : Rat), Okb (NN n) 1000 w → t1 A E (SL c0 b way age top aw hh bb nd sd (h n + cm) most1 (pre g n) out eg [some (.int (n : Int)), some (am cm), some (.int ((n : Int) - 1 - e)), some (am w), r4, r5, r6, r7]) m1 := fun w ow =>
    rd_t1 A F hc hw hw1 hn hage a.g0 ohe a.tp oout osn ow a.h0 (by have := a.fit; grind) (fun k hk => by have := a.acc k hk; grind) hfit1 (by have := a.sum; grind) rfl e0 (by omega)
      fun m' dh' r' q pt hr' oq op hp hf st => by
        have n0 : 0 ≤ h n + cm - pt := by grind
        have lt : h n + cm - pt ≤ top := by have := op.nn; grind
        have pm : ∀ k, k ≤ n → pre (updG g n q) k = pre g k := fun k hk => pre_upd hk
        have fit2 : h n + cm - pt + (pre (updG g n q) (n + 1) - pre (updG g n q) (n + 1 - way)) ≤ top := by
          rw [pre_upd1, pm _ (by omega)]; have := op.nn; grind
        have key : Am way age top (updG g n q) (updG h (n + 1) (h n + cm - pt)) (out + pt) most1 (n + 1) := by
          refine ⟨fun j => ?_, fun k hk => ?_, ⟨a.tp.nn, a.tp.le, dn_up a.tp.dn⟩, by rw [updG_eq]; exact fit2, fun k hk => ?_, ?_, by have := a.out0; have := op.nn; grind, ⟨om.nn, om.le, dn_up om.dn⟩, fun j hj => by rw [updG_lt (by omega)]; exact a.far j (by omega)⟩
          · unfold updG
            split
            · exact ⟨oq.nn, oq.le, dn_up oq.dn⟩
            · exact ⟨(a.g0 j).nn, (a.g0 j).le, dn_up (a.g0 j).dn⟩
          · by_cases z : k = n + 1
            · subst z
              rw [updG_eq]
              exact ⟨n0, lt, (dn_up ohe.dn).sub op.dn⟩
            · rw [updG_lt z]
              obtain ⟨z1, z2, z3⟩ := a.h0 k (by omega)
              exact ⟨z1, z2, dn_up z3⟩
          · rw [updG_eq, pm _ (by omega)]
            by_cases z : k = n + 1
            · subst z
              rw [updG_eq, pm _ (by omega)]; exact Rat.le_refl
            · rw [updG_lt z, pm _ (by omega)]
              have := a.acc k (by omega)
              have := op.nn
              grind
          · rw [updG_eq, pm _ (by omega)]
            have := a.sum
            grind
        have := hE m' dh' _ _ _ _ r' hr' st key
        rw [updG_eq, pre_upd1] at this
        exact this
  refine qif (fun _ => ?_) (fun _ => ?_)
  · refine ⟨by show 2 ≤ 16777216; decide, go (1000 : Int) ⟨?_, ?_, ?_⟩⟩
    · exact Rat.intCast_nonneg.mpr (by decide)
    · exact Rat.le_refl
    · exact ⟨1000 * NN n, by rw [Rat.intCast_mul, Rat.intCast_natCast]⟩
  · refine ⟨b, 9, rfl, bag1, by decide, fun q1 o1 => ?_⟩
    refine ⟨by show 2 ≤ 16777216; decide, by show 2 ≤ 16777216; decide, b, 3, rfl, bag1, by decide, fun q3 o3 => ?_⟩
    refine ⟨by show 4 ≤ 16777216; decide, b, _, bag1, by simp, by show 4 < 1000000; decide, .inl rfl, fun x hx => ?_⟩
    simp only [List.mem_cons, List.not_mem_nil, or_false] at hx
    rcases hx with rfl | rfl | rfl | rfl
    · exact go q1 ⟨o1.nn, (o1.up (show 9 ≤ 1000 by decide)).le, dn_30 n o1.dn⟩
    · exact go 0 (Okb.zero _ _)
    · refine go (1000 : Int) ⟨?_, ?_, ?_⟩
      · exact Rat.intCast_nonneg.mpr (by decide)
      · exact Rat.le_refl
      · exact ⟨1000 * NN n, by rw [Rat.intCast_mul, Rat.intCast_natCast]⟩
    · exact go q3 ⟨o3.nn, (o3.up (show 3 ≤ 1000 by decide)).le, dn_30 n o3.dn⟩
theorem mem4w {x : D} (hx : x ∈ [D.int 1, .int 2, .int 3, .int 5]) : ∃ w : Nat, x = .int w ∧ 1 ≤ w ∧ w ≤ 5 := by
  simp only [List.mem_cons, List.not_mem_nil, or_false] at hx
  rcases hx with rfl | rfl | rfl | rfl
  · exact ⟨1, rfl, by decide, by decide⟩
  · exact ⟨2, rfl, by decide, by decide⟩
  · exact ⟨3, rfl, by decide, by decide⟩
  · exact ⟨5, rfl, by decide, by decide⟩
theorem mem4a {x : D} (hx : x ∈ [D.int 1, .int 2, .int 3, .int 4]) : ∃ w : Nat, x = .int w ∧ 1 ≤ w ∧ w ≤ 4 := by
  simp only [List.mem_cons, List.not_mem_nil, or_false] at hx
  rcases hx with rfl | rfl | rfl | rfl
  · exact ⟨1, rfl, by decide, by decide⟩
  · exact ⟨2, rfl, by decide, by decide⟩
  · exact ⟨3, rfl, by decide, by decide⟩
  · exact ⟨4, rfl, by decide, by decide⟩
set_option maxHeartbeats 4000000 in
theorem rd_law (A : Adr) : ∀ ds m Φ, lspLaw ds m Φ → qb_law A (bodyW Φ) (begin_ 23 ds) m := by
  rintro _ m Φ ⟨ns, rfl, hl, hm, k⟩
  refine ⟨ns, rfl, hl, fun b hb => ?_⟩
  have bag0 : mset m b (.any C13.BagP) b = some (.any C13.BagP) := mset_same
  generalize mset m b (.any C13.BagP) = m0 at *
  refine ⟨by show 4 ≤ 16777216; decide, b, _, bag0, by simp, by decide, .inl rfl, fun x hx => ?_⟩
  obtain ⟨way, rfl, w0, w1⟩ := mem4w hx
  refine ⟨by show 4 ≤ 16777216; decide, b, _, bag0, by simp, by decide, .inl rfl, fun x hx => ?_⟩
  obtain ⟨age, rfl, a0, a1⟩ := mem4a hx
  refine ⟨by show 2 ≤ 16777216; decide, ?_⟩
  -- the top
  refine ⟨b, 9, rfl, bag0, by decide, fun q1 o1 => ⟨b, 20, rfl, bag0, by decide, fun q2 o2 => ?_⟩⟩
  refine ⟨by show 2 ≤ 16777216; decide, by show 2 ≤ 16777216; decide, by show 2 ≤ 16777216; decide, by show 5 ≤ 16777216; decide, b, _, bag0, by simp, by show 5 < 1000000; decide, .inl rfl, fun x hx => ?_⟩
  obtain ⟨top, rfl, ot⟩ : ∃ top : Rat, x = am top ∧ Okb (NN 0) 100 top := by
    simp only [List.mem_cons, List.not_mem_nil, or_false] at hx
    rcases hx with rfl | rfl | rfl | rfl | rfl
    · exact ⟨q1, rfl, o1.nn, (o1.up (show 9 ≤ 100 by decide)).le, dn_30 0 o1.dn⟩
    · exact ⟨q2, rfl, o2.nn, (o2.up (show 20 ≤ 100 by decide)).le, dn_30 0 o2.dn⟩
    · exact ⟨divInt 10 1, by rfl, divInt_nn (by decide) (by decide), divInt_le (M := 100) (by decide) (by decide), Dn.of (by decide) 60 (by decide)⟩
    · exact ⟨0, rfl, Okb.zero _ _⟩
    · exact ⟨divInt 7 12, by rfl, divInt_nn (by decide) (by decide), divInt_le (M := 100) (by decide) (by decide), Dn.of (by decide) 5 (by decide)⟩
  -- the three parts
  refine fun aw haw => ⟨aw, way, rfl, mset_same, fun dw m2 hdw hwp kw => ?_⟩
  have g2 : Grows m0 m2 := grows_new haw kw
  refine fun hh hhn => ⟨hh, way, age, rfl, mset_same, fun dh m3 hdh hhp kh => ?_⟩
  have g3 : Grows m2 m3 := grows_new hhn kh
  refine fun bb hbb => ⟨bb, top, rfl, mset_same, fun m4 hbp kb => ?_⟩
  have g4 : Grows m3 m4 := grows_new hbb kb
  have wp4 : WireAt A.Wire m4 aw dw way [] := (hwp.keep g3).keep g4
  have hp4 : HopAt A.Hop m4 hh dh way age [] := hhp.keep g4
  have bg4 : m4 b = some (.any C13.BagP) := g4.at (g3.at (g2.at bag0))
  have d1 : dw ≠ dh := by
    have := ne_none (hwp.keep (Keeps.refl m2)).dc (mset_none hdh).2
    exact this
  have d7 : aw ≠ hh := ne_none hwp.ob hhn
  have d8 : aw ≠ bb := ne_none (hwp.keep g3).ob hbb
  have d9 : hh ≠ bb := ne_none hhp.ob hbb
  -- notes, sends
  refine fun nd hnd => ⟨mset_same, [((Sum.inl (-1) : Key), am top)], rfl, by show 1 ≤ 15; decide, ?_⟩
  rw [mset_mset]
  refine fun sd hsd => ?_
  obtain ⟨nsd, hsd'⟩ := mset_none hsd
  refine ⟨by show 2 ≤ 16777216; decide, by show 2 ≤ 16777216; decide, by show 2 ≤ 16777216; decide, by show 2 ≤ 16777216; decide, by show 6 ≤ 16777216; decide, ?_⟩
  have g5 : Grows m4 (mset (mset m4 nd (.dK (mergeD [] [((Sum.inl (-1) : Key), am top)]))) sd (.dK [])) := ((Keeps.refl m4).new hnd).new hsd
  have nt5 : (mset (mset m4 nd (.dK (mergeD [] [((Sum.inl (-1) : Key), am top)]))) sd (.dK [])) nd = some (.dK (tabD (tabN top (fun _ => 0) 0))) := by
    rw [mset_ne (Ne.symm nsd), mset_same]
    show some (AO.dK [((Sum.inl (-1) : Key), am top)]) = some (.dK [((Sum.inl (((0 : Nat) : Int) - 1) : Key), am (top - 0))])
    have : top - 0 = top := by grind
    rw [this]; rfl
  have sd5 : (mset (mset m4 nd (.dK (mergeD [] [((Sum.inl (-1) : Key), am top)]))) sd (.dK [])) sd = some (.dK (tabD (tabG (fun _ => 0) 0))) := mset_same
  have x2 : dw ≠ nd := ne_none wp4.dc hnd
  have x3 : dw ≠ sd := ne_none wp4.dc hsd'
  have x4 : dh ≠ nd := ne_none hp4.dc hnd
  have x5 : dh ≠ sd := ne_none hp4.dc hsd'
  generalize mset (mset m4 nd (.dK (mergeD [] [((Sum.inl (-1) : Key), am top)]))) sd (.dK []) = m5 at *
  have s0 : St A m5 b aw dw hh dh bb nd sd way age top (fun _ => 0) (fun _ => 0) 0 0 0 :=
    ⟨g5.at bg4, wp4.keep g5, ⟨((0 : Nat) : Int) - age - way, Int.le_refl _, hp4.keep g5⟩, g5.at hbp, nt5, sd5, d1, x2, x3, x4, x5, Ne.symm nsd, d7, d8, d9⟩
  have z0 : (0 : Rat) + (0 - 0) ≤ top := by have := ot.nn; grind
  have am0' : Am way age top (fun _ => 0) (fun _ => 0) 0 0 0 := by
    refine ⟨fun _ => Okb.zero _ _, fun _ _ => ⟨Rat.le_refl, ot.nn, Dn.zero _⟩, ot, ?_, fun k hk => ?_, ?_, Rat.le_refl, Okb.zero _ _, fun _ _ => rfl⟩
    · have : 0 - way = 0 := by omega
      rw [this]; exact z0
    · obtain rfl : k = 0 := by omega
      exact Rat.le_refl
    · have : 0 - way = 0 := by omega
      rw [this]; show (0 : Rat) + 0 = 0; grind
  refine ⟨b, 3, rfl, s0.bag, by decide, by decide, fun eg _ _ => ?_⟩
  refine ⟨b, 31, rfl, s0.bag, by decide, by decide, fun n n0 n1 => ⟨by omega, by omega, ?_⟩⟩
  refine ⟨fun i s' m' => ∃ (dh' : Addr) (g h : Nat → Rat) (out most : Rat) (r : DSt), r.length = 8 ∧ s' = SL (some (.lst (ns.map D.int))) b way age top aw hh bb nd sd (h i) most (pre g i) out (decide (eg = 0)) r ∧ St A m' b aw dw hh dh' bb nd sd way age top g h out most i ∧ Am way age top g h out most i, ⟨dh, fun _ => 0, fun _ => 0, 0, 0, _, rfl, rfl, s0, am0'⟩, fun _ _ _ _ _ => trivial, ?_, ?_⟩
  · rintro i dd s' m' hdd ⟨dh', g, h, out, most, r, hr, rfl, st, a⟩
    obtain ⟨hi, hd⟩ := get_ints hdd
    rw [Int.zero_add] at hd
    subst hd
    obtain ⟨r0, r1, r2, r3, r4, r5, r6, r7, rfl⟩ : ∃ r0 r1 r2 r3 r4 r5 r6 r7, r = [r0, r1, r2, r3, r4, r5, r6, r7] := by
      match r, hr with | [r0, r1, r2, r3, r4, r5, r6, r7], _ => exact ⟨_, _, _, _, _, _, _, _, rfl⟩
    exact rd_turn A (r := [r0, r1, r2, r3, r4, r5, r6, r7]) rfl st a (by omega) w0 (by omega) (by omega) fun m2 dh2 g2 h2 out2 most2 r2 hr2 st2 a2 => ⟨dh2, g2, h2, out2, most2, r2, hr2, rfl, st2, a2⟩
  · rintro s' m' ⟨dh', g, h, out, most, r, hr, rfl, st, a⟩
    refine ⟨⟨_, st.buf⟩, bb, top, _, most, rfl, st.buf, am most, rfl, flat_am _ _, ?_⟩
    refine qif_t rfl ⟨_, _, st.buf, bf_size, am top, rfl, flat_am _ _, wk_at (k m')⟩
end K33
namespace K33
open PySem PySem.Spec PyProof.Rows L2 L3
set_option maxHeartbeats 4000000
def top (i : Nat) : Stmt := PySem.Challenge.pw_bandheld_k33_whole_hop_never_overfills.main.body.getD i (.Pass ⟨0, 0, 0, 0⟩)
abbrev s_law_bag : Stmt := top 19
abbrev s_law_draw : Stmt := top 20
abbrev s_law_of : Stmt := top 21
abbrev s_Wire_init : Stmt := inClass (top 17) 0
abbrev s_Hop_init : Stmt := inClass (top 13) 0
abbrev s_Buffer_init : Stmt := inClass (top 15) 0
abbrev s_law_amount : Stmt := top 22
abbrev s_law_sum : Stmt := top 23
abbrev s_law_less : Stmt := top 26
abbrev s_law_max : Stmt := top 28
abbrev s_law_min : Stmt := top 27
abbrev s_Hop_remember : Stmt := inClass (top 13) 1
abbrev s_Wire_put : Stmt := inClass (top 17) 1
abbrev s_p_lowest : Stmt := top 7
abbrev s_minus : Stmt := top 9
abbrev s_compare : Stmt := top 10
abbrev s_Buffer_give : Stmt := inClass (top 15) 4
abbrev s_law_rest : Stmt := top 24
abbrev s_law_same : Stmt := top 30
abbrev s_law_some : Stmt := top 31
abbrev s_law_scaled : Stmt := top 25
abbrev s_law_part : Stmt := top 32
abbrev s_Buffer_fullest : Stmt := inClass (top 15) 2
abbrev s_law_all : Stmt := top 29
abbrev s_Buffer_held : Stmt := inClass (top 15) 1
abbrev s_plus : Stmt := top 8
abbrev s_Wire_under_way : Stmt := inClass (top 17) 3
abbrev s_law_parts_agree : Stmt := top 33
abbrev s_Wire_arriving : Stmt := inClass (top 17) 2
abbrev s_largest : Stmt := top 11
abbrev s_Buffer_set_to : Stmt := inClass (top 15) 5
abbrev s_Buffer_take_in : Stmt := inClass (top 15) 3
abbrev s_Hop_sent_after : Stmt := inClass (top 13) 2
abbrev s_Hop_room : Stmt := inClass (top 13) 3
abbrev s_law : Stmt := top 34
structure Txt (K : PySem.W.Frag) (mg : Str → Option Value) (A : Adr) : Prop where
  c_Wire : Cls K A.Wire
  c_Hop : Cls K A.Hop
  c_Buffer : Cls K A.Buffer
  mk_Buffer : Mk K A.Buffer A.Buffer_init
  g_Buffer : mg "Buffer" = some (.ref A.Buffer)
  mk_Hop : Mk K A.Hop A.Hop_init
  g_Hop : mg "Hop" = some (.ref A.Hop)
  mk_Wire : Mk K A.Wire A.Wire_init
  g_Wire : mg "Wire" = some (.ref A.Wire)
  n_Wire_p_way : NoAttr K A.Wire "_way"
  n_Wire_p_sent : NoAttr K A.Wire "_sent"
  n_Hop_p_way : NoAttr K A.Hop "_way"
  n_Hop_p_age : NoAttr K A.Hop "_age"
  n_Hop_p_sent : NoAttr K A.Hop "_sent"
  n_Buffer_size : NoAttr K A.Buffer "size"
  n_Buffer_p_held : NoAttr K A.Buffer "_held"
  n_Buffer_p_fullest : NoAttr K A.Buffer "_fullest"
  m_Wire_under_way : Meth K A.Wire "under_way" A.Wire_under_way
  m_Buffer_set_to : Meth K A.Buffer "set_to" A.Buffer_set_to
  m_Hop_sent_after : Meth K A.Hop "sent_after" A.Hop_sent_after
  m_Wire_arriving : Meth K A.Wire "arriving" A.Wire_arriving
  m_Buffer_take_in : Meth K A.Buffer "take_in" A.Buffer_take_in
  m_Hop_room : Meth K A.Hop "room" A.Hop_room
  m_Hop_remember : Meth K A.Hop "remember" A.Hop_remember
  m_Wire_put : Meth K A.Wire "put" A.Wire_put
  m_Buffer_give : Meth K A.Buffer "give" A.Buffer_give
  p_Buffer_held : PropOf K A.Buffer "held" A.pr_Buffer_held A.Buffer_held
  p_Buffer_fullest : PropOf K A.Buffer "fullest" A.pr_Buffer_fullest A.Buffer_fullest
  g_ZERO : mg "ZERO" = some (.ref A.ZERO)
  t_ZERO : ∀ G, RV K G (.tup [(.int 0), (.int 1)]) (.ref A.ZERO)
  g_law_bag : mg "_law_bag" = some (.ref A.law_bag)
  k_law_bag : PySem.W.keepIn K (.ref A.law_bag) = true
  g_law_draw : mg "_law_draw" = some (.ref A.law_draw)
  k_law_draw : PySem.W.keepIn K (.ref A.law_draw) = true
  g_law_of : mg "_law_of" = some (.ref A.law_of)
  k_law_of : PySem.W.keepIn K (.ref A.law_of) = true
  g_law_amount : mg "_law_amount" = some (.ref A.law_amount)
  k_law_amount : PySem.W.keepIn K (.ref A.law_amount) = true
  g_law_sum : mg "_law_sum" = some (.ref A.law_sum)
  k_law_sum : PySem.W.keepIn K (.ref A.law_sum) = true
  g_law_less : mg "_law_less" = some (.ref A.law_less)
  k_law_less : PySem.W.keepIn K (.ref A.law_less) = true
  g_law_max : mg "_law_max" = some (.ref A.law_max)
  k_law_max : PySem.W.keepIn K (.ref A.law_max) = true
  g_law_min : mg "_law_min" = some (.ref A.law_min)
  k_law_min : PySem.W.keepIn K (.ref A.law_min) = true
  g_p_lowest : mg "_lowest" = some (.ref A.p_lowest)
  k_p_lowest : PySem.W.keepIn K (.ref A.p_lowest) = true
  g_minus : mg "minus" = some (.ref A.minus)
  k_minus : PySem.W.keepIn K (.ref A.minus) = true
  g_compare : mg "compare" = some (.ref A.compare)
  k_compare : PySem.W.keepIn K (.ref A.compare) = true
  g_law_rest : mg "_law_rest" = some (.ref A.law_rest)
  k_law_rest : PySem.W.keepIn K (.ref A.law_rest) = true
  g_law_same : mg "_law_same" = some (.ref A.law_same)
  k_law_same : PySem.W.keepIn K (.ref A.law_same) = true
  g_law_some : mg "_law_some" = some (.ref A.law_some)
  k_law_some : PySem.W.keepIn K (.ref A.law_some) = true
  g_law_scaled : mg "_law_scaled" = some (.ref A.law_scaled)
  k_law_scaled : PySem.W.keepIn K (.ref A.law_scaled) = true
  g_law_part : mg "_law_part" = some (.ref A.law_part)
  k_law_part : PySem.W.keepIn K (.ref A.law_part) = true
  g_law_all : mg "_law_all" = some (.ref A.law_all)
  k_law_all : PySem.W.keepIn K (.ref A.law_all) = true
  g_plus : mg "plus" = some (.ref A.plus)
  k_plus : PySem.W.keepIn K (.ref A.plus) = true
  g_law_parts_agree : mg "_law_parts_agree" = some (.ref A.law_parts_agree)
  k_law_parts_agree : PySem.W.keepIn K (.ref A.law_parts_agree) = true
  g_largest : mg "largest" = some (.ref A.largest)
  k_largest : PySem.W.keepIn K (.ref A.largest) = true
  z_int : mg "int" = none
  z_list : mg "list" = none
  z_len : mg "len" = none
  z_max : mg "max" = none
  z_isinstance : mg "isinstance" = none
  z_tuple : mg "tuple" = none
  z_all : mg "all" = none
  z_zip : mg "zip" = none
  z_bool : mg "bool" = none
  z_str : mg "str" = none
  z_range : mg "range" = none
  i_gcd : mg "gcd" = some (.builtin "math.gcd")
section
variable {P : Program} {w : World} {K : PySem.W.Frag} {mg : Str → Option Value} {base : Heap} {A : Adr}
theorem sc_law_bag : FnScope ["_law_script", "_law_seed", "_law_cell"] ["_law_script"] (defScope s_law_bag) := ⟨rfl, rfl, rfl, by decide +kernel, rfl, by decide +kernel, by decide +kernel⟩
theorem d_law_bag {fd : FuncData} (T : Txt K mg A) (F : Fun K "_law_bag" "_law_bag" s_law_bag A.law_bag fd) (hb : Binds K fd ["_law_script"] []) : FnD P w K mg base 1 A.law_bag (sp_law_bag A) :=
  def_ofW (N := ["_law_script", "_law_seed", "_law_cell"]) (qb := qb_law_bag A) F hb sc_law_bag (len_law_bag A) (fun cdv Ar outer s H E hr =>
    (dss_cons (ds_set 1 sc_law_bag.nd de_int)
    (dss_cons (ds_for PassesOwn.never rfl (di_lst (de_slL (dv 0) do_none (do_some de_int))) (pt_nm 2 sc_law_bag.nd) (dss_one (ds_set 1 sc_law_bag.nd (de_op do_mod (de_callTy db_int rfl T.z_int (by decide +kernel) (da_cons (de_op do_add (de_op do_add (de_op do_mul (dv 1) de_int) (de_op do_mod (de_callTy db_int rfl T.z_int (by decide +kernel) (da_cons (dv 2) da_nil)) de_int)) de_int) da_nil)) de_int))))
    (dss_one (ds_ret (de_lstM (da_cons (de_freeze (de_callTy db_list rfl T.z_list (by decide +kernel) (da_cons (de_slL (dv 0) do_none (do_some de_int)) da_nil))) (da_cons de_int (da_cons de_int (da_cons (dv 1) (da_cons de_int da_nil))))))))))) (rd_law_bag A)
theorem sc_law_draw : FnScope ["_law_bag_here", "_law_many", "_law_cell", "_law_digit", "_law_seed"] ["_law_bag_here", "_law_many"] (defScope s_law_draw) := ⟨rfl, rfl, rfl, by decide +kernel, rfl, by decide +kernel, by decide +kernel⟩
theorem d_law_draw {fd : FuncData} (T : Txt K mg A) (F : Fun K "_law_draw" "_law_draw" s_law_draw A.law_draw fd) (hb : Binds K fd ["_law_bag_here", "_law_many"] []) : FnD P w K mg base 1 A.law_draw (sp_law_draw A) :=
  def_ofW (N := ["_law_bag_here", "_law_many", "_law_cell", "_law_digit", "_law_seed"]) (qb := qb_law_draw A) F hb sc_law_draw (len_law_draw A) (fun cdv Ar outer s H E hr =>
    (dss_open (dss_cons (ds_sub (hu1 hr) (dv 0) de_int (de_op do_add (de_idx (hu1 hr) (dv 0) de_int) de_int))
    (dss_cons (ds_if (PW.pt (dw_and (dt_cmp (do_eq2 (hu64 hr)) (de_idx (hu1 hr) (dv 0) de_int) de_int (by first | rfl | exact nobehind _ (by decide) (by decide))) (dw_and1 (dt_cmp do_lt (de_idx (hu1 hr) (dv 0) de_int) (de_callB db_len rfl T.z_len (by decide +kernel) (da_cons (de_idx (hu1 hr) (dv 0) de_int) da_nil)) (by first | rfl | exact nobehind _ (by decide) (by decide)))))) (dss_cons (ds_set 2 sc_law_draw.nd (de_idx (hu1 hr) (de_idx (hu1 hr) (dv 0) de_int) (de_idx (hu1 hr) (dv 0) de_int)))
    (dss_cons (ds_sub (hu1 hr) (dv 0) de_int (de_op do_add (de_idx (hu1 hr) (dv 0) de_int) de_int))
    (dss_one (ds_if (dt_cmp do_ge (dv 2) (de_op do_pow2 de_int de_int) (by first | rfl | exact nobehind _ (by decide) (by decide))) (dss_one (ds_sub (hu1 hr) (dv 0) de_int (dv 2))) (dss_one (ds_sub (hu1 hr) (dv 0) de_int (de_op do_mod (de_callTy db_int rfl T.z_int (by decide +kernel) (da_cons (de_op do_add (de_op do_add (de_op do_mul (de_idx (hu1 hr) (dv 0) de_int) de_int) (de_op do_mul (de_op do_mod (de_callTy db_int rfl T.z_int (by decide +kernel) (da_cons (dv 2) da_nil)) de_int) de_int)) de_int) da_nil)) de_int))))))) dss_nil)
    (dss_cons (ds_if (dt_cmp do_gt (de_idx (hu1 hr) (dv 0) de_int) de_int (by first | rfl | exact nobehind _ (by decide) (by decide))) (dss_cons (ds_set 3 sc_law_draw.nd (de_op do_mod (de_callTy db_int rfl T.z_int (by decide +kernel) (da_cons (de_idx (hu1 hr) (dv 0) de_int) da_nil)) (dv 1)))
    (dss_cons (ds_sub (hu1 hr) (dv 0) de_int (de_op do_fdiv (de_idx (hu1 hr) (dv 0) de_int) (dv 1)))
    (dss_one (ds_ret (dv 3))))) dss_nil)
    (dss_cons (ds_set 4 sc_law_draw.nd (de_idx (hu1 hr) (dv 0) de_int))
    (dss_cons (ds_sub (hu1 hr) (dv 0) de_int (de_op do_mod (de_callTy db_int rfl T.z_int (by decide +kernel) (da_cons (de_op do_add (de_op do_add (de_op do_add (de_op do_mul (de_op do_mul (dv 4) (dv 4)) de_int) (de_op do_mul (dv 4) de_int)) (de_op do_mul (de_idx (hu1 hr) (dv 0) de_int) de_int)) de_int) da_nil)) de_int))
    (dss_one (ds_ret (de_op do_mod (de_callTy db_int rfl T.z_int (by decide +kernel) (da_cons (de_op do_add (de_op do_fdiv (de_idx (hu1 hr) (dv 0) de_int) de_int) (de_op do_mul (de_op do_mod (de_callTy db_int rfl T.z_int (by decide +kernel) (da_cons (de_idx (hu1 hr) (dv 0) de_int) da_nil)) de_int) de_int)) da_nil)) (dv 1))))))))))) (rd_law_draw A)
theorem sc_law_of : FnScope ["_law_bag_here", "_law_things"] ["_law_bag_here", "_law_things"] (defScope s_law_of) := ⟨rfl, rfl, rfl, by decide +kernel, rfl, by decide +kernel, by decide +kernel⟩
theorem d_law_of {fd : FuncData} (T : Txt K mg A) (F : Fun K "_law_of" "_law_of" s_law_of A.law_of fd) (hb : Binds K fd ["_law_bag_here", "_law_things"] []) (G_law_draw : FnD P w K mg base 1 A.law_draw (sp_law_draw A)) : FnD P w K mg base 2 A.law_of (sp_law_of A) :=
  def_ofW (N := ["_law_bag_here", "_law_things"]) (qb := qb_law_of A) F hb sc_law_of (len_law_of A) (fun cdv Ar outer s H E hr =>
    (dss_one (ds_ret (de_idx (hu1 hr) (dv 1) (de_call G_law_draw (hr.mono (by decide)) rfl T.g_law_draw T.k_law_draw (da_cons (dv 0) (da_cons (de_callB db_len rfl T.z_len (by decide +kernel) (da_cons (dv 1) da_nil)) da_nil))))))) (rd_law_of A)
theorem sc_Wire_init : FnScope ["self", "way"] ["self", "way"] (defScope s_Wire_init) := ⟨rfl, rfl, rfl, by decide +kernel, rfl, by decide +kernel, by decide +kernel⟩
theorem d_Wire_init {fd : FuncData} (T : Txt K mg A) (F : Fun K "__init__" "Wire.__init__" s_Wire_init A.Wire_init fd) (hb : Binds K fd ["self", "way"] []) : FnD P w K mg base 1 A.Wire_init (sp_Wire_init A) :=
  def_ofW (N := ["self", "way"]) (qb := qb_Wire_init A) F hb sc_Wire_init (len_Wire_init A) (fun cdv Ar outer s H E hr =>
    (dss_cons (ds_setF T.c_Wire T.n_Wire_p_way (dv 0) (dv 1))
    (dss_one (ds_setF T.c_Wire T.n_Wire_p_sent (dv 0) de_dnewK)))) (rd_Wire_init A)
theorem sc_Hop_init : FnScope ["self", "way", "age"] ["self", "way", "age"] (defScope s_Hop_init) := ⟨rfl, rfl, rfl, by decide +kernel, rfl, by decide +kernel, by decide +kernel⟩
theorem d_Hop_init {fd : FuncData} (T : Txt K mg A) (F : Fun K "__init__" "Hop.__init__" s_Hop_init A.Hop_init fd) (hb : Binds K fd ["self", "way", "age"] []) : FnD P w K mg base 1 A.Hop_init (sp_Hop_init A) :=
  def_ofW (N := ["self", "way", "age"]) (qb := qb_Hop_init A) F hb sc_Hop_init (len_Hop_init A) (fun cdv Ar outer s H E hr =>
    (dss_cons (ds_setF T.c_Hop T.n_Hop_p_way (dv 0) (dv 1))
    (dss_cons (ds_setF T.c_Hop T.n_Hop_p_age (dv 0) (dv 2))
    (dss_one (ds_setF T.c_Hop T.n_Hop_p_sent (dv 0) de_dnewK))))) (rd_Hop_init A)
theorem sc_Buffer_init : FnScope ["self", "size"] ["self", "size"] (defScope s_Buffer_init) := ⟨rfl, rfl, rfl, by decide +kernel, rfl, by decide +kernel, by decide +kernel⟩
theorem d_Buffer_init {fd : FuncData} (T : Txt K mg A) (F : Fun K "__init__" "Buffer.__init__" s_Buffer_init A.Buffer_init fd) (hb : Binds K fd ["self", "size"] []) : FnD P w K mg base 1 A.Buffer_init (sp_Buffer_init A) :=
  def_ofW (N := ["self", "size"]) (qb := qb_Buffer_init A) F hb sc_Buffer_init (len_Buffer_init A) (fun cdv Ar outer s H E hr =>
    (dss_cons (ds_setF T.c_Buffer T.n_Buffer_size (dv 0) (dv 1))
    (dss_cons (ds_setF T.c_Buffer T.n_Buffer_p_held (dv 0) (de_glob (.tup [(.int 0), (.int 1)]) rfl T.g_ZERO T.t_ZERO))
    (dss_one (ds_setF T.c_Buffer T.n_Buffer_p_fullest (dv 0) (de_glob (.tup [(.int 0), (.int 1)]) rfl T.g_ZERO T.t_ZERO)))))) (rd_Buffer_init A)
theorem sc_law_amount : FnScope ["_law_top", "_law_bottom", "_law_one", "_law_two"] ["_law_top", "_law_bottom"] (defScope s_law_amount) := ⟨rfl, rfl, rfl, by decide +kernel, rfl, by decide +kernel, by decide +kernel⟩
theorem d_law_amount {fd : FuncData} (T : Txt K mg A) (F : Fun K "_law_amount" "_law_amount" s_law_amount A.law_amount fd) (hb : Binds K fd ["_law_top", "_law_bottom"] []) : FnD P w K mg base 1 A.law_amount (sp_law_amount A) :=
  def_ofW (N := ["_law_top", "_law_bottom", "_law_one", "_law_two"]) (qb := qb_law_amount A) F hb sc_law_amount (len_law_amount A) (fun cdv Ar outer s H E hr =>
    (dss_cons (ds_par 2 3 rfl sc_law_amount.nd (da_cons (dv 0) (da_cons (dv 1) da_nil)))
    (dss_cons (ds_while PassesOwn.never (dt_cmp do_gt (dv 3) de_int (by first | rfl | exact nobehind _ (by decide) (by decide))) (dss_one (ds_par 2 3 rfl sc_law_amount.nd (da_cons (dv 3) (da_cons (de_op do_mod (de_callTy db_int rfl T.z_int (by decide +kernel) (da_cons (dv 2) da_nil)) (dv 3)) da_nil)))))
    (dss_one (ds_ret (de_tup (da_cons (de_op do_fdiv (dv 0) (dv 2)) (da_cons (de_op do_fdiv (dv 1) (dv 2)) da_nil)))))))) (rd_law_amount A)
theorem sc_law_sum : FnScope ["_law_one", "_law_two"] ["_law_one", "_law_two"] (defScope s_law_sum) := ⟨rfl, rfl, rfl, by decide +kernel, rfl, by decide +kernel, by decide +kernel⟩
theorem d_law_sum {fd : FuncData} (T : Txt K mg A) (F : Fun K "_law_sum" "_law_sum" s_law_sum A.law_sum fd) (hb : Binds K fd ["_law_one", "_law_two"] []) (G_law_amount : FnD P w K mg base 1 A.law_amount (sp_law_amount A)) : FnD P w K mg base 2 A.law_sum (sp_law_sum A) :=
  def_ofW (N := ["_law_one", "_law_two"]) (qb := qb_law_sum A) F hb sc_law_sum (len_law_sum A) (fun cdv Ar outer s H E hr =>
    (dss_one (ds_ret (de_call G_law_amount (hr.mono (by decide)) rfl T.g_law_amount T.k_law_amount (da_cons (de_op do_add (de_op do_mul (de_idx (hu1 hr) (dv 0) de_int) (de_idx (hu1 hr) (dv 1) de_int)) (de_op do_mul (de_idx (hu1 hr) (dv 1) de_int) (de_idx (hu1 hr) (dv 0) de_int))) (da_cons (de_op do_mul (de_idx (hu1 hr) (dv 0) de_int) (de_idx (hu1 hr) (dv 1) de_int)) da_nil)))))) (rd_law_sum A)
theorem sc_law_less : FnScope ["_law_one", "_law_two"] ["_law_one", "_law_two"] (defScope s_law_less) := ⟨rfl, rfl, rfl, by decide +kernel, rfl, by decide +kernel, by decide +kernel⟩
theorem d_law_less {fd : FuncData} (T : Txt K mg A) (F : Fun K "_law_less" "_law_less" s_law_less A.law_less fd) (hb : Binds K fd ["_law_one", "_law_two"] []) : FnD P w K mg base 1 A.law_less (sp_law_less A) :=
  def_ofW (N := ["_law_one", "_law_two"]) (qb := qb_law_less A) F hb sc_law_less (len_law_less A) (fun cdv Ar outer s H E hr =>
    (dss_one (ds_ret (de_cmp do_lt (de_op do_mul (de_idx (hu1 hr) (dv 0) de_int) (de_idx (hu1 hr) (dv 1) de_int)) (de_op do_mul (de_idx (hu1 hr) (dv 1) de_int) (de_idx (hu1 hr) (dv 0) de_int)) (by first | rfl | exact nobehind _ (by decide) (by decide)))))) (rd_law_less A)
theorem sc_law_max : FnScope ["_law_one", "_law_two"] ["_law_one", "_law_two"] (defScope s_law_max) := ⟨rfl, rfl, rfl, by decide +kernel, rfl, by decide +kernel, by decide +kernel⟩
theorem d_law_max {fd : FuncData} (T : Txt K mg A) (F : Fun K "_law_max" "_law_max" s_law_max A.law_max fd) (hb : Binds K fd ["_law_one", "_law_two"] []) (G_law_less : FnD P w K mg base 1 A.law_less (sp_law_less A)) : FnD P w K mg base 2 A.law_max (sp_law_max A) :=
  def_ofW (N := ["_law_one", "_law_two"]) (qb := qb_law_max A) F hb sc_law_max (len_law_max A) (fun cdv Ar outer s H E hr =>
    (dss_one (ds_ret (de_if (dt_val (de_call G_law_less (hr.mono (by decide)) rfl T.g_law_less T.k_law_less (da_cons (dv 0) (da_cons (dv 1) da_nil)))) (dv 1) (dv 0))))) (rd_law_max A)
theorem sc_law_min : FnScope ["_law_one", "_law_two"] ["_law_one", "_law_two"] (defScope s_law_min) := ⟨rfl, rfl, rfl, by decide +kernel, rfl, by decide +kernel, by decide +kernel⟩
theorem d_law_min {fd : FuncData} (T : Txt K mg A) (F : Fun K "_law_min" "_law_min" s_law_min A.law_min fd) (hb : Binds K fd ["_law_one", "_law_two"] []) (G_law_less : FnD P w K mg base 1 A.law_less (sp_law_less A)) : FnD P w K mg base 2 A.law_min (sp_law_min A) :=
  def_ofW (N := ["_law_one", "_law_two"]) (qb := qb_law_min A) F hb sc_law_min (len_law_min A) (fun cdv Ar outer s H E hr =>
    (dss_one (ds_ret (de_if (dt_val (de_call G_law_less (hr.mono (by decide)) rfl T.g_law_less T.k_law_less (da_cons (dv 1) (da_cons (dv 0) da_nil)))) (dv 1) (dv 0))))) (rd_law_min A)
theorem sc_Hop_remember : FnScope ["self", "tick", "water", "oldest", "kept", "sent", "put"] ["self", "tick", "water"] (defScope s_Hop_remember) := ⟨rfl, rfl, rfl, by decide +kernel, rfl, by decide +kernel, by decide +kernel⟩
theorem d_Hop_remember {fd : FuncData} (T : Txt K mg A) (F : Fun K "remember" "Hop.remember" s_Hop_remember A.Hop_remember fd) (hb : Binds K fd ["self", "tick", "water"] []) : FnD P w K mg base 1 A.Hop_remember (sp_Hop_remember A) :=
  def_ofW (N := ["self", "tick", "water", "oldest", "kept", "sent", "put"]) (qb := qb_Hop_remember A) F hb sc_Hop_remember (len_Hop_remember A) (fun cdv Ar outer s H E hr =>
    (dss_cons (ds_set 3 sc_Hop_remember.nd (de_op do_sub (de_op do_sub (dv 1) (de_fld T.c_Hop T.n_Hop_p_age (dv 0))) (de_fld T.c_Hop T.n_Hop_p_way (dv 0))))
    (dss_cons (ds_lock (ds_setDc 4 rfl sc_Hop_remember.nd (di_items (de_fld T.c_Hop T.n_Hop_p_sent (dv 0))) (own := [("sent", 5), ("put", 6)]) (by show BlkOk ["self", "tick", "water", "oldest", "kept", "sent", "put"] (defScope s_Hop_remember) _ _; exact ⟨rfl, by decide +kernel, by decide +kernel, by decide +kernel, by decide +kernel⟩) (fun _ _ _ _ _ => (pt_tp rfl (pts_cn (pt_nm 5 sc_Hop_remember.nd) (pts_cn (pt_nm 6 sc_Hop_remember.nd) pts_nl)))) (fun _ _ _ _ _ => dts_one (dt_cmp do_ge (dv 5) (dv 3) (by first | rfl | exact nobehind _ (by decide) (by decide)))) (fun _ _ _ _ _ => (dv 5)) (fun _ _ _ _ _ => (dv 6))))
    (dss_cons (ds_sub (hu1 hr) (dv 4) (dv 1) (dv 2))
    (dss_one (ds_setF T.c_Hop T.n_Hop_p_sent (dv 0) (dv 4))))))) (rd_Hop_remember A)
theorem sc_Wire_put : FnScope ["self", "tick", "water"] ["self", "tick", "water"] (defScope s_Wire_put) := ⟨rfl, rfl, rfl, by decide +kernel, rfl, by decide +kernel, by decide +kernel⟩
theorem d_Wire_put {fd : FuncData} (T : Txt K mg A) (F : Fun K "put" "Wire.put" s_Wire_put A.Wire_put fd) (hb : Binds K fd ["self", "tick", "water"] []) : FnD P w K mg base 1 A.Wire_put (sp_Wire_put A) :=
  def_ofW (N := ["self", "tick", "water"]) (qb := qb_Wire_put A) F hb sc_Wire_put (len_Wire_put A) (fun cdv Ar outer s H E hr =>
    (dss_one (ds_sub (hu1 hr) (de_fld T.c_Wire T.n_Wire_p_sent (dv 0)) (dv 1) (dv 2)))) (rd_Wire_put A)
theorem sc_p_lowest : FnScope ["top", "bottom", "common"] ["top", "bottom"] (defScope s_p_lowest) := ⟨rfl, rfl, rfl, by decide +kernel, rfl, by decide +kernel, by decide +kernel⟩
theorem d_p_lowest {fd : FuncData} (T : Txt K mg A) (F : Fun K "_lowest" "_lowest" s_p_lowest A.p_lowest fd) (hb : Binds K fd ["top", "bottom"] []) : FnD P w K mg base 1 A.p_lowest (sp_p_lowest A) :=
  def_ofW (N := ["top", "bottom", "common"]) (qb := qb_p_lowest A) F hb sc_p_lowest (len_p_lowest A) (fun cdv Ar outer s H E hr =>
    (dss_cons (ds_set 2 sc_p_lowest.nd (de_callBfun db_gcd rfl T.i_gcd (da_cons (dv 0) (da_cons (dv 1) da_nil))))
    (dss_one (ds_ret (de_tup (da_cons (de_op do_fdiv (dv 0) (dv 2)) (da_cons (de_op do_fdiv (dv 1) (dv 2)) da_nil))))))) (rd_p_lowest A)
theorem sc_minus : FnScope ["first", "second", "top"] ["first", "second"] (defScope s_minus) := ⟨rfl, rfl, rfl, by decide +kernel, rfl, by decide +kernel, by decide +kernel⟩
theorem d_minus {fd : FuncData} (T : Txt K mg A) (F : Fun K "minus" "minus" s_minus A.minus fd) (hb : Binds K fd ["first", "second"] []) (G_p_lowest : FnD P w K mg base 1 A.p_lowest (sp_p_lowest A)) : FnD P w K mg base 2 A.minus (sp_minus A) :=
  def_ofW (N := ["first", "second", "top"]) (qb := qb_minus A) F hb sc_minus (len_minus A) (fun cdv Ar outer s H E hr =>
    (dss_cons (ds_set 2 sc_minus.nd (de_op do_sub (de_op do_mul (de_idx (hu1 hr) (dv 0) de_int) (de_idx (hu1 hr) (dv 1) de_int)) (de_op do_mul (de_idx (hu1 hr) (dv 1) de_int) (de_idx (hu1 hr) (dv 0) de_int))))
    (dss_cons (ds_if (dt_cmp do_lt (dv 2) de_int (by first | rfl | exact nobehind _ (by decide) (by decide))) (dss_one ds_never) dss_nil)
    (dss_one (ds_ret (de_call G_p_lowest (hr.mono (by decide)) rfl T.g_p_lowest T.k_p_lowest (da_cons (dv 2) (da_cons (de_op do_mul (de_idx (hu1 hr) (dv 0) de_int) (de_idx (hu1 hr) (dv 1) de_int)) da_nil)))))))) (rd_minus A)
theorem sc_compare : FnScope ["first", "second", "left", "right"] ["first", "second"] (defScope s_compare) := ⟨rfl, rfl, rfl, by decide +kernel, rfl, by decide +kernel, by decide +kernel⟩
theorem d_compare {fd : FuncData} (T : Txt K mg A) (F : Fun K "compare" "compare" s_compare A.compare fd) (hb : Binds K fd ["first", "second"] []) : FnD P w K mg base 1 A.compare (sp_compare A) :=
  def_ofW (N := ["first", "second", "left", "right"]) (qb := qb_compare A) F hb sc_compare (len_compare A) (fun cdv Ar outer s H E hr =>
    (dss_cons (ds_set 2 sc_compare.nd (de_op do_mul (de_idx (hu1 hr) (dv 0) de_int) (de_idx (hu1 hr) (dv 1) de_int)))
    (dss_cons (ds_set 3 sc_compare.nd (de_op do_mul (de_idx (hu1 hr) (dv 1) de_int) (de_idx (hu1 hr) (dv 0) de_int)))
    (dss_cons (ds_if (dt_cmp (do_eq2 (hu64 hr)) (dv 2) (dv 3) (by first | rfl | exact nobehind _ (by decide) (by decide))) (dss_one (ds_ret de_int)) dss_nil)
    (dss_one (ds_ret (de_if (dt_cmp do_lt (dv 2) (dv 3) (by first | rfl | exact nobehind _ (by decide) (by decide))) (de_neg de_int) de_int))))))) (rd_compare A)
theorem sc_Buffer_give : FnScope ["self", "water"] ["self", "water"] (defScope s_Buffer_give) := ⟨rfl, rfl, rfl, by decide +kernel, rfl, by decide +kernel, by decide +kernel⟩
theorem d_Buffer_give {fd : FuncData} (T : Txt K mg A) (F : Fun K "give" "Buffer.give" s_Buffer_give A.Buffer_give fd) (hb : Binds K fd ["self", "water"] []) (G_compare : FnD P w K mg base 1 A.compare (sp_compare A)) (G_minus : FnD P w K mg base 2 A.minus (sp_minus A)) : FnD P w K mg base 3 A.Buffer_give (sp_Buffer_give A) :=
  def_ofW (N := ["self", "water"]) (qb := qb_Buffer_give A) F hb sc_Buffer_give (len_Buffer_give A) (fun cdv Ar outer s H E hr =>
    (dss_cons (ds_if (dt_cmp do_gt (de_call G_compare (hr.mono (by decide)) rfl T.g_compare T.k_compare (da_cons (dv 1) (da_cons (de_fld T.c_Buffer T.n_Buffer_p_held (dv 0)) da_nil))) de_int (by first | rfl | exact nobehind _ (by decide) (by decide))) (dss_one ds_never) dss_nil)
    (dss_one (ds_setF T.c_Buffer T.n_Buffer_p_held (dv 0) (de_call G_minus (hr.mono (by decide)) rfl T.g_minus T.k_minus (da_cons (de_fld T.c_Buffer T.n_Buffer_p_held (dv 0)) (da_cons (dv 1) da_nil))))))) (rd_Buffer_give A)
theorem sc_law_rest : FnScope ["_law_one", "_law_two"] ["_law_one", "_law_two"] (defScope s_law_rest) := ⟨rfl, rfl, rfl, by decide +kernel, rfl, by decide +kernel, by decide +kernel⟩
theorem d_law_rest {fd : FuncData} (T : Txt K mg A) (F : Fun K "_law_rest" "_law_rest" s_law_rest A.law_rest fd) (hb : Binds K fd ["_law_one", "_law_two"] []) (G_law_amount : FnD P w K mg base 1 A.law_amount (sp_law_amount A)) : FnD P w K mg base 2 A.law_rest (sp_law_rest A) :=
  def_ofW (N := ["_law_one", "_law_two"]) (qb := qb_law_rest A) F hb sc_law_rest (len_law_rest A) (fun cdv Ar outer s H E hr =>
    (dss_one (ds_ret (de_call G_law_amount (hr.mono (by decide)) rfl T.g_law_amount T.k_law_amount (da_cons (de_callB (db_max2 rfl) rfl T.z_max (by decide +kernel) (da_cons (de_op do_sub (de_op do_mul (de_idx (hu1 hr) (dv 0) de_int) (de_idx (hu1 hr) (dv 1) de_int)) (de_op do_mul (de_idx (hu1 hr) (dv 1) de_int) (de_idx (hu1 hr) (dv 0) de_int))) (da_cons de_int da_nil))) (da_cons (de_op do_mul (de_idx (hu1 hr) (dv 0) de_int) (de_idx (hu1 hr) (dv 1) de_int)) da_nil)))))) (rd_law_rest A)
theorem sc_law_same : FnScope ["_law_told", "_law_due", "_law_one", "_law_two"] ["_law_told", "_law_due"] (defScope s_law_same) := ⟨rfl, rfl, rfl, by decide +kernel, rfl, by decide +kernel, by decide +kernel⟩
theorem d_law_same {fd : FuncData} (T : Txt K mg A) (F : Fun K "_law_same" "_law_same" s_law_same A.law_same fd) (hb : Binds K fd ["_law_told", "_law_due"] []) : ∀ n : Nat, FnD P w K mg base n A.law_same (sp_law_same n A)
  | 0 => FnD.imp fnd_false fun _ _ _ h => h
  | n + 1 => by
    have G_law_same := d_law_same T F hb n
    exact def_ofW (N := ["_law_told", "_law_due", "_law_one", "_law_two"]) (qb := qb_law_same n A) F hb sc_law_same (len_law_same (n + 1) A) (fun cdv Ar outer s H E hr =>
    (dss_cons (ds_if (dt_val (de_isi2 rfl T.z_isinstance (dv 1) (pe_bltn rfl T.z_tuple (by decide +kernel) rfl) (pe_bltn rfl T.z_list (by decide +kernel) rfl))) (dss_cons (ds_if (PW.pt (dw_or (dt_cmp (do_ne2 (hu64 hr)) (de_isi rfl T.z_isinstance (dv 0) (pe_bltn rfl T.z_tuple (by decide +kernel) rfl)) (de_isi rfl T.z_isinstance (dv 1) (pe_bltn rfl T.z_tuple (by decide +kernel) rfl)) (by first | rfl | exact nobehind _ (by decide) (by decide))) (dw_or1 (dt_cmp (do_ne2 (hu64 hr)) (de_isi rfl T.z_isinstance (dv 0) (pe_bltn rfl T.z_list (by decide +kernel) rfl)) (de_isi rfl T.z_isinstance (dv 1) (pe_bltn rfl T.z_list (by decide +kernel) rfl)) (by first | rfl | exact nobehind _ (by decide) (by decide)))))) (dss_one (ds_ret de_bl)) dss_nil)
    (dss_one (ds_ret (de_and (de_cmp (do_eq2 (hu64 hr)) (de_callB db_len rfl T.z_len (by decide +kernel) (da_cons (dv 0) da_nil)) (de_callB db_len rfl T.z_len (by decide +kernel) (da_cons (dv 1) da_nil)) (by first | rfl | exact nobehind _ (by decide) (by decide))) (de_one (de_callB (db_all rfl) rfl T.z_all (by decide +kernel) (da_cons (de_freeze (de_lc rfl sc_law_same.nd (di_zip rfl T.z_zip (da_cons (dv 0) (da_cons (dv 1) da_nil))) (own := [("_law_one", 2), ("_law_two", 3)]) (by show BlkOk ["_law_told", "_law_due", "_law_one", "_law_two"] (defScope s_law_same) _ _; exact ⟨rfl, by decide +kernel, by decide +kernel, by decide +kernel, by decide +kernel⟩) (fun _ _ _ _ _ => (pt_tp rfl (pts_cn (pt_nm 2 sc_law_same.nd) (pts_cn (pt_nm 3 sc_law_same.nd) pts_nl)))) (fun _ _ _ _ _ => dts_nil (K := _)) (fun _ _ _ _ _ => (de_call G_law_same hr rfl T.g_law_same T.k_law_same (da_cons (dv 2) (da_cons (dv 3) da_nil)))))) da_nil))))))) dss_nil)
    (dss_cons (ds_if (PW.pt (dw_or (dt_cmp do_isN (dv 1) de_non (by first | rfl | exact nobehind _ (by decide) (by decide))) (dw_or1 (dt_cmp do_isN (dv 0) de_non (by first | rfl | exact nobehind _ (by decide) (by decide)))))) (dss_one (ds_ret (de_and (de_cmp do_isN (dv 1) de_non (by first | rfl | exact nobehind _ (by decide) (by decide))) (de_one (de_cmp do_isN (dv 0) de_non (by first | rfl | exact nobehind _ (by decide) (by decide))))))) dss_nil)
    (dss_cons (ds_if (PW.pt (dw_or (dt_cmp (do_ne2 (hu64 hr)) (de_isi rfl T.z_isinstance (dv 0) (pe_bltn rfl T.z_bool (by decide +kernel) rfl)) (de_isi rfl T.z_isinstance (dv 1) (pe_bltn rfl T.z_bool (by decide +kernel) rfl)) (by first | rfl | exact nobehind _ (by decide) (by decide))) (dw_or1 (dt_cmp (do_ne2 (hu64 hr)) (de_isi rfl T.z_isinstance (dv 0) (pe_bltn rfl T.z_int (by decide +kernel) rfl)) (de_isi rfl T.z_isinstance (dv 1) (pe_bltn rfl T.z_int (by decide +kernel) rfl)) (by first | rfl | exact nobehind _ (by decide) (by decide)))))) (dss_one (ds_ret de_bl)) dss_nil)
    (dss_one (ds_ret (de_and (de_cmp (do_eq2 (hu64 hr)) (de_isi rfl T.z_isinstance (dv 0) (pe_bltn rfl T.z_str (by decide +kernel) rfl)) (de_isi rfl T.z_isinstance (dv 1) (pe_bltn rfl T.z_str (by decide +kernel) rfl)) (by first | rfl | exact nobehind _ (by decide) (by decide))) (de_one (de_cmp (do_eq2 (hu64 hr)) (dv 0) (dv 1) (by first | rfl | exact nobehind _ (by decide) (by decide))))))))))) (rd_law_same n A)
theorem sc_law_some : FnScope ["_law_bag_here", "_law_most", "_law_bottom"] ["_law_bag_here", "_law_most"] (defScope s_law_some) := ⟨rfl, rfl, rfl, by decide +kernel, rfl, by decide +kernel, by decide +kernel⟩
theorem d_law_some {fd : FuncData} (T : Txt K mg A) (F : Fun K "_law_some" "_law_some" s_law_some A.law_some fd) (hb : Binds K fd ["_law_bag_here", "_law_most"] []) (G_law_of : FnD P w K mg base 2 A.law_of (sp_law_of A)) (G_law_amount : FnD P w K mg base 1 A.law_amount (sp_law_amount A)) (G_law_draw : FnD P w K mg base 1 A.law_draw (sp_law_draw A)) : FnD P w K mg base 3 A.law_some (sp_law_some A) :=
  def_ofW (N := ["_law_bag_here", "_law_most", "_law_bottom"]) (qb := qb_law_some A) F hb sc_law_some (len_law_some A) (fun cdv Ar outer s H E hr =>
    (dss_cons (ds_set 2 sc_law_some.nd (de_call G_law_of (hr.mono (by decide)) rfl T.g_law_of T.k_law_of (da_cons (dv 0) (da_cons (de_lstF (da_cons de_int (da_cons de_int (da_cons de_int (da_cons de_int (da_cons de_int (da_cons de_int (da_cons de_int (da_cons de_int da_nil))))))))) da_nil))))
    (dss_one (ds_ret (de_call G_law_amount (hr.mono (by decide)) rfl T.g_law_amount T.k_law_amount (da_cons (de_call G_law_draw (hr.mono (by decide)) rfl T.g_law_draw T.k_law_draw (da_cons (dv 0) (da_cons (de_op do_add (de_op do_mul (dv 1) (dv 2)) de_int) da_nil))) (da_cons (dv 2) da_nil))))))) (rd_law_some A)
theorem sc_law_scaled : FnScope ["_law_one", "_law_top", "_law_bottom"] ["_law_one", "_law_top", "_law_bottom"] (defScope s_law_scaled) := ⟨rfl, rfl, rfl, by decide +kernel, rfl, by decide +kernel, by decide +kernel⟩
theorem d_law_scaled {fd : FuncData} (T : Txt K mg A) (F : Fun K "_law_scaled" "_law_scaled" s_law_scaled A.law_scaled fd) (hb : Binds K fd ["_law_one", "_law_top", "_law_bottom"] []) (G_law_amount : FnD P w K mg base 1 A.law_amount (sp_law_amount A)) : FnD P w K mg base 2 A.law_scaled (sp_law_scaled A) :=
  def_ofW (N := ["_law_one", "_law_top", "_law_bottom"]) (qb := qb_law_scaled A) F hb sc_law_scaled (len_law_scaled A) (fun cdv Ar outer s H E hr =>
    (dss_one (ds_ret (de_call G_law_amount (hr.mono (by decide)) rfl T.g_law_amount T.k_law_amount (da_cons (de_op do_mul (de_idx (hu1 hr) (dv 0) de_int) (dv 1)) (da_cons (de_op do_mul (de_idx (hu1 hr) (dv 0) de_int) (dv 2)) da_nil)))))) (rd_law_scaled A)
theorem sc_law_part : FnScope ["_law_bag_here", "_law_one", "_law_top", "_law_bottom"] ["_law_bag_here", "_law_one"] (defScope s_law_part) := ⟨rfl, rfl, rfl, by decide +kernel, rfl, by decide +kernel, by decide +kernel⟩
theorem d_law_part {fd : FuncData} (T : Txt K mg A) (F : Fun K "_law_part" "_law_part" s_law_part A.law_part fd) (hb : Binds K fd ["_law_bag_here", "_law_one"] []) (G_law_of : FnD P w K mg base 2 A.law_of (sp_law_of A)) (G_law_scaled : FnD P w K mg base 2 A.law_scaled (sp_law_scaled A)) : FnD P w K mg base 3 A.law_part (sp_law_part A) :=
  def_ofW (N := ["_law_bag_here", "_law_one", "_law_top", "_law_bottom"]) (qb := qb_law_part A) F hb sc_law_part (len_law_part A) (fun cdv Ar outer s H E hr =>
    (dss_cons (ds_asg (de_call G_law_of (hr.mono (by decide)) rfl T.g_law_of T.k_law_of (da_cons (dv 0) (da_cons (de_lstF (da_cons (de_tup (da_cons de_int (da_cons de_int da_nil))) (da_cons (de_tup (da_cons de_int (da_cons de_int da_nil))) (da_cons (de_tup (da_cons de_int (da_cons de_int da_nil))) (da_cons (de_tup (da_cons de_int (da_cons de_int da_nil))) (da_cons (de_tup (da_cons de_int (da_cons de_int da_nil))) (da_cons (de_tup (da_cons de_int (da_cons de_int da_nil))) da_nil))))))) da_nil))) (pt_tp rfl (pts_cn (pt_nm 2 sc_law_part.nd) (pts_cn (pt_nm 3 sc_law_part.nd) pts_nl))))
    (dss_one (ds_ret (de_call G_law_scaled (hr.mono (by decide)) rfl T.g_law_scaled T.k_law_scaled (da_cons (dv 1) (da_cons (dv 2) (da_cons (dv 3) da_nil)))))))) (rd_law_part A)
theorem sc_Buffer_fullest : FnScope ["self"] ["self"] (defScope s_Buffer_fullest) := ⟨rfl, rfl, rfl, by decide +kernel, rfl, by decide +kernel, by decide +kernel⟩
theorem d_Buffer_fullest {fd : FuncData} (T : Txt K mg A) (F : Fun K "fullest" "Buffer.fullest" s_Buffer_fullest A.Buffer_fullest fd) (hb : Binds K fd ["self"] []) : FnD P w K mg base 1 A.Buffer_fullest (sp_Buffer_fullest A) :=
  def_ofW (N := ["self"]) (qb := qb_Buffer_fullest A) F hb sc_Buffer_fullest (len_Buffer_fullest A) (fun cdv Ar outer s H E hr =>
    (dss_one (ds_ret (de_fld T.c_Buffer T.n_Buffer_p_fullest (dv 0))))) (rd_Buffer_fullest A)
theorem sc_law_all : FnScope ["_law_row", "_law_found", "_law_one"] ["_law_row"] (defScope s_law_all) := ⟨rfl, rfl, rfl, by decide +kernel, rfl, by decide +kernel, by decide +kernel⟩
theorem d_law_all {fd : FuncData} (T : Txt K mg A) (F : Fun K "_law_all" "_law_all" s_law_all A.law_all fd) (hb : Binds K fd ["_law_row"] []) (G_law_sum : FnD P w K mg base 2 A.law_sum (sp_law_sum A)) : FnD P w K mg base 3 A.law_all (sp_law_all A) :=
  def_ofW (N := ["_law_row", "_law_found", "_law_one"]) (qb := qb_law_all A) F hb sc_law_all (len_law_all A) (fun cdv Ar outer s H E hr =>
    (dss_cons (ds_set 1 sc_law_all.nd (de_tup (da_cons de_int (da_cons de_int da_nil))))
    (dss_cons (ds_for PassesOwn.never rfl (di_lst (dv 0)) (pt_nm 2 sc_law_all.nd) (dss_one (ds_set 1 sc_law_all.nd (de_call G_law_sum (hr.mono (by decide)) rfl T.g_law_sum T.k_law_sum (da_cons (dv 1) (da_cons (dv 2) da_nil))))))
    (dss_one (ds_ret (dv 1)))))) (rd_law_all A)
theorem sc_Buffer_held : FnScope ["self"] ["self"] (defScope s_Buffer_held) := ⟨rfl, rfl, rfl, by decide +kernel, rfl, by decide +kernel, by decide +kernel⟩
theorem d_Buffer_held {fd : FuncData} (T : Txt K mg A) (F : Fun K "held" "Buffer.held" s_Buffer_held A.Buffer_held fd) (hb : Binds K fd ["self"] []) : FnD P w K mg base 1 A.Buffer_held (sp_Buffer_held A) :=
  def_ofW (N := ["self"]) (qb := qb_Buffer_held A) F hb sc_Buffer_held (len_Buffer_held A) (fun cdv Ar outer s H E hr =>
    (dss_one (ds_ret (de_fld T.c_Buffer T.n_Buffer_p_held (dv 0))))) (rd_Buffer_held A)
theorem sc_plus : FnScope ["amounts", "top", "bottom", "more", "parts", "common"] ["amounts"] (defScope s_plus) := ⟨rfl, rfl, rfl, by decide +kernel, rfl, by decide +kernel, by decide +kernel⟩
theorem d_plus {fd : FuncData} (T : Txt K mg A) (F : Fun K "plus" "plus" s_plus A.plus fd) (G_p_lowest : FnD P w K mg base 1 A.p_lowest (sp_p_lowest A)) : FnD P w K mg base 2 A.plus (sp_plus_s A) :=
  star_ofW (N := ["amounts", "top", "bottom", "more", "parts", "common"]) (ps := []) (pv := "amounts") (sp := sp_plus A) (qb := qb_plus A) F sc_plus (fun kV dc pm an cdv ct us rest hl => match us, hl, rest with | [], _, [] => rfl | [], _, _ :: _ => rfl) (fun cdv Ar outer s H E hr =>
    (dss_cons (ds_asg (de_glob (.tup [(.int 0), (.int 1)]) rfl T.g_ZERO T.t_ZERO) (pt_tp rfl (pts_cn (pt_nm 1 sc_plus.nd) (pts_cn (pt_nm 2 sc_plus.nd) pts_nl))))
    (dss_cons (ds_for PassesOwn.never rfl (di_tup (dv 0)) (pt_tp rfl (pts_cn (pt_nm 3 sc_plus.nd) (pts_cn (pt_nm 4 sc_plus.nd) pts_nl))) (dss_one (ds_if (dt_cmp (do_eq2 (hu64 hr)) (dv 4) (dv 2) (by first | rfl | exact nobehind _ (by decide) (by decide))) (dss_one (ds_aug 1 sc_plus.nd do_iadd (dv 3))) (dss_cons (ds_set 5 sc_plus.nd (de_callBfun db_gcd rfl T.i_gcd (da_cons (dv 2) (da_cons (dv 4) da_nil))))
    (dss_cons (ds_set 1 sc_plus.nd (de_op do_add (de_op do_mul (dv 1) (de_op do_fdiv (dv 4) (dv 5))) (de_op do_mul (dv 3) (de_op do_fdiv (dv 2) (dv 5)))))
    (dss_one (ds_set 2 sc_plus.nd (de_op do_mul (de_op do_fdiv (dv 2) (dv 5)) (dv 4)))))))))
    (dss_one (ds_ret (de_call G_p_lowest (hr.mono (by decide)) rfl T.g_p_lowest T.k_p_lowest (da_cons (dv 1) (da_cons (dv 2) da_nil)))))))) (rd_plus A)
theorem sc_Wire_under_way : FnScope ["self", "tick", "waters", "sent"] ["self", "tick"] (defScope s_Wire_under_way) := ⟨rfl, rfl, rfl, by decide +kernel, rfl, by decide +kernel, by decide +kernel⟩
theorem d_Wire_under_way {fd : FuncData} (T : Txt K mg A) (F : Fun K "under_way" "Wire.under_way" s_Wire_under_way A.Wire_under_way fd) (hb : Binds K fd ["self", "tick"] []) (G_plus : FnD P w K mg base 2 A.plus (sp_plus_s A)) : FnD P w K mg base 3 A.Wire_under_way (sp_Wire_under_way A) :=
  def_ofW (N := ["self", "tick", "waters", "sent"]) (qb := qb_Wire_under_way A) F hb sc_Wire_under_way (len_Wire_under_way A) (fun cdv Ar outer s H E hr =>
    (dss_cons (ds_setLcF 2 rfl sc_Wire_under_way.nd (di_range2 rfl T.z_range (da_cons (de_op do_add (de_op do_sub (dv 1) (de_fld T.c_Wire T.n_Wire_p_way (dv 0))) de_int) (da_cons (de_op do_add (dv 1) de_int) da_nil))) (own := [("sent", 3)]) (by show BlkOk ["self", "tick", "waters", "sent"] (defScope s_Wire_under_way) _ _; exact ⟨rfl, by decide +kernel, by decide +kernel, by decide +kernel, by decide +kernel⟩) (fun _ _ _ _ _ => (pt_nm 3 sc_Wire_under_way.nd)) (fun _ _ _ _ _ => dts_nil (K := _)) (fun _ _ _ _ _ => (de_dget2 (hu1 hr) (de_fld T.c_Wire T.n_Wire_p_sent (dv 0)) (dv 3) (de_glob (.tup [(.int 0), (.int 1)]) rfl T.g_ZERO T.t_ZERO))))
    (dss_one (ds_ret (de_callS1 G_plus (hr.mono (by decide)) T.k_plus rfl T.g_plus (dv 2)))))) (rd_Wire_under_way A)
theorem sc_law_parts_agree : FnScope ["_law_told", "_law_now_of", "_law_sent_of", "_law_out", "_law_wire", "_law_store", "_law_top"] ["_law_told", "_law_now_of", "_law_sent_of", "_law_out"] (defScope s_law_parts_agree) := ⟨rfl, rfl, rfl, by decide +kernel, rfl, by decide +kernel, by decide +kernel⟩
theorem d_law_parts_agree {fd : FuncData} (T : Txt K mg A) (F : Fun K "_law_parts_agree" "_law_parts_agree" s_law_parts_agree A.law_parts_agree fd) (hb : Binds K fd ["_law_told", "_law_now_of", "_law_sent_of", "_law_out"] []) (G_law_less : FnD P w K mg base 1 A.law_less (sp_law_less A)) (G_Buffer_held : FnD P w K mg base 1 A.Buffer_held (sp_Buffer_held A)) (G_law_same : FnD P w K mg base 4 A.law_same (sp_law_same 4 A)) (G_law_sum : FnD P w K mg base 2 A.law_sum (sp_law_sum A)) (G_Wire_under_way : FnD P w K mg base 3 A.Wire_under_way (sp_Wire_under_way A)) : FnD P w K mg base 5 A.law_parts_agree (sp_law_parts_agree A) :=
  def_ofW (N := ["_law_told", "_law_now_of", "_law_sent_of", "_law_out", "_law_wire", "_law_store", "_law_top"]) (qb := qb_law_parts_agree A) F hb sc_law_parts_agree (len_law_parts_agree A) (fun cdv Ar outer s H E hr =>
    (dss_cons (ds_asg (dv 0) (pt_tp rfl (pts_cn (pt_nm 4 sc_law_parts_agree.nd) (pts_cn (pt_nm 5 sc_law_parts_agree.nd) (pts_cn (pt_nm 6 sc_law_parts_agree.nd) pts_nl)))))
    (dss_cons (ds_if (dt_val (de_call G_law_less (hr.mono (by decide)) rfl T.g_law_less T.k_law_less (da_cons (dv 6) (da_cons (de_prop (dv 5) T.c_Buffer T.p_Buffer_held G_Buffer_held (hr.mono (by decide))) da_nil)))) (dss_one (ds_ret de_bl)) dss_nil)
    (dss_one (ds_ret (de_call G_law_same (hr.mono (by decide)) rfl T.g_law_same T.k_law_same (da_cons (de_call G_law_sum (hr.mono (by decide)) rfl T.g_law_sum T.k_law_sum (da_cons (de_call G_law_sum (hr.mono (by decide)) rfl T.g_law_sum T.k_law_sum (da_cons (de_meth (dv 4) T.c_Wire T.m_Wire_under_way G_Wire_under_way (hr.mono (by decide)) (da_cons (dv 1) da_nil)) (da_cons (de_prop (dv 5) T.c_Buffer T.p_Buffer_held G_Buffer_held (hr.mono (by decide))) da_nil))) (da_cons (dv 3) da_nil))) (da_cons (dv 2) da_nil)))))))) (rd_law_parts_agree A)
theorem sc_Wire_arriving : FnScope ["self", "tick"] ["self", "tick"] (defScope s_Wire_arriving) := ⟨rfl, rfl, rfl, by decide +kernel, rfl, by decide +kernel, by decide +kernel⟩
theorem d_Wire_arriving {fd : FuncData} (T : Txt K mg A) (F : Fun K "arriving" "Wire.arriving" s_Wire_arriving A.Wire_arriving fd) (hb : Binds K fd ["self", "tick"] []) : FnD P w K mg base 1 A.Wire_arriving (sp_Wire_arriving A) :=
  def_ofW (N := ["self", "tick"]) (qb := qb_Wire_arriving A) F hb sc_Wire_arriving (len_Wire_arriving A) (fun cdv Ar outer s H E hr =>
    (dss_one (ds_ret (de_dget2 (hu1 hr) (de_fld T.c_Wire T.n_Wire_p_sent (dv 0)) (de_op do_sub (dv 1) (de_fld T.c_Wire T.n_Wire_p_way (dv 0))) (de_glob (.tup [(.int 0), (.int 1)]) rfl T.g_ZERO T.t_ZERO))))) (rd_Wire_arriving A)
theorem sc_largest : FnScope ["first", "others", "found", "other"] ["first", "others"] (defScope s_largest) := ⟨rfl, rfl, rfl, by decide +kernel, rfl, by decide +kernel, by decide +kernel⟩
theorem d_largest {fd : FuncData} (T : Txt K mg A) (F : Fun K "largest" "largest" s_largest A.largest fd) (G_compare : FnD P w K mg base 1 A.compare (sp_compare A)) : FnD P w K mg base 2 A.largest (sp_largest_s A) :=
  star_ofW (N := ["first", "others", "found", "other"]) (ps := ["first"]) (pv := "others") (sp := sp_largest A) (qb := qb_largest A) F sc_largest (fun kV dc pm an cdv ct us rest hl => match us, hl, rest with | [_], _, [] => rfl | [_], _, _ :: _ => rfl) (fun cdv Ar outer s H E hr =>
    (dss_cons (ds_set 2 sc_largest.nd (dv 0))
    (dss_cons (ds_for PassesOwn.never rfl (di_tup (dv 1)) (pt_nm 3 sc_largest.nd) (dss_one (ds_if (dt_cmp do_gt (de_call G_compare (hr.mono (by decide)) rfl T.g_compare T.k_compare (da_cons (dv 3) (da_cons (dv 2) da_nil))) de_int (by first | rfl | exact nobehind _ (by decide) (by decide))) (dss_one (ds_set 2 sc_largest.nd (dv 3))) dss_nil)))
    (dss_one (ds_ret (dv 2)))))) (rd_largest A)
theorem sc_Buffer_set_to : FnScope ["self", "water"] ["self", "water"] (defScope s_Buffer_set_to) := ⟨rfl, rfl, rfl, by decide +kernel, rfl, by decide +kernel, by decide +kernel⟩
theorem d_Buffer_set_to {fd : FuncData} (T : Txt K mg A) (F : Fun K "set_to" "Buffer.set_to" s_Buffer_set_to A.Buffer_set_to fd) (hb : Binds K fd ["self", "water"] []) (G_largest : FnD P w K mg base 2 A.largest (sp_largest_s A)) : FnD P w K mg base 3 A.Buffer_set_to (sp_Buffer_set_to A) :=
  def_ofW (N := ["self", "water"]) (qb := qb_Buffer_set_to A) F hb sc_Buffer_set_to (len_Buffer_set_to A) (fun cdv Ar outer s H E hr =>
    (dss_cons (ds_setF T.c_Buffer T.n_Buffer_p_held (dv 0) (dv 1))
    (dss_one (ds_setF T.c_Buffer T.n_Buffer_p_fullest (dv 0) (de_call G_largest (hr.mono (by decide)) rfl T.g_largest T.k_largest (da_cons (de_fld T.c_Buffer T.n_Buffer_p_fullest (dv 0)) (da_cons (dv 1) da_nil))))))) (rd_Buffer_set_to A)
theorem sc_Buffer_take_in : FnScope ["self", "water", "whole"] ["self", "water"] (defScope s_Buffer_take_in) := ⟨rfl, rfl, rfl, by decide +kernel, rfl, by decide +kernel, by decide +kernel⟩
theorem d_Buffer_take_in {fd : FuncData} (T : Txt K mg A) (F : Fun K "take_in" "Buffer.take_in" s_Buffer_take_in A.Buffer_take_in fd) (hb : Binds K fd ["self", "water"] []) (G_plus : FnD P w K mg base 2 A.plus (sp_plus_s A)) (G_compare : FnD P w K mg base 1 A.compare (sp_compare A)) (G_Buffer_set_to : FnD P w K mg base 3 A.Buffer_set_to (sp_Buffer_set_to A)) (G_minus : FnD P w K mg base 2 A.minus (sp_minus A)) : FnD P w K mg base 4 A.Buffer_take_in (sp_Buffer_take_in A) :=
  def_ofW (N := ["self", "water", "whole"]) (qb := qb_Buffer_take_in A) F hb sc_Buffer_take_in (len_Buffer_take_in A) (fun cdv Ar outer s H E hr =>
    (dss_cons (ds_set 2 sc_Buffer_take_in.nd (de_call G_plus (hr.mono (by decide)) rfl T.g_plus T.k_plus (da_cons (de_fld T.c_Buffer T.n_Buffer_p_held (dv 0)) (da_cons (dv 1) da_nil))))
    (dss_cons (ds_if (dt_cmp do_le (de_call G_compare (hr.mono (by decide)) rfl T.g_compare T.k_compare (da_cons (dv 2) (da_cons (de_fld T.c_Buffer T.n_Buffer_size (dv 0)) da_nil))) de_int (by first | rfl | exact nobehind _ (by decide) (by decide))) (dss_cons (ds_expr (de_meth (dv 0) T.c_Buffer T.m_Buffer_set_to G_Buffer_set_to (hr.mono (by decide)) (da_cons (dv 2) da_nil)))
    (dss_one (ds_ret (de_glob (.tup [(.int 0), (.int 1)]) rfl T.g_ZERO T.t_ZERO)))) dss_nil)
    (dss_cons (ds_expr (de_meth (dv 0) T.c_Buffer T.m_Buffer_set_to G_Buffer_set_to (hr.mono (by decide)) (da_cons (de_fld T.c_Buffer T.n_Buffer_size (dv 0)) da_nil)))
    (dss_one (ds_ret (de_call G_minus (hr.mono (by decide)) rfl T.g_minus T.k_minus (da_cons (dv 2) (da_cons (de_fld T.c_Buffer T.n_Buffer_size (dv 0)) da_nil))))))))) (rd_Buffer_take_in A)
theorem sc_Hop_sent_after : FnScope ["self", "tick", "now", "waters", "sent", "put"] ["self", "tick", "now"] (defScope s_Hop_sent_after) := ⟨rfl, rfl, rfl, by decide +kernel, rfl, by decide +kernel, by decide +kernel⟩
theorem d_Hop_sent_after {fd : FuncData} (T : Txt K mg A) (F : Fun K "sent_after" "Hop.sent_after" s_Hop_sent_after A.Hop_sent_after fd) (hb : Binds K fd ["self", "tick", "now"] []) (G_plus : FnD P w K mg base 2 A.plus (sp_plus_s A)) : FnD P w K mg base 3 A.Hop_sent_after (sp_Hop_sent_after A) :=
  def_ofW (N := ["self", "tick", "now", "waters", "sent", "put"]) (qb := qb_Hop_sent_after A) F hb sc_Hop_sent_after (len_Hop_sent_after A) (fun cdv Ar outer s H E hr =>
    (dss_cons (ds_lock (ds_setLcF 3 rfl sc_Hop_sent_after.nd (di_items (de_fld T.c_Hop T.n_Hop_p_sent (dv 0))) (own := [("sent", 4), ("put", 5)]) (by show BlkOk ["self", "tick", "now", "waters", "sent", "put"] (defScope s_Hop_sent_after) _ _; exact ⟨rfl, by decide +kernel, by decide +kernel, by decide +kernel, by decide +kernel⟩) (fun _ _ _ _ _ => (pt_tp rfl (pts_cn (pt_nm 4 sc_Hop_sent_after.nd) (pts_cn (pt_nm 5 sc_Hop_sent_after.nd) pts_nl)))) (fun _ _ _ _ _ => dts_one (dt_chain do_lt do_lt (dv 1) (dv 4) (dv 2))) (fun _ _ _ _ _ => (dv 5))))
    (dss_one (ds_ret (de_callS1 G_plus (hr.mono (by decide)) T.k_plus rfl T.g_plus (dv 3)))))) (rd_Hop_sent_after A)
theorem sc_Hop_room : FnScope ["self", "now", "made", "told", "used"] ["self", "now", "made", "told"] (defScope s_Hop_room) := ⟨rfl, rfl, rfl, by decide +kernel, rfl, by decide +kernel, by decide +kernel⟩
theorem d_Hop_room {fd : FuncData} (T : Txt K mg A) (F : Fun K "room" "Hop.room" s_Hop_room A.Hop_room fd) (hb : Binds K fd ["self", "now", "made", "told"] []) (G_Hop_sent_after : FnD P w K mg base 3 A.Hop_sent_after (sp_Hop_sent_after A)) (G_compare : FnD P w K mg base 1 A.compare (sp_compare A)) (G_minus : FnD P w K mg base 2 A.minus (sp_minus A)) : FnD P w K mg base 4 A.Hop_room (sp_Hop_room A) :=
  def_ofW (N := ["self", "now", "made", "told", "used"]) (qb := qb_Hop_room A) F hb sc_Hop_room (len_Hop_room A) (fun cdv Ar outer s H E hr =>
    (dss_cons (ds_set 4 sc_Hop_room.nd (de_meth (dv 0) T.c_Hop T.m_Hop_sent_after G_Hop_sent_after (hr.mono (by decide)) (da_cons (de_op do_sub (dv 2) (de_fld T.c_Hop T.n_Hop_p_way (dv 0))) (da_cons (dv 1) da_nil))))
    (dss_cons (ds_if (dt_cmp do_ge (de_call G_compare (hr.mono (by decide)) rfl T.g_compare T.k_compare (da_cons (dv 4) (da_cons (dv 3) da_nil))) de_int (by first | rfl | exact nobehind _ (by decide) (by decide))) (dss_one (ds_ret (de_glob (.tup [(.int 0), (.int 1)]) rfl T.g_ZERO T.t_ZERO))) dss_nil)
    (dss_one (ds_ret (de_call G_minus (hr.mono (by decide)) rfl T.g_minus T.k_minus (da_cons (dv 3) (da_cons (dv 4) da_nil)))))))) (rd_Hop_room A)
theorem sc_law : FnScope ["_law_script", "_law_bag_here", "_law_way_of", "_law_age_of", "_law_top", "_law_wire", "_law_hop", "_law_store", "_law_notes", "_law_sends", "_law_here", "_law_most", "_law_sent_of", "_law_out", "_law_eager", "_law_now_of", "_law_comes", "_law_made", "_law_wish", "_law_room", "_law_given", "_law_part_here", "_law_at"] ["_law_script"] (defScope s_law) := ⟨rfl, rfl, rfl, by decide +kernel, rfl, by decide +kernel, by decide +kernel⟩
theorem d_law {fd : FuncData} (T : Txt K mg A) (F : Fun K "law" "law" s_law A.law fd) (G_law_bag : FnD P w K mg base 1 A.law_bag (sp_law_bag A)) (G_law_of : FnD P w K mg base 2 A.law_of (sp_law_of A)) (G_law_some : FnD P w K mg base 3 A.law_some (sp_law_some A)) (G_Buffer_init : FnD P w K mg base 1 A.Buffer_init (sp_Buffer_init A)) (G_Hop_init : FnD P w K mg base 1 A.Hop_init (sp_Hop_init A)) (G_Wire_init : FnD P w K mg base 1 A.Wire_init (sp_Wire_init A)) (G_law_draw : FnD P w K mg base 1 A.law_draw (sp_law_draw A)) (G_law_same : FnD P w K mg base 4 A.law_same (sp_law_same 4 A)) (G_Wire_arriving : FnD P w K mg base 1 A.Wire_arriving (sp_Wire_arriving A)) (G_Buffer_take_in : FnD P w K mg base 4 A.Buffer_take_in (sp_Buffer_take_in A)) (G_law_sum : FnD P w K mg base 2 A.law_sum (sp_law_sum A)) (G_law_max : FnD P w K mg base 2 A.law_max (sp_law_max A)) (G_law_rest : FnD P w K mg base 2 A.law_rest (sp_law_rest A)) (G_law_all : FnD P w K mg base 3 A.law_all (sp_law_all A)) (G_Hop_room : FnD P w K mg base 4 A.Hop_room (sp_Hop_room A)) (G_law_min : FnD P w K mg base 2 A.law_min (sp_law_min A)) (G_Hop_remember : FnD P w K mg base 1 A.Hop_remember (sp_Hop_remember A)) (G_Wire_put : FnD P w K mg base 1 A.Wire_put (sp_Wire_put A)) (G_law_part : FnD P w K mg base 3 A.law_part (sp_law_part A)) (G_Buffer_give : FnD P w K mg base 3 A.Buffer_give (sp_Buffer_give A)) (G_Buffer_held : FnD P w K mg base 1 A.Buffer_held (sp_Buffer_held A)) (G_law_parts_agree : FnD P w K mg base 5 A.law_parts_agree (sp_law_parts_agree A)) (G_Buffer_fullest : FnD P w K mg base 1 A.Buffer_fullest (sp_Buffer_fullest A)) : FnOk P w K mg base CX0 6 A.law fd ["_law_script"] (liftSp K lspLaw) :=
  fno_ofW (N := ["_law_script", "_law_bag_here", "_law_way_of", "_law_age_of", "_law_top", "_law_wire", "_law_hop", "_law_store", "_law_notes", "_law_sends", "_law_here", "_law_most", "_law_sent_of", "_law_out", "_law_eager", "_law_now_of", "_law_comes", "_law_made", "_law_wish", "_law_room", "_law_given", "_law_part_here", "_law_at"]) (qb := qb_law A) F sc_law len_law (fun cdv Ar outer s H E hr =>
    (dss_cons (ds_set 1 sc_law.nd (de_call G_law_bag (hr.mono (by decide)) rfl T.g_law_bag T.k_law_bag (da_cons (dv 0) da_nil)))
    (dss_cons (ds_asg (de_tup (da_cons (de_call G_law_of (hr.mono (by decide)) rfl T.g_law_of T.k_law_of (da_cons (dv 1) (da_cons (de_lstF (da_cons de_int (da_cons de_int (da_cons de_int (da_cons de_int da_nil))))) da_nil))) (da_cons (de_call G_law_of (hr.mono (by decide)) rfl T.g_law_of T.k_law_of (da_cons (dv 1) (da_cons (de_lstF (da_cons de_int (da_cons de_int (da_cons de_int (da_cons de_int da_nil))))) da_nil))) da_nil))) (pt_tp rfl (pts_cn (pt_nm 2 sc_law.nd) (pts_cn (pt_nm 3 sc_law.nd) pts_nl))))
    (dss_cons (ds_set 4 sc_law.nd (de_call G_law_of (hr.mono (by decide)) rfl T.g_law_of T.k_law_of (da_cons (dv 1) (da_cons (de_lstF (da_cons (de_call G_law_some (hr.mono (by decide)) rfl T.g_law_some T.k_law_some (da_cons (dv 1) (da_cons de_int da_nil))) (da_cons (de_call G_law_some (hr.mono (by decide)) rfl T.g_law_some T.k_law_some (da_cons (dv 1) (da_cons de_int da_nil))) (da_cons (de_tup (da_cons de_int (da_cons de_int da_nil))) (da_cons (de_tup (da_cons de_int (da_cons de_int da_nil))) (da_cons (de_tup (da_cons de_int (da_cons de_int da_nil))) da_nil)))))) da_nil))))
    (dss_cons (ds_par3 5 6 7 rfl sc_law.nd (da_cons (de_make T.mk_Wire G_Wire_init (hr.mono (by decide)) rfl T.g_Wire (da_cons (dv 2) da_nil)) (da_cons (de_make T.mk_Hop G_Hop_init (hr.mono (by decide)) rfl T.g_Hop (da_cons (dv 2) (da_cons (dv 3) da_nil))) (da_cons (de_make T.mk_Buffer G_Buffer_init (hr.mono (by decide)) rfl T.g_Buffer (da_cons (dv 4) da_nil)) da_nil))))
    (dss_cons (ds_asg (de_tup (da_cons (de_disp (dps_cons (de_neg de_int) (dv 4) dps_nil)) (da_cons de_dnewK (da_cons (de_tup (da_cons de_int (da_cons de_int da_nil))) (da_cons (de_tup (da_cons de_int (da_cons de_int da_nil))) (da_cons (de_tup (da_cons de_int (da_cons de_int da_nil))) (da_cons (de_tup (da_cons de_int (da_cons de_int da_nil))) da_nil))))))) (pt_tp rfl (pts_cn (pt_nm 8 sc_law.nd) (pts_cn (pt_nm 9 sc_law.nd) (pts_cn (pt_nm 10 sc_law.nd) (pts_cn (pt_nm 11 sc_law.nd) (pts_cn (pt_nm 12 sc_law.nd) (pts_cn (pt_nm 13 sc_law.nd) pts_nl))))))))
    (dss_cons (ds_set 14 sc_law.nd (de_cmp (do_eq2 (hu64 hr)) (de_call G_law_draw (hr.mono (by decide)) rfl T.g_law_draw T.k_law_draw (da_cons (dv 1) (da_cons de_int da_nil))) de_int (by first | rfl | exact nobehind _ (by decide) (by decide))))
    (dss_cons (ds_for PassesOwn.never rfl (di_range1 rfl T.z_range (da_cons (de_op do_add de_int (de_call G_law_draw (hr.mono (by decide)) rfl T.g_law_draw T.k_law_draw (da_cons (dv 1) (da_cons de_int da_nil)))) da_nil)) (pt_nm 15 sc_law.nd) (dss_cons (ds_set 16 sc_law.nd (de_dget2 (hu1 hr) (dv 9) (de_op do_sub (dv 15) (dv 2)) (de_tup (da_cons de_int (da_cons de_int da_nil)))))
    (dss_cons (ds_if (PW.pt (dw_or (dt_not (dt_val (de_call G_law_same (hr.mono (by decide)) rfl T.g_law_same T.k_law_same (da_cons (de_meth (dv 5) T.c_Wire T.m_Wire_arriving G_Wire_arriving (hr.mono (by decide)) (da_cons (dv 15) da_nil)) (da_cons (dv 16) da_nil))))) (dw_or1 (dt_not (dt_val (de_call G_law_same (hr.mono (by decide)) rfl T.g_law_same T.k_law_same (da_cons (de_meth (dv 7) T.c_Buffer T.m_Buffer_take_in G_Buffer_take_in (hr.mono (by decide)) (da_cons (dv 16) da_nil)) (da_cons (de_tup (da_cons de_int (da_cons de_int da_nil))) da_nil)))))))) (dss_one (ds_ret de_bl)) dss_nil)
    (dss_cons (ds_set 10 sc_law.nd (de_call G_law_sum (hr.mono (by decide)) rfl T.g_law_sum T.k_law_sum (da_cons (dv 10) (da_cons (dv 16) da_nil))))
    (dss_cons (ds_set 11 sc_law.nd (de_call G_law_max (hr.mono (by decide)) rfl T.g_law_max T.k_law_max (da_cons (dv 11) (da_cons (dv 10) da_nil))))
    (dss_cons (ds_set 17 sc_law.nd (de_op do_sub (de_op do_sub (dv 15) de_int) (de_call G_law_draw (hr.mono (by decide)) rfl T.g_law_draw T.k_law_draw (da_cons (dv 1) (da_cons (de_op do_add (dv 3) de_int) da_nil)))))
    (dss_cons (ds_set 18 sc_law.nd (de_if (dt_tru (dv 14)) (de_tup (da_cons de_int (da_cons de_int da_nil))) (de_call G_law_of (hr.mono (by decide)) rfl T.g_law_of T.k_law_of (da_cons (dv 1) (da_cons (de_lstF (da_cons (de_call G_law_some (hr.mono (by decide)) rfl T.g_law_some T.k_law_some (da_cons (dv 1) (da_cons de_int da_nil))) (da_cons (de_tup (da_cons de_int (da_cons de_int da_nil))) (da_cons (de_tup (da_cons de_int (da_cons de_int da_nil))) (da_cons (de_call G_law_some (hr.mono (by decide)) rfl T.g_law_some T.k_law_some (da_cons (dv 1) (da_cons de_int da_nil))) da_nil))))) da_nil)))))
    (dss_cons (ds_set 19 sc_law.nd (de_tup (da_cons de_int (da_cons de_int da_nil))))
    (dss_cons (ds_if (PW.pt (dw_and (dt_cmp (do_in2 (hu65 hr)) (dv 17) (dv 8) (by first | rfl | exact nobehind _ (by decide) (by decide))) (dw_and1 (dt_cmp do_ge (dv 17) (de_op do_sub (dv 15) (dv 3)) (by first | rfl | exact nobehind _ (by decide) (by decide)))))) (dss_cons (ds_set 19 sc_law.nd (de_call G_law_rest (hr.mono (by decide)) rfl T.g_law_rest T.k_law_rest (da_cons (de_idx (hu1 hr) (dv 8) (dv 17)) (da_cons (de_call G_law_all (hr.mono (by decide)) rfl T.g_law_all T.k_law_all (da_cons (de_freeze (de_lock (de_lc rfl sc_law.nd (di_keys (dv 9)) (own := [("_law_at", 22)]) (by show BlkOk ["_law_script", "_law_bag_here", "_law_way_of", "_law_age_of", "_law_top", "_law_wire", "_law_hop", "_law_store", "_law_notes", "_law_sends", "_law_here", "_law_most", "_law_sent_of", "_law_out", "_law_eager", "_law_now_of", "_law_comes", "_law_made", "_law_wish", "_law_room", "_law_given", "_law_part_here", "_law_at"] (defScope s_law) _ _; exact ⟨rfl, by decide +kernel, by decide +kernel, by decide +kernel, by decide +kernel⟩) (fun _ _ _ _ _ => (pt_nm 22 sc_law.nd)) (fun _ _ _ _ _ => dts_one (dt_cmp do_gt (dv 22) (de_op do_sub (dv 17) (dv 2)) (by first | rfl | exact nobehind _ (by decide) (by decide)))) (fun _ _ _ _ _ => (de_idx (hu1 hr) (dv 9) (dv 22)))))) da_nil)) da_nil))))
    (dss_one (ds_if (dt_not (dt_val (de_call G_law_same (hr.mono (by decide)) rfl T.g_law_same T.k_law_same (da_cons (de_meth (dv 6) T.c_Hop T.m_Hop_room G_Hop_room (hr.mono (by decide)) (da_cons (dv 15) (da_cons (dv 17) (da_cons (de_idx (hu1 hr) (dv 8) (dv 17)) da_nil)))) (da_cons (dv 19) da_nil))))) (dss_one (ds_ret de_bl)) dss_nil))) dss_nil)
    (dss_cons (ds_set 20 sc_law.nd (de_call G_law_min (hr.mono (by decide)) rfl T.g_law_min T.k_law_min (da_cons (dv 18) (da_cons (dv 19) da_nil))))
    (dss_cons (ds_expr (de_meth (dv 6) T.c_Hop T.m_Hop_remember G_Hop_remember (hr.mono (by decide)) (da_cons (dv 15) (da_cons (dv 20) da_nil))))
    (dss_cons (ds_expr (de_meth (dv 5) T.c_Wire T.m_Wire_put G_Wire_put (hr.mono (by decide)) (da_cons (dv 15) (da_cons (dv 20) da_nil))))
    (dss_cons (ds_sub (hu1 hr) (dv 9) (dv 15) (dv 20))
    (dss_cons (ds_set 12 sc_law.nd (de_call G_law_sum (hr.mono (by decide)) rfl T.g_law_sum T.k_law_sum (da_cons (dv 12) (da_cons (dv 20) da_nil))))
    (dss_cons (ds_set 21 sc_law.nd (de_if (dt_cmp do_lt (de_idx (hu1 hr) (dv 10) de_int) (de_op do_pow2 de_int de_int) (by first | rfl | exact nobehind _ (by decide) (by decide))) (de_call G_law_part (hr.mono (by decide)) rfl T.g_law_part T.k_law_part (da_cons (dv 1) (da_cons (dv 10) da_nil))) (dv 10)))
    (dss_cons (ds_expr (de_meth (dv 7) T.c_Buffer T.m_Buffer_give G_Buffer_give (hr.mono (by decide)) (da_cons (dv 21) da_nil)))
    (dss_cons (ds_par 10 13 rfl sc_law.nd (da_cons (de_call G_law_rest (hr.mono (by decide)) rfl T.g_law_rest T.k_law_rest (da_cons (dv 10) (da_cons (dv 21) da_nil))) (da_cons (de_call G_law_sum (hr.mono (by decide)) rfl T.g_law_sum T.k_law_sum (da_cons (dv 13) (da_cons (dv 21) da_nil))) da_nil)))
    (dss_cons (ds_sub (hu1 hr) (dv 8) (dv 15) (de_call G_law_rest (hr.mono (by decide)) rfl T.g_law_rest T.k_law_rest (da_cons (dv 4) (da_cons (dv 10) da_nil))))
    (dss_one (ds_if (PW.pt (dw_or (dt_not (dt_val (de_call G_law_same (hr.mono (by decide)) rfl T.g_law_same T.k_law_same (da_cons (de_prop (dv 7) T.c_Buffer T.p_Buffer_held G_Buffer_held (hr.mono (by decide))) (da_cons (dv 10) da_nil))))) (dw_or1 (dt_not (dt_val (de_call G_law_parts_agree (hr.mono (by decide)) rfl T.g_law_parts_agree T.k_law_parts_agree (da_cons (de_tup (da_cons (dv 5) (da_cons (dv 7) (da_cons (dv 4) da_nil)))) (da_cons (dv 15) (da_cons (dv 12) (da_cons (dv 13) da_nil)))))))))) (dss_one (ds_ret de_bl)) dss_nil))))))))))))))))))))
    (dss_one (ds_ret (de_and (de_call G_law_same (hr.mono (by decide)) rfl T.g_law_same T.k_law_same (da_cons (de_prop (dv 7) T.c_Buffer T.p_Buffer_fullest G_Buffer_fullest (hr.mono (by decide))) (da_cons (dv 11) da_nil))) (de_one (de_call G_law_same (hr.mono (by decide)) rfl T.g_law_same T.k_law_same (da_cons (de_fld T.c_Buffer T.n_Buffer_size (dv 7)) (da_cons (dv 4) da_nil))))))))))))))) (rd_law A)
end
theorem all_mk {l : PySem.W.OpenLaw} {w : World} {K : PySem.W.Frag} {h : Heap} {mg : Str → Option Value} {fa x_Wire x_Hop x_Buffer x_ZERO x_law_bag x_law_draw x_law_of x_Wire_init x_Hop_init x_Buffer_init x_law_amount x_law_sum x_law_less x_law_max x_law_min x_Hop_remember x_Wire_put x_p_lowest x_minus x_compare x_Buffer_give x_law_rest x_law_same x_law_some x_law_scaled x_law_part x_Buffer_fullest x_law_all x_Buffer_held x_plus x_Wire_under_way x_law_parts_agree x_Wire_arriving x_largest x_Buffer_set_to x_Buffer_take_in x_Hop_sent_after x_Hop_room x_law x_pr_Buffer_held x_pr_Buffer_fullest : Addr} (X : K.In h) (G : h.Ns mainGlobals mg) (hfa : mg "law" = some (.ref fa))
    {rs_Buffer_held : List Value} {rs_Buffer_fullest : List Value} {o_ZERO : Option Addr} {sl_ZERO : Array (Option Value)} {nn_ZERO : Nat} {t0_ZERO t1_ZERO : Tok} {oc_law_bag kV_law_bag dc_law_bag pm_law_bag cd_law_bag ct_law_bag : Value} {od_law_bag an_law_bag : Option Addr} {sl_law_bag : Array (Option Value)} {oc_law_draw kV_law_draw dc_law_draw pm_law_draw cd_law_draw ct_law_draw : Value} {od_law_draw an_law_draw : Option Addr} {sl_law_draw : Array (Option Value)} {oc_law_of kV_law_of dc_law_of pm_law_of cd_law_of ct_law_of : Value} {od_law_of an_law_of : Option Addr} {sl_law_of : Array (Option Value)} {oc_Wire_init kV_Wire_init dc_Wire_init pm_Wire_init cd_Wire_init ct_Wire_init : Value} {od_Wire_init an_Wire_init : Option Addr} {sl_Wire_init : Array (Option Value)} {oc_Hop_init kV_Hop_init dc_Hop_init pm_Hop_init cd_Hop_init ct_Hop_init : Value} {od_Hop_init an_Hop_init : Option Addr} {sl_Hop_init : Array (Option Value)} {oc_Buffer_init kV_Buffer_init dc_Buffer_init pm_Buffer_init cd_Buffer_init ct_Buffer_init : Value} {od_Buffer_init an_Buffer_init : Option Addr} {sl_Buffer_init : Array (Option Value)} {oc_law_amount kV_law_amount dc_law_amount pm_law_amount cd_law_amount ct_law_amount : Value} {od_law_amount an_law_amount : Option Addr} {sl_law_amount : Array (Option Value)} {oc_law_sum kV_law_sum dc_law_sum pm_law_sum cd_law_sum ct_law_sum : Value} {od_law_sum an_law_sum : Option Addr} {sl_law_sum : Array (Option Value)} {oc_law_less kV_law_less dc_law_less pm_law_less cd_law_less ct_law_less : Value} {od_law_less an_law_less : Option Addr} {sl_law_less : Array (Option Value)} {oc_law_max kV_law_max dc_law_max pm_law_max cd_law_max ct_law_max : Value} {od_law_max an_law_max : Option Addr} {sl_law_max : Array (Option Value)} {oc_law_min kV_law_min dc_law_min pm_law_min cd_law_min ct_law_min : Value} {od_law_min an_law_min : Option Addr} {sl_law_min : Array (Option Value)} {oc_Hop_remember kV_Hop_remember dc_Hop_remember pm_Hop_remember cd_Hop_remember ct_Hop_remember : Value} {od_Hop_remember an_Hop_remember : Option Addr} {sl_Hop_remember : Array (Option Value)} {oc_Wire_put kV_Wire_put dc_Wire_put pm_Wire_put cd_Wire_put ct_Wire_put : Value} {od_Wire_put an_Wire_put : Option Addr} {sl_Wire_put : Array (Option Value)} {oc_p_lowest kV_p_lowest dc_p_lowest pm_p_lowest cd_p_lowest ct_p_lowest : Value} {od_p_lowest an_p_lowest : Option Addr} {sl_p_lowest : Array (Option Value)} {oc_minus kV_minus dc_minus pm_minus cd_minus ct_minus : Value} {od_minus an_minus : Option Addr} {sl_minus : Array (Option Value)} {oc_compare kV_compare dc_compare pm_compare cd_compare ct_compare : Value} {od_compare an_compare : Option Addr} {sl_compare : Array (Option Value)} {oc_Buffer_give kV_Buffer_give dc_Buffer_give pm_Buffer_give cd_Buffer_give ct_Buffer_give : Value} {od_Buffer_give an_Buffer_give : Option Addr} {sl_Buffer_give : Array (Option Value)} {oc_law_rest kV_law_rest dc_law_rest pm_law_rest cd_law_rest ct_law_rest : Value} {od_law_rest an_law_rest : Option Addr} {sl_law_rest : Array (Option Value)} {oc_law_same kV_law_same dc_law_same pm_law_same cd_law_same ct_law_same : Value} {od_law_same an_law_same : Option Addr} {sl_law_same : Array (Option Value)} {oc_law_some kV_law_some dc_law_some pm_law_some cd_law_some ct_law_some : Value} {od_law_some an_law_some : Option Addr} {sl_law_some : Array (Option Value)} {oc_law_scaled kV_law_scaled dc_law_scaled pm_law_scaled cd_law_scaled ct_law_scaled : Value} {od_law_scaled an_law_scaled : Option Addr} {sl_law_scaled : Array (Option Value)} {oc_law_part kV_law_part dc_law_part pm_law_part cd_law_part ct_law_part : Value} {od_law_part an_law_part : Option Addr} {sl_law_part : Array (Option Value)} {oc_Buffer_fullest kV_Buffer_fullest dc_Buffer_fullest pm_Buffer_fullest cd_Buffer_fullest ct_Buffer_fullest : Value} {od_Buffer_fullest an_Buffer_fullest : Option Addr} {sl_Buffer_fullest : Array (Option Value)} {oc_law_all kV_law_all dc_law_all pm_law_all cd_law_all ct_law_all : Value} {od_law_all an_law_all : Option Addr} {sl_law_all : Array (Option Value)} {oc_Buffer_held kV_Buffer_held dc_Buffer_held pm_Buffer_held cd_Buffer_held ct_Buffer_held : Value} {od_Buffer_held an_Buffer_held : Option Addr} {sl_Buffer_held : Array (Option Value)} {oc_plus kV_plus dc_plus pm_plus cd_plus ct_plus : Value} {od_plus an_plus : Option Addr} {sl_plus : Array (Option Value)} {oc_Wire_under_way kV_Wire_under_way dc_Wire_under_way pm_Wire_under_way cd_Wire_under_way ct_Wire_under_way : Value} {od_Wire_under_way an_Wire_under_way : Option Addr} {sl_Wire_under_way : Array (Option Value)} {oc_law_parts_agree kV_law_parts_agree dc_law_parts_agree pm_law_parts_agree cd_law_parts_agree ct_law_parts_agree : Value} {od_law_parts_agree an_law_parts_agree : Option Addr} {sl_law_parts_agree : Array (Option Value)} {oc_Wire_arriving kV_Wire_arriving dc_Wire_arriving pm_Wire_arriving cd_Wire_arriving ct_Wire_arriving : Value} {od_Wire_arriving an_Wire_arriving : Option Addr} {sl_Wire_arriving : Array (Option Value)} {oc_largest kV_largest dc_largest pm_largest cd_largest ct_largest : Value} {od_largest an_largest : Option Addr} {sl_largest : Array (Option Value)} {oc_Buffer_set_to kV_Buffer_set_to dc_Buffer_set_to pm_Buffer_set_to cd_Buffer_set_to ct_Buffer_set_to : Value} {od_Buffer_set_to an_Buffer_set_to : Option Addr} {sl_Buffer_set_to : Array (Option Value)} {oc_Buffer_take_in kV_Buffer_take_in dc_Buffer_take_in pm_Buffer_take_in cd_Buffer_take_in ct_Buffer_take_in : Value} {od_Buffer_take_in an_Buffer_take_in : Option Addr} {sl_Buffer_take_in : Array (Option Value)} {oc_Hop_sent_after kV_Hop_sent_after dc_Hop_sent_after pm_Hop_sent_after cd_Hop_sent_after ct_Hop_sent_after : Value} {od_Hop_sent_after an_Hop_sent_after : Option Addr} {sl_Hop_sent_after : Array (Option Value)} {oc_Hop_room kV_Hop_room dc_Hop_room pm_Hop_room cd_Hop_room ct_Hop_room : Value} {od_Hop_room an_Hop_room : Option Addr} {sl_Hop_room : Array (Option Value)} {oc_law kV_law dc_law pm_law cd_law ct_law : Value} {od_law an_law : Option Addr} {sl_law : Array (Option Value)}
    (a_Wire : PySem.W.nsIn K mainGlobals "Wire" = some (some (.ref x_Wire)))
    (pg_Wire : PySem.W.plainGet K x_Wire Str.empty = true)
    (hd_Wire : PySem.W.hasDictIn K x_Wire = true)
    (po_Wire : PySem.W.plainOver K x_Wire = true)
    (sa_Wire : PySem.W.findIn K (.ref x_Wire) "__setattr__" = some (some (.builtin "object.__setattr__")))
    (a_Hop : PySem.W.nsIn K mainGlobals "Hop" = some (some (.ref x_Hop)))
    (pg_Hop : PySem.W.plainGet K x_Hop Str.empty = true)
    (hd_Hop : PySem.W.hasDictIn K x_Hop = true)
    (po_Hop : PySem.W.plainOver K x_Hop = true)
    (sa_Hop : PySem.W.findIn K (.ref x_Hop) "__setattr__" = some (some (.builtin "object.__setattr__")))
    (a_Buffer : PySem.W.nsIn K mainGlobals "Buffer" = some (some (.ref x_Buffer)))
    (pg_Buffer : PySem.W.plainGet K x_Buffer Str.empty = true)
    (hd_Buffer : PySem.W.hasDictIn K x_Buffer = true)
    (po_Buffer : PySem.W.plainOver K x_Buffer = true)
    (sa_Buffer : PySem.W.findIn K (.ref x_Buffer) "__setattr__" = some (some (.builtin "object.__setattr__")))
    (mm_Buffer : PySem.W.makesIn K x_Buffer = true)
    (kc_Buffer : PySem.W.keepIn K (.ref x_Buffer) = true)
    (ai_Buffer_init : PySem.W.findIn K (.ref x_Buffer) "__init__" = some (some (.ref x_Buffer_init)))
    (if_Buffer_init : PySem.W.isFn K (.ref x_Buffer_init) = true)
    (mm_Hop : PySem.W.makesIn K x_Hop = true)
    (kc_Hop : PySem.W.keepIn K (.ref x_Hop) = true)
    (ai_Hop_init : PySem.W.findIn K (.ref x_Hop) "__init__" = some (some (.ref x_Hop_init)))
    (if_Hop_init : PySem.W.isFn K (.ref x_Hop_init) = true)
    (mm_Wire : PySem.W.makesIn K x_Wire = true)
    (kc_Wire : PySem.W.keepIn K (.ref x_Wire) = true)
    (ai_Wire_init : PySem.W.findIn K (.ref x_Wire) "__init__" = some (some (.ref x_Wire_init)))
    (if_Wire_init : PySem.W.isFn K (.ref x_Wire_init) = true)
    (n_Wire_p_way : PySem.W.findIn K (.ref x_Wire) "_way" = some none)
    (n_Wire_p_sent : PySem.W.findIn K (.ref x_Wire) "_sent" = some none)
    (n_Hop_p_way : PySem.W.findIn K (.ref x_Hop) "_way" = some none)
    (n_Hop_p_age : PySem.W.findIn K (.ref x_Hop) "_age" = some none)
    (n_Hop_p_sent : PySem.W.findIn K (.ref x_Hop) "_sent" = some none)
    (n_Buffer_size : PySem.W.findIn K (.ref x_Buffer) "size" = some none)
    (n_Buffer_p_held : PySem.W.findIn K (.ref x_Buffer) "_held" = some none)
    (n_Buffer_p_fullest : PySem.W.findIn K (.ref x_Buffer) "_fullest" = some none)
    (am_Wire_under_way : PySem.W.findIn K (.ref x_Wire) "under_way" = some (some (.ref x_Wire_under_way)))
    (im_Wire_under_way : PySem.W.isFn K (.ref x_Wire_under_way) = true)
    (am_Buffer_set_to : PySem.W.findIn K (.ref x_Buffer) "set_to" = some (some (.ref x_Buffer_set_to)))
    (im_Buffer_set_to : PySem.W.isFn K (.ref x_Buffer_set_to) = true)
    (am_Hop_sent_after : PySem.W.findIn K (.ref x_Hop) "sent_after" = some (some (.ref x_Hop_sent_after)))
    (im_Hop_sent_after : PySem.W.isFn K (.ref x_Hop_sent_after) = true)
    (am_Wire_arriving : PySem.W.findIn K (.ref x_Wire) "arriving" = some (some (.ref x_Wire_arriving)))
    (im_Wire_arriving : PySem.W.isFn K (.ref x_Wire_arriving) = true)
    (am_Buffer_take_in : PySem.W.findIn K (.ref x_Buffer) "take_in" = some (some (.ref x_Buffer_take_in)))
    (im_Buffer_take_in : PySem.W.isFn K (.ref x_Buffer_take_in) = true)
    (am_Hop_room : PySem.W.findIn K (.ref x_Hop) "room" = some (some (.ref x_Hop_room)))
    (im_Hop_room : PySem.W.isFn K (.ref x_Hop_room) = true)
    (am_Hop_remember : PySem.W.findIn K (.ref x_Hop) "remember" = some (some (.ref x_Hop_remember)))
    (im_Hop_remember : PySem.W.isFn K (.ref x_Hop_remember) = true)
    (am_Wire_put : PySem.W.findIn K (.ref x_Wire) "put" = some (some (.ref x_Wire_put)))
    (im_Wire_put : PySem.W.isFn K (.ref x_Wire_put) = true)
    (am_Buffer_give : PySem.W.findIn K (.ref x_Buffer) "give" = some (some (.ref x_Buffer_give)))
    (im_Buffer_give : PySem.W.isFn K (.ref x_Buffer_give) = true)
    (pa_Buffer_held : PySem.W.findIn K (.ref x_Buffer) "held" = some (some (.ref x_pr_Buffer_held)))
    (pg_Buffer_held : PySem.W.specialIn K (.ref x_pr_Buffer_held) "__get__" = some (some (.builtin "property.__get__")))
    (pt_Buffer_held : PySem.W.takesIn K (.ref x_pr_Buffer_held) = some true)
    (pr_Buffer_held : PySem.W.recIn K x_pr_Buffer_held "property" = some (.ref x_Buffer_held :: rs_Buffer_held))
    (pa_Buffer_fullest : PySem.W.findIn K (.ref x_Buffer) "fullest" = some (some (.ref x_pr_Buffer_fullest)))
    (pg_Buffer_fullest : PySem.W.specialIn K (.ref x_pr_Buffer_fullest) "__get__" = some (some (.builtin "property.__get__")))
    (pt_Buffer_fullest : PySem.W.takesIn K (.ref x_pr_Buffer_fullest) = some true)
    (pr_Buffer_fullest : PySem.W.recIn K x_pr_Buffer_fullest "property" = some (.ref x_Buffer_fullest :: rs_Buffer_fullest))
    (a_ZERO : PySem.W.nsIn K mainGlobals "ZERO" = some (some (.ref x_ZERO)))
    (l_ZERO : K.lookup x_ZERO = some ⟨.type "tuple", o_ZERO, .seq #[.int 0 t0_ZERO, .int 1 t1_ZERO] nn_ZERO, sl_ZERO⟩)
    (a_law_bag : PySem.W.nsIn K mainGlobals "_law_bag" = some (some (.ref x_law_bag)))
    (l_law_bag : K.lookup x_law_bag = some ⟨oc_law_bag, od_law_bag, .func (PySem.W.fnOf "_law_bag" "_law_bag" (defArgs s_law_bag) (defBody s_law_bag) (defScope s_law_bag) .none kV_law_bag dc_law_bag pm_law_bag an_law_bag cd_law_bag ct_law_bag), sl_law_bag⟩)
    (co_law_bag : PySem.W.codeIn K cd_law_bag "_law_bag" = true)
    (kp_law_bag : PySem.W.keepIn K (.ref x_law_bag) = true)
    (a_law_draw : PySem.W.nsIn K mainGlobals "_law_draw" = some (some (.ref x_law_draw)))
    (l_law_draw : K.lookup x_law_draw = some ⟨oc_law_draw, od_law_draw, .func (PySem.W.fnOf "_law_draw" "_law_draw" (defArgs s_law_draw) (defBody s_law_draw) (defScope s_law_draw) .none kV_law_draw dc_law_draw pm_law_draw an_law_draw cd_law_draw ct_law_draw), sl_law_draw⟩)
    (co_law_draw : PySem.W.codeIn K cd_law_draw "_law_draw" = true)
    (kp_law_draw : PySem.W.keepIn K (.ref x_law_draw) = true)
    (a_law_of : PySem.W.nsIn K mainGlobals "_law_of" = some (some (.ref x_law_of)))
    (l_law_of : K.lookup x_law_of = some ⟨oc_law_of, od_law_of, .func (PySem.W.fnOf "_law_of" "_law_of" (defArgs s_law_of) (defBody s_law_of) (defScope s_law_of) .none kV_law_of dc_law_of pm_law_of an_law_of cd_law_of ct_law_of), sl_law_of⟩)
    (co_law_of : PySem.W.codeIn K cd_law_of "_law_of" = true)
    (kp_law_of : PySem.W.keepIn K (.ref x_law_of) = true)
    (l_Wire_init : K.lookup x_Wire_init = some ⟨oc_Wire_init, od_Wire_init, .func (PySem.W.fnOf "__init__" "Wire.__init__" (defArgs s_Wire_init) (defBody s_Wire_init) (defScope s_Wire_init) .none kV_Wire_init dc_Wire_init pm_Wire_init an_Wire_init cd_Wire_init ct_Wire_init), sl_Wire_init⟩)
    (co_Wire_init : PySem.W.codeIn K cd_Wire_init "Wire.__init__" = true)
    (kp_Wire_init : PySem.W.keepIn K (.ref x_Wire_init) = true)
    (l_Hop_init : K.lookup x_Hop_init = some ⟨oc_Hop_init, od_Hop_init, .func (PySem.W.fnOf "__init__" "Hop.__init__" (defArgs s_Hop_init) (defBody s_Hop_init) (defScope s_Hop_init) .none kV_Hop_init dc_Hop_init pm_Hop_init an_Hop_init cd_Hop_init ct_Hop_init), sl_Hop_init⟩)
    (co_Hop_init : PySem.W.codeIn K cd_Hop_init "Hop.__init__" = true)
    (kp_Hop_init : PySem.W.keepIn K (.ref x_Hop_init) = true)
    (l_Buffer_init : K.lookup x_Buffer_init = some ⟨oc_Buffer_init, od_Buffer_init, .func (PySem.W.fnOf "__init__" "Buffer.__init__" (defArgs s_Buffer_init) (defBody s_Buffer_init) (defScope s_Buffer_init) .none kV_Buffer_init dc_Buffer_init pm_Buffer_init an_Buffer_init cd_Buffer_init ct_Buffer_init), sl_Buffer_init⟩)
    (co_Buffer_init : PySem.W.codeIn K cd_Buffer_init "Buffer.__init__" = true)
    (kp_Buffer_init : PySem.W.keepIn K (.ref x_Buffer_init) = true)
    (a_law_amount : PySem.W.nsIn K mainGlobals "_law_amount" = some (some (.ref x_law_amount)))
    (l_law_amount : K.lookup x_law_amount = some ⟨oc_law_amount, od_law_amount, .func (PySem.W.fnOf "_law_amount" "_law_amount" (defArgs s_law_amount) (defBody s_law_amount) (defScope s_law_amount) .none kV_law_amount dc_law_amount pm_law_amount an_law_amount cd_law_amount ct_law_amount), sl_law_amount⟩)
    (co_law_amount : PySem.W.codeIn K cd_law_amount "_law_amount" = true)
    (kp_law_amount : PySem.W.keepIn K (.ref x_law_amount) = true)
    (a_law_sum : PySem.W.nsIn K mainGlobals "_law_sum" = some (some (.ref x_law_sum)))
    (l_law_sum : K.lookup x_law_sum = some ⟨oc_law_sum, od_law_sum, .func (PySem.W.fnOf "_law_sum" "_law_sum" (defArgs s_law_sum) (defBody s_law_sum) (defScope s_law_sum) .none kV_law_sum dc_law_sum pm_law_sum an_law_sum cd_law_sum ct_law_sum), sl_law_sum⟩)
    (co_law_sum : PySem.W.codeIn K cd_law_sum "_law_sum" = true)
    (kp_law_sum : PySem.W.keepIn K (.ref x_law_sum) = true)
    (a_law_less : PySem.W.nsIn K mainGlobals "_law_less" = some (some (.ref x_law_less)))
    (l_law_less : K.lookup x_law_less = some ⟨oc_law_less, od_law_less, .func (PySem.W.fnOf "_law_less" "_law_less" (defArgs s_law_less) (defBody s_law_less) (defScope s_law_less) .none kV_law_less dc_law_less pm_law_less an_law_less cd_law_less ct_law_less), sl_law_less⟩)
    (co_law_less : PySem.W.codeIn K cd_law_less "_law_less" = true)
    (kp_law_less : PySem.W.keepIn K (.ref x_law_less) = true)
    (a_law_max : PySem.W.nsIn K mainGlobals "_law_max" = some (some (.ref x_law_max)))
    (l_law_max : K.lookup x_law_max = some ⟨oc_law_max, od_law_max, .func (PySem.W.fnOf "_law_max" "_law_max" (defArgs s_law_max) (defBody s_law_max) (defScope s_law_max) .none kV_law_max dc_law_max pm_law_max an_law_max cd_law_max ct_law_max), sl_law_max⟩)
    (co_law_max : PySem.W.codeIn K cd_law_max "_law_max" = true)
    (kp_law_max : PySem.W.keepIn K (.ref x_law_max) = true)
    (a_law_min : PySem.W.nsIn K mainGlobals "_law_min" = some (some (.ref x_law_min)))
    (l_law_min : K.lookup x_law_min = some ⟨oc_law_min, od_law_min, .func (PySem.W.fnOf "_law_min" "_law_min" (defArgs s_law_min) (defBody s_law_min) (defScope s_law_min) .none kV_law_min dc_law_min pm_law_min an_law_min cd_law_min ct_law_min), sl_law_min⟩)
    (co_law_min : PySem.W.codeIn K cd_law_min "_law_min" = true)
    (kp_law_min : PySem.W.keepIn K (.ref x_law_min) = true)
    (l_Hop_remember : K.lookup x_Hop_remember = some ⟨oc_Hop_remember, od_Hop_remember, .func (PySem.W.fnOf "remember" "Hop.remember" (defArgs s_Hop_remember) (defBody s_Hop_remember) (defScope s_Hop_remember) .none kV_Hop_remember dc_Hop_remember pm_Hop_remember an_Hop_remember cd_Hop_remember ct_Hop_remember), sl_Hop_remember⟩)
    (co_Hop_remember : PySem.W.codeIn K cd_Hop_remember "Hop.remember" = true)
    (kp_Hop_remember : PySem.W.keepIn K (.ref x_Hop_remember) = true)
    (l_Wire_put : K.lookup x_Wire_put = some ⟨oc_Wire_put, od_Wire_put, .func (PySem.W.fnOf "put" "Wire.put" (defArgs s_Wire_put) (defBody s_Wire_put) (defScope s_Wire_put) .none kV_Wire_put dc_Wire_put pm_Wire_put an_Wire_put cd_Wire_put ct_Wire_put), sl_Wire_put⟩)
    (co_Wire_put : PySem.W.codeIn K cd_Wire_put "Wire.put" = true)
    (kp_Wire_put : PySem.W.keepIn K (.ref x_Wire_put) = true)
    (a_p_lowest : PySem.W.nsIn K mainGlobals "_lowest" = some (some (.ref x_p_lowest)))
    (l_p_lowest : K.lookup x_p_lowest = some ⟨oc_p_lowest, od_p_lowest, .func (PySem.W.fnOf "_lowest" "_lowest" (defArgs s_p_lowest) (defBody s_p_lowest) (defScope s_p_lowest) .none kV_p_lowest dc_p_lowest pm_p_lowest an_p_lowest cd_p_lowest ct_p_lowest), sl_p_lowest⟩)
    (co_p_lowest : PySem.W.codeIn K cd_p_lowest "_lowest" = true)
    (kp_p_lowest : PySem.W.keepIn K (.ref x_p_lowest) = true)
    (a_minus : PySem.W.nsIn K mainGlobals "minus" = some (some (.ref x_minus)))
    (l_minus : K.lookup x_minus = some ⟨oc_minus, od_minus, .func (PySem.W.fnOf "minus" "minus" (defArgs s_minus) (defBody s_minus) (defScope s_minus) .none kV_minus dc_minus pm_minus an_minus cd_minus ct_minus), sl_minus⟩)
    (co_minus : PySem.W.codeIn K cd_minus "minus" = true)
    (kp_minus : PySem.W.keepIn K (.ref x_minus) = true)
    (a_compare : PySem.W.nsIn K mainGlobals "compare" = some (some (.ref x_compare)))
    (l_compare : K.lookup x_compare = some ⟨oc_compare, od_compare, .func (PySem.W.fnOf "compare" "compare" (defArgs s_compare) (defBody s_compare) (defScope s_compare) .none kV_compare dc_compare pm_compare an_compare cd_compare ct_compare), sl_compare⟩)
    (co_compare : PySem.W.codeIn K cd_compare "compare" = true)
    (kp_compare : PySem.W.keepIn K (.ref x_compare) = true)
    (l_Buffer_give : K.lookup x_Buffer_give = some ⟨oc_Buffer_give, od_Buffer_give, .func (PySem.W.fnOf "give" "Buffer.give" (defArgs s_Buffer_give) (defBody s_Buffer_give) (defScope s_Buffer_give) .none kV_Buffer_give dc_Buffer_give pm_Buffer_give an_Buffer_give cd_Buffer_give ct_Buffer_give), sl_Buffer_give⟩)
    (co_Buffer_give : PySem.W.codeIn K cd_Buffer_give "Buffer.give" = true)
    (kp_Buffer_give : PySem.W.keepIn K (.ref x_Buffer_give) = true)
    (a_law_rest : PySem.W.nsIn K mainGlobals "_law_rest" = some (some (.ref x_law_rest)))
    (l_law_rest : K.lookup x_law_rest = some ⟨oc_law_rest, od_law_rest, .func (PySem.W.fnOf "_law_rest" "_law_rest" (defArgs s_law_rest) (defBody s_law_rest) (defScope s_law_rest) .none kV_law_rest dc_law_rest pm_law_rest an_law_rest cd_law_rest ct_law_rest), sl_law_rest⟩)
    (co_law_rest : PySem.W.codeIn K cd_law_rest "_law_rest" = true)
    (kp_law_rest : PySem.W.keepIn K (.ref x_law_rest) = true)
    (a_law_same : PySem.W.nsIn K mainGlobals "_law_same" = some (some (.ref x_law_same)))
    (l_law_same : K.lookup x_law_same = some ⟨oc_law_same, od_law_same, .func (PySem.W.fnOf "_law_same" "_law_same" (defArgs s_law_same) (defBody s_law_same) (defScope s_law_same) .none kV_law_same dc_law_same pm_law_same an_law_same cd_law_same ct_law_same), sl_law_same⟩)
    (co_law_same : PySem.W.codeIn K cd_law_same "_law_same" = true)
    (kp_law_same : PySem.W.keepIn K (.ref x_law_same) = true)
    (a_law_some : PySem.W.nsIn K mainGlobals "_law_some" = some (some (.ref x_law_some)))
    (l_law_some : K.lookup x_law_some = some ⟨oc_law_some, od_law_some, .func (PySem.W.fnOf "_law_some" "_law_some" (defArgs s_law_some) (defBody s_law_some) (defScope s_law_some) .none kV_law_some dc_law_some pm_law_some an_law_some cd_law_some ct_law_some), sl_law_some⟩)
    (co_law_some : PySem.W.codeIn K cd_law_some "_law_some" = true)
    (kp_law_some : PySem.W.keepIn K (.ref x_law_some) = true)
    (a_law_scaled : PySem.W.nsIn K mainGlobals "_law_scaled" = some (some (.ref x_law_scaled)))
    (l_law_scaled : K.lookup x_law_scaled = some ⟨oc_law_scaled, od_law_scaled, .func (PySem.W.fnOf "_law_scaled" "_law_scaled" (defArgs s_law_scaled) (defBody s_law_scaled) (defScope s_law_scaled) .none kV_law_scaled dc_law_scaled pm_law_scaled an_law_scaled cd_law_scaled ct_law_scaled), sl_law_scaled⟩)
    (co_law_scaled : PySem.W.codeIn K cd_law_scaled "_law_scaled" = true)
    (kp_law_scaled : PySem.W.keepIn K (.ref x_law_scaled) = true)
    (a_law_part : PySem.W.nsIn K mainGlobals "_law_part" = some (some (.ref x_law_part)))
    (l_law_part : K.lookup x_law_part = some ⟨oc_law_part, od_law_part, .func (PySem.W.fnOf "_law_part" "_law_part" (defArgs s_law_part) (defBody s_law_part) (defScope s_law_part) .none kV_law_part dc_law_part pm_law_part an_law_part cd_law_part ct_law_part), sl_law_part⟩)
    (co_law_part : PySem.W.codeIn K cd_law_part "_law_part" = true)
    (kp_law_part : PySem.W.keepIn K (.ref x_law_part) = true)
    (l_Buffer_fullest : K.lookup x_Buffer_fullest = some ⟨oc_Buffer_fullest, od_Buffer_fullest, .func (PySem.W.fnOf "fullest" "Buffer.fullest" (defArgs s_Buffer_fullest) (defBody s_Buffer_fullest) (defScope s_Buffer_fullest) .none kV_Buffer_fullest dc_Buffer_fullest pm_Buffer_fullest an_Buffer_fullest cd_Buffer_fullest ct_Buffer_fullest), sl_Buffer_fullest⟩)
    (co_Buffer_fullest : PySem.W.codeIn K cd_Buffer_fullest "Buffer.fullest" = true)
    (kp_Buffer_fullest : PySem.W.keepIn K (.ref x_Buffer_fullest) = true)
    (a_law_all : PySem.W.nsIn K mainGlobals "_law_all" = some (some (.ref x_law_all)))
    (l_law_all : K.lookup x_law_all = some ⟨oc_law_all, od_law_all, .func (PySem.W.fnOf "_law_all" "_law_all" (defArgs s_law_all) (defBody s_law_all) (defScope s_law_all) .none kV_law_all dc_law_all pm_law_all an_law_all cd_law_all ct_law_all), sl_law_all⟩)
    (co_law_all : PySem.W.codeIn K cd_law_all "_law_all" = true)
    (kp_law_all : PySem.W.keepIn K (.ref x_law_all) = true)
    (l_Buffer_held : K.lookup x_Buffer_held = some ⟨oc_Buffer_held, od_Buffer_held, .func (PySem.W.fnOf "held" "Buffer.held" (defArgs s_Buffer_held) (defBody s_Buffer_held) (defScope s_Buffer_held) .none kV_Buffer_held dc_Buffer_held pm_Buffer_held an_Buffer_held cd_Buffer_held ct_Buffer_held), sl_Buffer_held⟩)
    (co_Buffer_held : PySem.W.codeIn K cd_Buffer_held "Buffer.held" = true)
    (kp_Buffer_held : PySem.W.keepIn K (.ref x_Buffer_held) = true)
    (a_plus : PySem.W.nsIn K mainGlobals "plus" = some (some (.ref x_plus)))
    (l_plus : K.lookup x_plus = some ⟨oc_plus, od_plus, .func (PySem.W.fnOf "plus" "plus" (defArgs s_plus) (defBody s_plus) (defScope s_plus) .none kV_plus dc_plus pm_plus an_plus cd_plus ct_plus), sl_plus⟩)
    (co_plus : PySem.W.codeIn K cd_plus "plus" = true)
    (kp_plus : PySem.W.keepIn K (.ref x_plus) = true)
    (l_Wire_under_way : K.lookup x_Wire_under_way = some ⟨oc_Wire_under_way, od_Wire_under_way, .func (PySem.W.fnOf "under_way" "Wire.under_way" (defArgs s_Wire_under_way) (defBody s_Wire_under_way) (defScope s_Wire_under_way) .none kV_Wire_under_way dc_Wire_under_way pm_Wire_under_way an_Wire_under_way cd_Wire_under_way ct_Wire_under_way), sl_Wire_under_way⟩)
    (co_Wire_under_way : PySem.W.codeIn K cd_Wire_under_way "Wire.under_way" = true)
    (kp_Wire_under_way : PySem.W.keepIn K (.ref x_Wire_under_way) = true)
    (a_law_parts_agree : PySem.W.nsIn K mainGlobals "_law_parts_agree" = some (some (.ref x_law_parts_agree)))
    (l_law_parts_agree : K.lookup x_law_parts_agree = some ⟨oc_law_parts_agree, od_law_parts_agree, .func (PySem.W.fnOf "_law_parts_agree" "_law_parts_agree" (defArgs s_law_parts_agree) (defBody s_law_parts_agree) (defScope s_law_parts_agree) .none kV_law_parts_agree dc_law_parts_agree pm_law_parts_agree an_law_parts_agree cd_law_parts_agree ct_law_parts_agree), sl_law_parts_agree⟩)
    (co_law_parts_agree : PySem.W.codeIn K cd_law_parts_agree "_law_parts_agree" = true)
    (kp_law_parts_agree : PySem.W.keepIn K (.ref x_law_parts_agree) = true)
    (l_Wire_arriving : K.lookup x_Wire_arriving = some ⟨oc_Wire_arriving, od_Wire_arriving, .func (PySem.W.fnOf "arriving" "Wire.arriving" (defArgs s_Wire_arriving) (defBody s_Wire_arriving) (defScope s_Wire_arriving) .none kV_Wire_arriving dc_Wire_arriving pm_Wire_arriving an_Wire_arriving cd_Wire_arriving ct_Wire_arriving), sl_Wire_arriving⟩)
    (co_Wire_arriving : PySem.W.codeIn K cd_Wire_arriving "Wire.arriving" = true)
    (kp_Wire_arriving : PySem.W.keepIn K (.ref x_Wire_arriving) = true)
    (a_largest : PySem.W.nsIn K mainGlobals "largest" = some (some (.ref x_largest)))
    (l_largest : K.lookup x_largest = some ⟨oc_largest, od_largest, .func (PySem.W.fnOf "largest" "largest" (defArgs s_largest) (defBody s_largest) (defScope s_largest) .none kV_largest dc_largest pm_largest an_largest cd_largest ct_largest), sl_largest⟩)
    (co_largest : PySem.W.codeIn K cd_largest "largest" = true)
    (kp_largest : PySem.W.keepIn K (.ref x_largest) = true)
    (l_Buffer_set_to : K.lookup x_Buffer_set_to = some ⟨oc_Buffer_set_to, od_Buffer_set_to, .func (PySem.W.fnOf "set_to" "Buffer.set_to" (defArgs s_Buffer_set_to) (defBody s_Buffer_set_to) (defScope s_Buffer_set_to) .none kV_Buffer_set_to dc_Buffer_set_to pm_Buffer_set_to an_Buffer_set_to cd_Buffer_set_to ct_Buffer_set_to), sl_Buffer_set_to⟩)
    (co_Buffer_set_to : PySem.W.codeIn K cd_Buffer_set_to "Buffer.set_to" = true)
    (kp_Buffer_set_to : PySem.W.keepIn K (.ref x_Buffer_set_to) = true)
    (l_Buffer_take_in : K.lookup x_Buffer_take_in = some ⟨oc_Buffer_take_in, od_Buffer_take_in, .func (PySem.W.fnOf "take_in" "Buffer.take_in" (defArgs s_Buffer_take_in) (defBody s_Buffer_take_in) (defScope s_Buffer_take_in) .none kV_Buffer_take_in dc_Buffer_take_in pm_Buffer_take_in an_Buffer_take_in cd_Buffer_take_in ct_Buffer_take_in), sl_Buffer_take_in⟩)
    (co_Buffer_take_in : PySem.W.codeIn K cd_Buffer_take_in "Buffer.take_in" = true)
    (kp_Buffer_take_in : PySem.W.keepIn K (.ref x_Buffer_take_in) = true)
    (l_Hop_sent_after : K.lookup x_Hop_sent_after = some ⟨oc_Hop_sent_after, od_Hop_sent_after, .func (PySem.W.fnOf "sent_after" "Hop.sent_after" (defArgs s_Hop_sent_after) (defBody s_Hop_sent_after) (defScope s_Hop_sent_after) .none kV_Hop_sent_after dc_Hop_sent_after pm_Hop_sent_after an_Hop_sent_after cd_Hop_sent_after ct_Hop_sent_after), sl_Hop_sent_after⟩)
    (co_Hop_sent_after : PySem.W.codeIn K cd_Hop_sent_after "Hop.sent_after" = true)
    (kp_Hop_sent_after : PySem.W.keepIn K (.ref x_Hop_sent_after) = true)
    (l_Hop_room : K.lookup x_Hop_room = some ⟨oc_Hop_room, od_Hop_room, .func (PySem.W.fnOf "room" "Hop.room" (defArgs s_Hop_room) (defBody s_Hop_room) (defScope s_Hop_room) .none kV_Hop_room dc_Hop_room pm_Hop_room an_Hop_room cd_Hop_room ct_Hop_room), sl_Hop_room⟩)
    (co_Hop_room : PySem.W.codeIn K cd_Hop_room "Hop.room" = true)
    (kp_Hop_room : PySem.W.keepIn K (.ref x_Hop_room) = true)
    (a_law : PySem.W.nsIn K mainGlobals "law" = some (some (.ref x_law)))
    (l_law : K.lookup x_law = some ⟨oc_law, od_law, .func (PySem.W.fnOf "law" "law" (defArgs s_law) (defBody s_law) (defScope s_law) .none kV_law dc_law pm_law an_law cd_law ct_law), sl_law⟩)
    (co_law : PySem.W.codeIn K cd_law "law" = true)
    (kp_law : PySem.W.keepIn K (.ref x_law) = true)
    (z_int : PySem.W.nsIn K mainGlobals "int" = some none)
    (z_list : PySem.W.nsIn K mainGlobals "list" = some none)
    (z_len : PySem.W.nsIn K mainGlobals "len" = some none)
    (z_max : PySem.W.nsIn K mainGlobals "max" = some none)
    (z_isinstance : PySem.W.nsIn K mainGlobals "isinstance" = some none)
    (z_tuple : PySem.W.nsIn K mainGlobals "tuple" = some none)
    (z_all : PySem.W.nsIn K mainGlobals "all" = some none)
    (z_zip : PySem.W.nsIn K mainGlobals "zip" = some none)
    (z_bool : PySem.W.nsIn K mainGlobals "bool" = some none)
    (z_str : PySem.W.nsIn K mainGlobals "str" = some none)
    (z_range : PySem.W.nsIn K mainGlobals "range" = some none)
    (i_gcd : PySem.W.nsIn K mainGlobals "gcd" = some (some (.builtin "math.gcd"))) :
    ∃ fd : FuncData, (∀ (s : Shared) (v : Value), BindsTo s fd ⟨[v], []⟩ [("_law_script", v)]) ∧ ∀ base : Heap, K.In base → base.Ns mainGlobals mg → FnOk l.prog w K mg base CX0 6 fa fd ["_law_script"] (spLaw K) := by
  have e := hfa.symm.trans (PySem.W.mg_of X G a_law)
  cases e
  have t_ZERO : ∀ G, RV K G (.tup [(.int 0), (.int 1)]) (.ref x_ZERO) := ktup_of l_ZERO (by show 2 ≤ 16777216; decide) (xs := [.int 0, .int 1]) (.cons ⟨_, rfl⟩ (.cons ⟨_, rfl⟩ (.nil))) fun G => RVs.of_ints [0, 1]
  have T : Txt K mg (Adr.mk x_Wire x_Hop x_Buffer x_ZERO x_law_bag x_law_draw x_law_of x_Wire_init x_Hop_init x_Buffer_init x_law_amount x_law_sum x_law_less x_law_max x_law_min x_Hop_remember x_Wire_put x_p_lowest x_minus x_compare x_Buffer_give x_law_rest x_law_same x_law_some x_law_scaled x_law_part x_Buffer_fullest x_law_all x_Buffer_held x_plus x_Wire_under_way x_law_parts_agree x_Wire_arriving x_largest x_Buffer_set_to x_Buffer_take_in x_Hop_sent_after x_Hop_room fa x_pr_Buffer_held x_pr_Buffer_fullest) := ⟨⟨pg_Wire, hd_Wire, po_Wire, sa_Wire⟩, ⟨pg_Hop, hd_Hop, po_Hop, sa_Hop⟩, ⟨pg_Buffer, hd_Buffer, po_Buffer, sa_Buffer⟩, ⟨mm_Buffer, ai_Buffer_init, if_Buffer_init, kc_Buffer⟩, PySem.W.mg_of X G a_Buffer, ⟨mm_Hop, ai_Hop_init, if_Hop_init, kc_Hop⟩, PySem.W.mg_of X G a_Hop, ⟨mm_Wire, ai_Wire_init, if_Wire_init, kc_Wire⟩, PySem.W.mg_of X G a_Wire, n_Wire_p_way, n_Wire_p_sent, n_Hop_p_way, n_Hop_p_age, n_Hop_p_sent, n_Buffer_size, n_Buffer_p_held, n_Buffer_p_fullest, ⟨am_Wire_under_way, im_Wire_under_way, kp_Wire_under_way⟩, ⟨am_Buffer_set_to, im_Buffer_set_to, kp_Buffer_set_to⟩, ⟨am_Hop_sent_after, im_Hop_sent_after, kp_Hop_sent_after⟩, ⟨am_Wire_arriving, im_Wire_arriving, kp_Wire_arriving⟩, ⟨am_Buffer_take_in, im_Buffer_take_in, kp_Buffer_take_in⟩, ⟨am_Hop_room, im_Hop_room, kp_Hop_room⟩, ⟨am_Hop_remember, im_Hop_remember, kp_Hop_remember⟩, ⟨am_Wire_put, im_Wire_put, kp_Wire_put⟩, ⟨am_Buffer_give, im_Buffer_give, kp_Buffer_give⟩, ⟨pa_Buffer_held, pg_Buffer_held, pt_Buffer_held, _, pr_Buffer_held⟩, ⟨pa_Buffer_fullest, pg_Buffer_fullest, pt_Buffer_fullest, _, pr_Buffer_fullest⟩, PySem.W.mg_of X G a_ZERO, t_ZERO, PySem.W.mg_of X G a_law_bag, kp_law_bag, PySem.W.mg_of X G a_law_draw, kp_law_draw, PySem.W.mg_of X G a_law_of, kp_law_of, PySem.W.mg_of X G a_law_amount, kp_law_amount, PySem.W.mg_of X G a_law_sum, kp_law_sum, PySem.W.mg_of X G a_law_less, kp_law_less, PySem.W.mg_of X G a_law_max, kp_law_max, PySem.W.mg_of X G a_law_min, kp_law_min, PySem.W.mg_of X G a_p_lowest, kp_p_lowest, PySem.W.mg_of X G a_minus, kp_minus, PySem.W.mg_of X G a_compare, kp_compare, PySem.W.mg_of X G a_law_rest, kp_law_rest, PySem.W.mg_of X G a_law_same, kp_law_same, PySem.W.mg_of X G a_law_some, kp_law_some, PySem.W.mg_of X G a_law_scaled, kp_law_scaled, PySem.W.mg_of X G a_law_part, kp_law_part, PySem.W.mg_of X G a_law_all, kp_law_all, PySem.W.mg_of X G a_plus, kp_plus, PySem.W.mg_of X G a_law_parts_agree, kp_law_parts_agree, PySem.W.mg_of X G a_largest, kp_largest, PySem.W.mg_none_of X G z_int, PySem.W.mg_none_of X G z_list, PySem.W.mg_none_of X G z_len, PySem.W.mg_none_of X G z_max, PySem.W.mg_none_of X G z_isinstance, PySem.W.mg_none_of X G z_tuple, PySem.W.mg_none_of X G z_all, PySem.W.mg_none_of X G z_zip, PySem.W.mg_none_of X G z_bool, PySem.W.mg_none_of X G z_str, PySem.W.mg_none_of X G z_range, PySem.W.mg_of X G i_gcd⟩
  have F_law_bag := fun_mk (st := s_law_bag) l_law_bag co_law_bag kp_law_bag
  have F_law_draw := fun_mk (st := s_law_draw) l_law_draw co_law_draw kp_law_draw
  have F_law_of := fun_mk (st := s_law_of) l_law_of co_law_of kp_law_of
  have F_Wire_init := fun_mk (st := s_Wire_init) l_Wire_init co_Wire_init kp_Wire_init
  have F_Hop_init := fun_mk (st := s_Hop_init) l_Hop_init co_Hop_init kp_Hop_init
  have F_Buffer_init := fun_mk (st := s_Buffer_init) l_Buffer_init co_Buffer_init kp_Buffer_init
  have F_law_amount := fun_mk (st := s_law_amount) l_law_amount co_law_amount kp_law_amount
  have F_law_sum := fun_mk (st := s_law_sum) l_law_sum co_law_sum kp_law_sum
  have F_law_less := fun_mk (st := s_law_less) l_law_less co_law_less kp_law_less
  have F_law_max := fun_mk (st := s_law_max) l_law_max co_law_max kp_law_max
  have F_law_min := fun_mk (st := s_law_min) l_law_min co_law_min kp_law_min
  have F_Hop_remember := fun_mk (st := s_Hop_remember) l_Hop_remember co_Hop_remember kp_Hop_remember
  have F_Wire_put := fun_mk (st := s_Wire_put) l_Wire_put co_Wire_put kp_Wire_put
  have F_p_lowest := fun_mk (st := s_p_lowest) l_p_lowest co_p_lowest kp_p_lowest
  have F_minus := fun_mk (st := s_minus) l_minus co_minus kp_minus
  have F_compare := fun_mk (st := s_compare) l_compare co_compare kp_compare
  have F_Buffer_give := fun_mk (st := s_Buffer_give) l_Buffer_give co_Buffer_give kp_Buffer_give
  have F_law_rest := fun_mk (st := s_law_rest) l_law_rest co_law_rest kp_law_rest
  have F_law_same := fun_mk (st := s_law_same) l_law_same co_law_same kp_law_same
  have F_law_some := fun_mk (st := s_law_some) l_law_some co_law_some kp_law_some
  have F_law_scaled := fun_mk (st := s_law_scaled) l_law_scaled co_law_scaled kp_law_scaled
  have F_law_part := fun_mk (st := s_law_part) l_law_part co_law_part kp_law_part
  have F_Buffer_fullest := fun_mk (st := s_Buffer_fullest) l_Buffer_fullest co_Buffer_fullest kp_Buffer_fullest
  have F_law_all := fun_mk (st := s_law_all) l_law_all co_law_all kp_law_all
  have F_Buffer_held := fun_mk (st := s_Buffer_held) l_Buffer_held co_Buffer_held kp_Buffer_held
  have F_plus := fun_mk (st := s_plus) l_plus co_plus kp_plus
  have F_Wire_under_way := fun_mk (st := s_Wire_under_way) l_Wire_under_way co_Wire_under_way kp_Wire_under_way
  have F_law_parts_agree := fun_mk (st := s_law_parts_agree) l_law_parts_agree co_law_parts_agree kp_law_parts_agree
  have F_Wire_arriving := fun_mk (st := s_Wire_arriving) l_Wire_arriving co_Wire_arriving kp_Wire_arriving
  have F_largest := fun_mk (st := s_largest) l_largest co_largest kp_largest
  have F_Buffer_set_to := fun_mk (st := s_Buffer_set_to) l_Buffer_set_to co_Buffer_set_to kp_Buffer_set_to
  have F_Buffer_take_in := fun_mk (st := s_Buffer_take_in) l_Buffer_take_in co_Buffer_take_in kp_Buffer_take_in
  have F_Hop_sent_after := fun_mk (st := s_Hop_sent_after) l_Hop_sent_after co_Hop_sent_after kp_Hop_sent_after
  have F_Hop_room := fun_mk (st := s_Hop_room) l_Hop_room co_Hop_room kp_Hop_room
  have F_law := fun_mk (st := s_law) l_law co_law kp_law
  have b_law_bag := F_law_bag.binds (ps := ["_law_script"]) fun _ _ _ _ _ _ us hl => match us, hl with | [_], _ => rfl
  have b_law_draw := F_law_draw.binds (ps := ["_law_bag_here", "_law_many"]) fun _ _ _ _ _ _ us hl => match us, hl with | [_, _], _ => rfl
  have b_law_of := F_law_of.binds (ps := ["_law_bag_here", "_law_things"]) fun _ _ _ _ _ _ us hl => match us, hl with | [_, _], _ => rfl
  have b_Wire_init := F_Wire_init.binds (ps := ["self", "way"]) fun _ _ _ _ _ _ us hl => match us, hl with | [_, _], _ => rfl
  have b_Hop_init := F_Hop_init.binds (ps := ["self", "way", "age"]) fun _ _ _ _ _ _ us hl => match us, hl with | [_, _, _], _ => rfl
  have b_Buffer_init := F_Buffer_init.binds (ps := ["self", "size"]) fun _ _ _ _ _ _ us hl => match us, hl with | [_, _], _ => rfl
  have b_law_amount := F_law_amount.binds (ps := ["_law_top", "_law_bottom"]) fun _ _ _ _ _ _ us hl => match us, hl with | [_, _], _ => rfl
  have b_law_sum := F_law_sum.binds (ps := ["_law_one", "_law_two"]) fun _ _ _ _ _ _ us hl => match us, hl with | [_, _], _ => rfl
  have b_law_less := F_law_less.binds (ps := ["_law_one", "_law_two"]) fun _ _ _ _ _ _ us hl => match us, hl with | [_, _], _ => rfl
  have b_law_max := F_law_max.binds (ps := ["_law_one", "_law_two"]) fun _ _ _ _ _ _ us hl => match us, hl with | [_, _], _ => rfl
  have b_law_min := F_law_min.binds (ps := ["_law_one", "_law_two"]) fun _ _ _ _ _ _ us hl => match us, hl with | [_, _], _ => rfl
  have b_Hop_remember := F_Hop_remember.binds (ps := ["self", "tick", "water"]) fun _ _ _ _ _ _ us hl => match us, hl with | [_, _, _], _ => rfl
  have b_Wire_put := F_Wire_put.binds (ps := ["self", "tick", "water"]) fun _ _ _ _ _ _ us hl => match us, hl with | [_, _, _], _ => rfl
  have b_p_lowest := F_p_lowest.binds (ps := ["top", "bottom"]) fun _ _ _ _ _ _ us hl => match us, hl with | [_, _], _ => rfl
  have b_minus := F_minus.binds (ps := ["first", "second"]) fun _ _ _ _ _ _ us hl => match us, hl with | [_, _], _ => rfl
  have b_compare := F_compare.binds (ps := ["first", "second"]) fun _ _ _ _ _ _ us hl => match us, hl with | [_, _], _ => rfl
  have b_Buffer_give := F_Buffer_give.binds (ps := ["self", "water"]) fun _ _ _ _ _ _ us hl => match us, hl with | [_, _], _ => rfl
  have b_law_rest := F_law_rest.binds (ps := ["_law_one", "_law_two"]) fun _ _ _ _ _ _ us hl => match us, hl with | [_, _], _ => rfl
  have b_law_same := F_law_same.binds (ps := ["_law_told", "_law_due"]) fun _ _ _ _ _ _ us hl => match us, hl with | [_, _], _ => rfl
  have b_law_some := F_law_some.binds (ps := ["_law_bag_here", "_law_most"]) fun _ _ _ _ _ _ us hl => match us, hl with | [_, _], _ => rfl
  have b_law_scaled := F_law_scaled.binds (ps := ["_law_one", "_law_top", "_law_bottom"]) fun _ _ _ _ _ _ us hl => match us, hl with | [_, _, _], _ => rfl
  have b_law_part := F_law_part.binds (ps := ["_law_bag_here", "_law_one"]) fun _ _ _ _ _ _ us hl => match us, hl with | [_, _], _ => rfl
  have b_Buffer_fullest := F_Buffer_fullest.binds (ps := ["self"]) fun _ _ _ _ _ _ us hl => match us, hl with | [_], _ => rfl
  have b_law_all := F_law_all.binds (ps := ["_law_row"]) fun _ _ _ _ _ _ us hl => match us, hl with | [_], _ => rfl
  have b_Buffer_held := F_Buffer_held.binds (ps := ["self"]) fun _ _ _ _ _ _ us hl => match us, hl with | [_], _ => rfl
  have b_Wire_under_way := F_Wire_under_way.binds (ps := ["self", "tick"]) fun _ _ _ _ _ _ us hl => match us, hl with | [_, _], _ => rfl
  have b_law_parts_agree := F_law_parts_agree.binds (ps := ["_law_told", "_law_now_of", "_law_sent_of", "_law_out"]) fun _ _ _ _ _ _ us hl => match us, hl with | [_, _, _, _], _ => rfl
  have b_Wire_arriving := F_Wire_arriving.binds (ps := ["self", "tick"]) fun _ _ _ _ _ _ us hl => match us, hl with | [_, _], _ => rfl
  have b_Buffer_set_to := F_Buffer_set_to.binds (ps := ["self", "water"]) fun _ _ _ _ _ _ us hl => match us, hl with | [_, _], _ => rfl
  have b_Buffer_take_in := F_Buffer_take_in.binds (ps := ["self", "water"]) fun _ _ _ _ _ _ us hl => match us, hl with | [_, _], _ => rfl
  have b_Hop_sent_after := F_Hop_sent_after.binds (ps := ["self", "tick", "now"]) fun _ _ _ _ _ _ us hl => match us, hl with | [_, _, _], _ => rfl
  have b_Hop_room := F_Hop_room.binds (ps := ["self", "now", "made", "told"]) fun _ _ _ _ _ _ us hl => match us, hl with | [_, _, _, _], _ => rfl
  refine ⟨PySem.W.fnOf "law" "law" (defArgs s_law) (defBody s_law) (defScope s_law) .none kV_law dc_law pm_law an_law cd_law ct_law, fun s v => .of_eq rfl, fun base _ _ => ?_⟩
  have G_law_bag := d_law_bag (P := l.prog) (w := w) (base := base) T F_law_bag b_law_bag
  have G_law_draw := d_law_draw (P := l.prog) (w := w) (base := base) T F_law_draw b_law_draw
  have G_law_of := d_law_of (P := l.prog) (w := w) (base := base) T F_law_of b_law_of G_law_draw
  have G_Wire_init := d_Wire_init (P := l.prog) (w := w) (base := base) T F_Wire_init b_Wire_init
  have G_Hop_init := d_Hop_init (P := l.prog) (w := w) (base := base) T F_Hop_init b_Hop_init
  have G_Buffer_init := d_Buffer_init (P := l.prog) (w := w) (base := base) T F_Buffer_init b_Buffer_init
  have G_law_amount := d_law_amount (P := l.prog) (w := w) (base := base) T F_law_amount b_law_amount
  have G_law_sum := d_law_sum (P := l.prog) (w := w) (base := base) T F_law_sum b_law_sum G_law_amount
  have G_law_less := d_law_less (P := l.prog) (w := w) (base := base) T F_law_less b_law_less
  have G_law_max := d_law_max (P := l.prog) (w := w) (base := base) T F_law_max b_law_max G_law_less
  have G_law_min := d_law_min (P := l.prog) (w := w) (base := base) T F_law_min b_law_min G_law_less
  have G_Hop_remember := d_Hop_remember (P := l.prog) (w := w) (base := base) T F_Hop_remember b_Hop_remember
  have G_Wire_put := d_Wire_put (P := l.prog) (w := w) (base := base) T F_Wire_put b_Wire_put
  have G_p_lowest := d_p_lowest (P := l.prog) (w := w) (base := base) T F_p_lowest b_p_lowest
  have G_minus := d_minus (P := l.prog) (w := w) (base := base) T F_minus b_minus G_p_lowest
  have G_compare := d_compare (P := l.prog) (w := w) (base := base) T F_compare b_compare
  have G_Buffer_give := d_Buffer_give (P := l.prog) (w := w) (base := base) T F_Buffer_give b_Buffer_give G_compare G_minus
  have G_law_rest := d_law_rest (P := l.prog) (w := w) (base := base) T F_law_rest b_law_rest G_law_amount
  have G_law_same := d_law_same (P := l.prog) (w := w) (base := base) T F_law_same b_law_same 4
  have G_law_some := d_law_some (P := l.prog) (w := w) (base := base) T F_law_some b_law_some G_law_of G_law_amount G_law_draw
  have G_law_scaled := d_law_scaled (P := l.prog) (w := w) (base := base) T F_law_scaled b_law_scaled G_law_amount
  have G_law_part := d_law_part (P := l.prog) (w := w) (base := base) T F_law_part b_law_part G_law_of G_law_scaled
  have G_Buffer_fullest := d_Buffer_fullest (P := l.prog) (w := w) (base := base) T F_Buffer_fullest b_Buffer_fullest
  have G_law_all := d_law_all (P := l.prog) (w := w) (base := base) T F_law_all b_law_all G_law_sum
  have G_Buffer_held := d_Buffer_held (P := l.prog) (w := w) (base := base) T F_Buffer_held b_Buffer_held
  have G_plus := d_plus (P := l.prog) (w := w) (base := base) T F_plus G_p_lowest
  have G_Wire_under_way := d_Wire_under_way (P := l.prog) (w := w) (base := base) T F_Wire_under_way b_Wire_under_way G_plus
  have G_law_parts_agree := d_law_parts_agree (P := l.prog) (w := w) (base := base) T F_law_parts_agree b_law_parts_agree G_law_less G_Buffer_held G_law_same G_law_sum G_Wire_under_way
  have G_Wire_arriving := d_Wire_arriving (P := l.prog) (w := w) (base := base) T F_Wire_arriving b_Wire_arriving
  have G_largest := d_largest (P := l.prog) (w := w) (base := base) T F_largest G_compare
  have G_Buffer_set_to := d_Buffer_set_to (P := l.prog) (w := w) (base := base) T F_Buffer_set_to b_Buffer_set_to G_largest
  have G_Buffer_take_in := d_Buffer_take_in (P := l.prog) (w := w) (base := base) T F_Buffer_take_in b_Buffer_take_in G_plus G_compare G_Buffer_set_to G_minus
  have G_Hop_sent_after := d_Hop_sent_after (P := l.prog) (w := w) (base := base) T F_Hop_sent_after b_Hop_sent_after G_plus
  have G_Hop_room := d_Hop_room (P := l.prog) (w := w) (base := base) T F_Hop_room b_Hop_room G_Hop_sent_after G_compare G_minus
  exact FnOk.imp_law (d_law T F_law G_law_bag G_law_of G_law_some G_Buffer_init G_Hop_init G_Wire_init G_law_draw G_law_same G_Wire_arriving G_Buffer_take_in G_law_sum G_law_max G_law_rest G_law_all G_Hop_room G_law_min G_Hop_remember G_Wire_put G_law_part G_Buffer_give G_Buffer_held G_law_parts_agree G_Buffer_fullest)
theorem walk {l : PySem.W.OpenLaw} {q : Program} {loose : List Str} {XP : (Str → Option Value) → Heap → Prop} {YP : World → Heap → Prop} {d : DefRec} {K : Params → PySem.W.Frag} (hn : l.most = some 63) (hdf : d.params.defaults = [])
    (hY : ∀ (w : World) (h : Heap), YP w h → (K w.params).In h)
    (F : ∀ (w : World) (mg : Str → Option Value) (fa : Addr) (h : Heap), (K w.params).In h → h.Ns mainGlobals mg → mg d.name = some (.ref fa) →
      ∃ fd : FuncData, (∀ (s : Shared) (u : Value), BindsTo s fd ⟨[u], []⟩ [("_law_script", u)]) ∧ ∀ base : Heap, (K w.params).In base → base.Ns mainGlobals mg → FnOk l.prog w (K w.params) mg base CX0 6 fa fd ["_law_script"] (spLaw (K w.params))) :
    PySem.W.WalkO q loose XP YP l.row.toRowW d [] (fun f vs => PySem.call f vs) :=
  L2.walk_of (n := 63) (k := 6) (x := "_law_script") (CX := fun _ => CX0) (sp := fun w => spLaw (K w.params)) hn (by decide) hdf ⟨rfl, by decide, by decide⟩ hY F (fun _ _ a ns hl _ hS => ⟨a, ns, rfl, hS, hl, fun _ => rfl⟩) fun _ _ _ _ _ z => z
end K33
open PySem PySem.W PyProof.Rows
set_option maxRecDepth 100000 in
set_option maxHeartbeats 0 in
theorem PySem.Challenge.cw_bandheld_k33_whole_hop_never_overfills_holds : PySem.Challenge.rw_bandheld_k33_whole_hop_never_overfills.Holds := by
  w_on; o_law; k_head; (case hw => w_witness2)
  k_fill
  refine K33.walk (l := PySem.Challenge.rw_bandheld_k33_whole_hop_never_overfills) rfl rfl (fun w h Y => PySem.W.kIn_of Y) ?F
  case F =>
    intro w mg fa h KX G hmg
    refine' K33.all_mk KX G hmg ?a_Wire ?pg_Wire ?hd_Wire ?po_Wire ?sa_Wire ?a_Hop ?pg_Hop ?hd_Hop ?po_Hop ?sa_Hop ?a_Buffer ?pg_Buffer ?hd_Buffer ?po_Buffer ?sa_Buffer ?mm_Buffer ?kc_Buffer ?ai_Buffer_init ?if_Buffer_init ?mm_Hop ?kc_Hop ?ai_Hop_init ?if_Hop_init ?mm_Wire ?kc_Wire ?ai_Wire_init ?if_Wire_init ?n_Wire_p_way ?n_Wire_p_sent ?n_Hop_p_way ?n_Hop_p_age ?n_Hop_p_sent ?n_Buffer_size ?n_Buffer_p_held ?n_Buffer_p_fullest ?am_Wire_under_way ?im_Wire_under_way ?am_Buffer_set_to ?im_Buffer_set_to ?am_Hop_sent_after ?im_Hop_sent_after ?am_Wire_arriving ?im_Wire_arriving ?am_Buffer_take_in ?im_Buffer_take_in ?am_Hop_room ?im_Hop_room ?am_Hop_remember ?im_Hop_remember ?am_Wire_put ?im_Wire_put ?am_Buffer_give ?im_Buffer_give ?pa_Buffer_held ?pg_Buffer_held ?pt_Buffer_held ?pr_Buffer_held ?pa_Buffer_fullest ?pg_Buffer_fullest ?pt_Buffer_fullest ?pr_Buffer_fullest ?a_ZERO ?l_ZERO ?a_law_bag ?l_law_bag ?co_law_bag ?kp_law_bag ?a_law_draw ?l_law_draw ?co_law_draw ?kp_law_draw ?a_law_of ?l_law_of ?co_law_of ?kp_law_of ?l_Wire_init ?co_Wire_init ?kp_Wire_init ?l_Hop_init ?co_Hop_init ?kp_Hop_init ?l_Buffer_init ?co_Buffer_init ?kp_Buffer_init ?a_law_amount ?l_law_amount ?co_law_amount ?kp_law_amount ?a_law_sum ?l_law_sum ?co_law_sum ?kp_law_sum ?a_law_less ?l_law_less ?co_law_less ?kp_law_less ?a_law_max ?l_law_max ?co_law_max ?kp_law_max ?a_law_min ?l_law_min ?co_law_min ?kp_law_min ?l_Hop_remember ?co_Hop_remember ?kp_Hop_remember ?l_Wire_put ?co_Wire_put ?kp_Wire_put ?a_p_lowest ?l_p_lowest ?co_p_lowest ?kp_p_lowest ?a_minus ?l_minus ?co_minus ?kp_minus ?a_compare ?l_compare ?co_compare ?kp_compare ?l_Buffer_give ?co_Buffer_give ?kp_Buffer_give ?a_law_rest ?l_law_rest ?co_law_rest ?kp_law_rest ?a_law_same ?l_law_same ?co_law_same ?kp_law_same ?a_law_some ?l_law_some ?co_law_some ?kp_law_some ?a_law_scaled ?l_law_scaled ?co_law_scaled ?kp_law_scaled ?a_law_part ?l_law_part ?co_law_part ?kp_law_part ?l_Buffer_fullest ?co_Buffer_fullest ?kp_Buffer_fullest ?a_law_all ?l_law_all ?co_law_all ?kp_law_all ?l_Buffer_held ?co_Buffer_held ?kp_Buffer_held ?a_plus ?l_plus ?co_plus ?kp_plus ?l_Wire_under_way ?co_Wire_under_way ?kp_Wire_under_way ?a_law_parts_agree ?l_law_parts_agree ?co_law_parts_agree ?kp_law_parts_agree ?l_Wire_arriving ?co_Wire_arriving ?kp_Wire_arriving ?a_largest ?l_largest ?co_largest ?kp_largest ?l_Buffer_set_to ?co_Buffer_set_to ?kp_Buffer_set_to ?l_Buffer_take_in ?co_Buffer_take_in ?kp_Buffer_take_in ?l_Hop_sent_after ?co_Hop_sent_after ?kp_Hop_sent_after ?l_Hop_room ?co_Hop_room ?kp_Hop_room ?a_law ?l_law ?co_law ?kp_law ?z_int ?z_list ?z_len ?z_max ?z_isinstance ?z_tuple ?z_all ?z_zip ?z_bool ?z_str ?z_range ?i_gcd
    (case a_Wire => k_is)
    (case pg_Wire => k_is)
    (case hd_Wire => k_is)
    (case po_Wire => k_is)
    (case sa_Wire => k_is)
    (case a_Hop => k_is)
    (case pg_Hop => k_is)
    (case hd_Hop => k_is)
    (case po_Hop => k_is)
    (case sa_Hop => k_is)
    (case a_Buffer => k_is)
    (case pg_Buffer => k_is)
    (case hd_Buffer => k_is)
    (case po_Buffer => k_is)
    (case sa_Buffer => k_is)
    (case mm_Buffer => k_is)
    (case kc_Buffer => k_is)
    (case ai_Buffer_init => k_is)
    (case if_Buffer_init => k_is)
    (case mm_Hop => k_is)
    (case kc_Hop => k_is)
    (case ai_Hop_init => k_is)
    (case if_Hop_init => k_is)
    (case mm_Wire => k_is)
    (case kc_Wire => k_is)
    (case ai_Wire_init => k_is)
    (case if_Wire_init => k_is)
    (case n_Wire_p_way => k_is)
    (case n_Wire_p_sent => k_is)
    (case n_Hop_p_way => k_is)
    (case n_Hop_p_age => k_is)
    (case n_Hop_p_sent => k_is)
    (case n_Buffer_size => k_is)
    (case n_Buffer_p_held => k_is)
    (case n_Buffer_p_fullest => k_is)
    (case am_Wire_under_way => k_is)
    (case im_Wire_under_way => k_is)
    (case am_Buffer_set_to => k_is)
    (case im_Buffer_set_to => k_is)
    (case am_Hop_sent_after => k_is)
    (case im_Hop_sent_after => k_is)
    (case am_Wire_arriving => k_is)
    (case im_Wire_arriving => k_is)
    (case am_Buffer_take_in => k_is)
    (case im_Buffer_take_in => k_is)
    (case am_Hop_room => k_is)
    (case im_Hop_room => k_is)
    (case am_Hop_remember => k_is)
    (case im_Hop_remember => k_is)
    (case am_Wire_put => k_is)
    (case im_Wire_put => k_is)
    (case am_Buffer_give => k_is)
    (case im_Buffer_give => k_is)
    (case pa_Buffer_held => k_is)
    (case pg_Buffer_held => k_is)
    (case pt_Buffer_held => k_is)
    (case pr_Buffer_held => k_is)
    (case pa_Buffer_fullest => k_is)
    (case pg_Buffer_fullest => k_is)
    (case pt_Buffer_fullest => k_is)
    (case pr_Buffer_fullest => k_is)
    (case a_ZERO => k_is)
    (case l_ZERO => k_is)
    (case a_law_bag => k_is)
    (case l_law_bag => k_is)
    (case co_law_bag => k_is)
    (case kp_law_bag => k_is)
    (case a_law_draw => k_is)
    (case l_law_draw => k_is)
    (case co_law_draw => k_is)
    (case kp_law_draw => k_is)
    (case a_law_of => k_is)
    (case l_law_of => k_is)
    (case co_law_of => k_is)
    (case kp_law_of => k_is)
    (case l_Wire_init => k_is)
    (case co_Wire_init => k_is)
    (case kp_Wire_init => k_is)
    (case l_Hop_init => k_is)
    (case co_Hop_init => k_is)
    (case kp_Hop_init => k_is)
    (case l_Buffer_init => k_is)
    (case co_Buffer_init => k_is)
    (case kp_Buffer_init => k_is)
    (case a_law_amount => k_is)
    (case l_law_amount => k_is)
    (case co_law_amount => k_is)
    (case kp_law_amount => k_is)
    (case a_law_sum => k_is)
    (case l_law_sum => k_is)
    (case co_law_sum => k_is)
    (case kp_law_sum => k_is)
    (case a_law_less => k_is)
    (case l_law_less => k_is)
    (case co_law_less => k_is)
    (case kp_law_less => k_is)
    (case a_law_max => k_is)
    (case l_law_max => k_is)
    (case co_law_max => k_is)
    (case kp_law_max => k_is)
    (case a_law_min => k_is)
    (case l_law_min => k_is)
    (case co_law_min => k_is)
    (case kp_law_min => k_is)
    (case l_Hop_remember => k_is)
    (case co_Hop_remember => k_is)
    (case kp_Hop_remember => k_is)
    (case l_Wire_put => k_is)
    (case co_Wire_put => k_is)
    (case kp_Wire_put => k_is)
    (case a_p_lowest => k_is)
    (case l_p_lowest => k_is)
    (case co_p_lowest => k_is)
    (case kp_p_lowest => k_is)
    (case a_minus => k_is)
    (case l_minus => k_is)
    (case co_minus => k_is)
    (case kp_minus => k_is)
    (case a_compare => k_is)
    (case l_compare => k_is)
    (case co_compare => k_is)
    (case kp_compare => k_is)
    (case l_Buffer_give => k_is)
    (case co_Buffer_give => k_is)
    (case kp_Buffer_give => k_is)
    (case a_law_rest => k_is)
    (case l_law_rest => k_is)
    (case co_law_rest => k_is)
    (case kp_law_rest => k_is)
    (case a_law_same => k_is)
    (case l_law_same => k_is)
    (case co_law_same => k_is)
    (case kp_law_same => k_is)
    (case a_law_some => k_is)
    (case l_law_some => k_is)
    (case co_law_some => k_is)
    (case kp_law_some => k_is)
    (case a_law_scaled => k_is)
    (case l_law_scaled => k_is)
    (case co_law_scaled => k_is)
    (case kp_law_scaled => k_is)
    (case a_law_part => k_is)
    (case l_law_part => k_is)
    (case co_law_part => k_is)
    (case kp_law_part => k_is)
    (case l_Buffer_fullest => k_is)
    (case co_Buffer_fullest => k_is)
    (case kp_Buffer_fullest => k_is)
    (case a_law_all => k_is)
    (case l_law_all => k_is)
    (case co_law_all => k_is)
    (case kp_law_all => k_is)
    (case l_Buffer_held => k_is)
    (case co_Buffer_held => k_is)
    (case kp_Buffer_held => k_is)
    (case a_plus => k_is)
    (case l_plus => k_is)
    (case co_plus => k_is)
    (case kp_plus => k_is)
    (case l_Wire_under_way => k_is)
    (case co_Wire_under_way => k_is)
    (case kp_Wire_under_way => k_is)
    (case a_law_parts_agree => k_is)
    (case l_law_parts_agree => k_is)
    (case co_law_parts_agree => k_is)
    (case kp_law_parts_agree => k_is)
    (case l_Wire_arriving => k_is)
    (case co_Wire_arriving => k_is)
    (case kp_Wire_arriving => k_is)
    (case a_largest => k_is)
    (case l_largest => k_is)
    (case co_largest => k_is)
    (case kp_largest => k_is)
    (case l_Buffer_set_to => k_is)
    (case co_Buffer_set_to => k_is)
    (case kp_Buffer_set_to => k_is)
    (case l_Buffer_take_in => k_is)
    (case co_Buffer_take_in => k_is)
    (case kp_Buffer_take_in => k_is)
    (case l_Hop_sent_after => k_is)
    (case co_Hop_sent_after => k_is)
    (case kp_Hop_sent_after => k_is)
    (case l_Hop_room => k_is)
    (case co_Hop_room => k_is)
    (case kp_Hop_room => k_is)
    (case a_law => k_is)
    (case l_law => k_is)
    (case co_law => k_is)
    (case kp_law => k_is)
    (case z_int => k_is)
    (case z_list => k_is)
    (case z_len => k_is)
    (case z_max => k_is)
    (case z_isinstance => k_is)
    (case z_tuple => k_is)
    (case z_all => k_is)
    (case z_zip => k_is)
    (case z_bool => k_is)
    (case z_str => k_is)
    (case z_range => k_is)
    (case i_gcd => k_is)
