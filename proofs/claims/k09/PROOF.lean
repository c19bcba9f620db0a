import PyProof.Rows.All
import Wide.All
import OpenK.AllK
import Wide.FinOn
import HandS.ForMost
import HandS.Exc
import HandS.ExcOwn
import HandS.WordsExc
import HandS.Defaults
import HandS.Style
import HandS.Flow
import HandS.Wide
import HandS.Gcd
import HandS.IsInst
import HandS.Zip
import HandS.Head0
import HandS.Head1
import HandS.Head2
import HandS.HeadEnd
import HandS.HeadHook1
import HandS.HeadHook2
import HandS.Lambda
import KE.KExcSuper
import KE.KExcIs
import HandS.ExcField
import HandS.Deep
import HandS.EndBits
import HandS.HeadHook4
import KE.KDictDisplayH
import HandS.SortRule
import HandS.SortInts
import KE.KDictCopyH
import KE.KDictSum
import HandS.More
import HandS.Conv
import HandS.Head3
import PySem.Challenge.RW_foldedalike_k09_groups_are_all_products
set_option Elab.async false
set_option linter.all false
set_option maxRecDepth 100000
section
set_option maxHeartbeats 4000000
namespace DL
open PySem PySem.Spec PyProof.Rows L2

/-- no starred expression -/
def plainE : Expr → Bool
  | .Starred _ _ => false
  | _ => true
theorem star_cons {e : Expr} {es : List Expr} {env : Env} (h : plainE e = true) : starEach (e :: es) env = (false, eval e env) :: starEach es env := by
  cases e <;> first | rfl | cases h
/-- a promise about a value that stays true while more is frozen -/
structure Pv where
  p : Hp → V → Prop
  mono : ∀ G G' v, Same G G' → p G v → p G' v
/-- a promise about an own object's content -/
structure Po where
  p : Hp → Addr → HO → Prop
  mono : ∀ G G' a o, Same G G' → p G a o → p G' a o
  nt : ∀ G a o, p G a o → (∀ ps, o ≠ .tbl ps) ∧ (∀ c q, o ≠ LamX.CodeO c q) ∧ ∀ fv, o ≠ .xd fv
/-- what a slot holds -/
inductive Sl where
  | un
  | fz (d : PyData)
  | ow (io : Bool) (ds : List PyData)
  | vv (v : V)
  | pv (P : Pv)
  | op (P : Po)
/-- the slot's object is the frame's own -/
def Sl.own : Sl → Bool
  | .ow _ _ => true
  | .op _ => true
  | _ => false
/-- .. and was made in the frame -/
def Sl.new : Sl → Bool
  | .ow io _ => !io
  | .op _ => true
  | _ => false
theorem Sl.new_own {s : Sl} (h : s.new = true) : s.own = true := by cases s <;> first | rfl | cases h

mutual
def Rp (K : PySem.W.Frag) (G : Hp) : PyData → V → Prop
  | .none, v => v = .non
  | .bool b, v => v = .bl b
  | .int i, v => v = .int i
  | .str x, v => v = .str x
  | .list ds, v => ∃ a xs, v = .ref a ∧ G a = some (.lst xs) ∧ Rps K G ds xs
  | .tuple ds, v => ∃ a xs, v = .ref a ∧ SqT K G a xs ∧ Rps K G ds xs
  | .dict _, _ => False
def Rps (K : PySem.W.Frag) (G : Hp) : List PyData → List V → Prop
  | [], xs => xs = []
  | d :: ds, xs => ∃ v vs, xs = v :: vs ∧ Rp K G d v ∧ Rps K G ds vs
end

theorem same_seqT {K : PySem.W.Frag} {H H' : Hp} {a : Addr} {xs : List V} (e : Same H H') (h : SqT K H a xs) : SqT K H' a xs := by
  rcases h with (h | ⟨o, h⟩) | h
  · exact .inl (.inl (e _ _ h))
  · exact .inl (.inr ⟨o, e _ _ h⟩)
  · exact .inr h

section
variable {K : PySem.W.Frag} {G G' : Hp}
mutual
theorem Rp.mono (e : Same G G') : ∀ (d : PyData) (v : V), Rp K G d v → Rp K G' d v
  | .none, v, h => by simpa [Rp] using h
  | .bool b, v, h => by simpa [Rp] using h
  | .int i, v, h => by simpa [Rp] using h
  | .str x, v, h => by simpa [Rp] using h
  | .list ds, v, h => by
    simp only [Rp] at h ⊢
    obtain ⟨a, xs, h1, h2, h3⟩ := h
    exact ⟨a, xs, h1, e _ _ h2, Rps.mono e ds xs h3⟩
  | .tuple ds, v, h => by
    simp only [Rp] at h ⊢
    obtain ⟨a, xs, h1, h2, h3⟩ := h
    exact ⟨a, xs, h1, same_seqT e h2, Rps.mono e ds xs h3⟩
  | .dict _, v, h => by simp [Rp] at h
theorem Rps.mono (e : Same G G') : ∀ (ds : List PyData) (xs : List V), Rps K G ds xs → Rps K G' ds xs
  | [], xs, h => by simpa [Rps] using h
  | d :: ds, xs, h => by
    simp only [Rps] at h ⊢
    obtain ⟨v, vs, h1, h2, h3⟩ := h
    exact ⟨v, vs, h1, Rp.mono e d v h2, Rps.mono e ds vs h3⟩
end

theorem Rps.nil : Rps K G [] [] := by simp [Rps]
theorem Rps.cons {d : PyData} {ds : List PyData} {v : V} {vs : List V} (h : Rp K G d v) (t : Rps K G ds vs) : Rps K G (d :: ds) (v :: vs) := by
  simp only [Rps]; exact ⟨v, vs, rfl, h, t⟩
theorem Rps.length : ∀ {ds : List PyData} {xs : List V}, Rps K G ds xs → xs.length = ds.length
  | [], xs, h => by simp only [Rps] at h; subst h; rfl
  | d :: ds, xs, h => by
    simp only [Rps] at h
    obtain ⟨v, vs, rfl, _, h3⟩ := h
    simp [Rps.length h3]
theorem Rps.get : ∀ {ds : List PyData} {xs : List V} {i : Nat} {d : PyData}, Rps K G ds xs → ds[i]? = some d → ∃ v, xs[i]? = some v ∧ Rp K G d v
  | [], xs, i, d, h, e => by simp at e
  | d :: ds, xs, 0, d', h, e => by
    simp only [Rps] at h
    obtain ⟨v, vs, rfl, h2, h3⟩ := h
    simp at e; subst e
    exact ⟨v, rfl, h2⟩
  | d :: ds, xs, i + 1, d', h, e => by
    simp only [Rps] at h
    obtain ⟨v, vs, rfl, h2, h3⟩ := h
    obtain ⟨u, q1, q2⟩ := Rps.get (i := i) (d := d') h3 (by simpa using e)
    exact ⟨u, by simpa using q1, q2⟩
theorem Rps.append : ∀ {ds es : List PyData} {xs ys : List V}, Rps K G ds xs → Rps K G es ys → Rps K G (ds ++ es) (xs ++ ys)
  | [], es, xs, ys, h, t => by simp only [Rps] at h; subst h; simpa using t
  | d :: ds, es, xs, ys, h, t => by
    simp only [Rps] at h
    obtain ⟨v, vs, rfl, h2, h3⟩ := h
    exact Rps.cons h2 (Rps.append h3 t)
theorem Rps.take : ∀ {ds : List PyData} {xs : List V} (n : Nat), Rps K G ds xs → Rps K G (ds.take n) (xs.take n)
  | ds, xs, 0, h => by simpa using (Rps.nil : Rps K G [] [])
  | [], xs, n + 1, h => by simp only [Rps] at h; subst h; exact Rps.nil
  | d :: ds, xs, n + 1, h => by
    simp only [Rps] at h
    obtain ⟨v, vs, rfl, h2, h3⟩ := h
    exact Rps.cons h2 (Rps.take n h3)
theorem Rps.drop : ∀ {ds : List PyData} {xs : List V} (n : Nat), Rps K G ds xs → Rps K G (ds.drop n) (xs.drop n)
  | ds, xs, 0, h => by simpa using h
  | [], xs, n + 1, h => by simp only [Rps] at h; subst h; exact Rps.nil
  | d :: ds, xs, n + 1, h => by
    simp only [Rps] at h
    obtain ⟨v, vs, rfl, h2, h3⟩ := h
    simpa using Rps.drop n h3
theorem Rps.set : ∀ {ds : List PyData} {xs : List V} (i : Nat) {d : PyData} {v : V}, Rps K G ds xs → Rp K G d v → Rps K G (ds.set i d) (xs.set i v)
  | [], xs, i, d, v, h, r => by simp only [Rps] at h; subst h; exact Rps.nil
  | d :: ds, xs, 0, e, u, h, r => by
    simp only [Rps] at h
    obtain ⟨v, vs, rfl, h2, h3⟩ := h
    exact Rps.cons r h3
  | d :: ds, xs, i + 1, e, u, h, r => by
    simp only [Rps] at h
    obtain ⟨v, vs, rfl, h2, h3⟩ := h
    exact Rps.cons h2 (Rps.set i h3 r)
theorem Rps.eraseIdx : ∀ {ds : List PyData} {xs : List V} (i : Nat), Rps K G ds xs → Rps K G (ds.eraseIdx i) (xs.eraseIdx i)
  | [], xs, i, h => by simp only [Rps] at h; subst h; exact Rps.nil
  | d :: ds, xs, 0, h => by
    simp only [Rps] at h
    obtain ⟨v, vs, rfl, h2, h3⟩ := h
    exact h3
  | d :: ds, xs, i + 1, h => by
    simp only [Rps] at h
    obtain ⟨v, vs, rfl, h2, h3⟩ := h
    exact Rps.cons h2 (Rps.eraseIdx i h3)
theorem Rps.dropLast : ∀ {ds : List PyData} {xs : List V}, Rps K G ds xs → Rps K G ds.dropLast xs.dropLast := fun {ds xs} h => by
  rw [List.dropLast_eq_take, List.dropLast_eq_take, h.length]
  exact h.take _
theorem Rps.cast : ∀ {ds : List PyData} {xs : List V}, Rps K G ds xs → (∀ d ∈ ds, ∀ v, Rp K G d v → Rp K G' d v) → Rps K G' ds xs
  | [], xs, h, _ => by simpa [Rps] using h
  | d :: ds, xs, h, f => by
    simp only [Rps] at h ⊢
    obtain ⟨v, vs, h1, h2, h3⟩ := h
    exact ⟨v, vs, h1, f d (by simp) v h2, Rps.cast h3 fun d hd => f d (by simp [hd])⟩

/-- ints -/
theorem rps_ints : ∀ {ns : List Int} {xs : List V}, Rps K G (ns.map PyData.int) xs → xs = ns.map V.int
  | [], xs, h => by simpa [Rps] using h
  | n :: ns, xs, h => by
    simp only [List.map_cons, Rps, Rp] at h
    obtain ⟨v, vs, rfl, rfl, h3⟩ := h
    rw [rps_ints h3]; rfl
theorem rps_of_ints : ∀ (ns : List Int), Rps K G (ns.map PyData.int) (ns.map V.int)
  | [] => Rps.nil
  | n :: ns => Rps.cons (by simp [Rp]) (rps_of_ints ns)
theorem rps_bools : ∀ {ns : List Bool} {xs : List V}, Rps K G (ns.map PyData.bool) xs → xs = ns.map V.bl
  | [], xs, h => by simpa [Rps] using h
  | n :: ns, xs, h => by
    simp only [List.map_cons, Rps, Rp] at h
    obtain ⟨v, vs, rfl, rfl, h3⟩ := h
    rw [rps_bools h3]; rfl
theorem rps_strs : ∀ {ns : List Str} {xs : List V}, Rps K G (ns.map PyData.str) xs → xs = ns.map V.str
  | [], xs, h => by simpa [Rps] using h
  | n :: ns, xs, h => by
    simp only [List.map_cons, Rps, Rp] at h
    obtain ⟨v, vs, rfl, rfl, h3⟩ := h
    rw [rps_strs h3]; rfl

mutual
theorem Rp.dp {H : Hp} (e : Same G H) : ∀ (d : PyData) (v : V), Rp K G d v → Dp K H v d
  | .none, v, h => by simp only [Rp] at h; subst h; exact .non
  | .bool b, v, h => by simp only [Rp] at h; subst h; exact .bl b
  | .int i, v, h => by simp only [Rp] at h; subst h; exact .int i
  | .str x, v, h => by simp only [Rp] at h; subst h; exact .str x
  | .list ds, v, h => by
    simp only [Rp] at h
    obtain ⟨a, xs, rfl, h2, h3⟩ := h
    exact .lst (SqL.of (e _ _ h2)) (Rps.dp e ds xs h3)
  | .tuple ds, v, h => by
    simp only [Rp] at h
    obtain ⟨a, xs, rfl, h2, h3⟩ := h
    exact .tup (same_seqT e h2) (Rps.dp e ds xs h3)
  | .dict _, v, h => by simp [Rp] at h
theorem Rps.dp {H : Hp} (e : Same G H) : ∀ (ds : List PyData) (xs : List V), Rps K G ds xs → DpAll K H xs ds
  | [], xs, h => by simp only [Rps] at h; subst h; exact .nil
  | d :: ds, xs, h => by
    simp only [Rps] at h
    obtain ⟨v, vs, rfl, h2, h3⟩ := h
    exact .cons (Rp.dp e d v h2) (Rps.dp e ds vs h3)
end
end

/-- a frame's fixed facts: the frozen heap and the heap at the entry, what may not change, the address of the list handed in to be changed -/
structure FC where
  K : PySem.W.Frag
  G0 : Hp
  H0 : Hp
  B : Hp
  io : Option Addr
  tabs : List (Addr × Str)
  bsub : ∀ b o, B b = some o → H0 b = some o

/-- what a slot's value is -/
def SlV (K : PySem.W.Frag) (G H : Hp) : Sl → V → Prop
  | .un, _ => True
  | .fz d, v => Rp K G d v
  | .ow _ ds, v => ∃ a xs, v = .ref a ∧ G a = none ∧ H a = some (.lst xs) ∧ Rps K G ds xs
  | .vv u, v => v = u
  | .pv P, v => P.p G v
  | .op P, v => ∃ a o, v = .ref a ∧ G a = none ∧ H a = some o ∧ P.p G a o
/-- the slots' values at a frozen heap G, a heap H -/
structure SlR (K : PySem.W.Frag) (G H : Hp) (σ : L2.St) (ρ : List Sl) : Prop where
  len : σ.length = ρ.length
  val : ∀ (i : Nat) s, ρ[i]? = some s → s ≠ .un → ∃ v, σ[i]? = some (some v) ∧ SlV K G H s v
  dj : ∀ (i j : Nat) s t a, ρ[i]? = some s → ρ[j]? = some t → s.own = true → t.own = true → σ[i]? = some (some (.ref a)) → σ[j]? = some (some (.ref a)) → i = j
section
variable {K : PySem.W.Frag} {G H : Hp} {σ : L2.St} {ρ : List Sl}
theorem SlR.fz (s : SlR K G H σ ρ) (i : Nat) (d : PyData) (h : ρ[i]? = some (.fz d)) : ∃ v, σ[i]? = some (some v) ∧ Rp K G d v := s.val i _ h (fun z => by cases z)
theorem SlR.ow (s : SlR K G H σ ρ) (i : Nat) (io : Bool) (ds : List PyData) (h : ρ[i]? = some (.ow io ds)) : ∃ a xs, σ[i]? = some (some (.ref a)) ∧ G a = none ∧ H a = some (.lst xs) ∧ Rps K G ds xs := by
  obtain ⟨v, h1, a, xs, rfl, h2⟩ := s.val i _ h (fun z => by cases z)
  exact ⟨a, xs, h1, h2⟩
theorem SlR.op (s : SlR K G H σ ρ) (i : Nat) (P : Po) (h : ρ[i]? = some (.op P)) : ∃ a o, σ[i]? = some (some (.ref a)) ∧ G a = none ∧ H a = some o ∧ P.p G a o := by
  obtain ⟨v, h1, a, xs, rfl, h2⟩ := s.val i _ h (fun z => by cases z)
  exact ⟨a, xs, h1, h2⟩
theorem SlR.vv (s : SlR K G H σ ρ) (i : Nat) (v : V) (h : ρ[i]? = some (.vv v)) : σ[i]? = some (some v) := by
  obtain ⟨v, h1, rfl⟩ := s.val i _ h (fun z => by cases z)
  exact h1
theorem SlR.pv (s : SlR K G H σ ρ) (i : Nat) (P : Pv) (h : ρ[i]? = some (.pv P)) : ∃ v, σ[i]? = some (some v) ∧ P.p G v := s.val i _ h (fun z => by cases z)
/-- an own slot's object -/
theorem SlR.own (s : SlR K G H σ ρ) {i : Nat} {t : Sl} (h : ρ[i]? = some t) (o : t.own = true) : ∃ a u, σ[i]? = some (some (.ref a)) ∧ G a = none ∧ H a = some u ∧ (∀ ps, u ≠ .tbl ps) ∧ (∀ c q, u ≠ LamX.CodeO c q) ∧ ∀ fv, u ≠ .xd fv := by
  cases t with
  | ow io ds =>
    obtain ⟨a, xs, h1, h2, h3, _⟩ := s.ow i io ds h
    exact ⟨a, _, h1, h2, h3, fun ps z => (by cases z), fun c q z => (by unfold LamX.CodeO at z; cases z), fun fv z => (by cases z)⟩
  | op P =>
    obtain ⟨a, u, h1, h2, h3, h4⟩ := s.op i P h
    exact ⟨a, u, h1, h2, h3, P.nt G a u h4⟩
  | _ => cases o
/-- p is no own slot's object -/
abbrev NoOwn (ρ : List Sl) (σ : L2.St) (p : Addr) : Prop := ∀ (i : Nat) s, ρ[i]? = some s → s.own = true → σ[i]? ≠ some (some (.ref p))
theorem SlR.away (s : SlR K G H σ ρ) {p : Addr} (h : H p = none) : NoOwn ρ σ p := fun i t q o e => by
  obtain ⟨a, u, h1, _, h2, _⟩ := s.own q o
  rw [h1] at e; cases e
  rw [h] at h2; cases h2
theorem SlR.awayT (s : SlR K G H σ ρ) {p : Addr} {ps : Array Value} (h : H p = some (.tbl ps)) : NoOwn ρ σ p := fun i t q o e => by
  obtain ⟨a, u, h1, _, h2, h3, _⟩ := s.own q o
  rw [h1] at e; cases e
  rw [h] at h2; cases h2
  exact h3 ps rfl
theorem SlR.awayX (s : SlR K G H σ ρ) {p : Addr} {fv : List (Str × V)} (h : H p = some (.xd fv)) : NoOwn ρ σ p := fun i t q o e => by
  obtain ⟨a, u, h1, _, h2, _, _, h3⟩ := s.own q o
  rw [h1] at e; cases e
  rw [h] at h2; cases h2
  exact h3 fv rfl
theorem SlV.mono {G' H' : Hp} {s : Sl} {v : V} (h : SlV K G H s v) (m : Same G G') (k : s.own = true → ∀ a, v = .ref a → G' a = G a ∧ H' a = H a) : SlV K G' H' s v := by
  cases s with
  | un => trivial
  | fz d => exact Rp.mono m d v h
  | vv u => exact h
  | pv P => exact P.mono _ _ v m h
  | ow io ds =>
    obtain ⟨a, xs, rfl, h2, h3, h4⟩ := h
    obtain ⟨k1, k2⟩ := k rfl a rfl
    exact ⟨a, xs, rfl, k1.trans h2, k2.trans h3, Rps.mono m ds xs h4⟩
  | op P =>
    obtain ⟨a, o, rfl, h2, h3, h4⟩ := h
    obtain ⟨k1, k2⟩ := k rfl a rfl
    exact ⟨a, o, rfl, k1.trans h2, k2.trans h3, P.mono _ _ _ o m h4⟩
/-- other heaps, the own objects as before -/
theorem SlR.heaps {G' H' : Hp} (s : SlR K G H σ ρ) (m : Same G G') (k : ∀ (i : Nat) t a, ρ[i]? = some t → t.own = true → σ[i]? = some (some (.ref a)) → G' a = G a ∧ H' a = H a) : SlR K G' H' σ ρ :=
  ⟨s.len, fun i t h n => by
    obtain ⟨v, h1, h2⟩ := s.val i t h n
    exact ⟨v, h1, h2.mono m fun o a e => k i t a h o (by rw [h1, e])⟩, s.dj⟩
theorem set_at {i j : Nat} {s t : Sl} (h : (ρ.set i s)[j]? = some t) : (j = i ∧ t = s ∧ i < ρ.length) ∨ (j ≠ i ∧ ρ[j]? = some t) := by
  by_cases e : i = j
  · subst e
    have hl : i < ρ.length := by
      have := (List.getElem?_eq_some_iff.mp h).1
      simpa using this
    rw [List.getElem?_set_self hl] at h
    exact .inl ⟨rfl, (Option.some.inj h).symm, hl⟩
  · rw [List.getElem?_set_ne e] at h
    exact .inr ⟨fun z => e z.symm, h⟩
/-- a slot is set -/
theorem SlR.put (s : SlR K G H σ ρ) {i : Nat} {t : Sl} {v : V} (hi : i < ρ.length) (r : SlV K G H t v) (n : t.own = true → ∀ a, v = .ref a → NoOwn ρ σ a) : SlR K G H (σ.set i (some v)) (ρ.set i t) := by
  have hσ : i < σ.length := by rw [s.len]; exact hi
  refine ⟨by simp [s.len], fun j u h hu => ?_, fun j k u w a h1 h2 o1 o2 h3 h4 => ?_⟩
  · rcases set_at h with ⟨rfl, rfl, _⟩ | ⟨ne, h⟩
    · exact ⟨v, by rw [List.getElem?_set_self hσ], r⟩
    · rw [List.getElem?_set_ne (Ne.symm ne)]; exact s.val j u h hu
  · rcases set_at h1 with ⟨rfl, rfl, _⟩ | ⟨n1, g1⟩
    · rcases set_at h2 with ⟨rfl, rfl, _⟩ | ⟨n2, g2⟩
      · rfl
      · rw [List.getElem?_set_self hσ] at h3
        rw [List.getElem?_set_ne (Ne.symm n2)] at h4
        exact (n o1 a (Option.some.inj (Option.some.inj h3)) k w g2 o2 h4).elim
    · rcases set_at h2 with ⟨rfl, rfl, _⟩ | ⟨n2, g2⟩
      · rw [List.getElem?_set_self hσ] at h4
        rw [List.getElem?_set_ne (Ne.symm n1)] at h3
        exact (n o2 a (Option.some.inj (Option.some.inj h4)) j u g1 o1 h3).elim
      · rw [List.getElem?_set_ne (Ne.symm n1)] at h3
        rw [List.getElem?_set_ne (Ne.symm n2)] at h4
        exact s.dj j k u w a g1 g2 o1 o2 h3 h4
/-- a slot is forgotten, whatever its value is then -/
theorem SlR.drop (s : SlR K G H σ ρ) {i : Nat} {u : Option V} (hi : i < ρ.length) : SlR K G H (σ.set i u) (ρ.set i .un) := by
  refine ⟨by simp [s.len], fun j t h ht => ?_, fun j k t w a h1 h2 o1 o2 h3 h4 => ?_⟩
  · rcases set_at h with ⟨_, rfl, _⟩ | ⟨ne, h⟩
    · exact (ht rfl).elim
    · rw [List.getElem?_set_ne (Ne.symm ne)]; exact s.val j t h ht
  · rcases set_at h1 with ⟨_, rfl, _⟩ | ⟨n1, h1⟩
    · cases o1
    · rcases set_at h2 with ⟨_, rfl, _⟩ | ⟨n2, h2⟩
      · cases o2
      · rw [List.getElem?_set_ne (Ne.symm n1)] at h3
        rw [List.getElem?_set_ne (Ne.symm n2)] at h4
        exact s.dj j k t w a h1 h2 o1 o2 h3 h4
theorem set_same {σ : L2.St} {i : Nat} {x : Option V} (h : σ[i]? = some x) : σ.set i x = σ := by
  have hσ : i < σ.length := (List.getElem?_eq_some_iff.mp h).1
  apply List.ext_getElem?
  intro j
  by_cases hj : i = j
  · subst hj; rw [List.getElem?_set_self hσ, h]
  · rw [List.getElem?_set_ne hj]
theorem SlR.forget (s : SlR K G H σ ρ) {i : Nat} (hi : i < ρ.length) : SlR K G H σ (ρ.set i .un) := by
  have hσ : i < σ.length := by rw [s.len]; exact hi
  have := s.drop (u := σ[i]) hi
  rwa [set_same (List.getElem?_eq_getElem hσ)] at this
end

/-- the state of a frame -/
structure SR (F : FC) (ρ : List Sl) (G : Hp) (σ : L2.St) (H : Hp) : Prop where
  bh : Same F.B H
  hd : ∀ b, H b = none → F.H0 b = none
  g0 : Same F.G0 G
  gn : ∀ b, G b ≠ none → F.G0 b ≠ none ∨ F.H0 b = none
  gh : Same G H
  sl : SlR F.K G H σ ρ
  fr : ∀ (i : Nat) s a, ρ[i]? = some s → s.new = true → σ[i]? = some (some (.ref a)) → F.H0 a = none
  io : ∀ (i : Nat) ds a, ρ[i]? = some (.ow true ds) → σ[i]? = some (some (.ref a)) → F.io = some a ∧ F.B a = none
  tb : LamX.Tabs F.tabs H
  tg : ∀ p ∈ F.tabs, G p.1 = none
  tB : ∀ p ∈ F.tabs, F.B p.1 = none

theorem tabs_upd {T : List (Addr × Str)} {H : Hp} {p : Addr} {o : HO} (t : LamX.Tabs T H) (h : H p = none) : LamX.Tabs T (upd H p o) := t.ext fun b u e => by
  rw [upd_ne (ne_of_none e h)]; exact e
theorem tabs_updN {T : List (Addr × Str)} {H : Hp} {p : Addr} {u o : HO} (t : LamX.Tabs T H) (h : H p = some u) (n1 : ∀ ps, u ≠ .tbl ps) (n2 : ∀ c q, u ≠ LamX.CodeO c q) : LamX.Tabs T (upd H p o) := fun q hq => by
  obtain ⟨ps, h1, h2, h3⟩ := t q hq
  have m1 : q.1 ≠ p := fun z => by rw [z, h] at h1; exact n1 ps (Option.some.inj h1)
  refine ⟨ps, by rw [upd_ne m1]; exact h1, h2, fun pos cv hc => ?_⟩
  obtain ⟨c, e1, e2⟩ := h3 pos cv hc
  have m2 : c ≠ p := fun z => by rw [z, h] at e2; exact n2 _ _ (Option.some.inj e2)
  exact ⟨c, e1, by rw [upd_ne m2]; exact e2⟩
theorem tabs_updL {T : List (Addr × Str)} {H : Hp} {p : Addr} {xs : List V} {o : HO} (t : LamX.Tabs T H) (h : H p = some (.lst xs)) : LamX.Tabs T (upd H p o) :=
  tabs_updN t h (fun ps z => by cases z) fun c q z => by unfold LamX.CodeO at z; cases z
theorem tabs_keep {T : List (Addr × Str)} {H H' : Hp} (t : LamX.Tabs T H) (k : ∀ b o, H b = some o → (∀ xs, o ≠ .lst xs) → H' b = some o) : LamX.Tabs T H' := fun q hq => by
  obtain ⟨ps, h1, h2, h3⟩ := t q hq
  refine ⟨ps, k _ _ h1 (fun xs z => by cases z), h2, fun pos cv hc => ?_⟩
  obtain ⟨c, e1, e2⟩ := h3 pos cv hc
  exact ⟨c, e1, k _ _ e2 (fun xs z => by unfold LamX.CodeO at z; cases z)⟩
theorem tabs_at {T : List (Addr × Str)} {H : Hp} (t : LamX.Tabs T H) {q : Addr × Str} (hq : q ∈ T) : ∃ ps, H q.1 = some (.tbl ps) := by
  obtain ⟨ps, h1, _⟩ := t q hq
  exact ⟨ps, h1⟩
theorem SR.bn {F : FC} {ρ : List Sl} {G : Hp} {σ : L2.St} {H : Hp} (s : SR F ρ G σ H) {p : Addr} (h : F.H0 p = none) : F.B p = none := by
  cases e : F.B p with
  | none => rfl
  | some o => rw [F.bsub p o e] at h; cases h
theorem SR.ownB {F : FC} {ρ : List Sl} {G : Hp} {σ : L2.St} {H : Hp} (s : SR F ρ G σ H) {i : Nat} {t : Sl} {a : Addr} (h : ρ[i]? = some t) (o : t.own = true) (e : σ[i]? = some (some (.ref a))) : F.B a = none := by
  cases t with
  | ow io ds =>
    cases io with
    | false => exact s.bn (s.fr i _ a h rfl e)
    | true => exact (s.io i ds a h e).2
  | op P => exact s.bn (s.fr i _ a h rfl e)
  | _ => cases o
theorem SR.owB {F : FC} {ρ : List Sl} {G : Hp} {σ : L2.St} {H : Hp} (s : SR F ρ G σ H) {i : Nat} {io : Bool} {ds : List PyData} {a : Addr} (h : ρ[i]? = some (.ow io ds)) (e : σ[i]? = some (some (.ref a))) : F.B a = none := s.ownB h rfl e
theorem same_upd {H : Hp} {p : Addr} {o : HO} (h : H p = none) : Same H (upd H p o) := fun b u e => by
  rw [upd_ne (ne_of_none e h)]; exact e
theorem same_updR {G H : Hp} {p : Addr} {o : HO} (s : Same G H) (h : G p = none) : Same G (upd H p o) := fun b u e => by
  rw [upd_ne (ne_of_none e h)]; exact s _ _ e
theorem same_upd2 {G H : Hp} {p : Addr} {o : HO} (s : Same G H) : Same (upd G p o) (upd H p o) := fun b u e => by
  by_cases hb : b = p
  · subst hb; rw [upd_same] at e ⊢; exact e
  · rw [upd_ne hb] at e ⊢; exact s _ _ e
theorem none_of_same {G H : Hp} {p : Addr} (s : Same G H) (h : H p = none) : G p = none := by
  cases e : G p with
  | none => rfl
  | some o => rw [s p o e] at h; cases h

section
variable {F : FC} {ρ : List Sl} {G H : Hp} {σ : L2.St}
/-- a new object, frozen at once -/
theorem SR.lay (s : SR F ρ G σ H) {p : Addr} {o : HO} (hp : H p = none) : SR F ρ (upd G p o) σ (upd H p o) where
  bh := same_updR s.bh (none_of_same s.bh hp)
  hd := fun b h => by
    by_cases e : b = p
    · subst e; exact s.hd b hp
    · rw [upd_ne e] at h; exact s.hd b h
  g0 := fun b u e => by
    have n : b ≠ p := fun z => by subst z; rw [s.gh b u (s.g0 b u e)] at hp; cases hp
    rw [upd_ne n]; exact s.g0 b u e
  gn := fun b h => by
    by_cases e : b = p
    · subst e; exact .inr (s.hd b hp)
    · rw [upd_ne e] at h; exact s.gn b h
  gh := same_upd2 s.gh
  sl := s.sl.heaps (same_upd (none_of_same s.gh hp)) fun i t a h o e => by
    have n : a ≠ p := fun z => s.sl.away hp i t h o (by rw [e, z])
    exact ⟨upd_ne n, upd_ne n⟩
  fr := s.fr
  io := s.io
  tb := tabs_upd s.tb hp
  tg := fun q hq => by
    obtain ⟨ps, e⟩ := tabs_at s.tb hq
    rw [upd_ne (fun z => by rw [z, hp] at e; cases e)]; exact s.tg q hq
  tB := s.tB
/-- a new object, not frozen -/
theorem SR.layN (s : SR F ρ G σ H) {p : Addr} {o : HO} (hp : H p = none) : SR F ρ G σ (upd H p o) where
  bh := same_updR s.bh (none_of_same s.bh hp)
  hd := fun b h => by
    by_cases e : b = p
    · subst e; exact s.hd b hp
    · rw [upd_ne e] at h; exact s.hd b h
  g0 := s.g0
  gn := s.gn
  gh := same_updR s.gh (none_of_same s.gh hp)
  sl := s.sl.heaps (.refl _) fun i t a h o e => ⟨rfl, upd_ne fun z => s.sl.away hp i t h o (by rw [e, z])⟩
  fr := s.fr
  io := s.io
  tb := tabs_upd s.tb hp
  tg := s.tg
  tB := s.tB
/-- an object that is nobody's is changed -/
theorem SR.turnN (s : SR F ρ G σ H) {p : Addr} {u o : HO} (hp : H p = some u) (n1 : ∀ ps, u ≠ .tbl ps) (n2 : ∀ c q, u ≠ LamX.CodeO c q) (hB : F.B p = none) (hG : G p = none) (hn : NoOwn ρ σ p) : SR F ρ G σ (upd H p o) where
  bh := same_updR s.bh hB
  hd := fun b h => by
    by_cases e : b = p
    · subst e; rw [upd_same] at h; cases h
    · rw [upd_ne e] at h; exact s.hd b h
  g0 := s.g0
  gn := s.gn
  gh := same_updR s.gh hG
  sl := s.sl.heaps (.refl _) fun i t a h o e => ⟨rfl, upd_ne fun z => hn i t h o (by rw [e, z])⟩
  fr := s.fr
  io := s.io
  tb := tabs_updN s.tb hp n1 n2
  tg := s.tg
  tB := s.tB
theorem SR.turn (s : SR F ρ G σ H) {p : Addr} {o : HO} (hp : ∃ xs, H p = some (.lst xs)) (hB : F.B p = none) (hG : G p = none) (hn : NoOwn ρ σ p) : SR F ρ G σ (upd H p o) := by
  obtain ⟨xs, e⟩ := hp
  exact s.turnN e (fun ps z => by cases z) (fun c q z => by unfold LamX.CodeO at z; cases z) hB hG hn
/-- an object of H that is nobody's is frozen -/
theorem SR.freeze (s : SR F ρ G σ H) {p : Addr} {o : HO} (hp : H p = some o) (hnt : ∀ ps, o ≠ .tbl ps) (h0 : F.H0 p = none) (hG : G p = none) (hn : NoOwn ρ σ p) : SR F ρ (upd G p o) σ H where
  bh := s.bh
  hd := s.hd
  g0 := fun b u e => by
    have n : b ≠ p := fun z => by subst z; rw [s.g0 b u e] at hG; cases hG
    rw [upd_ne n]; exact s.g0 b u e
  gn := fun b h => by
    by_cases e : b = p
    · subst e; exact .inr h0
    · rw [upd_ne e] at h; exact s.gn b h
  gh := fun b u e => by
    by_cases hb : b = p
    · subst hb; rw [upd_same] at e; rw [← e]; exact hp
    · rw [upd_ne hb] at e; exact s.gh b u e
  sl := s.sl.heaps (same_upd hG) fun i t a h o e => ⟨upd_ne fun z => hn i t h o (by rw [e, z]), rfl⟩
  fr := s.fr
  io := s.io
  tb := s.tb
  tg := fun q hq => by
    obtain ⟨ps, e⟩ := tabs_at s.tb hq
    rw [upd_ne (fun z => by rw [z, hp] at e; exact hnt ps (Option.some.inj e))]; exact s.tg q hq
  tB := s.tB
/-- the slots change alone -/
theorem SR.slots {ρ' : List Sl} {σ' : L2.St} (s : SR F ρ G σ H) (sl : SlR F.K G H σ' ρ') (fr : ∀ (i : Nat) s a, ρ'[i]? = some s → s.new = true → σ'[i]? = some (some (.ref a)) → F.H0 a = none)
    (io : ∀ (i : Nat) ds a, ρ'[i]? = some (.ow true ds) → σ'[i]? = some (some (.ref a)) → F.io = some a ∧ F.B a = none) : SR F ρ' G σ' H := ⟨s.bh, s.hd, s.g0, s.gn, s.gh, sl, fr, io, s.tb, s.tg, s.tB⟩
/-- a slot is set -/
theorem SR.setV (s : SR F ρ G σ H) (i : Nat) {t : Sl} {v : V} (hi : i < ρ.length) (r : SlV F.K G H t v) (n : t.own = true → ∀ a, v = .ref a → NoOwn ρ σ a ∧ F.H0 a = none) (hio : ∀ ds, t ≠ .ow true ds) : SR F (ρ.set i t) G (σ.set i (some v)) H := by
  have hσ : i < σ.length := by rw [s.sl.len]; exact hi
  refine s.slots (s.sl.put hi r fun o a e => (n o a e).1) (fun j u a h hu e => ?_) fun j ds a h e => ?_
  · rcases set_at h with ⟨rfl, rfl, _⟩ | ⟨ne, h⟩
    · rw [List.getElem?_set_self hσ] at e
      exact (n (Sl.new_own hu) a (Option.some.inj (Option.some.inj e))).2
    · rw [List.getElem?_set_ne (Ne.symm ne)] at e; exact s.fr j u a h hu e
  · rcases set_at h with ⟨_, q, _⟩ | ⟨ne, h⟩
    · exact (hio ds q.symm).elim
    · rw [List.getElem?_set_ne (Ne.symm ne)] at e; exact s.io j ds a h e
theorem SR.setFz (s : SR F ρ G σ H) (i : Nat) {d : PyData} {v : V} (hi : i < ρ.length) (r : Rp F.K G d v) : SR F (ρ.set i (.fz d)) G (σ.set i (some v)) H := s.setV i hi r (fun z => by cases z) fun _ z => by cases z
theorem SR.setVV (s : SR F ρ G σ H) (i : Nat) {v : V} (hi : i < ρ.length) : SR F (ρ.set i (.vv v)) G (σ.set i (some v)) H := s.setV i (t := .vv v) hi rfl (fun z => by cases z) fun _ z => by cases z
theorem SR.setPv (s : SR F ρ G σ H) (i : Nat) {v : V} {P : Pv} (hi : i < ρ.length) (r : P.p G v) : SR F (ρ.set i (.pv P)) G (σ.set i (some v)) H := s.setV i hi r (fun z => by cases z) fun _ z => by cases z
/-- a slot is set to a new own list -/
theorem SR.setOw (s : SR F ρ G σ H) (i : Nat) {ds : List PyData} {p : Addr} {xs : List V} (hi : i < ρ.length) (hp : H p = some (.lst xs)) (h0 : F.H0 p = none) (hG : G p = none) (r : Rps F.K G ds xs) (hn : NoOwn ρ σ p) : SR F (ρ.set i (.ow false ds)) G (σ.set i (some (.ref p))) H :=
  s.setV i hi ⟨p, xs, rfl, hG, hp, r⟩ (fun _ a e => by cases e; exact ⟨hn, h0⟩) fun _ z => by cases z
/-- .. to a new own object -/
theorem SR.setOp (s : SR F ρ G σ H) (i : Nat) {P : Po} {p : Addr} {o : HO} (hi : i < ρ.length) (hp : H p = some o) (h0 : F.H0 p = none) (hG : G p = none) (r : P.p G p o) (hn : NoOwn ρ σ p) : SR F (ρ.set i (.op P)) G (σ.set i (some (.ref p))) H :=
  s.setV i hi ⟨p, o, rfl, hG, hp, r⟩ (fun _ a e => by cases e; exact ⟨hn, h0⟩) fun _ z => by cases z
/-- a slot is forgotten -/
theorem SR.forget (s : SR F ρ G σ H) {i : Nat} (hl : i < ρ.length) : SR F (ρ.set i .un) G σ H := by
  refine s.slots (s.sl.forget hl) (fun j u a h hu e => ?_) fun j ds a h e => ?_
  · rcases set_at h with ⟨_, rfl, _⟩ | ⟨_, h⟩
    · cases hu
    · exact s.fr j u a h hu e
  · rcases set_at h with ⟨_, q, _⟩ | ⟨_, h⟩
    · cases q
    · exact s.io j ds a h e
theorem SR.noOwn (s : SR F ρ G σ H) {i : Nat} {t : Sl} {a : Addr} (hi : ρ[i]? = some t) (o : t.own = true) (e : σ[i]? = some (some (.ref a))) : NoOwn (ρ.set i .un) σ a := fun j u h ou ej => by
  rcases set_at h with ⟨_, rfl, _⟩ | ⟨ne, h⟩
  · cases ou
  · exact ne (s.sl.dj j i u t a h hi ou o ej e)
/-- an own object is changed -/
theorem SR.chV (s : SR F ρ G σ H) {i : Nat} {t t' : Sl} {a : Addr} {u : HO} (hi : ρ[i]? = some t) (o : t.own = true) (ha : σ[i]? = some (some (.ref a))) (r : SlV F.K G (upd H a u) t' (.ref a)) (hnew : t'.new = t.new) (hio : ∀ ds, t' = .ow true ds → ∃ es, t = .ow true es) : SR F (ρ.set i t') G σ (upd H a u) := by
  have hl : i < ρ.length := (List.getElem?_eq_some_iff.mp hi).1
  obtain ⟨a', u', q1, q2, q3, q4, q5, _⟩ := s.sl.own hi o
  rw [ha] at q1; cases q1
  have no := s.noOwn hi o ha
  have s2 : SR F (ρ.set i .un) G σ (upd H a u) := (s.forget hl).turnN q3 q4 q5 (s.ownB hi o ha) q2 no
  have sl := s2.sl.put (i := i) (t := t') (v := .ref a) (by simpa using hl) r fun _ b e => by cases e; exact no
  rw [List.set_set, set_same ha] at sl
  refine s2.slots sl (fun j w b h hw e => ?_) fun j ds b h e => ?_
  · rcases set_at h with ⟨rfl, rfl, _⟩ | ⟨_, h⟩
    · exact s.fr j t b hi (by rw [← hnew]; exact hw) e
    · exact s.fr j w b h hw e
  · rcases set_at h with ⟨rfl, q, _⟩ | ⟨_, h⟩
    · obtain ⟨es, rfl⟩ := hio ds q.symm
      exact s.io j es b hi e
    · exact s.io j ds b h e
/-- an own list is changed -/
theorem SR.chOw (s : SR F ρ G σ H) {i : Nat} {io : Bool} {ds es : List PyData} {a : Addr} {ys : List V} (hi : ρ[i]? = some (.ow io ds)) (ha : σ[i]? = some (some (.ref a))) (r : Rps F.K G es ys) : SR F (ρ.set i (.ow io es)) G σ (upd H a (.lst ys)) := by
  obtain ⟨a', xs, q1, q2, _⟩ := s.sl.ow i io ds hi
  rw [ha] at q1; cases q1
  exact s.chV hi rfl ha ⟨a, ys, rfl, q2, upd_same, r⟩ rfl fun ds e => by cases e; exact ⟨_, rfl⟩
theorem SR.chOp (s : SR F ρ G σ H) {i : Nat} {P P' : Po} {a : Addr} {u : HO} (hi : ρ[i]? = some (.op P)) (ha : σ[i]? = some (some (.ref a))) (r : P'.p G a u) : SR F (ρ.set i (.op P')) G σ (upd H a u) := by
  obtain ⟨a', o, q1, q2, _⟩ := s.sl.op i P hi
  rw [ha] at q1; cases q1
  exact s.chV hi rfl ha ⟨a, u, rfl, q2, upd_same, r⟩ rfl fun ds e => by cases e
/-- an own list is frozen where it stands -/
theorem SR.fzOw (s : SR F ρ G σ H) {i : Nat} {ds : List PyData} (hi : ρ[i]? = some (.ow false ds)) : ∃ a xs, σ[i]? = some (some (.ref a)) ∧ G a = none ∧ H a = some (.lst xs) ∧ Rps F.K G ds xs ∧ SR F (ρ.set i (.fz (.list ds))) (upd G a (.lst xs)) σ H := by
  have hl : i < ρ.length := (List.getElem?_eq_some_iff.mp hi).1
  obtain ⟨a, xs, q1, q2, q3, q4⟩ := s.sl.ow i false ds hi
  refine ⟨a, xs, q1, q2, q3, q4, ?_⟩
  have m : Same G (upd G a (.lst xs)) := same_upd q2
  have rl : Rp F.K (upd G a (.lst xs)) (.list ds) (.ref a) := by
    simp only [Rp]; exact ⟨a, xs, rfl, upd_same, Rps.mono m ds xs q4⟩
  have s2 := (s.forget hl).freeze q3 (fun ps z => by cases z) (s.fr i _ a hi rfl q1) q2 (s.noOwn hi rfl q1)
  have s3 := s2.setFz i (d := .list ds) (v := .ref a) (by simpa using hl) rl
  rw [List.set_set, set_same q1] at s3
  exact s3
end
end DL
end
section
set_option maxHeartbeats 4000000
namespace DL
open PySem PySem.Spec PyProof.Rows L2

structure tW (X : Cx) (e : Expr) (σ : L2.St) (H : Hp) (Q : VK) : Prop where
  run : ∀ pins s, Inv X pins σ H s → wpAny (model X.prog X.w) X.A (eval e X.env) (EP X pins σ Q) X.xe s
structure tWT (X : Cx) (e : Expr) (σ : L2.St) (H : Hp) (Q : Bool → Hp → Prop) : Prop where
  run : ∀ pins s, Inv X pins σ H s → wpAny (model X.prog X.w) X.A (isTrue e X.env (eval e X.env)) (TP X pins σ Q) X.xe s
structure tWP (X : Cx) (e : Expr) (σ : L2.St) (H : Hp) (Q : Bool → Hp → Prop) : Prop where
  run : ∀ wh pins s, Inv X pins σ H s → wpAny (model X.prog X.w) X.A (isTrue e X.env wh) (TP X pins σ Q) X.xe s
structure tWA (X : Cx) (es : List Expr) (σ : L2.St) (H : Hp) (Q : List V → Hp → Prop) : Prop where
  run : ∀ pos pins s, Inv X pins σ H s → wpAny (model X.prog X.w) X.A (spliced (backTo pos (starEach es X.env))) (AP X pins σ Q) X.xe s
structure tWS (X : Cx) (st : Stmt) (D : Ends) (σ : L2.St) (H : Hp) : Prop where
  run : ∀ pins s, Inv X pins σ H s → wpAny (model X.prog X.w) X.A (exec st X.env) (SP X pins D) X.xe s
structure tWB (X : Cx) (sts : List Stmt) (D : Ends) (σ : L2.St) (H : Hp) : Prop where
  run : ∀ pins s, Inv X pins σ H s → wpAny (model X.prog X.w) X.A (execs sts X.env) (SP X pins D) X.xe s
section
variable {X : Cx}
theorem peW {e : Expr} : PE X e (tW X e) := ⟨fun pins s _ _ _ I h => h.run pins s I⟩
theorem ptW {e : Expr} : PT X e (tWT X e) := ⟨fun pins s _ _ _ I h => h.run pins s I⟩
theorem pwW {e : Expr} : PW X e (tWP X e) := ⟨fun wh pins s _ _ _ I h => h.run wh pins s I⟩
theorem paW {es : List Expr} : PA X es (tWA X es) := ⟨fun pos pins s _ _ _ I h => h.run pos pins s I⟩
theorem psW {st : Stmt} : PS X st (tWS X st) := ⟨fun pins s _ _ _ I h => h.run pins s I⟩
theorem pbW {sts : List Stmt} : PSs X sts (tWB X sts) := ⟨fun pins s _ _ _ I h => h.run pins s I⟩
theorem toW {e : Expr} {t : TE} {σ : L2.St} {H : Hp} {Q : VK} (p : PE X e t) (h : t σ H Q) : tW X e σ H Q := ⟨fun pins s I => p.run pins s σ H Q I h⟩
theorem toWT {e : Expr} {t : TT} {σ : L2.St} {H : Hp} {Q : Bool → Hp → Prop} (p : PT X e t) (h : t σ H Q) : tWT X e σ H Q := ⟨fun pins s I => p.run pins s σ H Q I h⟩
theorem toWP {e : Expr} {t : TT} {σ : L2.St} {H : Hp} {Q : Bool → Hp → Prop} (p : PW X e t) (h : t σ H Q) : tWP X e σ H Q := ⟨fun wh pins s I => p.run wh pins s σ H Q I h⟩
theorem toWA {es : List Expr} {t : TA} {σ : L2.St} {H : Hp} {Q : List V → Hp → Prop} (p : PA X es t) (h : t σ H Q) : tWA X es σ H Q := ⟨fun pos pins s I => p.run pos pins s σ H Q I h⟩
theorem toWS {st : Stmt} {t : TS} {σ : L2.St} {H : Hp} {D : Ends} (p : PS X st t) (h : t D σ H) : tWS X st D σ H := ⟨fun pins s I => p.run pins s σ H D I h⟩
theorem toWB {sts : List Stmt} {t : TS} {σ : L2.St} {H : Hp} {D : Ends} (p : PSs X sts t) (h : t D σ H) : tWB X sts D σ H := ⟨fun pins s I => p.run pins s σ H D I h⟩
end

/-- what an expression hands back -/
def ResR (F : FC) (ρ : List Sl) (G H : Hp) (σ : L2.St) : Sl → V → Prop
  | .un, _ => False
  | .fz d, v => Rp F.K G d v
  | .vv u, v => v = u
  | .pv P, v => P.p G v
  | .ow io ds, v => io = false ∧ ∃ p xs, v = .ref p ∧ F.H0 p = none ∧ G p = none ∧ H p = some (.lst xs) ∧ Rps F.K G ds xs ∧ NoOwn ρ σ p
  | .op P, v => ∃ p o, v = .ref p ∧ F.H0 p = none ∧ G p = none ∧ H p = some o ∧ P.p G p o ∧ NoOwn ρ σ p
def FsR (K : PySem.W.Frag) (G : Hp) : List (Str × PyData) → List (Str × V) → Prop
  | [], fv => fv = []
  | (f, d) :: fs, fv => ∃ v r, fv = (f, v) :: r ∧ Rp K G d v ∧ FsR K G fs r
/-- a new exception's fields, not frozen -/
def XdN (H0 G H : Hp) (dd : Addr) (fv : List (Str × V)) : Prop := H dd = some (.xd fv) ∧ H0 dd = none ∧ G dd = none
def ArgV (K : PySem.W.Frag) (G : Hp) : List Sl → List V → Prop
  | [], vs => vs = []
  | s :: ss, vs => ∃ v r, vs = v :: r ∧ (match s with | .fz d => Rp K G d v | .vv u => v = u | .pv P => P.p G v | _ => False) ∧ ArgV K G ss r
theorem ArgV.mono {K : PySem.W.Frag} {G G' : Hp} (e : Same G G') : ∀ {ss : List Sl} {vs : List V}, ArgV K G ss vs → ArgV K G' ss vs
  | [], vs, h => h
  | s :: ss, vs, h => by
    obtain ⟨v, r, h1, h2, h3⟩ := h
    refine ⟨v, r, h1, ?_, ArgV.mono e h3⟩
    cases s with
    | fz d => exact Rp.mono e d v h2
    | vv u => exact h2
    | pv P => exact P.mono _ _ v e h2
    | un => exact h2
    | ow io ds => exact h2
    | op P => exact h2

/-- e hands back s, the slots are then ρ' -/
def EvS (X : Cx) (F : FC) (e : Expr) (ρ : List Sl) (s : Sl) (ρ' : List Sl) : Prop := ∀ (G : Hp) (σ : L2.St) (H : Hp) (Q : VK), SR F ρ G σ H →
  (∀ v G' H', SR F ρ' G' σ H' → Same G G' → ResR F ρ' G' H' σ s v → Q v H') → tW X e σ H Q
/-- e raises -/
def EvX (X : Cx) (F : FC) (e : Expr) (ρ : List Sl) (C : Addr) (fs : List (Str × PyData)) (ρ' : List Sl) : Prop := ∀ (G : Hp) (σ : L2.St) (H : Hp) (Q : VK) (W : WX), SR F ρ G σ H → Takes X W →
  (∀ dd fv G' H', SR F ρ' G' σ H' → Same G G' → XdN F.H0 G' H' dd fv → FsR F.K G' fs fv → W (.ref C) (some dd) σ H') → tW X e σ H Q
def EvT (X : Cx) (F : FC) (e : Expr) (ρ : List Sl) (b : Bool) (ρ' : List Sl) : Prop := ∀ (G : Hp) (σ : L2.St) (H : Hp) (Q : Bool → Hp → Prop), SR F ρ G σ H →
  (∀ G' H', SR F ρ' G' σ H' → Same G G' → Q b H') → tWT X e σ H Q
def EvP (X : Cx) (F : FC) (e : Expr) (ρ : List Sl) (b : Bool) (ρ' : List Sl) : Prop := ∀ (G : Hp) (σ : L2.St) (H : Hp) (Q : Bool → Hp → Prop), SR F ρ G σ H →
  (∀ G' H', SR F ρ' G' σ H' → Same G G' → Q b H') → tWP X e σ H Q
def EvA (X : Cx) (F : FC) (es : List Expr) (ρ : List Sl) (ss : List Sl) (ρ' : List Sl) : Prop := ∀ (G : Hp) (σ : L2.St) (H : Hp) (Q : List V → Hp → Prop), SR F ρ G σ H →
  (∀ vs G' H', SR F ρ' G' σ H' → Same G G' → ArgV F.K G' ss vs → Q vs H') → tWA X es σ H Q

abbrev EvD (X : Cx) (F : FC) (e : Expr) (ρ : List Sl) (d : PyData) (ρ' : List Sl) : Prop := EvS X F e ρ (.fz d) ρ'

section
variable {X : Cx} {F : FC} {ρ ρ1 ρ2 ρ3 : List Sl} {a b c e : Expr} {es : List Expr} {pos pos' : Pos} {i j k : Int} {d d1 d2 : PyData} {ds : List PyData}
/-- a fresh list is frozen -/
theorem ev_fz (h : EvS X F e ρ (.ow false ds) ρ1) : EvD X F e ρ (.list ds) ρ1 := fun G σ H Q s k => h G σ H Q s fun v G' H' s' g' ⟨_, p, xs, e1, h0, hG, hH, r, hn⟩ => by
  subst e1
  have m : Same G' (upd G' p (.lst xs)) := same_upd hG
  refine k _ (upd G' p (.lst xs)) H' (s'.freeze hH (fun ps z => by cases z) h0 hG hn) (g'.trans m) ?_
  show Rp _ _ (.list ds) _
  simp only [Rp]
  exact ⟨p, xs, rfl, upd_same, Rps.mono m ds xs r⟩

theorem ev_var (n : Nat) {x : Str} (h : ρ[n]? = some (.fz d)) (hN : X.N[n]? = some x := by rfl) (hv : Vis X.env.scope x := by first | exact Or.inl rfl | exact Or.inr (Or.inl rfl) | exact Or.inr (Or.inr rfl)) (hd : (x == ("__debug__" : Str)) = false := by decide)
    (hcd : (x == ("__classdict__" : Str)) = false := by decide) : EvD X F (.Name x pos) ρ d ρ := fun G σ H Q s k => by
  obtain ⟨v, h1, h2⟩ := s.sl.fz n d h
  exact toW (pe_var hN hv hd hcd) ⟨v, h1, k v G H s (Same.refl _) h2⟩
theorem ev_raw (n : Nat) {x : Str} {v : V} (h : ρ[n]? = some (.vv v)) (hN : X.N[n]? = some x := by rfl) (hv : Vis X.env.scope x := by first | exact Or.inl rfl | exact Or.inr (Or.inl rfl) | exact Or.inr (Or.inr rfl)) (hd : (x == ("__debug__" : Str)) = false := by decide)
    (hcd : (x == ("__classdict__" : Str)) = false := by decide) : EvS X F (.Name x pos) ρ (.vv v) ρ := fun G σ H Q s k => toW (pe_var hN hv hd hcd) ⟨v, s.sl.vv n v h, k v G H s (Same.refl _) rfl⟩
theorem ev_pv (n : Nat) {x : Str} {P : Pv} (h : ρ[n]? = some (.pv P)) (hN : X.N[n]? = some x := by rfl) (hv : Vis X.env.scope x := by first | exact Or.inl rfl | exact Or.inr (Or.inl rfl) | exact Or.inr (Or.inr rfl)) (hd : (x == ("__debug__" : Str)) = false := by decide)
    (hcd : (x == ("__classdict__" : Str)) = false := by decide) : EvS X F (.Name x pos) ρ (.pv P) ρ := fun G σ H Q s k => by
  obtain ⟨v, h1, h2⟩ := s.sl.pv n P h
  exact toW (pe_var hN hv hd hcd) ⟨v, h1, k v G H s (Same.refl _) h2⟩
/-- an own list is handed on: the slot is empty behind -/
theorem ev_own (n : Nat) {x : Str} (h : ρ[n]? = some (.ow false ds)) (hN : X.N[n]? = some x := by rfl) (hv : Vis X.env.scope x := by first | exact Or.inl rfl | exact Or.inr (Or.inl rfl) | exact Or.inr (Or.inr rfl)) (hd : (x == ("__debug__" : Str)) = false := by decide)
    (hcd : (x == ("__classdict__" : Str)) = false := by decide) : EvS X F (.Name x pos) ρ (.ow false ds) (ρ.set n .un) := fun G σ H Q s k => by
  have hl : n < ρ.length := (List.getElem?_eq_some_iff.mp h).1
  obtain ⟨a, xs, h1, h2, h3, h4⟩ := s.sl.ow n false ds h
  refine toW (pe_var hN hv hd hcd) ⟨_, h1, k _ G H ?_ (Same.refl _) ⟨rfl, a, xs, rfl, s.fr n _ a h rfl h1, h2, h3, h4, s.noOwn h rfl h1⟩⟩
  exact s.forget hl
theorem ev_int {n : Int} {q : Nat} : EvD X F (.Constant (.int n) q pos) ρ (.int n) ρ := fun G σ H Q s k => toW pe_int (k _ G H s (Same.refl _) (by simp [ResR, Rp]))
theorem ev_bl {x : Bool} {q : Nat} : EvD X F (.Constant (.bool x) q pos) ρ (.bool x) ρ := fun G σ H Q s k => toW pe_bl (k _ G H s (Same.refl _) (by simp [ResR, Rp]))
theorem ev_non {q : Nat} : EvD X F (.Constant .none q pos) ρ .none ρ := fun G σ H Q s k => toW pe_non (k _ G H s (Same.refl _) (by simp [ResR, Rp]))
theorem ev_str {x : Str} {q : Nat} : EvD X F (.Constant (.str x) q pos) ρ (.str x) ρ := fun G σ H Q s k => toW pe_str (k _ G H s (Same.refl _) (by simp [ResR, Rp]))
/-- a constant of the module -/
theorem ev_glob {x : Str} {v : V} {u : Value} (hm : X.mg x = some u) (r : RelV v u) (q : ∀ G, Rp F.K G d v) (hg : Gl X x := by rfl) (hd : (x == ("__debug__" : Str)) = false := by decide) : EvD X F (.Name x pos) ρ d ρ :=
  fun G σ H Q s k => toW (pe_glob hg hm r hd) (k v G H s (Same.refl _) (q G))
/-- a class, a def of the module -/
theorem ev_globV {x : Str} {v : V} {u : Value} (hm : X.mg x = some u) (r : RelV v u) (hg : Gl X x := by rfl) (hd : (x == ("__debug__" : Str)) = false := by decide) : EvS X F (.Name x pos) ρ (.vv v) ρ :=
  fun G σ H Q s k => toW (pe_glob hg hm r hd) (k v G H s (Same.refl _) rfl)
theorem ev_bltnV {x : Str} {v : V} {u : Value} (hm : X.mg x = none) (hv : bootBuiltins x = some u) (r : RelV v u) (hg : Gl X x := by rfl) (hn : x ≠ "__name__" := by decide) (hd : (x == ("__debug__" : Str)) = false := by decide) : EvS X F (.Name x pos) ρ (.vv v) ρ :=
  fun G σ H Q s k => toW (pe_bltn hg hm hv r hn hd) (k v G H s (Same.refl _) rfl)

theorem res_int {G H : Hp} {σ : L2.St} {n : Int} : ResR F ρ G H σ (.fz (.int n)) (.int n) := by simp [ResR, Rp]
theorem res_bl {G H : Hp} {σ : L2.St} {n : Bool} : ResR F ρ G H σ (.fz (.bool n)) (.bl n) := by simp [ResR, Rp]
theorem res_str {G H : Hp} {σ : L2.St} {n : Str} : ResR F ρ G H σ (.fz (.str n)) (.str n) := by simp [ResR, Rp]
theorem res_non {G H : Hp} {σ : L2.St} : ResR F ρ G H σ (.fz .none) .non := by simp [ResR, Rp]
theorem ev_op {op : Operator} {C : Int → Int → Prop} {g : Int → Int → V} (ho : OpR X (binaryOp op) (rI C g)) (ha : EvD X F a ρ (.int i) ρ1) (hb : EvD X F b ρ1 (.int j) ρ2) (hc : C i j) (hg : ∀ G, Rp F.K G d (g i j)) : EvD X F (.BinOp a op b pos) ρ d ρ2 :=
  fun G σ H Q s q => toW (pe_op ho peW peW) (ha G σ H _ s fun v G1 H1 s1 g1 r1 => by
    simp only [ResR, Rp] at r1; subst r1
    exact hb G1 σ H1 _ s1 fun v G2 H2 s2 g2 r2 => by
      simp only [ResR, Rp] at r2; subst r2
      exact ⟨i, j, rfl, rfl, hc, q _ G2 H2 s2 (g1.trans g2) (hg G2)⟩)
theorem ev_op0 {op : Operator} {g : Int → Int → V} (ho : OpR X (binaryOp op) (rI0 g)) (ha : EvD X F a ρ (.int i) ρ1) (hb : EvD X F b ρ1 (.int j) ρ2) (hg : ∀ G, Rp F.K G d (g i j)) : EvD X F (.BinOp a op b pos) ρ d ρ2 :=
  fun G σ H Q s q => toW (pe_op ho peW peW) (ha G σ H _ s fun v G1 H1 s1 g1 r1 => by
    simp only [ResR, Rp] at r1; subst r1
    exact hb G1 σ H1 _ s1 fun v G2 H2 s2 g2 r2 => by
      simp only [ResR, Rp] at r2; subst r2
      exact ⟨i, j, rfl, rfl, q _ G2 H2 s2 (g1.trans g2) (hg G2)⟩)
theorem rp_int {K : PySem.W.Frag} (n : Int) (G : Hp) : Rp K G (.int n) (.int n) := by simp [Rp]
theorem rp_bl {K : PySem.W.Frag} (n : Bool) (G : Hp) : Rp K G (.bool n) (.bl n) := by simp [Rp]
theorem rp_str {K : PySem.W.Frag} (n : Str) (G : Hp) : Rp K G (.str n) (.str n) := by simp [Rp]
theorem rp_non {K : PySem.W.Frag} (G : Hp) : Rp K G .none .non := by simp [Rp]
theorem ev_add (ha : EvD X F a ρ (.int i) ρ1) (hb : EvD X F b ρ1 (.int j) ρ2) : EvD X F (.BinOp a .Add b pos) ρ (.int (i + j)) ρ2 := ev_op0 op_add ha hb (rp_int _)
theorem ev_sub (ha : EvD X F a ρ (.int i) ρ1) (hb : EvD X F b ρ1 (.int j) ρ2) : EvD X F (.BinOp a .Sub b pos) ρ (.int (i - j)) ρ2 := ev_op0 op_sub ha hb (rp_int _)
theorem ev_neg (ha : EvD X F a ρ (.int i) ρ1) : EvD X F (.UnaryOp .USub a pos) ρ (.int (-i)) ρ1 :=
  fun G σ H Q s q => toW (pe_un un_neg peW) (ha G σ H _ s fun v G1 H1 s1 g1 r1 => by
    simp only [ResR, Rp] at r1; subst r1
    exact ⟨i, rfl, q _ G1 H1 s1 g1 res_int⟩)

theorem ev_cmpI {op : CmpOp} {g : Int → Int → Bool} (ho : OpR X (compareOp op) (rI0 fun i j => .bl (g i j))) (ha : EvD X F a ρ (.int i) ρ1) (hb : EvD X F b ρ1 (.int j) ρ2) (hm : behindInMarks op b = false) : EvD X F (.Compare a [op] [b] pos) ρ (.bool (g i j)) ρ2 :=
  fun G σ H Q s q => toW (pe_cmpR ho peW peW hm) (ha G σ H _ s fun v G1 H1 s1 g1 r1 => by
    simp only [ResR, Rp] at r1; subst r1
    exact hb G1 σ H1 _ s1 fun v G2 H2 s2 g2 r2 => by
      simp only [ResR, Rp] at r2; subst r2
      exact ⟨i, j, rfl, rfl, q _ G2 H2 s2 (g1.trans g2) res_bl⟩)
theorem evt_cmpI {op : CmpOp} {g : Int → Int → Bool} (ho : OpR X (compareOp op) (rI0 fun i j => .bl (g i j))) (ha : EvD X F a ρ (.int i) ρ1) (hb : EvD X F b ρ1 (.int j) ρ2) (hm : behindInMarks op b = false) : EvT X F (.Compare a [op] [b] pos) ρ (g i j) ρ2 :=
  fun G σ H Q s q => toWT (pt_cmpR ho peW peW hm) (ha G σ H _ s fun v G1 H1 s1 g1 r1 => by
    simp only [ResR, Rp] at r1; subst r1
    exact hb G1 σ H1 _ s1 fun v G2 H2 s2 g2 r2 => by
      simp only [ResR, Rp] at r2; subst r2
      exact ⟨i, j, rfl, rfl, _, rfl, q G2 H2 s2 (g1.trans g2)⟩)
theorem ev_lt (ha : EvD X F a ρ (.int i) ρ1) (hb : EvD X F b ρ1 (.int j) ρ2) : EvD X F (.Compare a [.Lt] [b] pos) ρ (.bool (decide (i < j))) ρ2 := ev_cmpI op_lt ha hb (nomark _)
theorem ev_le (ha : EvD X F a ρ (.int i) ρ1) (hb : EvD X F b ρ1 (.int j) ρ2) : EvD X F (.Compare a [.LtE] [b] pos) ρ (.bool (decide (i ≤ j))) ρ2 := ev_cmpI op_le ha hb (nomark _)
theorem ev_gt (ha : EvD X F a ρ (.int i) ρ1) (hb : EvD X F b ρ1 (.int j) ρ2) : EvD X F (.Compare a [.Gt] [b] pos) ρ (.bool (decide (j < i))) ρ2 := ev_cmpI op_gt ha hb (nomark _)
theorem ev_ge (ha : EvD X F a ρ (.int i) ρ1) (hb : EvD X F b ρ1 (.int j) ρ2) : EvD X F (.Compare a [.GtE] [b] pos) ρ (.bool (decide (j ≤ i))) ρ2 := ev_cmpI op_ge ha hb (nomark _)
theorem evt_lt (ha : EvD X F a ρ (.int i) ρ1) (hb : EvD X F b ρ1 (.int j) ρ2) : EvT X F (.Compare a [.Lt] [b] pos) ρ (decide (i < j)) ρ2 := evt_cmpI op_lt ha hb (nomark _)
theorem evt_le (ha : EvD X F a ρ (.int i) ρ1) (hb : EvD X F b ρ1 (.int j) ρ2) : EvT X F (.Compare a [.LtE] [b] pos) ρ (decide (i ≤ j)) ρ2 := evt_cmpI op_le ha hb (nomark _)
theorem evt_gt (ha : EvD X F a ρ (.int i) ρ1) (hb : EvD X F b ρ1 (.int j) ρ2) : EvT X F (.Compare a [.Gt] [b] pos) ρ (decide (j < i)) ρ2 := evt_cmpI op_gt ha hb (nomark _)
theorem evt_ge (ha : EvD X F a ρ (.int i) ρ1) (hb : EvD X F b ρ1 (.int j) ρ2) : EvT X F (.Compare a [.GtE] [b] pos) ρ (decide (j ≤ i)) ρ2 := evt_cmpI op_ge ha hb (nomark _)
/-- == and != of data -/
theorem evt_eqD (hu : X.A.units + 64 < cLine) (ha : EvD X F a ρ d1 ρ1) (hb : EvD X F b ρ1 d2 ρ2) (h1 : SeqAt.shaped d1 = true) (h2 : SeqAt.shaped d2 = true) (hK : X.K = F.K := by first | rfl | assumption) : EvT X F (.Compare a [.Eq] [b] pos) ρ (PyData.eqv d1 d2) ρ2 :=
  fun G σ H Q s q => toWT (pt_cmpR (op_eqD hu) peW peW (nomark _)) (ha G σ H _ s fun v G1 H1 s1 g1 r1 => hb G1 σ H1 _ s1 fun u G2 H2 s2 g2 r2 =>
    ⟨d1, d2, by rw [hK]; exact Rp.dp s2.gh _ _ (Rp.mono g2 _ _ r1), by rw [hK]; exact Rp.dp s2.gh _ _ r2, h1, h2, _, rfl, q G2 H2 s2 (g1.trans g2)⟩)
theorem evt_neD (hu : X.A.units + 64 < cLine) (ha : EvD X F a ρ d1 ρ1) (hb : EvD X F b ρ1 d2 ρ2) (h1 : SeqAt.shaped d1 = true) (h2 : SeqAt.shaped d2 = true) (hK : X.K = F.K := by first | rfl | assumption) : EvT X F (.Compare a [.NotEq] [b] pos) ρ (!PyData.eqv d1 d2) ρ2 :=
  fun G σ H Q s q => toWT (pt_cmpR (op_neD hu) peW peW (nomark _)) (ha G σ H _ s fun v G1 H1 s1 g1 r1 => hb G1 σ H1 _ s1 fun u G2 H2 s2 g2 r2 =>
    ⟨d1, d2, by rw [hK]; exact Rp.dp s2.gh _ _ (Rp.mono g2 _ _ r1), by rw [hK]; exact Rp.dp s2.gh _ _ r2, h1, h2, _, rfl, q G2 H2 s2 (g1.trans g2)⟩)
theorem ev_eqD (hu : X.A.units + 64 < cLine) (ha : EvD X F a ρ d1 ρ1) (hb : EvD X F b ρ1 d2 ρ2) (h1 : SeqAt.shaped d1 = true) (h2 : SeqAt.shaped d2 = true) (hK : X.K = F.K := by first | rfl | assumption) : EvD X F (.Compare a [.Eq] [b] pos) ρ (.bool (PyData.eqv d1 d2)) ρ2 :=
  fun G σ H Q s q => toW (pe_cmpR (op_eqD hu) peW peW (nomark _)) (ha G σ H _ s fun v G1 H1 s1 g1 r1 => hb G1 σ H1 _ s1 fun u G2 H2 s2 g2 r2 =>
    ⟨d1, d2, by rw [hK]; exact Rp.dp s2.gh _ _ (Rp.mono g2 _ _ r1), by rw [hK]; exact Rp.dp s2.gh _ _ r2, h1, h2, q _ G2 H2 s2 (g1.trans g2) res_bl⟩)
theorem ev_neD (hu : X.A.units + 64 < cLine) (ha : EvD X F a ρ d1 ρ1) (hb : EvD X F b ρ1 d2 ρ2) (h1 : SeqAt.shaped d1 = true) (h2 : SeqAt.shaped d2 = true) (hK : X.K = F.K := by first | rfl | assumption) : EvD X F (.Compare a [.NotEq] [b] pos) ρ (.bool (!PyData.eqv d1 d2)) ρ2 :=
  fun G σ H Q s q => toW (pe_cmpR (op_neD hu) peW peW (nomark _)) (ha G σ H _ s fun v G1 H1 s1 g1 r1 => hb G1 σ H1 _ s1 fun u G2 H2 s2 g2 r2 =>
    ⟨d1, d2, by rw [hK]; exact Rp.dp s2.gh _ _ (Rp.mono g2 _ _ r1), by rw [hK]; exact Rp.dp s2.gh _ _ r2, h1, h2, q _ G2 H2 s2 (g1.trans g2) res_bl⟩)
/-- is None -/
def isNone : PyData → Bool
  | .none => true
  | _ => false
theorem isNone_rp {K : PySem.W.Frag} {G : Hp} : ∀ {d : PyData} {v : V}, Rp K G d v → decide (v = .non) = isNone d
  | .none, v, h => by simp only [Rp] at h; subst h; rfl
  | .bool b, v, h => by simp only [Rp] at h; subst h; rfl
  | .int b, v, h => by simp only [Rp] at h; subst h; rfl
  | .str b, v, h => by simp only [Rp] at h; subst h; rfl
  | .list b, v, h => by simp only [Rp] at h; obtain ⟨a, xs, rfl, _⟩ := h; rfl
  | .tuple b, v, h => by simp only [Rp] at h; obtain ⟨a, xs, rfl, _⟩ := h; rfl
  | .dict b, v, h => by simp [Rp] at h
theorem ev_isN {q : Nat} (ha : EvD X F a ρ d ρ1) : EvD X F (.Compare a [.Is] [.Constant .none q pos'] pos) ρ (.bool (isNone d)) ρ1 :=
  fun G σ H Q s k => toW (pe_cmp (pc_isN peW)) (ha G σ H _ s fun v G1 H1 s1 g1 r1 => k _ G1 H1 s1 g1 (by simp only [ResR, Rp]; rw [isNone_rp r1]))
theorem ev_notN {q : Nat} (ha : EvD X F a ρ d ρ1) : EvD X F (.Compare a [.IsNot] [.Constant .none q pos'] pos) ρ (.bool (!isNone d)) ρ1 :=
  fun G σ H Q s k => toW (pe_cmp (pc_notN peW)) (ha G σ H _ s fun v G1 H1 s1 g1 r1 => k _ G1 H1 s1 g1 (by simp only [ResR, Rp]; rw [isNone_rp r1]))
theorem evt_isN {q : Nat} (ha : EvD X F a ρ d ρ1) : EvT X F (.Compare a [.Is] [.Constant .none q pos'] pos) ρ (isNone d) ρ1 :=
  fun G σ H Q s k => toWT (pt_cmp (pc_isN peW)) (ha G σ H _ s fun v G1 H1 s1 g1 r1 => ⟨_, rfl, by rw [isNone_rp r1]; exact k G1 H1 s1 g1⟩)
theorem evt_notN {q : Nat} (ha : EvD X F a ρ d ρ1) : EvT X F (.Compare a [.IsNot] [.Constant .none q pos'] pos) ρ (!isNone d) ρ1 :=
  fun G σ H Q s k => toWT (pt_cmp (pc_notN peW)) (ha G σ H _ s fun v G1 H1 s1 g1 r1 => ⟨_, rfl, by rw [isNone_rp r1]; exact k G1 H1 s1 g1⟩)

theorem evt_val {x : Bool} (h : EvD X F e ρ (.bool x) ρ1) (he : ∀ whole, isTrue e X.env whole = (do let v ← whole; standAt e.pos; holding [v] (truthy v)) := by intro _; rfl) : EvT X F e ρ x ρ1 :=
  fun G σ H Q s k => toWT (pt_val peW he) (h G σ H _ s fun v G1 H1 s1 g1 r1 => by
    simp only [ResR, Rp] at r1; subst r1
    exact ⟨x, rfl, k G1 H1 s1 g1⟩)
theorem evt_not {x : Bool} (h : EvT X F a ρ x ρ1) : EvT X F (.UnaryOp .Not a pos) ρ (!x) ρ1 := fun G σ H Q s k => toWT (pt_not ptW) (h G σ H _ s fun G1 H1 s1 g1 => k G1 H1 s1 g1)
theorem evt_p {x : Bool} (h : EvP X F e ρ x ρ1) : EvT X F e ρ x ρ1 := fun G σ H Q s k => toWT (PW.pt pwW) (h G σ H _ s fun G1 H1 s1 g1 => k G1 H1 s1 g1)
theorem evp_and1 {x : Bool} (h : EvT X F a ρ x ρ1) : EvP X F (.BoolOp .And [a] pos) ρ x ρ1 := fun G σ H Q s k => toWP (pw_and1 ptW) (h G σ H _ s fun G1 H1 s1 g1 => k G1 H1 s1 g1)
theorem evp_or1 {x : Bool} (h : EvT X F a ρ x ρ1) : EvP X F (.BoolOp .Or [a] pos) ρ x ρ1 := fun G σ H Q s k => toWP (pw_or1 ptW) (h G σ H _ s fun G1 H1 s1 g1 => k G1 H1 s1 g1)
theorem evp_andT {y : Bool} (h : EvT X F a ρ true ρ1) (t : EvP X F (.BoolOp .And (b :: es) pos) ρ1 y ρ2) : EvP X F (.BoolOp .And (a :: b :: es) pos) ρ y ρ2 :=
  fun G σ H Q s k => toWP (pw_and ptW pwW) (h G σ H _ s fun G1 H1 s1 g1 => t G1 σ H1 _ s1 fun G2 H2 s2 g2 => k G2 H2 s2 (g1.trans g2))
theorem evp_andF (h : EvT X F a ρ false ρ1) : EvP X F (.BoolOp .And (a :: b :: es) pos) ρ false ρ1 :=
  fun G σ H Q s k => toWP (pw_and ptW pwW) (h G σ H _ s fun G1 H1 s1 g1 => by rw [if_neg Bool.false_ne_true]; exact k G1 H1 s1 g1)
theorem evp_and {x y : Bool} (h : EvT X F a ρ x ρ) (t : x = true → EvP X F (.BoolOp .And (b :: es) pos) ρ y ρ) : EvP X F (.BoolOp .And (a :: b :: es) pos) ρ (x && y) ρ := by
  cases x with
  | true => exact evp_andT h (t rfl)
  | false => exact evp_andF h
theorem evp_orF {y : Bool} (h : EvT X F a ρ false ρ1) (t : EvP X F (.BoolOp .Or (b :: es) pos) ρ1 y ρ2) : EvP X F (.BoolOp .Or (a :: b :: es) pos) ρ y ρ2 :=
  fun G σ H Q s k => toWP (pw_or ptW pwW) (h G σ H _ s fun G1 H1 s1 g1 => by
    rw [if_neg Bool.false_ne_true]
    exact t G1 σ H1 _ s1 fun G2 H2 s2 g2 => k G2 H2 s2 (g1.trans g2))
theorem evp_orT (h : EvT X F a ρ true ρ1) : EvP X F (.BoolOp .Or (a :: b :: es) pos) ρ true ρ1 :=
  fun G σ H Q s k => toWP (pw_or ptW pwW) (h G σ H _ s fun G1 H1 s1 g1 => k G1 H1 s1 g1)
theorem evp_or {x y : Bool} (h : EvT X F a ρ x ρ) (t : x = false → EvP X F (.BoolOp .Or (b :: es) pos) ρ y ρ) : EvP X F (.BoolOp .Or (a :: b :: es) pos) ρ (x || y) ρ := by
  cases x with
  | true => exact evp_orT h
  | false => exact evp_orF h (t rfl)
/-- and, or, not as values of bools -/
theorem ev_one {op : BoolOp} (h : EvD X F a ρ d ρ1) : EvD X F (.BoolOp op [a] pos) ρ d ρ1 := fun G σ H Q s k => toW (pe_one peW) (h G σ H _ s k)
theorem ev_andT {d : PyData} (h : EvD X F a ρ (.bool true) ρ1) (t : EvD X F (.BoolOp .And (b :: es) pos) ρ1 d ρ2) : EvD X F (.BoolOp .And (a :: b :: es) pos) ρ d ρ2 :=
  fun G σ H Q s k => toW (pe_and peW peW) (h G σ H _ s fun v G1 H1 s1 g1 r1 => by
    simp only [ResR, Rp] at r1; subst r1
    exact ⟨true, rfl, t G1 σ H1 _ s1 fun v G2 H2 s2 g2 r2 => k v G2 H2 s2 (g1.trans g2) r2⟩)
theorem ev_andF (h : EvD X F a ρ (.bool false) ρ1) : EvD X F (.BoolOp .And (a :: b :: es) pos) ρ (.bool false) ρ1 :=
  fun G σ H Q s k => toW (pe_and peW peW) (h G σ H _ s fun v G1 H1 s1 g1 r1 => by
    simp only [ResR, Rp] at r1; subst r1
    refine ⟨false, rfl, ?_⟩
    rw [if_neg Bool.false_ne_true]
    exact k _ G1 H1 s1 g1 res_bl)
theorem ev_and {x y : Bool} (h : EvD X F a ρ (.bool x) ρ) (t : x = true → EvD X F (.BoolOp .And (b :: es) pos) ρ (.bool y) ρ) : EvD X F (.BoolOp .And (a :: b :: es) pos) ρ (.bool (x && y)) ρ := by
  cases x with
  | true => exact ev_andT h (t rfl)
  | false => exact ev_andF h
theorem ev_orF {d : PyData} (h : EvD X F a ρ (.bool false) ρ1) (t : EvD X F (.BoolOp .Or (b :: es) pos) ρ1 d ρ2) : EvD X F (.BoolOp .Or (a :: b :: es) pos) ρ d ρ2 :=
  fun G σ H Q s k => toW (pe_or peW peW) (h G σ H _ s fun v G1 H1 s1 g1 r1 => by
    simp only [ResR, Rp] at r1; subst r1
    refine ⟨false, rfl, ?_⟩
    rw [if_neg Bool.false_ne_true]
    exact t G1 σ H1 _ s1 fun v G2 H2 s2 g2 r2 => k v G2 H2 s2 (g1.trans g2) r2)
theorem ev_orT (h : EvD X F a ρ (.bool true) ρ1) : EvD X F (.BoolOp .Or (a :: b :: es) pos) ρ (.bool true) ρ1 :=
  fun G σ H Q s k => toW (pe_or peW peW) (h G σ H _ s fun v G1 H1 s1 g1 r1 => by
    simp only [ResR, Rp] at r1; subst r1
    exact ⟨true, rfl, k _ G1 H1 s1 g1 res_bl⟩)
theorem ev_or {x y : Bool} (h : EvD X F a ρ (.bool x) ρ) (t : x = false → EvD X F (.BoolOp .Or (b :: es) pos) ρ (.bool y) ρ) : EvD X F (.BoolOp .Or (a :: b :: es) pos) ρ (.bool (x || y)) ρ := by
  cases x with
  | true => exact ev_orT h
  | false => exact ev_orF h (t rfl)
theorem ev_not {x : Bool} (h : EvD X F a ρ (.bool x) ρ1) : EvD X F (.UnaryOp .Not a pos) ρ (.bool (!x)) ρ1 :=
  fun G σ H Q s k => toW (pe_not peW) (h G σ H _ s fun v G1 H1 s1 g1 r1 => by
    simp only [ResR, Rp] at r1; subst r1
    exact ⟨x, rfl, k _ G1 H1 s1 g1 res_bl⟩)
theorem ev_ifT {s : Sl} (hc : EvT X F c ρ true ρ1) (h : EvS X F a ρ1 s ρ2) : EvS X F (.IfExp c a b pos) ρ s ρ2 :=
  fun G σ H Q q k => toW (pe_ifExp ptW peW peW) (hc G σ H _ q fun G1 H1 s1 g1 => h G1 σ H1 _ s1 fun v G2 H2 s2 g2 r2 => k v G2 H2 s2 (g1.trans g2) r2)
theorem ev_ifF {s : Sl} (hc : EvT X F c ρ false ρ1) (h : EvS X F b ρ1 s ρ2) : EvS X F (.IfExp c a b pos) ρ s ρ2 :=
  fun G σ H Q q k => toW (pe_ifExp ptW peW peW) (hc G σ H _ q fun G1 H1 s1 g1 => by
    rw [if_neg Bool.false_ne_true]
    exact h G1 σ H1 _ s1 fun v G2 H2 s2 g2 r2 => k v G2 H2 s2 (g1.trans g2) r2)
theorem ev_if {x : Bool} (hc : EvT X F c ρ x ρ1) (h1 : x = true → EvD X F a ρ1 d1 ρ2) (h2 : x = false → EvD X F b ρ1 d2 ρ2) : EvD X F (.IfExp c a b pos) ρ (if x then d1 else d2) ρ2 := by
  cases x with
  | true => exact ev_ifT hc (h1 rfl)
  | false => exact ev_ifF hc (h2 rfl)

theorem eva_nil : EvA X F [] ρ [] ρ := fun G σ H Q s k => toWA pa_nil (k [] G H s (Same.refl _) rfl)
theorem eva_cons {ss : List Sl} {s0 : Sl} (h : EvS X F e ρ s0 ρ1) (t : EvA X F es ρ1 ss ρ2) (ok : (match s0 with | .fz _ => True | .vv _ => True | .pv _ => True | _ => False) := by trivial)
    (hs : starEach (e :: es) X.env = (false, eval e X.env) :: starEach es X.env := by exact star_cons rfl) : EvA X F (e :: es) ρ (s0 :: ss) ρ2 :=
  fun G σ H Q s k => toWA (pa_cons peW paW hs) (h G σ H _ s fun v G1 H1 s1 g1 r1 => t G1 σ H1 _ s1 fun vs G2 H2 s2 g2 r2 => k _ G2 H2 s2 (g1.trans g2) ⟨v, vs, rfl, by
    cases s0 with
    | fz d => exact Rp.mono g2 d v r1
    | vv u => exact r1
    | pv P => exact P.mono _ _ v g2 r1
    | un => exact ok
    | op P => exact ok
    | ow io ds => exact ok, r2⟩)
abbrev eva (h : EvD X F e ρ d ρ1) {ss : List Sl} (t : EvA X F es ρ1 ss ρ2) (hs : starEach (e :: es) X.env = (false, eval e X.env) :: starEach es X.env := by exact star_cons rfl) : EvA X F (e :: es) ρ (.fz d :: ss) ρ2 := eva_cons h t trivial hs
def fzs (ds : List PyData) : List Sl := ds.map Sl.fz
theorem ArgV.rps {K : PySem.W.Frag} {G : Hp} : ∀ {ds : List PyData} {vs : List V}, ArgV K G (fzs ds) vs → Rps K G ds vs
  | [], vs, h => by rw [show vs = [] from h]; exact Rps.nil
  | d :: ds, vs, h => by
    obtain ⟨v, r, rfl, h2, h3⟩ := h
    exact Rps.cons h2 (ArgV.rps h3)
theorem ev_tup {x1 : Nat} (h : EvA X F es ρ (fzs ds) ρ1) (hz : ds.length ≤ sizeLine) : EvD X F (.Tuple es x1 pos) ρ (.tuple ds) ρ1 :=
  fun G σ H Q s k => toW (pe_tup paW) (h G σ H _ s fun vs G1 H1 s1 g1 r1 => ⟨by rw [r1.rps.length]; exact hz, fun p hp => by
    have m : Same G1 (upd G1 p (.tup vs)) := same_upd (none_of_same s1.gh hp)
    refine k _ _ _ (s1.lay hp) (g1.trans m) ?_
    show Rp _ _ (.tuple ds) _
    simp only [Rp]
    exact ⟨p, vs, rfl, SqT.of upd_same, Rps.mono m ds vs r1.rps⟩⟩)
/-- a list display, an own list -/
theorem evn_lst (h : EvA X F es ρ (fzs ds) ρ1) (hz : ds.length ≤ sizeLine) : EvS X F (.List es pos) ρ (.ow false ds) ρ1 :=
  fun G σ H Q s k => toW (pe_lst paW) (h G σ H _ s fun vs G1 H1 s1 g1 r1 => ⟨by rw [r1.rps.length]; exact hz, fun p hp =>
    k _ G1 _ (s1.layN hp) g1 ⟨rfl, p, vs, rfl, s1.hd p hp, none_of_same s1.gh hp, upd_same, r1.rps, s1.sl.away hp⟩⟩)
theorem ev_lst (h : EvA X F es ρ (fzs ds) ρ1) (hz : ds.length ≤ sizeLine) : EvD X F (.List es pos) ρ (.list ds) ρ1 := ev_fz (evn_lst h hz)
end
end DL
end
section
set_option maxHeartbeats 4000000
namespace DL
open PySem PySem.Spec PyProof.Rows L2

structure GnOk (P : Program) (w : World) (K : PySem.W.Frag) (mg : Str → Option Value) (base : Heap) (k : Nat) (f : Addr) (fd : FuncData) (ps : List Str) (sp : Sp) : Prop where
  size : ∀ vs H Q E, sp vs H Q E → vs.length = ps.length
  go : ∀ (A : Around) (out : List Env) (s : Shared) (H : Hp) (args : Args) (us : List Value) (vs : List V) (Q : VK) (E : XK), Room k A → A.guards = some [] → Env0 P w K mg base A out s H → BindsTo s fd args (ps.zip us) → Vals vs us → sp vs H Q E →
    codeAny (model P w) A (.call (.ref f) args) (CR (L2.CX P w) out P w H s Q E) s
theorem GnOk.of {P : Program} {w : World} {K : PySem.W.Frag} {mg : Str → Option Value} {base : Heap} {k : Nat} {f : Addr} {fd : FuncData} {ps : List Str} {sp : Sp} (h : FnOk P w K mg base (L2.CX P w) k f fd ps sp) : GnOk P w K mg base k f fd ps sp :=
  ⟨h.len, fun A out s H args us vs Q E hr _ => h.run A out s H args us vs Q E hr⟩
theorem GnOk.mono {P : Program} {w : World} {K : PySem.W.Frag} {mg : Str → Option Value} {base : Heap} {j k : Nat} {f : Addr} {fd : FuncData} {ps : List Str} {sp : Sp} (h : GnOk P w K mg base j f fd ps sp) (l : j ≤ k) : GnOk P w K mg base k f fd ps sp :=
  ⟨h.size, fun A out s H args us vs Q E hr => h.go A out s H args us vs Q E (hr.mono l)⟩

abbrev bcx (P : Program) (w : World) (K : PySem.W.Frag) (mg : Str → Option Value) (base : Heap) (N : List Str) (qual : Str) (scope : Scope) (f : Addr) (cdv : Value) (A : Around) (out : List Env) (s : Shared) (H : Hp) (E : XK) : Cx := cxOf (L2.CX P w) P w K mg base N qual scope f cdv A out s H E

/-- a def by its body, the guards known -/
theorem gn_of {P : Program} {w : World} {K : PySem.W.Frag} {mg : Str → Option Value} {base : Heap} {k : Nat} {x qual : Str} {params : Arguments} {body : List Stmt} {scope : Scope} {dvs : List V} {kws : List (Str × V)} {f : Addr} {fd : FuncData} {N ps : List Str} {sp : Sp}
    (F : FunD K x qual params body scope dvs kws f fd) (S : FnScope N ps scope) (hl : ∀ vs H Q E, sp vs H Q E → vs.length = ps.length)
    (hb : ∀ (cdv : Value) (A : Around) (out : List Env) (s : Shared) (H : Hp) (vs : List V) (Q : VK) (E : XK), Room k (A.deeper (envOfC qual scope s.heap.objs.size f cdv)) → A.guards = some [] → sp vs H Q E →
      tWB (bcx P w K mg base N qual scope f cdv A out s H E) body { nx := fun _ H' => Q .non H', rt := Q } (L2.start N vs) H) : GnOk P w K mg base (k + 1) f fd ps sp := by
  obtain ⟨oc, od, dV, kV, doc, pm, an, cdv, ct, osl, rfl, lk, hcd, _, _⟩ := F.ex
  refine ⟨hl, fun A out s H args us vs Q E room hg e0 binds rv q => ?_⟩
  have hKin : K.In s.heap := PySem.W.Frag.In.keeps e0.mod.kin fun b o z => (e0.bs b o z).1
  have kinds : ∀ y ∈ ps.zip us, scope.names.lookup y.1 = some .local ∨ (scope.names.lookup y.1 = some .cell ∧ ((cellsFrom (s.heap.objs.size + 1) scope.names []).lookup y.1).isSome = true) := by
    rintro ⟨n, v⟩ hy
    cases S.par n (List.of_mem_zip hy).1 with
    | inl z => exact .inl z
    | inr z => exact .inr ⟨z, PySem.W.cellsFrom_some _ _ _ (.inl z)⟩
  refine codeAny_call_function room.depth (hKin _ _ lk) rfl S.co S.gen rfl (PySem.W.codeRec_of hKin hcd) (binds _ _ _ _ ?_)
  refine wpAny_newFunctionEnv_cells S.kind kinds fun env he s1 y => ?_
  subst he
  have nl : s1.heap.NoLimit := (e0.mod.nolimit.keeps fun b o z => (e0.bs b o z).1).keeps y.toInCall.keep
  refine ⟨nl, codeAny_func ?_⟩
  have J := inv_start (CX := L2.CX P w) (E := E) S room.hd e0 (hl _ _ _ _ q) rv y
  refine wpAny_mono ((hb cdv A out s H vs Q E (room.deeper _) hg q).run [] s1 J) (fun fl s' z => ?_) fun _ _ z => z
  cases fl with
  | next =>
    obtain ⟨σ', H', I', q'⟩ := z
    exact ⟨.non, H', I'.os, I'.bare, I'.base, I'.hok, rfl, q'⟩
  | ret u =>
    obtain ⟨v, σ', H', I', r', q'⟩ := z
    exact ⟨v, H', I'.os, I'.bare, I'.base, I'.hok, r', q'⟩
  | brk => obtain ⟨_, _, _, z⟩ := z; exact z.elim
  | cont => obtain ⟨_, _, _, z⟩ := z; exact z.elim

/-- the callee runs -/
theorem run_gn {X : Cx} {k : Nat} {f : Addr} {fd : FuncData} {ps : List Str} {sp : Sp} {W : WX} {pins : List (Addr × Obj)} {σ : L2.St} {H : Hp} {s : Shared} {Q : VK} {us : List Value} {kw : List (Str × Value)} {vs : List V} {ws : List Value} (F : GnOk X.prog X.w X.K X.mg X.base k f fd ps sp) (hr : Room k X.A) (hg : X.A.guards = some []) (tk : Takes X W)
    (I : Inv X pins σ H s) (hb : BindsTo s fd ⟨us, kw⟩ (ps.zip ws)) (r : Vals vs ws) (h : sp vs H Q fun cls d H' => W cls d σ H') : wpAny (model X.prog X.w) X.A (call (.ref f) us kw) (EP X pins σ Q) X.xe s := by
  refine wpAny_call (codeAny_mono (F.go X.A X.stack s H ⟨us, kw⟩ ws vs Q _ hr hg I.env0 hb r h) fun r s' hq => ?_)
  cases r with
  | error e => exact tk e s' (XE.of_call I (fun _ _ _ h => h) hq)
  | ok fl =>
    cases fl with
    | ret u => exact I.after hq
    | next => exact hq.elim
    | brk => exact hq.elim
    | cont => exact hq.elim

inductive Ret where
  | rt (s : Sl) (io : List PyData)
  | ex (C : Addr) (fs : List (Str × PyData)) (io : List PyData)
/-- behind a call -/
structure Post (K : PySem.W.Frag) (G H : Hp) (io : Option Addr) (ds : List PyData) (G' H' : Hp) : Prop where
  same : Same G G'
  gn : ∀ b, G' b ≠ none → G b ≠ none ∨ H b = none
  gh : Same G' H'
  hd : ∀ b, H' b = none → H b = none
  keep : ∀ b o, H b = some o → io ≠ some b → H' b = some o
  out : ∀ a, io = some a → G' a = none ∧ ∃ xs, H' a = some (.lst xs) ∧ Rps K G' ds xs
def ResK (K : PySem.W.Frag) (H G' H' : Hp) : Sl → V → Prop
  | .un, _ => False
  | .fz d, v => Rp K G' d v
  | .vv u, v => v = u
  | .pv P, v => P.p G' v
  | .ow io ds, v => io = false ∧ ∃ p xs, v = .ref p ∧ H p = none ∧ G' p = none ∧ H' p = some (.lst xs) ∧ Rps K G' ds xs
  | .op P, v => ∃ p o, v = .ref p ∧ H p = none ∧ G' p = none ∧ H' p = some o ∧ P.p G' p o
/-- the argument values: the first one may be a list that the def changes -/
structure ArgS (K : PySem.W.Frag) (G H : Hp) (io : Option Addr) (ρ : List Sl) (vs : List V) : Prop where
  sl : SlR K G H (vs.map some) ρ
  fst : ∀ (i : Nat) b ds, ρ[i]? = some (.ow b ds) → b = true ∧ i = 0
  nop : ∀ (i : Nat) P, ρ[i]? ≠ some (.op P)
  ioa : ∀ ds a, ρ[0]? = some (.ow true ds) → vs[0]? = some (.ref a) → io = some a
  gh : Same G H
  ion : ∀ a, io = some a → G a = none ∧ ∃ ds, ρ[0]? = some (.ow true ds) ∧ vs[0]? = some (.ref a)
def RetK (K : PySem.W.Frag) (G H : Hp) (io : Option Addr) (Q : VK) (E : XK) : Ret → Prop
  | .rt s ds => ∀ v G' H', Post K G H io ds G' H' → ResK K H G' H' s v → Q v H'
  | .ex C fs ds => ∀ dd fv G' H', Post K G H io ds G' H' → XdN H G' H' dd fv → FsR K G' fs fv → E (.ref C) (some dd) H'
def SpD (K : PySem.W.Frag) (φ : List Sl → Ret → Prop) : Sp := fun vs H Q E => ∃ ρ r G io, φ ρ r ∧ ArgS K G H io ρ vs ∧ RetK K G H io Q E r

inductive Out where
  | nx (ρ : List Sl)
  | rt (s : Sl) (ρ : List Sl)
  | bk (ρ : List Sl)
  | ct (ρ : List Sl)
  | ex (C : Addr) (fs : List (Str × PyData)) (ρ : List Sl)
def Sat (X : Cx) (F : FC) (G : Hp) (D : Ends) (W : WX) : Out → Prop
  | .nx ρ => ∀ G' σ H, SR F ρ G' σ H → Same G G' → D.nx σ H
  | .rt s ρ => ∀ v G' σ H, SR F ρ G' σ H → Same G G' → ResR F ρ G' H σ s v → D.rt v H
  | .bk ρ => ∀ G' σ H, SR F ρ G' σ H → Same G G' → D.bk σ H
  | .ct ρ => ∀ G' σ H, SR F ρ G' σ H → Same G G' → D.ct σ H
  | .ex C fs ρ => ∀ dd fv G' σ H, SR F ρ G' σ H → Same G G' → XdN F.H0 G' H dd fv → FsR F.K G' fs fv → W (.ref C) (some dd) σ H
def ExS (X : Cx) (F : FC) (st : Stmt) (ρ : List Sl) (R : Out) : Prop := ∀ (G : Hp) (σ : L2.St) (H : Hp) (D : Ends) (W : WX), SR F ρ G σ H → Takes X W → Sat X F G D W R → tWS X st D σ H
def ExB (X : Cx) (F : FC) (sts : List Stmt) (ρ : List Sl) (R : Out) : Prop := ∀ (G : Hp) (σ : L2.St) (H : Hp) (D : Ends) (W : WX), SR F ρ G σ H → Takes X W → Sat X F G D W R → tWB X sts D σ H
theorem Sat.le {X : Cx} {F : FC} {G G1 : Hp} {D : Ends} {W : WX} {R : Out} (e : Same G G1) (h : Sat X F G D W R) : Sat X F G1 D W R := by
  cases R with
  | nx ρ => exact fun G' σ H s g => h G' σ H s (e.trans g)
  | rt s ρ => exact fun v G' σ H q g r => h v G' σ H q (e.trans g) r
  | bk ρ => exact fun G' σ H s g => h G' σ H s (e.trans g)
  | ct ρ => exact fun G' σ H s g => h G' σ H s (e.trans g)
  | ex C fs ρ => exact fun dd fv G' σ H s g a b => h dd fv G' σ H s (e.trans g) a b

/-- what a body's end means for the caller -/
def Fits (ρ0 : List Sl) : Out → Ret → Prop
  | .nx ρ', .rt s io => s = .fz .none ∧ ∀ ds, ρ0[0]? = some (.ow true ds) → ρ'[0]? = some (.ow true io)
  | .rt s ρ', .rt s' io => s = s' ∧ ∀ ds, ρ0[0]? = some (.ow true ds) → ρ'[0]? = some (.ow true io)
  | .ex C fs ρ', .ex C' fs' io => C = C' ∧ fs = fs' ∧ ∀ ds, ρ0[0]? = some (.ow true ds) → ρ'[0]? = some (.ow true io)
  | _, _ => False

/-- the frame's facts of a call -/
def fcOf (K : PySem.W.Frag) (G H : Hp) (io : Option Addr) : FC := ⟨K, G, H, fun b => if io = some b then none else H b, io, [], fun b o h => by
  by_cases e : io = some b
  · rw [if_pos e] at h; cases h
  · rw [if_neg e] at h; exact h⟩
theorem fc_keep {K : PySem.W.Frag} {G H : Hp} {io : Option Addr} {b : Addr} (e : io ≠ some b) : (fcOf K G H io).B b = H b := if_neg e

theorem getElem?_pad {ρ : List Sl} {n i : Nat} {s : Sl} (h : (ρ ++ List.replicate n Sl.un)[i]? = some s) (hs : s ≠ .un) : ρ[i]? = some s := by
  by_cases hi : i < ρ.length
  · rwa [List.getElem?_append_left hi] at h
  · rw [List.getElem?_append_right (by omega), List.getElem?_replicate] at h
    split at h
    · cases h; exact absurd rfl hs
    · cases h
theorem start_get {N : List Str} {vs : List V} {i : Nat} {v : V} (h : vs[i]? = some v) : (L2.start N vs)[i]? = some (some v) := by
  have hi : i < vs.length := (List.getElem?_eq_some_iff.mp h).1
  unfold L2.start
  rw [List.getElem?_append_left (by simpa using hi), List.getElem?_map, h]; rfl
theorem get_start {N : List Str} {vs : List V} {i : Nat} {v : V} (h : (L2.start N vs)[i]? = some (some v)) : vs[i]? = some v := by
  unfold L2.start at h
  by_cases hi : i < vs.length
  · rw [List.getElem?_append_left (by simpa using hi), List.getElem?_map] at h
    cases e : vs[i]? with
    | none => rw [e] at h; cases h
    | some a => rw [e] at h; cases h; rfl
  · rw [List.getElem?_append_right (by simpa using hi), List.getElem?_replicate] at h
    split at h <;> cases h
theorem map_get {vs : List V} {i : Nat} {v : V} : (vs.map some)[i]? = some (some v) ↔ vs[i]? = some v := by
  rw [List.getElem?_map]
  cases vs[i]? <;> simp

/-- the state at a def's entry -/
theorem sr_start {K : PySem.W.Frag} {G H : Hp} {io : Option Addr} {ρ : List Sl} {vs : List V} {N : List Str} (a : ArgS K G H io ρ vs) (hl : vs.length ≤ N.length) : SR (fcOf K G H io) (ρ ++ List.replicate (N.length - ρ.length) .un) G (L2.start N vs) H where
  bh := fun b o h => by
    by_cases e : io = some b
    · have h' : (if io = some b then none else H b) = some o := h
      rw [if_pos e] at h'; cases h'
    · exact (if_neg e).symm.trans h
  hd := fun b h => h
  g0 := Same.refl _
  gn := fun b h => .inl h
  gh := a.gh
  sl := by
    have el : vs.length = ρ.length := by simpa using a.sl.len
    have ownN : ∀ {t : Sl}, t.own = true → t ≠ .un := fun {t} o z => by subst z; cases o
    refine ⟨?_, fun i t h ht => ?_, fun i j t u b h1 h2 o1 o2 h3 h4 => ?_⟩
    · unfold L2.start
      simp only [List.length_append, List.length_map, List.length_replicate]
      omega
    · obtain ⟨v, h1, h2⟩ := a.sl.val i t (getElem?_pad h ht) ht
      exact ⟨v, start_get (map_get.mp h1), h2⟩
    · exact a.sl.dj i j t u b (getElem?_pad h1 (ownN o1)) (getElem?_pad h2 (ownN o2)) o1 o2 (map_get.mpr (get_start h3)) (map_get.mpr (get_start h4))
  fr := fun i t b h ht _ => by
    have h' := getElem?_pad h (fun z => by subst z; cases ht)
    cases t with
    | ow io ds =>
      obtain ⟨rfl, _⟩ := a.fst i _ _ h'
      cases ht
    | op P => exact (a.nop i P h').elim
    | _ => cases ht
  io := fun i ds b h e => by
    have h' := getElem?_pad h (by simp)
    obtain ⟨_, e0⟩ := a.fst i _ _ h'
    subst e0
    have q := a.ioa ds b h' (get_start e)
    exact ⟨q, if_pos q⟩
  tb := fun q hq => absurd (show q ∈ ([] : List (Addr × Str)) from hq) (by simp)
  tg := fun q hq => absurd (show q ∈ ([] : List (Addr × Str)) from hq) (by simp)
  tB := fun q hq => absurd (show q ∈ ([] : List (Addr × Str)) from hq) (by simp)

/-- THE RULE: a def by its body over data -/
theorem gn_data {P : Program} {w : World} {K : PySem.W.Frag} {mg : Str → Option Value} {base : Heap} {k : Nat} {x qual : Str} {params : Arguments} {body : List Stmt} {scope : Scope} {dvs : List V} {kws : List (Str × V)} {f : Addr} {fd : FuncData} {N ps : List Str} {φ : List Sl → Ret → Prop}
    (F : FunD K x qual params body scope dvs kws f fd) (S : FnScope N ps scope) (hl : ∀ ρ r, φ ρ r → ρ.length = ps.length)
    (hb : ∀ (cdv : Value) (A : Around) (out : List Env) (s : Shared) (H : Hp) (E : XK) (Fc : FC) (ρ : List Sl) (r : Ret), Room k (A.deeper (envOfC qual scope s.heap.objs.size f cdv)) → A.guards = some [] → K = Fc.K → φ ρ r →
      ∃ R, ExB (bcx P w K mg base N qual scope f cdv A out s H E) Fc body (ρ ++ List.replicate (N.length - ps.length) .un) R ∧ Fits ρ R r) : GnOk P w K mg base (k + 1) f fd ps (SpD K φ) := by
  have hpl : ps.length ≤ N.length := by have := congrArg List.length S.pre; rw [List.length_take] at this; omega
  have len : ∀ vs H Q E, SpD K φ vs H Q E → vs.length = ps.length := fun vs H Q E ⟨ρ, r, G, io, h, a, _⟩ => by
    have := a.sl.len
    rw [List.length_map] at this
    rw [this]; exact hl _ _ h
  refine gn_of F S len fun cdv A out s H vs Q E room hg h => ?_
  have lv := len _ _ _ _ h
  obtain ⟨ρ, r, G, io, hφ, a, hq⟩ := h
  obtain ⟨R, ex, fits⟩ := hb cdv A out s H E (fcOf K G H io) ρ r room hg rfl hφ
  have sr := sr_start (N := N) a (by omega)
  rw [hl _ _ hφ] at sr
  have el : vs.length = ρ.length := by simpa using a.sl.len
  -- what holds at the end
  have post : ∀ {ρ' : List Sl} {ds : List PyData} {G' : Hp} {σ' : L2.St} {H' : Hp}, SR (fcOf K G H io) ρ' G' σ' H' → (∀ ds0, ρ[0]? = some (.ow true ds0) → ρ'[0]? = some (.ow true ds)) → Post K G H io ds G' H' := fun {ρ' ds G' σ' H'} q o =>
    ⟨q.g0, q.gn, q.gh, q.hd, fun b ob e hi => q.bh b ob ((if_neg hi).trans e), fun b hb => by
      obtain ⟨g, ds0, e0, _⟩ := a.ion b hb
      have e1 := o ds0 e0
      obtain ⟨c, xs, w1, w2, w3, w4⟩ := q.sl.ow 0 true ds e1
      have w5 := (q.io 0 ds c e1 w1).1
      have : c = b := Option.some.inj (w5.symm.trans hb)
      subst this
      exact ⟨w2, xs, w3, w4⟩⟩
  refine ex G (L2.start N vs) H { nx := fun _ H' => Q .non H', rt := Q } (fun cls d _ H' => E cls d H') sr (takes_of rfl rfl rfl rfl) ?_
  cases R with
  | nx ρ' =>
    cases r with
    | rt s0 io0 =>
      obtain ⟨rfl, o⟩ := fits
      exact fun G' σ' H' q _ => hq .non G' H' (post q o) (show Rp K G' .none .non by simp [Rp])
    | ex => exact fits.elim
  | rt s1 ρ' =>
    cases r with
    | rt s0 io0 =>
      obtain ⟨rfl, o⟩ := fits
      refine fun v G' σ' H' q _ rr => hq v G' H' (post q o) ?_
      cases s1 with
      | un => exact rr
      | fz d => exact rr
      | vv u => exact rr
      | pv P => exact rr
      | ow b ds =>
        obtain ⟨e, p, xs, e1, h0, hG, hH, r1, _⟩ := rr
        exact ⟨e, p, xs, e1, h0, hG, hH, r1⟩
      | op P =>
        obtain ⟨p, o, e1, h0, hG, hH, r1, _⟩ := rr
        exact ⟨p, o, e1, h0, hG, hH, r1⟩
    | ex => exact fits.elim
  | bk ρ' => cases r <;> exact fits.elim
  | ct ρ' => cases r <;> exact fits.elim
  | ex C fs ρ' =>
    cases r with
    | rt s0 io0 => exact fits.elim
    | ex C' fs' io0 =>
      obtain ⟨rfl, rfl, o⟩ := fits
      exact fun dd fv G' σ' H' q _ e1 e2 => hq dd fv G' H' (post q o) e1 e2

section
variable {X : Cx} {F : FC} {ρ ρ1 ρ2 : List Sl} {es : List Expr} {e : Expr} {pos p : Pos}
/-- argument values without an own list -/
theorem args_of {G : Hp} {H : Hp} : ∀ {ss : List Sl} {vs : List V}, ArgV F.K G ss vs → Same G H → ArgS F.K G H none ss vs := fun {ss vs} q0 e => by
  have len : ∀ {ss : List Sl} {vs : List V}, ArgV F.K G ss vs → vs.length = ss.length := by
    intro ss
    induction ss with
    | nil => intro vs h; rw [show vs = [] from h]; rfl
    | cons s ss ih => intro vs h; obtain ⟨v, r, rfl, _, h3⟩ := h; simp [ih h3]
  have get : ∀ {ss : List Sl} {vs : List V} {i : Nat} {s : Sl}, ArgV F.K G ss vs → ss[i]? = some s → ∃ v, vs[i]? = some v ∧ (match s with | .fz d => Rp F.K G d v | .vv u => v = u | .pv P => P.p G v | _ => False) := by
    intro ss
    induction ss with
    | nil => intro vs i s h q; simp at q
    | cons s0 ss ih =>
      intro vs i s h q
      obtain ⟨v, r, rfl, h2, h3⟩ := h
      cases i with
      | zero => simp at q; subst q; exact ⟨v, rfl, h2⟩
      | succ i =>
        obtain ⟨v', q1, q2⟩ := ih (i := i) (s := s) h3 (by simpa using q)
        exact ⟨v', by simpa using q1, q2⟩
  have now : ∀ (i : Nat) t, ss[i]? = some t → t.own = true → False := fun i t q o => by
    obtain ⟨v, _, q2⟩ := get q0 q
    cases t with
    | ow io ds => exact q2
    | op P => exact q2
    | _ => cases o
  refine ⟨⟨by simp [len q0], fun i t q n => ?_, fun i j t u a q _ o => (now i t q o).elim⟩, fun i b ds q => (now i _ q rfl).elim, fun i P q => now i _ q rfl, fun ds a q => (now 0 _ q rfl).elim, e, fun a q => by cases q⟩
  obtain ⟨v, q1, q2⟩ := get q0 q
  refine ⟨v, map_get.mpr q1, ?_⟩
  cases t with
  | un => exact (n rfl).elim
  | fz d => exact q2
  | vv u => exact q2
  | pv P => exact q2
  | ow io ds => exact q2.elim
  | op P => exact q2.elim
/-- behind a call without an own list -/
theorem sr_post {G G' : Hp} {σ : L2.St} {H H' : Hp} {ds : List PyData} (s : SR F ρ G σ H) (p : Post F.K G H none ds G' H') : SR F ρ G' σ H' where
  bh := fun b o h => p.keep b o (s.bh b o h) (by simp)
  hd := fun b h => s.hd b (p.hd b h)
  g0 := s.g0.trans p.same
  gn := fun b h => by
    rcases p.gn b h with z | z
    · exact s.gn b z
    · exact .inr (s.hd b z)
  gh := p.gh
  sl := by
    refine s.sl.heaps p.same fun i t a h o e => ?_
    obtain ⟨a', u, h1, h2, h3, _⟩ := s.sl.own h o
    rw [h1] at e; cases e
    refine ⟨?_, (p.keep a _ h3 (by simp)).trans h3.symm⟩
    rw [h2]
    cases e : G' a with
    | none => rfl
    | some o =>
      rcases p.gn a (by rw [e]; simp) with z | z
      · exact absurd h2 z
      · rw [h3] at z; cases z
  fr := s.fr
  io := s.io
  tb := s.tb.ext fun b o e => p.keep b o e (by simp)
  tg := fun q hq => by
    obtain ⟨ps, e⟩ := tabs_at s.tb hq
    cases e' : G' q.1 with
    | none => rfl
    | some o =>
      rcases p.gn q.1 (by rw [e']; simp) with z | z
      · exact absurd (s.tg q hq) z
      · rw [e] at z; cases z
  tB := s.tB
theorem res_post {G G' : Hp} {σ : L2.St} {H H' : Hp} {ds : List PyData} {r : Sl} {v : V} {io : Option Addr} (s : SR F ρ G σ H) (p : Post F.K G H io ds G' H') (h : ResK F.K H G' H' r v) (ρ' : List Sl) (hρ : ∀ (i : Nat) t, ρ'[i]? = some t → t.own = true → ∃ t', ρ[i]? = some t' ∧ t'.own = true) : ResR F ρ' G' H' σ r v := by
  cases r with
  | un => exact h
  | fz d => exact h
  | vv u => exact h
  | pv P => exact h
  | ow b ds =>
    obtain ⟨e, q, xs, e1, h1, h2, h3, h4⟩ := h
    refine ⟨e, q, xs, e1, s.hd q h1, h2, h3, h4, fun i t z o => ?_⟩
    obtain ⟨t', z', o'⟩ := hρ i t z o
    exact s.sl.away h1 i t' z' o'
  | op P =>
    obtain ⟨q, u, e1, h1, h2, h3, h4⟩ := h
    refine ⟨q, u, e1, s.hd q h1, h2, h3, h4, fun i t z o => ?_⟩
    obtain ⟨t', z', o'⟩ := hρ i t z o
    exact s.sl.away h1 i t' z' o'

/-- a def of the module, as calls find it -/
structure DefAt (X : Cx) (x : Str) (k : Nat) (ps : List Str) (φ : List Sl → Ret → Prop) (f : Addr) (fd : FuncData) : Prop where
  ok : GnOk X.prog X.w X.K X.mg X.base k f fd ps (SpD X.K φ)
  mg : X.mg x = some (.ref f)
  kp : PySem.W.keepIn X.K (.ref f) = true

variable {x : Str} {k : Nat} {ps : List Str} {φ : List Sl → Ret → Prop} {f : Addr} {fd : FuncData} {ss : List Sl} {io : List PyData} {s : Sl}
/-- the run of a call, values in hand -/
theorem call_vals (D : DefAt X x k ps φ f fd) (hr : Room k X.A) (hg : X.A.guards = some []) (hK : X.K = F.K) {W : WX} (tk : Takes X W) {G : Hp} {σ : L2.St} {H : Hp} {Q : VK} (sr : SR F ρ G σ H) {pins : List (Addr × Obj)} {sh : Shared} (I : Inv X pins σ H sh) {vs : List V} {us ws : List Value} {kw : List (Str × Value)}
    {r : Ret} {ia : Option Addr} (a : ArgS F.K G H ia ss vs) (h : φ ss r) (hb : BindsTo sh fd ⟨us, kw⟩ (ps.zip ws)) (rv : Vals vs ws)
    (q : RetK F.K G H ia Q (fun cls d H' => W cls d σ H') r) : wpAny (model X.prog X.w) X.A (call (.ref f) us kw) (EP X pins σ Q) X.xe sh := by
  refine run_gn D.ok hr hg tk I hb rv ?_
  rw [hK]
  exact ⟨ss, r, G, ia, h, a, q⟩

/-- f(e, ..) hands back s -/
theorem ev_call (D : DefAt X x k ps φ f fd) (hr : Room k X.A) (hg : X.A.guards = some []) {ds : List Value} {dvs : List V} {dss : List Sl} (hb : Binds X.K fd ps ds) (hd : Vals dvs ds) (hdv : ∀ G, ArgV F.K G dss dvs) (ha : EvA X F (e :: es) ρ ss ρ1) (h : φ (ss ++ dss) (.rt s io))
    (hK : X.K = F.K := by first | rfl | assumption) (hgl : Gl X x := by rfl) (hdb : (x == ("__debug__" : Str)) = false := by decide) (he : starEach (e :: es) X.env = (false, eval e X.env) :: starEach es X.env := by exact star_cons rfl) (hpl : (backTo pos (starEach es X.env)).any (·.1) = false := by rfl) :
    EvS X F (.Call (.Name x p) (e :: es) [] pos) ρ s ρ1 := fun G σ H Q sr k' => tW.mk fun pins sh I => by
  refine wpAny_Call_Name_kw (ld_glob I hgl D.mg ?_ hdb)
  refine PySem.W.callWith_K (h₀ := X.base) I.ok.mod.kin D.kp (thn ((ha G σ H (fun vs H1 => ∃ G1, SR F ρ1 G1 σ H1 ∧ Same G G1 ∧ ArgV F.K G1 ss vs) sr (fun vs G1 H1 s1 g1 a1 => ⟨G1, s1, g1, a1⟩)).run pos pins sh I) fun us s1 ⟨vs, H1, I1, r, G1, q1, g1, a1⟩ => ⟨I1.kIn, ?_⟩) he hpl
  have app : ∀ {ss : List Sl} {vs : List V}, ArgV F.K G1 ss vs → ArgV F.K G1 (ss ++ dss) (vs ++ dvs) := by
    intro ss
    induction ss with
    | nil => intro vs h; rw [show vs = [] from h]; exact hdv G1
    | cons s0 ss ih => intro vs h; obtain ⟨v, r, rfl, h2, h3⟩ := h; exact ⟨v, r ++ dvs, rfl, h2, ih h3⟩
  have av := args_of (F := F) (app a1) q1.gh
  have r2 := r.append hd
  have hl : (us ++ ds).length = ps.length := by
    rw [← r2.length]
    refine D.ok.size (vs ++ dvs) H1 (fun _ _ => True) (fun _ _ _ => True) ?_
    rw [hK]
    exact ⟨_, _, G1, none, h, av, fun _ _ _ _ _ => trivial⟩
  exact call_vals D hr hg hK takes0 q1 I1 av h (hb s1 us I1.kIn hl) r2 fun v G' H' po rk => k' v G' H' (sr_post q1 po) (g1.trans po.same) (res_post q1 po rk ρ1 fun i t z o => ⟨t, z, o⟩)
/-- f(e, ..) raises -/
theorem ev_callX (D : DefAt X x k ps φ f fd) (hr : Room k X.A) (hg : X.A.guards = some []) {ds : List Value} {dvs : List V} {dss : List Sl} (hb : Binds X.K fd ps ds) (hd : Vals dvs ds) (hdv : ∀ G, ArgV F.K G dss dvs) (ha : EvA X F (e :: es) ρ ss ρ1) {C : Addr} {fs : List (Str × PyData)} (h : φ (ss ++ dss) (.ex C fs io))
    (hK : X.K = F.K := by first | rfl | assumption) (hgl : Gl X x := by rfl) (hdb : (x == ("__debug__" : Str)) = false := by decide) (he : starEach (e :: es) X.env = (false, eval e X.env) :: starEach es X.env := by exact star_cons rfl) (hpl : (backTo pos (starEach es X.env)).any (·.1) = false := by rfl) :
    EvX X F (.Call (.Name x p) (e :: es) [] pos) ρ C fs ρ1 := fun G σ H Q W sr tk k' => tW.mk fun pins sh I => by
  refine wpAny_Call_Name_kw (ld_glob I hgl D.mg ?_ hdb)
  refine PySem.W.callWith_K (h₀ := X.base) I.ok.mod.kin D.kp (thn ((ha G σ H (fun vs H1 => ∃ G1, SR F ρ1 G1 σ H1 ∧ Same G G1 ∧ ArgV F.K G1 ss vs) sr (fun vs G1 H1 s1 g1 a1 => ⟨G1, s1, g1, a1⟩)).run pos pins sh I) fun us s1 ⟨vs, H1, I1, r, G1, q1, g1, a1⟩ => ⟨I1.kIn, ?_⟩) he hpl
  have app : ∀ {ss : List Sl} {vs : List V}, ArgV F.K G1 ss vs → ArgV F.K G1 (ss ++ dss) (vs ++ dvs) := by
    intro ss
    induction ss with
    | nil => intro vs h; rw [show vs = [] from h]; exact hdv G1
    | cons s0 ss ih => intro vs h; obtain ⟨v, r, rfl, h2, h3⟩ := h; exact ⟨v, r ++ dvs, rfl, h2, ih h3⟩
  have av := args_of (F := F) (app a1) q1.gh
  have r2 := r.append hd
  have hl : (us ++ ds).length = ps.length := by
    rw [← r2.length]
    refine D.ok.size (vs ++ dvs) H1 (fun _ _ => True) (fun _ _ _ => True) ?_
    rw [hK]
    exact ⟨_, _, G1, none, h, av, fun _ _ _ _ _ _ _ => trivial⟩
  exact call_vals D hr hg hK tk q1 I1 av h (hb s1 us I1.kIn hl) r2 fun dd fv G' H' po e1 e2 => k' dd fv G' H' (sr_post q1 po) (g1.trans po.same) ⟨e1.1, q1.hd dd e1.2.1, e1.2.2⟩ e2
end
end DL
end
section
set_option maxHeartbeats 4000000
namespace DL
open PySem PySem.Spec PyProof.Rows L2
section
variable {X : Cx} {F : FC} {ρ ρ1 ρ2 ρ3 : List Sl} {es : List Expr} {e a b c : Expr} {pos p p2 pos' : Pos}
variable {x : Str} {k : Nat} {ps : List Str} {φ : List Sl → Ret → Prop} {f : Addr} {fd : FuncData} {ss : List Sl} {io : List PyData} {s : Sl} {i j : Int} {d d1 d2 : PyData} {ds ds1 ds2 : List PyData}

theorem argV_app {K : PySem.W.Frag} {G : Hp} {dss : List Sl} {dvs : List V} (hdv : ArgV K G dss dvs) : ∀ {ss : List Sl} {vs : List V}, ArgV K G ss vs → ArgV K G (ss ++ dss) (vs ++ dvs)
  | [], vs, h => by rw [show vs = [] from h]; exact hdv
  | s0 :: ss, vs, h => by
    obtain ⟨v, r, rfl, h2, h3⟩ := h
    exact ⟨v, r ++ dvs, rfl, h2, argV_app hdv h3⟩
/-- behind a call that changed the list at slot n -/
theorem sr_postIO {G G' : Hp} {σ : L2.St} {H H' : Hp} {n : Nat} {bo : Bool} {ad : Addr} (s : SR F ρ G σ H) (hn : ρ[n]? = some (.ow bo ds)) (ha : σ[n]? = some (some (.ref ad))) (q : Post F.K G H (some ad) ds1 G' H') : SR F (ρ.set n (.ow bo ds1)) G' σ H' := by
  have hl : n < ρ.length := (List.getElem?_eq_some_iff.mp hn).1
  have no := s.noOwn hn rfl ha
  have sl : SlR F.K G' H' σ (ρ.set n (.ow bo ds1)) := by
    have s1 : SlR F.K G' H' σ (ρ.set n .un) := (s.sl.forget hl).heaps q.same fun i t c h o e => by
      have ne : ad ≠ c := fun z => no i t h o (by rw [e, z])
      obtain ⟨c', u, h1, h2, h3, _⟩ := (s.sl.forget hl).own h o
      rw [h1] at e; cases e
      refine ⟨?_, (q.keep c _ h3 (by simp [ne])).trans h3.symm⟩
      rw [h2]
      cases e : G' c with
      | none => rfl
      | some o =>
        rcases q.gn c (by rw [e]; simp) with z | z
        · exact absurd h2 z
        · rw [h3] at z; cases z
    obtain ⟨g, xs, w1, w2⟩ := q.out ad rfl
    have s2 := s1.put (i := n) (t := .ow bo ds1) (v := .ref ad) (by simpa using hl) ⟨ad, xs, rfl, g, w1, w2⟩ fun _ b e => by cases e; exact no
    rwa [List.set_set, set_same ha] at s2
  refine ⟨fun b o h => q.keep b o (s.bh b o h) fun z => ?_, fun b h => s.hd b (q.hd b h), s.g0.trans q.same, fun b h => ?_, q.gh, sl, fun j t b h hw e => ?_, fun j fs b h e => ?_, ?_, fun p hp => ?_, s.tB⟩
  · cases z
    rw [s.owB hn ha] at h; cases h
  · rcases q.gn b h with z | z
    · exact s.gn b z
    · exact .inr (s.hd b z)
  · rcases set_at h with ⟨rfl, rfl, _⟩ | ⟨_, h⟩
    · cases bo with
      | false => exact s.fr j _ b hn rfl e
      | true => cases hw
    · exact s.fr j t b h hw e
  · rcases set_at h with ⟨rfl, z, _⟩ | ⟨_, h⟩
    · cases z; exact s.io j ds b hn e
    · exact s.io j fs b h e
  · obtain ⟨ad', xs, w1, w2, w3, w4⟩ := s.sl.ow n bo ds hn
    rw [ha] at w1; cases w1
    exact tabs_keep s.tb fun b o e nl => q.keep b o e fun z => by cases z; rw [w3] at e; exact nl xs (Option.some.inj e).symm
  · obtain ⟨ps, e⟩ := tabs_at s.tb hp
    cases e' : G' p.1 with
    | none => rfl
    | some o =>
      rcases q.gn p.1 (by rw [e']; simp) with z | z
      · exact absurd (s.tg p hp) z
      · rw [e] at z; cases z
theorem argsIO_of {G : Hp} {H : Hp} {ad : Addr} {xs : List V} {vs : List V} (h : ArgV F.K G ss vs) (e : Same G H) (g : G ad = none) (hh : H ad = some (.lst xs)) (r : Rps F.K G ds xs) : ArgS F.K G H (some ad) (.ow true ds :: ss) (.ref ad :: vs) := by
  have A := args_of (F := F) h e
  have no : ∀ (i : Nat) t, ss[i]? = some t → t.own = true → False := fun i t q o => by
    cases t with
    | ow b es =>
      obtain ⟨_, _, w, _⟩ := A.sl.ow i b es q
      obtain ⟨rfl, rfl⟩ := A.fst i b es q
      have : (none : Option Addr) = some _ := A.ioa es _ q (map_get.mp w)
      cases this
    | op P => exact A.nop i P q
    | _ => cases o
  refine ⟨⟨by have := A.sl.len; simpa using this, fun i t q n => ?_, fun i j t u b h1 h2 o1 o2 h3 h4 => ?_⟩, fun i b es q => ?_, fun i P q => ?_, fun es b q w => ?_, e, fun b q => ?_⟩
  · cases i with
    | zero => cases q; exact ⟨_, rfl, ad, xs, rfl, g, hh, r⟩
    | succ i => exact A.sl.val i t (by simpa using q) n
  · cases i with
    | succ i => exact (no i t (by simpa using h1) o1).elim
    | zero =>
      cases j with
      | succ j => exact (no j u (by simpa using h2) o2).elim
      | zero => rfl
  · cases i with
    | zero => cases q; exact ⟨rfl, rfl⟩
    | succ i => exact (no i _ (by simpa using q) rfl).elim
  · cases i with
    | zero => cases q
    | succ i => exact no i _ (by simpa using q) rfl
  · cases w; rfl
  · cases q; exact ⟨g, ds, rfl, rfl⟩
/-- f(v, e, ..), f changes the list at the name v -/
theorem ev_callIO (n : Nat) {v0 : Str} {bo : Bool} (D : DefAt X x k ps φ f fd) (hr : Room k X.A) (hg : X.A.guards = some []) {dsv : List Value} {dvs : List V} {dss : List Sl} (hb : Binds X.K fd ps dsv) (hd : Vals dvs dsv) (hdv : ∀ G, ArgV F.K G dss dvs) (ha : EvA X F es ρ ss ρ1)
    (hn0 : ρ[n]? = some (.ow bo ds2)) (hn : ρ1[n]? = some (.ow bo ds)) (h : φ (.ow true ds :: (ss ++ dss)) (.rt s io)) (hN : X.N[n]? = some v0 := by rfl) (hv : Vis X.env.scope v0 := by first | exact Or.inl rfl | exact Or.inr (Or.inl rfl) | exact Or.inr (Or.inr rfl)) (hvd : (v0 == ("__debug__" : Str)) = false := by decide) (hvc : (v0 == ("__classdict__" : Str)) = false := by decide)
    (hK : X.K = F.K := by first | rfl | assumption) (hgl : Gl X x := by rfl) (hdb : (x == ("__debug__" : Str)) = false := by decide) (he : starEach (.Name v0 p2 :: es) X.env = (false, eval (.Name v0 p2) X.env) :: starEach es X.env := by exact star_cons rfl) (hpl : (backTo pos (starEach es X.env)).any (·.1) = false := by rfl) :
    EvS X F (.Call (.Name x p) (.Name v0 p2 :: es) [] pos) ρ s (ρ1.set n (.ow bo io)) := fun G σ H Q sr k' => tW.mk fun pins sh I => by
  obtain ⟨ad, _, w1, _⟩ := sr.sl.ow n bo ds2 hn0
  refine wpAny_Call_Name_kw (ld_glob I hgl D.mg ?_ hdb)
  refine PySem.W.callWith_K (h₀ := X.base) I.ok.mod.kin D.kp (thn ((pa_cons (pe_var (pos := p2) hN hv hvd hvc) paW he).run pos pins sh σ H (fun vs H1 => ∃ vr G1, vs = .ref ad :: vr ∧ SR F ρ1 G1 σ H1 ∧ Same G G1 ∧ ArgV F.K G1 ss vr) I ⟨_, w1, ha G σ H _ sr fun vs G1 H1 s1 g1 a1 => ⟨vs, G1, rfl, s1, g1, a1⟩⟩)
    fun us s1 ⟨vs, H1, I1, r, vr, G1, e1, q1, g1, a1⟩ => ⟨I1.kIn, ?_⟩) he hpl
  subst e1
  obtain ⟨ad', xs, z1, z2, z3, z4⟩ := q1.sl.ow n bo ds hn
  rw [w1] at z1; cases z1
  have av := argsIO_of (F := F) (argV_app (hdv G1) a1) q1.gh z2 z3 z4
  have r2 := r.append hd
  have hl : (us ++ dsv).length = ps.length := by
    rw [← r2.length]
    refine D.ok.size (.ref ad :: (vr ++ dvs)) H1 (fun _ _ => True) (fun _ _ _ => True) ?_
    rw [hK]
    exact ⟨_, _, G1, some ad, h, av, fun _ _ _ _ _ => trivial⟩
  refine call_vals D hr hg hK takes0 q1 I1 av h (hb s1 us I1.kIn hl) r2 fun v G' H' po rk => ?_
  have hl' : n < ρ1.length := (List.getElem?_eq_some_iff.mp hn).1
  refine k' v G' H' (sr_postIO q1 hn w1 po) (g1.trans po.same) (res_post q1 po rk _ fun i t z o => ?_)
  rcases set_at z with ⟨rfl, rfl, _⟩ | ⟨_, z⟩
  · exact ⟨_, hn, rfl⟩
  · exact ⟨t, z, o⟩

/-- keyword arguments, from the left -/
def EvK (X : Cx) (F : FC) (kws : List Keyword) (ρ : List Sl) (ss : List Sl) (ρ' : List Sl) : Prop := ∀ (G : Hp) (σ : L2.St) (H : Hp) (Q : List V → Hp → Prop), SR F ρ G σ H →
  (∀ vs G' H', SR F ρ' G' σ H' → Same G G' → ArgV F.K G' ss vs → Q vs H') → ∀ pos pins s, Inv X pins σ H s → wpAny (model X.prog X.w) X.A (evalAll ((backToKw pos (keywordEach kws X.env)).map (·.2))) (AP X pins σ Q) X.xe s
theorem evk_nil : EvK X F [] ρ [] ρ := fun G σ H Q s k pos pins sh I => pk_nil.run pos pins sh σ H Q I (k [] G H s (Same.refl _) rfl)
theorem evk_cons {kws : List Keyword} {nm : Option Str} {kp : Pos} (h : EvD X F e ρ d ρ1) (t : EvK X F kws ρ1 ss ρ2) : EvK X F (⟨nm, e, kp⟩ :: kws) ρ (.fz d :: ss) ρ2 := fun G σ H Q s k pos pins sh I => by
  let T : TA := fun σ H Q => ∀ pos pins s, Inv X pins σ H s → wpAny (model X.prog X.w) X.A (evalAll ((backToKw pos (keywordEach kws X.env)).map (·.2))) (AP X pins σ Q) X.xe s
  have pT : PK X kws T := ⟨fun pos pins s σ H Q I h => h pos pins s I⟩
  exact (pk_cons peW pT).run pos pins sh σ H Q I (h G σ H _ s fun v G1 H1 s1 g1 r1 => t G1 σ H1 _ s1 fun vs G2 H2 s2 g2 r2 => k _ G2 H2 s2 (g1.trans g2) ⟨v, vs, rfl, Rp.mono g2 d v r1, r2⟩)
/-- f(k = e, ..): ks the names, g puts the values in the parameters' order -/
theorem ev_callK0 {kws : List Keyword} {ks : List Str} {g : {α : Type} → List α → List α} (D : DefAt X x k ps φ f fd) (hr : Room k X.A) (hg : X.A.guards = some []) (hb : ∀ (s : Shared) (ws : List Value), X.K.In s.heap → ws.length = ks.length → BindsTo s fd ⟨[], ks.zip ws⟩ (ps.zip (g ws))) (hgv : ∀ {vs : List V} {us : List Value}, Vals vs us → Vals (g vs) (g us)) (hga : ∀ G vs, ArgV F.K G ss vs → ArgV F.K G (g ss) (g vs)) (hlen : ss.length = ks.length)
    (ha : EvK X F kws ρ ss ρ1) (h : φ (g ss) (.rt s io)) (hall : (backToKw pos (keywordEach kws X.env)).all (·.1.isSome) = true := by rfl) (hks : (backToKw pos (keywordEach kws X.env)).filterMap (·.1) = ks := by rfl)
    (hpl : ((backTo pos (starEach [] X.env)).any (·.1) || (backToKw pos (keywordEach kws X.env)).any (·.1.isNone)) = false := by rfl) (hK : X.K = F.K := by first | rfl | assumption) (hgl : Gl X x := by rfl) (hdb : (x == ("__debug__" : Str)) = false := by decide) :
    EvS X F (.Call (.Name x p) [] kws pos) ρ s ρ1 := fun G σ H Q sr k' => tW.mk fun pins sh I => by
  refine wpAny_Call_Name_kw (ld_glob I hgl D.mg ?_ hdb)
  refine PySem.W.callWith_KW0 (h₀ := X.base) I.ok.mod.kin D.kp hall (thn (ha G σ H (fun vs H1 => ∃ G1, SR F ρ1 G1 σ H1 ∧ Same G G1 ∧ ArgV F.K G1 ss vs) sr (fun vs G1 H1 s1 g1 a1 => ⟨G1, s1, g1, a1⟩) pos pins sh I) fun us s1 ⟨vs, H1, I1, r, G1, q1, g1, a1⟩ => ⟨I1.kIn, ?_⟩) hpl
  have av := args_of (F := F) (hga G1 vs a1) q1.gh
  have lv : vs.length = ss.length := by
    have := (args_of (F := F) a1 q1.gh).sl.len
    simpa using this
  rw [hks]
  exact call_vals D hr hg hK takes0 q1 I1 av h (hb s1 us I1.kIn (by rw [← r.length, lv, hlen])) (hgv r) fun v G' H' po rk => k' v G' H' (sr_post q1 po) (g1.trans po.same) (res_post q1 po rk ρ1 fun i t z o => ⟨t, z, o⟩)

theorem rps_atI {K : PySem.W.Frag} {G : Hp} {xs : List V} (r : Rps K G ds xs) (h : atI ds i = some d) : ∃ v, atI xs i = some v ∧ Rp K G d v := by
  unfold atI at h ⊢
  rw [r.length]
  cases e : ixN ds.length i with
  | none => rw [e] at h; cases h
  | some n =>
    rw [e] at h
    exact r.get h
theorem ev_ixL (ha : EvD X F a ρ (.list ds) ρ1) (hb : EvD X F b ρ1 (.int i) ρ2) (h : atI ds i = some d) (hK : X.K = F.K := by first | rfl | assumption) (hs : PlainIx b := by exact fun _ _ => rfl) : EvD X F (.Subscript a b pos) ρ d ρ2 :=
  fun G σ H Q s q => toW (pe_ix ix_list peW peW hs) (ha G σ H _ s fun v G1 H1 s1 g1 r1 => by
    simp only [ResR, Rp] at r1
    obtain ⟨ad, xs, rfl, r2, r3⟩ := r1
    exact hb G1 σ H1 _ s1 fun u G2 H2 s2 g2 r4 => by
      simp only [ResR, Rp] at r4; subst r4
      obtain ⟨w, h1, h2⟩ := rps_atI r3 h
      exact ⟨ad, xs, i, w, rfl, rfl, SqL.of (s2.gh _ _ (g2 _ _ r2)), h1, q w G2 H2 s2 (g1.trans g2) (Rp.mono g2 d w h2)⟩)
theorem ev_ixT (ha : EvD X F a ρ (.tuple ds) ρ1) (hb : EvD X F b ρ1 (.int i) ρ2) (h : atI ds i = some d) (hK : X.K = F.K := by first | rfl | assumption) (hs : PlainIx b := by exact fun _ _ => rfl) : EvD X F (.Subscript a b pos) ρ d ρ2 :=
  fun G σ H Q s q => toW (pe_ix ix_tup peW peW hs) (ha G σ H _ s fun v G1 H1 s1 g1 r1 => by
    simp only [ResR, Rp] at r1
    obtain ⟨ad, xs, rfl, r2, r3⟩ := r1
    exact hb G1 σ H1 _ s1 fun u G2 H2 s2 g2 r4 => by
      simp only [ResR, Rp] at r4; subst r4
      obtain ⟨w, h1, h2⟩ := rps_atI r3 h
      exact ⟨ad, xs, i, w, rfl, rfl, by rw [hK]; exact same_seqT (g2.trans s2.gh) r2, h1, q w G2 H2 s2 (g1.trans g2) (Rp.mono g2 d w h2)⟩)
/-- v[e], v an own list -/
theorem ev_ixO (n : Nat) {v0 : Str} {bo bo2 : Bool} (h0 : ρ[n]? = some (.ow bo2 ds2)) (hb : EvD X F b ρ (.int i) ρ1) (hn : ρ1[n]? = some (.ow bo ds)) (h : atI ds i = some d) (hN : X.N[n]? = some v0 := by rfl) (hv : Vis X.env.scope v0 := by first | exact Or.inl rfl | exact Or.inr (Or.inl rfl) | exact Or.inr (Or.inr rfl))
    (hvd : (v0 == ("__debug__" : Str)) = false := by decide) (hvc : (v0 == ("__classdict__" : Str)) = false := by decide) (hs : PlainIx b := by exact fun _ _ => rfl) : EvD X F (.Subscript (.Name v0 p2) b pos) ρ d ρ1 :=
  fun G σ H Q s q => by
    obtain ⟨ad, _, w1, _⟩ := s.sl.ow n bo2 ds2 h0
    refine toW (pe_ix ix_list (pe_var (pos := p2) hN hv hvd hvc) peW hs) ⟨_, w1, hb G σ H _ s fun u G1 H1 s1 g1 r1 => ?_⟩
    simp only [ResR, Rp] at r1; subst r1
    obtain ⟨ad', xs, z1, z2, z3, z4⟩ := s1.sl.ow n bo ds hn
    rw [w1] at z1; cases z1
    obtain ⟨w, h1, h2⟩ := rps_atI z4 h
    exact ⟨ad, xs, i, w, rfl, rfl, SqL.of z3, h1, q w G1 H1 s1 g1 h2⟩

def cutD (ds : List PyData) (lo hi : Option Int) : List PyData := (ds.drop (HT.sIx ds.length 0 lo)).take (HT.sIx ds.length ds.length hi - HT.sIx ds.length 0 lo)
theorem rps_cut {K : PySem.W.Frag} {G : Hp} {xs : List V} (r : Rps K G ds xs) (lo hi : Option Int) : Rps K G (cutD ds lo hi) (cutV xs lo hi) := by
  unfold cutD cutV
  rw [r.length]
  exact (r.drop _).take _
abbrev tPart' (X : Cx) (e : Option Expr) : TO := match e with
  | none => tNoPart
  | some e => tPart (tW X e)
theorem poW {e : Option Expr} : PO X e (tPart' X e) := by
  cases e with
  | none => exact po_none
  | some e => exact po_some peW
/-- a part of a slice -/
inductive PartD (X : Cx) (F : FC) : Option Expr → List Sl → Option Int → List Sl → Prop where
  | none {ρ : List Sl} : PartD X F .none ρ .none ρ
  | some {e : Expr} {ρ ρ' : List Sl} {i : Int} : EvD X F e ρ (.int i) ρ' → PartD X F (.some e) ρ (.some i) ρ'
theorem PartD.run {e : Option Expr} {o : Option Int} (h : PartD X F e ρ o ρ1) {G : Hp} {σ : L2.St} {H : Hp} {Q : Option Int → Hp → Prop} (s : SR F ρ G σ H) (k : ∀ G' H', SR F ρ1 G' σ H' → Same G G' → Q o H') : tPart' X e σ H Q := by
  cases h with
  | none => exact k G H s (Same.refl _)
  | some h =>
    refine h G σ H _ s fun v G1 H1 s1 g1 r1 => ?_
    simp only [ResR, Rp] at r1; subst r1
    exact ⟨_, rfl, k G1 H1 s1 g1⟩
theorem evn_sliceL {lo hi : Option Expr} {l u : Option Int} (ha : EvD X F a ρ (.list ds) ρ1) (h1 : PartD X F lo ρ1 l ρ2) (h2 : PartD X F hi ρ2 u ρ3) : EvS X F (.Subscript a (.Slice lo hi none p2) pos) ρ (.ow false (cutD ds l u)) ρ3 :=
  fun G σ H Q s q => toW (pe_slice sl_list peW poW poW) (ha G σ H _ s fun v G1 H1 s1 g1 r1 => by
    simp only [ResR, Rp] at r1
    obtain ⟨ad, xs, rfl, r2, r3⟩ := r1
    exact h1.run s1 fun G2 H2 s2 g2 => h2.run s2 fun G3 H3 s3 g3 => ⟨ad, xs, rfl, SqL.of (s3.gh _ _ (g3 _ _ (g2 _ _ r2))), fun p hp =>
      q _ G3 _ (s3.layN hp) (g1.trans (g2.trans g3)) ⟨rfl, p, _, rfl, s3.hd p hp, none_of_same s3.gh hp, upd_same, Rps.mono (g2.trans g3) _ _ (rps_cut r3 l u), s3.sl.away hp⟩⟩)

/-- the reading of a built-in function's call -/
theorem ev_blt {id : String} {r : List V → Hp → VK → Prop} (hc : CallR X (.builtin id) r) (hm : X.mg x = none) (hv : bootBuiltins x = some (.builtin id)) (ha : EvA X F (e :: es) ρ ss ρ1)
    (h : ∀ G σ H vs (Q : VK), SR F ρ1 G σ H → ArgV F.K G ss vs → (∀ v G' H', SR F ρ2 G' σ H' → Same G G' → ResR F ρ2 G' H' σ s v → Q v H') → r vs H Q) (hgl : Gl X x := by rfl) (hn : x ≠ "__name__" := by decide) (hdb : (x == ("__debug__" : Str)) = false := by decide)
    (he : starEach (e :: es) X.env = (false, eval e X.env) :: starEach es X.env := by exact star_cons rfl) (hpl : (backTo pos (starEach es X.env)).any (·.1) = false := by rfl) : EvS X F (.Call (.Name x p) (e :: es) [] pos) ρ s ρ2 :=
  fun G σ H Q sr q => toW (pe_callB hc hgl hm hv paW hn hdb he hpl) (ha G σ H _ sr fun vs G1 H1 s1 g1 a1 => h G1 σ H1 vs Q s1 a1 fun v G2 H2 s2 g2 r2 => q v G2 H2 s2 (g1.trans g2) r2)
theorem ev_bltTy {T : String} {r : List V → Hp → VK → Prop} (hc : CallR X (.type T) r) (hm : X.mg x = none) (hv : bootBuiltins x = some (.type T)) (ha : EvA X F (e :: es) ρ ss ρ1)
    (h : ∀ G σ H vs (Q : VK), SR F ρ1 G σ H → ArgV F.K G ss vs → (∀ v G' H', SR F ρ2 G' σ H' → Same G G' → ResR F ρ2 G' H' σ s v → Q v H') → r vs H Q) (hgl : Gl X x := by rfl) (hn : x ≠ "__name__" := by decide) (hdb : (x == ("__debug__" : Str)) = false := by decide)
    (he : starEach (e :: es) X.env = (false, eval e X.env) :: starEach es X.env := by exact star_cons rfl) (hpl : (backTo pos (starEach es X.env)).any (·.1) = false := by rfl) : EvS X F (.Call (.Name x p) (e :: es) [] pos) ρ s ρ2 :=
  fun G σ H Q sr q => toW (pe_callTy hc hgl hm hv paW hn hdb he hpl) (ha G σ H _ sr fun vs G1 H1 s1 g1 a1 => h G1 σ H1 vs Q s1 a1 fun v G2 H2 s2 g2 r2 => q v G2 H2 s2 (g1.trans g2) r2)
theorem argV1 {K : PySem.W.Frag} {G : Hp} {vs : List V} (h : ArgV K G [.fz d] vs) : ∃ v, vs = [v] ∧ Rp K G d v := by
  obtain ⟨v, r, rfl, h2, h3⟩ := h
  rw [show r = [] from h3]
  exact ⟨v, rfl, h2⟩
theorem argV2 {K : PySem.W.Frag} {G : Hp} {vs : List V} (h : ArgV K G [.fz d1, .fz d2] vs) : ∃ v w, vs = [v, w] ∧ Rp K G d1 v ∧ Rp K G d2 w := by
  obtain ⟨v, r, rfl, h2, h3⟩ := h
  obtain ⟨w, rfl, h4⟩ := argV1 h3
  exact ⟨v, w, rfl, h2, h4⟩
theorem ev_abs (hm : X.mg "abs" = none) (ha : EvD X F e ρ (.int i) ρ1) (hgl : Gl X "abs" := by rfl) (he : starEach [e] X.env = [(false, eval e X.env)] := by exact star_cons rfl) : EvD X F (.Call (.Name "abs" p) [e] [] pos) ρ (.int (if i < 0 then -i else i)) ρ1 :=
  ev_blt call_abs hm (by decide +kernel) (eva_cons ha eva_nil trivial he) (fun G σ H vs Q s a q => by
    obtain ⟨v, rfl, r⟩ := argV1 a
    simp only [Rp] at r; subst r
    exact ⟨i, rfl, q _ G H s (Same.refl _) res_int⟩) hgl (by decide) (by decide) he rfl
theorem ev_intI (hm : X.mg "int" = none) (ha : EvD X F e ρ (.int i) ρ1) (hgl : Gl X "int" := by rfl) (he : starEach [e] X.env = [(false, eval e X.env)] := by exact star_cons rfl) : EvD X F (.Call (.Name "int" p) [e] [] pos) ρ (.int i) ρ1 :=
  ev_bltTy call_int1 hm (by decide +kernel) (eva_cons ha eva_nil trivial he) (fun G σ H vs Q s a q => by
    obtain ⟨v, rfl, r⟩ := argV1 a
    simp only [Rp] at r; subst r
    exact .inl ⟨i, rfl, q _ G H s (Same.refl _) res_int⟩) hgl (by decide) (by decide) he rfl
theorem ev_intB {y : Bool} (hm : X.mg "int" = none) (ha : EvD X F e ρ (.bool y) ρ1) (hgl : Gl X "int" := by rfl) (he : starEach [e] X.env = [(false, eval e X.env)] := by exact star_cons rfl) : EvD X F (.Call (.Name "int" p) [e] [] pos) ρ (.int (if y then 1 else 0)) ρ1 :=
  ev_bltTy call_int1 hm (by decide +kernel) (eva_cons ha eva_nil trivial he) (fun G σ H vs Q s a q => by
    obtain ⟨v, rfl, r⟩ := argV1 a
    simp only [Rp] at r; subst r
    exact .inr ⟨y, rfl, q _ G H s (Same.refl _) res_int⟩) hgl (by decide) (by decide) he rfl
theorem ev_strI (hm : X.mg "str" = none) (ha : EvD X F e ρ (.int i) ρ1) (hi : i.natAbs.log2 < 1920) (hgl : Gl X "str" := by rfl) (he : starEach [e] X.env = [(false, eval e X.env)] := by exact star_cons rfl) : EvD X F (.Call (.Name "str" p) [e] [] pos) ρ (.str (toString i)) ρ1 :=
  ev_bltTy call_str_int hm (by decide +kernel) (eva_cons ha eva_nil trivial he) (fun G σ H vs Q s a q => by
    obtain ⟨v, rfl, r⟩ := argV1 a
    simp only [Rp] at r; subst r
    exact ⟨i, rfl, hi, q _ G H s (Same.refl _) res_str⟩) hgl (by decide) (by decide) he rfl
theorem ev_lenL (hm : X.mg "len" = none) (ha : EvD X F e ρ (.list ds) ρ1) (hgl : Gl X "len" := by rfl) (he : starEach [e] X.env = [(false, eval e X.env)] := by exact star_cons rfl) : EvD X F (.Call (.Name "len" p) [e] [] pos) ρ (.int ds.length) ρ1 :=
  ev_blt call_len_seq hm PySem.boot_len (eva_cons ha eva_nil trivial he) (fun G σ H vs Q s a q => by
    obtain ⟨v, rfl, r⟩ := argV1 a
    simp only [Rp] at r
    obtain ⟨ad, xs, rfl, r2, r3⟩ := r
    exact ⟨ad, xs, rfl, .inl (SqL.of (s.gh _ _ r2)), q _ G H s (Same.refl _) (by rw [r3.length]; exact res_int)⟩) hgl (by decide) (by decide) he rfl
theorem ev_lenT (hm : X.mg "len" = none) (ha : EvD X F e ρ (.tuple ds) ρ1) (hK : X.K = F.K := by first | rfl | assumption) (hgl : Gl X "len" := by rfl) (he : starEach [e] X.env = [(false, eval e X.env)] := by exact star_cons rfl) : EvD X F (.Call (.Name "len" p) [e] [] pos) ρ (.int ds.length) ρ1 :=
  ev_blt call_len_seq hm PySem.boot_len (eva_cons ha eva_nil trivial he) (fun G σ H vs Q s a q => by
    obtain ⟨v, rfl, r⟩ := argV1 a
    simp only [Rp] at r
    obtain ⟨ad, xs, rfl, r2, r3⟩ := r
    exact ⟨ad, xs, rfl, .inr (by rw [hK]; exact same_seqT s.gh r2), q _ G H s (Same.refl _) (by rw [r3.length]; exact res_int)⟩) hgl (by decide) (by decide) he rfl
theorem ev_lenS {z : Str} (hm : X.mg "len" = none) (ha : EvD X F e ρ (.str z) ρ1) (hz : z.length ≤ sizeLine) (hgl : Gl X "len" := by rfl) (he : starEach [e] X.env = [(false, eval e X.env)] := by exact star_cons rfl) : EvD X F (.Call (.Name "len" p) [e] [] pos) ρ (.int z.length) ρ1 :=
  ev_blt call_len_str hm PySem.boot_len (eva_cons ha eva_nil trivial he) (fun G σ H vs Q s a q => by
    obtain ⟨v, rfl, r⟩ := argV1 a
    simp only [Rp] at r; subst r
    exact ⟨z, rfl, hz, q _ G H s (Same.refl _) res_int⟩) hgl (by decide) (by decide) he rfl
/-- len of an own list -/
theorem ev_lenO (n : Nat) {v0 : Str} {bo : Bool} (hm : X.mg "len" = none) (hn : ρ[n]? = some (.ow bo ds)) (hN : X.N[n]? = some v0 := by rfl) (hv : Vis X.env.scope v0 := by first | exact Or.inl rfl | exact Or.inr (Or.inl rfl) | exact Or.inr (Or.inr rfl)) (hvd : (v0 == ("__debug__" : Str)) = false := by decide) (hvc : (v0 == ("__classdict__" : Str)) = false := by decide)
    (hgl : Gl X "len" := by rfl) (he : starEach [.Name v0 p2] X.env = [(false, eval (.Name v0 p2) X.env)] := by rfl) : EvD X F (.Call (.Name "len" p) [.Name v0 p2] [] pos) ρ (.int ds.length) ρ :=
  fun G σ H Q s q => by
    obtain ⟨ad, xs, w1, w2, w3, w4⟩ := s.sl.ow n bo ds hn
    exact toW (pe_callB call_len_seq hgl hm PySem.boot_len (pa_cons (pe_var hN hv hvd hvc) pa_nil he) (by decide) (by decide) he rfl) ⟨_, w1, ad, xs, rfl, .inl (SqL.of w3), q _ G H s (Same.refl _) (by rw [w4.length]; exact res_int)⟩
/-- tuple(list), tuple(tuple), list(list), list(tuple) -/
theorem ev_tupleL (hm : X.mg "tuple" = none) (ha : EvD X F e ρ (.list ds) ρ1) (hgl : Gl X "tuple" := by rfl) (he : starEach [e] X.env = [(false, eval e X.env)] := by exact star_cons rfl) : EvD X F (.Call (.Name "tuple" p) [e] [] pos) ρ (.tuple ds) ρ1 :=
  ev_bltTy call_tuple_of hm (by decide +kernel) (eva_cons ha eva_nil trivial he) (fun G σ H vs Q s a q => by
    obtain ⟨v, rfl, r⟩ := argV1 a
    simp only [Rp] at r
    obtain ⟨ad, xs, rfl, r2, r3⟩ := r
    refine ⟨ad, xs, rfl, .inl ⟨SqL.of (s.gh _ _ r2), fun l hl => ?_⟩⟩
    have m : Same G (upd G l (.tup xs)) := same_upd (none_of_same s.gh hl)
    refine q _ _ _ (s.lay hl) m ?_
    show Rp _ _ (.tuple ds) _
    simp only [Rp]
    exact ⟨l, xs, rfl, SqT.of upd_same, Rps.mono m ds xs r3⟩) hgl (by decide) (by decide) he rfl
theorem ev_tupleT (hm : X.mg "tuple" = none) (ha : EvD X F e ρ (.tuple ds) ρ1) (hK : X.K = F.K := by first | rfl | assumption) (hgl : Gl X "tuple" := by rfl) (he : starEach [e] X.env = [(false, eval e X.env)] := by exact star_cons rfl) : EvD X F (.Call (.Name "tuple" p) [e] [] pos) ρ (.tuple ds) ρ1 :=
  ev_bltTy call_tuple_of hm (by decide +kernel) (eva_cons ha eva_nil trivial he) (fun G σ H vs Q s a q => by
    obtain ⟨v, rfl, r⟩ := argV1 a
    simp only [Rp] at r
    obtain ⟨ad, xs, rfl, r2, r3⟩ := r
    refine ⟨ad, xs, rfl, .inr ⟨by rw [hK]; exact same_seqT s.gh r2, q _ G H s (Same.refl _) ?_⟩⟩
    show Rp _ _ (.tuple ds) _
    simp only [Rp]
    exact ⟨ad, xs, rfl, r2, r3⟩) hgl (by decide) (by decide) he rfl
theorem newOw {G : Hp} {σ : L2.St} {H : Hp} {l : Addr} {xs : List V} (s : SR F ρ G σ H) (hl : H l = none) (r : Rps F.K G ds xs) : ResR F ρ G (upd H l (.lst xs)) σ (.ow false ds) (.ref l) :=
  ⟨rfl, l, xs, rfl, s.hd l hl, none_of_same s.gh hl, upd_same, r, s.sl.away hl⟩
theorem newOp {P : Po} {G : Hp} {σ : L2.St} {H : Hp} {l : Addr} {o : HO} (s : SR F ρ G σ H) (hl : H l = none) (r : P.p G l o) : ResR F ρ G (upd H l o) σ (.op P) (.ref l) :=
  ⟨l, o, rfl, s.hd l hl, none_of_same s.gh hl, upd_same, r, s.sl.away hl⟩
theorem evn_listL (hm : X.mg "list" = none) (ha : EvD X F e ρ (.list ds) ρ1) (hgl : Gl X "list" := by rfl) (he : starEach [e] X.env = [(false, eval e X.env)] := by exact star_cons rfl) : EvS X F (.Call (.Name "list" p) [e] [] pos) ρ (.ow false ds) ρ1 :=
  ev_bltTy call_list_of hm (by decide +kernel) (eva_cons ha eva_nil trivial he) (fun G σ H vs Q s a q => by
    obtain ⟨v, rfl, r⟩ := argV1 a
    simp only [Rp] at r
    obtain ⟨ad, xs, rfl, r2, r3⟩ := r
    exact ⟨ad, xs, rfl, .inl (SqL.of (s.gh _ _ r2)), fun l hl => q _ G _ (s.layN hl) (Same.refl _) (newOw s hl r3)⟩) hgl (by decide) (by decide) he rfl
theorem evn_listT (hm : X.mg "list" = none) (ha : EvD X F e ρ (.tuple ds) ρ1) (hK : X.K = F.K := by first | rfl | assumption) (hgl : Gl X "list" := by rfl) (he : starEach [e] X.env = [(false, eval e X.env)] := by exact star_cons rfl) : EvS X F (.Call (.Name "list" p) [e] [] pos) ρ (.ow false ds) ρ1 :=
  ev_bltTy call_list_of hm (by decide +kernel) (eva_cons ha eva_nil trivial he) (fun G σ H vs Q s a q => by
    obtain ⟨v, rfl, r⟩ := argV1 a
    simp only [Rp] at r
    obtain ⟨ad, xs, rfl, r2, r3⟩ := r
    exact ⟨ad, xs, rfl, .inr (by rw [hK]; exact same_seqT s.gh r2), fun l hl => q _ G _ (s.layN hl) (Same.refl _) (newOw s hl r3)⟩) hgl (by decide) (by decide) he rfl
/-- repr of data -/
theorem call_reprD (hg : X.A.guards = some []) (hu : X.A.units + 100 < cLine) : CallR X (.builtin "repr") (fun vs H Q => ∃ v d, vs = [v] ∧ Dp X.K H v d ∧ (∃ a, v = .ref a) ∧ d.showable = true ∧ d.hasDict = false ∧ d.depth ≤ 64 ∧ d.shown.length ≤ sizeLine ∧ Q (.str d.shown) H) := by
  intro pins s σ H vs us Q I rv h
  obtain ⟨v, d, rfl, dp, ⟨a, rfl⟩, h1, h2, h3, h4, q⟩ := h
  obtain ⟨u, rfl, ru⟩ := Vals.one rv
  obtain rfl : u = Value.ref a := ru
  obtain ⟨as, rd⟩ := Dp.reads I d (.ref a) (.ref a) dp rfl
  refine repr_of_reads' rd h1 (fun z => by rw [h2] at z; cases z) hg (by omega) (fun b o e => e) (fun h' u tk hk => ?_) h4
  exact ⟨.str d.shown, H, I.kept hk, ⟨u, rfl⟩, q⟩
theorem ev_repr (hm : X.mg "repr" = none) (hg : X.A.guards = some []) (hu : X.A.units + 100 < cLine) (ha : EvD X F e ρ d ρ1) (hd : (∃ l, d = .list l) ∨ ∃ l, d = .tuple l) (h1 : d.showable = true) (h2 : d.hasDict = false) (h3 : d.depth ≤ 64) (h4 : d.shown.length ≤ sizeLine) (hK : X.K = F.K := by first | rfl | assumption) (hgl : Gl X "repr" := by rfl)
    (he : starEach [e] X.env = [(false, eval e X.env)] := by exact star_cons rfl) : EvD X F (.Call (.Name "repr" p) [e] [] pos) ρ (.str d.shown) ρ1 :=
  ev_blt (call_reprD hg hu) hm (by decide +kernel) (eva_cons ha eva_nil trivial he) (fun G σ H vs Q s a q => by
    obtain ⟨v, rfl, r⟩ := argV1 a
    refine ⟨v, d, rfl, by rw [hK]; exact Rp.dp s.gh d v r, ?_, h1, h2, h3, h4, q _ G H s (Same.refl _) res_str⟩
    rcases hd with ⟨l, rfl⟩ | ⟨l, rfl⟩
    · simp only [Rp] at r
      obtain ⟨ad, xs, rfl, _⟩ := r
      exact ⟨ad, rfl⟩
    · simp only [Rp] at r
      obtain ⟨ad, xs, rfl, _⟩ := r
      exact ⟨ad, rfl⟩) hgl (by decide) (by decide) he rfl
end
end DL
end
section
set_option maxHeartbeats 4000000
namespace DL
open PySem PySem.Spec PyProof.Rows L2

def FC.hold (F : FC) (p : Addr) (o : HO) : FC := ⟨F.K, F.G0, upd F.H0 p o, upd F.B p o, F.io, F.tabs, fun b u h => by
  by_cases e : b = p
  · subst e; rw [upd_same] at h ⊢; exact h
  · rw [upd_ne e] at h ⊢; exact F.bsub b u h⟩
section
variable {F : FC} {ρ ρ' : List Sl} {G H : Hp} {σ : L2.St} {p : Addr} {o : HO}
theorem SR.hold (s : SR F ρ G σ H) (hp : H p = some o) (hnt : ∀ ps, o ≠ .tbl ps) (hG : G p = none) (hn : NoOwn ρ σ p) : SR (F.hold p o) ρ G σ H where
  bh := fun b u h => by
    by_cases e : b = p
    · subst e
      have h' : upd F.B b o b = some u := h
      rw [upd_same] at h'; rw [← h']; exact hp
    · have h' : upd F.B p o b = some u := h
      rw [upd_ne e] at h'; exact s.bh b u h'
  hd := fun b h => by
    show upd F.H0 p o b = none
    by_cases e : b = p
    · subst e; rw [hp] at h; cases h
    · rw [upd_ne e]; exact s.hd b h
  g0 := s.g0
  gn := fun b h => by
    rcases s.gn b h with z | z
    · exact .inl z
    · refine .inr ?_
      show upd F.H0 p o b = none
      have e : b ≠ p := fun q => by subst q; exact h hG
      rw [upd_ne e]; exact z
  gh := s.gh
  sl := s.sl
  fr := fun i t a h w e => by
    show upd F.H0 p o a = none
    have ne : a ≠ p := fun q => by subst q; exact hn i _ h (Sl.new_own w) e
    rw [upd_ne ne]; exact s.fr i t a h w e
  io := fun i ds a h e => by
    obtain ⟨q1, q2⟩ := s.io i ds a h e
    refine ⟨q1, ?_⟩
    show upd F.B p o a = none
    have ne : a ≠ p := fun q => by subst q; exact hn i _ h rfl e
    rw [upd_ne ne]; exact q2
  tb := s.tb
  tg := s.tg
  tB := fun q hq => by
    show upd F.B p o q.1 = none
    obtain ⟨ps, e⟩ := tabs_at s.tb hq
    have ne : q.1 ≠ p := fun z => by rw [z, hp] at e; exact hnt ps (Option.some.inj e)
    rw [upd_ne ne]; exact s.tB q hq
theorem SR.unhold (s : SR (F.hold p o) ρ G σ H) (hB : F.B p = none) (h0 : F.H0 p = none) : SR F ρ G σ H where
  bh := fun b u h => s.bh b u (by
    show upd F.B p o b = some u
    have e : b ≠ p := fun q => by subst q; rw [hB] at h; cases h
    rw [upd_ne e]; exact h)
  hd := fun b h => by
    have q : upd F.H0 p o b = none := s.hd b h
    by_cases e : b = p
    · subst e; exact h0
    · rw [upd_ne e] at q; exact q
  g0 := s.g0
  gn := fun b h => by
    rcases s.gn b h with z | z
    · exact .inl z
    · refine .inr ?_
      have z : upd F.H0 p o b = none := z
      by_cases e : b = p
      · subst e; exact h0
      · rw [upd_ne e] at z; exact z
  gh := s.gh
  sl := s.sl
  fr := fun i t a h w e => by
    have z : upd F.H0 p o a = none := s.fr i t a h w e
    by_cases q : a = p
    · subst q; exact h0
    · rw [upd_ne q] at z; exact z
  io := fun i ds a h e => by
    obtain ⟨q1, q2⟩ := s.io i ds a h e
    have q2 : upd F.B p o a = none := q2
    refine ⟨q1, ?_⟩
    by_cases q : a = p
    · subst q; exact hB
    · rw [upd_ne q] at q2; exact q2
  tb := s.tb
  tg := s.tg
  tB := fun q hq => by
    have z : upd F.B p o q.1 = none := s.tB q hq
    by_cases e : q.1 = p
    · rw [e]; exact hB
    · rw [upd_ne e] at z; exact z
/-- what is held stays, unfrozen, in no slot -/
theorem SR.held (s : SR (F.hold p o) ρ G σ H) (hG0 : F.G0 p = none) : H p = some o ∧ G p = none ∧ NoOwn ρ σ p := by
  have hb : (F.hold p o).B p = some o := upd_same
  refine ⟨s.bh p o hb, ?_, fun i t h w e => ?_⟩
  · cases e : G p with
    | none => rfl
    | some u =>
      rcases s.gn p (by rw [e]; simp) with z | z
      · exact absurd hG0 z
      · have z : upd F.H0 p o p = none := z
        rw [upd_same] at z; cases z
  · have := s.ownB h w e
    rw [hb] at this; cases this
end

section
variable {X : Cx} {F : FC} {ρ ρ1 ρ2 ρ3 : List Sl} {st : Stmt} {sts : List Stmt} {es : List Expr} {e a b c : Expr} {pos p p2 pos' : Pos} {R : Out} {s s1 s2 : Sl} {ds : List PyData} {d : PyData}
theorem exb_nil : ExB X F [] ρ (.nx ρ) := fun G σ H D W sr tk k => toWB pss_nil (k G σ H sr (Same.refl _))
theorem exb_cons (h : ExS X F st ρ (.nx ρ1)) (t : ExB X F sts ρ1 R) : ExB X F (st :: sts) ρ R := fun G σ H D W sr tk k =>
  toWB (pss_cons psW pbW) (h G σ H _ W sr tk fun G1 σ1 H1 s1 g1 => t G1 σ1 H1 D W s1 tk (k.le g1))
/-- the block ends here -/
theorem exb_stop (h : ExS X F st ρ R) (hR : (match R with | .nx _ => False | _ => True) := by trivial) : ExB X F (st :: sts) ρ R := fun G σ H D W sr tk k =>
  toWB (pss_cons psW pss_never) (h G σ H _ W sr tk (by cases R <;> first | exact hR.elim | exact k))
theorem exb_one (h : ExS X F st ρ R) : ExB X F [st] ρ R := fun G σ H D W sr tk k => toWB (pss_one psW) (h G σ H D W sr tk k)

theorem exs_pass : ExS X F (.Pass pos) ρ (.nx ρ) := fun G σ H D W sr tk k => toWS ps_pass (k G σ H sr (Same.refl _))
theorem exs_break : ExS X F (.Break pos) ρ (.bk ρ) := fun G σ H D W sr tk k => toWS ps_break (k G σ H sr (Same.refl _))
theorem exs_continue : ExS X F (.Continue pos) ρ (.ct ρ) := fun G σ H D W sr tk k => toWS ps_continue (k G σ H sr (Same.refl _))
theorem exs_expr (h : EvS X F e ρ s ρ1) (hs : swapsWith e none pos.line X.env = pure false := by rfl) : ExS X F (.Expr e pos) ρ (.nx ρ1) := fun G σ H D W sr tk k =>
  toWS (ps_expr peW hs) (h G σ H _ sr fun v G1 H1 s1 g1 _ => k G1 σ H1 s1 g1)
theorem exs_exprX {C : Addr} {fs : List (Str × PyData)} (h : EvX X F e ρ C fs ρ1) (hs : swapsWith e none pos.line X.env = pure false := by rfl) : ExS X F (.Expr e pos) ρ (.ex C fs ρ1) := fun G σ H D W sr tk k =>
  toWS (ps_expr peW hs) (h G σ H _ W sr tk fun dd fv G1 H1 s1 g1 q1 q2 => k dd fv G1 σ H1 s1 g1 q1 q2)
theorem exs_ret (h : EvS X F e ρ s ρ1) : ExS X F (.Return (some e) pos) ρ (.rt s ρ1) := fun G σ H D W sr tk k =>
  toWS (ps_ret peW) (h G σ H _ sr fun v G1 H1 s1 g1 r => k v G1 σ H1 s1 g1 r)
theorem exs_retX {C : Addr} {fs : List (Str × PyData)} (h : EvX X F e ρ C fs ρ1) : ExS X F (.Return (some e) pos) ρ (.ex C fs ρ1) := fun G σ H D W sr tk k =>
  toWS (ps_ret peW) (h G σ H _ W sr tk fun dd fv G1 H1 s1 g1 q1 q2 => k dd fv G1 σ H1 s1 g1 q1 q2)
theorem exs_retN : ExS X F (.Return none pos) ρ (.rt (.fz .none) ρ) := fun G σ H D W sr tk k => toWS ps_retN (k .non G σ H sr (Same.refl _) res_non)
theorem exs_ifT {A B : List Stmt} (hc : EvT X F c ρ true ρ1) (h : ExB X F A ρ1 R) : ExS X F (.If c A B pos) ρ R := fun G σ H D W sr tk k =>
  toWS (ps_if ptW pbW pbW) (hc G σ H _ sr fun G1 H1 s1 g1 => h G1 σ H1 D W s1 tk (k.le g1))
theorem exs_ifF {A B : List Stmt} (hc : EvT X F c ρ false ρ1) (h : ExB X F B ρ1 R) : ExS X F (.If c A B pos) ρ R := fun G σ H D W sr tk k =>
  toWS (ps_if ptW pbW pbW) (hc G σ H _ sr fun G1 H1 s1 g1 => by
    rw [if_neg Bool.false_ne_true]
    exact h G1 σ H1 D W s1 tk (k.le g1))
theorem exs_if {A B : List Stmt} {x : Bool} (hc : EvT X F c ρ x ρ1) (h1 : x = true → ExB X F A ρ1 R) (h2 : x = false → ExB X F B ρ1 R) : ExS X F (.If c A B pos) ρ R := by
  cases x with
  | true => exact exs_ifT hc (h1 rfl)
  | false => exact exs_ifF hc (h2 rfl)

/-- a slot takes what an expression hands back -/
theorem SR.put {G H : Hp} {σ : L2.St} {v : V} (sr : SR F ρ G σ H) (n : Nat) (hn : n < ρ.length) (r : ResR F ρ G H σ s v) : SR F (ρ.set n s) G (σ.set n (some v)) H := by
  cases s with
  | un => exact r.elim
  | fz d => exact sr.setFz n hn r
  | vv u => obtain rfl : v = u := r; exact sr.setVV n hn
  | pv P => exact sr.setPv n hn r
  | ow io ds =>
    obtain ⟨rfl, p, xs, rfl, h0, hG, hH, q, hq⟩ := r
    exact sr.setOw n hn hH h0 hG q hq
  | op P =>
    obtain ⟨p, o, rfl, h0, hG, hH, q, hq⟩ := r
    exact sr.setOp n hn hH h0 hG q hq
/-- a result beside a slot that is set -/
theorem ResR.beside {G H : Hp} {σ : L2.St} {t : Sl} {u v : V} {n : Nat} (r : ResR F ρ G H σ s u) (hσ : n < σ.length) (ne : t.own = true → ∀ a, v = .ref a → u ≠ .ref a) : ResR F (ρ.set n t) G H (σ.set n (some v)) s u := by
  have key : ∀ p, u = .ref p → NoOwn ρ σ p → NoOwn (ρ.set n t) (σ.set n (some v)) p := fun p e no i t' z o w => by
    rcases set_at z with ⟨rfl, rfl, _⟩ | ⟨h, z⟩
    · rw [List.getElem?_set_self hσ] at w
      exact ne o p (Option.some.inj (Option.some.inj w)) e
    · rw [List.getElem?_set_ne (Ne.symm h)] at w
      exact no i t' z o w
  cases s with
  | un => exact r
  | fz d => exact r
  | vv w => exact r
  | pv P => exact r
  | ow io ds =>
    obtain ⟨e0, p, xs, e, w0, w1, w2, w3, w4⟩ := r
    exact ⟨e0, p, xs, e, w0, w1, w2, w3, key p e w4⟩
  | op P =>
    obtain ⟨p, o, e, w0, w1, w2, w3, w4⟩ := r
    exact ⟨p, o, e, w0, w1, w2, w3, key p e w4⟩
theorem exs_set (n : Nat) {x : Str} (h : EvS X F e ρ s ρ1) (hn : n < ρ1.length) (nd : X.N.Nodup) (hN : X.N[n]? = some x := by rfl) (hx : Loc X.env.scope x := by first | exact Or.inl rfl | exact Or.inr rfl) (hs : swapsWith e (some (.Name x pos')) pos.line X.env = pure false := by rfl)
    (hf : X.fn x = true ∨ X.env.scope.names.lookup x = some .local := by first | exact .inl rfl | exact .inr rfl) : ExS X F (.Assign [.Name x pos'] e pos) ρ (.nx (ρ1.set n s)) := fun G σ H D W sr tk k =>
  toWS (ps_set nd hN hx peW hs hf) (h G σ H _ sr fun v G1 H1 s1 g1 r => k G1 _ H1 (s1.put n hn r) g1)
theorem exs_setX (n : Nat) {x : Str} {C : Addr} {fs : List (Str × PyData)} (h : EvX X F e ρ C fs ρ1) (nd : X.N.Nodup) (hN : X.N[n]? = some x := by rfl) (hx : Loc X.env.scope x := by first | exact Or.inl rfl | exact Or.inr rfl) (hs : swapsWith e (some (.Name x pos')) pos.line X.env = pure false := by rfl)
    (hf : X.fn x = true ∨ X.env.scope.names.lookup x = some .local := by first | exact .inl rfl | exact .inr rfl) : ExS X F (.Assign [.Name x pos'] e pos) ρ (.ex C fs ρ1) := fun G σ H D W sr tk k =>
  toWS (ps_set nd hN hx peW hs hf) (h G σ H _ W sr tk fun dd fv G1 H1 s1 g1 q1 q2 => k dd fv G1 σ H1 s1 g1 q1 q2)

def setAll (ρ : List Sl) (b : List (Nat × PyData)) : List Sl := b.foldl (fun r p => r.set p.1 (.fz p.2)) ρ
theorem setAll_length : ∀ {b : List (Nat × PyData)} {ρ : List Sl}, (setAll ρ b).length = ρ.length
  | [], ρ => rfl
  | p :: b, ρ => by
    show (setAll (ρ.set p.1 (.fz p.2)) b).length = _
    rw [setAll_length]; simp
/-- names as targets, in order: their slots -/
inductive TgNames (X : Cx) : List Expr → List Nat → Prop where
  | nil : TgNames X [] []
  | cons {x : Str} {p : Pos} {es : List Expr} {n : Nat} {ns : List Nat} (nd : X.N.Nodup) (hN : X.N[n]? = some x) (hx : Loc X.env.scope x) (hf : X.fn x = true ∨ X.env.scope.names.lookup x = some .local)
      (hs : (assignEach (.Name x p :: es) X.env).map (·.2) = assign (.Name x p) X.env :: (assignEach es X.env).map (·.2)) (t : TgNames X es ns) : TgNames X (.Name x p :: es) (n :: ns)
def gNames : List Nat → TGs
  | [] => gNil
  | n :: ns => gCons (gName n) (gNames ns)
theorem TgNames.pgs {es : List Expr} {ns : List Nat} (h : TgNames X es ns) : PGs X es (gNames ns) := by
  induction h with
  | nil => exact pgs_nil
  | cons nd hN hx hf hs t ih => exact pgs_cons (pg_name nd hN hx hf) ih hs
/-- σ and σ' differ in these slots alone -/
def Diff (ns : List Nat) (σ σ' : L2.St) : Prop := σ'.length = σ.length ∧ ∀ i, i ∉ ns → σ'[i]? = σ[i]?
theorem names_put : ∀ {ns : List Nat} {ds : List PyData} {xs : List V} {ρ : List Sl} {G H : Hp} {σ : L2.St} {Q : L2.St → Hp → Prop}, SR F ρ G σ H → Rps F.K G ds xs → ns.length = ds.length → (∀ n ∈ ns, n < ρ.length) →
    (∀ σ', SR F (setAll ρ (ns.zip ds)) G σ' H → Diff ns σ σ' → Q σ' H) → gNames ns xs σ H Q
  | [], ds, xs, ρ, G, H, σ, Q, s, r, l, hn, k => by
    obtain rfl : ds = [] := List.length_eq_zero_iff.mp l.symm
    simp only [Rps] at r; subst r
    exact ⟨rfl, k σ s ⟨rfl, fun _ _ => rfl⟩⟩
  | n :: ns, [], xs, ρ, G, H, σ, Q, s, r, l, hn, k => by cases l
  | n :: ns, d :: ds, xs, ρ, G, H, σ, Q, s, r, l, hn, k => by
    simp only [Rps] at r
    obtain ⟨v, vs, rfl, r1, r2⟩ := r
    refine ⟨v, vs, rfl, ?_⟩
    show gNames ns vs (σ.set n (some v)) H Q
    refine names_put (s.setFz n (hn n (by simp)) r1) r2 (by simpa using l) (fun m hm => by rw [List.length_set]; exact hn m (by simp [hm])) fun σ' s' df => k σ' s' ⟨by rw [df.1]; simp, fun i hi => ?_⟩
    rw [df.2 i fun z => hi (List.mem_cons_of_mem _ z), List.getElem?_set_ne fun z => hi (by rw [z]; exact List.mem_cons_self)]
/-- a, b, .. = a tuple -/
theorem exs_names {ns : List Nat} {kk : Nat} (h : EvD X F e ρ (.tuple ds) ρ1) (t : TgNames X es ns) (hl : ns.length = ds.length) (hn : ∀ n ∈ ns, n < ρ1.length) (hc : X.calm = true := by rfl) (hK : X.K = F.K := by first | rfl | assumption)
    (hes : (assignEach es X.env).length = ns.length := by rfl) (hst : (assignEach es X.env).findIdx? (·.1) = none := by rfl) (hs : swapsWithSole [.Tuple es kk pos'] e pos.line X.env = pure false := by rfl) (hw : swappedStores [.Tuple es kk pos'] e X.env = pure none := by rfl)
    (h1 : (assignEach [.Tuple es kk pos'] X.env).map (·.2) = [assign (.Tuple es kk pos') X.env] := by rfl) : ExS X F (.Assign [.Tuple es kk pos'] e pos) ρ (.nx (setAll ρ1 (ns.zip ds))) := fun G σ H D W sr tk k =>
  toWS (ps_asg peW (pg_tup hc t.pgs hes hst) hs hw h1) (h G σ H _ sr fun v G1 H1 s1 g1 r => by
    simp only [ResR, Rp] at r
    obtain ⟨a, xs, rfl, r2, r3⟩ := r
    exact ⟨a, xs, rfl, by rw [hK]; exact same_seqT s1.gh r2, by rw [r3.length, hl], names_put s1 r3 hl hn fun σ' s' _ => k G1 σ' H1 s' g1⟩)
/-- a, b = x, y with plain local names -/
theorem exs_par2 (n m : Nat) {x y : Str} {px py pt : Pos} {kt k2 : Nat} {pt2 : Pos} (h1 : EvS X F a ρ s1 ρ1) (h2 : ∀ F', F'.K = F.K → EvS X F' b ρ1 s2 ρ2) (hn : n < ρ2.length) (hm : m < ρ2.length) (nd : X.N.Nodup)
    (hi : X.N[n]? = some x := by rfl) (hj : X.N[m]? = some y := by rfl) (hij : n ≠ m := by decide) (hc : X.calm = true := by rfl) (hx : X.env.scope.names.lookup x = some .local := by rfl) (hy : X.env.scope.names.lookup y = some .local := by rfl)
    (ha1 : starEach (a :: [b]) X.env = (false, eval a X.env) :: starEach [b] X.env := by exact star_cons rfl) (ha2 : starEach (b :: []) X.env = (false, eval b X.env) :: starEach [] X.env := by exact star_cons rfl)
    (hw : swappedStores [.Tuple [.Name x px, .Name y py] kt pt] (.Tuple [a, b] k2 pt2) X.env = pure (some [x, y]) := by rfl)
    (hs : swapsWithSole [.Tuple [.Name x px, .Name y py] kt pt] (.Tuple [a, b] k2 pt2) pos.line X.env = pure false := by rfl) : ExS X F (.Assign [.Tuple [.Name x px, .Name y py] kt pt] (.Tuple [a, b] k2 pt2) pos) ρ (.nx ((ρ2.set n s1).set m s2)) := fun G σ H D W sr tk k => by
  refine toWS (ps_par hc nd hi hj hij hx hy (pa_cons peW (pa_cons peW pa_nil ha2) ha1) hw hs) (h1 G σ H _ sr fun v G1 H1 q1 g1 r1 => ?_)
  have plain : s1.own = false → SlV F.K G1 H1 s1 v → (∀ G2, Same G1 G2 → ∀ H2, SlV F.K G2 H2 s1 v) → ∀ u G2 H2, SR F ρ2 G2 σ H2 → Same G1 G2 → ResR F ρ2 G2 H2 σ s2 u → D.nx ((σ.set n (some v)).set m (some u)) H2 := fun ho _ r1 u G2 H2 q2 g2 r2 => by
    have hσ : n < σ.length := by rw [q2.sl.len]; exact hn
    have e1 := q2.setV n hn (r1 G2 g2 H2) (fun o => by rw [ho] at o; cases o) fun ds z => by rw [z] at ho; cases ho
    exact k G2 _ H2 (e1.put m (by simpa using hm) (s := s2) (v := u) (r2.beside hσ fun o => by rw [ho] at o; cases o)) (g1.trans g2)
  have own1 : ∀ p o, v = .ref p → H1 p = some o → F.H0 p = none → G1 p = none → (∀ G2 H2, SR F ρ2 G2 σ H2 → Same G1 G2 → H2 p = some o → G2 p = none → NoOwn ρ2 σ p → SR F (ρ2.set n s1) G2 (σ.set n (some v)) H2) →
      ∀ u G2 H2, SR (F.hold p o) ρ2 G2 σ H2 → Same G1 G2 → ResR (F.hold p o) ρ2 G2 H2 σ s2 u → D.nx ((σ.set n (some v)).set m (some u)) H2 := fun p o e hH h0 hG put u G2 H2 q2 g2 r2 => by
    have hG0 : F.G0 p = none := none_of_same q1.g0 hG
    obtain ⟨z1, z2, z3⟩ := q2.held hG0
    have q3 := q2.unhold (q1.bn h0) h0
    have hσ : n < σ.length := by rw [q2.sl.len]; exact hn
    have uf : ∀ p', upd F.H0 p o p' = none → p' ≠ p ∧ F.H0 p' = none := fun p' w0 => by
      have ne : p' ≠ p := fun z => by subst z; rw [upd_same] at w0; cases w0
      rw [upd_ne ne] at w0
      exact ⟨ne, w0⟩
    have r3 : ResR F ρ2 G2 H2 σ s2 u ∧ u ≠ .ref p ∨ (ResR F ρ2 G2 H2 σ s2 u ∧ s2.own = false) := by
      cases s2 with
      | un => exact .inr ⟨r2, rfl⟩
      | fz d => exact .inr ⟨r2, rfl⟩
      | vv w => exact .inr ⟨r2, rfl⟩
      | pv P => exact .inr ⟨r2, rfl⟩
      | ow io ds =>
        obtain ⟨e0, p', xs, e', w0, w1, w2, w3, w4⟩ := r2
        obtain ⟨n1, n2⟩ := uf p' w0
        exact .inl ⟨⟨e0, p', xs, e', n2, w1, w2, w3, w4⟩, fun z => n1 (by rw [e'] at z; cases z; rfl)⟩
      | op P =>
        obtain ⟨p', o', e', w0, w1, w2, w3, w4⟩ := r2
        obtain ⟨n1, n2⟩ := uf p' w0
        exact .inl ⟨⟨p', o', e', n2, w1, w2, w3, w4⟩, fun z => n1 (by rw [e'] at z; cases z; rfl)⟩
    have e1 := put G2 H2 q3 g2 z1 z2 z3
    refine k G2 _ H2 (e1.put m (by simpa using hm) (s := s2) (v := u) ?_) (g1.trans g2)
    rcases r3 with ⟨r3, ne⟩ | ⟨r3, no⟩
    · exact r3.beside hσ fun _ a ev => by rw [e] at ev; cases ev; exact ne
    · cases s2 with
      | un => exact r3
      | fz d => exact r3
      | vv w => exact r3
      | pv P => exact r3
      | ow io ds => cases no
      | op P => cases no
  cases s1 with
  | un => exact r1.elim
  | fz d => exact h2 F rfl G1 σ H1 _ q1 fun u G2 H2 q2 g2 r2 => ⟨v, u, rfl, plain rfl r1 (fun G2 g H2 => Rp.mono g d v r1) u G2 H2 q2 g2 r2⟩
  | vv w => exact h2 F rfl G1 σ H1 _ q1 fun u G2 H2 q2 g2 r2 => ⟨v, u, rfl, plain rfl r1 (fun G2 g H2 => r1) u G2 H2 q2 g2 r2⟩
  | pv P => exact h2 F rfl G1 σ H1 _ q1 fun u G2 H2 q2 g2 r2 => ⟨v, u, rfl, plain rfl r1 (fun G2 g H2 => P.mono _ _ v g r1) u G2 H2 q2 g2 r2⟩
  | ow io ds =>
    obtain ⟨rfl, p, xs, e, h0, hG, hH, rr, hq⟩ := r1
    exact h2 (F.hold p (.lst xs)) rfl G1 σ H1 _ (q1.hold hH (fun ps z => by cases z) hG hq) fun u G2 H2 q2 g2 r2 => ⟨v, u, rfl, own1 p _ e hH h0 hG (fun G3 H3 q3 g3 z1 z2 z3 => by
      subst e
      exact q3.setOw n hn z1 h0 z2 (Rps.mono g3 ds xs rr) z3) u G2 H2 q2 g2 r2⟩
  | op P =>
    obtain ⟨p, o, e, h0, hG, hH, rr, hq⟩ := r1
    exact h2 (F.hold p o) rfl G1 σ H1 _ (q1.hold hH (P.nt _ _ _ rr).1 hG hq) fun u G2 H2 q2 g2 r2 => ⟨v, u, rfl, own1 p _ e hH h0 hG (fun G3 H3 q3 g3 z1 z2 z3 => by
      subst e
      exact q3.setOp n hn z1 h0 z2 (P.mono _ _ _ o g3 rr) z3) u G2 H2 q2 g2 r2⟩
/-- a, b, c = x, y, z with plain local names, no own lists -/
theorem exs_par3 (n m l : Nat) {x y z : Str} {px py pz pt : Pos} {kt k2 : Nat} {pt2 : Pos} {d1 d2 d3 : PyData} (h1 : EvD X F a ρ d1 ρ1) (h2 : EvD X F b ρ1 d2 ρ2) (h3 : EvD X F c ρ2 d3 ρ3) (hn : n < ρ3.length) (hm : m < ρ3.length) (hl : l < ρ3.length) (nd : X.N.Nodup)
    (hi : X.N[n]? = some x := by rfl) (hj : X.N[m]? = some y := by rfl) (hk : X.N[l]? = some z := by rfl) (hij : n ≠ m := by decide) (hil : n ≠ l := by decide) (hjl : m ≠ l := by decide) (hc : X.calm = true := by rfl) (hx : X.env.scope.names.lookup x = some .local := by rfl) (hy : X.env.scope.names.lookup y = some .local := by rfl) (hz : X.env.scope.names.lookup z = some .local := by rfl)
    (ha1 : starEach (a :: [b, c]) X.env = (false, eval a X.env) :: starEach [b, c] X.env := by exact star_cons rfl) (ha2 : starEach (b :: [c]) X.env = (false, eval b X.env) :: starEach [c] X.env := by exact star_cons rfl) (ha3 : starEach (c :: []) X.env = (false, eval c X.env) :: starEach [] X.env := by exact star_cons rfl)
    (hw : swappedStores [.Tuple [.Name x px, .Name y py, .Name z pz] kt pt] (.Tuple [a, b, c] k2 pt2) X.env = pure (some [x, y, z]) := by rfl)
    (hs : swapsWithSole [.Tuple [.Name x px, .Name y py, .Name z pz] kt pt] (.Tuple [a, b, c] k2 pt2) pos.line X.env = pure false := by rfl) : ExS X F (.Assign [.Tuple [.Name x px, .Name y py, .Name z pz] kt pt] (.Tuple [a, b, c] k2 pt2) pos) ρ (.nx (((ρ3.set n (.fz d1)).set m (.fz d2)).set l (.fz d3))) := fun G σ H D W sr tk k =>
  toWS (ps_par3 hc nd hi hj hk hij hil hjl hx hy hz (pa_cons peW (pa_cons peW (pa_cons peW pa_nil ha3) ha2) ha1) hw hs) (h1 G σ H _ sr fun v1 G1 H1 q1 g1 r1 => h2 G1 σ H1 _ q1 fun v2 G2 H2 q2 g2 r2 => h3 G2 σ H2 _ q2 fun v3 G3 H3 q3 g3 r3 =>
    ⟨v1, v2, v3, rfl, k G3 _ H3 (((q3.setFz n hn (Rp.mono (g2.trans g3) _ _ r1)).setFz m (by simpa using hm) (Rp.mono g3 _ _ r2)).setFz l (by simpa using hl) r3) (g1.trans (g2.trans g3))⟩)
/-- v[i] = e, v an own list -/
theorem exs_item (n : Nat) {v0 : Str} {bo bo2 : Bool} {i : Int} {j : Nat} {ds2 : List PyData} (h : EvD X F e ρ d ρ1) (h0 : ρ1[n]? = some (.ow bo2 ds2)) (hb : EvD X F b ρ1 (.int i) ρ2) (hn : ρ2[n]? = some (.ow bo ds)) (hj : ixN ds.length i = some j) (hN : X.N[n]? = some v0 := by rfl) (hv : Vis X.env.scope v0 := by first | exact Or.inl rfl | exact Or.inr (Or.inl rfl) | exact Or.inr (Or.inr rfl))
    (hvd : (v0 == ("__debug__" : Str)) = false := by decide) (hvc : (v0 == ("__classdict__" : Str)) = false := by decide)
    (ha : ∀ v, assign (.Subscript (.Name v0 p2) b pos') X.env v = (do
      let ov ← holding [v] (eval (.Name v0 p2) X.env)
      let iv ← holding [v, ov] (eval b X.env)
      standAt pos'
      holding [v, ov, iv] (setItem ov iv v)
      release [v, ov, iv] []) := by intro _; rfl)
    (hs : swapsWithSole [.Subscript (.Name v0 p2) b pos'] e pos.line X.env = pure false := by rfl) (hw : swappedStores [.Subscript (.Name v0 p2) b pos'] e X.env = pure none := by rfl)
    (h1 : (assignEach [.Subscript (.Name v0 p2) b pos'] X.env).map (·.2) = [assign (.Subscript (.Name v0 p2) b pos') X.env] := by rfl) : ExS X F (.Assign [.Subscript (.Name v0 p2) b pos'] e pos) ρ (.nx (ρ2.set n (.ow bo (ds.set j d)))) := fun G σ H D W sr tk k =>
  toWS (ps_asg peW (pg_sub (pe_var hN hv hvd hvc) peW set_list ha) hs hw h1) (h G σ H _ sr fun v G1 H1 q1 g1 r1 => by
    obtain ⟨ad, _, w1, _⟩ := q1.sl.ow n bo2 ds2 h0
    refine ⟨_, w1, hb G1 σ H1 _ q1 fun u G2 H2 q2 g2 r2 => ?_⟩
    simp only [ResR, Rp] at r2; subst r2
    obtain ⟨ad', xs, z1, z2, z3, z4⟩ := q2.sl.ow n bo ds hn
    rw [w1] at z1; cases z1
    exact ⟨ad, xs, i, j, rfl, rfl, z3, by rw [z4.length]; exact hj, k G2 σ _ (q2.chOw hn w1 (z4.set j (Rp.mono g2 d v r1))) (g1.trans g2)⟩)

/-- v.append(e) -/
theorem ev_append (n : Nat) {v0 : Str} {bo bo2 : Bool} {ds2 : List PyData} {apos : Pos} (h0 : ρ[n]? = some (.ow bo2 ds2)) (hb : EvD X F b ρ d ρ1) (hn : ρ1[n]? = some (.ow bo ds)) (hz : ds.length < sizeLine) (hN : X.N[n]? = some v0 := by rfl) (hv : Vis X.env.scope v0 := by first | exact Or.inl rfl | exact Or.inr (Or.inl rfl) | exact Or.inr (Or.inr rfl))
    (hvd : (v0 == ("__debug__" : Str)) = false := by decide) (hvc : (v0 == ("__classdict__" : Str)) = false := by decide) (he : starEach [b] X.env = [(false, eval b X.env)] := by exact star_cons rfl) (pe : ∀ {to : TE} {t : TA}, PE X (.Name v0 p2) to → PA X [b] t → PE X (.Call (.Attribute (.Name v0 p2) "append" apos) [b] [] pos) (tBM X.K "list" rAppend to t) := by
      exact fun ho ha => pe_bm PySem.F.plainAttrs_list PySem.F.slot_list_append PySem.F.type_list_append mt_append ho ha) :
    EvD X F (.Call (.Attribute (.Name v0 p2) "append" apos) [b] [] pos) ρ .none (ρ1.set n (.ow bo (ds ++ [d]))) := fun G σ H Q sr k => by
  obtain ⟨ad, xs0, w1, w2, w3, w4⟩ := sr.sl.ow n bo2 ds2 h0
  refine toW (pe (pe_var hN hv hvd hvc) (pa_cons peW pa_nil he)) ⟨_, w1, .inl ⟨rfl, _, SqL.of w3⟩, hb G σ H _ sr fun u G1 H1 q1 g1 r1 => ?_⟩
  obtain ⟨ad', xs, z1, z2, z3, z4⟩ := q1.sl.ow n bo ds hn
  rw [w1] at z1; cases z1
  exact ⟨ad, xs, u, rfl, rfl, z3, by rw [z4.length]; exact hz, k _ G1 _ (q1.chOw hn w1 (z4.append (Rps.cons r1 Rps.nil))) g1 res_non⟩
/-- v.pop(e) -/
theorem ev_popAt (n : Nat) {v0 : Str} {bo bo2 : Bool} {ds2 : List PyData} {apos : Pos} {i : Int} {j : Nat} (h0 : ρ[n]? = some (.ow bo2 ds2)) (hb : EvD X F b ρ (.int i) ρ1) (hn : ρ1[n]? = some (.ow bo ds)) (hi : -(2 ^ 63) ≤ i ∧ i < 2 ^ 63) (hj : seqIndex? i ds.length = some j) (hd : ds[j]? = some d) (hN : X.N[n]? = some v0 := by rfl) (hv : Vis X.env.scope v0 := by first | exact Or.inl rfl | exact Or.inr (Or.inl rfl) | exact Or.inr (Or.inr rfl))
    (hvd : (v0 == ("__debug__" : Str)) = false := by decide) (hvc : (v0 == ("__classdict__" : Str)) = false := by decide) (he : starEach [b] X.env = [(false, eval b X.env)] := by exact star_cons rfl) (pe : ∀ {to : TE} {t : TA}, PE X (.Name v0 p2) to → PA X [b] t → PE X (.Call (.Attribute (.Name v0 p2) "pop" apos) [b] [] pos) (tBM X.K "list" rPopAt to t) := by
      exact fun ho ha => pe_bm PySem.F.plainAttrs_list PySem.F.slot_list_pop PySem.F.type_list_pop mt_popAt ho ha) :
    EvD X F (.Call (.Attribute (.Name v0 p2) "pop" apos) [b] [] pos) ρ d (ρ1.set n (.ow bo (ds.eraseIdx j))) := fun G σ H Q sr k => by
  obtain ⟨ad, xs0, w1, w2, w3, w4⟩ := sr.sl.ow n bo2 ds2 h0
  refine toW (pe (pe_var hN hv hvd hvc) (pa_cons peW pa_nil he)) ⟨_, w1, .inl ⟨rfl, _, SqL.of w3⟩, hb G σ H _ sr fun u G1 H1 q1 g1 r1 => ?_⟩
  simp only [ResR, Rp] at r1; subst r1
  obtain ⟨ad', xs, z1, z2, z3, z4⟩ := q1.sl.ow n bo ds hn
  rw [w1] at z1; cases z1
  obtain ⟨v, y1, y2⟩ := z4.get hd
  exact ⟨ad, xs, i, j, v, rfl, rfl, z3, hi.1, hi.2, by rw [z4.length]; exact hj, y1, k _ G1 _ (q1.chOw hn w1 (z4.eraseIdx j)) g1 y2⟩
/-- v.pop() -/
theorem ev_pop (n : Nat) {v0 : Str} {bo : Bool} {apos : Pos} (hn : ρ[n]? = some (.ow bo ds)) (hd : ds[ds.length - 1]? = some d) (hN : X.N[n]? = some v0 := by rfl) (hv : Vis X.env.scope v0 := by first | exact Or.inl rfl | exact Or.inr (Or.inl rfl) | exact Or.inr (Or.inr rfl))
    (hvd : (v0 == ("__debug__" : Str)) = false := by decide) (hvc : (v0 == ("__classdict__" : Str)) = false := by decide) (pe : ∀ {to : TE}, PE X (.Name v0 p2) to → PE X (.Call (.Attribute (.Name v0 p2) "pop" apos) [] [] pos) (tBM0 X.K "list" rPop to) := by
      exact fun ho => pe_bm0 PySem.F.plainAttrs_list PySem.F.slot_list_pop PySem.F.type_list_pop mt_pop ho) :
    EvD X F (.Call (.Attribute (.Name v0 p2) "pop" apos) [] [] pos) ρ d (ρ.set n (.ow bo ds.dropLast)) := fun G σ H Q sr k => by
  obtain ⟨ad, xs, w1, w2, w3, w4⟩ := sr.sl.ow n bo ds hn
  obtain ⟨v, y1, y2⟩ := w4.get hd
  exact toW (pe (pe_var hN hv hvd hvc)) ⟨_, w1, .inl ⟨rfl, _, SqL.of w3⟩, ad, xs, v, rfl, rfl, w3, by rw [w4.length]; exact y1, k _ G _ (sr.chOw hn w1 w4.dropLast) (Same.refl _) y2⟩
end
end DL
end
section
set_option maxHeartbeats 4000000
namespace DL
open PySem PySem.Spec PyProof.Rows L2

/-- a walk yields these bindings (slots and data), turn by turn -/
structure Yl (K : PySem.W.Frag) (J : It) (g : TG) (bs : List (List (Nat × PyData))) (G1 : Hp) : Prop where
  stop : ∀ H, Same G1 H → J.stop bs.length H
  go : ∀ i, i < bs.length → ∀ H, Same G1 H → J.go i H
  turn : ∀ (i : Nat) b, bs[i]? = some b → ∀ (F : FC) (ρ : List Sl) (G : Hp) (σ : L2.St) (H : Hp) (x : V) (H' : Hp), F.K = K → SR F ρ G σ H → Same G1 G → (∀ p ∈ b, p.1 < ρ.length) → J.yld i H x H' →
    ∀ Q : L2.St → Hp → Prop, (∀ G' σ' H'', SR F (setAll ρ b) G' σ' H'' → Same G G' → Same H H'' → Diff (b.map (·.1)) σ σ' → Q σ' H'') → g x σ H' Q
/-- what is walked -/
structure Src (X : Cx) (F : FC) (tg iter : Expr) (wi : TI) (g : TG) (ρ : List Sl) (bs : List (List (Nat × PyData))) (ρ1 : List Sl) : Prop where
  pi : PI X tg iter wi
  run : ∀ (G : Hp) (σ : L2.St) (H : Hp) (R : It → Hp → Prop), SR F ρ G σ H → (∀ J G1 H1, SR F ρ1 G1 σ H1 → Same G G1 → Yl F.K J g bs G1 → R J H1) → wi σ H R

section
variable {X : Cx} {F : FC} {ρ ρ1 ρ2 : List Sl} {tg iter e a b : Expr} {es : List Expr} {ds : List PyData} {n : Nat} {p pos : Pos} {i j : Int}
def one (n : Nat) (ds : List PyData) : List (List (Nat × PyData)) := ds.map fun d => [(n, d)]
theorem diff_set {σ : L2.St} {n : Nat} {v : Option V} : Diff [n] σ (σ.set n v) := ⟨by simp, fun i hi => by
  rw [List.getElem?_set_ne]; simp at hi; exact fun z => hi z.symm⟩
theorem one_get {i : Nat} {b : List (Nat × PyData)} (h : (one n ds)[i]? = some b) : ∃ d, ds[i]? = some d ∧ b = [(n, d)] := by
  unfold one at h
  rw [List.getElem?_map] at h
  cases e : ds[i]? with
  | none => rw [e] at h; cases h
  | some d => rw [e] at h; cases h; exact ⟨d, rfl, rfl⟩
theorem src_list (h : EvD X F iter ρ (.list ds) ρ1) : Src X F tg iter (iList X.K (tW X iter)) (gName n) ρ (one n ds) ρ1 where
  pi := pi_list peW
  run := fun G σ H R sr k => h G σ H _ sr fun v G1 H1 s1 g1 r => by
    simp only [ResR, Rp] at r
    obtain ⟨ad, xs, rfl, r2, r3⟩ := r
    refine ⟨ad, rfl, ⟨xs, SqL.of (s1.gh _ _ r2)⟩, k _ G1 H1 s1 g1 ⟨fun H m => ⟨xs, SqL.of (m _ _ r2), by rw [r3.length]; simp [one]⟩, fun i hi H m => ?_, fun i b hb F' ρ' G' σ' H' x H'' hK s' m hn y Q q => ?_⟩⟩
    · have hi : i < ds.length := by simpa [one] using hi
      have hx : i < xs.length := by rw [r3.length]; exact hi
      exact ⟨xs, xs[i], SqL.of (m _ _ r2), by simp [hx]⟩
    · obtain ⟨d, e1, rfl⟩ := one_get hb
      obtain ⟨rfl, y⟩ := y
      obtain ⟨v2, w1, w2⟩ := r3.get e1
      have z := y xs (SqL.of (s'.gh _ _ (m _ _ r2)))
      rw [w1] at z
      obtain rfl : v2 = x := Option.some.inj z
      exact q G' _ _ (s'.setFz n (hn (n, d) (by simp)) (by rw [hK]; exact Rp.mono m d _ w2)) (Same.refl _) (Same.refl _) diff_set
theorem src_tup (h : EvD X F iter ρ (.tuple ds) ρ1) (hK0 : X.K = F.K := by first | rfl | assumption) : Src X F tg iter (iTup X.K (tW X iter)) (gName n) ρ (one n ds) ρ1 where
  pi := pi_tup peW
  run := fun G σ H R sr k => h G σ H _ sr fun v G1 H1 s1 g1 r => by
    simp only [ResR, Rp] at r
    obtain ⟨ad, xs, rfl, r2, r3⟩ := r
    refine ⟨ad, rfl, ⟨xs, by rw [hK0]; exact same_seqT s1.gh r2⟩, k _ G1 H1 s1 g1 ⟨fun H m => ⟨xs, by rw [hK0]; exact same_seqT m r2, by rw [r3.length]; simp [one]⟩, fun i hi H m => ?_, fun i b hb F' ρ' G' σ' H' x H'' hK s' m hn y Q q => ?_⟩⟩
    · have hi : i < ds.length := by simpa [one] using hi
      have hx : i < xs.length := by rw [r3.length]; exact hi
      exact ⟨xs, xs[i], by rw [hK0]; exact same_seqT m r2, by simp [hx]⟩
    · obtain ⟨d, e1, rfl⟩ := one_get hb
      obtain ⟨rfl, y⟩ := y
      obtain ⟨v2, w1, w2⟩ := r3.get e1
      have z := y xs (by rw [hK0]; exact same_seqT (m.trans s'.gh) r2)
      rw [w1] at z
      obtain rfl : v2 = x := Option.some.inj z
      exact q G' _ _ (s'.setFz n (hn (n, d) (by simp)) (by rw [hK]; exact Rp.mono m d _ w2)) (Same.refl _) (Same.refl _) diff_set
def rng (lo : Int) (m : Nat) : List PyData := (List.range m).map fun i => .int (lo + (i : Nat))
theorem yl_range {K : PySem.W.Frag} {lo : Int} {m : Nat} {G1 : Hp} : Yl K (Itr lo m) (gName n) (one n (rng lo m)) G1 where
  stop := fun H _ => by show m ≤ _; simp [one, rng]
  go := fun i hi H _ => by show i < m; simpa [one, rng] using hi
  turn := fun i b hb F' ρ' G' σ' H' x H'' hK s' g hn y Q q => by
    obtain ⟨d, e1, rfl⟩ := one_get hb
    obtain ⟨rfl, rfl⟩ := y
    have e2 : d = .int (lo + (i : Nat)) := by
      unfold rng at e1
      rw [List.getElem?_map] at e1
      cases e3 : (List.range m)[i]? with
      | none => rw [e3] at e1; cases e1
      | some j =>
        rw [e3] at e1
        have := List.getElem?_eq_some_iff.mp e3
        obtain ⟨h1, h2⟩ := this
        rw [List.getElem_range] at h2
        subst h2
        cases e1; rfl
    subst e2
    exact q G' _ _ (s'.setFz n (hn (n, .int (lo + (i : Nat))) (by simp)) (rp_int _ _)) (Same.refl _) (Same.refl _) diff_set
theorem src_range1 (hm : X.mg "range" = none) (h : EvD X F a ρ (.int j) ρ1) (h1 : -(2 ^ 62) ≤ j) (h2 : j < 2 ^ 62) (hg : Gl X "range" := by rfl) (hs : starEach [a] X.env = [(false, eval a X.env)] := by exact star_cons rfl) :
    Src X F tg (.Call (.Name "range" p) [a] [] pos) (iRng1 (tCons (tW X a) tNil)) (gName n) ρ (one n (rng 0 j.toNat)) ρ1 where
  pi := pi_range1 hg hm (pa_cons peW pa_nil hs) hs
  run := fun G σ H R sr k => h G σ H _ sr fun v G1 H1 s1 g1 r => by
    simp only [ResR, Rp] at r; subst r
    exact ⟨j, rfl, h1, h2, k _ G1 H1 s1 g1 yl_range⟩
theorem src_range2 (hm : X.mg "range" = none) (ha : EvD X F a ρ (.int i) ρ1) (hb : EvD X F b ρ1 (.int j) ρ2) (h : -(2 ^ 62) ≤ i ∧ i < 2 ^ 62 ∧ -(2 ^ 62) ≤ j ∧ j < 2 ^ 62) (hg : Gl X "range" := by rfl) (hs : starEach [a, b] X.env = [(false, eval a X.env), (false, eval b X.env)] := by rfl)
    (hs1 : starEach [a, b] X.env = (false, eval a X.env) :: starEach [b] X.env := by exact star_cons rfl) (hs2 : starEach [b] X.env = [(false, eval b X.env)] := by exact star_cons rfl) :
    Src X F tg (.Call (.Name "range" p) [a, b] [] pos) (iRng2 (tCons (tW X a) (tCons (tW X b) tNil))) (gName n) ρ (one n (rng i (j - i).toNat)) ρ2 where
  pi := pi_range2 hg hm (pa_cons peW (pa_cons peW pa_nil hs2) hs1) hs hs2
  run := fun G σ H R sr k => ha G σ H _ sr fun v G1 H1 s1 g1 r => by
    simp only [ResR, Rp] at r; subst r
    exact hb G1 σ H1 _ s1 fun v G2 H2 s2 g2 r => by
      simp only [ResR, Rp] at r; subst r
      exact ⟨i, j, rfl, h, k _ G2 H2 s2 (g1.trans g2) yl_range⟩
end

/-- the turns of a for -/
inductive ForD (X : Cx) (F : FC) (body : List Stmt) : List (List (Nat × PyData)) → List Sl → Out → Prop where
  | nil {ρ : List Sl} : ForD X F body [] ρ (.nx ρ)
  | next {b : List (Nat × PyData)} {bs : List (List (Nat × PyData))} {ρ ρ1 : List Sl} {R : Out} : ExB X F body (setAll ρ b) (.nx ρ1) → ForD X F body bs ρ1 R → ForD X F body (b :: bs) ρ R
  | cont {b : List (Nat × PyData)} {bs : List (List (Nat × PyData))} {ρ ρ1 : List Sl} {R : Out} : ExB X F body (setAll ρ b) (.ct ρ1) → ForD X F body bs ρ1 R → ForD X F body (b :: bs) ρ R
  | brk {b : List (Nat × PyData)} {bs : List (List (Nat × PyData))} {ρ ρ1 : List Sl} : ExB X F body (setAll ρ b) (.bk ρ1) → ForD X F body (b :: bs) ρ (.nx ρ1)
  | ret {b : List (Nat × PyData)} {bs : List (List (Nat × PyData))} {ρ ρ1 : List Sl} {s : Sl} : ExB X F body (setAll ρ b) (.rt s ρ1) → ForD X F body (b :: bs) ρ (.rt s ρ1)
  | exc {b : List (Nat × PyData)} {bs : List (List (Nat × PyData))} {ρ ρ1 : List Sl} {C : Addr} {fs : List (Str × PyData)} : ExB X F body (setAll ρ b) (.ex C fs ρ1) → ForD X F body (b :: bs) ρ (.ex C fs ρ1)
section
variable {X : Cx} {F : FC} {ρ ρ1 ρ2 : List Sl} {tg iter e a b : Expr} {es : List Expr} {ds : List PyData} {n : Nat} {p pos : Pos} {i j : Int} {bs : List (List (Nat × PyData))} {body : List Stmt} {R : Out} {wi : TI} {g : TG}
theorem SR.slen {G H : Hp} {σ : L2.St} (s : SR F ρ G σ H) (I : ∀ G' σ' H' ρ', SR F ρ' G' σ' H' → ρ'.length = ρ.length) : True := trivial
theorem exs_for (hs : Src X F tg iter wi g ρ bs ρ1) (hg : PG X tg g) (h : ForD X F body bs ρ1 R) (hn : ∀ b ∈ bs, ∀ p ∈ b, p.1 < ρ1.length) (hlen : X.N.length = ρ1.length := by rfl) (hp : PassesOwn (model X.prog X.w) X.A X.env X.xe := by exact passes_of rfl) (hc : X.calm = true := by rfl) (hf : ∀ x, foldedSetIterable iter X.env x = pure x := by intro _; rfl) :
    ExS X F (.For tg iter body [] pos) ρ R := fun G σ H D W sr tk k => tWS.mk fun pins sh I => by
  have hN : ρ1.length = X.N.length := hlen.symm
  refine (ps_for hp hc hs.pi hg (pbW (sts := body)) hf).run pins sh σ H D I (hs.run G σ H _ sr fun J G1 H1 s1 g1 Y => ?_)
  have hσ : σ.length = X.N.length := I.len
  refine ⟨fun i m σ H => ∃ ρi Gi, i + m = bs.length ∧ SR F ρi Gi σ H ∧ Same G1 Gi ∧ ForD X F body (bs.drop i) ρi R ∧ ρi.length = ρ1.length, ⟨bs.length, ρ1, G1, by simp, s1, Same.refl _, by simpa using h, rfl⟩, ?_⟩
  rintro i m σi Hi ⟨ρi, Gi, him, si, gi, fi, li⟩
  by_cases hlt : i < bs.length
  · have hb : bs[i]? = some bs[i] := by simp [hlt]
    have hdr : bs.drop i = bs[i] :: bs.drop (i + 1) := List.drop_eq_getElem_cons hlt
    rw [hdr] at fi
    refine .inr ⟨Y.go i hlt Hi (gi.trans si.gh), fun σ' H' => ∃ ρ' G', SR F ρ' G' σ' H' ∧ Same G1 G' ∧ ForD X F body (bs.drop (i + 1)) ρ' R ∧ ρ'.length = ρ1.length, fun σ' H' ⟨ρ', G', q1, q2, q3, q4⟩ => ⟨m - 1, by omega, ρ', G', by omega, q1, q2, q3, q4⟩, fun x H' y => ?_⟩
    have hbn : ∀ p ∈ bs[i], p.1 < ρi.length := fun p hp => by rw [li]; exact hn _ (List.getElem_mem hlt) p hp
    refine Y.turn i _ hb F ρi Gi σi Hi x H' rfl si gi hbn y _ fun G' σ' H'' s' g' _ _ => ?_
    have lset : (setAll ρi bs[i]).length = ρ1.length := by rw [setAll_length, li]
    have lall : ∀ {ρ' : List Sl} {G' : Hp} {σ'' : L2.St} {H'' : Hp}, SR F ρ' G' σ'' H'' → σ''.length = X.N.length → ρ'.length = ρ1.length := fun q l => by rw [← q.sl.len, l, hN]
    refine ⟨fun pins' sh' I' => ?_⟩
    have keepLen : ∀ {D' : Ends} {fl : Flow} {s2 : Shared}, SP X pins' D' fl s2 → SP X pins' { nx := fun σ H => D'.nx σ H ∧ σ.length = X.N.length, rt := D'.rt, bk := fun σ H => D'.bk σ H, ct := fun σ H => D'.ct σ H ∧ σ.length = X.N.length } fl s2 := fun {D' fl s2} q => by
      cases fl with
      | next => obtain ⟨σ2, H2, I2, q⟩ := q; exact ⟨σ2, H2, I2, q, I2.len⟩
      | cont => obtain ⟨σ2, H2, I2, q⟩ := q; exact ⟨σ2, H2, I2, q, I2.len⟩
      | brk => exact q
      | ret u => exact q
    have run : ∀ {D' : Ends} {R' : Out}, ExB X F body (setAll ρi bs[i]) R' → Sat X F G' D' W R' →
        (∀ (D2 : Ends), (∀ σ2 H2, D'.nx σ2 H2 → σ2.length = X.N.length → D2.nx σ2 H2) → (∀ σ2 H2, D'.ct σ2 H2 → σ2.length = X.N.length → D2.ct σ2 H2) → (∀ σ2 H2, D'.bk σ2 H2 → D2.bk σ2 H2) → (∀ v H2, D'.rt v H2 → D2.rt v H2) →
          wpAny (model X.prog X.w) X.A (execs body X.env) (SP X pins' D2) X.xe sh') := fun {D' R'} eb sa D2 h1 h2 h3 h4 => by
      refine thn ((eb G' σ' H'' D' W s' tk sa).run pins' sh' I') fun fl s2 q => ?_
      cases fl with
      | next => obtain ⟨σ2, H2, I2, q⟩ := q; exact ⟨σ2, H2, I2, h1 σ2 H2 q I2.len⟩
      | cont => obtain ⟨σ2, H2, I2, q⟩ := q; exact ⟨σ2, H2, I2, h2 σ2 H2 q I2.len⟩
      | brk => obtain ⟨σ2, H2, I2, q⟩ := q; exact ⟨σ2, H2, I2, h3 σ2 H2 q⟩
      | ret u => obtain ⟨v, σ2, H2, I2, r2, q⟩ := q; exact ⟨v, σ2, H2, I2, r2, h4 v H2 q⟩
    cases fi with
    | next eb rest =>
      rename_i ρn
      exact run (D' := { nx := fun σ2 H2 => ∃ G2, SR F ρn G2 σ2 H2 ∧ Same G' G2, rt := fun _ _ => False }) eb (fun G2 σ2 H2 s2 g2 => ⟨G2, s2, g2⟩) _ (fun σ2 H2 ⟨G2, s2, g2⟩ l => ⟨_, G2, s2, gi.trans (g'.trans g2), rest, lall s2 l⟩) (fun _ _ z => z.elim) (fun _ _ z => z.elim) fun _ _ z => z.elim
    | cont eb rest =>
      rename_i ρn
      exact run (D' := { nx := fun _ _ => False, rt := fun _ _ => False, ct := fun σ2 H2 => ∃ G2, SR F ρn G2 σ2 H2 ∧ Same G' G2 }) eb (fun G2 σ2 H2 s2 g2 => ⟨G2, s2, g2⟩) _ (fun _ _ z => z.elim) (fun σ2 H2 ⟨G2, s2, g2⟩ l => ⟨_, G2, s2, gi.trans (g'.trans g2), rest, lall s2 l⟩) (fun _ _ z => z.elim) fun _ _ z => z.elim
    | brk eb =>
      exact run (D' := { nx := fun _ _ => False, rt := fun _ _ => False, bk := D.nx }) eb (fun G2 σ2 H2 s2 g2 => k G2 σ2 H2 s2 (g1.trans (gi.trans (g'.trans g2)))) _ (fun _ _ z => z.elim) (fun _ _ z => z.elim) (fun _ _ z => z) fun _ _ z => z.elim
    | ret eb =>
      exact run (D' := { nx := fun _ _ => False, rt := D.rt }) eb (fun v G2 σ2 H2 s2 g2 r => k v G2 σ2 H2 s2 (g1.trans (gi.trans (g'.trans g2))) r) _ (fun _ _ z => z.elim) (fun _ _ z => z.elim) (fun _ _ z => z.elim) fun _ _ z => z
    | exc eb =>
      exact run (D' := { nx := fun _ _ => False, rt := fun _ _ => False }) eb (fun dd fv G2 σ2 H2 s2 g2 q1 q2 => k dd fv G2 σ2 H2 s2 (g1.trans (gi.trans (g'.trans g2))) q1 q2) _ (fun _ _ z => z.elim) (fun _ _ z => z.elim) (fun _ _ z => z.elim) fun _ _ z => z.elim
  · have e : i = bs.length := by omega
    subst e
    rw [List.drop_length] at fi
    cases fi with
    | nil => exact .inl ⟨Y.stop Hi (gi.trans si.gh), k Gi σi Hi si (g1.trans gi)⟩

inductive WhileD (X : Cx) (F : FC) (c : Expr) (body : List Stmt) : Nat → List Sl → Out → Prop where
  | stop {n : Nat} {ρ ρ1 : List Sl} : EvT X F c ρ false ρ1 → WhileD X F c body n ρ (.nx ρ1)
  | next {n : Nat} {ρ ρ1 ρ2 : List Sl} {R : Out} : EvT X F c ρ true ρ1 → ExB X F body ρ1 (.nx ρ2) → WhileD X F c body n ρ2 R → WhileD X F c body (n + 1) ρ R
  | cont {n : Nat} {ρ ρ1 ρ2 : List Sl} {R : Out} : EvT X F c ρ true ρ1 → ExB X F body ρ1 (.ct ρ2) → WhileD X F c body n ρ2 R → WhileD X F c body (n + 1) ρ R
  | brk {n : Nat} {ρ ρ1 ρ2 : List Sl} : EvT X F c ρ true ρ1 → ExB X F body ρ1 (.bk ρ2) → WhileD X F c body n ρ (.nx ρ2)
  | ret {n : Nat} {ρ ρ1 ρ2 : List Sl} {s : Sl} : EvT X F c ρ true ρ1 → ExB X F body ρ1 (.rt s ρ2) → WhileD X F c body n ρ (.rt s ρ2)
  | exc {n : Nat} {ρ ρ1 ρ2 : List Sl} {C : Addr} {fs : List (Str × PyData)} : EvT X F c ρ true ρ1 → ExB X F body ρ1 (.ex C fs ρ2) → WhileD X F c body n ρ (.ex C fs ρ2)
theorem exs_while {m : Nat} (h : WhileD X F e body m ρ R) (hp : PassesOwn (model X.prog X.w) X.A X.env X.xe := by exact passes_of rfl) : ExS X F (.While e body [] pos) ρ R := fun G σ H D W sr tk k => by
  refine toWS (ps_while hp ptW (pbW (sts := body))) ?_
  refine ⟨fun m σ H => ∃ ρi Gi, SR F ρi Gi σ H ∧ Same G Gi ∧ WhileD X F e body m ρi R, ⟨m, ρ, G, sr, Same.refl _, h⟩, ?_⟩
  rintro m σi Hi ⟨ρi, Gi, si, gi, fi⟩
  cases fi with
  | stop hc =>
    refine hc Gi σi Hi _ si fun G1 H1 s1 g1 => ?_
    rw [if_neg Bool.false_ne_true]
    exact k G1 σi H1 s1 (gi.trans g1)
  | next hc eb rest =>
    refine hc Gi σi Hi _ si fun G1 H1 s1 g1 => ?_
    rw [if_pos rfl]
    exact ⟨fun σ' H' => ∃ ρ' G', SR F ρ' G' σ' H' ∧ Same G G' ∧ WhileD X F e body _ ρ' R, fun σ' H' q => ⟨_, Nat.lt_succ_self _, q⟩, eb G1 σi H1 _ W s1 tk fun G2 σ2 H2 s2 g2 => ⟨_, G2, s2, gi.trans (g1.trans g2), rest⟩⟩
  | cont hc eb rest =>
    refine hc Gi σi Hi _ si fun G1 H1 s1 g1 => ?_
    rw [if_pos rfl]
    exact ⟨fun σ' H' => ∃ ρ' G', SR F ρ' G' σ' H' ∧ Same G G' ∧ WhileD X F e body _ ρ' R, fun σ' H' q => ⟨_, Nat.lt_succ_self _, q⟩, eb G1 σi H1 _ W s1 tk fun G2 σ2 H2 s2 g2 => ⟨_, G2, s2, gi.trans (g1.trans g2), rest⟩⟩
  | brk hc eb =>
    refine hc Gi σi Hi _ si fun G1 H1 s1 g1 => ?_
    rw [if_pos rfl]
    exact ⟨fun _ _ => False, fun _ _ z => z.elim, eb G1 σi H1 _ W s1 tk fun G2 σ2 H2 s2 g2 => k G2 σ2 H2 s2 (gi.trans (g1.trans g2))⟩
  | ret hc eb =>
    refine hc Gi σi Hi _ si fun G1 H1 s1 g1 => ?_
    rw [if_pos rfl]
    exact ⟨fun _ _ => False, fun _ _ z => z.elim, eb G1 σi H1 _ W s1 tk fun v G2 σ2 H2 s2 g2 r => k v G2 σ2 H2 s2 (gi.trans (g1.trans g2)) r⟩
  | exc hc eb =>
    refine hc Gi σi Hi _ si fun G1 H1 s1 g1 => ?_
    rw [if_pos rfl]
    exact ⟨fun _ _ => False, fun _ _ z => z.elim, eb G1 σi H1 _ W s1 tk fun dd fv G2 σ2 H2 s2 g2 q1 q2 => k dd fv G2 σ2 H2 s2 (gi.trans (g1.trans g2)) q1 q2⟩
end

abbrev bkX (X : Cx) (scope : Scope) (s : Shared) (H : Hp) (C : Addr) (cl : List (Str × Addr)) (fp : List Addr) : Cx := X.blk s H scope (compEnvC scope cl C X.env) fp
/-- in a comprehension's block, whatever is held -/
def EvSb (X : Cx) (F : FC) (scope : Scope) (e : Expr) (ρ : List Sl) (s : Sl) (ρ' : List Sl) : Prop := ∀ F' : FC, F'.K = F.K → ∀ s0 H0 C cl fp, EvS (bkX X scope s0 H0 C cl fp) F' e ρ s ρ'
def EvTb (X : Cx) (F : FC) (scope : Scope) (e : Expr) (ρ : List Sl) (b : Bool) (ρ' : List Sl) : Prop := ∀ F' : FC, F'.K = F.K → ∀ s0 H0 C cl fp, EvT (bkX X scope s0 H0 C cl fp) F' e ρ b ρ'
/-- the tests of a clause: none or one -/
inductive TsD (X : Cx) (F : FC) (scope : Scope) : List Expr → List Sl → Bool → List Sl → Prop where
  | nil {ρ : List Sl} : TsD X F scope [] ρ true ρ
  | one {c : Expr} {ρ ρ1 : List Sl} {b : Bool} : EvTb X F scope c ρ b ρ1 → TsD X F scope [c] ρ b ρ1
def wipeS (ρ : List Sl) : List Nat → List Sl
  | [] => ρ
  | v :: vs => (wipeS ρ vs).set v .un
/-- the turns of a list comprehension -/
inductive LcD (X : Cx) (F : FC) (scope : Scope) (ifs : List Expr) (elt : Expr) (vs : List Nat) : List (List (Nat × PyData)) → List Sl → List PyData → List Sl → Prop where
  | nil {ρ : List Sl} : LcD X F scope ifs elt vs [] ρ [] ρ
  | keep {b : List (Nat × PyData)} {bs : List (List (Nat × PyData))} {ρ ρ1 ρ2 ρ3 : List Sl} {d : PyData} {es : List PyData} : TsD X F scope ifs (setAll ρ b) true ρ1 → EvSb X F scope elt ρ1 (.fz d) ρ2 → LcD X F scope ifs elt vs bs (wipeS ρ2 vs) es ρ3 → LcD X F scope ifs elt vs (b :: bs) ρ (d :: es) ρ3
  | skip {b : List (Nat × PyData)} {bs : List (List (Nat × PyData))} {ρ ρ1 ρ3 : List Sl} {es : List PyData} : TsD X F scope ifs (setAll ρ b) false ρ1 → LcD X F scope ifs elt vs bs (wipeS ρ1 vs) es ρ3 → LcD X F scope ifs elt vs (b :: bs) ρ es ρ3
theorem LcD.le {X : Cx} {F : FC} {scope : Scope} {ifs : List Expr} {elt : Expr} {vs : List Nat} {bs : List (List (Nat × PyData))} {ρ ρ' : List Sl} {es : List PyData} (h : LcD X F scope ifs elt vs bs ρ es ρ') : es.length ≤ bs.length := by
  induction h with
  | nil => simp
  | keep _ _ _ ih => simpa using ih
  | skip _ _ ih => simp; omega

theorem wipe_get (σ : L2.St) : ∀ (vs : List Nat) (i : Nat), (wipe σ vs)[i]? = if i ∈ vs ∧ i < σ.length then some none else σ[i]?
  | [], i => by simp [wipe]
  | v :: vs, i => by
    unfold wipe
    by_cases hv : v = i
    · subst hv
      by_cases hl : v < σ.length
      · rw [List.getElem?_set_self (by rw [wipe_length]; exact hl), if_pos ⟨by simp, hl⟩]
      · rw [List.getElem?_eq_none (by simp [wipe_length]; omega), if_neg (by simp [hl]), List.getElem?_eq_none (by omega)]
    · rw [List.getElem?_set_ne hv, wipe_get σ vs i]
      simp only [List.mem_cons, Ne.symm hv, false_or]
theorem wipeS_length (ρ : List Sl) : ∀ vs : List Nat, (wipeS ρ vs).length = ρ.length
  | [] => rfl
  | v :: vs => by unfold wipeS; rw [List.length_set, wipeS_length ρ vs]
theorem wipeS_get (ρ : List Sl) : ∀ (vs : List Nat) (i : Nat), (wipeS ρ vs)[i]? = if i ∈ vs ∧ i < ρ.length then some .un else ρ[i]?
  | [], i => by simp [wipeS]
  | v :: vs, i => by
    unfold wipeS
    by_cases hv : v = i
    · subst hv
      by_cases hl : v < ρ.length
      · rw [List.getElem?_set_self (by rw [wipeS_length]; exact hl), if_pos ⟨by simp, hl⟩]
      · rw [List.getElem?_eq_none (by simp [wipeS_length]; omega), if_neg (by simp [hl]), List.getElem?_eq_none (by omega)]
    · rw [List.getElem?_set_ne hv, wipeS_get ρ vs i]
      simp only [List.mem_cons, Ne.symm hv, false_or]
theorem wipeS_some {ρ : List Sl} {vs : List Nat} {i : Nat} {s : Sl} (h : (wipeS ρ vs)[i]? = some s) (hs : s ≠ .un) : ρ[i]? = some s ∧ ¬ (i ∈ vs ∧ i < ρ.length) := by
  rw [wipeS_get] at h
  by_cases q : i ∈ vs ∧ i < ρ.length
  · rw [if_pos q] at h; cases h; exact absurd rfl hs
  · rw [if_neg q] at h; exact ⟨h, q⟩
section
variable {X : Cx} {F : FC} {ρ ρ1 ρ2 ρ' : List Sl} {G H : Hp} {σ : L2.St}
theorem SR.wipe (s : SR F ρ G σ H) (vs : List Nat) : SR F (wipeS ρ vs) G (L2.wipe σ vs) H where
  bh := s.bh
  hd := s.hd
  g0 := s.g0
  gn := s.gn
  gh := s.gh
  sl := by
    have get : ∀ {i : Nat} {q : Sl}, (wipeS ρ vs)[i]? = some q → q ≠ .un → ρ[i]? = some q ∧ (L2.wipe σ vs)[i]? = σ[i]? := fun {i q} h hq => by
      obtain ⟨h1, h2⟩ := wipeS_some h hq
      refine ⟨h1, ?_⟩
      rw [wipe_get, if_neg (by rw [s.sl.len]; exact h2)]
    refine ⟨by rw [wipe_length, wipeS_length, s.sl.len], fun i t h ht => ?_, fun i j t u a h1 h2 o1 o2 h3 h4 => ?_⟩
    · obtain ⟨q1, q2⟩ := get h ht
      rw [q2]; exact s.sl.val i t q1 ht
    · obtain ⟨q1, q2⟩ := get h1 (fun z => by subst z; cases o1)
      obtain ⟨q3, q4⟩ := get h2 (fun z => by subst z; cases o2)
      rw [q2] at h3; rw [q4] at h4
      exact s.sl.dj i j t u a q1 q3 o1 o2 h3 h4
  fr := fun i t a h w e => by
    obtain ⟨h1, h2⟩ := wipeS_some h (fun z => by subst z; cases w)
    rw [wipe_get, if_neg (by rw [s.sl.len]; exact h2)] at e
    exact s.fr i t a h1 w e
  io := fun i ds a h e => by
    obtain ⟨h1, h2⟩ := wipeS_some h (by simp)
    rw [wipe_get, if_neg (by rw [s.sl.len]; exact h2)] at e
    exact s.io i ds a h1 e
  tb := s.tb
  tg := s.tg
  tB := s.tB
/-- behind a comprehension: its own slots are as before -/
def backS (ρ0 ρ' : List Sl) : List Nat → List Sl
  | [] => ρ'
  | v :: vs => (backS ρ0 ρ' vs).set v (match ρ0[v]? with
    | some (.fz d) => .fz d
    | some (.vv u) => .vv u
    | some (.pv P) => .pv P
    | _ => .un)
theorem backS_length (ρ0 ρ' : List Sl) : ∀ vs : List Nat, (backS ρ0 ρ' vs).length = ρ'.length
  | [] => rfl
  | v :: vs => by unfold backS; rw [List.length_set, backS_length ρ0 ρ' vs]
theorem backS_get (ρ0 ρ' : List Sl) : ∀ (vs : List Nat) (i : Nat), (backS ρ0 ρ' vs)[i]? = if i ∈ vs ∧ i < ρ'.length then some (match ρ0[i]? with
    | some (.fz d) => .fz d
    | some (.vv u) => .vv u
    | some (.pv P) => .pv P
    | _ => .un) else ρ'[i]?
  | [], i => by simp [backS]
  | v :: vs, i => by
    unfold backS
    by_cases hv : v = i
    · subst hv
      by_cases hl : v < ρ'.length
      · rw [List.getElem?_set_self (by rw [backS_length]; exact hl), if_pos ⟨by simp, hl⟩]
      · rw [List.getElem?_eq_none (by simp [backS_length]; omega), if_neg (by simp [hl]), List.getElem?_eq_none (by omega)]
    · rw [List.getElem?_set_ne hv, backS_get ρ0 ρ' vs i]
      simp only [List.mem_cons, Ne.symm hv, false_or]
theorem SR.back {ρ0 : List Sl} {G0' H0' : Hp} (s0 : SR F ρ0 G0' σ H0') (g : Same G0' G) (s : SR F ρ' G (L2.wipe σ vs) H) : SR F (backS ρ0 ρ' vs) G σ H := by
  have get : ∀ {i : Nat} {q : Sl}, (backS ρ0 ρ' vs)[i]? = some q → q ≠ .un → (ρ'[i]? = some q ∧ (L2.wipe σ vs)[i]? = σ[i]?) ∨ (ρ0[i]? = some q ∧ q.own = false) := fun {i q} h hq => by
    rw [backS_get] at h
    by_cases w : i ∈ vs ∧ i < ρ'.length
    · rw [if_pos w] at h
      right
      have h := Option.some.inj h
      cases e : ρ0[i]? with
      | none => rw [e] at h; exact absurd h.symm hq
      | some z =>
        rw [e] at h
        cases z with
        | un => exact absurd h.symm hq
        | fz d => subst h; exact ⟨rfl, rfl⟩
        | vv u => subst h; exact ⟨rfl, rfl⟩
        | pv P => subst h; exact ⟨rfl, rfl⟩
        | ow io ds => exact absurd h.symm hq
        | op P => exact absurd h.symm hq
    · rw [if_neg w] at h
      left
      refine ⟨h, ?_⟩
      rw [wipe_get, if_neg]
      have : σ.length = ρ'.length := by rw [← s.sl.len, wipe_length]
      rw [this]; exact w
  have getO : ∀ {i : Nat} {q : Sl}, (backS ρ0 ρ' vs)[i]? = some q → q.own = true → ρ'[i]? = some q ∧ (L2.wipe σ vs)[i]? = σ[i]? := fun {i q} h o => by
    rcases get h (fun z => by subst z; cases o) with z | ⟨_, z⟩
    · exact z
    · rw [z] at o; cases o
  refine ⟨s.bh, s.hd, s.g0, s.gn, s.gh, ⟨by rw [backS_length, ← s.sl.len, wipe_length], fun i t h ht => ?_, fun i j t u a h1 h2 o1 o2 h3 h4 => ?_⟩, fun i t a h w e => ?_, fun i ds a h e => ?_, s.tb, s.tg, s.tB⟩
  · rcases get h ht with ⟨q1, q2⟩ | ⟨q1, no⟩
    · rw [← q2]; exact s.sl.val i t q1 ht
    · obtain ⟨v, z1, z2⟩ := s0.sl.val i t q1 ht
      exact ⟨v, z1, z2.mono g fun o => by rw [no] at o; cases o⟩
  · obtain ⟨q1, q2⟩ := getO h1 o1
    obtain ⟨q3, q4⟩ := getO h2 o2
    rw [← q2] at h3; rw [← q4] at h4
    exact s.sl.dj i j t u a q1 q3 o1 o2 h3 h4
  · obtain ⟨q1, q2⟩ := getO h (Sl.new_own w)
    rw [← q2] at e; exact s.fr i t a q1 w e
  · obtain ⟨q1, q2⟩ := getO h rfl
    rw [← q2] at e; exact s.io i ds a q1 e

variable {tg iter elt : Expr} {ifs : List Expr} {scope : Scope} {own : List (Str × Nat)} {pos spos py : Pos} {bs : List (List (Nat × PyData))} {es : List PyData} {wi : TI} {g : TG}
abbrev teB (X : Cx) (scope : Scope) (e : Expr) : TE := fun σ H Q => ∀ s0 H0 C cl fp, tW (bkX X scope s0 H0 C cl fp) e σ H Q
abbrev ttB (X : Cx) (scope : Scope) (ifs : List Expr) : TT := fun σ H Q => ∀ s0 H0 C cl fp pins s, Inv (bkX X scope s0 H0 C cl fp) pins σ H s →
  wpAny (model X.prog X.w) X.A (forIn ifs true fun c r => if r = true then do let ok ← isTrue c (bkX X scope s0 H0 C cl fp).env (eval c (bkX X scope s0 H0 C cl fp).env); pure (ForInStep.yield ok) else pure (ForInStep.yield r)) (TP (bkX X scope s0 H0 C cl fp) pins σ Q) (bkX X scope s0 H0 C cl fp).xe s
theorem ts_run {b : Bool} (h : TsD X F scope ifs ρ b ρ1) {F' : FC} (hK : F'.K = F.K) {Q : Bool → Hp → Prop} (s : SR F' ρ G σ H) (k : ∀ G' H', SR F' ρ1 G' σ H' → Same G G' → Q b H') : ttB X scope ifs σ H Q := fun s0 H0 C cl fp pins sh I => by
  cases h with
  | nil => exact pts_nil.run pins sh σ H Q I (k G H s (Same.refl _))
  | one h => exact (pts_one ptW).run pins sh σ H Q I (h F' hK s0 H0 C cl fp G σ H _ s k)
/-- the reading of a comprehension -/
theorem lc_reading (hs : Src X F tg iter wi g ρ bs ρ1) (h : LcD X F scope ifs elt (own.map (·.2)) bs (wipeS ρ1 (own.map (·.2))) es ρ2) (hb : ∀ b ∈ bs, ∀ p ∈ b, p.1 < ρ1.length ∧ p.1 ∈ own.map (·.2)) (hz : bs.length ≤ sizeLine) {Q : VK} (sr : SR F ρ G σ H)
    (k : ∀ v G' H', SR F (backS ρ1 ρ2 (own.map (·.2))) G' σ H' → Same G G' → ResR F (backS ρ1 ρ2 (own.map (·.2))) G' H' σ (.ow false es) v → Q v H') : tLc wi g (ttB X scope ifs) (teB X scope elt) (own.map (·.2)) σ H Q := by
  generalize hvs : own.map (·.2) = vs at *
  refine hs.run G σ H _ sr fun J G1 H1 s1 g1 Y D hD => ?_
  have h0 : F.H0 D = none := s1.hd D hD
  have hB : F.B D = none := s1.bn h0
  have hGD : G1 D = none := none_of_same s1.gh hD
  have hG0 : F.G0 D = none := none_of_same s1.g0 hGD
  have sw := s1.wipe vs
  have noD : ∀ {ρ : List Sl} {G : Hp} {σ : L2.St}, SR F ρ G σ H1 → NoOwn ρ σ D := fun q => q.sl.away hD
  refine ⟨fun i m H => ∃ ρi Gi acc accD rest, i + m = bs.length ∧ SR F ρi Gi (L2.wipe σ vs) H ∧ Same G1 Gi ∧ H D = some (.lst acc) ∧ Gi D = none ∧ Rps F.K Gi accD acc ∧ NoOwn ρi (L2.wipe σ vs) D ∧ accD ++ rest = es ∧ accD.length ≤ i ∧ LcD X F scope ifs elt vs (bs.drop i) ρi rest ρ2,
    ⟨bs.length, wipeS ρ1 vs, G1, [], [], es, by simp, sw.layN hD, Same.refl _, upd_same, hGD, Rps.nil, noD sw, rfl, Nat.zero_le _, by simpa using h⟩, ?_⟩
  rintro i m Hi ⟨ρi, Gi, acc, accD, rest, him, si, gi, hacc, hGi, racc, nD, hes, hle, fi⟩
  by_cases hlt : i < bs.length
  · right
    have hbi : bs[i]? = some bs[i] := by simp [hlt]
    have hdr : bs.drop i = bs[i] :: bs.drop (i + 1) := List.drop_eq_getElem_cons hlt
    rw [hdr] at fi
    refine ⟨Y.go i hlt Hi (gi.trans si.gh), fun H' => ∃ ρi Gi acc accD rest, SR F ρi Gi (L2.wipe σ vs) H' ∧ Same G1 Gi ∧ H' D = some (.lst acc) ∧ Gi D = none ∧ Rps F.K Gi accD acc ∧ NoOwn ρi (L2.wipe σ vs) D ∧ accD ++ rest = es ∧ accD.length ≤ i + 1 ∧ LcD X F scope ifs elt vs (bs.drop (i + 1)) ρi rest ρ2,
      fun H' ⟨ρi, Gi, acc, accD, rest, q⟩ => ⟨m - 1, by omega, ρi, Gi, acc, accD, rest, by omega, q⟩, fun x H' y => ?_⟩
    have li : ρi.length = ρ1.length := by rw [← si.sl.len, wipe_length, s1.sl.len]
    have sh := si.hold hacc (fun ps z => by cases z) hGi nD
    refine Y.turn i _ hbi (F.hold D (.lst acc)) ρi Gi (L2.wipe σ vs) Hi x H' rfl sh gi (fun p hp => by rw [li]; exact (hb _ (List.getElem_mem hlt) p hp).1) y _ fun G' σ' H'' s' g' _ df => ?_
    have wdiff : L2.wipe σ' vs = L2.wipe σ vs := by
      apply List.ext_getElem?
      intro j
      rw [wipe_get, wipe_get]
      have l : σ'.length = σ.length := by rw [df.1, wipe_length]
      rw [l]
      by_cases w : j ∈ vs ∧ j < σ.length
      · rw [if_pos w, if_pos w]
      · rw [if_neg w, if_neg w]
        by_cases hjb : j ∈ bs[i].map (·.1)
        · obtain ⟨p, hp, e⟩ := List.mem_map.mp hjb
          have := (hb _ (List.getElem_mem hlt) p hp)
          have l2 : ρ1.length = σ.length := s1.sl.len.symm
          exact absurd ⟨by rw [← e]; exact this.2, by rw [← e, ← l2]; exact this.1⟩ w
        · rw [df.2 j hjb, wipe_get, if_neg w]
    refine ⟨wdiff, ?_⟩
    cases fi with
    | keep ht he rest' =>
      rename_i ρa ρb d es'
      refine ts_run ht (F' := F.hold D (.lst acc)) rfl s' fun G2 H2 s2 g2 => ?_
      rw [if_pos rfl]
      intro s0 H0 C cl fp
      refine he (F.hold D (.lst acc)) rfl s0 H0 C cl fp G2 σ' H2 _ s2 fun v G3 H3 s3 g3 r3 => ?_
      obtain ⟨z1, z2, z3⟩ := s3.held hG0
      have s4 := (s3.unhold hB h0).wipe vs
      rw [wdiff] at s4
      refine ⟨acc, z1, ?_, ?_⟩
      · rw [racc.length]
        omega
      · have n3 : NoOwn (wipeS ρb vs) (L2.wipe σ vs) D := fun j t h o e => by
          obtain ⟨h1, h2⟩ := wipeS_some h (fun z => by subst z; cases o)
          rw [← wdiff, wipe_get, if_neg (by rw [s3.sl.len]; exact h2)] at e
          exact z3 j t h1 o e
        refine ⟨wipeS ρb vs, G3, acc ++ [v], accD ++ [d], es', s4.turn ⟨_, z1⟩ hB z2 n3, gi.trans (g'.trans (g2.trans g3)), upd_same, z2, (Rps.mono (g'.trans (g2.trans g3)) _ _ racc).append (Rps.cons r3 Rps.nil), n3, by rw [← hes]; simp, by simp; omega, rest'⟩
    | skip ht rest' =>
      rename_i ρa
      refine ts_run ht (F' := F.hold D (.lst acc)) rfl s' fun G2 H2 s2 g2 => ?_
      rw [if_neg Bool.false_ne_true]
      obtain ⟨z1, z2, z3⟩ := s2.held hG0
      have s4 := (s2.unhold hB h0).wipe vs
      rw [wdiff] at s4
      have n3 : NoOwn (wipeS ρa vs) (L2.wipe σ vs) D := fun j t h o e => by
        obtain ⟨h1, h2⟩ := wipeS_some h (fun z => by subst z; cases o)
        rw [← wdiff, wipe_get, if_neg (by rw [s2.sl.len]; exact h2)] at e
        exact z3 j t h1 o e
      exact ⟨wipeS ρa vs, G2, acc, accD, rest, s4, gi.trans (g'.trans g2), z1, z2, Rps.mono (g'.trans g2) _ _ racc, n3, hes, by omega, rest'⟩
  · left
    have e : i = bs.length := by omega
    subst e
    rw [List.drop_length] at fi
    cases fi with
    | nil =>
      have e2 : accD = es := by simpa using hes
      subst e2
      have sb := SR.back (vs := vs) s1 gi si
      refine ⟨Y.stop Hi (gi.trans si.gh), k _ Gi Hi sb (g1.trans gi) ⟨rfl, D, acc, rfl, h0, hGi, hacc, racc, fun j t h o w => ?_⟩⟩
      rw [backS_get] at h
      by_cases q : j ∈ vs ∧ j < ρ2.length
      · rw [if_pos q] at h
        have h := Option.some.inj h
        cases e : ρ1[j]? with
        | none => rw [e] at h; subst h; cases o
        | some z => rw [e] at h; subst h; cases z <;> cases o
      · rw [if_neg q] at h
        refine nD j t h o ?_
        rw [wipe_get, if_neg]
        · exact w
        · have : σ.length = ρ2.length := by rw [← si.sl.len, wipe_length]
          rw [this]; exact q
theorem evn_lc (hs : Src X F tg iter wi g ρ bs ρ1) (h : LcD X F scope ifs elt (own.map (·.2)) bs (wipeS ρ1 (own.map (·.2))) es ρ2) (hb : ∀ b ∈ bs, ∀ p ∈ b, p.1 < ρ1.length ∧ p.1 ∈ own.map (·.2)) (hz : bs.length ≤ sizeLine) (nd : X.N.Nodup) (ok : BlkOk X.N X.env.scope scope own)
    (hg : ∀ (s : Shared) (H : Hp) (C : Addr) (cl : List (Str × Addr)) (fp : List Addr), PG (bkX X scope s H C cl fp) tg g) (hc : X.calm = true := by rfl) (hf : ∀ x, foldedSetIterable iter X.env x = pure x := by intro _; rfl) :
    EvS X F (.ListComp elt [⟨tg, iter, ifs, 0⟩] scope pos) ρ (.ow false es) (backS ρ1 ρ2 (own.map (·.2))) := fun G σ H Q sr k =>
  toW (pe_lc hc nd hs.pi ok hg (fun s H C cl fp => ⟨fun pins sh σ H Q I q => q s _ C cl fp pins sh I⟩) (fun s H C cl fp => ⟨fun pins sh σ H Q I q => (q s _ C cl fp).run pins sh I⟩) hf) (lc_reading hs h hb hz sr k)
/-- name = [..] -/
theorem exs_setLc (n : Nat) {y : Str} (hs : Src X F tg iter wi g ρ bs ρ1) (h : LcD X F scope ifs elt (own.map (·.2)) bs (wipeS ρ1 (own.map (·.2))) es ρ2) (hb : ∀ b ∈ bs, ∀ p ∈ b, p.1 < ρ1.length ∧ p.1 ∈ own.map (·.2)) (hz : bs.length ≤ sizeLine) (nd : X.N.Nodup) (ok : BlkOk X.N X.env.scope scope own)
    (hg : ∀ (s : Shared) (H : Hp) (C : Addr) (cl : List (Str × Addr)) (fp : List Addr), PG (bkX X scope s H C cl fp) tg g) (hn : n < ρ2.length) (hN : X.N[n]? = some y := by rfl) (hyl : X.env.scope.names.lookup y = some .local := by rfl)
    (hsw : swapsWith (.ListComp elt [⟨tg, iter, ifs, 0⟩] scope pos) (some (.Name y py)) spos.line X.env = pure true := by exact sw_true rfl rfl rfl (by decide +kernel)) (hc : X.calm = true := by rfl) (hf : ∀ x, foldedSetIterable iter X.env x = pure x := by intro _; rfl) :
    ExS X F (.Assign [.Name y py] (.ListComp elt [⟨tg, iter, ifs, 0⟩] scope pos) spos) ρ (.nx ((backS ρ1 ρ2 (own.map (·.2))).set n (.ow false es))) := fun G σ H D W sr tk k =>
  toWS (ps_setLc hc nd hN hyl hsw hs.pi ok hg (fun s H C cl fp => ⟨fun pins sh σ H Q I q => q s _ C cl fp pins sh I⟩) (fun s H C cl fp => ⟨fun pins sh σ H Q I q => (q s _ C cl fp).run pins sh I⟩) hf)
    (lc_reading (Q := fun x H1 => gName n x σ H1 D.nx) hs h hb hz sr fun v G1 H1 s1 g1 r => k G1 _ H1 (s1.put n (by rw [backS_length]; exact hn) r) g1)
end
end DL
end
section
set_option maxHeartbeats 4000000
namespace DL
open PySem PySem.Spec PyProof.Rows L2
section
variable {X : Cx} {F : FC} {ρ ρ1 ρ2 : List Sl} {es : List Expr} {e a b c : Expr} {pos p p2 p3 p4 pos' : Pos} {i j : Int} {d d1 d2 : PyData} {ds : List PyData} {k : Nat}

def tyN : PyData → String
  | .none => "NoneType"
  | .bool _ => "bool"
  | .int _ => "int"
  | .str _ => "str"
  | .list _ => "list"
  | .tuple _ => "tuple"
  | .dict _ => "dict"
theorem tyx_rp {K : PySem.W.Frag} {G H : Hp} (m : Same G H) : ∀ {d : PyData} {v : V}, Rp K G d v → TyX K H v (.type (tyN d))
  | .none, v, h => by simp only [Rp] at h; subst h; exact .base .non
  | .bool b, v, h => by simp only [Rp] at h; subst h; exact .base (.bl b)
  | .int b, v, h => by simp only [Rp] at h; subst h; exact .base (.int b)
  | .str b, v, h => by simp only [Rp] at h; subst h; exact .base (.str b)
  | .list b, v, h => by simp only [Rp] at h; obtain ⟨a, xs, rfl, h2, _⟩ := h; exact .base (.lst (m _ _ h2))
  | .tuple b, v, h => by
    simp only [Rp] at h
    obtain ⟨a, xs, rfl, h2, _⟩ := h
    rcases h2 with (h2 | ⟨o, h2⟩) | ⟨o, its, n, h1, h2, _⟩
    · exact .base (.tup (m _ _ h2))
    · exact .fTuple (m _ _ h2)
    · exact .kTuple h1 h2
  | .dict b, v, h => by simp [Rp] at h
def isInt : PyData → Bool
  | .int _ => true
  | .bool _ => true
  | _ => false
def isBool : PyData → Bool
  | .bool _ => true
  | _ => false
def isStr : PyData → Bool
  | .str _ => true
  | _ => false
def isSeq : PyData → Bool
  | .list _ => true
  | .tuple _ => true
  | _ => false
def isList : PyData → Bool
  | .list _ => true
  | _ => false
def isTuple : PyData → Bool
  | .tuple _ => true
  | _ => false
theorem kit_int : ∀ d : PyData, kitB (tyN d) "int" = some (isInt d)
  | .none => (show kitB "NoneType" "int" = some false by decide +kernel)
  | .bool _ => (show kitB "bool" "int" = some true by decide +kernel)
  | .int _ => (show kitB "int" "int" = some true by decide +kernel)
  | .str _ => (show kitB "str" "int" = some false by decide +kernel)
  | .list _ => (show kitB "list" "int" = some false by decide +kernel)
  | .tuple _ => (show kitB "tuple" "int" = some false by decide +kernel)
  | .dict _ => (show kitB "dict" "int" = some false by decide +kernel)
theorem kit_bool : ∀ d : PyData, kitB (tyN d) "bool" = some (isBool d)
  | .none => (show kitB "NoneType" "bool" = some false by decide +kernel)
  | .bool _ => (show kitB "bool" "bool" = some true by decide +kernel)
  | .int _ => (show kitB "int" "bool" = some false by decide +kernel)
  | .str _ => (show kitB "str" "bool" = some false by decide +kernel)
  | .list _ => (show kitB "list" "bool" = some false by decide +kernel)
  | .tuple _ => (show kitB "tuple" "bool" = some false by decide +kernel)
  | .dict _ => (show kitB "dict" "bool" = some false by decide +kernel)
theorem kit_str : ∀ d : PyData, kitB (tyN d) "str" = some (isStr d)
  | .none => (show kitB "NoneType" "str" = some false by decide +kernel)
  | .bool _ => (show kitB "bool" "str" = some false by decide +kernel)
  | .int _ => (show kitB "int" "str" = some false by decide +kernel)
  | .str _ => (show kitB "str" "str" = some true by decide +kernel)
  | .list _ => (show kitB "list" "str" = some false by decide +kernel)
  | .tuple _ => (show kitB "tuple" "str" = some false by decide +kernel)
  | .dict _ => (show kitB "dict" "str" = some false by decide +kernel)
theorem kit_list : ∀ d : PyData, kitB (tyN d) "list" = some (isList d)
  | .none => (show kitB "NoneType" "list" = some false by decide +kernel)
  | .bool _ => (show kitB "bool" "list" = some false by decide +kernel)
  | .int _ => (show kitB "int" "list" = some false by decide +kernel)
  | .str _ => (show kitB "str" "list" = some false by decide +kernel)
  | .list _ => (show kitB "list" "list" = some true by decide +kernel)
  | .tuple _ => (show kitB "tuple" "list" = some false by decide +kernel)
  | .dict _ => (show kitB "dict" "list" = some false by decide +kernel)
theorem kit_tuple : ∀ d : PyData, kitB (tyN d) "tuple" = some (isTuple d)
  | .none => (show kitB "NoneType" "tuple" = some false by decide +kernel)
  | .bool _ => (show kitB "bool" "tuple" = some false by decide +kernel)
  | .int _ => (show kitB "int" "tuple" = some false by decide +kernel)
  | .str _ => (show kitB "str" "tuple" = some false by decide +kernel)
  | .list _ => (show kitB "list" "tuple" = some false by decide +kernel)
  | .tuple _ => (show kitB "tuple" "tuple" = some true by decide +kernel)
  | .dict _ => (show kitB "dict" "tuple" = some false by decide +kernel)
/-- isinstance(e, T), T a built-in type by its name -/
theorem ev_isi {T : String} {x : Str} {q : Bool} (hm : X.mg "isinstance" = none) (ha : EvD X F e ρ d ρ1) (hT : X.mg x = none) (hv : bootBuiltins x = some (.type T)) (hk : kitB (tyN d) T = some q) (hK : X.K = F.K := by first | rfl | assumption) (hgl : Gl X "isinstance" := by rfl) (hgx : Gl X x := by rfl) (hn : x ≠ "__name__" := by decide) (hdb : (x == ("__debug__" : Str)) = false := by decide)
    (he : starEach [e, .Name x p2] X.env = (false, eval e X.env) :: starEach [.Name x p2] X.env := by exact star_cons rfl) (he2 : starEach [.Name x p2] X.env = (false, eval (.Name x p2) X.env) :: starEach [] X.env := by exact star_cons rfl) (hpl : (backTo pos (starEach [.Name x p2] X.env)).any (·.1) = false := by rfl) :
    EvD X F (.Call (.Name "isinstance" p) [e, .Name x p2] [] pos) ρ (.bool q) ρ1 :=
  fun G σ H Q s k => toW (pe_callB call_isi hgl hm (by decide +kernel) (pa_cons peW (pa_cons (pe_bltn hgx hT hv (v := .ty T) rfl hn hdb) pa_nil he2) he) (by decide) (by decide) he hpl) (ha G σ H _ s fun v G1 H1 s1 g1 r1 =>
    ⟨v, .ty T, .type (tyN d), .type T, q, rfl, .ty T, by rw [hK]; exact tyx_rp s1.gh r1, kit_ty hk, k _ G1 H1 s1 g1 res_bl⟩)
/-- isinstance(e, (T1, T2)) -/
theorem ev_isi2 {T1 T2 : String} {x y : Str} {q1 q2 : Bool} {kk : Nat} (hm : X.mg "isinstance" = none) (ha : EvD X F e ρ d ρ1) (hT1 : X.mg x = none) (hv1 : bootBuiltins x = some (.type T1)) (hT2 : X.mg y = none) (hv2 : bootBuiltins y = some (.type T2)) (hk1 : kitB (tyN d) T1 = some q1) (hk2 : kitB (tyN d) T2 = some q2) (hK : X.K = F.K := by first | rfl | assumption) (hgl : Gl X "isinstance" := by rfl) (hgx : Gl X x := by rfl) (hgy : Gl X y := by rfl)
    (hn : x ≠ "__name__" := by decide) (hdb : (x == ("__debug__" : Str)) = false := by decide) (hn2 : y ≠ "__name__" := by decide) (hdb2 : (y == ("__debug__" : Str)) = false := by decide)
    (ht1 : starEach [.Name x p2, .Name y p3] X.env = (false, eval (.Name x p2) X.env) :: starEach [.Name y p3] X.env := by exact star_cons rfl) (ht2 : starEach [.Name y p3] X.env = (false, eval (.Name y p3) X.env) :: starEach [] X.env := by exact star_cons rfl)
    (he : starEach [e, .Tuple [.Name x p2, .Name y p3] kk p4] X.env = (false, eval e X.env) :: starEach [.Tuple [.Name x p2, .Name y p3] kk p4] X.env := by exact star_cons rfl) (he2 : starEach [.Tuple [.Name x p2, .Name y p3] kk p4] X.env = (false, eval (.Tuple [.Name x p2, .Name y p3] kk p4) X.env) :: starEach [] X.env := by exact star_cons rfl) (hpl : (backTo pos (starEach [.Tuple [.Name x p2, .Name y p3] kk p4] X.env)).any (·.1) = false := by rfl) :
    EvD X F (.Call (.Name "isinstance" p) [e, .Tuple [.Name x p2, .Name y p3] kk p4] [] pos) ρ (.bool (q1 || q2)) ρ1 :=
  fun G σ H Q s k => toW (pe_callB call_isiT hgl hm (by decide +kernel) (pa_cons peW (pa_cons (pe_tup (pa_cons (pe_bltn hgx hT1 hv1 (v := .ty T1) rfl hn hdb) (pa_cons (pe_bltn hgy hT2 hv2 (v := .ty T2) rfl hn2 hdb2) pa_nil ht2) ht1)) pa_nil he2) he) (by decide) (by decide) he hpl) (ha G σ H _ s fun v G1 H1 s1 g1 r1 =>
    ⟨by show 2 ≤ sizeLine; decide, fun tp hp => ⟨v, tp, [.ty T1, .ty T2], .type (tyN d), [.type T1, .type T2], q1 || q2, rfl, upd_same, .cons (.ty T1) (.cons (.ty T2) .nil), by rw [hK]; exact tyx_rp (same_updR s1.gh (none_of_same s1.gh hp)) r1,
      kitAny_cons (kit_ty hk1) (fun z => by subst z; rw [Bool.false_or]; exact kitAny_cons (kit_ty hk2) (fun z => by subst z; exact kitAny_nil) fun z => z) (fun z => by rw [z]; rfl), k _ _ _ (s1.lay hp) (g1.trans (same_upd (none_of_same s1.gh hp))) res_bl⟩⟩)
theorem isSeq_or (d : PyData) : (isList d || isTuple d) = isSeq d := by cases d <;> rfl

def CDivG (_ j : Int) : Prop := j ≠ 0 ∧ j.natAbs.log2 < 9000
theorem op_fdivG : OpR X (binaryOp .FloorDiv) (rI CDivG fun i j => .int (i.fdiv j)) := opI fun i j _ _ _ _ _ hc q => floordiv_int hc.1 q (.inl (PyProof.noPylong_of_log2 hc.2))
theorem ev_mul (ha : EvD X F a ρ (.int i) ρ1) (hb : EvD X F b ρ1 (.int j) ρ2) (hc : CMulW i j) : EvD X F (.BinOp a .Mult b pos) ρ (.int (i * j)) ρ2 := ev_op op_mulW ha hb hc (rp_int _)
theorem ev_mulS (ha : EvD X F a ρ (.int i) ρ1) (hb : EvD X F b ρ1 (.int j) ρ2) (hc : CMul i j) : EvD X F (.BinOp a .Mult b pos) ρ (.int (i * j)) ρ2 := ev_op op_mul ha hb hc (rp_int _)
theorem ev_fdiv (ha : EvD X F a ρ (.int i) ρ1) (hb : EvD X F b ρ1 (.int j) ρ2) (hc : CDivG i j) : EvD X F (.BinOp a .FloorDiv b pos) ρ (.int (i.fdiv j)) ρ2 := ev_op op_fdivG ha hb hc (rp_int _)
theorem ev_div (ha : EvD X F a ρ (.int i) ρ1) (hb : EvD X F b ρ1 (.int j) ρ2) (hc : CDivW i j) : EvD X F (.BinOp a .FloorDiv b pos) ρ (.int (i / j)) ρ2 := ev_op op_fdivW ha hb hc (rp_int _)
theorem ev_mod (ha : EvD X F a ρ (.int i) ρ1) (hb : EvD X F b ρ1 (.int j) ρ2) (hc : 0 < j) : EvD X F (.BinOp a .Mod b pos) ρ (.int (i % j)) ρ2 := ev_op op_mod ha hb hc (rp_int _)
theorem ev_pow (ha : EvD X F a ρ (.int i) ρ1) (hb : EvD X F b ρ1 (.int j) ρ2) (hc : CPow i j) : EvD X F (.BinOp a .Pow b pos) ρ (.int (i ^ j.toNat)) ρ2 := ev_op op_pow ha hb hc (rp_int _)
/-- gcd of the module math -/
theorem ev_gcd {x : Str} (hm : X.mg x = some (.builtin "math.gcd")) (ha : EvD X F a ρ (.int i) ρ1) (hb : EvD X F b ρ1 (.int j) ρ2) (hgl : Gl X x := by rfl) (hdb : (x == ("__debug__" : Str)) = false := by decide)
    (he : starEach [a, b] X.env = (false, eval a X.env) :: starEach [b] X.env := by exact star_cons rfl) (he2 : starEach [b] X.env = (false, eval b X.env) :: starEach [] X.env := by exact star_cons rfl) (hpl : (backTo pos (starEach [b] X.env)).any (·.1) = false := by rfl) :
    EvD X F (.Call (.Name x p) [a, b] [] pos) ρ (.int (Nat.gcd i.natAbs j.natAbs : Nat)) ρ2 :=
  fun G σ H Q s k => toW (pe_callBfun cr_gcd hgl hm (pa_cons peW (pa_cons peW pa_nil he2) he) hdb he hpl) (ha G σ H _ s fun v G1 H1 s1 g1 r1 => by
    simp only [ResR, Rp] at r1; subst r1
    exact hb G1 σ H1 _ s1 fun u G2 H2 s2 g2 r2 => by
      simp only [ResR, Rp] at r2; subst r2
      exact ⟨i, j, rfl, k _ G2 H2 s2 (g1.trans g2) res_int⟩)
/-- + of lists -/
theorem evn_cat {es1 es2 : List PyData} (ha : EvD X F a ρ (.list es1) ρ1) (hb : EvD X F b ρ1 (.list es2) ρ2) (hz : es1.length + es2.length ≤ sizeLine) : EvS X F (.BinOp a .Add b pos) ρ (.ow false (es1 ++ es2)) ρ2 :=
  fun G σ H Q s k => toW (pe_op op_cat peW peW) (ha G σ H _ s fun v G1 H1 s1 g1 r1 => hb G1 σ H1 _ s1 fun u G2 H2 s2 g2 r2 => by
    simp only [ResR, Rp] at r1 r2
    obtain ⟨x, xs, rfl, x1, x2⟩ := r1
    obtain ⟨y, ys, rfl, y1, y2⟩ := r2
    exact ⟨x, y, xs, ys, rfl, rfl, s2.gh _ _ (g2 _ _ x1), s2.gh _ _ y1, by rw [x2.length, y2.length]; exact hz, fun l hl => k _ G2 _ (s2.layN hl) (g1.trans g2) (newOw s2 hl ((Rps.mono g2 _ _ x2).append y2))⟩)
end
end DL
end
section
set_option maxHeartbeats 4000000
namespace DL
open PySem PySem.Spec PyProof.Rows L2 PySem.W PySem.Calls PySem.HandSPX

/-- the text of such an __init__ -/
def eArgs (p1 p2 : Pos) : Arguments := { posonlyargs := [], args := [{ arg := "self", annotation := none, pos := p1 }, { arg := "part", annotation := none, pos := p2 }], vararg := none, kwonlyargs := [], kw_defaults := [], kwarg := none, defaults := [] }
def eBody (q1 q2 q3 q4 q5 q6 q7 q8 q9 q10 : Pos) : List Stmt :=
  [.Expr (.Call (.Attribute (.Call (.Name "super" q1) [] [] q2) "__init__" q3) [.Name "part" q4] [] q5) q6, .Assign [.Attribute (.Name "self" q7) "part" q8] (.Name "part" q9) q10]
def eScope : Scope := { kind := .function, names := [(PySem.Str.ofString "self", .local), (PySem.Str.ofString "part", .local), (PySem.Str.ofString "__class__", .free), (PySem.Str.ofString "super", .globalImplicit)], isGenerator := false, isCoroutine := false, more := [] }

/-- what the written part says of such a class at C, of its __init__ at fI -/
structure ErrT (prog : Program) (K : Frag) (C fI : Addr) (qual : Str) : Prop where
  cls : ∃ nm q N bs bm sn sub ab col dd k0 k1 k2 k3 k5, K.lookup C = some (excClassObj nm q C N bs bm true sn sub ab col dd k0 k1 k2 k3 k5 "ValueError.__new__") ∧ refsVE bm = true ∧ alongIn K "__init__" bm = some (some (.builtin "ValueError.__init__"))
  sa : findIn K (.ref C) "__setattr__" = some (some (.builtin "object.__setattr__"))
  ga : findIn K (.ref C) "__getattribute__" = some (some (.builtin "BaseException.__getattribute__"))
  gg : findIn K (.ref C) "__getattr__" = some none
  noN : findIn K (.ref C) "part" = some none
  iC : findIn K (.ref C) "__init__" = some (some (.ref fI))
  tC : typeIn K (.ref fI) = some (.type "function")
  kC : keepIn K (.ref C) = true
  exC : subIn K (.ref C) (.type "BaseException") = some true
  veC : subIn K (.ref C) (.type "ValueError") = some true
  meC : mroIn K C (.ref C) = some true
  tyC : typeIn K (.ref C) = some (.type "type")
  hdC : hasDictIn K C = true
  op : nsIn K cStatics "thirdparty.any" = some none
  su : nsIn K mainGlobals "super" = some none
  top : (prog.main.scope.names.lookup ("super" : Str)).isSome = false
  fn : ∃ (oc : Value) (od : Option Addr) (doc pm : Value) (an : Option Addr) (cda cc : Addr) (ct : Value) (osl : Array (Option Value)) (p1 p2 q1 q2 q3 q4 q5 q6 q7 q8 q9 q10 : Pos) (ccl : Value) (cdd : Option Addr) (vs : Array Value) (ccs : Array (Option Value)) (file : Str) (tf : Tok) (cl : Value) (cld : Option Addr) (csl : Array (Option Value)),
    K.lookup fI = some ⟨oc, od, .func (fnX "__init__" qual (eArgs p1 p2) (eBody q1 q2 q3 q4 q5 q6 q7 q8 q9 q10) eScope [("__class__", cc)] .none .none doc pm an (.ref cda) ct), osl⟩ ∧ codeIn K (.ref cda) qual = true ∧
    K.lookup cda = some ⟨ccl, cdd, .fields vs, ccs⟩ ∧ vs[2]? = some (.str file tf) ∧ ((prog.main.file : Str) == file) = true ∧ K.lookup cc = some ⟨cl, cld, .cell (some (.ref C)), csl⟩ ∧ (q3.endLine == q5.line) = true

theorem eval_MethodCall0 {o : Expr} {name : Str} {apos pos : Pos} {e : Expr} {env : Env} (h : (apos.endLine == pos.line) = true) (hs : starEach [e] env = [(false, eval e env)] := by rfl) : eval (.Call (.Attribute o name apos) [e] [] pos) env = (do
      let ov ← attributeBase o name env (eval o env)
      standAt apos.atName
      let (f, first) ← holding [ov] (getMethod ov name (do return (← importBound o env).getD true))
      callWith pos f first (backTo pos (starEach [e] env)) []) := by
  have e1₁ : eval (.Call (.Attribute o name apos) [e] [] pos) env = (do
      let ov ← attributeBase o name env (eval o env)
      standAt apos.atName
      methodCall o name apos pos env ov ([e].length + ([] : List Keyword).length) (backTo pos (starEach [e] env)) (backToKw pos (keywordEach [] env))) := rfl
  rw [e1₁]
  unfold methodCall methodCallPos calleeOf
  rw [hs, h, Bool.or_true]
  rfl
theorem one_le (v : Value) : [v].length ≤ sizeLine := by
  rw [sizeLine_eq]
  exact (by decide : 1 ≤ 16777216)
theorem ldC {M : Model} {A : Around} {E : Value → Shared → Prop} {s : Shared} {env : Env} {m : Str → Option Value} {x : Str} {pos : Pos} {v : Value} {Q : Value → Shared → Prop} (hn : s.heap.Ns env.locals m) (hv : m x = some v) (h : Q v s)
    (hk : env.scope.kind = .function) (hl : env.kindOf x = some .local) (hd : (x == ("__debug__" : Str)) = false := by decide) : wpAny M A (eval (.Name x pos) env) Q E s := wpAny_Name (wpAny_loadName_local hk hl hn hv h) hd
section
variable {prog : Program} {w : World} {A : Around} {E : Value → Shared → Prop} {R : Result → Shared → Prop} {s : Shared} {K : Frag} {mg mb : Str → Option Value} {C fI : Addr} {qual : Str}
/-- what __init__ leaves of a fresh exception at x -/
structure ErrEnd (h h' : Heap) (x C dx t1 : Addr) (v : Value) : Prop where
  keep : ∀ b o, b ≠ x → h.get? b = some o → h'.get? b = some o
  obj : h'.get? x = some { cls := .ref C, dict := some dx, data := .fields #[.ref t1, .none, .none, .none, .bool false, .none] }
  dbig : h.objs.size ≤ dx
  dne : dx ≠ x
  ns : h'.Ns1 dx (fun y => if y = "part" then some v else none)
theorem err_init (T : ErrT prog K C fI qual) {x t0 : Addr} {v : Value} (X : K.In s.heap) (hgl : s.heap.Ns mainGlobals mg) (hmg : mg "super" = none) (hbl : s.heap.Ns builtinsNs mb) (hbb : mb "super" = some (.type "super")) (hlim : s.heap.NoLimit) (hx : s.heap.get? x = some (excO C t0)) (hnx : K.lookup x = none) (hroom : A.depth < recursionLimit)
    (hq : ∀ h' tk dx t1, ErrEnd s.heap h' x C dx t1 v → R (.ok (.ret .none)) { s with heap := h', toks := tk }) :
    codeAny (model prog w) A (.call (.ref fI) ⟨[.ref x, v], []⟩) R s := by
  obtain ⟨oc₁, od, doc₁, pm₁, an₁, cda₁, cc₁, ct₁, osl₁, p1₁, p2₁, q1₁, q2₁, q3₁, q4₁, q5₁, q6₁, q7₁, q8₁, q9₁, q10₁, ccl₁, cdd₁, vs₁, ccs₁, file₁, tf₁, cl₁, cld₁, csl₁, ho₁, hcd₁, hcda₁, hvs₁, hfile₁, hcc₁, hln₁⟩ := T.fn
  obtain ⟨nm₁, q₁, N₁, bs₁, bm₁, sn₁, sub₁, ab₁, col₁, dd₁, k0₁, k1₁, k2₁, k3₁, k5₁, hC₁, hbm₁, hal₁⟩ := T.cls
  have hcl₁ : clsIn K C = some { name := nm₁, bases := bs₁, mro := .ref C :: bm₁, ns := N₁, qualname := q₁, hasDict := true, slotNames := sn₁, subclasses := sub₁, abstract := ab₁, collection := col₁, hasDel := false } := by unfold clsIn; rw [hC₁] <;> rfl
  refine ks_codeAny_call_defAt (body := eBody q1₁ q2₁ q3₁ q4₁ q5₁ q6₁ q7₁ q8₁ q9₁ q10₁) (binds := [("self", .ref x), ("part", v)]) hroom (X _ _ ho₁) rfl hlim (codeRec_of X hcd₁) rfl (BindsTo.of_eq (by first | rfl | with_unfolding_all rfl)) (show ∀ y₁ ∈ eScope.names, y₁.2 ≠ .cell by decide) (fun y₁ hy₁ => ?_) (fun h₁₁ hns₁ hk₁₁ => ?_) rfl rfl rfl
  · rcases List.mem_cons.mp hy₁ with rfl | hy₁
    · rfl
    · rcases List.mem_cons.mp hy₁ with rfl | hy₁
      · rfl
      · cases hy₁
  have X1₁ : K.In h₁₁ := Frag.In.keeps X hk₁₁
  have hx1₁ := hk₁₁ _ _ hx
  have hgl1₁ := hgl.keeps hk₁₁
  have hbl1₁ := hbl.keeps hk₁₁
  have hC1₁ := X1₁ _ _ hC₁
  have hsx₁ : x ≠ C := fun e₁ => by rw [e₁] at hnx; rw [hC₁] at hnx; cases hnx
  generalize hL : s.heap.objs.size = L at *
  have hLx₁ : x ≠ L := by rw [← hL]; exact Nat.ne_of_lt (Heap.lt_size hx)
  -- super().__init__(part)
  show PySem.wpAt _ _ _ (execs (_ :: _) _) _ _ _
  refine ks_wpAt_execs_cons (ks_wpAt_Expr_any (ks_wpAt_MethodCall (pl := do return (← importBound (.Call (.Name "super" q1₁) [] [] q2₁) (callEnv (fnX "__init__" qual (eArgs p1₁ p2₁) (eBody q1₁ q2₁ q3₁ q4₁ q5₁ q6₁ q7₁ q8₁ q9₁ q10₁) eScope [("__class__", cc₁)] .none .none doc₁ pm₁ an₁ (.ref cda₁) ct₁) L fI)).getD true) ?_ (by
    rw [eval_MethodCall0 hln₁])))
  refine ks_wpAt_super_base rfl rfl (by decide) rfl (X1₁ _ _ ho₁) rfl rfl rfl (X1₁ _ _ hcda₁) rfl hvs₁ hfile₁ T.top ?_
  refine ks_loadName_global rfl rfl (loadGlobal_builtin hgl1₁ hmg hbl1₁ hbb ⟨rfl, ?_⟩)
  refine wpAny_loadName_free rfl rfl rfl ⟨_, X1₁ _ _ hcc₁, rfl⟩ ?_
  refine wpAny_loadName_local (name := "self") (v := .ref x) rfl rfl hns₁ (by rfl) ?_
  refine ks_wpAny_isType_cls hC1₁ rfl ⟨rfl, ?_⟩
  refine ks_wpAny_call_super hC1₁ rfl hx1₁ rfl (fun c₁ e₁ => by cases e₁) (looks_mroIn X1₁ T.meC) fun h₂₁ hso₁ hk₂₁ => ?_
  have X2₁ : K.In h₂₁ := Frag.In.keeps X1₁ hk₂₁
  have hx2₁ := hk₂₁ _ _ hx1₁
  have I2₁ : InstAt h₂₁ x (excO C t0) C none := ⟨hx2₁, rfl, rfl, trivial⟩
  refine kxs_getMethod kxs_ValueError hso₁ (looks_opaque X2₁ T.op) (l₀ := .ref C :: bm₁) (fun A Q₁ E₁ s k₁ q₁ => wpAny_bind ((looks_clsIn X2₁ hcl₁) A _ E₁ s k₁ (wpAny_pure q₁))) (by simp [List.dropWhile_cons]) X2₁ hal₁ (I2₁.type.andThen (looks_subIn X2₁ T.veC)) hsx₁ (by decide) ?_
  generalize hu : h₂₁.objs.size = u
  have hk₃₁ : ∀ b₁ o₁, h₂₁.get? b₁ = some o₁ → (h₂₁.push (kxs_mw "ValueError.__init__" x)).get? b₁ = some o₁ := fun b₁ o₁ e₁ => Heap.get?_push_of_some _ e₁
  have hu3₁ : (h₂₁.push (kxs_mw "ValueError.__init__" x)).get? u = some (kxs_mw "ValueError.__init__" x) := by rw [← hu]; exact Heap.get?_push_at rfl rfl
  have hns3₁ := (hns₁.keeps hk₂₁).keeps hk₃₁
  refine kxs_callWith (i := "ValueError.__init__") (x := x) rfl (evalArgs_plain (Calls.spliced_cons ?_))
  refine ldC (v := v) hns3₁ (by rfl) (Calls.spliced_nil ⟨hu3₁, ?_⟩) rfl rfl
  -- the call of the bound __init__
  have X3₁ : K.In (h₂₁.push (kxs_mw "ValueError.__init__" x)) := Frag.In.keeps X2₁ hk₃₁
  have hx3₁ := hk₃₁ _ _ hx2₁
  have hC3₁ := X3₁ _ _ hC₁
  generalize hh3 : h₂₁.push (kxs_mw "ValueError.__init__" x) = h₃ at *
  refine wpAny_call (codeAny_of_tree ?_)
  show wpAny _ _ (callAny (.ref u) ⟨[v], []⟩) _ _ _
  simp only [callAny]
  refine wpAny_bind (wpAny_load hu3₁ ?_)
  simp only [kxs_mw, show (Value.type "method-wrapper" == Value.type "method" || Value.type "method-wrapper" == Value.type "builtin_function_or_method" || Value.type "method-wrapper" == Value.type "method-wrapper") = true by decide, if_true]
  refine KFB.if_so (by decide) ?_
  refine wpAny_bind (check_bound_init F.excBase_ValueError.toExcCallFacts hC3₁ hx3₁ rfl ?_)
  refine wpAny_bind (wpAny_pure (wpAny_pure ?_))
  refine ⟨plainId_quiet F.excBase_ValueError.init.plain _, codeAny_builtin F.excBase_ValueError.initEntry ?_⟩
  refine exc_init_tree (cls := .ref C) (t0 := t0) (dv := none) (c2 := .none) (c3 := .none) (b4 := .bool false) hx3₁ (one_le v) fun h₄₁ hk₄₁ hx4₁ _ => ?_
  -- self.part = part
  have k04₁ : ∀ b₁ o₁, b₁ ≠ x → h₁₁.get? b₁ = some o₁ → h₄₁.get? b₁ = some o₁ := fun b₁ o₁ hb₁ e₁ => hk₄₁ b₁ o₁ hb₁ (hh3 ▸ hk₃₁ b₁ o₁ (hk₂₁ b₁ o₁ e₁))
  have X4₁ : K.In h₄₁ := fun b₁ o₁ e₁ => k04₁ b₁ o₁ (fun z₁ => by rw [z₁, hnx] at e₁; cases e₁) (X1₁ b₁ o₁ e₁)
  have hns4₁ : h₄₁.Ns L fun y₁ => List.lookup y₁ (List.reverse [("self", Value.ref x), ("part", v)]) := by
    obtain ⟨o₁, es₁, ep₁, e₁, r₁⟩ := hns₁
    exact ⟨o₁, es₁, ep₁, k04₁ _ _ (Ne.symm hLx₁) e₁, r₁⟩
  refine ks_wpAt_execs_cons (PySem.wpAt_of_wpAny (plainObj_wpAny_Assign_Attribute ?_))
  refine ldC (v := v) hns4₁ (by rfl) (ldC (v := .ref x) hns4₁ (by rfl) ?_ rfl rfl) rfl rfl
  refine set_plain X4₁ (ox := excO C h₃.objs.size) (od := none) ⟨hx4₁, rfl, rfl, trivial⟩ T.sa ?_
  refine exc_osa X4₁ hx4₁ hcl₁ (show refsVE (.ref C :: bm₁) = true from hbm₁) rfl T.noN (fun h₅₁ tk₅₁ dx k₅₁ dn₁ dne₁ hx₅₁ hn₅₁ => ?_)
  refine PySem.wpAt_of_wpAny (wpAny_execs_nil (hq h₅₁ tk₅₁ dx _ ⟨fun b₁ o₁ hb₁ e₁ => k₅₁ b₁ o₁ hb₁ (k04₁ b₁ o₁ hb₁ (hk₁₁ b₁ o₁ e₁)), hx₅₁, ?_, dne₁, hn₅₁⟩))
  obtain ⟨oL₁, _, _, hoL₁, _⟩ := hns4₁
  rw [← hL] at hoL₁
  exact Nat.le_of_lt (Nat.lt_of_lt_of_le (Heap.lt_size hoL₁) dn₁)
/-- a made error -/
structure ErrMade (h h' : Heap) (e C d : Addr) (v : Value) : Prop where
  keep : ∀ b o, h.get? b = some o → h'.get? b = some o
  new : h.objs.size ≤ e
  obj : ∃ oe vs, h'.get? e = some oe ∧ oe.cls = .ref C ∧ oe.dict = some d ∧ oe.data = .fields vs ∧ vs[1]? = some .none
  dbig : h.objs.size ≤ d
  dne : d ≠ e
  ns : h'.Ns1 d (fun y => if y = "part" then some v else none)
theorem err_made (T : ErrT prog K C fI qual) {v : Value} (X : K.In s.heap) (hgl : s.heap.Ns mainGlobals mg) (hmg : mg "super" = none) (hbl : s.heap.Ns builtinsNs mb) (hbb : mb "super" = some (.type "super")) (hlim : s.heap.NoLimit) (hroom : A.depth + 1 < recursionLimit)
    (hq : ∀ h' tk e d, ErrMade s.heap h' e C d v → R (.ok (.ret (.ref e))) { s with heap := h', toks := tk }) :
    codeAny (model prog w) A (.call (.ref C) ⟨[v], []⟩) R s := by
  obtain ⟨nm₁, q₁, N₁, bs₁, bm₁, sn₁, sub₁, ab₁, col₁, dd₁, k0₁, k1₁, k2₁, k3₁, k5₁, hC₁, hbm₁, hal₁⟩ := T.cls
  obtain ⟨hp₁, g₁, dr₁, tk, os₁⟩ := s
  have up₁ : ∀ b₁ o₁, hp₁.get? b₁ = some o₁ → ((hp₁.push (kdv_tup [v])).push (excO C hp₁.objs.size)).get? b₁ = some o₁ := fun b₁ o₁ e => Heap.get?_push_of_some _ (Heap.get?_push_of_some _ e)
  have at1₁ : ((hp₁.push (kdv_tup [v])).push (excO C hp₁.objs.size)).get? (hp₁.objs.size + 1) = some (excO C hp₁.objs.size) := by heap_get
  have free1₁ : K.lookup (hp₁.objs.size + 1) = none := by
    cases e : K.lookup (hp₁.objs.size + 1) with
    | none => rfl
    | some o₁ => exact absurd (Nat.lt_of_succ_lt (Heap.lt_size (show hp₁.get? _ = some o₁ from X _ _ e))) (Nat.lt_irrefl _)
  refine call_own F.excBase_ValueError (fun X => refsVE_contains X bm₁ hbm₁) (X _ _ hC₁) (looks_findIn X T.iC) (fun self₁ => bind_fn X self₁ T.tC) (one_le v) ?_
  refine err_init (s := ⟨(hp₁.push (kdv_tup [v])).push (excO C hp₁.objs.size), g₁, dr₁, tk, os₁⟩) T (Frag.In.keeps X up₁) (hgl.keeps up₁) hmg (hbl.keeps up₁) hbb (hlim.keeps up₁) at1₁ free1₁ hroom fun h' tk'₁ dx₁ t1₁ z₁ => ?_
  have old₁ : ∀ b₁ o₁, hp₁.get? b₁ = some o₁ → h'.get? b₁ = some o₁ := fun b₁ o₁ e => z₁.keep b₁ o₁ (Nat.ne_of_lt (Nat.lt_succ_of_lt (Heap.lt_size e))) (up₁ b₁ o₁ e)
  have big₁ : hp₁.objs.size + 1 + 1 ≤ dx₁ := by
    have q₁ := z₁.dbig
    simp only [Heap.size_push] at q₁
    exact q₁
  exact ⟨rfl, hq h' tk'₁ (hp₁.objs.size + 1) dx₁ ⟨old₁, Nat.le_succ _, ⟨_, _, z₁.obj, rfl, rfl, rfl, rfl⟩, Nat.le_trans (Nat.le_trans (Nat.le_succ _) (Nat.le_succ _)) big₁, z₁.dne, z₁.ns⟩⟩
end

theorem relO_part {v : V} {v' : Value} (r : RelV v v') (f : Str) : RelO (List.lookup f [(("part" : Str), v)]) (if f = "part" then some v' else none) := by
  by_cases hw : f = "part"
  · subst hw
    rw [if_pos rfl]
    have q : List.lookup ("part" : Str) [(("part" : Str), v)] = some v := by simp [List.lookup]
    rw [q]
    exact r
  · rw [if_neg hw]
    have qw : (f == ("part" : Str)) = false := by simpa using hw
    have q2 : List.lookup f [(("part" : Str), v)] = none := by simp [List.lookup, qw]
    rw [q2]
    trivial
section
variable {X : Cx} {F : FC} {ρ ρ1 : List Sl} {C fI : Addr} {qual x : Str} {e : Expr} {d : PyData} {p pos pos2 : Pos} {k : Nat}
theorem pmk_err (T : ErrT X.prog X.K C fI qual) (hr : Room k X.A) (hm : X.mg x = some (.ref C)) (hsup : X.mg "super" = none) (hg : Gl X x) (hdb : (x == ("__debug__" : Str)) = false) (he : starEach (e :: []) X.env = (false, eval e X.env) :: starEach [] X.env) :
    PMk X (.Call (.Name x p) [e] [] pos) (fun σ H Q => tW X e σ H fun v H1 => ∀ d, H1 d = none → Q (.ref C) (some d) (upd H1 d (.xd [(("part" : Str), v)]))) := by
  intro pins₁ s₁ σ H Q I₁ h₁
  refine wpAny_Call_Name_kw (ld_glob I₁ hg hm ?_ hdb)
  refine PySem.W.callWith_K (h₀ := X.base) I₁.ok.mod.kin T.kC (thn ((pa_cons peW pa_nil he).run pos pins₁ s₁ σ H (fun vs₁ H1 => ∃ v, vs₁ = [v] ∧ ∀ d, H1 d = none → Q (.ref C) (some d) (upd H1 d (.xd [(("part" : Str), v)]))) I₁ ⟨fun pins₁ sh₁ J₁ => thn (h₁.run pins₁ sh₁ J₁) fun u₁ s1₁ ⟨v, H1, I1₁, r₁, q₁⟩ => ⟨v, H1, I1₁, r₁, v, rfl, q₁⟩⟩) fun us₁ s1₁ hh₁ => ?_) he rfl
  obtain ⟨vs₁, H1, I1₁, r1₁, v, ev₁, q1₁⟩ := hh₁
  subst ev₁
  refine ⟨I1₁.kIn, ?_⟩
  cases r1₁ with
  | cons rv₁ rn₁ =>
    rename_i v'₁ us'₁
    cases rn₁
    show wpAny _ _ (call (.ref C) [v'₁]) _ _ _
    have hlim₁ := I1₁.nolimit
    have hgl₁ := I1₁.mod.glob.keeps I1₁.bk
    obtain ⟨mb₁, hb1₁, hb2₁⟩ := I1₁.mod.blt
    have hbl₁ := hb1₁.keeps I1₁.bk
    have hbb₁ : mb₁ "super" = some (.type "super") := (hb2₁ _ (by decide)).trans (by decide +kernel)
    obtain ⟨hp₁, g₁, dr₁, tk₁, os₁⟩ := s1₁
    refine wpAny_call (err_made T I1₁.kIn hgl₁ hsup hbl₁ hbb₁ hlim₁ (by have := hr.dp; omega) fun h'₁ tk'₁ e d M₁ => ?_)
    show MkP X pins₁ σ Q (.ref e) ⟨h'₁, g₁, dr₁, tk'₁, os₁⟩
    obtain ⟨oe₁, fv₁, hoe₁, hc₁, hd₁, hdat₁, h1₁⟩ := M₁.obj
    obtain ⟨G'₁, g1₁, g2₁⟩ := restrict h'₁ fun b₁ => decide (b₁ ≠ e)
    have gk₁ : ∀ b₁, b₁ ≠ e → G'₁.get? b₁ = h'₁.get? b₁ := fun b₁ hb₁ => g1₁ b₁ (decide_eq_true hb₁)
    have ge₁ : G'₁.get? e = none := g2₁ e (by simp)
    have old₁ : ∀ b₁ o₁, hp₁.get? b₁ = some o₁ → G'₁.get? b₁ = some o₁ := fun b₁ o₁ q₁ => (gk₁ b₁ (Nat.ne_of_lt (Nat.lt_of_lt_of_le (Heap.lt_size q₁) M₁.new))).trans (M₁.keep b₁ o₁ q₁)
    have ob₁ : ObjOk X.prog X.w (upd H1 d (.xd [(("part" : Str), v)])) G'₁ d (.xd [(("part" : Str), v)]) :=
      ⟨_, M₁.ns.at (fun o₁ q₁ => (gk₁ d M₁.dne).trans q₁), fun f₁ => relO_part rv₁ f₁⟩
    have J₁ : Inv X pins₁ σ (upd H1 d (.xd [(("part" : Str), v)])) ⟨G'₁, g₁, dr₁, tk'₁, os₁⟩ := I1₁.laid (t' := tk'₁) old₁ M₁.dbig ob₁
    refine ⟨e, oe₁, fv₁, ⟨G'₁, g₁, dr₁, tk'₁, os₁⟩, _, .ref C, some d, rfl, J₁, fun b₁ o₁ q₁ => ?_, ge₁, hoe₁, ⟨hc₁, hd₁⟩, hdat₁, h1₁, ?_, rfl, I1₁.bare, raises_own T.exC T.tyC, q1₁ d (I1₁.hok.fresh M₁.dbig)⟩
    · by_cases hb₁ : b₁ = e
      · have q' : G'₁.get? b₁ = some o₁ := q₁
        rw [hb₁, ge₁] at q'; cases q'
      · exact (gk₁ b₁ hb₁).symm.trans q₁
    · rw [upd_ne (Ne.symm M₁.dne)]
      exact I1₁.hok.fresh M₁.new
/-- raise X(e) -/
theorem exs_raise (T : ErrT X.prog X.K C fI qual) (hr : Room k X.A) (hm : X.mg x = some (.ref C)) (hsup : X.mg "super" = none) (h : EvD X F e ρ d ρ1) (hc : X.calm = true := by rfl) (hg : Gl X x := by rfl) (hdb : (x == ("__debug__" : Str)) = false := by decide) (he : starEach (e :: []) X.env = (false, eval e X.env) :: starEach [] X.env := by exact star_cons rfl) :
    ExS X F (.Raise (some (.Call (.Name x p) [e] [] pos)) none pos2) ρ (.ex C [("part", d)] ρ1) := fun G σ H D W sr tk k' =>
  toWS (ps_raise hc tk (pmk_err T hr hm hsup hg hdb he)) (h G σ H _ sr fun v G1 H1 s1 g1 r dd hd => k' dd _ G1 σ _ (s1.layN hd) g1 ⟨upd_same, s1.hd dd hd, none_of_same s1.gh hd⟩ ⟨v, [], rfl, r, rfl⟩)
end
end DL
end
section
set_option maxHeartbeats 4000000
namespace DL
open PySem PySem.Spec PyProof.Rows L2

/-- a lambda's scope: no cells; its own names are none of the maker's slots; what it captures are cells of the maker -/
structure LamO (N : List Str) (sc scope : Scope) : Prop where
  kind : scope.kind = .function
  co : (scope.isCoroutine) = false
  gen : (scope.isGenerator) = false
  own : ∀ y ∈ scope.names, y.2 ≠ .cell ∧ (y.2 = .local → y.1 ∉ N)
  free : ∀ z ∈ scope.names, z.2 = .free → sc.names.lookup z.1 = some .cell ∨ sc.names.lookup z.1 = some .free
def lamOB (N : List Str) (sc scope : Scope) : Bool :=
  decide (scope.kind = .function) && !scope.isCoroutine && !scope.isGenerator && scope.names.all fun y => !decide (y.2 = .cell) && (!decide (y.2 = .local) || !decide (y.1 ∈ N)) && (!decide (y.2 = .free) || decide (sc.names.lookup y.1 = some .cell) || decide (sc.names.lookup y.1 = some .free))
theorem lamO_by {N : List Str} {sc scope : Scope} (h : lamOB N sc scope = true) : LamO N sc scope := by
  unfold lamOB at h
  simp only [Bool.and_eq_true, Bool.or_eq_true, Bool.not_eq_true', decide_eq_true_eq, decide_eq_false_iff_not, List.all_eq_true] at h
  obtain ⟨⟨⟨h1₁, h2₁⟩, h3₁⟩, h4₁⟩ := h
  refine ⟨h1₁, h2₁, h3₁, fun y₁ hy₁ => ⟨(h4₁ y₁ hy₁).1.1, fun e₁ => ?_⟩, fun y₁ hy₁ e₁ => ?_⟩
  · rcases (h4₁ y₁ hy₁).1.2 with z | z
    · exact absurd e₁ z
    · exact z
  · rcases (h4₁ y₁ hy₁).2 with (z | z) | z
    · exact absurd e₁ z
    · exact .inl z
    · exact .inr z
section
variable {X : Cx} {pins : List (Addr × Obj)} {σ : L2.St} {H HZ : Hp} {s s1 : Shared} {scope : Scope}
theorem LamO.has (L : LamO X.N X.env.scope scope) (ok : X.Ok) : ∀ y ∈ scope.names, y.2 = .free → ∃ c, X.env.cells.lookup y.1 = some c := fun y hy e => by
  rcases (L.free y hy e) with k | k
  · exact ok.has _ (.inl k)
  · exact ok.has _ (.inr k)
theorem lam_start {A : Around} {outer : List Env} {E : XK} {f c' : Addr} {h₁ : Heap} {tk : Nat} {m0 : Str → Option Value} (I : Inv X pins σ H s) (L : LamO X.N X.env.scope scope) (e0 : Env0 X.prog X.w X.K X.mg X.base A outer s1 HZ) (hd : A.handled = none)
    (un : Un (frs X.stack) [] H HZ s.heap s1.heap) (hns : h₁.Ns s1.heap.objs.size m0) (kp : ∀ b o, s1.heap.get? b = some o → h₁.get? b = some o) :
    Inv (LamX.lamCx X A outer s1 HZ E scope f c') [] σ HZ { s1 with heap := h₁, toks := tk } := by
  have hfree₁ := L.has I.ok
  have cm₁ : ∀ {y₁ c₁}, (cloFrom X.env.cells scope.names []).lookup y₁ = some c₁ → X.env.cells.lookup y₁ = some c₁ := fun {y₁ c₁} e₁ => by
    rcases cloFrom_mem (PySem.mem_of_lookup e₁) with hm | ⟨h1, h2₁⟩
    · cases hm
    · obtain ⟨c1₁, hc₁⟩ := hfree₁ _ h1 rfl
      have hc₁ : X.env.cells.lookup y₁ = some c1₁ := hc₁
      have e2₁ : c₁ = c1₁ := by
        rw [h2₁, hc₁] <;> rfl
      rw [e2₁]
      exact hc₁
  have look₁ : ∀ {y₁}, scope.names.lookup y₁ = some .free → ∃ c₁, (cloFrom X.env.cells scope.names []).lookup y₁ = some c₁ := fun {y₁} hl₁ => by
    have hy₁ : (y₁, NameKind.free) ∈ scope.names := PySem.mem_of_lookup hl₁
    exact mem_lookup (cloFrom_has (cells := X.env.cells) (acc := []) hy₁)
  have cellK₁ : ∀ {c₁ : Addr} {v₁ : Option Value}, H c₁ = none → s.heap.IsCell c₁ v₁ → h₁.IsCell c₁ v₁ := fun {c₁ v₁} n₁ ⟨o, ho₁, hd⟩ => by
    obtain ⟨sl₁, q₁⟩ := un.any ho₁ n₁ (by simp)
    exact ⟨_, kp _ _ q₁, hd⟩
  have noA₁ : ∀ b : Addr, b ∉ (LamX.lamCx X A outer s1 HZ E scope f c').ex := fun b z₁ => absurd (show b ∈ ([] : List Addr) from z₁) (by simp)
  refine ⟨⟨e0.mod, L.kind, rfl, rfl, Nat.le_refl _, fun y₁ z₁ c₁ e1₁ e2₁ => I.ok.inj y₁ z₁ c₁ (cm₁ e1₁) (cm₁ e2₁), fun y₁ hy₁ => ?_, fun y₁ c₁ z₁ _ => ?_, fun _ => hd, Around.frames_deeper e0.frames, .inr ⟨rfl, rfl⟩, fun b z₁ => absurd z₁ (noA₁ b), e0.bs, e0.bsz, fun b _ _ => noA₁ b,
      fun b z₁ => absurd z₁ (noA₁ b), e0.funs, e0.frf⟩,
    rfl, e0.bare, Un.kept kp, ⟨_, hns, fun i₁ y₁ v₁ e1₁ e2₁ e3₁ => ?_⟩, fun y₁ c₁ e₁ => ?_, e0.hok.fresh (Nat.le_refl _), fun y₁ c₁ e₁ => ?_, fun q₁ hq₁ => absurd (show q₁ ∈ ([] : List (Addr × Obj)) ++ [] from hq₁) (by simp), e0.hok.kept kp, I.len⟩
  · have hy₁ : scope.names.lookup y₁ = some .cell ∨ scope.names.lookup y₁ = some .free := hy₁
    rcases hy₁ with hy₁ | hy₁
    · exact absurd rfl (L.own _ (PySem.mem_of_lookup hy₁)).1
    · exact look₁ hy₁
  · have z₁ : false = true := z₁
    cases z₁
  · have e3₁ : Vis scope y₁ := e3₁
    rcases e3₁ with k₁ | k₁ | k₁
    · exact absurd (List.mem_of_getElem? (show X.N[i₁]? = some y₁ from e1₁)) ((L.own _ (PySem.mem_of_lookup k₁)).2 rfl)
    · exact absurd rfl (L.own _ (PySem.mem_of_lookup k₁)).1
    · obtain ⟨m₁, hn₁, hl₁⟩ := I.loc
      have hvis₁ : Vis X.env.scope y₁ := (L.free _ (PySem.mem_of_lookup k₁) rfl).elim (fun k₁ => .inr (.inl k₁)) (fun k₁ => .inr (.inr k₁))
      obtain ⟨w'₁, r₁, q₁⟩ := hl₁ i₁ y₁ v₁ e1₁ e2₁ hvis₁
      obtain ⟨c2₁, h2₁⟩ := look₁ k₁
      refine ⟨w'₁, r₁, .inr ⟨.inr k₁, c2₁, h2₁, ?_⟩⟩
      have c1₁ := cm₁ h2₁
      rcases q₁ with ⟨k'₁, _⟩ | ⟨_, c3, e', z₁⟩
      · have k'₁ : X.env.scope.names.lookup y₁ = some .local := k'₁
        rcases L.free _ (PySem.mem_of_lookup k₁) rfl with k2 | k2 <;> rw [show X.env.scope.names.lookup y₁ = _ from k2] at k'₁ <;> cases k'₁
      · rw [c1₁] at e'
        cases e'
        exact cellK₁ (I.freeC y₁ _ c1₁) z₁
  · obtain ⟨w'₁, z₁⟩ := I.cell y₁ c₁ (cm₁ e₁)
    exact ⟨w'₁, cellK₁ (I.freeC y₁ c₁ (cm₁ e₁)) z₁⟩
  · obtain ⟨v₁, o, ho₁, hd⟩ := I.cell y₁ c₁ (cm₁ e₁)
    exact un.free c₁ o ho₁ (I.freeC y₁ c₁ (cm₁ e₁)) (by simp)

abbrev lamQ (X : Cx) : Str := X.env.qual ++ "<lambda>"
/-- a lambda, made: f the function object, c' its code -/
def Made (X : Cx) (params : Arguments) (body : Expr) (scope : Scope) (s : Shared) (H : Hp) (f c' : Addr) : Prop :=
  ∃ (dV doc pm ctv : Value) (aux : List (Addr × Obj)) (binds : List (Str × Value)),
    s.heap.get? f = some (PySem.W.kdv_obj "<lambda>" (lamQ X) params (.expr body) scope (cloFrom X.env.cells scope.names []) dV doc pm c' ctv) ∧ H f = none ∧ f ∉ frs X.stack ∧
    (∀ p ∈ aux, s.heap.get? p.1 = some p.2 ∧ H p.1 = none ∧ p.1 ∉ frs X.stack) ∧
    (∀ s' : Shared, (∀ p ∈ aux, s'.heap.get? p.1 = some p.2) → BindsTo s' (PySem.W.kdv_fn "<lambda>" (lamQ X) params (.expr body) scope (cloFrom X.env.cells scope.names []) dV doc pm (.ref c') ctv) ⟨[], []⟩ binds) ∧
    ∀ y ∈ binds, scope.names.lookup y.1 = some .local

/-- x(), in the def that got the lambda -/
theorem lam_act {CXg : CXT} {Eg : XK} {Ng : List Str} {qg : Str} {sg : Scope} {g f c' : Addr} {cdg : Value} {params : Arguments} {body : Expr} {k i : Nat} {a : Str} {pn pinsZ : List (Addr × Obj)} {xe : Value → Shared → Prop} {W : WX} {p1 p2 : Pos} {σZ : L2.St} {sZ : Shared} {Q : VK}
    (I : Inv X pins σ H s) (L : LamO X.N X.env.scope scope) (M : Made X params body scope s H f c')
    (tk : Takes ((cxOf CXg X.prog X.w X.K X.mg X.base Ng qg sg g cdg X.A X.stack s H Eg).tr pn xe) W) (hr : Room (k + 1) (X.A.deeper (envOfC qg sg s.heap.objs.size g cdg)))
    (IZ : Inv ((cxOf CXg X.prog X.w X.K X.mg X.base Ng qg sg g cdg X.A X.stack s H Eg).tr pn xe) pinsZ σZ HZ sZ) (hs : σZ[i]? = some (some (.ref f))) (hc : HZ c' = some (LamX.CodeO c' (lamQ X)))
    (hbody : ∀ s1, tW (LamX.lamCx X (X.A.deeper (envOfC qg sg s.heap.objs.size g cdg)) (envOfC qg sg s.heap.objs.size g cdg :: X.stack) s1 HZ (fun cls d H' => W cls d σZ H') scope f c') body σ HZ Q)
    (hN : Ng[i]? = some a) (hv : Vis sg a) (hd : (a == ("__debug__" : Str)) = false) (hcd : (a == ("__classdict__" : Str)) = false) :
    wpAny (model X.prog X.w) ((cxOf CXg X.prog X.w X.K X.mg X.base Ng qg sg g cdg X.A X.stack s H Eg).tr pn xe).A (eval (.Call (.Name a p1) [] [] p2) ((cxOf CXg X.prog X.w X.K X.mg X.base Ng qg sg g cdg X.A X.stack s H Eg).tr pn xe).env)
      (EP ((cxOf CXg X.prog X.w X.K X.mg X.base Ng qg sg g cdg X.A X.stack s H Eg).tr pn xe) pinsZ σZ Q) xe sZ := by
  obtain ⟨dV₁, doc₁, pm₁, ctv₁, aux₁, binds₁, hf₁, hfn₁, hfr₁, haux₁, hbind₁, hloc₁⟩ := M
  refine wpAny_Call_Name_kw (thn ((pe_var (pos := p1) (i := i) hN hv hd hcd).run pinsZ sZ σZ HZ (fun v₁ H1₁ => v₁ = .ref f ∧ H1₁ = HZ) IZ ⟨.ref f, hs, rfl, rfl⟩) fun u₁ s1 ⟨v₁, H1₁, I1₁, r1₁, q1₁⟩ => ?_)
  obtain ⟨ev₁, eH₁⟩ := q1₁
  subst ev₁
  rw [eH₁] at I1₁
  obtain rfl : u₁ = Value.ref f := r1₁
  have kept₁ : ∀ b₁ o₁, s.heap.get? b₁ = some o₁ → H b₁ = none → b₁ ∉ frs X.stack → s1.heap.get? b₁ = some o₁ := fun b₁ o₁ e₁ n₁ nf₁ => I1₁.base.keep b₁ o₁ e₁ n₁ nf₁ (fun z₁ => nomatch (show b₁ ∈ ([] : List Addr) from z₁))
  have of1₁ := kept₁ f _ hf₁ hfn₁ hfr₁
  refine PySem.W.callWith_F0 ⟨_, _, _, _, of1₁⟩ ?_
  have un₁ : Un (frs X.stack) [] H HZ s.heap s1.heap := I1₁.base
  obtain ⟨⟨oc₁, vs₁, t₁, hoc₁, hdc₁, hvc₁⟩, _, _⟩ := I1₁.hok c' _ hc
  have rc₁ : codeAny (model X.prog X.w) (X.A.deeper (envOfC qg sg s.heap.objs.size g cdg)) (.call (.ref f) ⟨[], []⟩) (CR (L2.CX X.prog X.w) (envOfC qg sg s.heap.objs.size g cdg :: X.stack) X.prog X.w HZ s1 Q (fun cls d H' => W cls d σZ H')) s1 := by
    refine PySem.W.kla_callFunE hr.depth of1₁ rfl L.co L.gen rfl ⟨c', oc₁, vs₁, t₁, rfl, hoc₁, hdc₁, hvc₁⟩ ?_
    refine hbind₁ s1 (fun p₁ hp₁ => kept₁ _ _ (haux₁ p₁ hp₁).1 (haux₁ p₁ hp₁).2.1 (haux₁ p₁ hp₁).2.2) _ _ _ _ ?_
    refine wpAny_newFunctionEnv (fun y₁ hy₁ => (L.own y₁ hy₁).1) hloc₁ (fun h₁₁ hns₁ hsb₁ => ⟨I1₁.nolimit.fresh _ hsb₁, ?_⟩) L.kind
    show codeAny _ _ (.expr body (LamX.lamEnv X scope s1.heap.objs.size f c')) _ _
    have kp₁ : ∀ b₁ o₁, s1.heap.get? b₁ = some o₁ → h₁₁.get? b₁ = some o₁ := fun b₁ o₁ e₁ => hsb₁.extBut b₁ o₁ (Nat.ne_of_lt (Heap.lt_size e₁)) (Heap.get?_push_of_some _ e₁)
    have J₁ : Inv (LamX.lamCx X (X.A.deeper (envOfC qg sg s.heap.objs.size g cdg)) (envOfC qg sg s.heap.objs.size g cdg :: X.stack) s1 HZ (fun cls d H' => W cls d σZ H') scope f c') [] σ HZ { s1 with heap := h₁₁, toks := s1.toks + binds₁.length } :=
      lam_start I L I1₁.env0 hr.hd un₁ hns₁ kp₁
    refine PySem.W.kla_codeExpr (wpAny_mono ((hbody s1).run [] _ J₁) (fun v₁ s'₁ hq₁ => ?_) fun e₁ s'₁ hq₁ => hq₁)
    obtain ⟨w'₁, H', J'₁, rv₁, q₁⟩ := hq₁
    exact ⟨w'₁, H', J'₁.os, J'₁.bare, J'₁.base, J'₁.hok, rv₁, q₁⟩
  refine wpAny_call (codeAny_mono rc₁ fun r₁ s'₁ hq₁ => ?_)
  cases r₁ with
  | error e₁ => exact tk e₁ s'₁ (XE.of_call I1₁ (fun _ _ _ h₁ => h₁) hq₁)
  | ok fl₁ =>
    cases fl₁ with
    | ret u₁ => exact I1₁.after hq₁
    | next => exact False.elim hq₁
    | brk => exact False.elim hq₁
    | cont => exact False.elim hq₁

/-- what the maker's tables are behind a making -/
structure Mk (H H1 : Hp) (P : Addr) (T : List (Addr × Str)) : Prop where
  keep : ∀ b o, H b = some o → b ≠ P → H1 b = some o
  new : ∀ b, H1 b = none → H b = none
  tabs : LamX.Tabs T H1
/-- the making's last part: the function object, its code new or found in the table -/
theorem lam_tail {T : List (Addr × Str)} {c P : Addr} {params : Arguments} {body : Expr} {dV : Value} {pos : Pos} {fl : Nat} {E : Value → Shared → Prop} {Q : Value → Shared → Prop} (I : Inv X pins σ H s) (TB : LamX.TabB X.base X.mg c P) (hcode : X.env.code = .ref c)
    (hm : (P, lamQ X) ∈ T) (hu : ∀ p ∈ T, p.1 = P → p.2 = lamQ X) (hT : LamX.Tabs T H) (hfree : ∀ y ∈ scope.names, y.2 = .free → ∃ c, X.env.cells.lookup y.1 = some c)
    (h : ∀ (f c' : Addr) (doc pm ctv : Value) (H1 : Hp) (s' : Shared), Inv X pins σ H1 s' → Mk H H1 P T → (∀ b o, b ≠ P → s.heap.get? b = some o → s'.heap.get? b = some o) → (∀ b o, s.heap.get? b = some o → H b = none → H1 b = none) →
      s'.heap.get? f = some (PySem.W.kdv_obj "<lambda>" (lamQ X) params (.expr body) scope (cloFrom X.env.cells scope.names []) dV doc pm c' ctv) → H1 f = none → f ∉ frs X.stack → H1 c' = some (LamX.CodeO c' (lamQ X)) → Q (.ref f) s') :
    wpAny (model X.prog X.w) X.A (makeTail "<lambda>" (lamQ X) params (.expr body) scope X.env dV .none none pos fl) Q E s := by
  obtain ⟨ps, hP₁, ht₁, ha₁⟩ := hT _ hm
  have bP₁ : s.heap.BuiltinsAt X.mg P := TB.bm.keeps I.bk
  have hP' : s.heap.get? P = some { cls := .none, data := .fields ps } := I.hok P _ hP₁
  have nofr₁ : ∀ f, s.heap.objs.size ≤ f → f ∉ frs X.stack := fun f hf₁ z₁ => by
    rcases List.mem_cons.mp (I.stkSub _ z₁) with e₁ | e₁
    · have h1₁ := I.lt
      rw [← e₁] at h1₁
      exact Nat.lt_irrefl _ (Nat.lt_of_lt_of_le h1₁ hf₁)
    · exact I.nofs hf₁ e₁
  cases hc : (codeAmong pos ps.toList) with
  | none =>
    refine PySem.W.kdv_makeTail (mg := X.mg) (c := c) (P := P) (ps := ps) (closure_ok hfree) I.ok.glob (I.mod.glob.keeps I.bk) hcode (TB.code.keeps I.bk) hP' ht₁ hc TB.gP bP₁ fun c' ctv doc h' tk₁ hx₁ hge₁ hlt₁ hrec₁ htb₁ => ?_
    obtain ⟨c2₁, oc₁, vs₁, t₁, e2₁, hoc₁, hd₁, hv₁⟩ := hrec₁
    cases e2₁
    have hsz₁ : s.heap.objs.size ≤ h'.objs.size := Nat.le_trans hge₁ (Nat.le_of_lt hlt₁)
    have nC₁ : H c' = none := I.hok.fresh hge₁
    have I1₁ := LamX.inv_table (t' := tk₁) (more := #[rawInt pos.line, rawInt pos.col, .ref c']) (h' := h'.push (PySem.W.kdv_obj "<lambda>" (lamQ X) params (.expr body) scope (cloFrom X.env.cells scope.names []) dV doc ((X.mg "__name__").getD .none) c' ctv)) I hP₁
      (fun b o hb₁ e₁ => Heap.get?_push_of_some _ (hx₁ b o hb₁ e₁)) (Heap.get?_push_of_some _ htb₁) hge₁ ⟨oc₁, vs₁, t₁, Heap.get?_push_of_some _ hoc₁, hd₁, hv₁⟩
    have hE₁ : ∀ b o, H b = some o → b ≠ P → upd (upd H P (.tbl (ps ++ #[rawInt pos.line, rawInt pos.col, .ref c']))) c' (LamX.CodeO c' (lamQ X)) b = some o := fun b o e₁ n₁ => by
      rw [upd_ne (ne_of_none e₁ nC₁), upd_ne n₁]
      exact e₁
    have eL₁ : (ps ++ #[rawInt pos.line, rawInt pos.col, .ref c']).toList = ps.toList ++ [rawInt pos.line, rawInt pos.col, .ref c'] := by simp
    refine h h'.objs.size c' doc ((X.mg "__name__").getD .none) ctv _ _ I1₁ ⟨hE₁, fun b e₁ => ?_, fun p hp₁ => ?_⟩ (fun b o hb₁ e₁ => Heap.get?_push_of_some _ (hx₁ b o hb₁ e₁)) (fun b o e₁ n₁ => ?_) (Heap.get?_push_size _ rfl) ?_ (nofr₁ _ hsz₁) upd_same
    · by_cases h1₁ : b = c'
      · subst h1₁; exact nC₁
      · by_cases h2 : b = P
        · subst h2; rw [upd_ne h1₁, upd_same] at e₁; cases e₁
        · rw [upd_ne h1₁, upd_ne h2] at e₁; exact e₁
    · by_cases hb₁ : p.1 = P
      · rw [hu p hp₁ hb₁, hb₁]
        refine ⟨_, by rw [upd_ne (ne_of_none hP₁ nC₁), upd_same], by rw [eL₁]; exact PySem.TriplesOk_snoc _ _ _ _ ht₁, fun p'₁ cv₁ hcv₁ => ?_⟩
        rw [eL₁] at hcv₁
        rcases LamX.among_app _ ht₁ hcv₁ with z₁ | z₁
        · obtain ⟨c0₁, e1₁, e2₁⟩ := ha₁ p'₁ cv₁ z₁
          exact ⟨c0₁, e1₁, hE₁ _ _ e2₁ fun z₁ => by rw [z₁, hP₁] at e2₁; exact LamX.codeO_ne _ (Option.some.inj e2₁).symm⟩
        · exact ⟨c', z₁, upd_same⟩
      · obtain ⟨ps'₁, a1₁, a2₁, a3₁⟩ := hT p hp₁
        refine ⟨ps'₁, by rw [upd_ne (ne_of_none a1₁ nC₁), upd_ne hb₁]; exact a1₁, a2₁, fun p'₁ cv₁ hcv₁ => ?_⟩
        obtain ⟨c0₁, e1₁, e2₁⟩ := a3₁ p'₁ cv₁ hcv₁
        exact ⟨c0₁, e1₁, hE₁ _ _ e2₁ fun z₁ => by rw [z₁, hP₁] at e2₁; exact LamX.codeO_ne _ (Option.some.inj e2₁).symm⟩
    · have n1₁ : b ≠ c' := fun z₁ => by rw [z₁] at e₁; exact Nat.lt_irrefl _ (Nat.lt_of_lt_of_le (Heap.lt_size e₁) hge₁)
      have n2₁ : b ≠ P := fun z₁ => by rw [z₁, hP₁] at n₁; cases n₁
      rw [upd_ne n1₁, upd_ne n2₁]; exact n₁
    · have n1₁ : h'.objs.size ≠ c' := Nat.ne_of_gt hlt₁
      have n2₁ : h'.objs.size ≠ P := Nat.ne_of_gt (Nat.lt_of_lt_of_le (Heap.lt_size hP') hsz₁)
      rw [upd_ne n1₁, upd_ne n2₁]
      exact I.hok.fresh hsz₁
  | some cv₁ =>
    obtain ⟨c', e₁, hco₁⟩ := ha₁ pos cv₁ hc
    subst e₁
    refine PySem.W.kdv_makeTailHit (mg := X.mg) (c := c) (P := P) (ps := ps) (closure_ok hfree) I.ok.glob (I.mod.glob.keeps I.bk) hcode (TB.code.keeps I.bk) hP' ht₁ hc bP₁ fun ctv doc h' tk₁ hx₁ hsz₁ => ?_
    have I1₁ : Inv X pins σ H { s with heap := h'.push (PySem.W.kdv_obj "<lambda>" (lamQ X) params (.expr body) scope (cloFrom X.env.cells scope.names []) dV doc ((X.mg "__name__").getD .none) c' ctv), toks := tk₁ } := I.kept fun b o e₁ => Heap.get?_push_of_some _ (hx₁ b o e₁)
    exact h h'.objs.size c' doc ((X.mg "__name__").getD .none) ctv H _ I1₁ ⟨fun b o e₁ _ => e₁, fun b e₁ => e₁, hT⟩ (fun b o _ e₁ => Heap.get?_push_of_some _ (hx₁ b o e₁)) (fun b o _ n₁ => n₁) (Heap.get?_push_size _ rfl) (I.hok.fresh hsz₁) (nofr₁ _ hsz₁) hco₁

/-- what a lambda's parameters must be: none, or one with a whole number as its default -/
inductive LamP (X : Cx) (params : Arguments) (body : Expr) (scope : Scope) : Prop where
  | no (hdef : defaultsOf params X.env = ([], [])) (hb : ∀ (q : Str) (cl : List (Str × Addr)) (dV doc pm cv ctv : Value), dV = .none → bindArgs (PySem.W.kdv_fn "<lambda>" q params (.expr body) scope cl dV doc pm cv ctv) ⟨[], []⟩ = pure [])
  | one (i : Int) (j : Nat) (p : Pos) (a : Str) (hd : params.defaults = [.Constant (.int i) j p]) (hk0 : params.kw_defaults = [])
      (hb : ∀ (q : Str) (cl : List (Str × Addr)) (dV doc pm cv ctv : Value), ∃ k : Option (Array Value) → Sem (List (Str × Value)), bindArgs (PySem.W.kdv_fn "<lambda>" q params (.expr body) scope cl dV doc pm cv ctv) ⟨[], []⟩ = (seqItems? dV >>= k) ∧ ∀ v, k (some #[v]) = pure [(a, v)]) (hl : scope.names.lookup a = some .local)
/-- the lambda is made -/
theorem lam_made {T : List (Addr × Str)} {c P : Addr} {params : Arguments} {body : Expr} {pos : Pos} {E : Value → Shared → Prop} {Q : Value → Shared → Prop} (I : Inv X pins σ H s) (TB : LamX.TabB X.base X.mg c P) (hcode : X.env.code = .ref c)
    (hm : (P, lamQ X) ∈ T) (hu : ∀ p ∈ T, p.1 = P → p.2 = lamQ X) (hT : LamX.Tabs T H) (hfree : ∀ y ∈ scope.names, y.2 = .free → ∃ c, X.env.cells.lookup y.1 = some c) (hp : LamP X params body scope)
    (h : ∀ (f c' : Addr) (H1 : Hp) (s' : Shared), Inv X pins σ H1 s' → Mk H H1 P T → Made X params body scope s' H1 f c' → H1 c' = some (LamX.CodeO c' (lamQ X)) → Q (.ref f) s') :
    wpAny (model X.prog X.w) X.A (eval (.Lambda params body scope pos) X.env) Q E s := by
  cases hp with
  | no hdef hb =>
    refine PySem.W.kla_eval hdef ?_
    rw [makeFunction_eq]
    simp only [List.zip_nil_right, List.filterMap_nil, List.isEmpty_nil, if_true, pure_bind]
    refine lam_tail I TB hcode hm hu hT hfree fun f c' doc₁ pm₁ ctv₁ H1 s' I1₁ mk₁ kp₁ kn₁ hf₁ hfn₁ hfr₁ hco₁ => ?_
    exact h f c' H1 s' I1₁ mk₁ ⟨.none, doc₁, pm₁, ctv₁, [], [], hf₁, hfn₁, hfr₁, fun p hp => absurd hp (by simp), fun s' _ => BindsTo.of_eq (hb _ _ _ _ _ _ _ rfl), fun y hy₁ => absurd hy₁ (by simp)⟩ hco₁
  | one i j p a hd hk0 hb hl =>
    refine PySem.W.kdv_lam (by rw [hd]; rfl) hk0 ?_
    rw [hd]
    refine PySem.W.kdv_all1 (thn ((pe_int (X := X) (i := i) (j := j) (pos := p)).run pins s σ H (fun v₁ H1 => H1 = H) I rfl) fun u₁ s1₁ ⟨v₁, H1, I1₁, r1₁, q1₁⟩ => PySem.W.kdv_all0 ?_)
    subst q1₁
    rw [makeFunction_eq]
    simp only [List.zip_nil_right, List.filterMap_nil, List.isEmpty_nil, if_true, pure_bind, List.isEmpty_cons, Bool.false_eq_true, if_false]
    refine wpAny_bind (wpAny_newTextTuple ?_)
    have I2₁ : Inv X pins σ H1 { s1₁ with heap := s1₁.heap.push { cls := .type "tuple", data := .seq #[u₁] } } := I1₁.kept (t' := s1₁.toks) fun b₁ o₁ e₁ => Heap.get?_push_of_some _ e₁
    have nT₁ : s1₁.heap.objs.size ∉ frs X.stack := fun z₁ => by
      rcases List.mem_cons.mp (I1₁.stkSub _ z₁) with e₁ | e₁
      · have h1₁ := I1₁.lt
        rw [← e₁] at h1₁
        exact Nat.lt_irrefl _ h1₁
      · exact I1₁.nofs (Nat.le_refl _) e₁
    have hT1₁ : H1 s1₁.heap.objs.size = none := I1₁.hok.fresh (Nat.le_refl _)
    obtain ⟨psP₁, hP₁, _, _⟩ := hT _ hm
    have nP₁ : s1₁.heap.objs.size ≠ P := fun z₁ => by rw [z₁, hP₁] at hT1₁; cases hT1₁
    refine lam_tail I2₁ TB hcode hm hu hT hfree fun f c' doc₁ pm₁ ctv₁ H2₁ s' I3₁ mk₁ kp₁ kn₁ hf₁ hfn₁ hfr₁ hco₁ => ?_
    have gT₁ : s'.heap.get? s1₁.heap.objs.size = some (PySem.W.kdv_tup [u₁]) := kp₁ _ _ nP₁ (Heap.get?_push_size _ rfl)
    refine h f c' H2₁ s' I3₁ mk₁ ⟨.ref s1₁.heap.objs.size, doc₁, pm₁, ctv₁, [(s1₁.heap.objs.size, PySem.W.kdv_tup [u₁])], [(a, u₁)], hf₁, hfn₁, hfr₁, fun p hp => ?_, fun s' hs₁ => ?_, fun y hy₁ => ?_⟩ hco₁
    · obtain rfl := List.mem_singleton.mp hp
      exact ⟨gT₁, kn₁ _ _ (Heap.get?_push_size _ rfl) hT1₁, nT₁⟩
    · obtain ⟨k₁, h1₁, h2₁⟩ := hb (lamQ X) (cloFrom X.env.cells scope.names []) (.ref s1₁.heap.objs.size) doc₁ pm₁ (.ref c') ctv₁
      exact BindsTo.of_defaults rfl (hs₁ _ (List.mem_singleton.mpr rfl)) rfl h1₁ (h2₁ u₁)
    · obtain rfl := List.mem_singleton.mp hy₁
      exact hl
end
end DL
end
section
set_option maxHeartbeats 4000000
namespace DL
open PySem PySem.Spec PyProof.Rows L2

/-- an exception object that was caught: its class, its dict -/
def ExD (cls : Value) (d : Option Addr) (a : Addr) : HO := .ext fun h => ∃ (oe : Obj) (vs : Array Value), h.get? a = some oe ∧ Zc cls d oe ∧ oe.data = .fields vs
theorem exD_ok {P : Program} {w : World} {H : Hp} {h : Heap} {a : Addr} {cls : Value} {d : Option Addr} {oe : Obj} {vs : Array Value} (e : h.get? a = some oe) (z : Zc cls d oe) (f : oe.data = .fields vs) : ObjOk P w H h a (ExD cls d a) :=
  ⟨⟨oe, vs, e, z, f⟩, ⟨oe, e⟩, fun _ _ ⟨o, v, q, r⟩ k => ⟨o, v, k o q, r⟩⟩
/-- a caught exception of the class C with the fields fs -/
def XcP (K : PySem.W.Frag) (C : Addr) (fs : List (Str × PyData)) : Pv := ⟨fun G v => ∃ a dd fv, v = .ref a ∧ G a = some (ExD (.ref C) (some dd) a) ∧ G dd = some (.xd fv) ∧ FsR K G fs fv, fun G G' v e ⟨a, dd, fv, h1, h2, h3, h4⟩ => by
  have mono : ∀ {fs : List (Str × PyData)} {fv : List (Str × V)}, FsR K G fs fv → FsR K G' fs fv := by
    intro fs
    induction fs with
    | nil => intro fv h; exact h
    | cons p fs ih =>
      intro fv h
      obtain ⟨v, r, q1, q2, q3⟩ := h
      exact ⟨v, r, q1, Rp.mono e _ v q2, ih q3⟩
  exact ⟨a, dd, fv, h1, e _ _ h2, e _ _ h3, mono h4⟩⟩
theorem FsR.mono {K : PySem.W.Frag} {G G' : Hp} (e : Same G G') : ∀ {fs : List (Str × PyData)} {fv : List (Str × V)}, FsR K G fs fv → FsR K G' fs fv
  | [], fv, h => h
  | p :: fs, fv, h => by
    obtain ⟨v, r, q1, q2, q3⟩ := h
    exact ⟨v, r, q1, Rp.mono e _ v q2, FsR.mono e q3⟩

section
variable {X : Cx} {pins : List (Addr × Obj)} {σ : L2.St} {H : Hp} {s : Shared}
/-- an object that is there, but wasn't at the entry, is tracked -/
theorem inv_track (I : Inv X pins σ H s) {a : Addr} {oe : Obj} {vs : Array Value} {cls : Value} {d : Option Addr} (ha : s.heap.get? a = some oe) (hz : Zc cls d oe) (hd : oe.data = .fields vs) (na : H a = none) (n0 : X.s_0.heap.get? a = none) (nL : a ≠ X.env.locals) (np : ∀ p ∈ X.pn ++ pins, p.1 ≠ a) :
    Inv X pins σ (upd H a (ExD cls d a)) s := by
  have sm₁ : ∀ b₁ u₁, H b₁ = some u₁ → b₁ ≠ a := fun b₁ u₁ e₁ => ne_of_none e₁ na
  refine ⟨I.ok, I.os, I.bare, ⟨I.base.keep, I.base.slot, fun b₁ o₁ e₁ n₁ hb₁ => ?_, I.base.there, fun b₁ xs₁ e₁ => ?_, fun b₁ o₁ u₁ e₁ => ?_, fun b₁ ps₁ e₁ => ?_⟩, I.loc, I.cell, by rw [upd_ne (Ne.symm nL)]; exact I.free, fun x₁ c₁ e₁ => ?_, fun p hp₁ => ?_, fun b₁ u₁ e₁ => ?_, I.len⟩
  · rw [upd_ne (fun z₁ => by rw [z₁, n0] at e₁; cases e₁)]; exact I.base.free b₁ o₁ e₁ n₁ hb₁
  · have q₁ := I.base.tups b₁ xs₁ e₁
    rw [upd_ne (sm₁ b₁ _ q₁)]; exact q₁
  · have q₁ := I.base.frzs b₁ o₁ u₁ e₁
    rw [upd_ne (sm₁ b₁ _ q₁)]; exact q₁
  · obtain ⟨m₁, q₁⟩ := I.base.tbls b₁ ps₁ e₁
    exact ⟨m₁, by rw [upd_ne (sm₁ b₁ _ q₁)]; exact q₁⟩
  · have ne₁ : c₁ ≠ a := fun z₁ => by
      obtain ⟨v₁, o₁, ho₁, hd'₁⟩ := I.cell x₁ c₁ e₁
      rw [z₁, ha] at ho₁; cases ho₁
      rw [hd] at hd'₁; cases hd'₁
    rw [upd_ne ne₁]; exact I.freeC x₁ c₁ e₁
  · obtain ⟨e₁, n₁, ne₁, nf₁, dd₁⟩ := I.pin p hp₁
    exact ⟨e₁, by rw [upd_ne (np p hp₁)]; exact n₁, ne₁, nf₁, dd₁⟩
  · by_cases hb₁ : b₁ = a
    · subst hb₁
      rw [upd_same] at e₁
      cases e₁
      exact exD_ok ha hz hd
    · rw [upd_ne hb₁] at e₁
      exact (I.hok b₁ u₁ e₁).stay (fun c₁ v₁ _ q₁ => q₁) (fun c₁ q₁ => by rw [upd_ne (sm₁ c₁ _ q₁)]; exact q₁) fun c₁ xs₁ q₁ => by rw [upd_ne (sm₁ c₁ _ q₁)]; exact q₁
theorem inv_suite (I : Inv X pins σ H s) (a : Addr) : Inv (X.suite a (X.pn ++ pins)) [] σ H s :=
  ⟨I.ok.suite _ _, I.os, I.bare, I.base, I.loc, I.cell, I.free, I.freeC, fun p hp => I.pin p (by rw [List.append_nil] at hp; exact hp), I.hok, I.len⟩
theorem inv_unsuite {a : Addr} {pn' : List (Addr × Obj)} (I : Inv (X.suite a (X.pn ++ pins)) pn' σ H s) (ok : X.Ok) : Inv X pins σ H s :=
  ⟨ok, I.os, I.bare, I.base, I.loc, I.cell, I.free, I.freeC, fun q hq => I.pin q (List.mem_append_left _ hq), I.hok, I.len⟩
end

/-- what the clause 'except x as n' wishes of an exception of the body: slot i is n's; the object is tracked from then on -/
def wTr (X : Cx) (c : Value) (i : Nat) (sts : List Stmt) (Wout : WX) (D : Ends) : WX := fun cls d σ H =>
  ∃ b, PySem.W.exmOne X.K cls c = some b ∧ (b = true → ∀ a pn, H a = none → tWB (X.suite a pn) sts { nx := fun σ' H' => D.nx (σ'.set i none) H', rt := D.rt, bk := fun σ' H' => D.bk (σ'.set i none) H', ct := fun σ' H' => D.ct (σ'.set i none) H' } (σ.set i (some (.ref a))) (upd H a (ExD cls d a))) ∧
    (b = false → Wout cls d σ H)

section
variable {X : Cx} {x n : Str} {c : Value} {i : Nat} {body suite : List Stmt} {b₀ : Stmt} {np pos pos' : Pos} {Wout : WX} {D : Ends} {σ : L2.St} {H : Hp}
theorem tw_try_as (hex : X.ex = []) (hs : X.stack = X.env :: X.outer) (hf : X.env.frame = some X.env.locals) (hN : X.N.Nodup) (hi : X.N[i]? = some n) (hln : X.env.kindOf n = some .local) (hc : Names X x c) (tk : Takes X Wout)
    (hb : ∀ (pn : List (Addr × Obj)) (xe : Value → Shared → Prop), Takes (X.tr pn xe) (wTr X c i (b₀ :: suite) Wout D) → tWB (X.tr pn xe) body D σ H) :
    tWS X (.Try body [.ExceptHandler (some (.Name x np)) (some n) (b₀ :: suite) pos'] [] [] pos) D σ H := by
  refine ⟨fun pins₁ s₁ I₁ => ?_⟩
  have ok₁ := I₁.ok
  have hfr₁ : X.A.frames = some (X.env :: X.outer) := by rw [ok₁.frames, hs]
  have hloc₁ : Loc X.env.scope n := .inl hln
  refine wpAny_Try_except ?_
  refine wpAny_mono ((hb (X.pn ++ pins₁) (fun e₁ s₁₁ => wpAny (model X.prog X.w) X.A (noteFrame e₁ X.env) (fun _ s₂₁ => wpAny (model X.prog X.w) X.A (setFlight e₁ none) (fun _ s₃₁ =>
    wpAny (model X.prog X.w) X.A (handleBy e₁ X.env [.ExceptHandler (some (.Name x np)) (some n) (b₀ :: suite) pos']) (SP X pins₁ D) X.xe s₃₁) X.xe s₂₁) X.xe s₁₁) (fun u₁ s'₁ xx₁ => ?_)).run [] s₁ (I₁.toTry _)) (fun f₁ s1₁ hsp₁ => ?_) (fun e₁ s1₁ he₁ => he₁)
  · obtain ⟨a₁, B₁, sI₁, pins'₁, σ'₁, H'₁, cls₁, d₁, rfl, J'₁, nb₁, up₁, sky₁, na₁, os₁, ag₁, b₁, hb1₁, hyes₁, hno₁⟩ := xx₁
    have J₁ : Inv X pins₁ σ'₁ H'₁ sI₁ := J'₁.ofTry ok₁
    have sky' : Sky B₁ (X.env :: X.outer) a₁ (Zc cls₁ d₁) X.env.locals s'₁.heap := by rw [← hs]; exact sky₁
    show wpAny (model X.prog X.w) X.A (noteFrame (.ref a₁) X.env) _ _ _
    refine Sky.land Zc.steady hfr₁ hf sky' fun h3₁ fl3₁ up3₁ => ?_
    have J3₁ : Inv X pins₁ σ'₁ H'₁ { s'₁ with heap := h3₁ } := J₁.landed nb₁ fl3₁.1 (up₁.trans up3₁) os₁ ag₁
    obtain ⟨oe3₁, vs3₁, he3₁, hz3₁, hd3₁⟩ := fl3₁.there
    have nfr₁ : a₁ ∉ frs (X.env :: X.outer) := fun hm₁ => by
      obtain ⟨_, o'₁, e'₁, hnf₁⟩ := fl3₁.2.2.1.mem hm₁
      rw [he3₁] at e'₁; cases e'₁
      exact hnf₁ _ hd3₁
    have nL₁ : a₁ ≠ X.env.locals := fun z₁ => nfr₁ (List.mem_filterMap.mpr ⟨X.env, List.mem_cons_self, by rw [hf, z₁]⟩)
    have nF₁ : a₁ ∉ X.fs := fun hm₁ => by
      obtain ⟨e₁, he₁, q₁⟩ := List.mem_filterMap.mp hm₁
      exact nfr₁ (List.mem_filterMap.mpr ⟨e₁, List.mem_cons_of_mem _ he₁, q₁⟩)
    have nS₁ : a₁ ∉ frs X.stack := by rw [hs]; exact nfr₁
    have bn₁ : B₁.get? a₁ = none := fl3₁.2.1
    have sIn₁ : sI₁.heap.get? a₁ = none := by
      cases q₁ : sI₁.heap.get? a₁ with
      | none => rfl
      | some o₁ => rw [nb₁ a₁ o₁ q₁ nS₁] at bn₁; cases bn₁
    have n0₁ : X.s_0.heap.get? a₁ = none := by
      cases q₁ : X.s_0.heap.get? a₁ with
      | none => rfl
      | some o₁ =>
        obtain ⟨o'₁, q'₁⟩ := J₁.base.there a₁ o₁ q₁ (by rw [hex]; exact fun z₁ => nomatch z₁)
        rw [sIn₁] at q'₁; cases q'₁
    have npin₁ : ∀ p₁ ∈ X.pn ++ pins₁, p₁.1 ≠ a₁ := fun p₁ hp₁ z₁ => by
      obtain ⟨e₁, _⟩ := J₁.pin p₁ hp₁
      rw [z₁, sIn₁] at e₁; cases e₁
    have S3₁ := J3₁.suite he3₁ hd3₁ na₁ nL₁ nF₁
    refine wpAny_handleBy_cons (codeAny_handlers_test ?_) (by intro q₁; cases q₁)
    have LT₁ : PySem.W.Looks (model X.prog X.w) h3₁ (typeOf (.ref a₁)) cls₁ := fun A₁ Q₁ E₁ s₁ k₁ q₁ => wpAny_typeOf_ref (k₁ _ _ he3₁) (by rw [hz3₁.1]; exact q₁)
    have LM₁ := PySem.W.exm_one (M := model X.prog X.w) (J3₁.kIn) LT₁ hb1₁
    have test₁ : ∀ {Q₁ : Value → Shared → Prop} {E₁ : Value → Shared → Prop}, Q₁ c { s'₁ with heap := h3₁ } → wpAny (model X.prog X.w) (X.A.mark (some (.ref a₁))) (eval (.Name x np) X.env) Q₁ E₁ { s'₁ with heap := h3₁ } := fun {Q₁ E₁} q₁ => by
      obtain ⟨hg₁, hdbg₁, hm₁ | ⟨hm₁, hv₁, hnn₁⟩⟩ := hc
      · exact ld_glob (X := X.suite a₁ ((a₁, oe3₁) :: (X.pn ++ pins₁))) S3₁ hg₁ hm₁ q₁ hdbg₁
      · exact ld_blt (X := X.suite a₁ ((a₁, oe3₁) :: (X.pn ++ pins₁))) S3₁ hg₁ hm₁ hv₁ q₁ hnn₁ hdbg₁
    refine test₁ (LM₁.here ?_)
    cases b₁ with
    | true =>
      refine codeAny_handlers_suite_as ?_
      refine HandSPX.lands_againZ fl3₁ fun h4₁ fl4₁ up4₁ => ?_
      have J4₁ : Inv X pins₁ σ'₁ H'₁ { s'₁ with heap := h4₁ } := J₁.landed nb₁ fl4₁.1 ((up₁.trans up3₁).trans up4₁) os₁ ag₁
      obtain ⟨oe4₁, vs4₁, he4₁, hz4₁, hd4₁⟩ := fl4₁.there
      have S4₁ := inv_suite (inv_track J4₁ he4₁ hz4₁ hd4₁ na₁ n0₁ nL₁ npin₁) a₁
      refine store_ok (X := X.suite a₁ (X.pn ++ pins₁)) (v := .ref a₁) S4₁ hN hi hloc₁ rfl (fun s5₁ S5₁ => ?_) (.inr hln)
      refine wpAny_mono ((hyes₁ rfl a₁ (X.pn ++ pins₁) na₁).run [] s5₁ S5₁) (fun f₁ s6₁ hsp₁ => ?_) (fun _ _ z₁ => False.elim z₁)
      have end_₁ : ∀ {σ6₁ : L2.St} {H6₁ : Hp} {Q₁ : Shared → Prop}, Inv (X.suite a₁ (X.pn ++ pins₁)) [] σ6₁ H6₁ s6₁ → (∀ s7₁, Inv X pins₁ (σ6₁.set i none) H6₁ s7₁ → Q₁ s7₁) →
          wpAny (model X.prog X.w) X.A (do bindName X.env n .none; unbindBehindTheSuite X.env n pos') (fun _ s7₁ => Q₁ s7₁) X.xe s6₁ := fun {σ6₁ H6₁ Q₁} S6₁ hq₁ => gone_ok (inv_unsuite S6₁ ok₁) hN hi hln hq₁
      cases f₁ with
      | next =>
        obtain ⟨σ6₁, H6₁, S6₁, q6₁⟩ := hsp₁
        exact end_₁ S6₁ fun s7₁ J7₁ => ⟨_, _, J7₁, q6₁⟩
      | brk =>
        obtain ⟨σ6₁, H6₁, S6₁, q6₁⟩ := hsp₁
        exact end_₁ S6₁ fun s7₁ J7₁ => ⟨_, _, J7₁, q6₁⟩
      | cont =>
        obtain ⟨σ6₁, H6₁, S6₁, q6₁⟩ := hsp₁
        exact end_₁ S6₁ fun s7₁ J7₁ => ⟨_, _, J7₁, q6₁⟩
      | ret u₁ =>
        obtain ⟨v6₁, σ6₁, H6₁, S6₁, r6₁, q6₁⟩ := hsp₁
        exact end_₁ S6₁ fun s7₁ J7₁ => ⟨_, _, _, J7₁, r6₁, q6₁⟩
    | false =>
      show wpAny _ X.A (handleBy (.ref a₁) X.env []) _ _ _
      refine wpAny_handleBy_nil ?_
      obtain ⟨k1₁, k2₁, k3₁, oe₁, vs₁, T₁, oT₁, ts'₁, he₁, hz₁, hd₁, h1₁, hr₁⟩ := id fl3₁
      unfold PySem.passOn
      refine wpAny_bind (wpAny_field he₁ hd₁ h1₁ ?_)
      rw [if_neg (show ¬ ((Value.ref T₁ == Value.none) = true) from by simp)]
      have fin₁ : wpAny (model X.prog X.w) X.A (setFlight (.ref a₁) X.env.frame) (fun _ s4₁ => wpAny (model X.prog X.w) X.A (throw (.ref a₁) : Sem Flow) (SP X pins₁ D) X.xe s4₁) X.xe { s'₁ with heap := h3₁ } := by
        rw [hf]
        refine HandSPX.setFlight_upZ fl3₁ fun h4₁ hh4₁ up4₁ => wpAny_throw (tk _ _ ?_)
        exact ⟨a₁, B₁, sI₁, pins₁, σ'₁, H'₁, cls₁, d₁, rfl, J₁, nb₁, (up₁.trans up3₁).trans up4₁, .inr (.inr (by rw [hs]; exact hh4₁)), na₁, os₁, ag₁, hno₁ rfl⟩
      first
        | exact wpAny_bind (wpAny_pure (wpAny_bind fin₁))
        | exact wpAny_bind fin₁
  · cases f₁ with
    | next =>
      obtain ⟨σ'₁, H'₁, J'₁, q₁⟩ := hsp₁
      exact wpAny_execs_nil ⟨σ'₁, H'₁, J'₁.ofTry ok₁, q₁⟩
    | brk =>
      obtain ⟨σ'₁, H'₁, J'₁, q₁⟩ := hsp₁
      exact ⟨σ'₁, H'₁, J'₁.ofTry ok₁, q₁⟩
    | cont =>
      obtain ⟨σ'₁, H'₁, J'₁, q₁⟩ := hsp₁
      exact ⟨σ'₁, H'₁, J'₁.ofTry ok₁, q₁⟩
    | ret u₁ =>
      obtain ⟨v, σ'₁, H'₁, J'₁, r₁, q₁⟩ := hsp₁
      exact ⟨v, σ'₁, H'₁, J'₁.ofTry ok₁, r₁, q₁⟩
end

section
variable {X : Cx} {F : FC} {ρ ρ1 ρ2 : List Sl} {x n : Str} {c : Value} {i : Nat} {body suite : List Stmt} {b₀ : Stmt} {np pos pos' p p2 p3 p4 : Pos} {e : Expr} {C : Addr} {fs : List (Str × PyData)}
/-- a slot is emptied -/
theorem SR.unset {G H : Hp} {σ : L2.St} (s : SR F ρ G σ H) {i : Nat} (hl : i < ρ.length) : SR F (ρ.set i .un) G (σ.set i none) H := by
  refine s.slots (s.sl.drop hl) (fun j u a h hu e => ?_) fun j ds a h e => ?_
  · rcases set_at h with ⟨_, rfl, _⟩ | ⟨ne, h⟩
    · cases hu
    · rw [List.getElem?_set_ne (Ne.symm ne)] at e; exact s.fr j u a h hu e
  · rcases set_at h with ⟨_, q, _⟩ | ⟨ne, h⟩
    · cases q
    · rw [List.getElem?_set_ne (Ne.symm ne)] at e; exact s.io j ds a h e
/-- try: the body ends -/
theorem exs_tryV (hN : X.N.Nodup) (hc : Names X x c) (hb : ∀ (pn : List (Addr × Obj)) (xe : Value → Shared → Prop), ExB (X.tr pn xe) F body ρ (.nx ρ1)) (hi : X.N[i]? = some n := by rfl) (hln : X.env.kindOf n = some .local := by rfl)
    (hex : X.ex = [] := by rfl) (hs : X.stack = X.env :: X.outer := by rfl) (hf : X.env.frame = some X.env.locals := by rfl) :
    ExS X F (.Try body [.ExceptHandler (some (.Name x np)) (some n) (b₀ :: suite) pos'] [] [] pos) ρ (.nx ρ1) := fun G σ H D W sr tk k =>
  tw_try_as hex hs hf hN hi hln hc tk fun pn xe tk' => hb pn xe G σ H D _ sr tk' k
/-- try: the body raises, the clause catches -/
theorem exs_tryX (hN : X.N.Nodup) (hc : Names X x c) (hm : PySem.W.exmOne X.K (.ref C) c = some true) (hb : ∀ (pn : List (Addr × Obj)) (xe : Value → Shared → Prop), ExB (X.tr pn xe) F body ρ (.ex C fs ρ1)) (hl1 : i < ρ1.length) (hl2 : i < ρ2.length)
    (hsu : ∀ (a : Addr) (pn : List (Addr × Obj)), ExB (X.suite a pn) F (b₀ :: suite) (ρ1.set i (.pv (XcP F.K C fs))) (.nx ρ2)) (hi : X.N[i]? = some n := by rfl) (hln : X.env.kindOf n = some .local := by rfl)
    (hex : X.ex = [] := by rfl) (hs : X.stack = X.env :: X.outer := by rfl) (hf : X.env.frame = some X.env.locals := by rfl) :
    ExS X F (.Try body [.ExceptHandler (some (.Name x np)) (some n) (b₀ :: suite) pos'] [] [] pos) ρ (.nx (ρ2.set i .un)) := fun G σ H D W sr tk k =>
  tw_try_as hex hs hf hN hi hln hc tk fun pn xe tk' => hb pn xe G σ H D _ sr tk' fun dd fv G' σ' H' s' g' q1 q2 => by
    obtain ⟨w1, w2, w3⟩ := q1
    refine ⟨true, hm, fun _ a pn' na => ?_, fun z => by cases z⟩
    have ne : dd ≠ a := ne_of_none w1 na
    have s1 := s'.lay (o := ExD (.ref C) (some dd) a) na
    have na' : G' a = none := none_of_same s'.gh na
    have w1' : upd H' a (ExD (.ref C) (some dd) a) dd = some (.xd fv) := by rw [upd_ne ne]; exact w1
    have w3' : upd G' a (ExD (.ref C) (some dd) a) dd = none := by rw [upd_ne ne]; exact w3
    have s2 := s1.freeze w1' (fun ps z => by cases z) w2 w3' (s'.sl.awayX w1)
    have m1 : Same G' (upd G' a (ExD (.ref C) (some dd) a)) := same_upd na'
    have m2 : Same (upd G' a (ExD (.ref C) (some dd) a)) (upd (upd G' a (ExD (.ref C) (some dd) a)) dd (.xd fv)) := same_upd w3'
    have s3 := s2.setPv i (v := .ref a) (P := XcP F.K C fs) hl1 ⟨a, dd, fv, rfl, by rw [upd_ne (Ne.symm ne), upd_same], upd_same, FsR.mono (m1.trans m2) q2⟩
    exact hsu a pn' _ _ _ _ (fun _ _ _ _ => False) s3 takes0 fun G2 σ2 H2 s4 g4 => k G2 _ H2 (s4.unset hl2) (g'.trans ((m1.trans m2).trans g4))

theorem evt_isNP {P : Pv} {q : Nat} (hP : ∀ G v, P.p G v → v ≠ .non) (ha : EvS X F e ρ (.pv P) ρ1) : EvT X F (.Compare e [.Is] [.Constant .none q p2] p) ρ false ρ1 :=
  fun G σ H Q s k => toWT (pt_cmp (pc_isN peW)) (ha G σ H _ s fun v G1 H1 s1 g1 r1 => ⟨_, rfl, by rw [decide_eq_false (hP _ _ r1)]; exact k G1 H1 s1 g1⟩)
theorem xcP_ne {K : PySem.W.Frag} {G : Hp} {v : V} (h : (XcP K C fs).p G v) : v ≠ .non := by
  obtain ⟨a, dd, fv, rfl, _⟩ := h
  exact fun z => by cases z

/-- what the class C must say, so that isinstance asks its instances rightly, and their fields can be read -/
structure XcC (K : PySem.W.Frag) (C : Addr) : Prop where
  ga : (PySem.W.findIn K (.ref C) "__getattribute__") = some (some (.builtin "BaseException.__getattribute__"))
  gg : (PySem.W.findIn K (.ref C) "__getattr__") = some none
  ex : PySem.W.subIn K (.ref C) (.type "BaseException") = some true
  hd : (PySem.W.hasDictIn K C) = true
  cc : PySem.W.findIn K (.ref C) "__class__" = some (some (.builtin "object.__class__"))
  cn : (PySem.W.specialIn K (.builtin "object.__class__") "__get__") = some (some (.builtin "getset_descriptor.__get__"))
  ct : (PySem.W.takesIn K (.builtin "object.__class__")) = some true
  cm : (PySem.W.mroIn K C (.type "object")) = some true
def xcB (K : PySem.W.Frag) (C : Addr) : Bool :=
  decide (PySem.W.findIn K (.ref C) "__getattribute__" = some (some (.builtin "BaseException.__getattribute__"))) && (decide (PySem.W.findIn K (.ref C) "__getattr__" = some none) && (decide (PySem.W.subIn K (.ref C) (.type "BaseException") = some true) && (PySem.W.hasDictIn K C &&
  (decide (PySem.W.findIn K (.ref C) "__class__" = some (some (.builtin "object.__class__"))) && (decide (PySem.W.specialIn K (.builtin "object.__class__") "__get__" = some (some (.builtin "getset_descriptor.__get__"))) && (decide (PySem.W.takesIn K (.builtin "object.__class__") = some true) && decide (PySem.W.mroIn K C (.type "object") = some true)))))))
theorem xcB_ok {K : PySem.W.Frag} {C : Addr} (h : xcB K C = true) : XcC K C := by
  unfold xcB at h
  simp only [Bool.and_eq_true, decide_eq_true_eq] at h
  obtain ⟨h1₁, h2₁, h3₁, h4₁, h5₁, h6₁, h7₁, h8₁⟩ := h
  exact ⟨h1₁, h2₁, h3₁, h4₁, h5₁, h6₁, h7₁, h8₁⟩
theorem xcP_inst {pins : List (Addr × Obj)} {σ : L2.St} {H G : Hp} {s : Shared} {a : Addr} {dd : Addr} {fv : List (Str × V)} (I : Inv X pins σ H s) (gh : Same G H) (h1 : G a = some (ExD (.ref C) (some dd) a)) (h2 : G dd = some (.xd fv)) :
    ∃ (oe od : Obj) (mA : Str → Option Value), PySem.W.InstAt s.heap a oe C (some od) ∧ (∀ f, PySem.W.lookIn f od = some (mA f)) ∧ ∀ f, RelO (fv.lookup f) (mA f) := by
  obtain ⟨⟨oe, vs, ho, hz, hd⟩, _, _⟩ := I.hok a _ (gh _ _ h1)
  have hx : ObjOk X.prog X.w H s.heap dd (.xd fv) := I.hok dd _ (gh _ _ h2)
  obtain ⟨mA, hns, hr⟩ := hx
  obtain ⟨od, hod, hl⟩ := lookIn_ns hns
  exact ⟨oe, od, mA, ⟨ho, hz.1, by unfold PySem.W.notCls; rw [hd] <;> rfl, by rw [hz.2]; exact hod⟩, hl, hr⟩
/-- isinstance(e, D), e a caught exception of the class C -/
def rIsX (K : PySem.W.Frag) (C : Addr) : List V → Hp → VK → Prop := fun xs H Q => ∃ (a dd : Addr) (fv : List (Str × V)) (c : V) (u : Value) (b : Bool), xs = [.ref a, c] ∧ ClsV c u ∧ H a = some (ExD (.ref C) (some dd) a) ∧ H dd = some (.xd fv) ∧ PySem.W.kitOne K (.ref C) u = some b ∧ Q (.bl b) H
def rIsXT (K : PySem.W.Frag) (C : Addr) : List V → Hp → VK → Prop := fun xs H Q => ∃ (a dd : Addr) (fv : List (Str × V)) (tp : Addr) (cs : List V) (us : List Value) (b : Bool), xs = [.ref a, .ref tp] ∧ H tp = some (.tup cs) ∧ Paired ClsV cs us ∧ H a = some (ExD (.ref C) (some dd) a) ∧ H dd = some (.xd fv) ∧ PySem.W.kitAny K (.ref C) us = some b ∧ Q (.bl b) H
theorem XcC.kit {K : PySem.W.Frag} (T : XcC K C) {a : Addr} {oe : Obj} {od : Option Obj} : PySem.W.KitX K (.ref a) (.ref C) (fun h => PySem.W.InstAt h a oe C od) :=
  PySem.W.kitx_exc (by obtain ⟨cd, hc, _⟩ := PySem.W.any_some T.hd; rw [hc]; rfl) T.ga T.gg T.ex T.cc T.cn T.ct T.cm
theorem call_isX (T : XcC X.K C) : CallR X (.builtin "isinstance") (rIsX X.K C) := by
  intro pins₁ s₁ σ₁ H₁ xs₁ us₁ Q₁ I₁ r₁ h₁
  obtain ⟨a₁, dd₁, fv₁, c₁, u₁, b₁, rfl, k₁, h1₁, h2₁, e₁, q₁⟩ := h₁
  obtain ⟨u1₁, u2₁, rfl, r1₁, r2₁⟩ := vals2 r₁
  have e2₁ := k₁.eq r2₁
  subst e2₁
  cases (show u1₁ = Value.ref a₁ from r1₁)
  obtain ⟨oe₁, od₁, mA₁, J₁, _, _⟩ := xcP_inst I₁ (Same.refl H₁) h1₁ h2₁
  exact PySem.W.kia_one T.kit I₁.kIn J₁ e₁ (fun z₁ => nomatch z₁) fun tk₁ => ⟨.bl b₁, H₁, I₁.tok tk₁, rfl, q₁⟩
theorem call_isXT (T : XcC X.K C) : CallR X (.builtin "isinstance") (rIsXT X.K C) := by
  intro pins₁ s₁ σ₁ H₁ xs₁ us₁ Q₁ I₁ r₁ h₁
  obtain ⟨a₁, dd₁, fv₁, tp₁, cs₁, ws₁, b₁, rfl, hT₁, k₁, h1₁, h2₁, e₁, q₁⟩ := h₁
  obtain ⟨u1₁, u2₁, rfl, r1₁, r2₁⟩ := vals2 r₁
  cases (show u1₁ = Value.ref a₁ from r1₁)
  cases (show u2₁ = Value.ref tp₁ from r2₁)
  obtain ⟨oe₁, od₁, mA₁, J₁, _, _⟩ := xcP_inst I₁ (Same.refl H₁) h1₁ h2₁
  obtain ⟨_, its₁, rv₁, o₁, w1₁, w2₁, n₁, w3₁⟩ := (show ObjOk X.prog X.w H₁ s₁.heap tp₁ (.tup cs₁) from I₁.hok tp₁ _ hT₁)
  have e3₁ := ClsV.all k₁ rv₁
  subst e3₁
  obtain ⟨oc₁, od₁, dt₁, sl₁⟩ := o₁
  simp only at w2₁ w3₁
  subst w2₁ w3₁
  exact PySem.W.kia_tup T.kit I₁.kIn J₁ w1₁ e₁ (fun z₁ => nomatch z₁) fun tk₁ => ⟨.bl b₁, H₁, I₁.tok tk₁, rfl, q₁⟩
theorem ev_isX {y : Str} {A : Addr} {b : Bool} (T : XcC X.K C) (hm : X.mg "isinstance" = none) (ha : EvS X F e ρ (.pv (XcP F.K C fs)) ρ1) (hA : X.mg y = some (.ref A)) (hk : PySem.W.kitOne X.K (.ref C) (.ref A) = some b)
    (hgl : Gl X "isinstance" := by rfl) (hgy : Gl X y := by rfl) (hdb : (y == ("__debug__" : Str)) = false := by decide)
    (he : starEach [e, .Name y p2] X.env = (false, eval e X.env) :: starEach [.Name y p2] X.env := by exact star_cons rfl) (he2 : starEach [.Name y p2] X.env = (false, eval (.Name y p2) X.env) :: starEach [] X.env := by exact star_cons rfl) (hpl : (backTo pos (starEach [.Name y p2] X.env)).any (·.1) = false := by rfl) :
    EvD X F (.Call (.Name "isinstance" p) [e, .Name y p2] [] pos) ρ (.bool b) ρ1 :=
  fun G σ H Q s k => toW (pe_callB (call_isX T) hgl hm (by decide +kernel) (pa_cons peW (pa_cons (pe_glob hgy hA (v := .ref A) rfl hdb) pa_nil he2) he) (by decide) (by decide) he hpl) (ha G σ H _ s fun v G1 H1 s1 g1 ⟨a, dd, fv, r1, r2, r3, r4⟩ => by
    subst r1
    exact ⟨a, dd, fv, .ref A, .ref A, b, rfl, .own A, s1.gh _ _ r2, s1.gh _ _ r3, hk, k _ G1 H1 s1 g1 res_bl⟩)
theorem ev_isXT {y z : Str} {A B : Addr} {b1 b2 : Bool} {kk : Nat} (T : XcC X.K C) (hm : X.mg "isinstance" = none) (ha : EvS X F e ρ (.pv (XcP F.K C fs)) ρ1) (hA : X.mg y = some (.ref A)) (hk : PySem.W.kitOne X.K (.ref C) (.ref A) = some b1) (hB : X.mg z = some (.ref B)) (hk2 : PySem.W.kitOne X.K (.ref C) (.ref B) = some b2)
    (hgl : Gl X "isinstance" := by rfl) (hgy : Gl X y := by rfl) (hgz : Gl X z := by rfl) (hdb : (y == ("__debug__" : Str)) = false := by decide) (hdb2 : (z == ("__debug__" : Str)) = false := by decide)
    (ht1 : starEach [.Name y p2, .Name z p3] X.env = (false, eval (.Name y p2) X.env) :: starEach [.Name z p3] X.env := by exact star_cons rfl) (ht2 : starEach [.Name z p3] X.env = (false, eval (.Name z p3) X.env) :: starEach [] X.env := by exact star_cons rfl)
    (he : starEach [e, .Tuple [.Name y p2, .Name z p3] kk p4] X.env = (false, eval e X.env) :: starEach [.Tuple [.Name y p2, .Name z p3] kk p4] X.env := by exact star_cons rfl) (he2 : starEach [.Tuple [.Name y p2, .Name z p3] kk p4] X.env = (false, eval (.Tuple [.Name y p2, .Name z p3] kk p4) X.env) :: starEach [] X.env := by exact star_cons rfl) (hpl : (backTo pos (starEach [.Tuple [.Name y p2, .Name z p3] kk p4] X.env)).any (·.1) = false := by rfl) :
    EvD X F (.Call (.Name "isinstance" p) [e, .Tuple [.Name y p2, .Name z p3] kk p4] [] pos) ρ (.bool (b1 || b2)) ρ1 :=
  fun G σ H Q s k => toW (pe_callB (call_isXT T) hgl hm (by decide +kernel) (pa_cons peW (pa_cons (pe_tup (pa_cons (pe_glob hgy hA (v := .ref A) rfl hdb) (pa_cons (pe_glob hgz hB (v := .ref B) rfl hdb2) pa_nil ht2) ht1)) pa_nil he2) he) (by decide) (by decide) he hpl) (ha G σ H _ s fun v G1 H1 s1 g1 ⟨a, dd, fv, r1, r2, r3, r4⟩ => by
    subst r1
    refine ⟨by show 2 ≤ sizeLine; decide, fun tp hp => ?_⟩
    have m := same_upd (o := .tup [V.ref A, V.ref B]) hp
    exact ⟨a, dd, fv, tp, [.ref A, .ref B], [.ref A, .ref B], b1 || b2, rfl, upd_same, .cons (.own A) (.cons (.own B) .nil), m _ _ (s1.gh _ _ r2), m _ _ (s1.gh _ _ r3),
      kitAny_cons hk (fun z => by subst z; rw [Bool.false_or]; exact kitAny_cons hk2 (fun z => by subst z; exact kitAny_nil) fun z => z) (fun z => by rw [z]; rfl), k _ _ _ (s1.lay hp) (g1.trans (same_upd (none_of_same s1.gh hp))) res_bl⟩)
/-- e.f of a caught exception -/
theorem ev_xf {f : Str} {d : PyData} (T : XcC X.K C) (hno : PySem.W.findIn X.K (.ref C) f = some none) (ha : EvS X F e ρ (.pv (XcP F.K C fs)) ρ1) (hf : fs.lookup f = some d) (hb : attributeBase e f X.env (eval e X.env) = eval e X.env := by rfl) : EvD X F (.Attribute e f pos) ρ d ρ1 := fun G σ H Q sr k => by
  refine ⟨fun pins₁ s₁ I₁ => ?_⟩
  refine attr_of hb (thn ((ha G σ H (fun v H1₁ => ∃ G1₁, SR F ρ1 G1₁ σ H1₁ ∧ Same G G1₁ ∧ (XcP F.K C fs).p G1₁ v) sr (fun v G1₁ H1₁ s1₁ g1₁ r1₁ => ⟨G1₁, s1₁, g1₁, r1₁⟩)).run pins₁ s₁ I₁) fun u₁ s1₁ ⟨x₁, H1₁, I1₁, rx₁, G1₁, q1₁, g1₁, a₁, dd₁, fv₁, r1₁, r2₁, r3₁, r4₁⟩ => ?_)
  subst r1₁
  obtain rfl : u₁ = Value.ref a₁ := rx₁
  obtain ⟨oe₁, od₁, mA₁, J₁, hl₁, hr₁⟩ := xcP_inst I1₁ q1₁.gh r2₁ r3₁
  have get₁ : ∀ {fs : List (Str × PyData)} {fv₁ : List (Str × V)}, FsR F.K G1₁ fs fv₁ → fs.lookup f = some d → ∃ v, fv₁.lookup f = some v ∧ Rp F.K G1₁ d v := by
    intro fs
    induction fs with
    | nil => intro fv₁ _ h₁; cases h₁
    | cons p₁ fs ih₁ =>
      intro fv₁ h1₁ h2₁
      obtain ⟨v, r₁, w1₁, w2₁, w3₁⟩ := h1₁
      subst w1₁
      by_cases e : f = p₁.1
      · subst e
        simp [List.lookup] at h2₁ ⊢
        rw [← h2₁]; exact w2₁
      · have e' : (f == p₁.1) = false := by simpa using e
        simp only [List.lookup, e'] at h2₁ ⊢
        exact ih₁ w3₁ h2₁
  obtain ⟨v, hv₁, rv₁⟩ := get₁ r4₁ hf
  obtain ⟨u₁, hu₁, ru₁⟩ := RelO.some_of (v := v) (o := mA₁ f) (by rw [← hv₁]; exact hr₁ f)
  exact HandSPX.exc_get I1₁.kIn J₁ T.ga T.gg T.ex (PySem.W.findObj_own T.hd hno rfl (by rw [hl₁, hu₁])) (handed_of ru₁) ⟨v, H1₁, I1₁.tok _, ru₁, k v G1₁ H1₁ q1₁ g1₁ rv₁⟩
end
end DL
end
section
set_option maxHeartbeats 4000000
namespace DL
open PySem PySem.Spec PyProof.Rows L2

/-- a def as its callers find it -/
structure DefG (P : Program) (w : World) (K : PySem.W.Frag) (mg : Str → Option Value) (base : Heap) (x : Str) (k : Nat) (ps : List Str) (φ : List Sl → Ret → Prop) : Prop where
  ex : ∃ f fd, GnOk P w K mg base k f fd ps (SpD K φ) ∧ mg x = some (.ref f) ∧ PySem.W.keepIn K (.ref f) = true ∧ Binds K fd ps []
section
variable {P : Program} {w : World} {K : PySem.W.Frag} {mg : Str → Option Value} {base : Heap}
/-- f(e, ..) with all arguments by place -/
theorem ev_cl {X : Cx} {F : FC} {ρ ρ1 : List Sl} {e : Expr} {es : List Expr} {ss : List Sl} {s : Sl} {io : List PyData} {pos p : Pos} {x : Str} {k k' : Nat} {ps : List Str} {φ : List Sl → Ret → Prop} (D : DefG X.prog X.w X.K X.mg X.base x k ps φ) (hr : Room k' X.A) (hk : k ≤ k') (hg : X.A.guards = some []) (ha : EvA X F (e :: es) ρ ss ρ1) (h : φ ss (.rt s io))
    (hK : X.K = F.K := by first | rfl | assumption) (hgl : Gl X x := by rfl) (hdb : (x == ("__debug__" : Str)) = false := by decide) (he : starEach (e :: es) X.env = (false, eval e X.env) :: starEach es X.env := by exact star_cons rfl) (hpl : (backTo pos (starEach es X.env)).any (·.1) = false := by rfl) :
    EvS X F (.Call (.Name x p) (e :: es) [] pos) ρ s ρ1 := by
  obtain ⟨f, fd, h1, h2, h3, h4⟩ := D.ex
  exact ev_call ⟨h1, h2, h3⟩ (hr.mono hk) hg (dss := []) (dvs := []) h4 .nil (fun _ => rfl) ha (by simpa using h) hK hgl hdb he hpl
theorem ev_clX {X : Cx} {F : FC} {ρ ρ1 : List Sl} {e : Expr} {es : List Expr} {ss : List Sl} {C : Addr} {fs : List (Str × PyData)} {io : List PyData} {pos p : Pos} {x : Str} {k k' : Nat} {ps : List Str} {φ : List Sl → Ret → Prop} (D : DefG X.prog X.w X.K X.mg X.base x k ps φ) (hr : Room k' X.A) (hk : k ≤ k') (hg : X.A.guards = some []) (ha : EvA X F (e :: es) ρ ss ρ1) (h : φ ss (.ex C fs io))
    (hK : X.K = F.K := by first | rfl | assumption) (hgl : Gl X x := by rfl) (hdb : (x == ("__debug__" : Str)) = false := by decide) (he : starEach (e :: es) X.env = (false, eval e X.env) :: starEach es X.env := by exact star_cons rfl) (hpl : (backTo pos (starEach es X.env)).any (·.1) = false := by rfl) :
    EvX X F (.Call (.Name x p) (e :: es) [] pos) ρ C fs ρ1 := by
  obtain ⟨f, fd, h1, h2, h3, h4⟩ := D.ex
  exact ev_callX ⟨h1, h2, h3⟩ (hr.mono hk) hg (dss := []) (dvs := []) h4 .nil (fun _ => rfl) ha (by simpa using h) hK hgl hdb he hpl
theorem ev_clIO {X : Cx} {F : FC} {ρ ρ1 : List Sl} {es : List Expr} {ss : List Sl} {s : Sl} {io ds ds2 : List PyData} {pos p p2 : Pos} {x v0 : Str} {k k' : Nat} {ps : List Str} {φ : List Sl → Ret → Prop} {bo : Bool} (n : Nat) (D : DefG X.prog X.w X.K X.mg X.base x k ps φ) (hr : Room k' X.A) (hk : k ≤ k') (hg : X.A.guards = some []) (ha : EvA X F es ρ ss ρ1)
    (hn0 : ρ[n]? = some (.ow bo ds2)) (hn : ρ1[n]? = some (.ow bo ds)) (h : φ (.ow true ds :: ss) (.rt s io)) (hN : X.N[n]? = some v0 := by rfl) (hv : Vis X.env.scope v0 := by first | exact Or.inl rfl | exact Or.inr (Or.inl rfl) | exact Or.inr (Or.inr rfl)) (hvd : (v0 == ("__debug__" : Str)) = false := by decide) (hvc : (v0 == ("__classdict__" : Str)) = false := by decide)
    (hK : X.K = F.K := by first | rfl | assumption) (hgl : Gl X x := by rfl) (hdb : (x == ("__debug__" : Str)) = false := by decide) (he : starEach (.Name v0 p2 :: es) X.env = (false, eval (.Name v0 p2) X.env) :: starEach es X.env := by exact star_cons rfl) (hpl : (backTo pos (starEach es X.env)).any (·.1) = false := by rfl) :
    EvS X F (.Call (.Name x p) (.Name v0 p2 :: es) [] pos) ρ s (ρ1.set n (.ow bo io)) := by
  obtain ⟨f, fd, h1, h2, h3, h4⟩ := D.ex
  exact ev_callIO n ⟨h1, h2, h3⟩ (hr.mono hk) hg (dss := []) (dvs := []) h4 .nil (fun _ => rfl) ha hn0 hn (by simpa using h) hN hv hvd hvc hK hgl hdb he hpl
end

section
variable {X : Cx} {F : FC} {ρ ρ1 : List Sl} {e : Expr}
theorem EvT.to {x y : Bool} (h : EvT X F e ρ x ρ1) (q : x = y) : EvT X F e ρ y ρ1 := q ▸ h
theorem EvP.to {x y : Bool} (h : EvP X F e ρ x ρ1) (q : x = y) : EvP X F e ρ y ρ1 := q ▸ h
theorem EvS.to {s s' : Sl} (h : EvS X F e ρ s ρ1) (q : s = s') : EvS X F e ρ s' ρ1 := q ▸ h
theorem EvD.to {d d' : PyData} (h : EvD X F e ρ d ρ1) (q : d = d') : EvD X F e ρ d' ρ1 := q ▸ h
end
section
variable {X : Cx} {F : FC} {ρ ρ1 ρ2 : List Sl} {a b e : Expr} {es : List Expr} {sts : List Stmt} {d d1 : PyData} {ds : List PyData} {i : Int} {p pos pos' : Pos} {s : Sl} {R : Out}
theorem st_set (n : Nat) {x : Str} (h : EvS X F e ρ s ρ1) (t : ExB X F sts (ρ1.set n s) R) (nd : X.N.Nodup := by assumption) (hn : n < ρ1.length := by exact Nat.le_of_ble_eq_true rfl) (hN : X.N[n]? = some x := by rfl) (hx : Loc X.env.scope x := by first | exact Or.inl rfl | exact Or.inr rfl) (hs : swapsWith e (some (.Name x pos')) pos.line X.env = pure false := by rfl)
    (hf : X.fn x = true ∨ X.env.scope.names.lookup x = some .local := by first | exact .inl rfl | exact .inr rfl) : ExB X F (.Assign [.Name x pos'] e pos :: sts) ρ R := exb_cons (exs_set n h hn nd hN hx hs hf) t
theorem st_ret (h : EvS X F e ρ s ρ1) : ExB X F (.Return (some e) pos :: sts) ρ (.rt s ρ1) := exb_stop (exs_ret h)
theorem st_retX {C : Addr} {fs : List (Str × PyData)} (h : EvX X F e ρ C fs ρ1) : ExB X F (.Return (some e) pos :: sts) ρ (.ex C fs ρ1) := exb_stop (exs_retX h)
theorem st_expr (h : EvS X F e ρ s ρ1) (t : ExB X F sts ρ1 R) (hs : swapsWith e none pos.line X.env = pure false := by rfl) : ExB X F (.Expr e pos :: sts) ρ R := exb_cons (exs_expr h hs) t
theorem evt_eq {i j : Int} (ha : EvD X F a ρ (.int i) ρ1) (hb : EvD X F b ρ1 (.int j) ρ2) : EvT X F (.Compare a [.Eq] [b] pos) ρ (i == j) ρ2 :=
  fun G σ H Q s q => toWT (pt_cmpR op_eq peW peW (nomark _)) (ha G σ H _ s fun v G1 H1 s1 g1 r1 => hb G1 σ H1 _ s1 fun u G2 H2 s2 g2 r2 => by
    simp only [ResR, Rp] at r1 r2; subst r1; subst r2
    exact ⟨rfl, _, rfl, by rw [dec_int]; exact q G2 H2 s2 (g1.trans g2)⟩)
theorem evt_ne {i j : Int} (ha : EvD X F a ρ (.int i) ρ1) (hb : EvD X F b ρ1 (.int j) ρ2) : EvT X F (.Compare a [.NotEq] [b] pos) ρ (!(i == j)) ρ2 :=
  fun G σ H Q s q => toWT (pt_cmpR op_ne peW peW (nomark _)) (ha G σ H _ s fun v G1 H1 s1 g1 r1 => hb G1 σ H1 _ s1 fun u G2 H2 s2 g2 r2 => by
    simp only [ResR, Rp] at r1 r2; subst r1; subst r2
    exact ⟨rfl, _, rfl, by rw [dec_int]; exact q G2 H2 s2 (g1.trans g2)⟩)
theorem ev_eq {i j : Int} (ha : EvD X F a ρ (.int i) ρ1) (hb : EvD X F b ρ1 (.int j) ρ2) : EvD X F (.Compare a [.Eq] [b] pos) ρ (.bool (i == j)) ρ2 :=
  fun G σ H Q s q => toW (pe_cmpR op_eq peW peW (nomark _)) (ha G σ H _ s fun v G1 H1 s1 g1 r1 => hb G1 σ H1 _ s1 fun u G2 H2 s2 g2 r2 => by
    simp only [ResR, Rp] at r1 r2; subst r1; subst r2
    exact ⟨rfl, by rw [dec_int]; exact q _ G2 H2 s2 (g1.trans g2) res_bl⟩)
theorem ev_ne {i j : Int} (ha : EvD X F a ρ (.int i) ρ1) (hb : EvD X F b ρ1 (.int j) ρ2) : EvD X F (.Compare a [.NotEq] [b] pos) ρ (.bool (!(i == j))) ρ2 :=
  fun G σ H Q s q => toW (pe_cmpR op_ne peW peW (nomark _)) (ha G σ H _ s fun v G1 H1 s1 g1 r1 => hb G1 σ H1 _ s1 fun u G2 H2 s2 g2 r2 => by
    simp only [ResR, Rp] at r1 r2; subst r1; subst r2
    exact ⟨rfl, by rw [dec_int]; exact q _ G2 H2 s2 (g1.trans g2) res_bl⟩)
theorem evt_eqS {i j : Str} (ha : EvD X F a ρ (.str i) ρ1) (hb : EvD X F b ρ1 (.str j) ρ2) : EvT X F (.Compare a [.Eq] [b] pos) ρ (i == j) ρ2 :=
  fun G σ H Q s q => toWT (pt_cmpR op_eq peW peW (nomark _)) (ha G σ H _ s fun v G1 H1 s1 g1 r1 => hb G1 σ H1 _ s1 fun u G2 H2 s2 g2 r2 => by
    simp only [ResR, Rp] at r1 r2; subst r1; subst r2
    exact ⟨rfl, _, rfl, by rw [dec_str]; exact q G2 H2 s2 (g1.trans g2)⟩)
theorem evt_nF (h : EvT X F e ρ false ρ1) : EvT X F (.UnaryOp .Not e pos) ρ true ρ1 := evt_not h
theorem evt_nT (h : EvT X F e ρ true ρ1) : EvT X F (.UnaryOp .Not e pos) ρ false ρ1 := evt_not h
/-- an if whose suite is done, or not -/
theorem st_ifT {c : Expr} {A B : List Stmt} (hc : EvT X F c ρ true ρ1) (h : ExB X F A ρ1 (.nx ρ2)) (t : ExB X F sts ρ2 R) : ExB X F (.If c A B pos :: sts) ρ R := exb_cons (exs_ifT hc h) t
theorem st_ifF {c : Expr} {A B : List Stmt} (hc : EvT X F c ρ false ρ1) (h : ExB X F B ρ1 (.nx ρ2)) (t : ExB X F sts ρ2 R) : ExB X F (.If c A B pos :: sts) ρ R := exb_cons (exs_ifF hc h) t
theorem st_if0 {c : Expr} {A : List Stmt} (hc : EvT X F c ρ false ρ1) (t : ExB X F sts ρ1 R) : ExB X F (.If c A [] pos :: sts) ρ R := exb_cons (exs_ifF hc exb_nil) t
def _root_.DL.Out.done : Out → Prop
  | .nx _ => False
  | _ => True
theorem st_ifR {c : Expr} {A B : List Stmt} (hc : EvT X F c ρ true ρ1) (h : ExB X F A ρ1 R) (hR : R.done := by trivial) : ExB X F (.If c A B pos :: sts) ρ R := exb_stop (exs_ifT hc h) (by cases R <;> first | exact hR | trivial)
theorem ev_tp {k : Nat} (h : EvA X F es ρ (fzs ds) ρ1) (hz : ds.length ≤ sizeLine := by exact Nat.le_of_ble_eq_true rfl) : EvD X F (.Tuple es k pos) ρ (.tuple ds) ρ1 := ev_tup h hz
theorem ev_ls (h : EvA X F es ρ (fzs ds) ρ1) (hz : ds.length ≤ sizeLine := by exact Nat.le_of_ble_eq_true rfl) : EvS X F (.List es pos) ρ (.ow false ds) ρ1 := evn_lst h hz
/-- argument lists of data alone -/
theorem evd_nil : EvA X F [] ρ (fzs []) ρ := eva_nil
theorem evd {d : PyData} (h : EvD X F e ρ d ρ1) (t : EvA X F es ρ1 (fzs ds) ρ2) (hs : starEach (e :: es) X.env = (false, eval e X.env) :: starEach es X.env := by exact star_cons rfl) : EvA X F (e :: es) ρ (fzs (d :: ds)) ρ2 := eva h t hs
end
/-- the items of a list or tuple -/
def itemsD : PyData → Option (List PyData)
  | .list ds => some ds
  | .tuple ds => some ds
  | _ => none
theorem itemsD_seq {d : PyData} (h : isSeq d = true) : ∃ ds, itemsD d = some ds := by
  cases d with
  | list ds => exact ⟨ds, rfl⟩
  | tuple ds => exact ⟨ds, rfl⟩
  | _ => cases h
section
variable {X : Cx} {F : FC} {ρ ρ1 ρ2 : List Sl} {a b e : Expr} {d d1 : PyData} {ds : List PyData} {i : Int} {p pos : Pos}
theorem ev_ix (ha : EvD X F a ρ d1 ρ1) (hi : itemsD d1 = some ds) (hb : EvD X F b ρ1 (.int i) ρ2) (h : atI ds i = some d) (hK : X.K = F.K := by first | rfl | assumption) (hs : PlainIx b := by exact fun _ _ => rfl) : EvD X F (.Subscript a b pos) ρ d ρ2 := by
  cases d1 with
  | list es => cases hi; exact ev_ixL ha hb h hK hs
  | tuple es => cases hi; exact ev_ixT ha hb h hK hs
  | _ => cases hi
theorem ev_len (hm : X.mg "len" = none) (ha : EvD X F e ρ d ρ1) (hi : itemsD d = some ds) (hK : X.K = F.K := by first | rfl | assumption) (hgl : Gl X "len" := by rfl) (he : starEach [e] X.env = [(false, eval e X.env)] := by exact star_cons rfl) : EvD X F (.Call (.Name "len" p) [e] [] pos) ρ (.int ds.length) ρ1 := by
  cases d with
  | list es => cases hi; exact ev_lenL hm ha hgl he
  | tuple es => cases hi; exact ev_lenT hm ha hK hgl he
  | _ => cases hi
end
section
variable {X : Cx}
/-- l.count(x) -/
def rCountD (K : PySem.W.Frag) : V → List V → Hp → VK → Prop := fun x xs H Q => ∃ (a : Addr) (y : V) (d : PyData) (ds : List PyData), x = V.ref a ∧ xs = [y] ∧ Dp K H (V.ref a) (.list ds) ∧ Dp K H y d ∧
  SeqAt.shaped (.list ds) = true ∧ SeqAt.shaped d = true ∧ Q (.int (ds.countP fun z => PyData.eqv z d : Nat)) H
theorem mt_countD (hu : X.A.units + 65 < cLine) : MtR X "list.count" (rCountD X.K) := by
  intro pins₁ s₁ σ₁ H₁ x₁ xs₁ v₁ us₁ Q₁ I₁ rx₁ rxs₁ h₁
  obtain ⟨a₁, y₁, d₁, ds₁, rfl, rfl, hl₁, hy₁, sl₁, sd₁, q₁⟩ := h₁
  cases rx₁
  cases rxs₁ with
  | cons ry₁ rt₁ =>
    rename_i uy₁ ut₁
    cases rt₁
    obtain ⟨bs₁, r1₁⟩ := Dp.reads I₁ d₁ y₁ uy₁ hy₁ ry₁
    have hxs₁ : PyData.canLayAll0 ds₁ = true := SeqAt.canLay_of_shaped sl₁
    have hroom₁ : X.A.units + 1 + min (PyData.depthAll ds₁) d₁.depth < cLine := room_in_shaped sd₁ hu
    cases hl₁ with
    | lst hs ha =>
      obtain ⟨its₁, rv₁, ⟨⟨cls₁, dd₁, data₁, sls₁⟩, n₁, ho₁, hc₁, hdn₁, hdt₁⟩, hlen₁⟩ := I₁.list hs
      simp only at hc₁ hdt₁
      subst hc₁ hdt₁
      obtain ⟨as₁, h4₁⟩ := Dp.readsAll I₁ ds₁ _ its₁ ha rv₁
      have hmap₁ : its₁.map (SeqAt.readOf s₁.heap) = ds₁ := SeqAt.readsAll_map ds₁ its₁ as₁ hxs₁ h4₁
      refine call_meets PySem.F.slot_list_count ⟨_, ho₁, rfl⟩ PySem.F.entry_list_count (PySem.F.args_list_count_2 _ _)
        (SeqAt.list_countAt a₁ its₁.toArray n₁ dd₁ sls₁ uy₁ (fun u₁ => PyData.eqv (SeqAt.readOf s₁.heap u₁) d₁)) ⟨ho₁, SeqAt.items_eqAt (vs := its₁.toArray) (show ReadsAll s₁.heap its₁.toArray.toList ds₁ as₁ from h4₁) r1₁ hxs₁ (SeqAt.canLay_of_shaped sd₁) hroom₁, ?_⟩
      have ec₁ : its₁.toArray.toList.countP (fun u₁ => PyData.eqv (SeqAt.readOf s₁.heap u₁) d₁) = ds₁.countP fun z₁ => PyData.eqv z₁ d₁ := by
        conv => rhs; rw [← hmap₁]
        rw [List.countP_map]
        rfl
      refine ⟨.int (ds₁.countP fun z₁ => PyData.eqv z₁ d₁ : Nat), H₁, I₁.tok _, ⟨s₁.toks, ?_⟩, q₁⟩
      show Value.int ((its₁.toArray.toList.countP (fun u₁ => PyData.eqv (SeqAt.readOf s₁.heap u₁) d₁) : Nat) : Int) s₁.toks = _
      rw [ec₁]
variable {F : FC} {ρ ρ1 ρ2 : List Sl} {a b e : Expr} {ds : List PyData} {d : PyData} {pos p p1 p2 apos : Pos}
theorem ev_index {j : Nat} {z : PyData} (hu : X.A.units + 65 < cLine) (ha : EvD X F a ρ (.list ds) ρ1) (hb : EvD X F b ρ1 d ρ2) (h1 : SeqAt.shaped (.list ds) = true) (h2 : SeqAt.shaped d = true) (hj : ds[j]? = some z) (he : PyData.eqv z d = true) (hno : ∀ (m : Nat) (z' : PyData), m < j → ds[m]? = some z' → PyData.eqv z' d = false)
    (hK : X.K = F.K := by first | rfl | assumption) (hs : starEach [b] X.env = (false, eval b X.env) :: starEach [] X.env := by exact star_cons rfl)
    (pe : ∀ {to : TE} {t : TA}, PE X a to → PA X [b] t → PE X (.Call (.Attribute a "index" apos) [b] [] pos) (tBM X.K "list" (rIndexD X.K) to t) := by
      exact fun ho ha => pe_bm PySem.F.plainAttrs_list PySem.F.slot_list_index PySem.F.type_list_index (mt_indexD (by assumption)) ho ha) :
    EvD X F (.Call (.Attribute a "index" apos) [b] [] pos) ρ (.int (j : Nat)) ρ2 := fun G σ H Q sr k =>
  toW (pe peW (pa_cons peW pa_nil hs)) (ha G σ H _ sr fun v G1 H1 s1 g1 r1 => by
    have r1' := r1
    simp only [ResR, Rp] at r1
    obtain ⟨ad, xs, rfl, r2, r3⟩ := r1
    refine ⟨.inl ⟨rfl, _, SqL.of (s1.gh _ _ r2)⟩, hb G1 σ H1 _ s1 fun u G2 H2 s2 g2 r4 => ?_⟩
    exact ⟨ad, u, d, ds, j, z, rfl, rfl, by rw [hK]; exact Rp.dp s2.gh _ _ (Rp.mono g2 _ _ r1'), by rw [hK]; exact Rp.dp s2.gh _ _ r4, h1, h2, hj, he, hno, k _ G2 H2 s2 (g1.trans g2) res_int⟩)
theorem ev_count (hu : X.A.units + 65 < cLine) (ha : EvD X F a ρ (.list ds) ρ1) (hb : EvD X F b ρ1 d ρ2) (h1 : SeqAt.shaped (.list ds) = true) (h2 : SeqAt.shaped d = true)
    (hK : X.K = F.K := by first | rfl | assumption) (hs : starEach [b] X.env = (false, eval b X.env) :: starEach [] X.env := by exact star_cons rfl)
    (pe : ∀ {to : TE} {t : TA}, PE X a to → PA X [b] t → PE X (.Call (.Attribute a "count" apos) [b] [] pos) (tBM X.K "list" (rCountD X.K) to t) := by
      exact fun ho ha => pe_bm PySem.F.plainAttrs_list PySem.F.slot_list_count PySem.F.type_list_count (mt_countD (by assumption)) ho ha) :
    EvD X F (.Call (.Attribute a "count" apos) [b] [] pos) ρ (.int (ds.countP fun z => PyData.eqv z d : Nat)) ρ2 := fun G σ H Q sr k =>
  toW (pe peW (pa_cons peW pa_nil hs)) (ha G σ H _ sr fun v G1 H1 s1 g1 r1 => by
    have r1' := r1
    simp only [ResR, Rp] at r1
    obtain ⟨ad, xs, rfl, r2, r3⟩ := r1
    refine ⟨.inl ⟨rfl, _, SqL.of (s1.gh _ _ r2)⟩, hb G1 σ H1 _ s1 fun u G2 H2 s2 g2 r4 => ?_⟩
    exact ⟨ad, u, d, ds, rfl, rfl, by rw [hK]; exact Rp.dp s2.gh _ _ (Rp.mono g2 _ _ r1'), by rw [hK]; exact Rp.dp s2.gh _ _ r4, h1, h2, k _ G2 H2 s2 (g1.trans g2) res_int⟩)
end

/-- own lists are out of a lambda's sight -/
def hideS (ρ : List Sl) : List Sl := ρ.map fun | .ow _ _ => .un | .op _ => .un | s => s
theorem hideS_get {ρ : List Sl} {i : Nat} {s : Sl} (h : (hideS ρ)[i]? = some s) (hs : s ≠ .un) : ρ[i]? = some s ∧ s.own = false := by
  unfold hideS at h
  rw [List.getElem?_map] at h
  cases e : ρ[i]? with
  | none => rw [e] at h; cases h
  | some z₁ =>
    rw [e] at h
    have h := Option.some.inj h
    cases z₁ with
    | ow io ds => exact absurd h.symm hs
    | op P => exact absurd h.symm hs
    | un => exact absurd h.symm hs
    | fz d => subst h; exact ⟨rfl, rfl⟩
    | vv u => subst h; exact ⟨rfl, rfl⟩
    | pv P => subst h; exact ⟨rfl, rfl⟩
theorem hideS_no {ρ : List Sl} {i : Nat} {s : Sl} (h : (hideS ρ)[i]? = some s) (o : s.own = true) : False := by
  have := (hideS_get h fun z => by subst z; cases o).2
  rw [this] at o; cases o
theorem sr_hide {F : FC} {ρ : List Sl} {G G' H H' : Hp} {σ : L2.St} (s : SR F ρ G σ H) (g : Same G G') (gh : Same G' H') : SR (fcOf F.K G' H' none) (hideS ρ) G' σ H' where
  bh := fun b o h => (fc_keep (K := F.K) (G := G') (H := H') (io := none) (b := b) (by simp)).symm.trans h
  hd := fun b h => h
  g0 := Same.refl _
  gn := fun b h => .inl h
  gh := gh
  sl := by
    refine ⟨by unfold hideS; rw [List.length_map]; exact s.sl.len, fun i t h ht => ?_, fun i j t u a h1 h2 o => (hideS_no h1 o).elim⟩
    obtain ⟨q1, q2⟩ := hideS_get h ht
    obtain ⟨v, h1, h2⟩ := s.sl.val i t q1 ht
    refine ⟨v, h1, ?_⟩
    cases t with
    | un => trivial
    | fz d => exact Rp.mono g d v h2
    | vv u => exact h2
    | pv P => exact P.mono _ _ v g h2
    | ow io ds => cases q2
    | op P => cases q2
  fr := fun i t a h w e => (hideS_no h (Sl.new_own w)).elim
  io := fun i ds a h e => (hideS_no h rfl).elim
  tb := fun q hq => absurd (show q ∈ ([] : List (Addr × Str)) from hq) (by simp)
  tg := fun q hq => absurd (show q ∈ ([] : List (Addr × Str)) from hq) (by simp)
  tB := fun q hq => absurd (show q ∈ ([] : List (Addr × Str)) from hq) (by simp)
theorem post_hide {K : PySem.W.Frag} {ρ : List Sl} {G G' H H' : Hp} {σ : L2.St} (s : SR (fcOf K G H none) ρ G' σ H') : Post K G H none [] G' H' :=
  ⟨s.g0, s.gn, s.gh, s.hd, fun b o h hi => s.bh b o ((fc_keep hi).trans h), fun a h => by cases h⟩

/-- what a lambda's body does: a value, or an exception -/
inductive LRes where
  | val (d : PyData)
  | exc (C : Addr) (fs : List (Str × PyData))
def LBody (X : Cx) (K : PySem.W.Frag) (k : Nat) (scope : Scope) (body : Expr) (ρ : List Sl) (r : LRes) : Prop :=
  ∀ (A : Around) (outer : List Env) (s1 : Shared) (H : Hp) (E : XK) (f c' : Addr) (F' : FC), Room k (A.deeper (LamX.lamEnv X scope s1.heap.objs.size f c')) → A.guards = some [] → F'.K = K →
    match r with
    | .val d => ∃ ρb, EvD (LamX.lamCx X A outer s1 H E scope f c') F' body (hideS ρ) d ρb
    | .exc C fs => ∃ ρb, EvX (LamX.lamCx X A outer s1 H E scope f c') F' body (hideS ρ) C fs ρb
/-- what a call of the lambda does in the def that got it -/
def Acts (Z : Cx) (F : FC) (e : Expr) (ρ : List Sl) : LRes → Prop
  | .val d => EvD Z F e ρ d ρ
  | .exc C fs => EvX Z F e ρ C fs ρ
section
variable {X : Cx} {pins : List (Addr × Obj)} {σ : L2.St} {G1 H1 : Hp} {s : Shared} {scope : Scope} {F : FC} {ρ ρh : List Sl}
theorem ev_act {CXg : CXT} {Eg : XK} {Ng : List Str} {qg : Str} {sg : Scope} {g f c' : Addr} {cdg : Value} {params : Arguments} {body : Expr} {k i : Nat} {a : Str} {pn : List (Addr × Obj)} {xe : Value → Shared → Prop} {p1 p2 : Pos} {r : LRes}
    (I : Inv X pins σ H1 s) (L : LamO X.N X.env.scope scope) (M : Made X params body scope s H1 f c') (hc : H1 c' = some (LamX.CodeO c' (lamQ X))) (sr : SR F ρ G1 σ H1) (hr : Room (k + 1) (X.A.deeper (envOfC qg sg s.heap.objs.size g cdg))) (hg : X.A.guards = some [])
    (hbody : LBody X F.K k scope body ρ r) (hρ : ρh[i]? = some (.vv (.ref f))) (hN : Ng[i]? = some a) (hv : Vis sg a) (hd : (a == ("__debug__" : Str)) = false) (hcd : (a == ("__classdict__" : Str)) = false) :
    Acts ((cxOf CXg X.prog X.w X.K X.mg X.base Ng qg sg g cdg X.A X.stack s H1 Eg).tr pn xe) (fcOf F.K G1 H1 none) (.Call (.Name a p1) [] [] p2) ρh r := by
  have code : ∀ {G σZ HZ}, SR (fcOf F.K G1 H1 none) ρh G σZ HZ → HZ c' = some (LamX.CodeO c' (lamQ X)) := fun {G σZ HZ} q => q.bh _ _ ((fc_keep (by simp)).trans hc)
  cases r with
  | val d =>
    intro G σZ HZ Q srZ k'
    refine ⟨fun pinsZ sZ IZ => ?_⟩
    refine lam_act I L M takes0 hr IZ (srZ.sl.vv i _ hρ) (code srZ) (fun s1 => ?_) hN hv hd hcd
    obtain ⟨ρb, hb⟩ := hbody (X.A.deeper (envOfC qg sg s.heap.objs.size g cdg)) (envOfC qg sg s.heap.objs.size g cdg :: X.stack) s1 HZ (fun _ _ _ => False) f c' (fcOf F.K G HZ none) (hr.deeper _) hg rfl
    exact hb G σ HZ Q (sr_hide sr srZ.g0 srZ.gh) fun v G2 H2 s2 g2 r2 => k' v G2 H2 (sr_post srZ (post_hide s2)) g2 r2
  | exc C fs =>
    intro G σZ HZ Q W srZ tk k'
    refine ⟨fun pinsZ sZ IZ => ?_⟩
    refine lam_act I L M tk hr IZ (srZ.sl.vv i _ hρ) (code srZ) (fun s1 => ?_) hN hv hd hcd
    obtain ⟨ρb, hb⟩ := hbody (X.A.deeper (envOfC qg sg s.heap.objs.size g cdg)) (envOfC qg sg s.heap.objs.size g cdg :: X.stack) s1 HZ (fun cls d H' => W cls d σZ H') f c' (fcOf F.K G HZ none) (hr.deeper _) hg rfl
    refine hb G σ HZ Q _ (sr_hide sr srZ.g0 srZ.gh) (takes_of rfl rfl rfl rfl) fun dd fv G2 H2 s2 g2 q1 q2 => k' dd fv G2 H2 (sr_post srZ (post_hide s2)) g2 ⟨q1.1, srZ.hd dd q1.2.1, q1.2.2⟩ q2
end
end DL
end
section
set_option maxHeartbeats 4000000
namespace DL
open PySem PySem.Spec PyProof.Rows L2

section
variable {P : Program} {w : World} {K : PySem.W.Frag} {mg : Str → Option Value} {base : Heap} {k : Nat} {x qual : Str} {params : Arguments} {body : List Stmt} {scope : Scope} {dvs : List V} {kws : List (Str × V)} {f : Addr} {fd : FuncData} {N ps : List Str}
/-- a def runs here, at this very state -/
theorem run_here (F : FunD K x qual params body scope dvs kws f fd) (S : FnScope N ps scope) {A : Around} {out : List Env} {s : Shared} {H : Hp} {args : Args} {us : List Value} {vs : List V} {Q : VK} {E : XK} (room : Room (k + 1) A) (e0 : Env0 P w K mg base A out s H) (binds : BindsTo s fd args (ps.zip us)) (rv : Vals vs us) (hl : vs.length = ps.length)
    (hb : ∀ cdv : Value, fd.code = cdv → Room k (A.deeper (envOfC qual scope s.heap.objs.size f cdv)) → tWB (bcx P w K mg base N qual scope f cdv A out s H E) body { nx := fun _ H' => Q .non H', rt := Q } (L2.start N vs) H) :
    codeAny (model P w) A (.call (.ref f) args) (CR (L2.CX P w) out P w H s Q E) s := by
  obtain ⟨oc₁, od₁, dV₁, kV₁, doc₁, pm₁, an₁, cdv, ct₁, osl₁, rfl, lk₁, hcd₁, _, _⟩ := F.ex
  have hKin₁ : K.In s.heap := PySem.W.Frag.In.keeps e0.mod.kin fun b₁ o₁ z₁ => (e0.bs b₁ o₁ z₁).1
  have kinds₁ : ∀ y₁ ∈ ps.zip us, scope.names.lookup y₁.1 = some .local ∨ (scope.names.lookup y₁.1 = some .cell ∧ ((cellsFrom (s.heap.objs.size + 1) scope.names []).lookup y₁.1).isSome = true) := by
    rintro ⟨n, v₁⟩ hy
    cases S.par n (List.of_mem_zip hy).1 with
    | inl z₁ => exact .inl z₁
    | inr z₁ => exact .inr ⟨z₁, PySem.W.cellsFrom_some _ _ _ (.inl z₁)⟩
  refine codeAny_call_function room.depth (hKin₁ _ _ lk₁) rfl S.co S.gen rfl (PySem.W.codeRec_of hKin₁ hcd₁) (binds _ _ _ _ ?_)
  refine wpAny_newFunctionEnv_cells S.kind kinds₁ fun env₁ he₁ s1₁ y₁ => ?_
  subst he₁
  have nl₁ : s1₁.heap.NoLimit := (e0.mod.nolimit.keeps fun b₁ o₁ z₁ => (e0.bs b₁ o₁ z₁).1).keeps y₁.toInCall.keep
  refine ⟨nl₁, codeAny_func ?_⟩
  have J₁ := inv_start (CX := L2.CX P w) (E := E) S room.hd e0 hl rv y₁
  refine wpAny_mono ((hb cdv rfl (room.deeper _)).run [] s1₁ J₁) (fun fl₁ s'₁ z₁ => ?_) fun _ _ z₁ => z₁
  cases fl₁ with
  | next =>
    obtain ⟨σ'₁, H', I'₁, q'₁⟩ := z₁
    exact ⟨.non, H', I'₁.os, I'₁.bare, I'₁.base, I'₁.hok, rfl, q'₁⟩
  | ret u₁ =>
    obtain ⟨v₁, σ'₁, H', I'₁, r'₁, q'₁⟩ := z₁
    exact ⟨v₁, H', I'₁.os, I'₁.bare, I'₁.base, I'₁.hok, r'₁, q'₁⟩
  | brk => obtain ⟨_, _, _, z₁⟩ := z₁; exact z₁.elim
  | cont => obtain ⟨_, _, _, z₁⟩ := z₁; exact z₁.elim
end

/-- behind the making of a lambda -/
theorem SR.made {F : FC} {ρ : List Sl} {G H H1 : Hp} {σ : L2.St} {P : Addr} {q : Str} (s : SR F ρ G σ H) (hm : (P, q) ∈ F.tabs) (m : Mk H H1 P F.tabs) : SR F ρ G σ H1 := by
  have gP : G P = none := s.tg _ hm
  have bP : F.B P = none := s.tB _ hm
  obtain ⟨ps, hP⟩ := tabs_at s.tb hm
  refine ⟨fun b o h => m.keep b o (s.bh b o h) (fun z => by rw [z, bP] at h; cases h), fun b h => s.hd b (m.new b h), s.g0, s.gn, fun b o h => m.keep b o (s.gh b o h) (fun z => by rw [z, gP] at h; cases h), s.sl.heaps (.refl _) fun i t a h o e => ⟨rfl, ?_⟩, s.fr, s.io, m.tabs, s.tg, s.tB⟩
  obtain ⟨a', u, h1, h2, h3, h4, _⟩ := s.sl.own h o
  rw [h1] at e; cases e
  exact (m.keep a _ h3 (fun z => by rw [z] at h3; rw [show H P = _ from hP] at h3; exact h4 ps (Option.some.inj h3).symm)).trans h3.symm

/-- what a maker of lambdas has: its code object and its table -/
structure Maker (X : Cx) (F : FC) : Prop where
  ex : ∃ c P, LamX.TabB X.base X.mg c P ∧ X.env.code = .ref c ∧ (P, lamQ X) ∈ F.tabs ∧ ∀ p ∈ F.tabs, p.1 = P → p.2 = lamQ X

section
variable {X : Cx} {F : FC} {ρ : List Sl}
/-- x(lambda: body), x a def that calls it: r what the body does, sres what comes back -/
theorem ev_lamcall {r : LRes} {sres : Sl} {x a : Str} {k : Nat} {pg : Arguments} {bg : List Stmt} {sg scope : Scope} {Ng : List Str} {g : Addr} {fd : FuncData} {params : Arguments} {body : Expr} {lpos p pos : Pos} (MK : Maker X F)
    (hD : FunD X.K x x pg bg sg [] [] g fd) (hmg : X.mg x = some (.ref g)) (hkp : PySem.W.keepIn X.K (.ref g) = true) (hbd : L2.Binds X.K fd [a] []) (Sg : FnScope Ng [a] sg) (hN : Ng[0]? = some a) (hva : Vis sg a) (hr : Room (k + 2) X.A) (hgd : X.A.guards = some [])
    (L : LamO X.N X.env.scope scope) (hp : LamP X params body scope) (hbody : LBody X F.K k scope body ρ r)
    (hG : ∀ (cdv : Value) (s : Shared) (H : Hp) (f : Addr) (Fh : FC), Fh.K = F.K → Room (k + 1) (X.A.deeper (envOfC x sg s.heap.objs.size g cdv)) →
      (∀ (pn : List (Addr × Obj)) (xe : Value → Shared → Prop) (ρh : List Sl) (p1 p2 : Pos), ρh[0]? = some (.vv (.ref f)) → Acts ((bcx X.prog X.w X.K X.mg X.base Ng x sg g cdv X.A X.stack s H C8.E0).tr pn xe) Fh (.Call (.Name a p1) [] [] p2) ρh r) →
      ∃ ρ', ExB (bcx X.prog X.w X.K X.mg X.base Ng x sg g cdv X.A X.stack s H C8.E0) Fh bg (.vv (.ref f) :: List.replicate (Ng.length - 1) .un) (.rt sres ρ'))
    (hgl : Gl X x := by rfl) (hdb : (x == ("__debug__" : Str)) = false := by decide) (hd : (a == ("__debug__" : Str)) = false := by decide) (hcd : (a == ("__classdict__" : Str)) = false := by decide) :
    EvS X F (.Call (.Name x p) [.Lambda params body scope lpos] [] pos) ρ sres ρ := fun G σ H Q sr kont => by
  refine ⟨fun pins₁ s I₁ => ?_⟩
  obtain ⟨c₁, P₁, TB₁, hcode₁, hm₁, hu₁⟩ := MK.ex
  refine wpAny_Call_Name_kw (ld_glob I₁ hgl hmg ?_ hdb)
  refine PySem.W.callWith_K (h₀ := X.base) I₁.ok.mod.kin hkp ?_ (by rfl) (by rfl)
  show wpAny _ _ (spliced ((false, eval (.Lambda params body scope lpos) X.env) :: backTo pos (starEach [] X.env))) _ _ s
  refine Calls.spliced_cons (lam_made I₁ TB₁ hcode₁ hm₁ hu₁ sr.tb (L.has I₁.ok) hp fun f c'₁ H1₁ s'₁ I1₁ mk₁ M₁ hco₁ => ?_)
  refine Calls.spliced_nil ⟨I1₁.kIn, ?_⟩
  have sr1₁ := sr.made hm₁ mk₁
  have rc₁ : codeAny (model X.prog X.w) X.A (.call (.ref g) ⟨[.ref f], []⟩) (CR (L2.CX X.prog X.w) X.stack X.prog X.w H1₁ s'₁ Q C8.E0) s'₁ := by
    refine run_here (us := [.ref f]) (vs := [.ref f]) hD Sg hr I1₁.env0 (hbd s'₁ [.ref f] I1₁.kIn rfl) (.cons rfl .nil) rfl fun cdv _ hr'₁ => ?_
    have aS₁ : ArgS F.K G H1₁ none [.vv (.ref f)] [.ref f] := args_of (F := F) ⟨.ref f, [], rfl, rfl, rfl⟩ sr1₁.gh
    have s0₁ := sr_start (N := Ng) aS₁ (by have := congrArg List.length Sg.pre; rw [List.length_take] at this; simp at this ⊢; omega)
    obtain ⟨ρ', ex₁⟩ := hG cdv s'₁ H1₁ f (fcOf F.K G H1₁ none) rfl hr'₁ fun pn xe ρh p1 p2 hρ₁ => ev_act I1₁ L M₁ hco₁ sr1₁ hr'₁ hgd hbody hρ₁ hN hva hd hcd
    refine ex₁ G _ H1₁ _ (fun cls₁ d₁ _ H'₁ => C8.E0 cls₁ d₁ H'₁) s0₁ (takes_of rfl rfl rfl rfl) fun v₁ G'₁ σ'₁ H'₁ q₁ g'₁ rr₁ => ?_
    have po₁ := post_hide q₁
    refine kont v₁ G'₁ H'₁ (sr_post sr1₁ po₁) g'₁ (res_post sr1₁ po₁ ?_ ρ fun i₁ b₁ es₁ z₁ => ⟨b₁, es₁, z₁⟩)
    cases sres with
    | un => exact rr₁
    | fz d₁ => exact rr₁
    | vv u₁ => exact rr₁
    | pv P₁ => exact rr₁
    | ow b₁ ds =>
      obtain ⟨e₁, p, xs₁, e1₁, h0₁, hG, hH₁, r1₁, _⟩ := rr₁
      exact ⟨e₁, p, xs₁, e1₁, h0₁, hG, hH₁, r1₁⟩
    | op P =>
      obtain ⟨p, o₂, e1₁, h0₁, hG, hH₁, r1₁, _⟩ := rr₁
      exact ⟨p, o₂, e1₁, h0₁, hG, hH₁, r1₁⟩
  refine wpAny_call (codeAny_mono rc₁ fun r s2₁ hq₁ => ?_)
  cases r with
  | error e₁ =>
    obtain ⟨_, _, _, _, _, _, _, _, _, _, _, _, z₁⟩ := (hq₁ : L2.CX X.prog X.w X.stack H1₁ s'₁ C8.E0 e₁ s2₁)
    exact z₁.elim
  | ok fl₁ =>
    cases fl₁ with
    | ret u₁ => exact I1₁.after hq₁
    | next => exact False.elim hq₁
    | brk => exact False.elim hq₁
    | cont => exact False.elim hq₁
end
end DL
end
section
set_option maxHeartbeats 4000000
namespace DL
open PySem PySem.Spec PyProof.Rows L2
section
variable {X : Cx} {F : FC} {ρ ρ1 ρ2 : List Sl} {tg iter elt e : Expr} {ifs : List Expr} {scope : Scope} {ds : List PyData} {n : Nat} {wi : TI} {pos p : Pos} {s : Sl}
theorem EvS.rho (h : EvS X F e ρ s ρ1) (q : ρ1 = ρ2) : EvS X F e ρ s ρ2 := q ▸ h
theorem wipe_set (n : Nat) (d : Sl) : wipeS (ρ.set n d) [n] = wipeS ρ [n] := by
  show (ρ.set n d).set n .un = ρ.set n .un
  rw [List.set_set]
theorem wipe_wipe (n : Nat) : wipeS (wipeS ρ [n]) [n] = wipeS ρ [n] := wipe_set n .un
/-- [f(x) for x in ..] -/
theorem lc_map {g : PyData → PyData} (he : ∀ d ∈ ds, EvSb X F scope elt ((wipeS ρ1 [n]).set n (.fz d)) (.fz (g d)) ((wipeS ρ1 [n]).set n (.fz d))) : LcD X F scope [] elt [n] (one n ds) (wipeS ρ1 [n]) (ds.map g) (wipeS ρ1 [n]) := by
  induction ds with
  | nil => exact .nil
  | cons d ds ih =>
    refine .keep .nil (he d (by simp)) ?_
    show LcD X F scope [] elt [n] (one n ds) (wipeS ((wipeS ρ1 [n]).set n (.fz d)) [n]) (ds.map g) (wipeS ρ1 [n])
    rw [wipe_set, wipe_wipe]
    exact ih fun d hd => he d (List.mem_cons_of_mem _ hd)
/-- [f(x) for x in .. if t(x)] -/
theorem lc_filter {c : Expr} {g : PyData → PyData} {t : PyData → Bool} (hc : ∀ d ∈ ds, EvTb X F scope c ((wipeS ρ1 [n]).set n (.fz d)) (t d) ((wipeS ρ1 [n]).set n (.fz d))) (he : ∀ d ∈ ds, t d = true → EvSb X F scope elt ((wipeS ρ1 [n]).set n (.fz d)) (.fz (g d)) ((wipeS ρ1 [n]).set n (.fz d))) : LcD X F scope [c] elt [n] (one n ds) (wipeS ρ1 [n]) ((ds.filter t).map g) (wipeS ρ1 [n]) := by
  induction ds with
  | nil => exact .nil
  | cons d ds ih =>
    have ih' := ih (fun d hd => hc d (List.mem_cons_of_mem _ hd)) fun d hd => he d (List.mem_cons_of_mem _ hd)
    cases ht : t d with
    | true =>
      rw [List.filter_cons_of_pos ht, List.map_cons]
      refine .keep (.one (ht ▸ hc d (by simp))) (he d (by simp) ht) ?_
      rw [wipe_set, wipe_wipe]
      exact ih'
    | false =>
      rw [List.filter_cons_of_neg (by rw [ht]; exact Bool.false_ne_true)]
      refine .skip (.one (ht ▸ hc d (by simp))) ?_
      rw [wipe_set, wipe_wipe]
      exact ih'
theorem one_ok {ρ1 : List Sl} (hn : n < ρ1.length) {x : Str} : ∀ b ∈ one n ds, ∀ p ∈ b, p.1 < ρ1.length ∧ p.1 ∈ [(x, n)].map (·.2) := fun b hb p hp => by
  unfold one at hb
  obtain ⟨d, _, rfl⟩ := List.mem_map.mp hb
  obtain rfl := List.mem_singleton.mp hp
  exact ⟨hn, by simp⟩
theorem one_len : (one n ds).length = ds.length := by simp [one]
theorem one_lt {ρ1 : List Sl} (hn : n < ρ1.length) : ∀ b ∈ one n ds, ∀ p ∈ b, p.1 < ρ1.length := fun b hb p hp => by
  unfold one at hb
  obtain ⟨d, _, rfl⟩ := List.mem_map.mp hb
  obtain rfl := List.mem_singleton.mp hp
  exact hn
/-- behind such a comprehension, its name's slot unset before -/
theorem back_un (h : ρ1[n]? = some .un) : backS ρ1 (wipeS ρ1 [n]) [n] = ρ1 := by
  show ((ρ1.set n .un).set n (match ρ1[n]? with
    | some (.fz d) => .fz d
    | some (.vv u) => .vv u
    | some (.pv P) => .pv P
    | _ => .un)) = ρ1
  rw [h, List.set_set]
  exact List.ext_getElem? fun i => by
    by_cases hi : n = i
    · subst hi
      rw [List.getElem?_set_self (List.getElem?_eq_some_iff.mp h).1, h]
    · rw [List.getElem?_set_ne hi]
/-- [f(x) for x in ..]: the list -/
theorem ev_lcm {x : Str} {g : PyData → PyData} (hs : Src X F (.Name x p) iter wi (gName n) ρ (one n ds) ρ1) (he : ∀ d ∈ ds, EvSb X F scope elt ((wipeS ρ1 [n]).set n (.fz d)) (.fz (g d)) ((wipeS ρ1 [n]).set n (.fz d))) (hz : ds.length ≤ sizeLine) (hu : ρ1[n]? = some .un := by rfl)
    (nd : X.N.Nodup := by assumption) (ok : BlkOk X.N X.env.scope scope [(x, n)] := by exact blkOk_by (by rfl)) (hN : X.N[n]? = some x := by rfl) (hg : ∀ (s : Shared) (H : Hp) (C : Addr) (cl : List (Str × Addr)) (fp : List Addr), PG (bkX X scope s H C cl fp) (.Name x p) (gName n) := by exact fun s H C cl fp => pg_name (by assumption) rfl (Or.inl rfl) (Or.inr rfl))
    (hc : X.calm = true := by rfl) (hf : ∀ x, foldedSetIterable iter X.env x = pure x := by intro _; rfl) : EvS X F (.ListComp elt [⟨.Name x p, iter, [], 0⟩] scope pos) ρ (.ow false (ds.map g)) ρ1 :=
  (evn_lc (own := [(x, n)]) hs (lc_map he) (one_ok (List.getElem?_eq_some_iff.mp hu).1) (by rw [one_len]; exact hz) nd ok hg hc hf).rho (back_un hu)
theorem ev_lcf {x : Str} {c : Expr} {g : PyData → PyData} {t : PyData → Bool} (hs : Src X F (.Name x p) iter wi (gName n) ρ (one n ds) ρ1) (hcc : ∀ d ∈ ds, EvTb X F scope c ((wipeS ρ1 [n]).set n (.fz d)) (t d) ((wipeS ρ1 [n]).set n (.fz d))) (he : ∀ d ∈ ds, t d = true → EvSb X F scope elt ((wipeS ρ1 [n]).set n (.fz d)) (.fz (g d)) ((wipeS ρ1 [n]).set n (.fz d))) (hz : ds.length ≤ sizeLine) (hu : ρ1[n]? = some .un := by rfl)
    (nd : X.N.Nodup := by assumption) (ok : BlkOk X.N X.env.scope scope [(x, n)] := by exact blkOk_by (by rfl)) (hN : X.N[n]? = some x := by rfl) (hg : ∀ (s : Shared) (H : Hp) (C : Addr) (cl : List (Str × Addr)) (fp : List Addr), PG (bkX X scope s H C cl fp) (.Name x p) (gName n) := by exact fun s H C cl fp => pg_name (by assumption) rfl (Or.inl rfl) (Or.inr rfl))
    (hc : X.calm = true := by rfl) (hf : ∀ x, foldedSetIterable iter X.env x = pure x := by intro _; rfl) : EvS X F (.ListComp elt [⟨.Name x p, iter, [c], 0⟩] scope pos) ρ (.ow false ((ds.filter t).map g)) ρ1 :=
  (evn_lc (own := [(x, n)]) hs (lc_filter hcc he) (one_ok (List.getElem?_eq_some_iff.mp hu).1) (by rw [one_len]; exact hz) nd ok hg hc hf).rho (back_un hu)
/-- for x in ..: an invariant over the rounds that are done -/
theorem for_inv {body : List Stmt} (R : Nat → List Sl) (h : ∀ (k : Nat) (d : PyData), ds[k]? = some d → ExB X F body ((R k).set n (.fz d)) (.nx (R (k + 1)))) : ForD X F body (one n ds) (R 0) (.nx (R ds.length)) := by
  have : ∀ (m : Nat) (es : List PyData) (k : Nat), es.length = m → ds.drop k = es → ForD X F body (one n es) (R k) (.nx (R (k + es.length))) := by
    intro m
    induction m with
    | zero => intro es k hl _; obtain rfl := List.length_eq_zero_iff.mp hl; exact .nil
    | succ m ih =>
      intro es k hl hd
      cases es with
      | nil => cases hl
      | cons d es =>
        have hk : ds[k]? = some d := by
          have := congrArg (·[0]?) hd
          simpa using this
        have hd' : ds.drop (k + 1) = es := by
          have := congrArg List.tail hd
          simpa using this
        have := ih es (k + 1) (by simpa using hl) hd'
        refine .next (h k d hk) ?_
        rw [show k + (d :: es).length = k + 1 + es.length from by simp; omega]
        exact this
  have := this ds.length ds 0 rfl rfl
  simpa using this
theorem st_for {body : List Stmt} {sts : List Stmt} {x : Str} {R : Out} {ρ3 : List Sl} (hs : Src X F (.Name x p) iter wi (gName n) ρ (one n ds) ρ1) (h : ForD X F body (one n ds) ρ1 (.nx ρ3)) (t : ExB X F sts ρ3 R) (hN : X.N[n]? = some x := by rfl) (hx : Loc X.env.scope x := by first | exact Or.inl rfl | exact Or.inr rfl)
    (hff : X.fn x = true ∨ X.env.scope.names.lookup x = some .local := by first | exact .inl rfl | exact .inr rfl) (nd : X.N.Nodup := by assumption) (hl : n < ρ1.length := by exact Nat.le_of_ble_eq_true rfl) (hlen : X.N.length = ρ1.length := by rfl) (hp : PassesOwn (model X.prog X.w) X.A X.env X.xe := by exact passes_of rfl) (hc : X.calm = true := by rfl) (hf : ∀ x, foldedSetIterable iter X.env x = pure x := by intro _; rfl) :
    ExB X F (.For (.Name x p) iter body [] pos :: sts) ρ R := exb_cons (exs_for hs (pg_name nd hN hx hff) h (one_lt hl) hlen hp hc hf) t
end
theorem st_item {X : Cx} {F : FC} {ρ ρ1 : List Sl} {e b : Expr} {p2 pos pos' : Pos} {sts : List Stmt} {R : Out} (n : Nat) {v0 : Str} {bo : Bool} {i : Int} {j : Nat} {d : PyData} {ds : List PyData} (h : EvD X F e ρ d ρ1) (hb : EvD X F b ρ1 (.int i) ρ1) (t : ExB X F sts (ρ1.set n (.ow bo (ds.set j d))) R) (hn : ρ1[n]? = some (.ow bo ds) := by rfl) (hj : ixN ds.length i = some j := by rfl) (hN : X.N[n]? = some v0 := by rfl) (hv : Vis X.env.scope v0 := by first | exact Or.inl rfl | exact Or.inr (Or.inl rfl) | exact Or.inr (Or.inr rfl))
    (hvd : (v0 == ("__debug__" : Str)) = false := by decide) (hvc : (v0 == ("__classdict__" : Str)) = false := by decide)
    (ha : ∀ v, assign (.Subscript (.Name v0 p2) b pos') X.env v = (do
      let ov ← holding [v] (eval (.Name v0 p2) X.env)
      let iv ← holding [v, ov] (eval b X.env)
      standAt pos'; holding [v, ov, iv] (setItem ov iv v); release [v, ov, iv] []) := by intro _; rfl)
    (hs : swapsWithSole [.Subscript (.Name v0 p2) b pos'] e pos.line X.env = pure false := by rfl) (hw : swappedStores [.Subscript (.Name v0 p2) b pos'] e X.env = pure none := by rfl) : ExB X F (.Assign [.Subscript (.Name v0 p2) b pos'] e pos :: sts) ρ R :=
  exb_cons (exs_item n h hn hb hn hj hN hv hvd hvc ha hs hw) t
theorem ExB.res {X : Cx} {F : FC} {ρ : List Sl} {sts : List Stmt} {R R' : Out} (h : ExB X F sts ρ R) (q : R = R') : ExB X F sts ρ R' := q ▸ h
theorem ExS.res {X : Cx} {F : FC} {ρ : List Sl} {st : Stmt} {R R' : Out} (h : ExS X F st ρ R) (q : R = R') : ExS X F st ρ R' := q ▸ h
/-- an own list's slot is frozen from here on -/
theorem exb_fz {X : Cx} {F : FC} {ρ : List Sl} {sts : List Stmt} {R : Out} (n : Nat) {ds : List PyData} (h : ρ[n]? = some (.ow false ds)) (t : ExB X F sts (ρ.set n (.fz (.list ds))) R) : ExB X F sts ρ R := fun G σ H D W sr tk k => by
  obtain ⟨a, xs, h1, h2, h3, h4, s2⟩ := sr.fzOw h
  exact t _ σ H D W s2 tk (k.le (same_upd h2))
end DL
end
section
set_option maxHeartbeats 4000000
namespace DL
open PySem PySem.Spec PyProof.Rows L2
theorem sqL_mono {K : PySem.W.Frag} {H H' : Hp} {a : Addr} {xs : List V} (e : Same H H') (h : SqL K H a xs) : SqL K H' a xs := by
  rcases h with z | z
  · rcases z with q | ⟨o, q⟩
    · exact Or.inl (Or.inl (e _ _ q))
    · exact Or.inl (Or.inr ⟨o, e _ _ q⟩)
  · exact Or.inr z
/-- a list of these ints -/
def ScP (K : PySem.W.Frag) (ns : List Int) : Pv := ⟨fun G v => ∃ a, v = .ref a ∧ SqL K G a (ns.map V.int), fun G G' v e ⟨a, h1, h2⟩ => ⟨a, h1, sqL_mono e h2⟩⟩
section
variable {X : Cx} {F : FC} {ρ ρ1 ρ2 ρ3 : List Sl} {a : Expr} {pos p2 : Pos} {ns : List Int}
theorem evn_sliceP {lo hi : Option Expr} {l u : Option Int} (hK : X.K = F.K) (ha : EvS X F a ρ (.pv (ScP F.K ns)) ρ1) (h1 : PartD X F lo ρ1 l ρ2) (h2 : PartD X F hi ρ2 u ρ3) : EvS X F (.Subscript a (.Slice lo hi none p2) pos) ρ (.ow false (DL.cutD (ns.map PyData.int) l u)) ρ3 :=
  fun G σ H Q s q => toW (pe_slice sl_list peW poW poW) (ha G σ H _ s fun v G1 H1 s1 g1 r1 => by
    obtain ⟨ad, rfl, r2⟩ := r1
    exact h1.run s1 fun G2 H2 s2 g2 => h2.run s2 fun G3 H3 s3 g3 => ⟨ad, _, rfl, by rw [hK]; exact sqL_mono ((g2.trans g3).trans s3.gh) r2, fun p hp =>
      q _ G3 _ (s3.layN hp) (g1.trans (g2.trans g3)) (newOw s3 hp (rps_cut (rps_of_ints ns) l u))⟩)
end
end DL
end
section
set_option maxHeartbeats 4000000
namespace DL
open PySem PySem.Spec PyProof.Rows L2
abbrev emptyT : Obj := { cls := .none, data := .fields #[] }
abbrev scriptO (vs : List Value) : Obj := { cls := .type "list", data := .seq vs.toArray }
/-- code objects, their tables, the names of the lambdas -/
abbrev CT : Type := List (Addr × Addr × Str)
abbrev CT.fc (cs : CT) : List (Addr × Str) := cs.map fun p => (p.2.1, p.2.2)
/-- an abstract heap at the law's call -/
structure AtCall (P : Program) (w : World) (K : PySem.W.Frag) (mg : Str → Option Value) (cs : CT) (a : Addr) (ns : List Int) (s₁ : Shared) (H : Hp) : Prop where
  tab : ∀ p ∈ cs, H p.2.1 = some (.tbl #[])
  sq : SqL K H a (ns.map V.int)
  env : Env0 P w K mg (hidT s₁.heap H) callerA [] s₁ H
  tb : ∀ p ∈ cs, LamX.TabB (hidT s₁.heap H) mg p.1 p.2.1
  old : ∀ (H' : Hp) (s' : Shared), Un [] [] H H' s₁.heap s'.heap → HOk P w H' s'.heap → OldK s₁.heap s'.heap
section
variable {P : Program} {w : World} {K : PySem.W.Frag} {mg mb : Str → Option Value} {cs : CT} {a : Addr} {ns : List Int} {s₁ : Shared} {vs : List Value}
theorem at_call (KX : K.In s₁.heap) (hns : s₁.heap.Ns mainGlobals mg) (hb : s₁.heap.Ns builtinsNs mb) (hbb : ∀ x : Str, x ≠ "__name__" → mb x = bootBuiltins x) (hlim : s₁.heap.NoLimit) (hg : s₁.gens = #[])
    (hT : ∀ p ∈ cs, s₁.heap.get? p.2.1 = some emptyT) (nT : ∀ p ∈ cs, K.lookup p.2.1 = none) (C : ∀ p ∈ cs, PySem.W.CodeHd s₁.heap p.1 p.2.1)
    (hbm : ∃ (b : Addr) (o : Obj), mg "__builtins__" = some (.ref b) ∧ b ≠ builtinsNs ∧ s₁.heap.get? b = some o ∧ o.cls = .type "module" ∧ o.dict = some builtinsNs ∧ o.data = .plain)
    (ha : s₁.heap.get? a = some (scriptO vs)) (hi : IntsAre vs ns) (hl : ns.length ≤ sizeLine) : ∃ H, AtCall P w K mg cs a ns s₁ H := by
  have rv₁ := vals_ints hi
  have nl₁ := hi.length
  let isT : Addr → Prop := fun b₁ => ∃ p ∈ cs, p.2.1 = b₁
  have tabAt₁ : ∀ {b₁}, isT b₁ → s₁.heap.get? b₁ = some emptyT := fun {b₁} ⟨p, hp₁, e₁⟩ => by rw [← e₁]; exact hT p hp₁
  have aNot₁ : ¬ isT a := fun z₁ => by
    have q₁ := tabAt₁ z₁
    rw [ha] at q₁
    have z' : Data.seq vs.toArray _ = Data.fields #[] := congrArg Obj.data (Option.some.inj q₁)
    cases z'
  have hdec₁ : ∀ b₁, Decidable (isT b₁) := fun b₁ => Classical.propDecidable _
  let H : Hp := fun b₁ => @ite _ (isT b₁) (hdec₁ b₁) (some (.tbl #[])) (if b₁ = a ∧ K.lookup a = none then some (.frz (scriptO vs) (.lst (ns.map V.int))) else none)
  have H1₁ : ∀ {b₁}, isT b₁ → H b₁ = some (.tbl #[]) := fun h₁ => if_pos h₁
  have H2₁ : K.lookup a = none → H a = some (.frz (scriptO vs) (.lst (ns.map V.int))) := fun h₁ => (if_neg aNot₁).trans (if_pos ⟨rfl, h₁⟩)
  have H3₁ : ∀ {b₁ u₁}, H b₁ = some u₁ → (isT b₁ ∧ u₁ = .tbl #[]) ∨ (b₁ = a ∧ K.lookup a = none ∧ u₁ = .frz (scriptO vs) (.lst (ns.map V.int))) := fun {b₁ u₁} h₁ => by
    by_cases t₁ : isT b₁
    · exact .inl ⟨t₁, (Option.some.inj ((H1₁ t₁).symm.trans h₁)).symm⟩
    · have h' : (if b₁ = a ∧ K.lookup a = none then some (HO.frz (scriptO vs) (.lst (ns.map V.int))) else none) = some u₁ := (if_neg t₁).symm.trans h₁
      by_cases q₁ : b₁ = a ∧ K.lookup a = none
      · rw [if_pos q₁] at h'
        exact .inr ⟨q₁.1, q₁.2, (Option.some.inj h').symm⟩
      · rw [if_neg q₁] at h'; cases h'
  -- what is no list and no empty table is seen₁ in the base
  have seen₁ : ∀ {b₁ : Addr} {o₁ : Obj}, s₁.heap.get? b₁ = some o₁ → (∀ us₁ n₁, o₁.data ≠ .seq us₁ n₁) → o₁.data ≠ .fields #[] → (hidT s₁.heap H).get? b₁ = some o₁ := fun {b₁ o₁} e₁ n1₁ n2₁ => by
    refine hidT_get e₁ ?_
    cases q₁ : H b₁ with
    | none => rfl
    | some u₁ =>
      rcases H3₁ q₁ with ⟨t₁, _⟩ | ⟨t₁, _, _⟩
      · rw [tabAt₁ t₁] at e₁; cases e₁; exact (n2₁ rfl).elim
      · rw [t₁, ha] at e₁; cases e₁; exact (n1₁ _ _ rfl).elim
  have nsK₁ : ∀ {b₁ : Addr} {m₁ : Str → Option Value}, s₁.heap.Ns b₁ m₁ → (hidT s₁.heap H).Ns b₁ m₁ := fun {b₁ m₁} ⟨o₁, es₁, ep₁, e₁, d₁, r₁⟩ => ⟨o₁, es₁, ep₁, seen₁ e₁ (fun us₁ n₁ z₁ => by rw [d₁] at z₁; cases z₁) (fun z₁ => by rw [d₁] at z₁; cases z₁), d₁, r₁⟩
  have kIn₁ : K.In (hidT s₁.heap H) := fun b₁ o₁ e₁ => hidT_get (KX b₁ o₁ e₁) (by
    cases q₁ : H b₁ with
    | none => rfl
    | some u₁ =>
      rcases H3₁ q₁ with ⟨⟨p, hp₁, ep₁⟩, _⟩ | ⟨t₁, z₁, _⟩
      · rw [← ep₁, nT p hp₁] at e₁; cases e₁
      · rw [t₁, z₁] at e₁; cases e₁)
  have ok₁ : HOk P w H s₁.heap := fun b₁ u₁ q₁ => by
    rcases H3₁ q₁ with ⟨t₁, rfl⟩ | ⟨rfl, _, rfl⟩
    · exact tabAt₁ t₁
    · exact ⟨ha, by rw [List.length_map]; exact hl, vs, _, rv₁, ha⟩
  have md₁ : L2.Mod K mg (hidT s₁.heap H) := ⟨kIn₁, nsK₁ hns, ⟨mb, nsK₁ hb, hbb⟩, let ⟨mc, h1, h2⟩ := hlim; ⟨mc, nsK₁ h1, h2⟩⟩
  refine ⟨H, fun p hp₁ => H1₁ ⟨p, hp₁, rfl⟩, ?_, ⟨rfl, md₁, fun b₁ o₁ e₁ => of_hidT e₁, Nat.le_of_eq (hidT_size _ _), trivial, fun b₁ z₁ => absurd (show b₁ ∈ ([] : List Addr) from z₁) (by simp), ok₁, .of_eq hg⟩, fun p hp₁ => ?_, fun H'₁ s'₁ un₁ ok'₁ => ?_⟩
  · cases hk : K.lookup a with
    | none => exact .inl (.inr ⟨_, H2₁ hk⟩)
    | some o₁ =>
      have e₁ := KX a o₁ hk
      rw [ha] at e₁
      cases e₁
      exact .inr ⟨_, vs.toArray, _, hk, rfl, rfl, rfl, by rw [List.size_toArray, nl₁]; exact hl, by simpa using rv₁⟩
  · have hTp₁ := hT p hp₁
    refine ⟨?_, ?_, fun z₁ => ?_⟩
    · obtain ⟨o₁, us₁, file₁, tf₁, flags₁, tg₁, inF₁, text₁, tt₁, e1₁, r1₁, r2₁, r3₁, rest₁⟩ := C p hp₁
      refine ⟨o₁, us₁, file₁, tf₁, flags₁, tg₁, inF₁, text₁, tt₁, seen₁ e1₁ (fun us₁ n₁ z₁ => ?_) (fun z₁ => ?_), r1₁, r2₁, r3₁, rest₁⟩
      · rw [r2₁] at z₁; cases z₁
      · rw [r2₁] at z₁; cases z₁; simp at r3₁
    · obtain ⟨bm, ob, b1₁, b2₁, b3₁, b4₁, b5₁, b6₁⟩ := hbm
      refine ⟨bm, ob, b1₁, b2₁, fun q₁ => ?_, fun q₁ => ?_, seen₁ b3₁ (fun us₁ n₁ z₁ => ?_) (fun z₁ => ?_), b4₁, b5₁, b6₁⟩
      · obtain ⟨o₁, es₁, ep₁, e₁, d₁, _⟩ := hns
        rw [q₁, e₁] at b3₁; cases b3₁; rw [d₁] at b6₁; cases b6₁
      · rw [q₁, hTp₁] at b3₁; cases b3₁; cases b6₁
      · rw [b6₁] at z₁; cases z₁
      · rw [b6₁] at z₁; cases z₁
    · obtain ⟨o₁, es₁, ep₁, e₁, d₁, _⟩ := hns
      rw [z₁, hTp₁] at e₁; cases e₁; cases d₁
  · have stay₁ : ∀ b₁ o₁, ¬ isT b₁ → s₁.heap.get? b₁ = some o₁ → s'₁.heap.get? b₁ = some o₁ := fun b₁ o₁ nb₁ e₁ => by
      cases q₁ : H b₁ with
      | none => exact un₁.keep b₁ o₁ e₁ q₁ (by simp) (by simp)
      | some u₁ =>
        rcases H3₁ q₁ with ⟨t₁, _⟩ | ⟨_, _, rfl⟩
        · exact (nb₁ t₁).elim
        · obtain ⟨e1₁, _⟩ := ok₁ b₁ _ q₁
          obtain ⟨e2₁, _⟩ := ok'₁ b₁ _ (un₁.frzs b₁ _ _ q₁)
          rw [e₁] at e1₁; cases e1₁
          exact e2₁
    have grown₁ : ∀ b₁, isT b₁ → ∃ more₁ : Array Value, s'₁.heap.get? b₁ = some { cls := .none, data := .fields more₁ } := fun b₁ t₁ => by
      obtain ⟨more₁, z₁⟩ := un₁.tbls b₁ #[] (H1₁ t₁)
      exact ⟨_, ok'₁ b₁ _ z₁⟩
    refine ⟨fun b₁ o₁ e₁ => ?_, fun b₁ o₁ e₁ => ?_⟩
    · by_cases t₁ : isT b₁
      · obtain ⟨more₁, hm₁⟩ := grown₁ b₁ t₁
        obtain ⟨p, hp₁, rfl⟩ := t₁
        rw [hT p hp₁] at e₁; cases e₁
        exact .inr (.inl ⟨((C p hp₁).tab (hT p hp₁)).isCodeTable, rfl, #[], more₁, rfl, by rw [Array.empty_append]; exact hm₁⟩)
      · exact .inl (stay₁ b₁ o₁ t₁ e₁)
    · by_cases t₁ : isT b₁
      · obtain ⟨more₁, hm₁⟩ := grown₁ b₁ t₁
        exact ⟨_, hm₁⟩
      · exact ⟨o₁, stay₁ b₁ o₁ t₁ e₁⟩
/-- the frame of the law -/
def lawF (K : PySem.W.Frag) (cs : CT) (H : Hp) : FC := ⟨K, fun b => if b ∈ cs.map (·.2.1) then none else H b, H, fun b => if b ∈ cs.map (·.2.1) then none else H b, none, cs.fc, fun b o h => by
  by_cases e : b ∈ cs.map (·.2.1)
  · rw [if_pos e] at h; cases h
  · rw [if_neg e] at h; exact h⟩
/-- what a law's body must be shown to do -/
def LawOk (P : Program) (w : World) (K : PySem.W.Frag) (mg : Str → Option Value) (cs : CT) (k : Nat) (N : List Str) (qual : Str) (scope : Scope) (body : List Stmt) (f c : Addr) (ns : List Int) : Prop :=
  ∀ (base : Heap) (A : Around) (s : Shared) (H : Hp) (F : FC), K.In base → base.Ns mainGlobals mg → (∀ p ∈ cs, LamX.TabB base mg p.1 p.2.1) → F.K = K → F.tabs = cs.fc → Room k (A.deeper (envOfC qual scope s.heap.objs.size f (.ref c))) → A.guards = some [] →
    ∃ ρ', ExB (bcx P w K mg base N qual scope f (.ref c) A [] s H C8.E0) F body (.pv (ScP K ns) :: List.replicate (N.length - 1) .un) (.rt (.fz (.bool true)) ρ')
theorem law_callD {k : Nat} {f c : Addr} {x qual arg : Str} {params : Arguments} {body : List Stmt} {scope : Scope} {fd : FuncData} {N : List Str} (KX : K.In s₁.heap) (hns : s₁.heap.Ns mainGlobals mg) (hb : s₁.heap.Ns builtinsNs mb) (hbb : ∀ x : Str, x ≠ "__name__" → mb x = bootBuiltins x) (hlim : s₁.heap.NoLimit) (hg : s₁.gens = #[])
    (hT : ∀ p ∈ cs, s₁.heap.get? p.2.1 = some emptyT) (nT : ∀ p ∈ cs, K.lookup p.2.1 = none) (C : ∀ p ∈ cs, PySem.W.CodeHd s₁.heap p.1 p.2.1)
    (hbm : ∃ (b : Addr) (o : Obj), mg "__builtins__" = some (.ref b) ∧ b ≠ builtinsNs ∧ s₁.heap.get? b = some o ∧ o.cls = .type "module" ∧ o.dict = some builtinsNs ∧ o.data = .plain)
    (ha : s₁.heap.get? a = some (scriptO vs)) (hi : IntsAre vs ns) (hl : ns.length ≤ sizeLine) (hr : Room (k + 1) callerA)
    (F : FunD K x qual params body scope [] [] f fd) (hc : fd.code = .ref c) (S : FnScope N [arg] scope) (hbind : ∀ (s : Shared) (u : Value), BindsTo s fd ⟨[u], []⟩ [(arg, u)])
    (L : LawOk P w K mg cs k N qual scope body f c ns) :
    codeAny (model P w) callerA (.call (.ref f) ⟨[.ref a], []⟩) (fun r s' => r = .ok (.ret (.bool true)) ∧ OldK s₁.heap s'.heap ∧ s'.os = s₁.os ∧ AllBare s'.gens) s₁ := by
  obtain ⟨H₁, Z₁⟩ := at_call KX hns hb hbb hlim hg hT nT C hbm ha hi hl (P := P) (w := w)
  have run₁ : codeAny (model P w) callerA (.call (.ref f) ⟨[.ref a], []⟩) (CR (L2.CX P w) [] P w H₁ s₁ (fun v₁ _ => v₁ = .bl true) C8.E0) s₁ := by
    refine run_here (us := [.ref a]) (vs := [.ref a]) F S hr Z₁.env (hbind s₁ (.ref a)) (.cons rfl .nil) rfl fun cdv₁ hcd₁ hr'₁ => ?_
    rw [hc] at hcd₁
    cases hcd₁
    obtain ⟨ρ'₁, ex₁⟩ := L (hidT s₁.heap H₁) callerA s₁ H₁ (lawF K cs H₁) Z₁.env.mod.kin Z₁.env.mod.glob Z₁.tb rfl rfl hr'₁ rfl
    have memT₁ : ∀ q₁ ∈ cs.fc, q₁.1 ∈ cs.map (·.2.1) := fun q₁ hq₁ => by
      obtain ⟨p, hp₁, rfl⟩ := List.mem_map.mp hq₁
      exact List.mem_map.mpr ⟨p, hp₁, rfl⟩
    have N1₁ : 1 ≤ N.length := by have := congrArg List.length S.pre; rw [List.length_take] at this; simp at this; omega
    have lo₁ : Same (lawF K cs H₁).G0 H₁ := fun b₁ o₁ e₁ => by
      by_cases q₁ : b₁ ∈ cs.map (·.2.1)
      · have e' : (if b₁ ∈ cs.map (·.2.1) then none else H₁ b₁) = some o₁ := e₁
        rw [if_pos q₁] at e'; cases e'
      · exact (if_neg q₁).symm.trans e₁
    have sqG₁ : SqL K (lawF K cs H₁).G0 a (ns.map V.int) := by
      have na₁ : ∀ u, H₁ a = some u → (∀ ps₁, u ≠ .tbl ps₁) → (lawF K cs H₁).G0 a = some u := fun u e₁ nt₁ => by
        refine (if_neg fun z₁ => ?_).trans e₁
        obtain ⟨p, hp₁, ep₁⟩ := List.mem_map.mp z₁
        have ep' : p.2.1 = a := ep₁
        have t₁ := Z₁.tab p hp₁
        rw [ep', e₁] at t₁
        exact nt₁ _ (Option.some.inj t₁)
      rcases Z₁.sq with z₁ | z₁
      · rcases z₁ with q₁ | ⟨o₁, q₁⟩
        · exact .inl (.inl (na₁ _ q₁ fun ps₁ z₁ => by cases z₁))
        · exact .inl (.inr ⟨o₁, na₁ _ q₁ fun ps₁ z₁ => by cases z₁⟩)
      · exact .inr z₁
    have sr₁ : SR (lawF K cs H₁) (.pv (ScP K ns) :: List.replicate (N.length - 1) .un) (lawF K cs H₁).G0 (L2.start N [.ref a]) H₁ := by
      have noW₁ : ∀ {i₁ : Nat} {t₁ : Sl}, (Sl.pv (ScP K ns) :: List.replicate (N.length - 1) .un)[i₁]? = some t₁ → (i₁ = 0 ∧ t₁ = .pv (ScP K ns)) ∨ t₁ = .un := fun {i₁ t₁} h₁ => by
        cases i₁ with
        | zero => exact .inl ⟨rfl, by simpa using h₁.symm⟩
        | succ i₁ =>
          rw [List.getElem?_cons_succ, List.getElem?_replicate] at h₁
          split at h₁
          · exact .inr (Option.some.inj h₁).symm
          · cases h₁
      refine ⟨lo₁, fun b₁ h₁ => h₁, .refl _, fun b₁ h₁ => .inl h₁, lo₁, ⟨?_, fun i₁ t₁ h₁ ht => ?_, fun i₁ j₁ t₁ u₁ b₁ h1₁ h2₁ o₁ => ?_⟩, fun i₁ t₁ b₁ h₁ w => ?_, fun i₁ ds₁ b₁ h₁ => ?_, fun q₁ hq₁ => ?_, fun q₁ hq₁ => if_pos (memT₁ q₁ hq₁), fun q₁ hq₁ => if_pos (memT₁ q₁ hq₁)⟩
      · unfold L2.start
        simp only [List.length_append, List.length_map, List.length_replicate, List.length_cons, List.length_nil]
        omega
      · rcases noW₁ h₁ with ⟨rfl, z₁⟩ | z₁
        · subst z₁
          exact ⟨.ref a, start_get rfl, a, rfl, sqG₁⟩
        · exact (ht z₁).elim
      · rcases noW₁ h1₁ with ⟨_, z₁⟩ | z₁ <;> (subst z₁; cases o₁)
      · rcases noW₁ h₁ with ⟨_, z₁⟩ | z₁ <;> (subst z₁; cases w)
      · rcases noW₁ h₁ with ⟨_, z₁⟩ | z₁ <;> cases z₁
      · obtain ⟨p, hp₁, rfl⟩ := List.mem_map.mp hq₁
        exact ⟨#[], Z₁.tab p hp₁, trivial, fun pos₁ cv₁ h₁ => by cases h₁⟩
    exact ex₁ _ (L2.start N [.ref a]) H₁ { nx := fun _ _ => (V.non : V) = .bl true, rt := fun v₁ _ => v₁ = .bl true } (fun _ _ _ _ => False) sr₁ (takes_of rfl rfl rfl rfl) fun v₁ G'₁ σ'₁ H'₁ q₁ g'₁ rr₁ => rr₁
  refine codeAny_mono run₁ fun r s' h₁ => ?_
  cases r with
  | error e₁ =>
    obtain ⟨_, _, _, _, _, _, _, _, _, _, _, _, z₁⟩ := (h₁ : L2.CX P w [] H₁ s₁ C8.E0 e₁ s')
    exact z₁.elim
  | ok fl₁ =>
    cases fl₁ with
    | next => exact False.elim h₁
    | brk => exact False.elim h₁
    | cont => exact False.elim h₁
    | ret u =>
      obtain ⟨v₁, H'₁, os, bare₁, un₁, hok'₁, r'₁, q₁⟩ := h₁
      have q' : v₁ = .bl true := q₁
      subst q'
      obtain rfl : u = Value.bool true := r'₁
      exact ⟨rfl, Z₁.old H'₁ s' un₁ hok'₁, os, bare₁⟩
end
end DL
end
section
set_option maxHeartbeats 4000000
namespace DL
open PySem PySem.Spec PyProof.Rows L2 PySem.W
/-- an own class's __init__: the class's name, its text -/
structure IniD where
  cls : Str
  qual : Str
  params : Arguments
  body : List Stmt
abbrev IniV : Type := Option (Str × Str × Arguments × FuncBody × Scope × Addr × List Str × Addr × Value × Value)
def iniObs (K : Frag) (d : IniD) : IniV := match K.lookup (He.ma K (He.ga K d.cls) "__init__") with
  | some ⟨_, _, .func fd, _⟩ => some (fd.name, fd.qualname, fd.params, fd.body, fd.scope, fd.globals, fd.closure.map (·.1), fd.builtins, fd.defaults, fd.kwdefaults)
  | _ => none
def IniD.val (d : IniD) : IniV := some ("__init__", d.qual, d.params, .stmts d.body, eScope, mainGlobals, ["__class__"], builtinsNs, .none, .none)
def codeB (file : Str) (K : Frag) (v : Value) : Bool := match v with
  | .ref c => (match K.lookup c with
    | some ⟨_, _, .fields vs, _⟩ => (match (vs[2]? : Option Value) with
      | some (.str f _) => f == file
      | _ => false)
    | _ => false)
  | _ => false
def cellB (K : Frag) (C : Addr) (cl : List (Str × Addr)) : Bool := match cl with
  | [p] => (match K.lookup p.2 with
    | some ⟨_, _, .cell (some (.ref D)), _⟩ => D == C
    | _ => false)
  | _ => false
def iniB (file : Str) (K : Frag) (d : IniD) : Bool := match K.lookup (He.ma K (He.ga K d.cls) "__init__") with
  | some ⟨_, _, .func fd, _⟩ => codeIn K fd.code d.qual && (codeB file K fd.code && cellB K (He.ga K d.cls) fd.closure)
  | _ => false
def excB (K : Frag) (C : Addr) : Bool := match K.lookup C with
  | some ⟨.type t, _, .cls cd, sl⟩ => (match cd.mro, sl.toList with
    | .ref D :: bm, [_, _, _, _, some (.builtin n), _] => decide (t = "type") && (D == C && (n == "ValueError.__new__" && (!cd.hasDel && (cd.hasDict && (HandSPX.refsVE bm && He.eqO (alongIn K "__init__" bm) (some (some (.builtin "ValueError.__init__"))))))))
    | _, _ => false)
  | _ => false
theorem excB_ok {K : Frag} {C : Addr} (h : excB K C = true) : ∃ nm q N bs bm sn sub ab col dd k0 k1 k2 k3 k5, K.lookup C = some (excClassObj nm q C N bs bm true sn sub ab col dd k0 k1 k2 k3 k5 "ValueError.__new__") ∧ HandSPX.refsVE bm = true ∧ alongIn K "__init__" bm = some (some (.builtin "ValueError.__init__")) := by
  unfold excB at h
  split at h
  · rename_i t dd cd sl ho
    split at h
    · rename_i D bm k0 k1 k2 k3 n k5 hm hs
      simp only [Bool.and_eq_true, beq_iff_eq, Bool.not_eq_true', decide_eq_true_eq] at h
      obtain ⟨rfl, rfl, rfl, hdel, hdc, hr, ha⟩ := h
      obtain ⟨nm, bs, mro, ns, qn, hd, sn, sub, ab, col, del⟩ := cd
      dsimp only at hm hdel hdc
      subst hm hdel hdc
      obtain ⟨l⟩ := sl
      simp only at hs
      subst hs
      exact ⟨nm, qn, ns, bs, bm, sn, sub, ab, col, dd, k0, k1, k2, k3, k5, ho, hr, He.eqO_ok ha⟩
    · cases h
  · cases h
/-- the facts of one own class -/
def errB (K : Frag) (x : Str) : Bool :=
  let C := He.ga K x
  let I := He.ma K C "__init__"
  excB K C && (He.eqO (findIn K (.ref C) "__setattr__") (some (some (.builtin "object.__setattr__"))) && (He.eqO (findIn K (.ref C) "part") (some none) && (He.eqO (findIn K (.ref C) "__init__") (some (some (.ref I))) && (decide (typeIn K (.ref I) = some (.type "function")) && (keepIn K (.ref C) &&
  (decide (subIn K (.ref C) (.type "ValueError") = some true) && (decide (mroIn K C (.ref C) = some true) && (decide (typeIn K (.ref C) = some (.type "type")) && xcB K C))))))))
/-- what all of them lean on -/
def errB0 (K : Frag) : Bool := He.eqO (nsIn K cStatics "thirdparty.any") (some none) && He.eqO (nsIn K mainGlobals "super") (some none)
theorem errT_of {prog : Program} {K : Frag} {d : IniD} (b : errB K d.cls = true) (b0 : errB0 K = true) (bi : iniB prog.main.file K d = true) (e : iniObs K d = d.val) (top : (prog.main.scope.names.lookup ("super" : Str)).isSome = false)
    (tx : ∃ (p1 p2 q1 q2 q3 q4 q5 q6 q7 q8 q9 q10 : Pos), d.params = eArgs p1 p2 ∧ d.body = eBody q1 q2 q3 q4 q5 q6 q7 q8 q9 q10 ∧ (q3.endLine == q5.line) = true) : ErrT prog K (He.ga K d.cls) (He.ma K (He.ga K d.cls) "__init__") d.qual := by
  obtain ⟨c1, b⟩ := He.ba b
  obtain ⟨c2, b⟩ := He.ba b
  obtain ⟨c3, b⟩ := He.ba b
  obtain ⟨c4, b⟩ := He.ba b
  obtain ⟨c5, b⟩ := He.ba b
  obtain ⟨c6, b⟩ := He.ba b
  obtain ⟨c7, b⟩ := He.ba b
  obtain ⟨c8, b⟩ := He.ba b
  obtain ⟨c9, b⟩ := He.ba b
  have xc := xcB_ok b
  obtain ⟨d1, d2⟩ := He.ba b0
  refine ⟨excB_ok c1, He.eqO_ok c2, xc.ga, xc.gg, He.eqO_ok c3, He.eqO_ok c4, of_decide_eq_true c5, c6, xc.ex, of_decide_eq_true c7, of_decide_eq_true c8, of_decide_eq_true c9, xc.hd, He.eqO_ok d1, He.eqO_ok d2, top, ?_⟩
  obtain ⟨p1, p2, q1, q2, q3, q4, q5, q6, q7, q8, q9, q10, e1, e2, e3⟩ := tx
  unfold iniB at bi
  unfold iniObs at e
  generalize hL : K.lookup (He.ma K (He.ga K d.cls) "__init__") = L at bi e
  cases L with
  | none => cases bi
  | some o =>
    obtain ⟨oc, od, dt, osl⟩ := o
    cases dt with
    | func fd =>
      obtain ⟨n1, n2, n3, n4, n5, n6, n7, n8, n9, n10, n11, n12, n13, n14, n15⟩ := fd
      have e' : (some (n1, n2, n3, n4, n5, n6, n7.map (·.1), n15, n8, n9) : IniV) = d.val := e
      unfold IniD.val at e'
      simp only [Option.some.injEq, Prod.mk.injEq] at e'
      obtain ⟨h1, h2, h3, h4, h5, h6, h7, h8, h9, h10⟩ := e'
      subst h1 h2 h3 h4 h5 h6 h8 h9 h10
      have bi' : (codeIn K n13 d.qual && (codeB prog.main.file K n13 && cellB K (He.ga K d.cls) n7)) = true := bi
      obtain ⟨g1, bi'⟩ := He.ba bi'
      obtain ⟨g2, g3⟩ := He.ba bi'
      obtain ⟨cda, rfl⟩ := He.codeIn_ref g1
      unfold codeB at g2
      simp only at g2
      split at g2
      · rename_i ccl cdd vs ccs hc
        split at g2
        · rename_i file tf hv
          match n7, h7, g3, hL with
          | [(y, cc)], h7, g3, hL =>
            simp only [List.map_cons, List.map_nil, List.cons.injEq, and_true] at h7
            subst h7
            unfold cellB at g3
            simp only at g3
            split at g3
            · rename_i cl cld D csl hcc
              have eD : D = He.ga K d.cls := beq_iff_eq.mp g3
              subst eD
              exact ⟨oc, od, n10, n11, n12, cda, cc, n14, osl, p1, p2, q1, q2, q3, q4, q5, q6, q7, q8, q9, q10, ccl, cdd, vs, ccs, file, tf, cl, cld, csl, by rw [← e1, ← e2] <;> exact hL, g1, hc, hv, by rw [beq_iff_eq.mp g2]; exact beq_self_eq_true _, hcc, e3⟩
            · cases g3
          | [], h7, g3, hL => cases g3
          | _ :: _ :: _, h7, g3, hL => cases g3
        · cases g2
      · cases g2
    | _ => cases bi
def asY (g : Addr → Option Obj) (n : Nat) : List Addr := cStatics :: He.asD g n
abbrev AlY : Type := He.AlD × Bool × List IniV
structure SaysY (fa : List He.Fa) (fn : List He.DefD) (tf : List He.Defn) (ms : List IniD) (ex : Frag → Bool) (h : Heap) (K : Frag) : Prop where
  d : He.SaysD fa fn K
  more : ex K = true
  hd : ∀ p ∈ tf, codeHdIn K (He.cT K p).1 (He.cT K p).2 = true
  out : ∀ p ∈ tf, K.lookup (He.cT K p).2 = none
  empty : ∀ p ∈ tf, h.get? (He.cT K p).2 = some { cls := .none, data := .fields #[] }
  ini : ms.map (iniObs K) = ms.map IniD.val
def obsYK (fa : List He.Fa) (fn : List He.DefD) (tf : List He.Defn) (ms : List IniD) (ex : Frag → Bool) (g : Addr → Option Obj) (K : Frag) : AlY := (He.obsD fa fn K, ex K && He.tabsB g tf K, ms.map (iniObs K))
def obsY (n : Nat) (fa : List He.Fa) (fn : List He.DefD) (tf : List He.Defn) (ms : List IniD) (ex : Frag → Bool) (g : Addr → Option Obj) : AlY := obsYK fa fn tf ms ex g (He.frT g (asY g n))
def valY (fn : List He.DefD) (ms : List IniD) : AlY := (He.valD fn, true, ms.map IniD.val)
theorem saysY_of {n : Nat} {fa : List He.Fa} {fn : List He.DefD} {tf : List He.Defn} {ms : List IniD} {ex : Frag → Bool} {h : Heap} (e : obsY n fa fn tf ms ex h.get? = valY fn ms) : SaysY fa fn tf ms ex h (He.frT h.get? (asY h.get? n)) := by
  have e1 : He.obsD fa fn (He.frT h.get? (asY h.get? n)) = He.valD fn := congrArg (fun z : AlY => z.1) e
  have e2 : (ex (He.frT h.get? (asY h.get? n)) && He.tabsB h.get? tf (He.frT h.get? (asY h.get? n))) = true := congrArg (fun z : AlY => z.2.1) e
  have e3 : ms.map (iniObs (He.frT h.get? (asY h.get? n))) = ms.map IniD.val := congrArg (fun z : AlY => z.2.2) e
  obtain ⟨h1, h2⟩ := He.ba e2
  have key : ∀ p ∈ tf, codeHdIn (He.frT h.get? (asY h.get? n)) (He.cT (He.frT h.get? (asY h.get? n)) p).1 (He.cT (He.frT h.get? (asY h.get? n)) p).2 = true ∧ ∃ o, h.get? (He.cT (He.frT h.get? (asY h.get? n)) p).2 = some o ∧ He.emptyTab o = true := fun p hp => by
    obtain ⟨g1, g2⟩ := He.ba (List.all_eq_true.mp h2 p hp)
    generalize hq : h.get? (He.cT (He.frT h.get? (asY h.get? n)) p).2 = q at g2
    cases q with
    | none => cases g2
    | some o => exact ⟨g1, o, rfl, g2⟩
  refine ⟨e1, h1, fun p hp => (key p hp).1, fun p hp => ?_, fun p hp => ?_, e3⟩
  · obtain ⟨_, o, q, z⟩ := key p hp
    exact He.frT_none q z
  · obtain ⟨_, o, q, z⟩ := key p hp
    rw [q, He.emptyTab_eq z]
def hookY (n : Nat) (fa : List He.Fa) (fn : List He.DefD) (tf : List He.Defn) (ms : List IniD) (ex : Frag → Bool) : Hook where
  α := AlY
  obs := fun s => obsY n fa fn tf ms ex s.heap.get?
  val := fun _ => valY fn ms
  says := fun _ h => ∃ K : Frag, K.In h ∧ SaysY fa fn tf ms ex h K
  of := fun _ _ e => ⟨_, He.frT_in, saysY_of e⟩
  keeps := fun _ _ _ ⟨K, hK, c⟩ k => ⟨K, Frag.In.keeps hK k, ⟨c.d, c.more, c.hd, c.out, fun p hp => k _ _ (c.empty p hp), c.ini⟩⟩
theorem obsY_eq {n : Nat} {fa : List He.Fa} {fn : List He.DefD} {tf : List He.Defn} {ms : List IniD} {ex : Frag → Bool} {g : Addr → Option Obj} {s : Shared} (h : ∀ a, g a = s.heap.get? a) : obsY n fa fn tf ms ex g = (hookY n fa fn tf ms ex).obs s := by
  have e : g = s.heap.get? := funext h
  rw [e] <;> rfl
theorem SaysY.inis {fa : List He.Fa} {fn : List He.DefD} {tf : List He.Defn} {ms : List IniD} {ex : Frag → Bool} {h : Heap} {K : Frag} (c : SaysY fa fn tf ms ex h K) (i : Nat) {d : IniD} (hd : ms[i]? = some d := by rfl) : iniObs K d = d.val := by
  have e2 : (ms.map (iniObs K))[i]? = (ms.map IniD.val)[i]? := by rw [c.ini]
  rw [List.getElem?_map, List.getElem?_map, hd] at e2
  exact Option.some.inj e2
/-- a def's code object -/
theorem code_at {K : Frag} {x qual : Str} {params : Arguments} {body : List Stmt} {scope : Scope} {p : He.Defn} {fd : FuncData} (F : FunD K x qual params body scope [] [] (He.fAd K p) fd) : fd.code = .ref (He.codeOf K p) := by
  obtain ⟨oc, od, dV, kV, doc, pm, an, cdv, ct, osl, rfl, lk, hcd, _, _⟩ := F.ex
  obtain ⟨c, rfl⟩ := He.codeIn_ref hcd
  rw [He.codeOf_eq lk rfl]
/-- keywords alone -/
theorem bindsK {K : Frag} {x qual : Str} {params : Arguments} {body : List Stmt} {scope : Scope} {kws : List (Str × V)} {f : Addr} {fd : FuncData} {ps ks : List Str} {g : {α : Type} → List α → List α} (F : FunD K x qual params body scope [] kws f fd)
    (h : ∀ (kV doc pm : Value) (an : Option Addr) (cdv ct : Value) (ws : List Value), ws.length = ks.length → bindArgs (fnOf x qual params body scope .none kV doc pm an cdv ct) ⟨[], ks.zip ws⟩ = pure (ps.zip (g ws))) (s : Shared) (ws : List Value) (_ : K.In s.heap) (hl : ws.length = ks.length) : BindsTo s fd ⟨[], ks.zip ws⟩ (ps.zip (g ws)) := by
  obtain ⟨oc, od, dV, kV, doc, pm, an, cdv, ct, osl, rfl, lk, hcd, hD, _⟩ := F.ex
  rcases hD with ⟨_, rfl⟩ | ⟨e, _⟩
  · exact .of_eq (h kV doc pm an cdv ct ws hl)
  · exact absurd rfl e
/-- what must be shown of the law at the head's heap h -/
def LawAt (l : OpenLaw) (w : World) (K : Frag) (mg : Str → Option Value) (fa : Addr) (h : Heap) : Prop :=
  ∃ (k n : Nat) (cs : CT) (c : Addr) (x qual arg : Str) (params : Arguments) (body : List Stmt) (scope : Scope) (fd : FuncData) (N : List Str), Room (k + 1) callerA ∧ l.most = some n ∧ n ≤ sizeLine ∧
    (∀ p ∈ cs, h.get? p.2.1 = some emptyT) ∧ (∀ p ∈ cs, K.lookup p.2.1 = none) ∧ (∀ p ∈ cs, CodeHd h p.1 p.2.1) ∧
    FunD K x qual params body scope [] [] fa fd ∧ fd.code = .ref c ∧ FnScope N [arg] scope ∧ (∀ (s : Shared) (u : Value), BindsTo s fd ⟨[u], []⟩ [(arg, u)]) ∧
    ∀ ns : List Int, ns.length ≤ n → (∀ z ∈ ns, Builtin.Int.intBits z ≤ 1048576) → LawOk l.prog w K mg cs k N qual scope body fa c ns
theorem walk_ofD {l : OpenLaw} {n : Nat} {q : Program} {loose : List Str} {XP : (Str → Option Value) → Heap → Prop} {YP : World → Heap → Prop} {d : DefRec}
    (hn : l.most = some n) (hdf : d.params.defaults = [])
    (F : ∀ (w : World) (mg : Str → Option Value) (fa : Addr) (h : Heap), YP w h → h.Ns mainGlobals mg → mg d.name = some (.ref fa) → ∃ K : Frag, K.In h ∧ LawAt l w K mg fa h) :
    WalkO q loose XP YP l.row.toRowW d [] (fun f vs => PySem.call f vs) := by
  refine Att.attach_callB hn hdf fun w s₀ s₁ mg mb fa o pm cd doc a vs ns G Y ho hd hcd hmg hobj hints hlen hbits hg => ?_
  obtain ⟨K, KX, k, n', cs, c, x, qual, arg, params, body, scope, fd, N, hr, hn', hl, hT, nT, C, FD, hc, S, hb, L⟩ := F w mg fa _ Y G.T.g hmg
  rw [hn] at hn'
  cases hn'
  exact law_callD KX G.T.g G.T.b G.T.builtins G.T.nolimit hg hT nT C G.T.bmain hobj hints (Nat.le_trans hlen hl) hr FD hc S hb (L ns hlen hbits)
end DL
end
section
set_option maxHeartbeats 4000000
namespace DL
open PySem PySem.Spec PyProof.Rows L2

abbrev nk (P : Program) (w : World) : HeapKind P w NestedKey := nestedKind P w
abbrev Ent : Type := NestedKey × Addr × Value
def dcEs (P : Program) (w : World) (xs : List Ent) : Array DictEntry := (xs.map (entryOfKey (nk P w))).toArray
/-- a dict's object with these entries -/
def DcO (P : Program) (w : World) (a : Addr) (xs : List Ent) : HO := .ext fun h => ∃ (o : Obj) (ep : Nat), h.get? a = some o ∧ o.ExactDict ∧ o.data = .dict (dcEs P w xs) ep
theorem dcO_ok {P : Program} {w : World} {H : Hp} {h : Heap} {a : Addr} {xs : List Ent} {o : Obj} {ep : Nat} (e : h.get? a = some o) (x : o.ExactDict) (d : o.data = .dict (dcEs P w xs) ep) : ObjOk P w H h a (DcO P w a xs) :=
  ⟨⟨o, ep, e, x, d⟩, ⟨o, e⟩, fun h1 h2 ⟨o, ep, z1, z2, z3⟩ k => ⟨o, ep, k _ z1, z2, z3⟩⟩
theorem get_replicate {n c : Nat} {o x : Obj} (h : Heap.get? ⟨(List.replicate n o).toArray, {}⟩ c = some x) : x = o := by
  unfold Heap.get? at h
  have key : ∀ y : Obj, ((List.replicate n o).toArray)[c]? = some y → y = o := fun y e => by
    rw [List.getElem?_toArray, List.getElem?_replicate] at e
    split at e
    · exact (Option.some.inj e).symm
    · cases e
  simp only at h
  split at h
  · cases h
  · exact key x h
theorem dcO_code {P : Program} {w : World} {a : Addr} {xs : List Ent} {c : Addr} {q : Str} : DcO P w a xs ≠ LamX.CodeO c q := fun z => by
  unfold DcO LamX.CodeO at z
  have e := HO.ext.inj z
  let o : Obj := { cls := .type "dict", data := .dict (dcEs P w xs) 0 }
  have hg : Heap.get? ⟨(List.replicate (a + 1) o).toArray, {}⟩ a = some o := by
    unfold Heap.get?
    have : ((List.replicate (a + 1) o).toArray)[a]? = some o := by
      rw [List.getElem?_toArray, List.getElem?_replicate, if_pos (Nat.lt_succ_self a)]
    dsimp only
    rw [this]
  have h1 : (fun h : Heap => ∃ (o : Obj) (ep : Nat), h.get? a = some o ∧ o.ExactDict ∧ o.data = .dict (dcEs P w xs) ep) ⟨(List.replicate (a + 1) o).toArray, {}⟩ := ⟨o, 0, hg, ⟨rfl, rfl, rfl⟩, rfl⟩
  rw [e] at h1
  obtain ⟨oc, vs, t, g1, g2, g3⟩ := h1
  rw [get_replicate g1] at g2
  cases g2
/-- an own dict: keys, values -/
def DcP (P : Program) (w : World) (K : PySem.W.Frag) (kvs : List (NestedKey × PyData)) : Po where
  p G a o := (a == sysModules) = false ∧ kvs.length ≤ sizeLine ∧ (kvs.map (·.1)).Nodup ∧ (∀ q ∈ kvs, q.1.depth ≤ 8) ∧
    ∃ (xs : List Ent) (vs : List V), o = DcO P w a xs ∧ xs.map (·.1) = kvs.map (·.1) ∧ (∀ x ∈ xs, Rp K G x.1.data (.ref x.2.1)) ∧ Vals vs (xs.map (·.2.2)) ∧ Rps K G (kvs.map (·.2)) vs
  mono G G' a o e h := by
    obtain ⟨h1, h2, h3, h4, xs, vs, h5, h6, h7, h8, h9⟩ := h
    exact ⟨h1, h2, h3, h4, xs, vs, h5, h6, fun x hx => Rp.mono e _ _ (h7 x hx), h8, Rps.mono e _ _ h9⟩
  nt G a o h := by
    obtain ⟨h1, h2, h3, h4, xs, vs, rfl, h6⟩ := h
    exact ⟨fun ps z => (by unfold DcO at z; cases z), fun c q => dcO_code, fun fv z => (by unfold DcO at z; cases z)⟩
section
variable {X : Cx} {pins : List (Addr × Obj)} {σ : L2.St} {G H : Hp} {s : Shared}
mutual
theorem rp_nested (I : Inv X pins σ H s) (gh : Same G H) : ∀ (k : NestedKey) (v : V) (u : Value), Rp X.K G k.data v → RelV v u → NestedIs s.heap k u
  | .none, v, u, h, r => by
    simp only [NestedKey.data, Rp] at h; subst h
    cases u <;> first | exact .none | cases r
  | .num i, v, u, h, r => by
    simp only [NestedKey.data, Rp] at h; subst h
    obtain ⟨t, rfl⟩ := r
    exact .int i t
  | .text x, v, u, h, r => by
    simp only [NestedKey.data, Rp] at h; subst h
    obtain ⟨t, rfl⟩ := r
    exact .text x t
  | .tup ks, v, u, h, r => by
    simp only [NestedKey.data, Rp] at h
    obtain ⟨a, xs, rfl, h2, h3⟩ := h
    obtain rfl : u = .ref a := r
    obtain ⟨its, rv, ⟨o, ho, hc, n, hd⟩, _⟩ := I.tuple (same_seqT gh h2)
    exact .tup ho hc hd (by simpa using rps_nested I gh ks xs its h3 rv)
theorem rps_nested (I : Inv X pins σ H s) (gh : Same G H) : ∀ (ks : List NestedKey) (vs : List V) (us : List Value), Rps X.K G (NestedKey.datas ks) vs → Vals vs us → NestedAll s.heap ks us
  | [], vs, us, h, r => by
    simp only [NestedKey.datas, Rps] at h; subst h
    cases r; exact .nil
  | k :: ks, vs, us, h, r => by
    simp only [NestedKey.datas, Rps] at h
    obtain ⟨v, vs, rfl, h2, h3⟩ := h
    cases r with
    | cons r1 r2 => exact .cons (rp_nested I gh k v _ h2 r1) (rps_nested I gh ks vs _ h3 r2)
end
/-- the dict is there -/
theorem dc_at {kvs : List (NestedKey × PyData)} (I : Inv X pins σ H s) (gh : Same G H) {a : Addr} {xs : List Ent} (e : H a = some (DcO X.prog X.w a xs)) (hd : ∀ q ∈ kvs, q.1.depth ≤ 8) (hn : (kvs.map (·.1)).Nodup) (hk : xs.map (·.1) = kvs.map (·.1)) (hr : ∀ x ∈ xs, Rp X.K G x.1.data (.ref x.2.1)) :
    s.heap.DictOfH (nk X.prog X.w) a xs := by
  obtain ⟨⟨o, ep, h1, h2, h3⟩, _, _⟩ := I.hok a _ e
  refine ⟨o, _, ep, h1, h2, h3, by unfold dcEs; simp, fun x hx => ⟨rp_nested I gh x.1 _ _ (hr x hx) rfl, ?_⟩, by rw [hk]; exact hn⟩
  have : x.1 ∈ kvs.map (·.1) := by rw [← hk]; exact List.mem_map.mpr ⟨x, hx, rfl⟩
  obtain ⟨q, hq, eq⟩ := List.mem_map.mp this
  rw [← eq]; exact hd q hq
theorem atKey_some {xs : List Ent} {k : NestedKey} : (atKey xs k).isSome = decide (k ∈ xs.map (·.1)) := by
  unfold atKey
  rw [Option.isSome_map]
  induction xs with
  | nil => rfl
  | cons x xs ih =>
    rw [List.find?_cons]
    by_cases h : x.1 = k
    · simp [h]
    · simp only [decide_eq_false h, ih, List.map_cons, List.mem_cons, Ne.symm h, false_or]
end

section
variable {X : Cx} {F : FC} {ρ ρ1 ρ2 : List Sl} {a b e1 e2 : Expr} {pos p : Pos} {d : PyData} {kvs : List (NestedKey × PyData)} {k : NestedKey}
def tNotInD (X : Cx) (i o : Expr) : TE := fun σ H Q => tW X i σ H fun y H1 => tW X o σ H1 fun x H2 => ∃ (a c : Addr) (kvs : List (NestedKey × PyData)) (k : NestedKey) (G : Hp) (u : HO), x = .ref a ∧ y = .ref c ∧ Same G H2 ∧ H2 a = some u ∧ (DcP X.prog X.w X.K kvs).p G a u ∧ Rp X.K G k.data y ∧ k.depth ≤ 8 ∧ Q (.bl (!decide (k ∈ kvs.map (·.1)))) H2
theorem pc_notInD {i o : Expr} (hu : X.A.units + 10 < cLine) : PC X .NotIn i o (tNotInD X i o) := by
  refine ⟨fun pins s σ H Q I h => ?_⟩
  refine thn (h.run pins s I) fun iv s1 ⟨y, H1, I1, ry, q1⟩ => thn (q1.run pins s1 I1) fun ov s2 ⟨x, H2, I2, rx, a, c, kvs, k, G, u, ex, ey, gh, hu2, hp, hk, hd, q2⟩ => ?_
  subst ex
  obtain rfl : ov = Value.ref a := rx
  subst ey
  obtain rfl : iv = Value.ref c := ry
  obtain ⟨p1, p2, p3, p4, xs, vs, rfl, p6, p7, p8, p9⟩ := hp
  have dd := dc_at I2 gh hu2 p4 p3 p6 p7
  refine wpAny_notIn_heap (knd := nk X.prog X.w) (show X.A.in1.units + 8 < cLine by show X.A.units + 1 + 8 < cLine; omega) ⟨rp_nested I2 gh k _ _ hk rfl, hd⟩ p1 dd ?_
  rw [atKey_some, p6]
  exact ⟨.bl _, H2, I2.tok _, rfl, q2⟩
end
end DL
end
section
set_option maxHeartbeats 4000000
namespace DL
open PySem PySem.Spec PyProof.Rows L2
theorem dcEs_of {P : Program} {w : World} {es : Array DictEntry} {xs : List Ent} (h : es.toList = xs.map (entryOfKey (nk P w))) : es = dcEs P w xs := by
  unfold dcEs
  rw [← h, Array.toArray_toList]
section
variable {X : Cx} {F : FC} {ρ ρ1 ρ2 : List Sl} {a b e e1 e2 : Expr} {pos pos' p p2 : Pos} {d : PyData} {kvs : List (NestedKey × PyData)} {ks : List NestedKey}
/-- k not in d -/
theorem evt_notInD (n : Nat) {v0 : Str} (hu : X.A.units + 10 < cLine) (ha : EvD X F a ρ (NestedKey.tup ks).data ρ1) (hn : ρ1[n]? = some (.op (DcP X.prog X.w X.K kvs))) (hd : (NestedKey.tup ks).depth ≤ 8) (hK : X.K = F.K := by first | rfl | assumption) (hN : X.N[n]? = some v0 := by rfl)
    (hv : Vis X.env.scope v0 := by first | exact Or.inl rfl | exact Or.inr (Or.inl rfl) | exact Or.inr (Or.inr rfl)) (hvd : (v0 == ("__debug__" : Str)) = false := by decide) (hvc : (v0 == ("__classdict__" : Str)) = false := by decide) :
    EvT X F (.Compare a [.NotIn] [.Name v0 p2] pos) ρ (!decide (NestedKey.tup ks ∈ kvs.map (·.1))) ρ1 := fun G σ H Q sr k => toWT (pt_cmp (pc_notInD hu) rfl) (ha G σ H _ sr fun v G1 H1 s1 g1 r1 => by
  obtain ⟨ad, u, w1, w2, w3, w4⟩ := s1.sl.op n _ hn
  refine toW (pe_var hN hv hvd hvc) ⟨_, w1, ?_⟩
  have r1' : Rp F.K G1 (NestedKey.tup ks).data v := r1
  obtain ⟨c, ys, rfl, _⟩ : ∃ c ys, v = .ref c ∧ SqT F.K G1 c ys := by
    simp only [NestedKey.data, Rp] at r1'
    obtain ⟨c, ys, e, h, _⟩ := r1'
    exact ⟨c, ys, e, h⟩
  exact ⟨ad, c, kvs, .tup ks, G1, u, rfl, rfl, s1.gh, w3, w4, by rw [hK]; exact r1', hd, _, rfl, k G1 H1 s1 g1⟩)
/-- a new key is put -/
theorem exs_dput (n : Nat) {v0 : Str} {P0 : Po} (hu : X.A.units + 10 < cLine) (hv0 : EvD X F e ρ d ρ1) (h0 : ρ1[n]? = some (.op P0)) (hk : EvD X F b ρ1 (NestedKey.tup ks).data ρ2) (hn : ρ2[n]? = some (.op (DcP X.prog X.w X.K kvs))) (hnew : NestedKey.tup ks ∉ kvs.map (·.1)) (hd : (NestedKey.tup ks).depth ≤ 8) (hz : kvs.length < sizeLine)
    (hK : X.K = F.K := by first | rfl | assumption) (hN : X.N[n]? = some v0 := by rfl) (hv : Vis X.env.scope v0 := by first | exact Or.inl rfl | exact Or.inr (Or.inl rfl) | exact Or.inr (Or.inr rfl)) (hvd : (v0 == ("__debug__" : Str)) = false := by decide) (hvc : (v0 == ("__classdict__" : Str)) = false := by decide)
    (hs : swapsWith e (some (.Subscript (.Name v0 p2) b pos')) pos.line X.env = pure false := by rfl) :
    ExS X F (.Assign [.Subscript (.Name v0 p2) b pos'] e pos) ρ (.nx (ρ2.set n (.op (DcP X.prog X.w X.K (kvs ++ [(.tup ks, d)]))))) := fun G σ H D W sr tk k => by
  refine ⟨fun pins s I => ?_⟩
  refine wpAny_Assign_Subscript (thn ((hv0 G σ H (fun v H1 => ∃ G1, SR F ρ1 G1 σ H1 ∧ Same G G1 ∧ Rp F.K G1 d v) sr fun v G1 H1 s1 g1 r1 => ⟨G1, s1, g1, r1⟩).run pins s I) fun r s1 ⟨v, H1, I1, rv, G1, q1, g1, r1⟩ => ?_) hs
  obtain ⟨ad, u0, w1, _⟩ := q1.sl.op n _ h0
  refine thn ((pe_var (pos := p2) hN hv hvd hvc).run pins s1 σ H1 (fun x H2 => x = .ref ad ∧ H2 = H1) I1 ⟨_, w1, rfl, rfl⟩) fun u s2 ⟨x, H2, I2, rx, ex, eH⟩ => ?_
  subst ex eH
  obtain rfl : u = Value.ref ad := rx
  refine thn ((hk G1 σ H2 (fun y H3 => ∃ G2, SR F ρ2 G2 σ H3 ∧ Same G1 G2 ∧ Rp F.K G2 (NestedKey.tup ks).data y) q1 fun v G2 H3 s1 g1 r1 => ⟨G2, s1, g1, r1⟩).run pins s2 I2) fun iv s3 ⟨y, H3, I3, ry, G2, q2, g2, r2⟩ => ?_
  obtain ⟨ad', uo, z1, z2, z3, z4⟩ := q2.sl.op n _ hn
  rw [w1] at z1; cases z1
  obtain ⟨p1, p2, p3, p4, xs, vs, rfl, p6, p7, p8, p9⟩ := z4
  obtain ⟨c, ys, rfl, _⟩ : ∃ c ys, y = .ref c ∧ SqT F.K G2 c ys := by
    have r2' := r2
    simp only [NestedKey.data, Rp] at r2'
    obtain ⟨c, ys, e, h, _⟩ := r2'
    exact ⟨c, ys, e, h⟩
  obtain rfl : iv = Value.ref c := ry
  have dd := dc_at I3 q2.gh z3 p4 p3 p6 p7
  have lx : xs.length = kvs.length := by have := congrArg List.length p6; simpa using this
  have r2K : Rp X.K G2 (NestedKey.tup ks).data (.ref c) := by rw [hK]; exact r2
  have nokey : atKey xs (NestedKey.tup ks) = none := by
    have := atKey_some (xs := xs) (k := NestedKey.tup ks)
    rw [p6, decide_eq_false hnew] at this
    cases e : atKey xs (NestedKey.tup ks) with
    | none => rfl
    | some z => rw [e] at this; cases this
  refine wpAny_setItem_heap (knd := nk X.prog X.w) (hsz := by rw [lx]; exact p2) (show X.A.in1.units + 8 < cLine by show X.A.units + 1 + 8 < cLine; omega) ⟨rp_nested I3 q2.gh _ _ _ r2K rfl, hd⟩ dd fun h' dd' hsb => ?_
  rw [storedH_new nokey] at dd'
  obtain ⟨o, es, ep, g1', g2', g3', g4', _, _⟩ := dd'
  rw [dcEs_of g4'] at g3'
  have I4 : Inv X pins σ (upd H3 ad (DcO X.prog X.w ad (xs ++ [(.tup ks, c, r)]))) { s3 with heap := h', toks := s3.toks + (nk X.prog X.w).draws (.tup ks) } := I3.write (x := ad) (e := ad) (by rw [z3]; exact trivial) (.inl rfl) (fun b q hb z => (hsb.2 b hb).trans z) ⟨_, g1'⟩ (dcO_ok g1' g2' g3')
  refine ⟨σ, _, I4, k G2 σ _ (q2.chOp hn w1 (P' := DcP X.prog X.w X.K (kvs ++ [(.tup ks, d)])) ?_) (g1.trans g2)⟩
  refine ⟨p1, by simp; omega, ?_, ?_, xs ++ [(.tup ks, c, r)], vs ++ [v], rfl, by simp [p6], ?_, ?_, ?_⟩
  · rw [List.map_append, List.nodup_append]
    exact ⟨p3, by simp, fun a ha b hb => by simp at hb; subst hb; exact fun z => hnew (z ▸ ha)⟩
  · intro q hq
    rcases List.mem_append.mp hq with h | h
    · exact p4 q h
    · simp at h; subst h; exact hd
  · intro x hx
    rcases List.mem_append.mp hx with h | h
    · exact p7 x h
    · simp at h; subst h; exact r2K
  · rw [List.map_append]
    exact p8.append (.cons rv .nil)
  · rw [List.map_append, List.map_cons, List.map_nil]
    exact p9.append (Rps.cons (by rw [hK]; exact Rp.mono g2 _ _ r1) Rps.nil)
/-- {k: v} -/
theorem ev_dict1 (hu : X.A.units + 10 < cLine) (h1 : ∀ F' : FC, F'.K = F.K → EvD X F' e1 ρ (NestedKey.tup ks).data ρ1) (h2 : ∀ F' : FC, F'.K = F.K → EvD X F' e2 ρ1 d ρ2) (hd : (NestedKey.tup ks).depth ≤ 8) (hK : X.K = F.K := by first | rfl | assumption)
    (hshape : (evalEachOpt [some e1] X.env).zip ((evalEach [e2] X.env).map fun v => do let x ← v; standAt pos; pure x) = [(eval e1 X.env, (do let x ← eval e2 X.env; standAt pos; pure x))].map fun p => (some p.1, p.2) := by rfl) :
    EvS X F (.Dict [some e1] [e2] pos) ρ (.op (DcP X.prog X.w X.K [(.tup ks, d)])) ρ2 := fun G σ H Q sr k => by
  refine ⟨fun pins s I => ?_⟩
  rw [arm_eval_Dict, hshape, dictDisplay_pairs [(eval e1 X.env, (do let x ← eval e2 X.env; standAt pos; pure x))] (by simp) (by simp)]
  refine wpAny_bind (wpAny_standAt (wpAny_bind ?_))
  have hp : H s.heap.objs.size = none := I.hok.fresh (Nat.le_refl _)
  generalize ep : s.heap.objs.size = q at hp
  have big := I.big
  have hq : (q == sysModules) = false := beq_eq_false_iff_ne.mpr (by rw [← ep]; exact Nat.ne_of_gt big)
  refine wpAny_subDictH (knd := nk X.prog X.w) (show X.A.units + 8 < cLine by omega) (by simp) ?_
  rw [ep]
  have I1 : Inv X pins σ (upd H q (DcO X.prog X.w q [])) { s with heap := s.heap.push { cls := .type "dict", data := .dict #[] } } := by
    subst ep
    exact I.laid (t' := s.toks) (fun _ _ z => Heap.get?_push_of_some _ z) (Nat.le_refl _) (dcO_ok (ep := 0) (Heap.get?_push_size _ rfl) ⟨rfl, rfl, rfl⟩ rfl)
  have hG : G q = none := none_of_same sr.gh hp
  have hG0 : F.G0 q = none := none_of_same sr.g0 hG
  have h0 : F.H0 q = none := sr.hd q hp
  have hnt : ∀ ps, DcO X.prog X.w q [] ≠ .tbl ps := fun ps z => by unfold DcO at z; cases z
  have s1 := (sr.layN (o := DcO X.prog X.w q []) hp).hold (upd_same) hnt hG (sr.sl.away hp)
  refine evalPairs_cons (thn ((h1 (F.hold q (DcO X.prog X.w q [])) rfl G σ _ (fun v H1 => ∃ G1, SR (F.hold q (DcO X.prog X.w q [])) ρ1 G1 σ H1 ∧ Same G G1 ∧ Rp F.K G1 (NestedKey.tup ks).data v) s1 fun v G1 H1 s1 g1 r1 => ⟨G1, s1, g1, r1⟩).run pins _ I1) fun kv s2 ⟨y, H1, I2, ry, G1, q1, g1, r1⟩ => ?_)
  refine wpAny_bind (thn ((h2 (F.hold q (DcO X.prog X.w q [])) rfl G1 σ _ (fun v H1 => ∃ G2, SR (F.hold q (DcO X.prog X.w q [])) ρ2 G2 σ H1 ∧ Same G1 G2 ∧ Rp F.K G2 d v) q1 fun v G1 H1 s1 g1 r1 => ⟨G1, s1, g1, r1⟩).run pins _ I2) fun vv s3 ⟨v, H2, I3, rv, G2, q2, g2, r2⟩ => wpAny_bind (wpAny_standAt (wpAny_pure (evalPairs_nil ?_))))
  obtain ⟨z1, z2, z3⟩ := q2.held hG0
  have q3 := q2.unhold (sr.bn h0) h0
  have r1' := Rp.mono g2 _ _ r1
  obtain ⟨c, ys, rfl, _⟩ : ∃ c ys, y = .ref c ∧ SqT F.K G2 c ys := by
    simp only [NestedKey.data, Rp] at r1'
    obtain ⟨c, ys, e, h, _⟩ := r1'
    exact ⟨c, ys, e, h⟩
  obtain rfl : kv = Value.ref c := ry
  have r1K : Rp X.K G2 (NestedKey.tup ks).data (.ref c) := by rw [hK]; exact r1'
  have dd := dc_at (kvs := []) I3 q2.gh z1 (fun _ h => by cases h) (by simp) rfl (fun _ h => by cases h)
  refine ⟨[(.tup ks, c, vv)], ⟨rfl, rfl, ⟨rp_nested I3 q2.gh _ _ _ r1K rfl, hd⟩, trivial⟩, dd, fun h' tk' dd' hsb => wpAny_pure ?_⟩
  have dd' : h'.DictOfH (nk X.prog X.w) q [(.tup ks, c, vv)] := dd'
  obtain ⟨o, es, ep', g1', g2', g3', g4', _, _⟩ := dd'
  rw [dcEs_of g4'] at g3'
  have I4 : Inv X pins σ (upd H2 q (DcO X.prog X.w q [(.tup ks, c, vv)])) { s3 with heap := h', toks := tk' } := I3.write (x := q) (e := q) (by rw [z1]; exact trivial) (.inl rfl) (fun b w hb z => (hsb.2 b hb).trans z) ⟨_, g1'⟩ (dcO_ok g1' g2' g3')
  have q4 : SR F ρ2 G2 σ (upd H2 q (DcO X.prog X.w q [(.tup ks, c, vv)])) := q3.turnN z1 hnt (fun c q => dcO_code) (sr.bn h0) z2 z3
  refine ⟨.ref q, _, I4, rfl, k _ G2 _ q4 (g1.trans g2) ⟨q, _, rfl, h0, z2, upd_same, ?_, z3⟩⟩
  refine ⟨hq, by simp [sizeLine_eq], by simp, fun w hw => by simp at hw; subst hw; exact hd, [(.tup ks, c, vv)], [v], rfl, rfl, fun x hx => by simp at hx; subst hx; exact r1K, .cons rv .nil, Rps.cons (by rw [hK]; exact r2) Rps.nil⟩
end
end DL
end
section
set_option maxHeartbeats 4000000
namespace DL
open PySem PySem.Spec PyProof.Rows L2
/-- a rank's order -/
def ltR {α : Type} (r : α → Int) (x y : α) : Bool := decide (r x < r y)
theorem ltR_swo {α : Type} (r : α → Int) : SrtO.Swo (ltR r) := by
  refine ⟨fun x y h => ?_, fun x y z h1 h2 => ?_⟩
  · have h := of_decide_eq_true h
    exact decide_eq_false (by omega)
  · have h1 := of_decide_eq_false h1
    have h2 := of_decide_eq_false h2
    exact decide_eq_false (by omega)
abbrev tupR (B : Int) (h : Heap) (v : Value) : Int := TS.code B (TS.intsOf h v)
section
variable {prog : Program} {w : World} {A : Around} {E : Value → Shared → Prop} {s : Shared}
theorem tups_sortableO {a : Addr} {vs : List Value} {d : Nat} {B : Int} (hd : 1 ≤ d) (h2 : 2 ≤ vs.length) (x : TS.TupsOk s.heap d B vs) (ha : ∀ o, s.heap.get? a = some o → o.cls ≠ .type "tuple") : SrtO.SortableO prog w A s a vs (ltR (tupR B s.heap)) := by
  intro h' keep
  have kt : ∀ b o, s.heap.get? b = some o → o.cls = .type "tuple" → h'.get? b = some o := fun b o e c => keep b o (fun z => by subst z; exact ha o e c) e
  have x' := x.keeps kt
  obtain ⟨fs, k, hl, hi⟩ := TS.firsts_of hd vs x'
  refine ⟨tuples' true, fun Q E hq => ?_, fun p q hp hq => ?_⟩
  · refine PySem.W.kat_kind (T := .type "int") k (by omega) (fun f hf => ?_) rfl hq
    obtain ⟨n, t, rfl⟩ := hi f hf
    exact PySem.W.Looks.of_pure rfl
  · obtain ⟨ns, tp, lp, bp⟩ := x _ hp
    obtain ⟨ms, tq, lq, bq⟩ := x _ hq
    have ip := tp.ints
    have iq := tq.ints
    show wpAny (model prog w) A (keyLt' (tuples' true) p.1 q.1) (fun r s' => s' = { s with heap := h' } ∧ r = ltR (tupR B s.heap) p.1 q.1) (fun _ _ => False) { s with heap := h' }
    unfold ltR tupR
    rw [ip, iq]
    obtain ⟨a1, xs, e1, ⟨o, ho, hc, n, hdt⟩, i⟩ := tp.keeps kt
    obtain ⟨a2, ys, e2, ⟨o', ho', hc', n', hdt'⟩, i'⟩ := tq.keeps kt
    rw [e1, e2]
    refine PySem.W.kat_lt (s := { s with heap := h' }) ho hdt ho' hdt' ?_
    have sz : decide (xs.size < ys.size) = false := by
      have l1 := i.length
      have l2 := i'.length
      rw [Array.length_toList] at l1 l2
      exact decide_eq_false (by omega)
    rw [sz]
    exact TS.lex_ints (s := { s with heap := h' }) 0 i i' (by omega) bp bq ⟨rfl, rfl⟩
end
def tI (ns : List Int) : PyData := .tuple (ns.map PyData.int)
/-- what sorting leaves -/
structure SrtD (B : Int) (nss ms : List (List Int)) : Prop where
  perm : ms.Perm nss
  ord : ms.Pairwise fun x y => TS.code B x ≤ TS.code B y
structure TupsD (d : Nat) (B : Int) (nss : List (List Int)) : Prop where
  d1 : 1 ≤ d
  len : ∀ ns ∈ nss, ns.length = d
  bd : ∀ ns ∈ nss, TS.Bd B ns
section
variable {X : Cx} {pins : List (Addr × Obj)} {σ : L2.St} {G H : Hp} {s : Shared}
theorem tupInts_of (I : Inv X pins σ H s) (gh : Same G H) {ns : List Int} {v : V} {u : Value} (h : Rp X.K G (tI ns) v) (r : RelV v u) : TS.TupInts s.heap u ns := by
  unfold tI at h
  simp only [Rp] at h
  obtain ⟨a, xs, rfl, h2, h3⟩ := h
  obtain rfl : u = .ref a := r
  obtain ⟨its, rv, ht, _⟩ := I.tuple (same_seqT gh h2)
  refine ⟨a, _, rfl, ht, ?_⟩
  rw [rps_ints h3] at rv
  have : ∀ (ns : List Int) (us : List Value), Vals (ns.map V.int) us → IntsAre us ns := by
    intro ns
    induction ns with
    | nil => intro us h; cases h; exact .nil
    | cons n ns ih =>
      intro us h
      cases h with
      | cons r1 r2 =>
        obtain ⟨t, rfl⟩ := r1
        exact .cons n t (ih _ r2)
  simpa using this ns its rv
/-- values, what they read as -/
theorem tupsOk_of (I : Inv X pins σ H s) (gh : Same G H) {d : Nat} {B : Int} : ∀ {nss : List (List Int)} {xs : List V} {us : List Value}, Rps X.K G (nss.map tI) xs → Vals xs us → (∀ ns ∈ nss, ns.length = d) → (∀ ns ∈ nss, TS.Bd B ns) → TS.TupsOk s.heap d B us ∧ us.map (TS.intsOf s.heap) = nss ∧ ∀ u ∈ us, ∃ b, u = .ref b ∧ Rp X.K G (tI (TS.intsOf s.heap u)) (.ref b)
  | [], xs, us, h, r, _, _ => by
    simp only [List.map_nil, Rps] at h; subst h
    cases r
    exact ⟨fun v hv => (by cases hv), rfl, fun u hu => (by cases hu)⟩
  | ns :: nss, xs, us, h, r, hl, hb => by
    simp only [List.map_cons, Rps] at h
    obtain ⟨v, vs, rfl, h2, h3⟩ := h
    cases r with
    | @cons _ u _ us r1 r2 =>
      obtain ⟨i1, i2, i3⟩ := tupsOk_of I gh h3 r2 (fun n hn => hl n (List.mem_cons_of_mem _ hn)) (fun n hn => hb n (List.mem_cons_of_mem _ hn))
      have t := tupInts_of I gh h2 r1
      have e := t.ints
      refine ⟨fun z hz => ?_, by rw [List.map_cons, e, i2], fun z hz => ?_⟩
      · rcases List.mem_cons.mp hz with rfl | hz
        · exact ⟨ns, t, hl ns (by simp), hb ns (by simp)⟩
        · exact i1 z hz
      · rcases List.mem_cons.mp hz with rfl | hz
        · rw [e]
          obtain ⟨b, ys, rfl, _⟩ : ∃ b ys, v = .ref b ∧ SqT X.K G b ys := by
            have h2' := h2
            unfold tI at h2'
            simp only [Rp] at h2'
            obtain ⟨c, ys, e, h, _⟩ := h2'
            exact ⟨c, ys, e, h⟩
          exact ⟨b, r1, h2⟩
        · exact i3 z hz
/-- what comes out -/
theorem out_data {h : Heap} {K : PySem.W.Frag} {B : Int} {vs out : List Value} {nss : List (List Int)} (e : vs.map (TS.intsOf h) = nss) (hr : ∀ u ∈ vs, ∃ b, u = .ref b ∧ Rp K G (tI (TS.intsOf h u)) (.ref b)) (hs : SrtO.Srtd (ltR (tupR B h)) out) (hb : SrtO.Stb (ltR (tupR B h)) out vs) :
    SrtD B nss (out.map (TS.intsOf h)) ∧ ∃ ys : List V, Vals ys out ∧ Rps K G ((out.map (TS.intsOf h)).map tI) ys := by
  refine ⟨⟨by rw [← e]; exact hb.perm.map _, ?_⟩, ?_⟩
  · rw [List.pairwise_map]
    refine List.Pairwise.imp (fun {x y} q => ?_) hs
    exact Int.not_lt.mp (of_decide_eq_false q)
  · have hm : ∀ u ∈ out, ∃ b, u = .ref b ∧ Rp K G (tI (TS.intsOf h u)) (.ref b) := fun u hu => hr u (hb.perm.mem_iff.mp hu)
    clear hs hb
    induction out with
    | nil => exact ⟨[], .nil, Rps.nil⟩
    | cons u out ih =>
      obtain ⟨ys, r1, r2⟩ := ih fun z hz => hm z (List.mem_cons_of_mem _ hz)
      obtain ⟨b, rfl, h3⟩ := hm u (by simp)
      exact ⟨.ref b :: ys, .cons rfl r1, Rps.cons h3 r2⟩
/-- sorted(xs) of a list -/
def rSortT (X : Cx) : List V → Hp → VK → Prop := fun vs H Q => ∃ (a : Addr) (xs : List V) (nss : List (List Int)) (d : Nat) (B : Int) (G : Hp), vs = [.ref a] ∧ SqL X.K H a xs ∧ Same G H ∧ Rps X.K G (nss.map tI) xs ∧ TupsD d B nss ∧ ∀ p ms ys, H p = none → SrtD B nss ms → Rps X.K G (ms.map tI) ys → Q (.ref p) (upd H p (.lst ys))
theorem call_sortT : CallR X (.builtin "sorted") (rSortT X) := by
  intro pins s σ H vs us Q I r h
  obtain ⟨a, xs, nss, d, B, G, rfl, hs, gh, hr, td, q⟩ := h
  obtain ⟨its, rv, hl, hz⟩ := I.list hs
  obtain ⟨u, rfl, ru⟩ := vals1 r
  obtain rfl : u = Value.ref a := ru
  have lz : its.length ≤ sizeLine := by rw [← rv.length]; exact hz
  obtain ⟨tk, te, tr⟩ := tupsOk_of I gh hr rv td.len td.bd
  refine SrtO.sorted_ord (ltR_swo (tupR B s.heap)) hl.isList lz (fun h2 h₁ b hb kk => ?_) fun out hso hst => ?_
  · have e1 : ∀ v ∈ its, TS.intsOf h₁ v = TS.intsOf s.heap v := fun v hv => by
      obtain ⟨ns, t, _⟩ := tk v hv
      rw [t.ints, (t.keeps fun b o e _ => (kk b o e).2).ints]
    have so := tups_sortableO (prog := X.prog) (w := X.w) (A := X.A.in1.in1) (s := { s with heap := h₁ }) (a := b) td.d1 h2 (tk.keeps fun b o e _ => (kk b o e).2) fun o e => by
      have e' : some o = some (seqObj "list" its.toArray 0) := e.symm.trans hb
      cases e'
      intro c
      exact absurd (Value.type.inj c) (by decide)
    intro h' keep
    obtain ⟨κ, k1, k2⟩ := so h' keep
    refine ⟨κ, k1, fun p q hp hq => ?_⟩
    have := k2 p q hp hq
    have e2 : ltR (tupR B h₁) p.1 q.1 = ltR (tupR B s.heap) p.1 q.1 := by
      unfold ltR tupR
      rw [e1 _ hp, e1 _ hq]
    refine wpAny_mono this (fun r s' z => ⟨z.1, z.2.trans ?_⟩) fun _ _ z => z
    exact e2
  · obtain ⟨sd, ys, v1, v2⟩ := out_data te tr hso hst
    obtain ⟨e, he⟩ := sortedAll_at s.heap its out.toArray
    have hlen : ys.length ≤ sizeLine := by
      have l1 := v1.length
      have l2 := hst.perm.length_eq
      omega
    refine ⟨.ref (s.heap.objs.size + 1), _, I.laid (t' := s.toks) (fun b o z => sortedAll_old z) (Nat.le_succ _) (show ObjOk X.prog X.w _ _ _ (.lst ys) from ⟨hlen, out, e, v1, he⟩), rfl, q _ _ ys (I.hok.fresh (Nat.le_succ _)) sd v2⟩
end
end DL
end
section
set_option maxHeartbeats 4000000
namespace DL
open PySem PySem.Spec PyProof.Rows L2
section
variable {prog : Program} {w : World} {A : Around} {E : Value → Shared → Prop} {s : Shared}
/-- sorted(x), x what can be collected -/
theorem sorted_col {x : Value} {vs : List Value} {ltv : Value → Value → Bool} {Q : Value → Shared → Prop} (O : SrtO.Swo ltv) (hz : vs.length ≤ sizeLine)
    (col : ∀ {R : List Value → Shared → Prop} {E : Value → Shared → Prop}, (∀ h' tk, (∀ b o, s.heap.get? b = some o → h'.get? b = some o) → R vs { s with heap := h', toks := tk }) → wpAny (model prog w) A.in1 (collect x) R E s)
    (hS : 2 ≤ vs.length → ∀ (h₁ : Heap) (tk : Nat) (a : Addr), h₁.get? a = some (seqObj "list" vs.toArray 0) → (∀ b o, s.heap.get? b = some o → b ≠ a ∧ h₁.get? b = some o) → SrtO.SortableO prog w A.in1.in1 { s with heap := h₁, toks := tk } a vs ltv)
    (h : ∀ (h₁ h' : Heap) (tk : Nat) (out : List Value), SrtO.Srtd ltv out → SrtO.Stb ltv out vs → (∀ b o, s.heap.get? b = some o → h₁.get? b = some o) → (∀ b o, h₁.get? b = some o → h'.get? b = some o) → (∃ n, h'.get? h₁.objs.size = some (seqObj "list" out.toArray n)) → Q (.ref h₁.objs.size) { s with heap := h', toks := tk }) :
    wpAny (model prog w) A (call (.builtin "sorted") [x]) Q E s := by
  refine Calls.call_function_entry kind_sorted plain_sorted entry_sorted (args_sorted1 _) ?_
  unfold Builtin.«sorted»
  refine wpAny_bind (m := checkCount "sorted" 1 1 _) (wpAny_pure ?_)
  refine wpAny_bind (col fun h' tk kp => ?_)
  refine wpAny_bind (wpAny_newList ?_ hz)
  have hoL : (h'.push (seqObj "list" vs.toArray 0)).get? h'.objs.size = some (seqObj "list" vs.toArray 0) := Heap.get?_push_size _ rfl
  have keep : ∀ b o, h'.get? b = some o → b ≠ h'.objs.size ∧ (h'.push (seqObj "list" vs.toArray 0)).get? b = some o := fun b o q => ⟨Nat.ne_of_lt (Heap.lt_size q), Heap.get?_push_of_some _ q⟩
  show wpAny _ _ _ _ _ { s with heap := h'.push (seqObj "list" vs.toArray 0), toks := tk }
  refine wpAny_bind (wpAny_holding (wpAny_call_entry slot_list_sort ⟨_, hoL, rfl⟩ entry_list_sort (SrtO.list_sort_ord (s := { s with heap := h'.push (seqObj "list" vs.toArray 0), toks := tk }) O hoL hz (fun h2 => hS h2 _ _ _ hoL fun b o q => keep b o (kp b o q)) fun out hs hb => ⟨_, rfl, ?_⟩) (args_list_sort _)))
  refine wpAny_pure ⟨_, rfl, h h' _ _ out hs hb kp (fun b o q => ?_) (sortedHeap_at hoL)⟩
  have k2 := keep b o q
  rw [sortedHeap_old k2.1 (Heap.lt_size k2.2)]
  exact k2.2
/-- a tuple's items -/
theorem col_seq {T : String} {it : Addr} {o : Obj} {vs : List Value} {n : Nat} (hT : T = "list" ∨ T = "tuple") (ho : s.heap.get? it = some o) (hc : o.cls = .type T) (hd : o.data = .seq vs.toArray n) (hz : vs.length ≤ sizeLine) {R : List Value → Shared → Prop}
    (h : ∀ h' tk, (∀ b o, s.heap.get? b = some o → h'.get? b = some o) → R vs { s with heap := h', toks := tk }) : wpAny (model prog w) A (collect (.ref it)) R E s :=
  wpAny_collect_seq it hT ho hc hd (fun h' k => by have := h h' s.toks k; simpa using this) (by simpa using hz)
end
section
variable {X : Cx}
/-- sorted(t), a tuple of ints -/
def rSortIT (X : Cx) : List V → Hp → VK → Prop := fun vs H Q => ∃ (a : Addr) (ns : List Int), vs = [.ref a] ∧ SqT X.K H a (ns.map V.int) ∧ ∀ (ms : List Int) (p : Addr), ms.Perm ns → ms.Pairwise (· ≤ ·) → H p = none → Q (.ref p) (upd H p (.lst (ms.map V.int)))
theorem call_sortIT : CallR X (.builtin "sorted") (rSortIT X) := by
  intro pins s σ H vs us Q I r h
  obtain ⟨a, ns, rfl, hs, q⟩ := h
  obtain ⟨its, rv, ⟨o, ho, hc, n, hd⟩, hz⟩ := I.tuple hs
  obtain ⟨u, rfl, ru⟩ := vals1 r
  obtain rfl : u = Value.ref a := ru
  have lz : its.length ≤ sizeLine := by rw [← rv.length]; exact hz
  have hi := rv.ints
  refine sorted_col SrtO.swo_int lz (fun {R E} h => col_seq (.inr rfl) ho hc hd lz h) (fun h2 h₁ tk b hb kk => SrtO.ints_sortable hi h2) fun h₁ h' tk out hso hst k1 k2 hn => ?_
  obtain ⟨o1, o2, o3⟩ := SrtO.ints_out hi hso hst
  obtain ⟨n, hn⟩ := hn
  have I1 : Inv X pins σ H { s with heap := h₁, toks := tk } := I.kept k1
  have hlen : ((out.map SrtO.iv).map V.int).length ≤ sizeLine := by
    rw [List.length_map, List.length_map, hst.perm.length_eq]
    exact lz
  have vo : ∀ {us : List Value} {ns : List Int}, IntsAre us ns → Vals (ns.map V.int) us := by
    intro us ns h
    induction h with
    | nil => exact .nil
    | cons n t h ih => exact .cons ⟨t, rfl⟩ ih
  exact ⟨.ref h₁.objs.size, _, I1.laid (t' := tk) k2 (Nat.le_refl _) (show ObjOk X.prog X.w _ _ _ (.lst _) from ⟨hlen, out, n, vo o1, hn⟩), rfl, q _ _ o2 o3 (I1.hok.fresh (Nat.le_refl _))⟩
/-- sorted(d), keys tuples of ints -/
def keyI (ns : List Int) : NestedKey := .tup (ns.map NestedKey.num)
theorem datas_num : ∀ ns : List Int, NestedKey.datas (ns.map NestedKey.num) = ns.map PyData.int
  | [] => rfl
  | n :: ns => by rw [List.map_cons, NestedKey.datas, datas_num ns]; rfl
theorem keyI_data (ns : List Int) : (keyI ns).data = tI ns := by
  unfold keyI tI NestedKey.data
  rw [datas_num]
theorem depth_num : ∀ ns : List Int, NestedKey.depthAll (ns.map NestedKey.num) = 0
  | [] => rfl
  | n :: ns => by rw [List.map_cons, NestedKey.depthAll, depth_num ns]; rfl
theorem keyI_depth (ns : List Int) : (keyI ns).depth ≤ 8 := by
  unfold keyI NestedKey.depth
  rw [depth_num]; decide
theorem keyI_inj {a b : List Int} (h : keyI a = keyI b) : a = b := by
  unfold keyI at h
  have h := NestedKey.tup.inj h
  have := congrArg NestedKey.datas h
  rw [datas_num, datas_num] at this
  exact (List.map_inj_right (fun x y e => PyData.int.inj e)).mp this
def rSortDT (X : Cx) : List V → Hp → VK → Prop := fun vs H Q => ∃ (a : Addr) (u : HO) (kvs : List (NestedKey × PyData)) (nss : List (List Int)) (d : Nat) (B : Int) (G : Hp), vs = [.ref a] ∧ H a = some u ∧ (DcP X.prog X.w X.K kvs).p G a u ∧ Same G H ∧ kvs.map (·.1) = nss.map keyI ∧ TupsD d B nss ∧
  ∀ p ms ys, H p = none → SrtD B nss ms → Rps X.K G (ms.map tI) ys → Q (.ref p) (upd H p (.lst ys))
theorem call_sortDT (hc : X.calm = true) : CallR X (.builtin "sorted") (rSortDT X) := by
  intro pins s σ H vs us Q I r h
  obtain ⟨a, u, kvs, nss, d, B, G, rfl, ha, hp, gh, hk, td, q⟩ := h
  obtain ⟨v, rfl, ru⟩ := vals1 r
  obtain rfl : v = Value.ref a := ru
  obtain ⟨p1, p2, p3, p4, xs, vs, rfl, p6, p7, p8, p9⟩ := hp
  obtain ⟨⟨o, ep, h1, h2, h3⟩, _, _⟩ := I.hok a _ ha
  have lx : xs.length = kvs.length := by have := congrArg List.length p6; simpa using this
  let its : List Value := xs.map fun x => Value.ref x.2.1
  have lz : its.length ≤ sizeLine := by simp only [its, List.length_map]; omega
  have hr : Rps X.K G (nss.map tI) (xs.map fun x => V.ref x.2.1) := by
    have gen : ∀ (xs : List Ent) (nss : List (List Int)), (∀ x ∈ xs, Rp X.K G x.1.data (.ref x.2.1)) → xs.map (·.1) = nss.map keyI → Rps X.K G (nss.map tI) (xs.map fun x => V.ref x.2.1) := by
      intro xs
      induction xs with
      | nil =>
        intro nss _ e
        cases nss with
        | nil => exact Rps.nil
        | cons n nss => cases e
      | cons x xs ih =>
        intro nss h e
        cases nss with
        | nil => cases e
        | cons n nss =>
          simp only [List.map_cons, List.cons.injEq] at e
          refine Rps.cons ?_ (ih nss (fun y hy => h y (List.mem_cons_of_mem _ hy)) e.2)
          have := h x (by simp)
          rwa [e.1, keyI_data] at this
    exact gen xs nss p7 (p6.trans hk)
  have rv : Vals (xs.map fun x => V.ref x.2.1) its := by
    have : ∀ xs : List Ent, Vals (xs.map fun x => V.ref x.2.1) (xs.map fun x => Value.ref x.2.1) := by
      intro xs
      induction xs with
      | nil => exact .nil
      | cons x xs ih => exact .cons rfl ih
    exact this xs
  obtain ⟨tk0, te, tr⟩ := tupsOk_of I gh hr rv td.len td.bd
  have hraw : s.heap.DictRaw a (dcEs X.prog X.w xs) ep := ⟨o, h1, h2, h3⟩
  have hsz : (dcEs X.prog X.w xs).size = xs.length := by unfold dcEs; simp
  refine sorted_col (ltR_swo (tupR B s.heap)) lz (fun {R E} h => ?_) (fun h2 h₁ tk b hb kk => ?_) fun h₁ h' tk out hso hst k1 k2 hn => ?_
  · refine PySem.W.kdu_collect (A := X.A.in1) (PySem.KdlSrc.rawDict p1) (I.ok.hd hc) hraw (by rw [hsz]; omega) fun h' tk acc kp it => ?_
    have ea : acc.toList = its := by
      have hl : acc.toList.length = its.length := by rw [Array.length_toList, it.1, hsz]; simp [its]
      apply List.ext_getElem?
      intro j
      by_cases hj : j < acc.toList.length
      · have e1 : acc.toList[j]? = some (acc.toList[j]) := List.getElem?_eq_getElem hj
        obtain ⟨hi, ev⟩ := it.2 j _ (by rw [← Array.getElem?_toList]; exact e1)
        have hj' : j < xs.length := by rw [← hsz]; exact hi
        rw [e1, ev]
        simp only [its, List.getElem?_map, List.getElem?_eq_getElem hj', Option.map_some, dcEs, List.getElem_toArray, List.getElem_map, entryOfKey]
      · rw [List.getElem?_eq_none (by omega), List.getElem?_eq_none (by omega)]
    rw [ea]
    exact h h' tk kp
  · have e1 : ∀ v ∈ its, TS.intsOf h₁ v = TS.intsOf s.heap v := fun v hv => by
      obtain ⟨ns, t, _⟩ := tk0 v hv
      rw [t.ints, (t.keeps fun b o e _ => (kk b o e).2).ints]
    have so := tups_sortableO (prog := X.prog) (w := X.w) (A := X.A.in1.in1) (s := { s with heap := h₁, toks := tk }) (a := b) td.d1 h2 (tk0.keeps fun b o e _ => (kk b o e).2) fun o e => by
      have e' : some o = some (seqObj "list" its.toArray 0) := e.symm.trans hb
      cases e'
      intro c
      exact absurd (Value.type.inj c) (by decide)
    intro h' keep
    obtain ⟨κ, k1, k2⟩ := so h' keep
    refine ⟨κ, k1, fun p q hp hq => ?_⟩
    have e2 : ltR (tupR B h₁) p.1 q.1 = ltR (tupR B s.heap) p.1 q.1 := by
      unfold ltR tupR
      rw [e1 _ hp, e1 _ hq]
    exact wpAny_mono (k2 p q hp hq) (fun r s' z => ⟨z.1, z.2.trans e2⟩) fun _ _ z => z
  · obtain ⟨sd, ys, v1, v2⟩ := out_data te tr hso hst
    obtain ⟨n, hn⟩ := hn
    have I1 : Inv X pins σ H { s with heap := h₁, toks := tk } := I.kept k1
    have hlen : ys.length ≤ sizeLine := by
      have l1 := v1.length
      have l2 := hst.perm.length_eq
      omega
    exact ⟨.ref h₁.objs.size, _, I1.laid (t' := tk) k2 (Nat.le_refl _) (show ObjOk X.prog X.w _ _ _ (.lst ys) from ⟨hlen, out, n, v1, hn⟩), rfl, q _ _ ys (I1.hok.fresh (Nat.le_refl _)) sd v2⟩
end
end DL
end
section
set_option maxHeartbeats 4000000
namespace DL
open PySem PySem.Spec PyProof.Rows L2
theorem rg_rng (K : PySem.W.Frag) (G : Hp) (m : Nat) : Rps K G (rng 0 m) (rgV 0 (m : Int)) := by
  have e : rgV 0 (m : Int) = (List.range m).map fun i => V.int (0 + (i : Nat)) := by
    unfold rgV
    rw [show ((m : Int) - 0).toNat = m by omega]
  rw [e]
  unfold rng
  generalize List.range m = l
  induction l with
  | nil => exact Rps.nil
  | cons i l ih => exact Rps.cons (by simp [Rp]) ih
section
variable {X : Cx} {F : FC} {ρ ρ1 ρ2 ρ3 : List Sl} {a b c e : Expr} {pos p p2 q2 : Pos} {d : PyData} {ds : List PyData} {m : Nat}
/-- list(range(n)) -/
theorem evn_listRng (hm : X.mg "list" = none) (hm2 : X.mg "range" = none) (ha : EvD X F a ρ (.int (m : Nat)) ρ1) (hz : m ≤ 1000) (hc : X.calm = true := by rfl) (hg : Gl X "list" := by rfl) (hg2 : Gl X "range" := by rfl)
    (na : starEach [.Call (.Name "range" p2) [a] [] q2] X.env = (false, eval (.Call (.Name "range" p2) [a] [] q2) X.env) :: starEach [] X.env := by exact star_cons rfl) (na2 : starEach [a] X.env = (false, eval a X.env) :: starEach [] X.env := by exact star_cons rfl) :
    EvS X F (.Call (.Name "list" p) [.Call (.Name "range" p2) [a] [] q2] [] pos) ρ (.ow false (rng 0 m)) ρ1 := fun G σ H Q sr k =>
  toW (pe_listRg hc hg hm (prg_1 hg2 hm2 peW na2) na) (ha G σ H _ sr fun v G1 H1 s1 g1 r1 => by
    simp only [ResR, Rp] at r1; subst r1
    exact ⟨_, rfl, .of_le (Int.le_refl 0) (by omega) (by omega) (by omega), fun q hq => k _ G1 _ (s1.layN hq) g1 (newOw s1 hq (rg_rng _ _ m))⟩)
/-- tuple(range(n)) -/
theorem ev_tupRng (hm : X.mg "tuple" = none) (hm2 : X.mg "range" = none) (ha : EvD X F a ρ (.int (m : Nat)) ρ1) (hz : m ≤ 1000) (hc : X.calm = true := by rfl) (hg : Gl X "tuple" := by rfl) (hg2 : Gl X "range" := by rfl)
    (na : starEach [.Call (.Name "range" p2) [a] [] q2] X.env = (false, eval (.Call (.Name "range" p2) [a] [] q2) X.env) :: starEach [] X.env := by exact star_cons rfl) (na2 : starEach [a] X.env = (false, eval a X.env) :: starEach [] X.env := by exact star_cons rfl) :
    EvD X F (.Call (.Name "tuple" p) [.Call (.Name "range" p2) [a] [] q2] [] pos) ρ (.tuple (rng 0 m)) ρ1 := fun G σ H Q sr k =>
  toW (pe_tupRg hc hg hm (prg_1 hg2 hm2 peW na2) na) (ha G σ H _ sr fun v G1 H1 s1 g1 r1 => by
    simp only [ResR, Rp] at r1; subst r1
    refine ⟨_, rfl, .of_le (Int.le_refl 0) (by omega) (by omega) (by omega), fun q hq => ?_⟩
    have mo : Same G1 (upd G1 q (.tup (rgV 0 (m : Int)))) := same_upd (none_of_same s1.gh hq)
    refine k _ _ _ (s1.lay hq) (g1.trans mo) ?_
    show Rp _ _ (.tuple _) _
    simp only [Rp]
    exact ⟨q, _, rfl, SqT.of upd_same, Rps.mono mo _ _ (rg_rng _ _ m)⟩)
/-- sorted of ints -/
theorem evn_sortI {ns ms : List Int} (hm : X.mg "sorted" = none) (ha : EvD X F e ρ d ρ1) (hd : d = .list (ns.map PyData.int) ∨ d = .tuple (ns.map PyData.int)) (hp : ms.Perm ns) (ho : ms.Pairwise (· ≤ ·)) (hK : X.K = F.K := by first | rfl | assumption) (hgl : Gl X "sorted" := by rfl)
    (he : starEach [e] X.env = [(false, eval e X.env)] := by exact star_cons rfl) : EvS X F (.Call (.Name "sorted" p) [e] [] pos) ρ (.ow false (ms.map PyData.int)) ρ1 := by
  have uniq : ∀ ks : List Int, ks.Perm ns → ks.Pairwise (· ≤ ·) → ks = ms := fun ks k1 k2 => (k1.trans hp.symm).eq_of_pairwise (fun a b _ _ h1 h2 => Int.le_antisymm h1 h2) k2 ho
  rcases hd with rfl | rfl
  · exact ev_blt cr_sortedI hm (by decide +kernel) (eva_cons ha eva_nil trivial he) (fun G σ H vs Q s a q => by
      obtain ⟨v, rfl, r⟩ := argV1 a
      simp only [Rp] at r
      obtain ⟨ad, xs, rfl, r2, r3⟩ := r
      rw [rps_ints r3] at r2
      refine ⟨ad, ns, rfl, SqL.of (s.gh _ _ r2), fun ks l k1 k2 hl => ?_⟩
      rw [uniq ks k1 k2]
      exact q _ G _ (s.layN hl) (Same.refl _) (newOw s hl (rps_of_ints ms))) hgl (by decide) (by decide) he rfl
  · exact ev_blt call_sortIT hm (by decide +kernel) (eva_cons ha eva_nil trivial he) (fun G σ H vs Q s a q => by
      obtain ⟨v, rfl, r⟩ := argV1 a
      simp only [Rp] at r
      obtain ⟨ad, xs, rfl, r2, r3⟩ := r
      rw [rps_ints r3] at r2
      refine ⟨ad, ns, rfl, by rw [hK]; exact same_seqT s.gh r2, fun ks l k1 k2 hl => ?_⟩
      rw [uniq ks k1 k2]
      exact q _ G _ (s.layN hl) (Same.refl _) (newOw s hl (rps_of_ints ms))) hgl (by decide) (by decide) he rfl
end
end DL
end
section
set_option maxHeartbeats 4000000
namespace DL
open PySem PySem.Spec PyProof.Rows L2
theorem code_inj {B : Int} : ∀ {ns ms : List Int}, ns.length = ms.length → TS.Bd B ns → TS.Bd B ms → TS.code B ns = TS.code B ms → ns = ms
  | [], [], _, _, _, _ => rfl
  | [], _ :: _, h, _, _, _ => by simp at h
  | _ :: _, [], h, _, _, _ => by simp at h
  | n :: ns, m :: ms, h, h1, h2, e => by
    have hl : ns.length = ms.length := by simpa using h
    rcases Int.lt_trichotomy n m with y | y | y
    · have := TS.code_lt hl h1.tail h2.tail y
      omega
    · subst y
      have e2 : TS.code B ns = TS.code B ms := by
        have a := TS.code_same (B := B) (d := n) hl
        have b := TS.code_same (B := B) (d := n) hl.symm
        rcases Int.lt_trichotomy (TS.code B ns) (TS.code B ms) with z | z | z
        · have := a.mpr z; omega
        · exact z
        · have := b.mpr z; omega
      rw [code_inj hl h1.tail h2.tail e2]
    · have := TS.code_lt hl.symm h2.tail h1.tail y
      omega
theorem SrtD.uniq {d : Nat} {B : Int} {nss ms ms' : List (List Int)} (td : TupsD d B nss) (h : SrtD B nss ms) (h' : SrtD B nss ms') : ms = ms' :=
  (h.perm.trans h'.perm.symm).eq_of_pairwise (fun a b ha hb h1 h2 => by
    have ma := h.perm.mem_iff.mp ha
    have mb := h'.perm.mem_iff.mp hb
    exact code_inj ((td.len a ma).trans (td.len b mb).symm) (td.bd a ma) (td.bd b mb) (Int.le_antisymm h1 h2)) h.ord h'.ord
section
variable {X : Cx} {F : FC} {ρ ρ1 ρ2 ρ3 : List Sl} {a b c e : Expr} {pos p p2 q2 : Pos} {d : PyData} {ds : List PyData}
/-- sorted of a list of tuples of ints -/
theorem evn_sortT {nss ms : List (List Int)} {n : Nat} {B : Int} (hm : X.mg "sorted" = none) (ha : EvD X F e ρ (.list (nss.map tI)) ρ1) (td : TupsD n B nss) (hs : SrtD B nss ms) (hK : X.K = F.K := by first | rfl | assumption) (hgl : Gl X "sorted" := by rfl)
    (he : starEach [e] X.env = [(false, eval e X.env)] := by exact star_cons rfl) : EvS X F (.Call (.Name "sorted" p) [e] [] pos) ρ (.ow false (ms.map tI)) ρ1 :=
  ev_blt call_sortT hm (by decide +kernel) (eva_cons ha eva_nil trivial he) (fun G σ H vs Q s a q => by
    obtain ⟨v, rfl, r⟩ := argV1 a
    simp only [Rp] at r
    obtain ⟨ad, xs, rfl, r2, r3⟩ := r
    refine ⟨ad, xs, nss, n, B, G, rfl, SqL.of (s.gh _ _ r2), s.gh, by rw [hK]; exact r3, td, fun l ks ys hl k1 k2 => ?_⟩
    rw [SrtD.uniq td k1 hs] at k2
    exact q _ G _ (s.layN hl) (Same.refl _) (newOw s hl (by rw [hK] at k2; exact k2))) hgl (by decide) (by decide) he rfl
/-- sorted of an own dict -/
theorem evn_sortD (n : Nat) {v0 : Str} {kvs : List (NestedKey × PyData)} {nss ms : List (List Int)} {m : Nat} {B : Int} (hm : X.mg "sorted" = none) (hn : ρ[n]? = some (.op (DcP X.prog X.w X.K kvs))) (hk : kvs.map (·.1) = nss.map keyI) (td : TupsD m B nss) (hs : SrtD B nss ms) (hK : X.K = F.K := by first | rfl | assumption)
    (hc : X.calm = true := by rfl) (hN : X.N[n]? = some v0 := by rfl) (hv : Vis X.env.scope v0 := by first | exact Or.inl rfl | exact Or.inr (Or.inl rfl) | exact Or.inr (Or.inr rfl)) (hvd : (v0 == ("__debug__" : Str)) = false := by decide) (hvc : (v0 == ("__classdict__" : Str)) = false := by decide) (hgl : Gl X "sorted" := by rfl)
    (he : starEach [.Name v0 p2] X.env = [(false, eval (.Name v0 p2) X.env)] := by exact star_cons rfl) : EvS X F (.Call (.Name "sorted" p) [.Name v0 p2] [] pos) ρ (.ow false (ms.map tI)) ρ := fun G σ H Q sr k => by
  obtain ⟨ad, u, w1, w2, w3, w4⟩ := sr.sl.op n _ hn
  refine toW (pe_callB (call_sortDT hc) hgl hm (by decide +kernel) (pa_cons (pe_var hN hv hvd hvc) pa_nil he) (by decide) (by decide) he rfl) ⟨_, w1, ?_⟩
  refine ⟨ad, u, kvs, nss, m, B, G, rfl, w3, w4, sr.gh, hk, td, fun l ks ys hl k1 k2 => ?_⟩
  rw [SrtD.uniq td k1 hs] at k2
  exact k _ G _ (sr.layN hl) (Same.refl _) (newOw sr hl (by rw [hK] at k2; exact k2))
/-- an own list != [] -/
theorem evt_neOw0 (n : Nat) {v0 : Str} {bo : Bool} (hu : X.A.units + 64 < cLine) (hn : ρ[n]? = some (.ow bo ds)) (h1 : SeqAt.shaped (.list ds) = true) (hK : X.K = F.K := by first | rfl | assumption) (hN : X.N[n]? = some v0 := by rfl)
    (hv : Vis X.env.scope v0 := by first | exact Or.inl rfl | exact Or.inr (Or.inl rfl) | exact Or.inr (Or.inr rfl)) (hvd : (v0 == ("__debug__" : Str)) = false := by decide) (hvc : (v0 == ("__classdict__" : Str)) = false := by decide) :
    EvT X F (.Compare (.Name v0 p) [.NotEq] [.List [] p2] pos) ρ (!PyData.eqv (.list ds) (.list [])) ρ := fun G σ H Q sr k => by
  obtain ⟨ad, xs, w1, w2, w3, w4⟩ := sr.sl.ow n bo ds hn
  refine toWT (pt_cmpR (op_neD hu) (pe_var hN hv hvd hvc) peW (nomark _)) ⟨_, w1, evn_lst (ds := []) (pos := p2) (eva_nil (X := X) (F := F) (ρ := ρ)) (Nat.zero_le _) G σ H _ sr fun u G2 H2 s2 g2 r2 => ?_⟩
  obtain ⟨_, q, ys, rfl, h0, hG, hH, rr, hno⟩ := r2
  refine ⟨.list ds, .list [], ?_, ?_, h1, by rfl, _, rfl, k G2 H2 s2 g2⟩
  · obtain ⟨ad', xs', z1, z2, z3, z4⟩ := s2.sl.ow n bo ds hn
    rw [w1] at z1; cases z1
    rw [hK]
    exact .lst (SqL.of z3) (Rps.dp s2.gh ds xs' z4)
  · rw [hK]
    exact .lst (SqL.of hH) (Rps.dp s2.gh [] ys rr)
/-- all of a list of bools -/
theorem ev_all {bs : List Bool} (hm : X.mg "all" = none) (ha : EvD X F e ρ (.list (bs.map PyData.bool)) ρ1) (hc : X.calm = true := by rfl) (hgl : Gl X "all" := by rfl) (he : starEach [e] X.env = [(false, eval e X.env)] := by exact star_cons rfl) : EvD X F (.Call (.Name "all" p) [e] [] pos) ρ (.bool (bs.all id)) ρ1 :=
  ev_blt (cr_all hc) hm (by decide +kernel) (eva_cons ha eva_nil trivial he) (fun G σ H vs Q s a q => by
    obtain ⟨v, rfl, r⟩ := argV1 a
    simp only [Rp] at r
    obtain ⟨ad, xs, rfl, r2, r3⟩ := r
    rw [rps_bools r3] at r2
    exact ⟨ad, bs, rfl, SqL.of (s.gh _ _ r2), q _ G H s (Same.refl _) res_bl⟩) hgl (by decide) (by decide) he rfl
/-- i <= j <= k of ints -/
theorem ev_le2 {i j k : Int} (ha : EvD X F a ρ (.int i) ρ) (hb : EvD X F b ρ (.int j) ρ) (hc : EvD X F c ρ (.int k) ρ) (hm : lastMarks [.LtE, .LtE] [b, c] = false := by with_unfolding_all rfl) : EvD X F (.Compare a [.LtE, .LtE] [b, c] pos) ρ (.bool (decide (i ≤ j) && decide (j ≤ k))) ρ :=
  fun G σ H Q s q => toW (pe_chain op_le op_le peW peW peW hm) (ha G σ H _ s fun v G1 H1 s1 g1 r1 => hb G1 σ H1 _ s1 fun u G2 H2 s2 g2 r2 => by
    simp only [ResR, Rp] at r1 r2; subst r1; subst r2
    refine ⟨i, j, rfl, rfl, _, rfl, ?_⟩
    by_cases h : i ≤ j
    · rw [if_pos (decide_eq_true h)]
      refine hc G2 σ H2 _ s2 fun w G3 H3 s3 g3 r3 => ?_
      simp only [ResR, Rp] at r3; subst r3
      refine ⟨j, k, rfl, rfl, q _ G3 H3 s3 (g1.trans (g2.trans g3)) ?_⟩
      rw [decide_eq_true h, Bool.true_and]
      exact res_bl
    · rw [if_neg (by simpa using h)]
      refine q _ G2 H2 s2 (g1.trans g2) ?_
      rw [decide_eq_false h, Bool.false_and]
      exact res_bl)
end
end DL
end
section
set_option maxHeartbeats 4000000
namespace DL
open PySem PySem.Spec PyProof.Rows L2
section
variable {X : Cx}
def rDict1 (X : Cx) : List V → Hp → VK → Prop := fun xs H Q => ∃ (a t c : Addr) (v : V) (ks : List NestedKey) (G : Hp), xs = [.ref a] ∧ SqL X.K H a [.ref t] ∧ SqT X.K H t [.ref c, v] ∧ Same G H ∧ Rp X.K G (NestedKey.tup ks).data (.ref c) ∧ (NestedKey.tup ks).depth ≤ 8 ∧
  ∀ q r, H q = none → (q == sysModules) = false → RelV v r → Q (.ref q) (upd H q (DcO X.prog X.w q [(.tup ks, c, r)]))
theorem call_dict1 (hc : X.calm = true) (hu : X.A.units + 12 < cLine) : CallR X (.type "dict") (rDict1 X) := by
  intro pins s σ H xs us Q I r h
  obtain ⟨a, t, c, v, ks, G, rfl, hs, ht, gh, hk, hd, q⟩ := h
  obtain ⟨its, rv, pl, hz⟩ := I.list hs
  obtain ⟨its2, rv2, ⟨o2, ho2, hc2, n2, hd2⟩, _⟩ := I.tuple ht
  obtain ⟨u, rfl, ru⟩ := vals1 r
  obtain rfl : u = Value.ref a := ru
  obtain ⟨u1, rfl, ru1⟩ := vals1 rv
  obtain rfl : u1 = Value.ref t := ru1
  obtain ⟨u2, u3, rfl, ru2, ru3⟩ := vals2 rv2
  obtain rfl : u2 = Value.ref c := ru2
  have ni := rp_nested I gh _ _ _ hk rfl
  have P := PairArg.list (prog := X.prog) (w := X.w) a #[Value.ref t] (fun _ => t) [(Value.ref c, u3)]
  refine call_dict_pairsH (A := X.A) (knd := nk X.prog X.w) (ps := [(.tup ks, c, u3)]) P (I.ok.hd hc) (show X.A.units + 1 + 1 + 8 < cLine by omega) ⟨?_, rfl, fun j k w hj => ?_⟩ ⟨rfl, fun i key w e => ?_⟩ (fun h' hk' x hx => ?_) (by simp [sizeLine_eq]) fun h' tk dd kp => ?_
  · obtain ⟨o, n, h1, h2, h3, h4⟩ := pl
    exact ⟨o, n, h1, h2, h3, h4⟩
  · cases j with
    | succ j => simp at hj
    | zero =>
      simp at hj
      obtain ⟨rfl, rfl⟩ := hj
      exact ⟨rfl, .inl ⟨o2, ho2, hc2, n2, hd2⟩⟩
  · have e : ([(Value.ref c, u3)] : List (Value × Value))[i]? = some (key, w) := e
    cases i with
    | succ i => simp at e
    | zero =>
      simp at e
      obtain ⟨rfl, rfl⟩ := e
      exact ⟨.tup ks, c, rfl, rfl⟩
  · simp at hx
    subst hx
    refine ⟨NestedIs.at (fun b o vs n e _ => hk' b o (Nat.ne_of_lt (Heap.lt_size e)) (by simp) e) _ _ ni, hd⟩
  · have dd : h'.DictOfH (nk X.prog X.w) s.heap.objs.size [(.tup ks, c, u3)] := dd
    obtain ⟨o, es, ep, g1, g2, g3, g4, _, _⟩ := dd
    rw [dcEs_of g4] at g3
    exact ⟨.ref s.heap.objs.size, _, I.laid (t' := tk) (fun b u e => kp b u (by simp) e) (Nat.le_refl _) (dcO_ok g1 g2 g3), rfl, q _ u3 (I.hok.fresh (Nat.le_refl _)) (beq_eq_false_iff_ne.mpr (Nat.ne_of_gt I.big)) ru3⟩
variable {F : FC} {ρ ρ1 : List Sl} {e : Expr} {pos p : Pos} {d : PyData} {ks : List NestedKey}
theorem ev_dictL1 (hm : X.mg "dict" = none) (hu : X.A.units + 12 < cLine) (ha : EvD X F e ρ (.list [.tuple [(NestedKey.tup ks).data, d]]) ρ1) (hd : (NestedKey.tup ks).depth ≤ 8) (hK : X.K = F.K := by first | rfl | assumption) (hc : X.calm = true := by rfl) (hgl : Gl X "dict" := by rfl)
    (he : starEach [e] X.env = [(false, eval e X.env)] := by exact star_cons rfl) : EvS X F (.Call (.Name "dict" p) [e] [] pos) ρ (.op (DcP X.prog X.w X.K [(.tup ks, d)])) ρ1 :=
  ev_bltTy (call_dict1 hc hu) hm (by decide +kernel) (eva_cons ha eva_nil trivial he) (fun G σ H vs Q s a q => by
    obtain ⟨v, rfl, r⟩ := argV1 a
    simp only [Rp, Rps] at r
    obtain ⟨ad, xs, rfl, r2, t0, l0, rfl, ⟨t, ys, rfl, r3, y1, l1, rfl, r4, y2, l2, rfl, r5, rfl⟩, rfl⟩ := r
    obtain ⟨c, zs, rfl, _⟩ : ∃ c zs, y1 = .ref c ∧ SqT F.K G c zs := by
      have r4' := r4
      simp only [NestedKey.data, Rp] at r4'
      obtain ⟨c, ys, e, h, _⟩ := r4'
      exact ⟨c, ys, e, h⟩
    have r4K : Rp X.K G (NestedKey.tup ks).data (.ref c) := by rw [hK]; exact r4
    refine ⟨ad, t, c, y2, ks, G, rfl, SqL.of (s.gh _ _ r2), by rw [hK]; exact same_seqT s.gh r3, s.gh, r4K, hd, fun l w hl hs rw' => ?_⟩
    refine q _ G _ (s.layN hl) (Same.refl _) (newOp s hl ?_)
    exact ⟨hs, by simp [sizeLine_eq], by simp, fun w hw => by simp at hw; subst hw; exact hd, [(.tup ks, c, w)], [y2], rfl, rfl, fun x hx => by simp at hx; subst hx; exact r4K, .cons rw' .nil, Rps.cons (by rw [hK]; exact r5) Rps.nil⟩) hgl (by decide) (by decide) he rfl
end
end DL
end
section
set_option maxHeartbeats 1000000
namespace DL
open PySem PySem.Spec PyProof.Rows L2
/-- a for's body -/
def bodyFor (s : Stmt) : List Stmt := match s with
  | .For _ _ b _ _ => b
  | _ => []
def bodyWhile (s : Stmt) : List Stmt := match s with
  | .While _ b _ _ => b
  | _ => []
def testWhile (s : Stmt) : Expr := match s with
  | .While c _ _ _ => c
  | _ => .Constant .none 0 ⟨0, 0, 0, 0⟩
/-- for x in ..: an invariant over the rounds that are done, told by a predicate -/
theorem for_pred {X : Cx} {F : FC} {body : List Stmt} {n : Nat} {ds : List PyData} (J : Nat → List Sl → Prop) (h : ∀ (k : Nat) (d : PyData) (ρ : List Sl), ds[k]? = some d → J k ρ → ∃ ρ', J (k + 1) ρ' ∧ ExB X F body (ρ.set n (.fz d)) (.nx ρ')) :
    ∀ ρ, J 0 ρ → ∃ ρ', J ds.length ρ' ∧ ForD X F body (one n ds) ρ (.nx ρ') := by
  have gen : ∀ (es : List PyData) (k : Nat) (ρ : List Sl), ds.drop k = es → J k ρ → ∃ ρ', J (k + es.length) ρ' ∧ ForD X F body (one n es) ρ (.nx ρ') := by
    intro es
    induction es with
    | nil => intro k ρ _ hj; exact ⟨ρ, hj, .nil⟩
    | cons d es ih =>
      intro k ρ hd hj
      have hk : ds[k]? = some d := by
        have := congrArg (·[0]?) hd
        simpa using this
      have hd' : ds.drop (k + 1) = es := by
        have := congrArg List.tail hd
        simpa using this
      obtain ⟨ρ1, j1, e1⟩ := h k d ρ hk hj
      obtain ⟨ρ2, j2, e2⟩ := ih (k + 1) ρ1 hd' j1
      exact ⟨ρ2, by rw [show k + (d :: es).length = k + 1 + es.length from by simp; omega]; exact j2, .next e1 e2⟩
  intro ρ hj
  have := gen ds 0 ρ rfl hj
  simpa using this
theorem st_while {X : Cx} {F : FC} {e : Expr} {body sts : List Stmt} {m : Nat} {ρ ρ1 : List Sl} {R : Out} {pos : Pos} (h : WhileD X F e body m ρ (.nx ρ1)) (t : ExB X F sts ρ1 R) (hp : PassesOwn (model X.prog X.w) X.A X.env X.xe := by exact passes_of rfl) : ExB X F (.While e body [] pos :: sts) ρ R := exb_cons (exs_while h hp) t
/-- an argument raises -/
def EvAX (X : Cx) (F : FC) (es : List Expr) (ρ : List Sl) (C : Addr) (fs : List (Str × PyData)) (ρ' : List Sl) : Prop := ∀ (G : Hp) (σ : L2.St) (H : Hp) (Q : List V → Hp → Prop) (W : WX), SR F ρ G σ H → Takes X W →
  (∀ dd fv G' H', SR F ρ' G' σ H' → Same G G' → XdN F.H0 G' H' dd fv → FsR F.K G' fs fv → W (.ref C) (some dd) σ H') → tWA X es σ H Q
section
variable {X : Cx} {F : FC} {ρ ρ1 ρ2 : List Sl} {e : Expr} {es : List Expr} {C : Addr} {fs : List (Str × PyData)} {pos p : Pos} {x : Str} {s0 : Sl}
theorem pa_nev : PA X es (fun _ _ _ => False) := ⟨fun _ _ _ _ _ _ _ h => False.elim h⟩
theorem evax_here (h : EvX X F e ρ C fs ρ1) (hs : starEach (e :: es) X.env = (false, eval e X.env) :: starEach es X.env := by exact star_cons rfl) : EvAX X F (e :: es) ρ C fs ρ1 :=
  fun G σ H Q W sr tk k => toWA (pa_cons (te := tW X e) peW pa_nev hs) (h G σ H _ W sr tk k)
theorem evax_next (h : EvS X F e ρ s0 ρ1) (t : EvAX X F es ρ1 C fs ρ2) (hs : starEach (e :: es) X.env = (false, eval e X.env) :: starEach es X.env := by exact star_cons rfl) : EvAX X F (e :: es) ρ C fs ρ2 :=
  fun G σ H Q W sr tk k => toWA (pa_cons peW paW hs) (h G σ H _ sr fun v G1 H1 s1 g1 r1 => t G1 σ H1 _ W s1 tk fun dd fv G2 H2 s2 g2 => k dd fv G2 H2 s2 (g1.trans g2))
/-- f(e, ..), where an argument raises -/
theorem ev_clAX {f : Addr} (hmg : X.mg x = some (.ref f)) (hkp : PySem.W.keepIn X.K (.ref f) = true) (ha : EvAX X F (e :: es) ρ C fs ρ1) (hgl : Gl X x := by rfl) (hdb : (x == ("__debug__" : Str)) = false := by decide)
    (he : starEach (e :: es) X.env = (false, eval e X.env) :: starEach es X.env := by exact star_cons rfl) (hpl : (backTo pos (starEach es X.env)).any (·.1) = false := by rfl) : EvX X F (.Call (.Name x p) (e :: es) [] pos) ρ C fs ρ1 := fun G σ H Q W sr tk k' => tW.mk fun pins sh I => by
  refine wpAny_Call_Name_kw (ld_glob I hgl hmg ?_ hdb)
  exact PySem.W.callWith_K (h₀ := X.base) I.ok.mod.kin hkp (thn ((ha G σ H (fun _ _ => False) W sr tk k').run pos pins sh I) fun us s1 ⟨vs, H1, I1, r, q⟩ => q.elim) he hpl
end
/-- a list of tuples of ints is laid out well -/
theorem tups_shaped (nss : List (List Int)) : SeqAt.shaped (.list (nss.map tI)) = true := by
  have h1 : ∀ ns : List Int, PyData.canLayAll0 (ns.map PyData.int) = true := by
    intro ns
    induction ns with
    | nil => rfl
    | cons n ns ih => simp [PyData.canLayAll0, PyData.canLay0, ih]
  have h2 : ∀ ns : List Int, PyData.depthAll (ns.map PyData.int) ≤ 0 := by
    intro ns
    induction ns with
    | nil => simp [PyData.depthAll]
    | cons n ns ih => simp only [List.map_cons, PyData.depthAll, PyData.depth]; omega
  have h3 : PyData.canLayAll0 (nss.map tI) = true := by
    induction nss with
    | nil => rfl
    | cons n ns ih =>
      simp only [List.map_cons, tI, PyData.canLayAll0, PyData.canLay0, Bool.and_eq_true]
      exact ⟨h1 n, ih⟩
  have hd : ∀ n, (tI n).depth ≤ 1 := by
    intro n
    unfold tI
    simp only [PyData.depth]
    have := h2 n
    omega
  have h4 : PyData.depthAll (nss.map tI) ≤ 1 := by
    clear h3
    induction nss with
    | nil => simp [PyData.depthAll]
    | cons n ns ih =>
      simp only [List.map_cons, PyData.depthAll]
      have := hd n
      omega
  unfold SeqAt.shaped
  rw [Bool.and_eq_true]
  refine ⟨by simp only [PyData.canLay0]; exact h3, decide_eq_true ?_⟩
  simp only [PyData.depth]
  omega
end DL
end
section
set_option maxHeartbeats 4000000
namespace DL
open PySem PySem.Spec PyProof.Rows L2
section
variable {X : Cx} {F : FC} {ρ ρ1 ρ2 ρ3 : List Sl} {es : List Expr} {e a b c : Expr} {pos p p2 pos' : Pos}
variable {x : Str} {k : Nat} {ps : List Str} {φ : List Sl → Ret → Prop} {f : Addr} {fd : FuncData} {ss : List Sl} {io : List PyData} {s : Sl} {i j : Int} {d d1 d2 : PyData} {ds ds1 ds2 : List PyData}
theorem rps_rep {K : PySem.W.Frag} {G : Hp} {xs : List V} (r : Rps K G ds xs) : ∀ n : Nat, Rps K G (List.replicate n ds).flatten (List.replicate n xs).flatten
  | 0 => Rps.nil
  | n + 1 => by
    rw [List.replicate_succ, List.replicate_succ, List.flatten_cons, List.flatten_cons]
    exact r.append (rps_rep r n)
/-- a list times a number -/
theorem evn_rep (ha : EvD X F a ρ (.list ds) ρ1) (hb : EvD X F b ρ1 (.int i) ρ2) (h : -(2 ^ 63) ≤ i ∧ i < 2 ^ 63 ∧ ds.length * i.toNat ≤ sizeLine) : EvS X F (.BinOp a .Mult b pos) ρ (.ow false (List.replicate i.toNat ds).flatten) ρ2 :=
  fun G σ H Q s k => toW (pe_op op_rep peW peW) (ha G σ H _ s fun v G1 H1 s1 g1 r1 => hb G1 σ H1 _ s1 fun u G2 H2 s2 g2 r2 => by
    simp only [ResR, Rp] at r1 r2
    obtain ⟨x, xs, rfl, x1, x2⟩ := r1
    subst r2
    exact ⟨x, i, xs, rfl, rfl, s2.gh _ _ (g2 _ _ x1), h.1, h.2.1, by rw [x2.length]; exact h.2.2, fun l hl => k _ G2 _ (s2.layN hl) (g1.trans g2) (newOw s2 hl (rps_rep (Rps.mono g2 _ _ x2) _))⟩)
/-- a part of a text -/
theorem ev_sliceS {z : Str} {lo hi : Option Expr} {l u : Option Int} (ha : EvD X F a ρ (.str z) ρ1) (h1 : PartD X F lo ρ1 l ρ2) (h2 : PartD X F hi ρ2 u ρ3) (hz : z.length ≤ sizeLine) : EvD X F (.Subscript a (.Slice lo hi none p2) pos) ρ (.str (cutS z l u)) ρ3 :=
  fun G σ H Q s q => toW (pe_slice sl_str peW poW poW) (ha G σ H _ s fun v G1 H1 s1 g1 r1 => by
    simp only [ResR, Rp] at r1; subst r1
    exact h1.run s1 fun G2 H2 s2 g2 => h2.run s2 fun G3 H3 s3 g3 => ⟨z, rfl, hz, q _ G3 H3 s3 (g1.trans (g2.trans g3)) res_str⟩)
end
end DL
end
section
set_option maxHeartbeats 4000000
namespace DL
open PySem PySem.Spec PyProof.Rows L2
/-- a def as callers by names find it: g puts the values of ks in the parameters' order -/
structure DefKW (P : Program) (w : World) (K : PySem.W.Frag) (mg : Str → Option Value) (base : Heap) (x : Str) (k : Nat) (ps : List Str) (φ : List Sl → Ret → Prop) (ks : List Str) (g : {α : Type} → List α → List α) : Prop where
  ex : ∃ f fd, GnOk P w K mg base k f fd ps (SpD K φ) ∧ mg x = some (.ref f) ∧ PySem.W.keepIn K (.ref f) = true ∧ ∀ (s : Shared) (ws : List Value), K.In s.heap → ws.length = ks.length → BindsTo s fd ⟨[], ks.zip ws⟩ (ps.zip (g ws))
section
variable {X : Cx} {F : FC} {ρ ρ1 : List Sl} {ss : List Sl} {s : Sl} {io : List PyData} {p pos : Pos} {x : Str} {k k' : Nat} {ps ks : List Str} {φ : List Sl → Ret → Prop} {kws : List Keyword}
theorem vals_rev : ∀ {vs : List V} {us : List Value}, Vals vs us → Vals vs.reverse us.reverse
  | _, _, .nil => .nil
  | _, _, .cons r t => by
    rw [List.reverse_cons, List.reverse_cons]
    exact (vals_rev t).append (.cons r .nil)
theorem argV_rev {K : PySem.W.Frag} {G : Hp} : ∀ {ss : List Sl} {vs : List V}, ArgV K G ss vs → ArgV K G ss.reverse vs.reverse
  | [], vs, h => by rw [show vs = [] from h]; rfl
  | s :: ss, vs, h => by
    obtain ⟨v, r, rfl, h2, h3⟩ := h
    rw [List.reverse_cons, List.reverse_cons]
    exact argV_app (show ArgV K G [s] [v] from ⟨v, [], rfl, h2, rfl⟩) (argV_rev h3)
theorem ev_clKr (D : DefKW X.prog X.w X.K X.mg X.base x k ps φ ks List.reverse) (hr : Room k' X.A) (hk : k ≤ k') (hg : X.A.guards = some []) (ha : EvK X F kws ρ ss ρ1) (h : φ ss.reverse (.rt s io)) (hlen : ss.length = ks.length := by rfl) (hall : (backToKw pos (keywordEach kws X.env)).all (·.1.isSome) = true := by rfl) (hks : (backToKw pos (keywordEach kws X.env)).filterMap (·.1) = ks := by rfl)
    (hpl : ((backTo pos (starEach [] X.env)).any (·.1) || (backToKw pos (keywordEach kws X.env)).any (·.1.isNone)) = false := by rfl) (hK : X.K = F.K := by first | rfl | assumption) (hgl : Gl X x := by rfl) (hdb : (x == ("__debug__" : Str)) = false := by decide) : EvS X F (.Call (.Name x p) [] kws pos) ρ s ρ1 := by
  obtain ⟨f, fd, h1, h2, h3, h4⟩ := D.ex
  exact ev_callK0 (g := List.reverse) ⟨h1, h2, h3⟩ (hr.mono hk) hg h4 vals_rev (fun _ _ => argV_rev) hlen ha h hall hks hpl hK hgl hdb
theorem ev_clK (D : DefKW X.prog X.w X.K X.mg X.base x k ps φ ks (fun l => l)) (hr : Room k' X.A) (hk : k ≤ k') (hg : X.A.guards = some []) (ha : EvK X F kws ρ ss ρ1) (h : φ ss (.rt s io)) (hlen : ss.length = ks.length := by rfl) (hall : (backToKw pos (keywordEach kws X.env)).all (·.1.isSome) = true := by rfl) (hks : (backToKw pos (keywordEach kws X.env)).filterMap (·.1) = ks := by rfl)
    (hpl : ((backTo pos (starEach [] X.env)).any (·.1) || (backToKw pos (keywordEach kws X.env)).any (·.1.isNone)) = false := by rfl) (hK : X.K = F.K := by first | rfl | assumption) (hgl : Gl X x := by rfl) (hdb : (x == ("__debug__" : Str)) = false := by decide) : EvS X F (.Call (.Name x p) [] kws pos) ρ s ρ1 := by
  obtain ⟨f, fd, h1, h2, h3, h4⟩ := D.ex
  exact ev_callK0 (g := fun l => l) ⟨h1, h2, h3⟩ (hr.mono hk) hg h4 (fun r => r) (fun _ _ h => h) hlen ha h hall hks hpl hK hgl hdb
theorem evt_neS {a b : Expr} {i j : Str} {ρ2 : List Sl} (ha : EvD X F a ρ (.str i) ρ1) (hb : EvD X F b ρ1 (.str j) ρ2) : EvT X F (.Compare a [.NotEq] [b] pos) ρ (!(i == j)) ρ2 :=
  fun G σ H Q s q => toWT (pt_cmpR op_ne peW peW (nomark _)) (ha G σ H _ s fun v G1 H1 s1 g1 r1 => hb G1 σ H1 _ s1 fun u G2 H2 s2 g2 r2 => by
    simp only [ResR, Rp] at r1 r2; subst r1; subst r2
    exact ⟨rfl, _, rfl, by rw [dec_str]; exact q G2 H2 s2 (g1.trans g2)⟩)

theorem ev_callKX {C : Addr} {fs : List (Str × PyData)} {f : Addr} {fd : FuncData} {g : {α : Type} → List α → List α} (D : DefAt X x k ps φ f fd) (hr : Room k X.A) (hg : X.A.guards = some []) (hb : ∀ (s : Shared) (ws : List Value), X.K.In s.heap → ws.length = ks.length → BindsTo s fd ⟨[], ks.zip ws⟩ (ps.zip (g ws))) (hgv : ∀ {vs : List V} {us : List Value}, Vals vs us → Vals (g vs) (g us)) (hga : ∀ G vs, ArgV F.K G ss vs → ArgV F.K G (g ss) (g vs)) (hlen : ss.length = ks.length)
    (ha : EvK X F kws ρ ss ρ1) (h : φ (g ss) (.ex C fs io)) (hall : (backToKw pos (keywordEach kws X.env)).all (·.1.isSome) = true := by rfl) (hks : (backToKw pos (keywordEach kws X.env)).filterMap (·.1) = ks := by rfl)
    (hpl : ((backTo pos (starEach [] X.env)).any (·.1) || (backToKw pos (keywordEach kws X.env)).any (·.1.isNone)) = false := by rfl) (hK : X.K = F.K := by first | rfl | assumption) (hgl : Gl X x := by rfl) (hdb : (x == ("__debug__" : Str)) = false := by decide) :
    EvX X F (.Call (.Name x p) [] kws pos) ρ C fs ρ1 := fun G σ H Q W sr tk k' => tW.mk fun pins sh I => by
  refine wpAny_Call_Name_kw (ld_glob I hgl D.mg ?_ hdb)
  refine PySem.W.callWith_KW0 (h₀ := X.base) I.ok.mod.kin D.kp hall (thn (ha G σ H (fun vs H1 => ∃ G1, SR F ρ1 G1 σ H1 ∧ Same G G1 ∧ ArgV F.K G1 ss vs) sr (fun vs G1 H1 s1 g1 a1 => ⟨G1, s1, g1, a1⟩) pos pins sh I) fun us s1 ⟨vs, H1, I1, r, G1, q1, g1, a1⟩ => ⟨I1.kIn, ?_⟩) hpl
  have av := args_of (F := F) (hga G1 vs a1) q1.gh
  have lv : vs.length = ss.length := by
    have := (args_of (F := F) a1 q1.gh).sl.len
    simpa using this
  rw [hks]
  exact call_vals D hr hg hK tk q1 I1 av h (hb s1 us I1.kIn (by rw [← r.length, lv, hlen])) (hgv r) fun dd fv G' H' po e1 e2 => k' dd fv G' H' (sr_post q1 po) (g1.trans po.same) ⟨e1.1, q1.hd dd e1.2.1, e1.2.2⟩ e2
theorem ev_clKX {C : Addr} {fs : List (Str × PyData)} (D : DefKW X.prog X.w X.K X.mg X.base x k ps φ ks (fun l => l)) (hr : Room k' X.A) (hk : k ≤ k') (hg : X.A.guards = some []) (ha : EvK X F kws ρ ss ρ1) (h : φ ss (.ex C fs io)) (hlen : ss.length = ks.length := by rfl) (hall : (backToKw pos (keywordEach kws X.env)).all (·.1.isSome) = true := by rfl) (hks : (backToKw pos (keywordEach kws X.env)).filterMap (·.1) = ks := by rfl)
    (hpl : ((backTo pos (starEach [] X.env)).any (·.1) || (backToKw pos (keywordEach kws X.env)).any (·.1.isNone)) = false := by rfl) (hK : X.K = F.K := by first | rfl | assumption) (hgl : Gl X x := by rfl) (hdb : (x == ("__debug__" : Str)) = false := by decide) : EvX X F (.Call (.Name x p) [] kws pos) ρ C fs ρ1 := by
  obtain ⟨f, fd, h1, h2, h3, h4⟩ := D.ex
  exact ev_callKX (g := fun l => l) ⟨h1, h2, h3⟩ (hr.mono hk) hg h4 (fun r => r) (fun _ _ h => h) hlen ha h hall hks hpl hK hgl hdb
end
end DL
end
section
set_option maxHeartbeats 4000000
namespace K09
open PySem PySem.Spec PyProof.Rows L2 DL
def top (i : Nat) : Stmt := PySem.Challenge.pw_foldedalike_k09_groups_are_all_products.main.body.getD i (.Pass ⟨0, 0, 0, 0⟩)
abbrev FnP (K : PySem.W.Frag) (x : Str) (st : Stmt) (f : Addr) (fd : FuncData) : Prop := FunD K x x (defArgs st) (defBody st) (defScope st) [] [] f fd
abbrev sIsInteger : Stmt := top 1
abbrev sIsListed : Stmt := top 3
abbrev sPen : Stmt := top 46
abbrev sDraw : Stmt := top 47
abbrev sPick : Stmt := top 48
abbrev sHeard : Stmt := top 50
abbrev sLaw : Stmt := top 53
/-- built-ins' names stand for themselves -/
def blNames : List Str := ["isinstance", "int", "bool", "list", "tuple", "len", "abs", "range", "repr", "str", "super", "sorted", "all", "dict", "any", "sum", "min", "max", "zip", "enumerate", "reversed", "set"]
def Bl (mg : Str → Option Value) : Prop := ∀ x : Str, blNames.elem x = true → mg x = none
theorem Bl.at {mg : Str → Option Value} (B : Bl mg) {x : Str} (h : blNames.elem x = true := by rfl) : mg x = none := B x h
section
variable {P : Program} {w : World} {K : PySem.W.Frag} {mg : Str → Option Value} {base : Heap} {f : Addr} {fd : FuncData}
def isInteger (d : PyData) : Bool := isInt d && !isBool d
def φIsInteger : List Sl → Ret → Prop := fun ρ r => ∃ d, ρ = [.fz d] ∧ r = .rt (.fz (.bool (isInteger d))) []
theorem sc_isInteger : FnScope ["value"] ["value"] (defScope sIsInteger) := ⟨rfl, rfl, rfl, by decide +kernel, rfl, by decide +kernel, by decide +kernel⟩
theorem ok_isInteger (F : FnP K "is_integer" sIsInteger f fd) (B : Bl mg) : GnOk P w K mg base 1 f fd ["value"] (SpD K φIsInteger) := by
  refine gn_data F sc_isInteger (by rintro _ _ ⟨d, rfl, rfl⟩; rfl) fun cdv A out s H E Fc ρ r hr hg hK h => ?_
  obtain ⟨d, rfl, rfl⟩ := h
  refine ⟨_, exb_one (exs_ret (ev_and (ev_isi B.at (ev_var 0 rfl) B.at (by decide +kernel) (kit_int d)) fun _ => ev_one (ev_not (ev_isi B.at (ev_var 0 rfl) B.at (by decide +kernel) (kit_bool d))))), rfl, ?_⟩
  intro ds h; cases h
def φIsListed : List Sl → Ret → Prop := fun ρ r => ∃ d, ρ = [.fz d] ∧ r = .rt (.fz (.bool (isSeq d))) []
theorem sc_isListed : FnScope ["value"] ["value"] (defScope sIsListed) := ⟨rfl, rfl, rfl, by decide +kernel, rfl, by decide +kernel, by decide +kernel⟩
theorem ok_isListed (F : FnP K "is_listed" sIsListed f fd) (B : Bl mg) : GnOk P w K mg base 1 f fd ["value"] (SpD K φIsListed) := by
  refine gn_data F sc_isListed (by rintro _ _ ⟨d, rfl, rfl⟩; rfl) fun cdv A out s H E Fc ρ r hr hg hK h => ?_
  obtain ⟨d, rfl, rfl⟩ := h
  refine ⟨_, exb_one (exs_ret (ev_isi2 B.at (ev_var 0 rfl) B.at (by decide +kernel) B.at (by decide +kernel) (kit_list d) (kit_tuple d))), ?_, ?_⟩
  · rw [isSeq_or]
  · intro ds h; cases h

end
end K09
end
section
set_option maxHeartbeats 4000000
namespace K09
open PySem PySem.Spec PyProof.Rows L2 DL
structure Pen where
  c : List Int
  a : Int
  rest : Int
def intsD (ns : List Int) : PyData := .list (ns.map PyData.int)
def Pen.ds (p : Pen) : List PyData := [intsD p.c, .int p.a, .int p.rest]
structure Pen.ok (p : Pen) (n : Int) : Prop where
  a0 : 0 ≤ p.a
  a1 : p.a + n < 1000000
  r0 : 0 ≤ p.rest
  len : p.c.length ≤ 63
theorem Pen.ok.mono {p : Pen} {n m : Int} (h : p.ok n) (e : m ≤ n) : p.ok m := ⟨h.a0, by have := h.a1; omega, h.r0, h.len⟩
def absI (i : Int) : Int := if i < 0 then -i else i
def e18 : Int := 10 ^ (18 : Int).toNat
def Pen.cell (p : Pen) : Int := if p.c = [] then 52361 * p.a + 30011 else p.c.getD (p.a % p.c.length).toNat 0
def Pen.great (p : Pen) : Int := 2 * (absI p.cell - e18) + (if p.cell < 0 then 1 else 0)
def Pen.m1 (p : Pen) : Int := (p.cell % 2147483549 + 80021 * p.a + 2203) ^ (5 : Int).toNat % 2147483563
def Pen.m2 (p : Pen) : Int := (p.m1 * (2 * p.a + 2203) + 52361 * p.a * p.a + 80021) ^ (3 : Int).toNat % 2147483587
def Pen.draw (p : Pen) (m : Int) : Int × Pen :=
  if 0 < p.rest then (p.rest % m, ⟨p.c, p.a, p.rest / m⟩)
  else if p.a < p.c.length ∧ e18 ≤ absI p.cell then (p.great % m, ⟨p.c, p.a + 1, p.great / m⟩)
  else (p.m2 / 64 % m, ⟨p.c, p.a + 1, p.rest⟩)
theorem draw_lt (p : Pen) {m : Int} (h : 0 < m) : 0 ≤ (p.draw m).1 ∧ (p.draw m).1 < m := by
  unfold Pen.draw
  split
  · exact ⟨Int.emod_nonneg _ (by omega), Int.emod_lt_of_pos _ h⟩
  · split
    · exact ⟨Int.emod_nonneg _ (by omega), Int.emod_lt_of_pos _ h⟩
    · exact ⟨Int.emod_nonneg _ (by omega), Int.emod_lt_of_pos _ h⟩
theorem draw_ok {p : Pen} {m n : Int} (h : p.ok n) (hm : 0 < m) (hn : 1 ≤ n) : (p.draw m).2.ok (n - 1) := by
  have d0 : ∀ x : Int, 0 ≤ x → 0 ≤ x / m := fun x hx => Int.ediv_nonneg hx (by omega)
  unfold Pen.draw
  split
  · exact ⟨h.a0, by have := h.a1; show p.a + (n - 1) < _; omega, d0 _ h.r0, h.len⟩
  · split
    · rename_i q
      refine ⟨by have := h.a0; show 0 ≤ p.a + 1; omega, by have := h.a1; show p.a + 1 + (n - 1) < _; omega, d0 _ ?_, h.len⟩
      unfold Pen.great
      have := q.2
      split <;> omega
    · exact ⟨by have := h.a0; show 0 ≤ p.a + 1; omega, by have := h.a1; show p.a + 1 + (n - 1) < _; omega, h.r0, h.len⟩
theorem ints_shaped (ns : List Int) : SeqAt.shaped (intsD ns) = true := by
  have h1 : ∀ ns : List Int, PyData.canLayAll0 (ns.map PyData.int) = true := by
    intro ns
    induction ns with
    | nil => rfl
    | cons n ns ih => simp [PyData.canLayAll0, PyData.canLay0, ih]
  have h2 : ∀ ns : List Int, PyData.depthAll (ns.map PyData.int) ≤ 0 := by
    intro ns
    induction ns with
    | nil => simp [PyData.depthAll]
    | cons n ns ih => simp only [List.map_cons, PyData.depthAll, PyData.depth]; omega
  unfold intsD SeqAt.shaped
  rw [Bool.and_eq_true]
  refine ⟨by simp only [PyData.canLay0]; exact h1 ns, decide_eq_true ?_⟩
  simp only [PyData.depth]
  have := h2 ns
  omega
section
variable {P : Program} {w : World} {K : PySem.W.Frag} {mg : Str → Option Value} {base : Heap} {f C fI : Addr} {fd : FuncData}
def φPen (K : PySem.W.Frag) : List Sl → Ret → Prop := fun ρ r => ∃ ns : List Int, ρ = [.pv (ScP K ns)] ∧ ns.length ≤ 63 ∧ r = .rt (.ow false (Pen.ds ⟨ns, 0, 0⟩)) []
theorem sc_pen : FnScope ["script", "cell"] ["script"] (defScope sPen) := ⟨rfl, rfl, rfl, by decide +kernel, rfl, by decide +kernel, by decide +kernel⟩
theorem cut_all {ds : List PyData} (h : ds.length ≤ 63) : DL.cutD ds none (some 63) = ds := by
  unfold DL.cutD
  have e1 : HT.sIx ds.length 0 none = 0 := rfl
  have e2 : HT.sIx ds.length ds.length (some 63) = min 63 ds.length := HT.sIx_nat _ _ 63
  rw [e1, e2]
  simp only [List.drop_zero, Nat.sub_zero]
  exact List.take_of_length_le (by omega)
theorem ok_pen (F : FnP K "_law_pen" sPen f fd) (B : Bl mg) : GnOk P w K mg base 1 f fd ["script"] (SpD K (φPen K)) := by
  refine gn_data F sc_pen (by rintro _ _ ⟨ns, rfl, _, rfl⟩; rfl) fun cdv A out s H E Fc ρ r hr hg hK h => ?_
  obtain ⟨ns, rfl, hl, rfl⟩ := h
  have nd := sc_pen.nd
  have hc : DL.cutD (ns.map PyData.int) none (some 63) = ns.map PyData.int := cut_all (by simpa using hl)
  refine ⟨_, st_ret (ev_ls (evd (ev_fz (ev_lcm (n := 1) (g := fun d => d) (src_list (ev_fz (evn_sliceP hK (.to (ev_pv 0 rfl) (by rw [hK])) .none (.some ev_int)))) (fun d hd F' hF s0 H0 C cl fp => ?_) ?_)) (evd ev_int (evd ev_int evd_nil)))), ?_⟩
  · rw [hc] at hd
    obtain ⟨i, _, rfl⟩ := List.mem_map.mp hd
    exact ev_intI B.at (ev_var 1 rfl)
  · rw [hc, List.length_map]
    exact Nat.le_trans hl (by decide)
  · rw [hc, List.map_id'']
    · exact ⟨rfl, fun ds z => by cases z⟩
    · intro x; rfl
end
end K09
end
section
set_option maxHeartbeats 4000000
namespace K09
open PySem PySem.Spec PyProof.Rows L2 DL
theorem m1_lt (p : Pen) : 0 ≤ p.m1 ∧ p.m1 < 2147483563 := ⟨Int.emod_nonneg _ (by decide), Int.emod_lt_of_pos _ (by decide)⟩
theorem cell_at {p : Pen} (h : p.c ≠ []) (ha : 0 ≤ p.a) : atI (p.c.map PyData.int) (p.a % p.c.length) = some (.int p.cell) := by
  have hl : 0 < p.c.length := List.length_pos_iff.mpr h
  have h0 : 0 ≤ p.a % p.c.length := Int.emod_nonneg _ (by omega)
  have h1 : p.a % p.c.length < p.c.length := Int.emod_lt_of_pos _ (by omega)
  have hx : ixN p.c.length (p.a % p.c.length) = some (p.a % p.c.length).toNat := by
    unfold ixN
    rw [if_pos h0, if_pos h1]
  unfold atI
  rw [List.length_map, hx]
  show (p.c.map PyData.int)[(p.a % p.c.length).toNat]? = _
  rw [List.getElem?_map]
  have hlt : (p.a % p.c.length).toNat < p.c.length := by omega
  rw [List.getElem?_eq_getElem hlt]
  unfold Pen.cell
  rw [if_neg h, List.getD_eq_getElem?_getD, List.getElem?_eq_getElem hlt]
  rfl
section
variable {P : Program} {w : World} {K : PySem.W.Frag} {mg : Str → Option Value} {base : Heap} {f C fI : Addr} {fd : FuncData}
def φDraw : List Sl → Ret → Prop := fun ρ r => ∃ (p : Pen) (m : Int), ρ = [.ow true p.ds, .fz (.int m)] ∧ p.ok 1 ∧ 0 < m ∧ m.natAbs.log2 < 9000 ∧ r = .rt (.fz (.int (p.draw m).1)) (p.draw m).2.ds
theorem sc_draw : FnScope ["pen", "many", "rest", "at", "cell", "mixed"] ["pen", "many"] (defScope sDraw) := ⟨rfl, rfl, rfl, by decide +kernel, rfl, by decide +kernel, by decide +kernel⟩
theorem ok_draw (F : FnP K "_law_draw" sDraw f fd) (B : Bl mg) : GnOk P w K mg base 1 f fd ["pen", "many"] (SpD K φDraw) := by
  refine gn_data F sc_draw (by rintro _ _ ⟨p, m, rfl, _⟩; rfl) fun cdv A out s H E Fc ρ r hr hg hK h => ?_
  obtain ⟨p, m, rfl, hp, hm, hlog, rfl⟩ := h
  have nd := sc_draw.nd
  have hu := hr.units
  have a0 := hp.a0
  have a1 := hp.a1
  have t0 : ∀ {io : List PyData} {v : Int} {ρ' : List Sl}, (v, io) = ((p.draw m).1, (p.draw m).2.ds) → ρ'[0]? = some (.ow true io) → Fits [.ow true p.ds, .fz (.int m)] (.rt (.fz (.int v)) ρ') (.rt (.fz (.int (p.draw m).1)) (p.draw m).2.ds) := fun {io v ρ'} e h => by
    cases e
    exact ⟨rfl, fun _ _ => h⟩
  by_cases h1 : 0 < p.rest
  · have ed : p.draw m = (p.rest % m, ⟨p.c, p.a, p.rest / m⟩) := if_pos h1
    refine ⟨_, st_ifR (.to (evt_gt (ev_ixO 0 rfl ev_int rfl rfl) ev_int) (decide_eq_true h1)) (st_set 2 (ev_intI B.at (ev_ixO 0 rfl ev_int rfl rfl)) (st_item 0 (ev_div (ev_var 2 rfl) (ev_var 1 rfl) ⟨hm, hlog⟩) ev_int (st_ret (ev_mod (ev_intI B.at (ev_var 2 rfl)) (ev_var 1 rfl) hm)))), t0 (by rw [ed]; rfl) rfl⟩
  · have hr0 : ¬ (0 < p.rest) := h1
    have cut : ∃ ρ', ρ' = [Sl.ow true [intsD p.c, .int (p.a + 1), .int p.rest], .fz (.int m), .un, .fz (.int p.a), .fz (.int p.cell), .un] ∧ ∀ {R : Out}, ExB (bcx P w K mg base ["pen", "many", "rest", "at", "cell", "mixed"] "_law_draw" (defScope sDraw) f cdv A out s H E) Fc ((defBody sDraw).drop 5) ρ' R → ExB (bcx P w K mg base ["pen", "many", "rest", "at", "cell", "mixed"] "_law_draw" (defScope sDraw) f cdv A out s H E) Fc (defBody sDraw) ([.ow true p.ds, .fz (.int m)] ++ List.replicate 4 .un) R := by
      refine ⟨_, rfl, fun {R} h => ?_⟩
      refine st_if0 (.to (evt_gt (ev_ixO 0 rfl ev_int rfl rfl) ev_int) (decide_eq_false h1)) (st_set 3 (ev_ixO 0 rfl ev_int rfl rfl) (st_item 0 (ev_add (ev_var 3 rfl) ev_int) ev_int (st_set 4 (ev_add (ev_mulS ev_int (ev_var 3 rfl) (.inl ⟨by decide, by decide⟩)) ev_int) ?_)))
      by_cases hc : p.c = []
      · have ec : p.cell = 52361 * p.a + 30011 := if_pos hc
        rw [ec] at h
        refine st_if0 (.to (evt_neD hu (ev_ixO 0 rfl ev_int rfl rfl) (ev_lst eva_nil (by decide)) (ints_shaped _) (ints_shaped [])) ?_) h
        rw [hc]; rfl
      · have hl : 0 < p.c.length := List.length_pos_iff.mpr hc
        have at_ := cell_at hc a0
        refine st_ifT (.to (evt_neD hu (ev_ixO 0 rfl ev_int rfl rfl) (ev_lst eva_nil (by decide)) (ints_shaped _) (ints_shaped [])) ?_) (st_set 4 (ev_ixL (d := .int p.cell) (ev_ixO 0 rfl ev_int rfl rfl) (ev_mod (ev_intI B.at (ev_var 3 rfl)) (ev_lenL B.at (ev_ixO 0 rfl ev_int rfl rfl)) ?_) ?_) exb_nil) ?_
        · cases e : p.c with
          | nil => exact absurd e hc
          | cons x xs => rfl
        · simpa using hl
        · rw [List.length_map]; exact at_
        · exact h
    obtain ⟨ρ', eρ, cut⟩ := cut
    subst eρ
    have cab : ∀ {v : Int}, (if p.cell < 0 then -p.cell else p.cell) = absI p.cell := rfl
    by_cases h2 : p.a < p.c.length ∧ e18 ≤ absI p.cell
    · have ed : p.draw m = (p.great % m, ⟨p.c, p.a + 1, p.great / m⟩) := by unfold Pen.draw; rw [if_neg h1, if_pos h2]
      refine ⟨_, cut (st_ifR (evt_p (evp_andT (.to (evt_lt (ev_var 3 rfl) (ev_lenL B.at (ev_ixO 0 rfl ev_int rfl rfl))) (decide_eq_true (by rw [List.length_map]; exact h2.1))) (evp_and1 (.to (evt_ge (ev_abs B.at (ev_var 4 rfl)) (ev_pow ev_int ev_int ⟨by decide, by decide, by decide⟩)) (decide_eq_true h2.2)))))
        (st_set 2 (ev_add (ev_mulS ev_int (ev_sub (ev_abs B.at (ev_var 4 rfl)) (ev_pow ev_int ev_int ⟨by decide, by decide, by decide⟩)) (.inl ⟨by decide, by decide⟩)) (ev_intB B.at (ev_lt (ev_var 4 rfl) ev_int)))
        (st_item 0 (ev_div (ev_intI B.at (ev_var 2 rfl)) (ev_var 1 rfl) ⟨hm, hlog⟩) ev_int (st_ret (ev_mod (ev_intI B.at (ev_var 2 rfl)) (ev_var 1 rfl) hm))))), t0 ?_ rfl⟩
      rw [ed]
      have eg : p.great = 2 * (absI p.cell - e18) + (if decide (p.cell < 0) = true then 1 else 0) := by
        unfold Pen.great; simp
      rw [eg]
      rfl
    · have ed : p.draw m = (p.m2 / 64 % m, ⟨p.c, p.a + 1, p.rest⟩) := by unfold Pen.draw; rw [if_neg h1, if_neg h2]
      have c0 : 0 ≤ p.cell % 2147483549 := Int.emod_nonneg _ (by decide)
      have c1 : p.cell % 2147483549 < 2147483549 := Int.emod_lt_of_pos _ (by decide)
      have m1 := m1_lt p
      have q1 : 0 ≤ p.m1 * (2 * p.a + 2203) := Int.mul_nonneg m1.1 (by omega)
      have q2 : p.m1 * (2 * p.a + 2203) ≤ 2147483563 * (2 * 1000000 + 2203) := Int.mul_le_mul (by omega) (by omega) (by omega) (by omega)
      have q3 : 0 ≤ 52361 * p.a * p.a := Int.mul_nonneg (by omega) a0
      have q4 : 52361 * p.a * p.a ≤ (52361 * 1000000) * 1000000 := Int.mul_le_mul (by omega) (by omega) a0 (by omega)
      refine ⟨_, cut (st_if0 (.to (evt_p (evp_and (evt_lt (ev_var 3 rfl) (ev_lenL B.at (ev_ixO 0 rfl ev_int rfl rfl))) fun _ => evp_and1 (evt_ge (ev_abs B.at (ev_var 4 rfl)) (ev_pow ev_int ev_int ⟨by decide, by decide, by decide⟩)))) ?_)
        (st_set 5 (ev_mod (ev_intI B.at (ev_pow (ev_add (ev_add (ev_mod (ev_intI B.at (ev_var 4 rfl)) ev_int (by decide)) (ev_mulS ev_int (ev_var 3 rfl) (.inl ⟨by decide, by decide⟩))) ev_int) ev_int ⟨by decide, by decide, ?_⟩)) ev_int (by decide))
        (st_set 5 (ev_mod (ev_intI B.at (ev_pow (ev_add (ev_add (ev_mulS (ev_var 5 rfl) (ev_add (ev_mulS ev_int (ev_var 3 rfl) (.inl ⟨by decide, by decide⟩)) ev_int) (.inl ?_)) (ev_mulS (ev_mulS ev_int (ev_var 3 rfl) (.inl ⟨by decide, by decide⟩)) (ev_var 3 rfl) (.inr ?_))) ev_int) ev_int ⟨by decide, by decide, ?_⟩)) ev_int (by decide))
        (st_ret (ev_mod (ev_intI B.at (ev_div (ev_var 5 rfl) ev_int ⟨by decide, by decide⟩)) (ev_var 1 rfl) hm))))), t0 ?_ rfl⟩
      · rw [List.length_map]
        have : ¬ (p.a < p.c.length ∧ e18 ≤ absI p.cell) := h2
        simp only [Bool.and_eq_false_iff, decide_eq_false_iff_not]
        by_cases z : p.a < p.c.length
        · exact .inr fun y => this ⟨z, y⟩
        · exact .inl z
      · show (p.cell % 2147483549 + 80021 * p.a + 2203).natAbs < 2 ^ 64
        omega
      · show -(2 ^ 64) < p.m1 ∧ p.m1 < 2 ^ 64
        omega
      · omega
      · show (p.m1 * (2 * p.a + 2203) + 52361 * p.a * p.a + 80021).natAbs < 2 ^ 64
        omega
      · rw [ed]
        rfl
end
end K09
end
section
set_option maxHeartbeats 4000000
namespace K09
open PySem PySem.Spec PyProof.Rows L2 DL
section
variable {P : Program} {w : World} {K : PySem.W.Frag} {mg : Str → Option Value} {base : Heap} {f C fI : Addr} {fd : FuncData}
/-- one of some things -/
def Pen.pick (p : Pen) (ds : List PyData) : PyData := ds.getD (p.draw ds.length).1.toNat .none
def φPick : List Sl → Ret → Prop := fun ρ r => ∃ (p : Pen) (ds : List PyData), ρ = [.ow true p.ds, .fz (.list ds)] ∧ p.ok 1 ∧ 0 < ds.length ∧ ds.length < 2 ^ 60 ∧ r = .rt (.fz (p.pick ds)) (p.draw ds.length).2.ds
theorem sc_pick : FnScope ["pen", "some"] ["pen", "some"] (defScope sPick) := ⟨rfl, rfl, rfl, by decide +kernel, rfl, by decide +kernel, by decide +kernel⟩
theorem pick_at (p : Pen) {ds : List PyData} (h : 0 < ds.length) : atI ds (p.draw ds.length).1 = some (p.pick ds) := by
  obtain ⟨h0, h1⟩ := draw_lt p (m := ds.length) (by omega)
  have hx : ixN ds.length (p.draw ds.length).1 = some (p.draw ds.length).1.toNat := by
    unfold ixN
    rw [if_pos h0, if_pos h1]
  have hlt : (p.draw ds.length).1.toNat < ds.length := by omega
  unfold atI Pen.pick
  rw [hx]
  show ds[(p.draw ds.length).1.toNat]? = _
  rw [List.getD_eq_getElem?_getD, List.getElem?_eq_getElem hlt]
  rfl
theorem log_small {n : Nat} (h : n < 2 ^ 60) : ((n : Nat) : Int).natAbs.log2 < 9000 := by
  rw [Int.natAbs_natCast]
  rcases Nat.eq_zero_or_pos n with rfl | h0
  · decide
  · have := (Nat.log2_lt (Nat.pos_iff_ne_zero.mp h0)).mpr h
    omega
theorem ok_pick (F : FnP K "_law_pick" sPick f fd) (B : Bl mg) (D : DefG P w K mg base "_law_draw" 1 ["pen", "many"] φDraw) : GnOk P w K mg base 2 f fd ["pen", "some"] (SpD K φPick) := by
  refine gn_data F sc_pick (by rintro _ _ ⟨p, ds, rfl, _⟩; rfl) fun cdv A out s H E Fc ρ r hr hg hK h => ?_
  obtain ⟨p, ds, rfl, hp, h0, hl, rfl⟩ := h
  exact ⟨_, st_ret (ev_ixL (ev_var 1 rfl) (ev_clIO 0 D hr (by decide) hg (eva (ev_lenL B.at (ev_var 1 rfl)) eva_nil) rfl rfl ⟨p, _, rfl, hp, by omega, log_small hl, rfl⟩) (pick_at p h0)), rfl, fun _ _ => rfl⟩

theorem sc_heard : FnScope ["ask", "found", "caught", "error", "words", "kinds"] ["ask"] (defScope sHeard) := ⟨rfl, rfl, rfl, by decide +kernel, rfl, by decide +kernel, by decide +kernel⟩
abbrev hN : List Str := ["ask", "found", "caught", "error", "words", "kinds"]
/-- a value is heard -/
theorem heard_val {g f : Addr} {cdv : Value} {A : Around} {out : List Env} {s : Shared} {H : Hp} {Fh : FC} {d : PyData} {mF : Addr} (hK : K = Fh.K) (mE : mg "FoldError" = some (.ref mF))
    (acts : ∀ (pn : List (Addr × Obj)) (xe : Value → Shared → Prop) (ρh : List Sl) (p1 p2 : Pos), ρh[0]? = some (.vv (.ref f)) → Acts ((bcx P w K mg base hN "_law_heard" (defScope sHeard) g cdv A out s H C8.E0).tr pn xe) Fh (.Call (.Name "ask" p1) [] [] p2) ρh (.val d)) :
    ∃ ρ', ExB (bcx P w K mg base hN "_law_heard" (defScope sHeard) g cdv A out s H C8.E0) Fh (defBody sHeard) (.vv (.ref f) :: List.replicate 5 .un) (.rt (.ow false [d]) ρ') := by
  have nd := sc_heard.nd
  refine ⟨_, exb_cons (exs_names (ns := [1, 2]) (ev_tp (evd ev_non (evd ev_non evd_nil))) (.cons nd rfl (.inl rfl) (.inl rfl) rfl (.cons nd rfl (.inl rfl) (.inl rfl) rfl .nil)) rfl (fun n hn => ?_))
    (exb_cons (exs_tryV (i := 3) (ρ1 := [.vv (.ref f), .fz d, .fz .none, .un, .un, .un]) nd ⟨rfl, by decide, .inl mE⟩ fun pn xe => exb_one (exs_set 1 (acts pn xe _ _ _ rfl) (Nat.le_of_ble_eq_true rfl) nd)) (st_ifR (.to (evt_isN (ev_var 2 rfl)) rfl) (st_ret (ev_ls (evd (ev_var 1 rfl) evd_nil)))))⟩
  show n < 6
  rcases List.mem_cons.mp hn with rfl | hn
  · decide
  · obtain rfl := List.mem_singleton.mp hn
    decide

def kindNames : List Str := ["BadNest", "BadNumber", "BadValue", "BadTypes", "BadProgram", "BadPaper", "Misfit", "Nothing"]
def kindWords : List Str := ["nest", "number", "value", "types", "program", "paper", "misfit", "nothing"]
/-- C is the j-th kind of errors -/
structure HeardC (K : PySem.W.Frag) (mg : Str → Option Value) (C : Addr) (j : Nat) : Prop where
  fold : ∃ mF, mg "FoldError" = some (.ref mF) ∧ PySem.W.exmOne K (.ref C) (.ref mF) = some true
  xc : XcC K C
  part : PySem.W.findIn K (.ref C) "part" = some none
  no : ∀ x : Str, x ∈ (["TooMany", "BadText", "BadCommand", "NoName"] : List Str) → ∃ A, mg x = some (.ref A) ∧ PySem.W.kitOne K (.ref C) (.ref A) = some false
  kind : ∀ (i : Nat) (x : Str), kindNames[i]? = some x → ∃ A, mg x = some (.ref A) ∧ PySem.W.kitOne K (.ref C) (.ref A) = some (decide (i = j))
  lt : j < 8
theorem bools_shaped (ns : List Bool) : SeqAt.shaped (.list (ns.map PyData.bool)) = true := by
  have h1 : ∀ ns : List Bool, PyData.canLayAll0 (ns.map PyData.bool) = true := by
    intro ns
    induction ns with
    | nil => rfl
    | cons n ns ih => simp [PyData.canLayAll0, PyData.canLay0, ih]
  have h2 : ∀ ns : List Bool, PyData.depthAll (ns.map PyData.bool) ≤ 0 := by
    intro ns
    induction ns with
    | nil => simp [PyData.depthAll]
    | cons n ns ih => simp only [List.map_cons, PyData.depthAll, PyData.depth]; omega
  unfold SeqAt.shaped
  rw [Bool.and_eq_true]
  refine ⟨by simp only [PyData.canLay0]; exact h1 ns, decide_eq_true ?_⟩
  simp only [PyData.depth]
  have := h2 ns
  omega
theorem kinds_fin (j : Nat) (hj : j < 8) : ∃ ds : List PyData, ds = [.bool (decide (0 = j)), .bool (decide (1 = j)), .bool (decide (2 = j)), .bool (decide (3 = j)), .bool (decide (4 = j)), .bool (decide (5 = j)), .bool (decide (6 = j)), .bool (decide (7 = j))] ∧ SeqAt.shaped (.list ds) = true ∧ ds[j]? = some (.bool true) ∧ (∀ (m : Nat) (z' : PyData), m < j → ds[m]? = some z' → PyData.eqv z' (.bool true) = false) ∧ (ds.countP fun z => PyData.eqv z (.bool true)) = 1 := by
  refine ⟨_, rfl, bools_shaped [decide (0 = j), decide (1 = j), decide (2 = j), decide (3 = j), decide (4 = j), decide (5 = j), decide (6 = j), decide (7 = j)], ?_, fun m z' hm hz => ?_, ?_⟩
  · obtain rfl | rfl | rfl | rfl | rfl | rfl | rfl | rfl : j = 0 ∨ j = 1 ∨ j = 2 ∨ j = 3 ∨ j = 4 ∨ j = 5 ∨ j = 6 ∨ j = 7 := by omega
    all_goals rfl
  · have e : [PyData.bool (decide (0 = j)), .bool (decide (1 = j)), .bool (decide (2 = j)), .bool (decide (3 = j)), .bool (decide (4 = j)), .bool (decide (5 = j)), .bool (decide (6 = j)), .bool (decide (7 = j))] = (List.range 8).map fun i => PyData.bool (decide (i = j)) := rfl
    rw [e, List.getElem?_map, List.getElem?_range (by omega)] at hz
    obtain rfl := (Option.some.inj hz).symm
    show PyData.eqv (.bool (decide (m = j))) (.bool true) = false
    rw [decide_eq_false (p := m = j) (by omega)]
    rfl
  · obtain rfl | rfl | rfl | rfl | rfl | rfl | rfl | rfl : j = 0 ∨ j = 1 ∨ j = 2 ∨ j = 3 ∨ j = 4 ∨ j = 5 ∨ j = 6 ∨ j = 7 := by omega
    all_goals rfl
theorem kinds_word (j : Nat) (hj : j < 8) : atI ([.str "nest", .str "number", .str "value", .str "types", .str "program", .str "paper", .str "misfit", .str "nothing"] : List PyData) ((j : Nat) : Int) = some (.str (kindWords.getD j "")) := by
  obtain rfl | rfl | rfl | rfl | rfl | rfl | rfl | rfl : j = 0 ∨ j = 1 ∨ j = 2 ∨ j = 3 ∨ j = 4 ∨ j = 5 ∨ j = 6 ∨ j = 7 := by omega
  all_goals rfl
theorem heard_exc {g f : Addr} {cdv : Value} {A : Around} {out : List Env} {s : Shared} {H : Hp} {Fh : FC} {d : PyData} {j : Nat} {k : Nat} (hr : Room k (A.deeper (envOfC "_law_heard" (defScope sHeard) s.heap.objs.size g cdv))) (hK : K = Fh.K) (B : Bl mg) (HC : HeardC K mg C j)
    (acts : ∀ (pn : List (Addr × Obj)) (xe : Value → Shared → Prop) (ρh : List Sl) (p1 p2 : Pos), ρh[0]? = some (.vv (.ref f)) → Acts ((bcx P w K mg base hN "_law_heard" (defScope sHeard) g cdv A out s H C8.E0).tr pn xe) Fh (.Call (.Name "ask" p1) [] [] p2) ρh (.exc C [("part", d)])) :
    ∃ ρ', ExB (bcx P w K mg base hN "_law_heard" (defScope sHeard) g cdv A out s H C8.E0) Fh (defBody sHeard) (.vv (.ref f) :: List.replicate 5 .un) (.rt (.fz (.tuple [.str (kindWords.getD j ""), d])) ρ') := by
  have nd := sc_heard.nd
  have hu : (A.deeper (envOfC "_law_heard" (defScope sHeard) s.heap.objs.size g cdv)).units + 65 < cLine := by have := hr.un; omega
  obtain ⟨mF, mE, hm⟩ := HC.fold
  obtain ⟨A1, n1, t1⟩ := HC.no "TooMany" (by simp)
  obtain ⟨A2, n2, t2⟩ := HC.no "BadText" (by simp)
  obtain ⟨A3, n3, t3⟩ := HC.no "BadCommand" (by simp)
  obtain ⟨A4, n4, t4⟩ := HC.no "NoName" (by simp)
  obtain ⟨B0, m0, q0⟩ := HC.kind 0 "BadNest" rfl
  obtain ⟨B1, m1, q1⟩ := HC.kind 1 "BadNumber" rfl
  obtain ⟨B2, m2, q2⟩ := HC.kind 2 "BadValue" rfl
  obtain ⟨B3, m3, q3⟩ := HC.kind 3 "BadTypes" rfl
  obtain ⟨B4, m4, q4⟩ := HC.kind 4 "BadProgram" rfl
  obtain ⟨B5, m5, q5⟩ := HC.kind 5 "BadPaper" rfl
  obtain ⟨B6, m6, q6⟩ := HC.kind 6 "Misfit" rfl
  obtain ⟨B7, m7, q7⟩ := HC.kind 7 "Nothing" rfl
  have T := HC.xc
  apply Exists.intro
  refine exb_cons (exs_names (ns := [1, 2]) (ev_tp (evd ev_non (evd ev_non evd_nil))) (.cons nd rfl (.inl rfl) (.inl rfl) rfl (.cons nd rfl (.inl rfl) (.inl rfl) rfl .nil)) rfl (fun n hn => ?_))
    (exb_cons (exs_tryX (i := 3) (C := C) (fs := [("part", d)]) (ρ1 := [.vv (.ref f), .fz .none, .fz .none, .un, .un, .un]) (ρ2 := [.vv (.ref f), .fz .none, .pv (XcP Fh.K C [("part", d)]), .pv (XcP Fh.K C [("part", d)]), .un, .un]) nd ⟨rfl, by decide, .inl mE⟩ hm (fun pn xe => exb_one (exs_setX 1 (acts pn xe _ _ _ rfl) nd)) (Nat.le_of_ble_eq_true rfl) (Nat.le_of_ble_eq_true rfl) fun a pn => exb_one (exs_set 2 (ev_pv 3 rfl) (Nat.le_of_ble_eq_true rfl) nd))
    (st_if0 (evt_isNP (fun _ _ => xcP_ne) (ev_pv 2 rfl)) (st_if0 (evt_val (ev_isX T B.at (ev_pv 2 rfl) n1 t1)) (st_if0 (evt_val (ev_isX T B.at (ev_pv 2 rfl) n2 t2)) (st_if0 (.to (evt_val (ev_isXT T B.at (ev_pv 2 rfl) n3 t3 n4 t4)) rfl) ?_)))))
  · show n < 6
    rcases List.mem_cons.mp hn with rfl | hn
    · decide
    · obtain rfl := List.mem_singleton.mp hn
      decide
  · refine st_set 4 (ev_ls (evd ev_str (evd ev_str (evd ev_str (evd ev_str (evd ev_str (evd ev_str (evd ev_str (evd ev_str evd_nil))))))))) ?_
    refine st_set 5 (ev_ls (evd (ev_isX T B.at (ev_pv 2 rfl) m0 q0) (evd (ev_isX T B.at (ev_pv 2 rfl) m1 q1) (evd (ev_isX T B.at (ev_pv 2 rfl) m2 q2) (evd (ev_isX T B.at (ev_pv 2 rfl) m3 q3) evd_nil))))) ?_
    refine st_set 5 (evn_cat (ev_fz (ev_own 5 rfl)) (ev_fz (ev_ls (evd (ev_isX T B.at (ev_pv 2 rfl) m4 q4) (evd (ev_isX T B.at (ev_pv 2 rfl) m5 q5) (evd (ev_isX T B.at (ev_pv 2 rfl) m6 q6) (evd (ev_isX T B.at (ev_pv 2 rfl) m7 q7) evd_nil)))))) (Nat.le_of_ble_eq_true rfl)) ?_
    refine exb_fz 4 rfl (exb_fz 5 rfl ?_)
    obtain ⟨ds, eds, sh, hj, hno, hcnt⟩ := kinds_fin j HC.lt
    subst eds
    refine st_ret (ev_ifT (.to (evt_eq (ev_count hu (ev_var 5 rfl) ev_bl sh (by decide)) ev_int) ?_) (ev_tp (evd (ev_ixL (ev_var 4 rfl) (ev_index hu (ev_var 5 rfl) ev_bl sh (by decide) hj (by decide) hno) ?_) (evd (ev_xf T HC.part (ev_pv 2 rfl) rfl) evd_nil))))
    · exact (congrArg (fun n : Nat => ((n : Int) == 1)) hcnt).trans rfl
    · exact kinds_word j HC.lt
end
end K09
end
section
set_option maxHeartbeats 1000000
namespace K09
open DL
def idt (n : Nat) : List Int := (List.range n).map fun i => ((i : Nat) : Int)
/-- first a, then b -/
def comp (a b : List Int) : List Int := a.map fun i => b.getD i.toNat 0
def Trn (n : Nat) (t : List Int) : Prop := t.Perm (idt n)
theorem idt_len (n : Nat) : (idt n).length = n := by simp [idt]
theorem Trn.len {n : Nat} {t : List Int} (h : Trn n t) : t.length = n := by rw [h.length_eq, idt_len]
theorem Trn.mem {n : Nat} {t : List Int} (h : Trn n t) {i : Int} (hi : i ∈ t) : 0 ≤ i ∧ i < n := by
  have := h.mem_iff.mp hi
  unfold idt at this
  obtain ⟨j, hj, rfl⟩ := List.mem_map.mp this
  have := List.mem_range.mp hj
  omega
theorem Trn.comp {n : Nat} {t m : List Int} (h : Trn n t) (hm : Trn n m) : Trn n (comp t m) := by
  have h1 : (K09.comp t m).Perm ((idt n).map fun i => m.getD i.toNat 0) := h.map _
  have h2 : ((idt n).map fun i => m.getD i.toNat 0) = m := by
    apply List.ext_getElem
    · rw [List.length_map, idt_len, hm.len]
    · intro j h1 h2
      have hj : j < n := by rw [List.length_map, idt_len] at h1; exact h1
      simp only [idt, List.map_map, List.getElem_map, List.getElem_range, Function.comp, Int.toNat_natCast]
      rw [List.getD_eq_getElem?_getD, List.getElem?_eq_getElem h2]
      rfl
  rw [h2] at h1
  exact h1.trans hm
theorem Trn.id (n : Nat) : Trn n (idt n) := List.Perm.refl _
inductive Reach (n : Nat) (ms : List (List Int)) : List Int → Prop where
  | id : Reach n ms (idt n)
  | step {t m : List Int} : Reach n ms t → m ∈ ms → Reach n ms (comp t m)
theorem Reach.trn {n : Nat} {ms : List (List Int)} (hm : ∀ m ∈ ms, Trn n m) {t : List Int} (h : Reach n ms t) : Trn n t := by
  induction h with
  | id => exact .id n
  | step _ hmem ih => exact ih.comp (hm _ hmem)
structure Clos (n : Nat) (ms L : List (List Int)) : Prop where
  nd : L.Nodup
  iff : ∀ t, t ∈ L ↔ Reach n ms t
def ins {α : Type} (x : α) : List α → List (List α)
  | [] => [[x]]
  | y :: ys => (x :: y :: ys) :: (ins x ys).map (y :: ·)
def perms {α : Type} : List α → List (List α)
  | [] => [[]]
  | x :: xs => (perms xs).flatMap (ins x)
theorem mem_ins {α : Type} (x : α) : ∀ a b : List α, a ++ x :: b ∈ ins x (a ++ b)
  | [], [] => by simp [ins]
  | [], b :: bs => by simp [ins]
  | a :: as, b => by
    have := mem_ins x as b
    simp only [List.cons_append, ins, List.mem_cons, List.mem_map]
    exact .inr ⟨_, this, rfl⟩
theorem mem_perms {α : Type} : ∀ {m l : List α}, l.Perm m → l ∈ perms m
  | [], l, h => by rw [h.eq_nil]; simp [perms]
  | x :: xs, l, h => by
    have hx : x ∈ l := h.mem_iff.mpr (by simp)
    obtain ⟨a, b, rfl⟩ := List.append_of_mem hx
    have h2 : (a ++ b).Perm xs := (List.perm_cons x).mp (List.perm_middle.symm.trans h)
    simp only [perms, List.mem_flatMap]
    exact ⟨a ++ b, mem_perms h2, mem_ins x a b⟩
theorem nodup_le {α : Type} [DecidableEq α] : ∀ {l m : List α}, l.Nodup → (∀ x ∈ l, x ∈ m) → l.length ≤ m.length
  | [], m, _, _ => Nat.zero_le _
  | a :: l, m, hn, h => by
    have hn := List.nodup_cons.mp hn
    have ha : a ∈ m := h a (by simp)
    have := nodup_le (l := l) (m := m.erase a) hn.2 fun x hx => (List.mem_erase_of_ne (fun (e : x = a) => hn.1 (by rw [← e]; exact hx))).mpr (h x (by simp [hx]))
    have e := List.length_erase_of_mem ha
    have : 0 < m.length := List.length_pos_of_mem ha
    simp only [List.length_cons]
    omega
theorem perms_len : ∀ n : Nat, n ≤ 5 → (perms (idt n)).length ≤ 120
  | 0, _ => by decide +kernel
  | 1, _ => by decide +kernel
  | 2, _ => by decide +kernel
  | 3, _ => by decide +kernel
  | 4, _ => by decide +kernel
  | 5, _ => by decide +kernel
  | n + 6, h => by omega
theorem few {n : Nat} (h5 : n ≤ 5) {L : List (List Int)} (hn : L.Nodup) (h : ∀ t ∈ L, Trn n t) : L.length ≤ 120 :=
  Nat.le_trans (nodup_le hn fun t ht => mem_perms (h t ht)) (perms_len n h5)
theorem tupsD_of {n : Nat} (h1 : 1 ≤ n) (h5 : n ≤ 5) {L : List (List Int)} (h : ∀ t ∈ L, Trn n t) : TupsD n 5 L :=
  ⟨h1, fun t ht => (h t ht).len, fun t ht i hi => by have := (h t ht).mem hi; omega⟩
def leC (x y : List Int) : Bool := decide (TS.code 5 x ≤ TS.code 5 y)
theorem srtD_ex (L : List (List Int)) : SrtD 5 L (L.mergeSort leC) := by
  refine ⟨List.mergeSort_perm L leC, ?_⟩
  have := List.pairwise_mergeSort (le := leC) (fun a b c h1 h2 => by
    have h1 := of_decide_eq_true h1
    have h2 := of_decide_eq_true h2
    exact decide_eq_true (Int.le_trans h1 h2)) (fun a b => by
    unfold leC
    rcases Int.le_total (TS.code 5 a) (TS.code 5 b) with h | h
    · simp [h]
    · simp [h]) L
  exact this.imp fun h => of_decide_eq_true h
/-- the sorted closure -/
def IsC (n : Nat) (ms M : List (List Int)) : Prop := ∃ L, Clos n ms L ∧ SrtD 5 L M
theorem IsC.uniq {n : Nat} {ms M M' : List (List Int)} (h1 : 1 ≤ n) (h5 : n ≤ 5) (hm : ∀ m ∈ ms, Trn n m) (h : IsC n ms M) (h' : IsC n ms M') : M = M' := by
  obtain ⟨L, c, s⟩ := h
  obtain ⟨L', c', s'⟩ := h'
  have p : L'.Perm L := (List.perm_ext_iff_of_nodup c'.nd c.nd).mpr fun t => (c'.iff t).trans (c.iff t).symm
  exact SrtD.uniq (tupsD_of h1 h5 fun t ht => ((c.iff t).mp ht).trn hm) s ⟨s'.perm.trans p, s'.ord⟩
open Classical in
noncomputable def closG (n : Nat) (ms : List (List Int)) : List (List Int) := if h : ∃ M, IsC n ms M then h.choose else []
theorem closG_eq {n : Nat} {ms M : List (List Int)} (h1 : 1 ≤ n) (h5 : n ≤ 5) (hm : ∀ m ∈ ms, Trn n m) (h : IsC n ms M) : closG n ms = M := by
  unfold closG
  have ex : ∃ M, IsC n ms M := ⟨M, h⟩
  rw [dif_pos ex]
  exact IsC.uniq h1 h5 hm ex.choose_spec h
end K09
end
section
set_option maxHeartbeats 1000000
namespace K09
open DL
abbrev LL : Type := List (List Int)
def vis (here : List Int) (st : LL × LL) (m : List Int) : LL × LL := if comp here m ∈ st.1 then st else (st.1 ++ [comp here m], st.2 ++ [comp here m])
def visAll (here : List Int) (ms : LL) (st : LL × LL) : LL × LL := ms.foldl (vis here) st
structure VisOk (here : List Int) (ms K L K' L' : LL) : Prop where
  up : ∀ t ∈ K, t ∈ K'
  upL : ∀ t ∈ L, t ∈ L'
  nd : K.Nodup → K'.Nodup
  all : ∀ m ∈ ms, comp here m ∈ K'
  old : ∀ t ∈ K', t ∈ K ∨ t ∈ L'
  from_ : ∀ t ∈ K', t ∈ K ∨ ∃ m ∈ ms, t = comp here m
  sub : ∀ t ∈ L', t ∈ L ∨ t ∈ K'
  len : L'.length + K.length = L.length + K'.length
  pre : ∃ R, K' = K ++ R
theorem vis_ok (here m : List Int) (K L : LL) : VisOk here [m] K L (vis here (K, L) m).1 (vis here (K, L) m).2 := by
  unfold vis
  by_cases h : comp here m ∈ K
  · rw [if_pos h]
    exact ⟨fun _ h => h, fun _ h => h, fun h => h, fun x hx => by simp at hx; subst hx; exact h, fun t ht => .inl ht, fun t ht => .inl ht, fun t ht => .inl ht, by simp, ⟨[], by simp⟩⟩
  · rw [if_neg h]
    refine ⟨fun t ht => by simp [ht], fun t ht => by simp [ht], fun hn => ?_, fun x hx => by simp at hx; subst hx; simp, fun t ht => ?_, fun t ht => ?_, fun t ht => ?_, by simp; omega, ⟨_, rfl⟩⟩
    · rw [List.nodup_append]
      exact ⟨hn, by simp, fun a ha b hb e => by simp at hb; subst hb; exact h (e ▸ ha)⟩
    · simp at ht; rcases ht with h | h
      · exact .inl h
      · exact .inr (by simp [h])
    · simp at ht; rcases ht with h | h
      · exact .inl h
      · exact .inr ⟨m, by simp, h⟩
    · simp at ht; rcases ht with h | h
      · exact .inl h
      · exact .inr (by simp [h])
theorem visAll_ok (here : List Int) : ∀ (ms K L : LL), VisOk here ms K L (visAll here ms (K, L)).1 (visAll here ms (K, L)).2
  | [], K, L => ⟨fun _ h => h, fun _ h => h, fun h => h, fun x hx => (by cases hx), fun t ht => .inl ht, fun t ht => .inl ht, fun t ht => .inl ht, rfl, ⟨[], by simp [visAll]⟩⟩
  | m :: ms, K, L => by
    have a := vis_ok here m K L
    have b := visAll_ok here ms (vis here (K, L) m).1 (vis here (K, L) m).2
    have e : visAll here (m :: ms) (K, L) = visAll here ms ((vis here (K, L) m).1, (vis here (K, L) m).2) := rfl
    rw [e]
    refine ⟨fun t h => b.up t (a.up t h), fun t h => b.upL t (a.upL t h), fun h => b.nd (a.nd h), fun x hx => ?_, fun t ht => ?_, fun t ht => ?_, fun t ht => ?_, ?_, ?_⟩
    · rcases List.mem_cons.mp hx with rfl | hx
      · exact b.up _ (a.all _ (by simp))
      · exact b.all x hx
    · rcases b.old t ht with h | h
      · rcases a.old t h with h | h
        · exact .inl h
        · exact .inr (b.upL t h)
      · exact .inr h
    · rcases b.from_ t ht with h | ⟨x, hx, e⟩
      · rcases a.from_ t h with h | ⟨x, hx, q⟩
        · exact .inl h
        · have hx := List.mem_singleton.mp hx
          exact .inr ⟨m, by simp, by rw [q, hx]⟩
      · exact .inr ⟨x, by simp [hx], e⟩
    · rcases b.sub t ht with h | h
      · rcases a.sub t h with h | h
        · exact .inl h
        · exact .inr (b.up t h)
      · exact .inr h
    · have := a.len; have := b.len; omega
    · obtain ⟨R, hR⟩ := a.pre
      obtain ⟨S, hS⟩ := b.pre
      exact ⟨R ++ S, by rw [hS, hR, List.append_assoc]⟩
/-- the known ones, and those that wait -/
structure DInv (n : Nat) (ms K L : LL) : Prop where
  nd : K.Nodup
  base : idt n ∈ K
  sub : ∀ t ∈ L, t ∈ K
  rch : ∀ t ∈ K, Reach n ms t
  cl : ∀ t ∈ K, t ∈ L ∨ ∀ m ∈ ms, comp t m ∈ K
theorem DInv.start (n : Nat) (ms : LL) : DInv n ms [idt n] [idt n] := ⟨by simp, by simp, fun t h => h, fun t h => by simp at h; subst h; exact .id, fun t h => .inl h⟩
theorem DInv.step {n : Nat} {ms K L : LL} {here : List Int} (h : DInv n ms K (L ++ [here])) : DInv n ms (visAll here ms (K, L)).1 (visAll here ms (K, L)).2 := by
  have v := visAll_ok here ms K L
  have hk : here ∈ K := h.sub here (by simp)
  refine ⟨v.nd h.nd, v.up _ h.base, fun t ht => ?_, fun t ht => ?_, fun t ht => ?_⟩
  · rcases v.sub t ht with z | z
    · exact v.up t (h.sub t (by simp [z]))
    · exact z
  · rcases v.from_ t ht with z | ⟨m, hm, rfl⟩
    · exact h.rch t z
    · exact .step (h.rch here hk) hm
  · rcases v.old t ht with z | z
    · rcases h.cl t z with q | q
      · simp at q
        rcases q with q | rfl
        · exact .inl (v.upL t q)
        · exact .inr v.all
      · exact .inr fun m hm => v.up _ (q m hm)
    · exact .inl z
theorem closed_of {n : Nat} {ms K : LL} (nd : K.Nodup) (base : idt n ∈ K) (rch : ∀ t ∈ K, Reach n ms t) (cl : ∀ t ∈ K, ∀ m ∈ ms, comp t m ∈ K) : Clos n ms K := by
  refine ⟨nd, fun t => ⟨rch t, fun h => ?_⟩⟩
  induction h with
  | id => exact base
  | step _ hm ih => exact cl _ ih _ hm
theorem DInv.done {n : Nat} {ms K : LL} (h : DInv n ms K []) : Clos n ms K := closed_of h.nd h.base h.rch fun t ht => by
  rcases h.cl t ht with z | z
  · cases z
  · exact z
structure BInv (n : Nat) (ms F : LL) (a : Nat) : Prop where
  nd : F.Nodup
  base : idt n ∈ F
  rch : ∀ t ∈ F, Reach n ms t
  cl : ∀ (j : Nat) t, j < a → F[j]? = some t → ∀ m ∈ ms, comp t m ∈ F
theorem BInv.start (n : Nat) (ms : LL) : BInv n ms [idt n] 0 := ⟨by simp, by simp, fun t h => by simp at h; subst h; exact .id, fun j t h => by omega⟩
theorem BInv.step {n : Nat} {ms F : LL} {a : Nat} {here : List Int} (h : BInv n ms F a) (ha : F[a]? = some here) : BInv n ms (visAll here ms (F, F)).1 (a + 1) := by
  have v := visAll_ok here ms F F
  refine ⟨v.nd h.nd, v.up _ h.base, fun t ht => ?_, fun j t hj ht m hm => ?_⟩
  · rcases v.from_ t ht with z | ⟨m, hm, rfl⟩
    · exact h.rch t z
    · exact .step (h.rch here (List.mem_of_getElem? ha)) hm
  · obtain ⟨R, hR⟩ := v.pre
    have la : a < F.length := (List.getElem?_eq_some_iff.mp ha).1
    rw [hR, List.getElem?_append_left (by omega)] at ht
    by_cases e : j = a
    · subst e
      rw [ha] at ht; cases ht
      exact v.all m hm
    · exact v.up _ (h.cl j t (by omega) ht m hm)
theorem BInv.done {n : Nat} {ms F : LL} {a : Nat} (h : BInv n ms F a) (ha : F.length ≤ a) : Clos n ms F := closed_of h.nd h.base h.rch fun t ht m hm => by
  obtain ⟨j, hj, rfl⟩ := List.mem_iff_getElem.mp ht
  exact h.cl j _ (by omega) (List.getElem?_eq_getElem hj) m hm
theorem vis_same (here m : List Int) (F : LL) : (vis here (F, F) m).1 = (vis here (F, F) m).2 := by
  unfold vis
  split <;> rfl
end K09
end
section
set_option maxHeartbeats 4000000
namespace DL
open PySem PySem.Spec PyProof.Rows L2
/-- a def with defaults that are data -/
structure DefGd (P : Program) (w : World) (K : PySem.W.Frag) (mg : Str → Option Value) (base : Heap) (x : Str) (k : Nat) (ps : List Str) (φ : List Sl → Ret → Prop) (dd : List PyData) : Prop where
  ex : ∃ f fd ds dvs, GnOk P w K mg base k f fd ps (SpD K φ) ∧ mg x = some (.ref f) ∧ PySem.W.keepIn K (.ref f) = true ∧ Binds K fd ps ds ∧ Vals dvs ds ∧ ∀ G, ArgV K G (fzs dd) dvs
section
variable {X : Cx} {F : FC} {ρ ρ1 : List Sl} {e : Expr} {es : List Expr} {ss : List Sl} {s : Sl} {io : List PyData} {pos p : Pos} {x : Str} {k k' : Nat} {ps : List Str} {φ : List Sl → Ret → Prop} {dd : List PyData}
theorem ev_cld (D : DefGd X.prog X.w X.K X.mg X.base x k ps φ dd) (hr : Room k' X.A) (hk : k ≤ k') (hg : X.A.guards = some []) (ha : EvA X F (e :: es) ρ ss ρ1) (h : φ (ss ++ fzs dd) (.rt s io)) (hK : X.K = F.K := by first | rfl | assumption) (hgl : Gl X x := by rfl) (hdb : (x == ("__debug__" : Str)) = false := by decide)
    (he : starEach (e :: es) X.env = (false, eval e X.env) :: starEach es X.env := by exact star_cons rfl) (hpl : (backTo pos (starEach es X.env)).any (·.1) = false := by rfl) : EvS X F (.Call (.Name x p) (e :: es) [] pos) ρ s ρ1 := by
  obtain ⟨f, fd, ds, dvs, h1, h2, h3, h4, h5, h6⟩ := D.ex
  exact ev_call ⟨h1, h2, h3⟩ (hr.mono hk) hg h4 h5 (fun G => by rw [← hK]; exact h6 G) ha h hK hgl hdb he hpl
theorem ev_cldX {C : Addr} {fs : List (Str × PyData)} (D : DefGd X.prog X.w X.K X.mg X.base x k ps φ dd) (hr : Room k' X.A) (hk : k ≤ k') (hg : X.A.guards = some []) (ha : EvA X F (e :: es) ρ ss ρ1) (h : φ (ss ++ fzs dd) (.ex C fs io)) (hK : X.K = F.K := by first | rfl | assumption) (hgl : Gl X x := by rfl) (hdb : (x == ("__debug__" : Str)) = false := by decide)
    (he : starEach (e :: es) X.env = (false, eval e X.env) :: starEach es X.env := by exact star_cons rfl) (hpl : (backTo pos (starEach es X.env)).any (·.1) = false := by rfl) : EvX X F (.Call (.Name x p) (e :: es) [] pos) ρ C fs ρ1 := by
  obtain ⟨f, fd, ds, dvs, h1, h2, h3, h4, h5, h6⟩ := D.ex
  exact ev_callX ⟨h1, h2, h3⟩ (hr.mono hk) hg h4 h5 (fun G => by rw [← hK]; exact h6 G) ha h hK hgl hdb he hpl
variable {sts : List Stmt} {R : Out} {C : Addr} {fs : List (Str × PyData)} {c a : Expr} {d : PyData} {ds : List PyData}
/-- an expression statement raises -/
theorem st_exprX (h : EvX X F e ρ C fs ρ1) (hs : swapsWith e none pos.line X.env = pure false := by rfl) : ExB X F (.Expr e pos :: sts) ρ (.ex C fs ρ1) := exb_stop (exs_exprX h hs)
/-- tuple(x) -/
theorem ev_tpl (hm : X.mg "tuple" = none) (ha : EvD X F e ρ d ρ1) (hi : itemsD d = some ds) (hK : X.K = F.K := by first | rfl | assumption) (hgl : Gl X "tuple" := by rfl) (he : starEach [e] X.env = [(false, eval e X.env)] := by exact star_cons rfl) : EvD X F (.Call (.Name "tuple" p) [e] [] pos) ρ (.tuple ds) ρ1 := by
  cases d with
  | list l => cases hi; exact ev_tupleL hm ha hgl he
  | tuple l => cases hi; exact ev_tupleT hm ha hK hgl he
  | _ => cases hi
/-- walking a list or a tuple -/
def iSeqD (K : PySem.W.Frag) (X : Cx) (iter : Expr) : PyData → TI
  | .tuple _ => iTup K (tW X iter)
  | _ => iList K (tW X iter)
theorem src_seq {tg iter : Expr} {n : Nat} (h : EvD X F iter ρ d ρ1) (hi : itemsD d = some ds) (hK0 : X.K = F.K := by first | rfl | assumption) : Src X F tg iter (iSeqD X.K X iter d) (gName n) ρ (one n ds) ρ1 := by
  cases d with
  | list l => cases hi; exact src_list h
  | tuple l => cases hi; exact src_tup h hK0
  | _ => cases hi
end
end DL
namespace K09
open PySem PySem.Spec PyProof.Rows L2 DL
abbrev sIsWithin : Stmt := top 2
abbrev sThen : Stmt := top 31
abbrev sGroupBy : Stmt := top 32
abbrev sIsTurning : Stmt := top 39
abbrev sNeedSpots : Stmt := top 40
abbrev sNeedTurnings : Stmt := top 41
abbrev sGroup : Stmt := top 42
abbrev sNestHaving : Stmt := top 43
abbrev sAllNests : Stmt := top 44
section
variable {P : Program} {w : World} {K : PySem.W.Frag} {mg : Str → Option Value} {base : Heap} {f C fI : Addr} {fd : FuncData}
def within (d : PyData) (lo hi : Int) : Bool := match d with
  | .int i => decide (lo ≤ i) && decide (i ≤ hi)
  | _ => false
def φWithin : List Sl → Ret → Prop := fun ρ r => ∃ (d : PyData) (lo hi : Int), ρ = [.fz d, .fz (.int lo), .fz (.int hi)] ∧ r = .rt (.fz (.bool (within d lo hi))) []
theorem sc_isWithin : FnScope ["value", "least", "most"] ["value", "least", "most"] (defScope sIsWithin) := ⟨rfl, rfl, rfl, by decide +kernel, rfl, by decide +kernel, by decide +kernel⟩
theorem ok_isWithin (F : FnP K "is_within" sIsWithin f fd) (I : DefG P w K mg base "is_integer" 1 ["value"] φIsInteger) : GnOk P w K mg base 2 f fd ["value", "least", "most"] (SpD K φWithin) := by
  refine gn_data F sc_isWithin (by rintro _ _ ⟨d, lo, hi, rfl, rfl⟩; rfl) fun cdv A out s H E Fc ρ r hr hg hK h => ?_
  obtain ⟨d, lo, hi, rfl, rfl⟩ := h
  cases hd : isInteger d with
  | false =>
    have e : within d lo hi = false := by cases d <;> first | rfl | cases hd
    rw [e]
    exact ⟨_, exb_one (exs_ret (ev_andF (ev_cl I hr (by decide) hg (eva (ev_var 0 rfl) eva_nil) ⟨d, rfl, by rw [hd]⟩))), rfl, fun ds z => by cases z⟩
  | true =>
    obtain ⟨i, rfl⟩ : ∃ i, d = .int i := by cases d <;> first | exact ⟨_, rfl⟩ | cases hd
    exact ⟨_, exb_one (exs_ret (ev_andT (ev_cl I hr (by decide) hg (eva (ev_var 0 rfl) eva_nil) ⟨_, rfl, rfl⟩) (ev_one (ev_le2 (ev_var 1 rfl) (ev_var 0 rfl) (ev_var 2 rfl))))), rfl, fun ds z => by cases z⟩
def φThen : List Sl → Ret → Prop := fun ρ r => ∃ (n : Nat) (a b : List Int), ρ = [.fz (tI a), .fz (tI b)] ∧ n ≤ 5 ∧ Trn n a ∧ Trn n b ∧ r = .rt (.fz (tI (comp a b))) []
theorem sc_then : FnScope ["one", "other", "spot"] ["one", "other"] (defScope sThen) := ⟨rfl, rfl, rfl, by decide +kernel, rfl, by decide +kernel, by decide +kernel⟩
theorem at_comp {n : Nat} {b : List Int} (hb : Trn n b) {i : Int} (h : 0 ≤ i ∧ i < n) : atI (b.map PyData.int) i = some (.int (b.getD i.toNat 0)) := by
  have hl : b.length = n := hb.len
  unfold atI
  have hx : ixN (b.map PyData.int).length i = some i.toNat := by
    unfold ixN
    rw [if_pos h.1, if_pos (by rw [List.length_map]; omega)]
  rw [hx]
  show (b.map PyData.int)[i.toNat]? = _
  rw [List.getElem?_map, List.getD_eq_getElem?_getD, List.getElem?_eq_getElem (by omega)]
  rfl
/-- tuple([other[spot] for spot in one]), the names at slots -/
theorem ok_then (F : FnP K "then" sThen f fd) (B : Bl mg) : GnOk P w K mg base 1 f fd ["one", "other"] (SpD K φThen) := by
  refine gn_data F sc_then (by rintro _ _ ⟨n, a, b, rfl, _⟩; rfl) fun cdv A out s H E Fc ρ r hr hg hK h => ?_
  obtain ⟨n, a, b, rfl, h5, ha, hb, rfl⟩ := h
  have nd := sc_then.nd
  refine ⟨_, st_ret (ev_tupleL B.at (ev_fz (ev_lcm (n := 2) (g := fun d => match d with | .int i => .int (b.getD i.toNat 0) | d => d) (src_tup (ev_var 0 rfl)) (fun d hd F' hF s0 H0 C cl fp => ?_) ?_))), ?_, fun ds z => by cases z⟩
  · obtain ⟨i, hi, rfl⟩ := List.mem_map.mp hd
    exact ev_ixT (ev_var 1 rfl) (ev_var 2 rfl) (at_comp hb (ha.mem hi)) (hK.trans hF.symm)
  · rw [List.length_map, ha.len]
    exact Nat.le_trans h5 (by decide)
  · unfold comp tI
    rw [List.map_map, List.map_map]
    rfl
end
end K09
end
section
set_option maxHeartbeats 4000000
namespace K09
open PySem PySem.Spec PyProof.Rows L2 DL
/-- ints of data -/
def intsD? : List PyData → Option (List Int)
  | [] => some []
  | .int i :: ds => (intsD? ds).map (i :: ·)
  | _ :: _ => none
theorem intsD_some : ∀ {ds : List PyData} {ns : List Int}, intsD? ds = some ns → ds = ns.map PyData.int
  | [], ns, h => by cases h; rfl
  | d :: ds, ns, h => by
    cases d with
    | int i =>
      simp only [intsD?, Option.map_eq_some_iff] at h
      obtain ⟨ms, h1, rfl⟩ := h
      rw [intsD_some h1]; rfl
    | _ => cases h
theorem intsD_all : ∀ ds : List PyData, (ds.map isInteger).all id = (intsD? ds).isSome
  | [] => rfl
  | d :: ds => by
    have ih := intsD_all ds
    cases d with
    | int i =>
      show ((true && (ds.map isInteger).all id)) = ((intsD? ds).map (i :: ·)).isSome
      rw [ih, Option.isSome_map, Bool.true_and]
    | _ => rfl
instance (n : Nat) (t : List Int) : Decidable (Trn n t) := inferInstanceAs (Decidable (t.Perm (idt n)))
/-- a turning as data: its ints -/
def turn? (n : Nat) (d : PyData) : Option (List Int) := match itemsD d with
  | some ds => (match intsD? ds with
    | some ns => if Trn n ns then some ns else none
    | none => none)
  | none => none
theorem turn_some {n : Nat} {d : PyData} {ds : List PyData} {ns : List Int} (hi : itemsD d = some ds) (hz : intsD? ds = some ns) : turn? n d = if Trn n ns then some ns else none := by
  unfold turn?
  simp only [hi, hz]
theorem turn_none {n : Nat} {d : PyData} {ds : List PyData} (hi : itemsD d = some ds) (hz : intsD? ds = none) : turn? n d = none := by
  unfold turn?
  simp only [hi, hz]
def φIsTurning : List Sl → Ret → Prop := fun ρ r => ∃ (d : PyData) (n : Nat), ρ = [.fz d, .fz (.int n)] ∧ n ≤ 5 ∧ r = .rt (.fz (.bool (turn? n d).isSome)) []
theorem eqv_ints : ∀ ns ms : List Int, PyData.eqvAll (ns.map PyData.int) (ms.map PyData.int) = decide (ns = ms)
  | [], [] => rfl
  | [], _ :: _ => rfl
  | _ :: _, [] => rfl
  | n :: ns, m :: ms => by
    simp only [List.map_cons, PyData.eqvAll, eqv_ints ns ms, PyData.eqv]
    by_cases h1 : n = m
    · by_cases h2 : ns = ms
      · simp [h1, h2]
      · simp [h1, h2]
    · simp [h1]
theorem rng_idt (n : Nat) : rng 0 n = (idt n).map PyData.int := by
  unfold rng idt
  rw [List.map_map]
  apply List.map_congr_left
  intro i _
  simp
theorem idt_ord (n : Nat) : (idt n).Pairwise (· ≤ ·) := by
  unfold idt
  rw [List.pairwise_map]
  exact List.pairwise_lt_range.imp fun h => by omega
theorem sort_idt {n : Nat} {ns ms : List Int} (hp : ms.Perm ns) (ho : ms.Pairwise (· ≤ ·)) : ms = idt n ↔ Trn n ns := by
  constructor
  · rintro rfl
    exact hp.symm
  · intro h
    exact (hp.trans h).eq_of_pairwise (fun a b _ _ h1 h2 => Int.le_antisymm h1 h2) ho (idt_ord n)
def sortI (ns : List Int) : List Int := ns.mergeSort fun a b => decide (a ≤ b)
theorem sortI_perm (ns : List Int) : (sortI ns).Perm ns := List.mergeSort_perm _ _
theorem sortI_ord (ns : List Int) : (sortI ns).Pairwise (· ≤ ·) := by
  have := List.pairwise_mergeSort (le := fun a b : Int => decide (a ≤ b)) (fun a b c h1 h2 => decide_eq_true (Int.le_trans (of_decide_eq_true h1) (of_decide_eq_true h2))) (fun a b => by
    rcases Int.le_total a b with h | h
    · simp [h]
    · simp [h]) ns
  exact this.imp fun h => of_decide_eq_true h
section
variable {P : Program} {w : World} {K : PySem.W.Frag} {mg : Str → Option Value} {base : Heap} {f C fI : Addr} {fd : FuncData}
theorem sc_isTurning : FnScope ["value", "many", "one"] ["value", "many"] (defScope sIsTurning) := ⟨rfl, rfl, rfl, by decide +kernel, rfl, by decide +kernel, by decide +kernel⟩
theorem seq_items {d : PyData} (h : isSeq d = true) : ∃ ds, itemsD d = some ds := itemsD_seq h
theorem items_seq {d : PyData} {ds : List PyData} (h : itemsD d = some ds) : isSeq d = true := by cases d <;> first | rfl | cases h
theorem ok_isTurning (F : FnP K "is_turning" sIsTurning f fd) (B : Bl mg) (L : DefG P w K mg base "is_listed" 1 ["value"] φIsListed) (I : DefG P w K mg base "is_integer" 1 ["value"] φIsInteger) : GnOk P w K mg base 2 f fd ["value", "many"] (SpD K φIsTurning) := by
  refine gn_data F sc_isTurning (by rintro _ _ ⟨d, n, rfl, _⟩; rfl) fun cdv A out s H E Fc ρ r hr hg hK h => ?_
  obtain ⟨d, n, rfl, h5, rfl⟩ := h
  have nd := sc_isTurning.nd
  have hu := hr.units
  cases hs : isSeq d with
  | false =>
    have e : turn? n d = none := by cases d <;> first | rfl | cases hs
    rw [e]
    exact ⟨_, st_ifR (evt_p (evp_orT (evt_nF (evt_val (ev_cl L hr (by decide) hg (eva (ev_var 0 rfl) eva_nil) ⟨d, rfl, by rw [hs]⟩))))) (st_ret ev_bl), rfl, fun ds z => by cases z⟩
  | true =>
    obtain ⟨ds, hi⟩ := seq_items hs
    have lst : ∀ p1 p2 p3, EvT (bcx P w K mg base ["value", "many", "one"] "is_turning" (defScope sIsTurning) f cdv A out s H E) Fc (.Call (.Name "is_listed" p1) [.Name "value" p2] [] p3) [.fz d, .fz (.int n), .un] true [.fz d, .fz (.int n), .un] := fun p1 p2 p3 => evt_val (ev_cl L hr (by decide) hg (eva (ev_var 0 rfl) eva_nil) ⟨d, rfl, by rw [hs]⟩)
    by_cases hl : ds.length = n
    · cases hz : intsD? ds with
      | none =>
        have e : turn? n d = none := turn_none hi hz
        rw [e]
        refine ⟨_, st_ifR (evt_p (evp_orF (evt_nT (lst _ _ _)) (evp_orF (.to (evt_ne (ev_len B.at (ev_var 0 rfl) hi) (ev_var 1 rfl)) (by rw [hl]; simp)) (evp_or1 (evt_nF (evt_val (EvD.to (ev_all (bs := ds.map isInteger) B.at (EvD.to (ev_fz (ev_lcm (n := 2) (g := fun d => .bool (isInteger d)) (src_seq (ev_var 0 rfl) hi) (fun d hd F' hF s0 H0 C cl fp => ev_cl I hr (by decide) hg (eva (ev_var 2 rfl) eva_nil) ⟨d, rfl, rfl⟩ (hK.trans hF.symm)) ?_)) ?_)) ?_))))))) (st_ret ev_bl), rfl, fun ds z => by cases z⟩
        · rw [hl]; exact Nat.le_trans h5 (by decide)
        · rw [List.map_map]; rfl
        · rw [intsD_all, hz]; rfl
      | some ns =>
        rw [turn_some hi hz]
        have hds := intsD_some hz
        have dv : d = .list (ns.map PyData.int) ∨ d = .tuple (ns.map PyData.int) := by
          rw [hds] at hi
          cases d with
          | list l => cases hi; exact .inl rfl
          | tuple l => cases hi; exact .inr rfl
          | _ => cases hi
        refine ⟨_, st_if0 (evt_p (evp_orF (evt_nT (lst _ _ _)) (evp_orF (.to (evt_ne (ev_len B.at (ev_var 0 rfl) hi) (ev_var 1 rfl)) (by rw [hl]; simp)) (evp_or1 (evt_nT (evt_val (EvD.to (ev_all (bs := ds.map isInteger) B.at (EvD.to (ev_fz (ev_lcm (n := 2) (g := fun d => .bool (isInteger d)) (src_seq (ev_var 0 rfl) hi) (fun d hd F' hF s0 H0 C cl fp => ev_cl I hr (by decide) hg (eva (ev_var 2 rfl) eva_nil) ⟨d, rfl, rfl⟩ (hK.trans hF.symm)) ?_)) ?_)) ?_)))))))
          (st_ret (EvD.to (ev_eqD hu (ev_fz (evn_sortI B.at (ev_var 0 rfl) dv (sortI_perm ns) (sortI_ord ns))) (ev_fz (evn_listRng B.at B.at (ev_var 1 rfl) (by omega))) (ints_shaped _) (by rw [rng_idt]; exact ints_shaped _)) ?_)), rfl, fun ds z => by cases z⟩
        · rw [hl]; exact Nat.le_trans h5 (by decide)
        · rw [List.map_map]; rfl
        · rw [intsD_all, hz]; rfl
        · show PyData.bool (PyData.eqv (.list _) (.list _)) = _
          rw [rng_idt]
          show PyData.bool (PyData.eqvAll _ _) = _
          rw [eqv_ints]
          by_cases t : Trn n ns
          · rw [if_pos t, decide_eq_true ((sort_idt (sortI_perm ns) (sortI_ord ns)).mpr t)]; rfl
          · rw [if_neg t, decide_eq_false fun z => t ((sort_idt (sortI_perm ns) (sortI_ord ns)).mp z)]; rfl
    · have e : turn? n d = none := by
        cases hz : intsD? ds with
        | none => exact turn_none hi hz
        | some ns => rw [turn_some hi hz, if_neg fun t => hl (by rw [intsD_some hz, List.length_map, t.len])]
      rw [e]
      refine ⟨_, st_ifR (evt_p (evp_orF (evt_nT (lst _ _ _)) (evp_orT (.to (evt_ne (ev_len B.at (ev_var 0 rfl) hi) (ev_var 1 rfl)) ?_)))) (st_ret ev_bl), rfl, fun ds z => by cases z⟩
      have : ¬ ((ds.length : Nat) : Int) = (n : Nat) := by omega
      simpa using this
end
end K09
end
section
set_option maxHeartbeats 4000000
namespace K09
open PySem PySem.Spec PyProof.Rows L2 DL
/-- turnings as data -/
def turnsL (n : Nat) : List PyData → Option LL
  | [] => some []
  | d :: ds => (turn? n d).bind fun t => (turnsL n ds).map (t :: ·)
def turns? (n : Nat) (v : PyData) : Option LL := (itemsD v).bind (turnsL n)
theorem turnsL_all (n : Nat) : ∀ ds : List PyData, (ds.map fun d => (turn? n d).isSome).all id = (turnsL n ds).isSome
  | [] => rfl
  | d :: ds => by
    simp only [List.map_cons, List.all_cons, turnsL_all n ds, turnsL, id]
    cases turn? n d with
    | none => rfl
    | some t => simp
def toTup (d : PyData) : PyData := match itemsD d with
  | some l => .tuple l
  | none => d
theorem turn_tup {n : Nat} {d : PyData} {t : List Int} (h : turn? n d = some t) : toTup d = tI t ∧ Trn n t ∧ itemsD d = some (t.map PyData.int) := by
  cases hi : itemsD d with
  | none => unfold turn? at h; simp only [hi] at h; cases h
  | some ds =>
    cases hz : intsD? ds with
    | none => rw [turn_none hi hz] at h; cases h
    | some ns =>
      rw [turn_some hi hz] at h
      by_cases q : Trn n ns
      · rw [if_pos q] at h; cases h
        have e := intsD_some hz
        refine ⟨?_, q, by rw [e]⟩
        unfold toTup
        simp only [hi, e]
        rfl
      · rw [if_neg q] at h; cases h
theorem turnsL_some {n : Nat} : ∀ {ds : List PyData} {ms : LL}, turnsL n ds = some ms → ds.map toTup = ms.map tI ∧ (∀ m ∈ ms, Trn n m) ∧ ∀ d ∈ ds, ∃ t : List Int, itemsD d = some (t.map PyData.int) ∧ toTup d = tI t
  | [], ms, h => by cases h; exact ⟨rfl, fun m hm => (by cases hm), fun d hd => (by cases hd)⟩
  | d :: ds, ms, h => by
    simp only [turnsL, Option.bind_eq_some_iff, Option.map_eq_some_iff] at h
    obtain ⟨t, h1, ts, h2, rfl⟩ := h
    obtain ⟨a1, a2, a3⟩ := turn_tup h1
    obtain ⟨b1, b2, b3⟩ := turnsL_some h2
    refine ⟨by rw [List.map_cons, List.map_cons, a1, b1], fun m hm => ?_, fun x hx => ?_⟩
    · rcases List.mem_cons.mp hm with rfl | hm
      · exact a2
      · exact b2 m hm
    · rcases List.mem_cons.mp hx with rfl | hx
      · exact ⟨t, a3, a1⟩
      · exact b3 x hx
section
variable {P : Program} {w : World} {K : PySem.W.Frag} {mg : Str → Option Value} {base : Heap} {f C fI : Addr} {fd : FuncData}
def φNeedSpots (C : Addr) : List Sl → Ret → Prop := fun ρ r => ∃ (d : PyData) (p : Str), ρ = [.fz d, .fz (.str p)] ∧ ((within d 1 5 = true ∧ r = .rt (.fz d) []) ∨ (within d 1 5 = false ∧ r = .ex C [("part", .str p)] []))
abbrev FnPd (K : PySem.W.Frag) (x : Str) (st : Stmt) (dvs : List V) (f : Addr) (fd : FuncData) : Prop := FunD K x x (defArgs st) (defBody st) (defScope st) dvs [] f fd
theorem sc_needSpots : FnScope ["value", "part"] ["value", "part"] (defScope sNeedSpots) := ⟨rfl, rfl, rfl, by decide +kernel, rfl, by decide +kernel, by decide +kernel⟩
theorem ok_needSpots (F : FnPd K "need_spots" sNeedSpots [.str "many"] f fd) (B : Bl mg) (W : DefG P w K mg base "is_within" 2 ["value", "least", "most"] φWithin) (T : ErrT P K C fI "BadNumber.__init__") (mC : mg "BadNumber" = some (.ref C)) {t : Tok} (mM : mg "MOST_SPOTS" = some (.int 5 t)) :
    GnOk P w K mg base 3 f fd ["value", "part"] (SpD K (φNeedSpots C)) := by
  refine gn_data F sc_needSpots (by rintro _ _ ⟨d, p, rfl, _⟩; rfl) fun cdv A out s H E Fc ρ r hr hg hK h => ?_
  obtain ⟨d, p, rfl, h⟩ := h
  have five : ∀ p1, EvD (bcx P w K mg base ["value", "part"] "need_spots" (defScope sNeedSpots) f cdv A out s H E) Fc (.Name "MOST_SPOTS" p1) [.fz d, .fz (.str p)] (.int 5) [.fz d, .fz (.str p)] := fun p1 => ev_glob (v := .int 5) mM ⟨t, rfl⟩ (rp_int 5)
  rcases h with ⟨hw, rfl⟩ | ⟨hw, rfl⟩
  · exact ⟨_, st_if0 (evt_nT (evt_val (ev_cl W hr (by decide) hg (eva (ev_var 0 rfl) (eva ev_int (eva (five _) eva_nil))) ⟨d, 1, 5, rfl, by rw [hw]⟩))) (st_ret (ev_var 0 rfl)), rfl, fun ds z => by cases z⟩
  · exact ⟨_, st_ifR (evt_nF (evt_val (ev_cl W hr (by decide) hg (eva (ev_var 0 rfl) (eva ev_int (eva (five _) eva_nil))) ⟨d, 1, 5, rfl, by rw [hw]⟩))) (exb_one (exs_raise T hr mC B.at (ev_var 1 rfl))), rfl, rfl, fun ds z => by cases z⟩
def φNeedTurnings (C : Addr) : List Sl → Ret → Prop := fun ρ r => ∃ (v : PyData) (n : Nat) (p : Str), ρ = [.fz v, .fz (.int n), .fz (.str p)] ∧ n ≤ 5 ∧ (∀ ds, itemsD v = some ds → ds.length ≤ 1000) ∧
  ((∃ ms, turns? n v = some ms ∧ r = .rt (.ow false (ms.map tI)) []) ∨ (turns? n v = none ∧ r = .ex C [("part", .str p)] []))
abbrev ntN : List Str := ["value", "many", "part", "one"]
theorem sc_needTurnings : FnScope ntN ["value", "many", "part"] (defScope sNeedTurnings) := ⟨rfl, rfl, rfl, by decide +kernel, rfl, by decide +kernel, by decide +kernel⟩
theorem ok_needTurnings (F : FnP K "need_turnings" sNeedTurnings f fd) (B : Bl mg) (L : DefG P w K mg base "is_listed" 1 ["value"] φIsListed) (I : DefG P w K mg base "is_turning" 2 ["value", "many"] φIsTurning) (T : ErrT P K C fI "BadValue.__init__") (mC : mg "BadValue" = some (.ref C)) :
    GnOk P w K mg base 3 f fd ["value", "many", "part"] (SpD K (φNeedTurnings C)) := by
  refine gn_data F sc_needTurnings (by rintro _ _ ⟨v, n, p, rfl, _⟩; rfl) fun cdv A out s H E Fc ρ r hr hg hK h => ?_
  obtain ⟨v, n, p, rfl, h5, hz, h⟩ := h
  have nd := sc_needTurnings.nd
  cases hs : isSeq v with
  | false =>
    have hi : itemsD v = none := by cases v <;> first | rfl | cases hs
    have e : turns? n v = none := by unfold turns?; rw [hi]; rfl
    rcases h with ⟨ms, q, _⟩ | ⟨_, rfl⟩
    · rw [e] at q; cases q
    · exact ⟨_, st_ifR (evt_p (evp_orT (evt_nF (evt_val (ev_cl L hr (by decide) hg (eva (ev_var 0 rfl) eva_nil) ⟨v, rfl, by rw [hs]⟩))))) (exb_one (exs_raise T hr mC B.at (ev_var 2 rfl))), rfl, rfl, fun ds z => by cases z⟩
  | true =>
    obtain ⟨ds, hi⟩ := seq_items hs
    have e : turns? n v = turnsL n ds := by unfold turns?; rw [hi]; rfl
    rw [e] at h
    have hlen := hz ds hi
    have lst : ∀ p1 p2 p3, EvT (bcx P w K mg base ntN "need_turnings" (defScope sNeedTurnings) f cdv A out s H E) Fc (.Call (.Name "is_listed" p1) [.Name "value" p2] [] p3) [.fz v, .fz (.int n), .fz (.str p), .un] true [.fz v, .fz (.int n), .fz (.str p), .un] := fun p1 p2 p3 => evt_val (ev_cl L hr (by decide) hg (eva (ev_var 0 rfl) eva_nil) ⟨v, rfl, by rw [hs]⟩)
    rcases h with ⟨ms, q, rfl⟩ | ⟨q, rfl⟩
    · obtain ⟨q1, q2, q3⟩ := turnsL_some q
      refine ⟨_, st_if0 (evt_p (evp_orF (evt_nT (lst _ _ _)) (evp_or1 (evt_nT (evt_val (EvD.to (ev_all (bs := ds.map fun d => (turn? n d).isSome) B.at (EvD.to (ev_fz (ev_lcm (n := 3) (g := fun d => .bool (turn? n d).isSome) (src_seq (ev_var 0 rfl) hi) (fun d hd F' hF s0 H0 C cl fp => ev_cl I hr (by decide) hg (eva (ev_var 3 rfl) (eva (ev_var 1 rfl) eva_nil)) ⟨d, n, rfl, h5, rfl⟩ (hK.trans hF.symm)) ?_)) ?_)) ?_))))))
        (st_ret (EvS.to (ev_lcm (n := 3) (g := toTup) (src_seq (ev_var 0 rfl) hi) (fun d hd F' hF s0 H0 C cl fp => ?_) ?_) ?_)), rfl, fun ds z => by cases z⟩
      · exact Nat.le_trans hlen (by decide)
      · rw [List.map_map]; rfl
      · rw [turnsL_all, q]; rfl
      · obtain ⟨t, t1, t2⟩ := q3 d hd
        rw [t2]
        exact ev_tpl B.at (ev_var 3 rfl) t1 (hK.trans hF.symm)
      · exact Nat.le_trans hlen (by decide)
      · rw [q1]
    · refine ⟨_, st_ifR (evt_p (evp_orF (evt_nT (lst _ _ _)) (evp_or1 (evt_nF (evt_val (EvD.to (ev_all (bs := ds.map fun d => (turn? n d).isSome) B.at (EvD.to (ev_fz (ev_lcm (n := 3) (g := fun d => .bool (turn? n d).isSome) (src_seq (ev_var 0 rfl) hi) (fun d hd F' hF s0 H0 C cl fp => ev_cl I hr (by decide) hg (eva (ev_var 3 rfl) (eva (ev_var 1 rfl) eva_nil)) ⟨d, n, rfl, h5, rfl⟩ (hK.trans hF.symm)) ?_)) ?_)) ?_)))))) (exb_one (exs_raise T hr mC B.at (ev_var 2 rfl))), rfl, rfl, fun ds z => by cases z⟩
      · exact Nat.le_trans hlen (by decide)
      · rw [List.map_map]; rfl
      · rw [turnsL_all, q]; rfl
end
end K09
end
section
set_option maxHeartbeats 4000000
namespace K09
open PySem PySem.Spec PyProof.Rows L2 DL
def kv (N : LL) : List (NestedKey × PyData) := N.map fun t => (keyI t, PyData.bool true)
theorem kv_keys (N : LL) : (kv N).map (·.1) = N.map keyI := by unfold kv; rw [List.map_map]; rfl
theorem kv_snoc (N : LL) (t : List Int) : kv (N ++ [t]) = kv N ++ [(keyI t, .bool true)] := by unfold kv; rw [List.map_append]; rfl
theorem kv_mem {N : LL} {t : List Int} : keyI t ∈ (kv N).map (·.1) ↔ t ∈ N := by
  rw [kv_keys]
  constructor
  · intro h
    obtain ⟨x, hx, e⟩ := List.mem_map.mp h
    rw [← keyI_inj e]; exact hx
  · intro h
    exact List.mem_map.mpr ⟨t, h, rfl⟩
theorem kv_len (N : LL) : (kv N).length = N.length := by unfold kv; simp
abbrev gbN : List Str := ["many", "makers", "still", "known", "line", "here", "maker", "new"]
section
variable {P : Program} {w : World} {K : PySem.W.Frag} {mg : Str → Option Value} {base : Heap} {f C fI : Addr} {fd : FuncData}
theorem sc_groupBy : FnScope gbN ["many", "makers"] (defScope sGroupBy) := ⟨rfl, rfl, rfl, by decide +kernel, rfl, by decide +kernel, by decide +kernel⟩
def φGroupBy : List Sl → Ret → Prop := fun ρ r => ∃ (n : Nat) (ms : LL), ρ = [.fz (.int n), .fz (.list (ms.map tI))] ∧ 1 ≤ n ∧ n ≤ 5 ∧ (∀ m ∈ ms, Trn n m) ∧ r = .rt (.fz (.tuple ((closG n ms).map tI))) []
/-- the state within the while -/
abbrev gbS (P : Program) (w : World) (K : PySem.W.Frag) (n : Nat) (ms N L : LL) (x5 x6 x7 : Sl) : List Sl := [.fz (.int n), .fz (.list (ms.map tI)), .fz (tI (idt n)), .op (DcP P w K (kv N)), .ow false (L.map tI), x5, x6, x7]
abbrev gbX (P : Program) (w : World) (K : PySem.W.Frag) (mg : Str → Option Value) (base : Heap) (f : Addr) (cdv : Value) (A : Around) (out : List Env) (s : Shared) (H : Hp) (E : XK) : Cx := bcx P w K mg base gbN "group_by" (defScope sGroupBy) f cdv A out s H E
abbrev gbW : Stmt := (defBody sGroupBy).getD 2 (.Pass ⟨0, 0, 0, 0⟩)
abbrev gbB : List Stmt := bodyWhile gbW
variable {cdv : Value} {A : Around} {out : List Env} {s : Shared} {H : Hp} {E : XK} {F : FC}
theorem gb_body (T : DefG P w K mg base "then" 1 ["one", "other"] φThen) (hK : K = F.K) (hr : Room 1 (A.deeper (envOfC "group_by" (defScope sGroupBy) s.heap.objs.size f cdv))) (hg : A.guards = some []) {n : Nat} {ms N L : LL} {here : List Int} (h5 : n ≤ 5) (hm : ∀ m ∈ ms, Trn n m) (D : DInv n ms N (L ++ [here])) (hL : L.length ≤ 1000) (x5 x6 x7 : Sl) :
    ∃ y6 y7, ExB (gbX P w K mg base f cdv A out s H E) F gbB (gbS P w K n ms N (L ++ [here]) x5 x6 x7) (.nx (gbS P w K n ms (visAll here ms (N, L)).1 (visAll here ms (N, L)).2 (.fz (tI here)) y6 y7)) := by
  have nd := sc_groupBy.nd
  have hu : (gbX P w K mg base f cdv A out s H E).A.units + 64 < cLine := hr.units
  have hh : Trn n here := (D.rch here (D.sub here (by simp))).trn hm
  have hN : ∀ j, (∀ t ∈ (visAll here (ms.take j) (N, L)).1, Trn n t) ∧ (visAll here (ms.take j) (N, L)).1.Nodup ∧ (visAll here (ms.take j) (N, L)).2.length ≤ L.length + (visAll here (ms.take j) (N, L)).1.length := fun j => by
    have v := visAll_ok here (ms.take j) N L
    refine ⟨fun t ht => ?_, v.nd D.nd, by have := v.len; omega⟩
    rcases v.from_ t ht with z | ⟨m, hmm, rfl⟩
    · exact (D.rch t z).trn hm
    · exact hh.comp (hm m (List.mem_of_mem_take hmm))
  obtain ⟨ρ', ⟨y6, y7, e⟩, loop⟩ := for_pred (X := gbX P w K mg base f cdv A out s H E) (F := F) (body := bodyFor (gbB.getD 1 (.Pass ⟨0, 0, 0, 0⟩))) (n := 6) (ds := ms.map tI)
    (fun j ρ => ∃ y6 y7, ρ = gbS P w K n ms (visAll here (ms.take j) (N, L)).1 (visAll here (ms.take j) (N, L)).2 (.fz (tI here)) y6 y7) (fun j d ρ hd hj => by
      obtain ⟨y6, y7, rfl⟩ := hj
      rw [List.getElem?_map] at hd
      obtain ⟨m, hmj, rfl⟩ := Option.map_eq_some_iff.mp hd
      have hmm : m ∈ ms := List.mem_of_getElem? hmj
      have et : ms.take (j + 1) = ms.take j ++ [m] := by
        rw [List.take_succ, hmj]; rfl
      have ev : visAll here (ms.take (j + 1)) (N, L) = vis here (visAll here (ms.take j) (N, L)) m := by
        unfold visAll
        rw [et, List.foldl_append]; rfl
      rw [ev]
      obtain ⟨tr, ndN, lL⟩ := hN j
      generalize visAll here (ms.take j) (N, L) = st at tr ndN lL
      obtain ⟨N1, L1⟩ := st
      have hc : Trn n (comp here m) := hh.comp (hm m hmm)
      refine ⟨_, ⟨.fz (tI m), .fz (tI (comp here m)), rfl⟩, ?_⟩
      by_cases hin : comp here m ∈ N1
      · have e1 : vis here (N1, L1) m = (N1, L1) := if_pos hin
        rw [e1]
        refine st_set 7 (ev_cl T hr (by decide) hg (eva (ev_var 5 rfl) (eva (ev_var 6 rfl) eva_nil)) ⟨n, here, m, rfl, h5, hh, hm m hmm, rfl⟩) (st_if0 (EvT.to (evt_notInD (ks := (comp here m).map NestedKey.num) 3 (by omega) (EvD.to (ev_var 7 rfl) (keyI_data _).symm) rfl (keyI_depth _)) ?_) exb_nil)
        have : keyI (comp here m) ∈ (kv N1).map (·.1) := kv_mem.mpr hin
        simpa [keyI] using this
      · have e1 : vis here (N1, L1) m = (N1 ++ [comp here m], L1 ++ [comp here m]) := if_neg hin
        rw [e1]
        have hz := few h5 ndN tr
        have hnk : keyI (comp here m) ∉ (kv N1).map (·.1) := fun z => hin (kv_mem.mp z)
        refine st_set 7 (ev_cl T hr (by decide) hg (eva (ev_var 5 rfl) (eva (ev_var 6 rfl) eva_nil)) ⟨n, here, m, rfl, h5, hh, hm m hmm, rfl⟩) (st_ifT (EvT.to (evt_notInD (ks := (comp here m).map NestedKey.num) 3 (by omega) (EvD.to (ev_var 7 rfl) (keyI_data _).symm) rfl (keyI_depth _)) ?_)
          (exb_cons (exs_dput (ks := (comp here m).map NestedKey.num) 3 (by omega) ev_bl rfl (EvD.to (ev_var 7 rfl) (keyI_data _).symm) rfl hnk (keyI_depth _) ?_) (st_expr (ev_append 4 rfl (ev_var 7 rfl) rfl ?_) (ExB.res exb_nil ?_))) exb_nil)
        · simpa [keyI] using hnk
        · rw [kv_len]; exact Nat.lt_of_le_of_lt hz (by decide)
        · rw [List.length_map]
          have lL : L1.length ≤ L.length + N1.length := lL
          have hz : N1.length ≤ 120 := hz
          show L1.length < sizeLine
          rw [sizeLine_eq]
          omega
        · show _ = Out.nx (gbS P w K n ms (N1 ++ [comp here m]) (L1 ++ [comp here m]) _ _ _)
          simp only [gbS, kv_snoc, List.map_append]
          rfl)
    (gbS P w K n ms N L (.fz (tI here)) x6 x7) ⟨x6, x7, rfl⟩
  rw [List.length_map] at e
  have et : ms.take ms.length = ms := List.take_length
  rw [et] at e
  subst e
  refine ⟨y6, y7, st_set 5 (EvS.rho (ρ2 := gbS P w K n ms N L x5 x6 x7) (ev_pop (d := tI here) 4 rfl ?_) ?_) (st_for (n := 6) (src_list (ev_var 1 rfl)) loop exb_nil)⟩
  · rw [List.map_append, List.length_append]
    simp
  · rw [List.map_append, List.map_cons, List.map_nil, List.dropLast_concat]
    rfl
end
end K09
end
section
set_option maxHeartbeats 4000000
namespace K09
open PySem PySem.Spec PyProof.Rows L2 DL
section
variable {P : Program} {w : World} {K : PySem.W.Frag} {mg : Str → Option Value} {base : Heap} {f C C2 fI : Addr} {fd : FuncData}
variable {cdv : Value} {A : Around} {out : List Env} {s : Shared} {H : Hp} {E : XK} {F : FC}
theorem eqv_nil (L : LL) : (!PyData.eqv (.list (L.map tI)) (.list [])) = !L.isEmpty := by
  cases L <;> rfl
theorem gb_while (T : DefG P w K mg base "then" 1 ["one", "other"] φThen) (hK : K = F.K) (hr : Room 1 (A.deeper (envOfC "group_by" (defScope sGroupBy) s.heap.objs.size f cdv))) (hg : A.guards = some []) {n : Nat} {ms : LL} (h5 : n ≤ 5) (hm : ∀ m ∈ ms, Trn n m) :
    ∀ (μ : Nat) (N L : LL) (x5 x6 x7 : Sl), DInv n ms N L → L.length + 2 * (120 - N.length) ≤ μ → μ ≤ 1000 → ∃ N' y5 y6 y7, Clos n ms N' ∧ WhileD (gbX P w K mg base f cdv A out s H E) F (testWhile gbW) gbB μ (gbS P w K n ms N L x5 x6 x7) (.nx (gbS P w K n ms N' [] y5 y6 y7)) := by
  have hu : (gbX P w K mg base f cdv A out s H E).A.units + 64 < cLine := hr.units
  intro μ
  induction μ with
  | zero =>
    intro N L x5 x6 x7 D h hμ
    obtain rfl : L = [] := List.length_eq_zero_iff.mp (by omega)
    exact ⟨N, x5, x6, x7, D.done, .stop (EvT.to (evt_neOw0 4 (by omega) rfl (tups_shaped [])) (eqv_nil []))⟩
  | succ μ ih =>
    intro N L x5 x6 x7 D h hμ
    rcases List.eq_nil_or_concat L with rfl | ⟨L', here, e⟩
    · exact ⟨N, x5, x6, x7, D.done, .stop (EvT.to (evt_neOw0 4 (by omega) rfl (tups_shaped [])) (eqv_nil []))⟩
    · rw [List.concat_eq_append] at e
      subst e
      have h' := h
      rw [List.length_append] at h'
      simp only [List.length_cons, List.length_nil] at h'
      obtain ⟨y6, y7, eb⟩ := gb_body (P := P) (w := w) (mg := mg) (base := base) (f := f) (cdv := cdv) (A := A) (out := out) (s := s) (H := H) (E := E) T hK hr hg h5 hm D (by omega) x5 x6 x7
      have v := visAll_ok here ms N L'
      have D' := D.step
      have few1 := few h5 D'.nd fun t ht => (D'.rch t ht).trn hm
      have few0 := few h5 D.nd fun t ht => (D.rch t ht).trn hm
      have lv := v.len
      obtain ⟨R, hR⟩ := v.pre
      have lp : N.length ≤ (visAll here ms (N, L')).1.length := by rw [hR, List.length_append]; omega
      obtain ⟨N', z5, z6, z7, c, wl⟩ := ih (visAll here ms (N, L')).1 (visAll here ms (N, L')).2 (.fz (tI here)) y6 y7 D' (by omega) (by omega)
      refine ⟨N', z5, z6, z7, c, .next (EvT.to (evt_neOw0 4 (by omega) rfl (tups_shaped (L' ++ [here]))) ?_) eb wl⟩
      rw [eqv_nil]
      cases L' <;> rfl
theorem ok_groupBy (F : FnP K "group_by" sGroupBy f fd) (B : Bl mg) (T : DefG P w K mg base "then" 1 ["one", "other"] φThen) : GnOk P w K mg base 2 f fd ["many", "makers"] (SpD K φGroupBy) := by
  refine gn_data F sc_groupBy (by rintro _ _ ⟨n, ms, rfl, _⟩; rfl) fun cdv A out s H E Fc ρ r hr hg hK h => ?_
  obtain ⟨n, ms, rfl, h1, h5, hm, rfl⟩ := h
  have nd := sc_groupBy.nd
  have hu : (bcx P w K mg base gbN "group_by" (defScope sGroupBy) f cdv A out s H E).A.units + 64 < cLine := hr.units
  obtain ⟨N', y5, y6, y7, c, wl⟩ := gb_while (P := P) (w := w) (K := K) (mg := mg) (base := base) (f := f) (cdv := cdv) (A := A) (out := out) (s := s) (H := H) (E := E) (F := Fc) T hK hr hg h5 hm 1000 [idt n] [idt n] .un .un .un (DInv.start n ms) (by simp) (by omega)
  have sd := srtD_ex N'
  have ec : closG n ms = N'.mergeSort leC := closG_eq h1 h5 hm ⟨N', c, sd⟩
  rw [ec]
  refine ⟨_, st_set 2 (EvD.to (ev_tupRng (m := n) B.at B.at (ev_var 0 rfl) (by omega)) (show PyData.tuple (rng 0 n) = tI (idt n) by rw [rng_idt]; rfl)) (exb_cons (exs_par2 3 4 (s1 := .op (DcP P w K (kv [idt n]))) (s2 := .ow false ([idt n].map tI)) (ev_dict1 (ks := (idt n).map NestedKey.num) (d := .bool true) (by omega) (fun F' hF => EvD.to (ev_var 2 rfl) (keyI_data _).symm) (fun F' hF => ev_bl) (keyI_depth _)) (fun F' hF => ev_ls (evd (ev_var 2 rfl) evd_nil)) (Nat.le_of_ble_eq_true rfl) (Nat.le_of_ble_eq_true rfl) nd)
    (st_while wl (st_ret (ev_tupleL B.at (ev_fz (evn_sortD 3 B.at rfl (kv_keys N') (tupsD_of h1 h5 fun t ht => ((c.iff t).mp ht).trn hm) sd)))))), rfl, fun ds z => by cases z⟩
def φGroup (C C2 : Addr) : List Sl → Ret → Prop := fun ρ r => ∃ (d v : PyData), ρ = [.fz d, .fz v] ∧ (∀ ds, itemsD v = some ds → ds.length ≤ 1000) ∧
  ((within d 1 5 = false ∧ r = .ex C [("part", .str "many")] []) ∨ ∃ n : Nat, d = .int n ∧ 1 ≤ n ∧ n ≤ 5 ∧ ((turns? n v = none ∧ r = .ex C2 [("part", .str "makers")] []) ∨ ∃ ms, turns? n v = some ms ∧ r = .rt (.fz (.tuple ((closG n ms).map tI))) []))
theorem sc_group : FnScope ["many", "makers"] ["many", "makers"] (defScope sGroup) := ⟨rfl, rfl, rfl, by decide +kernel, rfl, by decide +kernel, by decide +kernel⟩
theorem turns_trn {n : Nat} {v : PyData} {ms : LL} (h : turns? n v = some ms) : ∀ m ∈ ms, Trn n m := by
  unfold turns? at h
  obtain ⟨ds, _, h2⟩ := Option.bind_eq_some_iff.mp h
  exact (turnsL_some h2).2.1
theorem ok_group (F : FnP K "group" sGroup f fd) (N1 : DefGd P w K mg base "need_spots" 3 ["value", "part"] (φNeedSpots C) [.str "many"]) (N2 : DefG P w K mg base "need_turnings" 3 ["value", "many", "part"] (φNeedTurnings C2)) (G : DefG P w K mg base "group_by" 2 ["many", "makers"] φGroupBy) :
    GnOk P w K mg base 4 f fd ["many", "makers"] (SpD K (φGroup C C2)) := by
  refine gn_data F sc_group (by rintro _ _ ⟨d, v, rfl, _⟩; rfl) fun cdv A out s H E Fc ρ r hr hg hK h => ?_
  obtain ⟨d, v, rfl, hz, h⟩ := h
  rcases h with ⟨hw, rfl⟩ | ⟨n, rfl, h1, h5, ⟨q, rfl⟩ | ⟨ms, q, rfl⟩⟩
  · exact ⟨_, st_exprX (ev_cldX N1 hr (by decide) hg (eva (ev_var 0 rfl) eva_nil) ⟨d, "many", rfl, .inr ⟨hw, rfl⟩⟩), rfl, rfl, fun ds z => by cases z⟩
  · have hw : within (.int n) 1 5 = true := by simp [within]; omega
    obtain ⟨fg, fdg, _, gm, gk, _⟩ := G.ex
    exact ⟨_, st_expr (ev_cld N1 hr (by decide) hg (eva (ev_var 0 rfl) eva_nil) ⟨.int n, "many", rfl, .inl ⟨hw, rfl⟩⟩) (st_retX (ev_clAX gm gk (evax_next (ev_var 0 rfl) (evax_here (ev_clX N2 hr (by decide) hg (eva (ev_var 1 rfl) (eva (ev_var 0 rfl) (eva ev_str eva_nil))) ⟨v, n, "makers", rfl, h5, hz, .inr ⟨q, rfl⟩⟩))))), rfl, rfl, fun ds z => by cases z⟩
  · have hw : within (.int n) 1 5 = true := by simp [within]; omega
    exact ⟨_, st_expr (ev_cld N1 hr (by decide) hg (eva (ev_var 0 rfl) eva_nil) ⟨.int n, "many", rfl, .inl ⟨hw, rfl⟩⟩) (st_ret (ev_cl G hr (by decide) hg (eva (ev_var 0 rfl) (eva (ev_fz (ev_cl N2 hr (by decide) hg (eva (ev_var 1 rfl) (eva (ev_var 0 rfl) (eva ev_str eva_nil))) ⟨v, n, "makers", rfl, h5, hz, .inl ⟨ms, q, rfl⟩⟩)) eva_nil)) ⟨n, ms, rfl, h1, h5, turns_trn q, rfl⟩)), rfl, fun ds z => by cases z⟩
end
end K09
end
section
set_option maxHeartbeats 4000000
namespace K09
open PySem PySem.Spec PyProof.Rows L2 DL
section
variable {P : Program} {w : World} {K : PySem.W.Frag} {mg : Str → Option Value} {base : Heap} {f C C2 fI : Addr} {fd : FuncData}
def φNestHaving (C C2 : Addr) : List Sl → Ret → Prop := fun ρ r => ∃ (d v : PyData), ρ = [.fz d, .fz v] ∧ (∀ ds, itemsD v = some ds → ds.length ≤ 1000) ∧
  ((within d 1 5 = false ∧ r = .ex C [("part", .str "many")] []) ∨ ∃ n : Nat, d = .int n ∧ 1 ≤ n ∧ n ≤ 5 ∧ turns? n v = none ∧ r = .ex C2 [("part", .str "wanted")] [])
theorem sc_nestHaving : FnScope ["many", "wanted", "told", "one"] ["many", "wanted"] (defScope sNestHaving) := ⟨rfl, rfl, rfl, by decide +kernel, rfl, by decide +kernel, by decide +kernel⟩
theorem ok_nestHaving (F : FnP K "nest_having" sNestHaving f fd) (N1 : DefGd P w K mg base "need_spots" 3 ["value", "part"] (φNeedSpots C) [.str "many"]) (N2 : DefG P w K mg base "need_turnings" 3 ["value", "many", "part"] (φNeedTurnings C2)) :
    GnOk P w K mg base 4 f fd ["many", "wanted"] (SpD K (φNestHaving C C2)) := by
  refine gn_data F sc_nestHaving (by rintro _ _ ⟨d, v, rfl, _⟩; rfl) fun cdv A out s H E Fc ρ r hr hg hK h => ?_
  obtain ⟨d, v, rfl, hz, h⟩ := h
  have nd := sc_nestHaving.nd
  rcases h with ⟨hw, rfl⟩ | ⟨n, rfl, h1, h5, q, rfl⟩
  · exact ⟨_, st_exprX (ev_cldX N1 hr (by decide) hg (eva (ev_var 0 rfl) eva_nil) ⟨d, "many", rfl, .inr ⟨hw, rfl⟩⟩), rfl, rfl, fun ds z => by cases z⟩
  · have hw : within (.int n) 1 5 = true := by simp [within]; omega
    exact ⟨_, st_expr (ev_cld N1 hr (by decide) hg (eva (ev_var 0 rfl) eva_nil) ⟨.int n, "many", rfl, .inl ⟨hw, rfl⟩⟩) (exb_stop (exs_setX 2 (ev_clX N2 hr (by decide) hg (eva (ev_var 1 rfl) (eva (ev_var 0 rfl) (eva ev_str eva_nil))) ⟨v, n, "wanted", rfl, h5, hz, .inr ⟨q, rfl⟩⟩) nd)), rfl, rfl, fun ds z => by cases z⟩
def φAllNests (C : Addr) : List Sl → Ret → Prop := fun ρ r => ∃ d : PyData, ρ = [.fz d] ∧ within d 1 5 = false ∧ r = .ex C [("part", .str "many")] []
abbrev anN : List Str := ["many", "known", "nest", "spots"]
theorem sc_allNests : FnScope anN ["many"] (defScope sAllNests) := ⟨rfl, rfl, rfl, by decide +kernel, rfl, by decide +kernel, by decide +kernel⟩
theorem ok_allNests (F : FnP K "all_nests" sAllNests f fd) (N1 : DefGd P w K mg base "need_spots" 3 ["value", "part"] (φNeedSpots C) [.str "many"]) : GnOk P w K mg base 4 f fd ["many"] (SpD K (φAllNests C)) := by
  refine gn_data F sc_allNests (by rintro _ _ ⟨d, rfl, _⟩; rfl) fun cdv A out s H E Fc ρ r hr hg hK h => ?_
  obtain ⟨d, rfl, hw, rfl⟩ := h
  exact ⟨_, st_exprX (ev_cldX N1 hr (by decide) hg (eva (ev_var 0 rfl) eva_nil) ⟨d, "many", rfl, .inr ⟨hw, rfl⟩⟩), rfl, rfl, fun ds z => by cases z⟩
abbrev sMixed : Stmt := top 49
/-- what is drawn one by one -/
def Pen.mix (p : Pen) (rest : List PyData) : Nat → List PyData × Pen
  | 0 => ([], p)
  | k + 1 => (rest.getD (p.draw rest.length).1.toNat .none :: ((p.draw rest.length).2.mix (rest.eraseIdx (p.draw rest.length).1.toNat) k).1, ((p.draw rest.length).2.mix (rest.eraseIdx (p.draw rest.length).1.toNat) k).2)
theorem cons_erase {α : Type} : ∀ {l : List α} {i : Nat} (h : i < l.length), (l[i] :: l.eraseIdx i).Perm l
  | [], i, h => by simp at h
  | a :: l, 0, h => .refl _
  | a :: l, i + 1, h => by
    simp only [List.getElem_cons_succ, List.eraseIdx_cons_succ]
    exact (List.Perm.swap _ _ _).trans (.cons _ (cons_erase (by simpa using h)))
theorem mix_perm : ∀ (k : Nat) (p : Pen) (rest : List PyData), rest.length = k → (p.mix rest k).1.Perm rest
  | 0, p, rest, h => by rw [List.length_eq_zero_iff.mp h]; exact .refl _
  | k + 1, p, rest, h => by
    obtain ⟨h0, h1⟩ := draw_lt p (m := rest.length) (by omega)
    have hlt : (p.draw rest.length).1.toNat < rest.length := by omega
    have ih := mix_perm k (p.draw rest.length).2 (rest.eraseIdx (p.draw rest.length).1.toNat) (by rw [List.length_eraseIdx]; simp [hlt]; omega)
    unfold Pen.mix
    refine (List.Perm.cons _ ih).trans ?_
    rw [List.getD_eq_getElem?_getD, List.getElem?_eq_getElem hlt]
    exact cons_erase hlt
theorem mix_ok : ∀ (k : Nat) (p : Pen) (rest : List PyData) (n : Int), rest.length = k → p.ok n → (k : Int) ≤ n → (p.mix rest k).2.ok (n - k)
  | 0, p, rest, n, h, hp, _ => by simpa [Pen.mix] using hp
  | k + 1, p, rest, n, h, hp, hk => by
    obtain ⟨h0, h1⟩ := draw_lt p (m := rest.length) (by omega)
    have hlt : (p.draw rest.length).1.toNat < rest.length := by omega
    have := mix_ok k (p.draw rest.length).2 (rest.eraseIdx (p.draw rest.length).1.toNat) (n - 1) (by rw [List.length_eraseIdx]; simp [hlt]; omega) (draw_ok (m := rest.length) hp (by omega) (by omega)) (by omega)
    unfold Pen.mix
    rw [show n - ((k + 1 : Nat) : Int) = n - 1 - (k : Nat) by omega]
    exact this
def φMixed : List Sl → Ret → Prop := fun ρ r => ∃ (p : Pen) (ds : List PyData), ρ = [.ow true p.ds, .fz (.list ds)] ∧ p.ok ds.length ∧ ds.length ≤ 1000 ∧ r = .rt (.ow false (p.mix ds ds.length).1) (p.mix ds ds.length).2.ds
abbrev mxN : List Str := ["pen", "some", "rest", "found", "at"]
theorem sc_mixed : FnScope mxN ["pen", "some"] (defScope sMixed) := ⟨rfl, rfl, rfl, by decide +kernel, rfl, by decide +kernel, by decide +kernel⟩
theorem ok_mixed (F : FnP K "_law_mixed" sMixed f fd) (B : Bl mg) (D : DefG P w K mg base "_law_draw" 1 ["pen", "many"] φDraw) : GnOk P w K mg base 2 f fd ["pen", "some"] (SpD K φMixed) := by
  refine gn_data F sc_mixed (by rintro _ _ ⟨p, ds, rfl, _⟩; rfl) fun cdv A out s H E Fc ρ r hr hg hK h => ?_
  obtain ⟨p, ds, rfl, hp, hl, rfl⟩ := h
  have nd := sc_mixed.nd
  -- the rounds
  have loop : ∀ (k : Nat) (q : Pen) (rest found : List PyData) (x4 : Sl) (j : Nat), rest.length = k → q.ok k → found.length + k ≤ 1000 → ∃ x4', ForD (bcx P w K mg base mxN "_law_mixed" (defScope sMixed) f cdv A out s H E) Fc (bodyFor ((defBody sMixed).getD 1 (.Pass ⟨0, 0, 0, 0⟩))) (one 4 ((List.range' j k).map fun i => .int (0 + (i : Nat)))) [.ow true q.ds, .fz (.list ds), .ow false rest, .ow false found, x4]
      (.nx [.ow true (q.mix rest k).2.ds, .fz (.list ds), .ow false [], .ow false (found ++ (q.mix rest k).1), x4']) := by
    intro k
    induction k with
    | zero =>
      intro q rest found x4 j h hq hz
      obtain rfl : rest = [] := List.length_eq_zero_iff.mp h
      exact ⟨x4, by simpa [Pen.mix, one] using ForD.nil⟩
    | succ k ih =>
      intro q rest found x4 j h hq hz
      obtain ⟨h0, h1⟩ := draw_lt q (m := rest.length) (by omega)
      have hlt : (q.draw rest.length).1.toNat < rest.length := by omega
      obtain ⟨x4', fi⟩ := ih (q.draw rest.length).2 (rest.eraseIdx (q.draw rest.length).1.toNat) (found ++ [rest.getD (q.draw rest.length).1.toNat .none]) (.fz (.int (0 + (j : Nat)))) (j + 1) (by rw [List.length_eraseIdx]; simp [hlt]; omega) (by have := draw_ok (m := rest.length) hq (by omega) (by omega); exact this.mono (by omega)) (by simp; omega)
      refine ⟨x4', ?_⟩
      rw [List.range'_succ, List.map_cons]
      have e1 : (q.mix rest (k + 1)) = (rest.getD (q.draw rest.length).1.toNat .none :: ((q.draw rest.length).2.mix (rest.eraseIdx (q.draw rest.length).1.toNat) k).1, ((q.draw rest.length).2.mix (rest.eraseIdx (q.draw rest.length).1.toNat) k).2) := rfl
      rw [e1]
      rw [List.append_assoc] at fi
      refine ForD.next ?_ fi
      refine st_expr (ev_append 3 rfl (ev_popAt (j := (q.draw rest.length).1.toNat) 2 rfl (ev_clIO 0 D hr (by decide) hg (eva (ev_lenO 2 B.at rfl) eva_nil) rfl rfl ⟨q, _, rfl, hq.mono (by omega), by omega, log_small (by omega), rfl⟩) rfl ?_ ?_ ?_) rfl ?_) exb_nil
      · omega
      · have e : ¬ (q.draw rest.length).1 < 0 := by omega
        show seqIndex? (q.draw rest.length).1 rest.length = _
        unfold seqIndex?
        rw [if_neg e]
        simp [h0, h1]
      · rw [List.getD_eq_getElem?_getD, List.getElem?_eq_getElem hlt]; rfl
      · rw [sizeLine_eq]; omega
  obtain ⟨x4', lp⟩ := loop ds.length p ds [] .un 0 rfl hp (by simpa using hl)
  have er : ∀ k : Nat, ((List.range' 0 k).map fun i => PyData.int (0 + (i : Nat))) = rng 0 k := fun k => by rw [← List.range_eq_range']; rfl
  rw [er, List.nil_append] at lp
  refine ⟨_, exb_cons (exs_par2 2 3 (s1 := .ow false ds) (s2 := .ow false []) (evn_listL B.at (ev_var 1 rfl)) (fun F' hF => ev_ls evd_nil) (Nat.le_of_ble_eq_true rfl) (Nat.le_of_ble_eq_true rfl) nd) (st_for (n := 4) (ds := rng 0 ds.length) (src_range1 B.at (ev_lenO 2 B.at rfl) (by omega) (by omega)) lp (st_ret (ev_own 3 rfl))), rfl, fun _ _ => rfl⟩
end
end K09
end
section
set_option maxHeartbeats 4000000
namespace K09
open PySem PySem.Spec PyProof.Rows L2 DL
abbrev sListed : Stmt := top 51
abbrev sClosed : Stmt := top 52
section
variable {P : Program} {w : World} {K : PySem.W.Frag} {mg : Str → Option Value} {base : Heap} {f C C2 fI : Addr} {fd : FuncData}
def lI (ns : List Int) : PyData := .list (ns.map PyData.int)
def φL0 : List Sl → Ret → Prop := fun ρ r => ∃ i : Int, ρ = [.fz (.int i)] ∧ r = .rt (.fz (.int i)) []
def φL1 : List Sl → Ret → Prop := fun ρ r => ∃ ns : List Int, ρ = [.fz (tI ns)] ∧ ns.length ≤ 1000 ∧ r = .rt (.ow false (ns.map PyData.int)) []
def φL2 : List Sl → Ret → Prop := fun ρ r => ∃ nss : LL, ρ = [.fz (.list (nss.map tI))] ∧ nss.length ≤ 1000 ∧ (∀ ns ∈ nss, ns.length ≤ 1000) ∧ r = .rt (.ow false (nss.map lI)) []
theorem sc_listed : FnScope ["value", "one"] ["value"] (defScope sListed) := ⟨rfl, rfl, rfl, by decide +kernel, rfl, by decide +kernel, by decide +kernel⟩
theorem ok_L0 (F : FnP K "_law_listed" sListed f fd) (B : Bl mg) : GnOk P w K mg base 1 f fd ["value"] (SpD K φL0) := by
  refine gn_data F sc_listed (by rintro _ _ ⟨i, rfl, _⟩; rfl) fun cdv A out s H E Fc ρ r hr hg hK h => ?_
  obtain ⟨i, rfl, rfl⟩ := h
  have nd := sc_listed.nd
  exact ⟨_, st_ret (ev_ifF (evt_val (EvD.to (ev_isi2 B.at (ev_var 0 rfl) B.at (by decide +kernel) B.at (by decide +kernel) (kit_list _) (kit_tuple _)) rfl)) (ev_var 0 rfl)), rfl, fun ds z => by cases z⟩
theorem ok_L1 (F : FnP K "_law_listed" sListed f fd) (B : Bl mg) (L : DefG P w K mg base "_law_listed" 1 ["value"] φL0) : GnOk P w K mg base 2 f fd ["value"] (SpD K φL1) := by
  refine gn_data F sc_listed (by rintro _ _ ⟨i, rfl, _⟩; rfl) fun cdv A out s H E Fc ρ r hr hg hK h => ?_
  obtain ⟨ns, rfl, hz, rfl⟩ := h
  have nd := sc_listed.nd
  refine ⟨_, st_ret (ev_ifT (evt_val (EvD.to (ev_isi2 B.at (ev_var 0 rfl) B.at (by decide +kernel) B.at (by decide +kernel) (kit_list _) (kit_tuple _)) rfl)) (EvS.to (ev_lcm (n := 1) (g := fun d => d) (src_tup (ev_var 0 rfl)) (fun d hd F' hF s0 H0 C cl fp => ?_) ?_) ?_)), rfl, fun ds z => by cases z⟩
  · obtain ⟨i, hi, rfl⟩ := List.mem_map.mp hd
    exact ev_cl L hr (by decide) hg (eva (ev_var 1 rfl) eva_nil) ⟨i, rfl, rfl⟩ (hK.trans hF.symm)
  · rw [List.length_map]; exact Nat.le_trans hz (by decide)
  · rw [List.map_id'']; intro x; rfl
theorem ok_L2 (F : FnP K "_law_listed" sListed f fd) (B : Bl mg) (L : DefG P w K mg base "_law_listed" 2 ["value"] φL1) : GnOk P w K mg base 3 f fd ["value"] (SpD K φL2) := by
  refine gn_data F sc_listed (by rintro _ _ ⟨i, rfl, _⟩; rfl) fun cdv A out s H E Fc ρ r hr hg hK h => ?_
  obtain ⟨nss, rfl, hz, hz2, rfl⟩ := h
  have nd := sc_listed.nd
  refine ⟨_, st_ret (ev_ifT (evt_val (EvD.to (ev_isi2 B.at (ev_var 0 rfl) B.at (by decide +kernel) B.at (by decide +kernel) (kit_list _) (kit_tuple _)) rfl)) (EvS.to (ev_lcm (n := 1) (g := fun d => match d with | .tuple l => .list l | d => d) (src_list (ev_var 0 rfl)) (fun d hd F' hF s0 H0 C cl fp => ?_) ?_) ?_)), rfl, fun ds z => by cases z⟩
  · obtain ⟨ns, hi, rfl⟩ := List.mem_map.mp hd
    exact ev_fz (ev_cl L hr (by decide) hg (eva (ev_var 1 rfl) eva_nil) ⟨ns, rfl, hz2 ns hi, rfl⟩ (hK.trans hF.symm))
  · rw [List.length_map]; exact Nat.le_trans hz (by decide)
  · rw [List.map_map]; rfl
abbrev clN : List Str := ["many", "makers", "found", "at", "known", "turn", "here", "maker", "new", "spot"]
theorem sc_closed : FnScope clN ["many", "makers"] (defScope sClosed) := ⟨rfl, rfl, rfl, by decide +kernel, rfl, by decide +kernel, by decide +kernel⟩
def φClosed : List Sl → Ret → Prop := fun ρ r => ∃ (n : Nat) (ms : LL), ρ = [.fz (.int n), .fz (.list (ms.map tI))] ∧ 1 ≤ n ∧ n ≤ 5 ∧ (∀ m ∈ ms, Trn n m) ∧ r = .rt (.ow false ((closG n ms).map tI)) []
abbrev clX (P : Program) (w : World) (K : PySem.W.Frag) (mg : Str → Option Value) (base : Heap) (f : Addr) (cdv : Value) (A : Around) (out : List Env) (s : Shared) (H : Hp) (E : XK) : Cx := bcx P w K mg base clN "_law_b_closed" (defScope sClosed) f cdv A out s H E
abbrev clS (P : Program) (w : World) (K : PySem.W.Frag) (n : Nat) (ms N : LL) (a : Int) (x5 x6 x7 x8 : Sl) : List Sl := [.fz (.int n), .fz (.list (ms.map tI)), .ow false (N.map tI), .fz (.int a), .op (DcP P w K (kv N)), x5, x6, x7, x8, .un]
abbrev clB : List Stmt := bodyFor ((defBody sClosed).getD 2 (.Pass ⟨0, 0, 0, 0⟩))
variable {cdv : Value} {A : Around} {out : List Env} {s : Shared} {H : Hp} {E : XK} {F : FC}
theorem cl_round (B : Bl mg) (hK : K = F.K) (hr : Room 1 (A.deeper (envOfC "_law_b_closed" (defScope sClosed) s.heap.objs.size f cdv))) {n : Nat} {ms N : LL} {a : Nat} {here : List Int} (h5 : n ≤ 5) (hm : ∀ m ∈ ms, Trn n m) (D : BInv n ms N a) (ha : N[a]? = some here) (x5 x6 x7 x8 : Sl) :
    ∃ y7 y8, ExB (clX P w K mg base f cdv A out s H E) F clB (clS P w K n ms N a x5 x6 x7 x8) (.nx (clS P w K n ms (visAll here ms (N, N)).1 ((a : Int) + 1) x5 (.fz (tI here)) y7 y8)) := by
  have nd := sc_closed.nd
  have hu : (clX P w K mg base f cdv A out s H E).A.units + 64 < cLine := hr.units
  have hh : Trn n here := (D.rch here (List.mem_of_getElem? ha)).trn hm
  have lN : N.length ≤ 120 := few h5 D.nd fun t ht => (D.rch t ht).trn hm
  have al : a < N.length := (List.getElem?_eq_some_iff.mp ha).1
  have same : ∀ (l : LL) (M : LL), (visAll here l (M, M)).1 = (visAll here l (M, M)).2 := by
    intro l
    induction l with
    | nil => intro M; rfl
    | cons m l ih =>
      intro M
      show (visAll here l (vis here (M, M) m)).1 = (visAll here l (vis here (M, M) m)).2
      have e : vis here (M, M) m = ((vis here (M, M) m).1, (vis here (M, M) m).1) := Prod.ext rfl (vis_same here m M).symm
      rw [e]
      exact ih _
  have hN : ∀ j, (∀ t ∈ (visAll here (ms.take j) (N, N)).1, Trn n t) ∧ (visAll here (ms.take j) (N, N)).1.Nodup := fun j => by
    have v := visAll_ok here (ms.take j) N N
    refine ⟨fun t ht => ?_, v.nd D.nd⟩
    rcases v.from_ t ht with z | ⟨m, hmm, rfl⟩
    · exact (D.rch t z).trn hm
    · exact hh.comp (hm m (List.mem_of_mem_take hmm))
  have hat : atI (N.map tI) (a : Int) = some (tI here) := by
    have e1 : ixN (N.map tI).length (a : Int) = some a := by
      unfold ixN
      rw [List.length_map]
      split <;> first | omega | (split <;> first | omega | simp)
    unfold atI
    rw [e1]
    show (N.map tI)[a]? = _
    rw [List.getElem?_map, ha]; rfl
  obtain ⟨ρ', ⟨y7, y8, e⟩, loop⟩ := for_pred (X := clX P w K mg base f cdv A out s H E) (F := F) (body := bodyFor (clB.getD 3 (.Pass ⟨0, 0, 0, 0⟩))) (n := 7) (ds := ms.map tI)
    (fun j ρ => ∃ y7 y8, ρ = clS P w K n ms (visAll here (ms.take j) (N, N)).1 ((a : Int) + 1) x5 (.fz (tI here)) y7 y8) (fun j d ρ hd hj => by
      obtain ⟨y7, y8, rfl⟩ := hj
      rw [List.getElem?_map] at hd
      obtain ⟨m, hmj, rfl⟩ := Option.map_eq_some_iff.mp hd
      have hmm : m ∈ ms := List.mem_of_getElem? hmj
      have et : ms.take (j + 1) = ms.take j ++ [m] := by
        rw [List.take_succ, hmj]; rfl
      have ev : (visAll here (ms.take (j + 1)) (N, N)).1 = (vis here ((visAll here (ms.take j) (N, N)).1, (visAll here (ms.take j) (N, N)).1) m).1 := by
        have e2 : visAll here (ms.take (j + 1)) (N, N) = vis here (visAll here (ms.take j) (N, N)) m := by
          unfold visAll
          rw [et, List.foldl_append]; rfl
        rw [e2]
        congr 2
        exact Prod.ext rfl (same (ms.take j) N).symm
      rw [ev]
      obtain ⟨tr, ndN⟩ := hN j
      generalize (visAll here (ms.take j) (N, N)).1 = N1 at tr ndN
      have hc : Trn n (comp here m) := hh.comp (hm m hmm)
      have hz := few h5 ndN tr
      refine ⟨_, ⟨.fz (tI m), .fz (tI (comp here m)), rfl⟩, ?_⟩
      have cmp : ∀ (R : Out), ExB (clX P w K mg base f cdv A out s H E) F ((bodyFor (clB.getD 3 (.Pass ⟨0, 0, 0, 0⟩))).drop 1) (clS P w K n ms N1 ((a : Int) + 1) x5 (.fz (tI here)) (.fz (tI m)) (.fz (tI (comp here m)))) R →
          ExB (clX P w K mg base f cdv A out s H E) F (bodyFor (clB.getD 3 (.Pass ⟨0, 0, 0, 0⟩))) ((clS P w K n ms N1 ((a : Int) + 1) x5 (.fz (tI here)) y7 y8).set 7 (.fz (tI m))) R := fun R h => by
        refine st_set 8 (EvD.to (ev_tupleL B.at (ev_fz (ev_lcm (n := 9) (g := fun d => match d with | .int i => .int (m.getD i.toNat 0) | d => d) (src_tup (ev_var 6 rfl)) (fun d hd F' hF s0 H0 C cl fp => ?_) ?_))) ?_) h
        · obtain ⟨i, hi, rfl⟩ := List.mem_map.mp hd
          exact ev_ixT (ev_var 7 rfl) (ev_var 9 rfl) (at_comp (hm m hmm) (hh.mem hi)) (hK.trans hF.symm)
        · rw [List.length_map, hh.len]
          exact Nat.le_trans h5 (by decide)
        · unfold comp tI
          rw [List.map_map, List.map_map]
          rfl
      refine cmp _ ?_
      by_cases hin : comp here m ∈ N1
      · have e1 : (vis here (N1, N1) m).1 = N1 := by unfold vis; rw [if_pos hin]
        rw [e1]
        refine st_if0 (EvT.to (evt_notInD (ks := (comp here m).map NestedKey.num) 4 (by omega) (EvD.to (ev_var 8 rfl) (keyI_data _).symm) rfl (keyI_depth _)) ?_) exb_nil
        have : keyI (comp here m) ∈ (kv N1).map (·.1) := kv_mem.mpr hin
        simpa [keyI] using this
      · have e1 : (vis here (N1, N1) m).1 = N1 ++ [comp here m] := by unfold vis; rw [if_neg hin]
        rw [e1]
        have hnk : keyI (comp here m) ∉ (kv N1).map (·.1) := fun z => hin (kv_mem.mp z)
        refine st_ifT (EvT.to (evt_notInD (ks := (comp here m).map NestedKey.num) 4 (by omega) (EvD.to (ev_var 8 rfl) (keyI_data _).symm) rfl (keyI_depth _)) ?_)
          (exb_cons (exs_dput (ks := (comp here m).map NestedKey.num) 4 (by omega) ev_bl rfl (EvD.to (ev_var 8 rfl) (keyI_data _).symm) rfl hnk (keyI_depth _) ?_) (st_expr (ev_append 2 rfl (ev_var 8 rfl) rfl ?_) (ExB.res exb_nil ?_))) exb_nil
        · simpa [keyI] using hnk
        · rw [kv_len]; exact Nat.lt_of_le_of_lt hz (by decide)
        · rw [List.length_map]; exact Nat.lt_of_le_of_lt hz (by decide)
        · show _ = Out.nx (clS P w K n ms (N1 ++ [comp here m]) ((a : Int) + 1) _ _ _ _)
          simp only [clS, kv_snoc, List.map_append]
          rfl)
    (clS P w K n ms N ((a : Int) + 1) x5 (.fz (tI here)) x7 x8) ⟨x7, x8, rfl⟩
  rw [List.length_map] at e
  have et : ms.take ms.length = ms := List.take_length
  rw [et] at e
  subst e
  refine ⟨y7, y8, st_if0 (EvT.to (evt_ge (ev_var 3 rfl) (ev_lenO 2 B.at rfl)) ?_) (st_set 6 (ev_ixO (d := tI here) 2 rfl (ev_var 3 rfl) rfl hat) (st_set 3 (ev_add (ev_var 3 rfl) ev_int) (st_for (n := 7) (src_list (ev_var 1 rfl)) loop exb_nil)))⟩
  rw [List.length_map]
  exact decide_eq_false (by omega)
end
end K09
end
section
set_option maxHeartbeats 4000000
namespace K09
open PySem PySem.Spec PyProof.Rows L2 DL
section
variable {P : Program} {w : World} {K : PySem.W.Frag} {mg : Str → Option Value} {base : Heap} {f C C2 fI : Addr} {fd : FuncData}
variable {cdv : Value} {A : Around} {out : List Env} {s : Shared} {H : Hp} {E : XK} {F : FC}
theorem cl_loop (B : Bl mg) (hK : K = F.K) (hr : Room 1 (A.deeper (envOfC "_law_b_closed" (defScope sClosed) s.heap.objs.size f cdv))) {n : Nat} {ms : LL} (h5 : n ≤ 5) (hm : ∀ m ∈ ms, Trn n m) :
    ∀ (k j a : Nat) (N : LL) (x5 x6 x7 x8 : Sl), BInv n ms N a → a + k = 121 → ∃ N' b y5 y6 y7 y8, Clos n ms N' ∧ ForD (clX P w K mg base f cdv A out s H E) F clB (one 5 ((List.range' j k).map fun i => .int (0 + (i : Nat)))) (clS P w K n ms N a x5 x6 x7 x8) (.nx (clS P w K n ms N' b y5 y6 y7 y8)) := by
  intro k
  induction k with
  | zero =>
    intro j a N x5 x6 x7 x8 D h
    have lN : N.length ≤ 120 := few h5 D.nd fun t ht => (D.rch t ht).trn hm
    exact ⟨N, a, x5, x6, x7, x8, D.done (by omega), .nil⟩
  | succ k ih =>
    intro j a N x5 x6 x7 x8 D h
    by_cases hlt : a < N.length
    · have ha : N[a]? = some N[a] := List.getElem?_eq_getElem hlt
      obtain ⟨y7, y8, eb⟩ := cl_round (P := P) (w := w) (mg := mg) (base := base) (f := f) (cdv := cdv) (A := A) (out := out) (s := s) (H := H) (E := E) B hK hr h5 hm D ha (.fz (.int (0 + (j : Nat)))) x6 x7 x8
      obtain ⟨N', b, z5, z6, z7, z8, c, fi⟩ := ih (j + 1) (a + 1) _ (.fz (.int (0 + (j : Nat)))) (.fz (tI N[a])) y7 y8 (D.step ha) (by omega)
      refine ⟨N', b, z5, z6, z7, z8, c, ?_⟩
      rw [List.range'_succ, List.map_cons]
      exact .next eb fi
    · refine ⟨N, a, .fz (.int (0 + (j : Nat))), x6, x7, x8, D.done (by omega), ?_⟩
      rw [List.range'_succ, List.map_cons]
      refine .brk (st_ifR (EvT.to (evt_ge (ev_var 3 rfl) (ev_lenO 2 B.at rfl)) ?_) (exb_stop exs_break))
      rw [List.length_map]
      exact decide_eq_true (by omega)
theorem ok_closed (F : FnP K "_law_b_closed" sClosed f fd) (B : Bl mg) : GnOk P w K mg base 2 f fd ["many", "makers"] (SpD K φClosed) := by
  refine gn_data F sc_closed (by rintro _ _ ⟨n, ms, rfl, _⟩; rfl) fun cdv A out s H E Fc ρ r hr hg hK h => ?_
  obtain ⟨n, ms, rfl, h1, h5, hm, rfl⟩ := h
  have nd := sc_closed.nd
  have hu : (clX P w K mg base f cdv A out s H E).A.units + 64 < cLine := hr.units
  obtain ⟨N', b, y5, y6, y7, y8, c, lp⟩ := cl_loop (P := P) (w := w) (K := K) (mg := mg) (base := base) (f := f) (cdv := cdv) (A := A) (out := out) (s := s) (H := H) (E := E) (F := Fc) B hK hr h5 hm 121 0 0 [idt n] .un .un .un .un (BInv.start n ms) rfl
  have er : ∀ k : Nat, ((List.range' 0 k).map fun i => PyData.int (0 + (i : Nat))) = rng 0 k := fun k => by rw [← List.range_eq_range']; rfl
  rw [er] at lp
  have sd := srtD_ex N'
  have ec : closG n ms = N'.mergeSort leC := closG_eq h1 h5 hm ⟨N', c, sd⟩
  rw [ec]
  refine ⟨_, exb_cons (exs_par2 2 3 (s1 := .ow false [tI (idt n)]) (s2 := .fz (.int 0)) (ev_ls (evd (EvD.to (ev_tupRng (m := n) B.at B.at (ev_var 0 rfl) (by omega)) (show PyData.tuple (rng 0 n) = tI (idt n) by rw [rng_idt]; rfl)) evd_nil)) (fun F' hF => ev_int) (Nat.le_of_ble_eq_true rfl) (Nat.le_of_ble_eq_true rfl) nd)
    (st_set 4 (ev_dictL1 (ks := (idt n).map NestedKey.num) (d := .bool true) B.at (Nat.lt_of_le_of_lt (Nat.add_le_add_left (by decide : 12 ≤ 64) _) hr.units) (ev_fz (ev_ls (evd (ev_tp (evd (EvD.to (ev_ixO (d := tI (idt n)) 2 rfl ev_int rfl rfl) (keyI_data _).symm) (evd ev_bl evd_nil))) evd_nil))) (keyI_depth _))
    (st_for (n := 5) (src_range1 B.at ev_int (by decide) (by decide)) lp (st_ret (evn_sortT B.at (ev_fz (ev_own 2 rfl)) (tupsD_of h1 h5 fun t ht => ((c.iff t).mp ht).trn hm) sd)))), rfl, fun ds z => by cases z⟩
end
end K09
end
section
set_option maxHeartbeats 4000000
namespace K09
open PySem PySem.Spec PyProof.Rows L2 DL
theorem closG_ok {n : Nat} (h5 : n ≤ 5) {ms : LL} (hm : ∀ m ∈ ms, Trn n m) : (∀ t ∈ closG n ms, Trn n t) ∧ (closG n ms).length ≤ 120 := by
  unfold closG
  split
  · rename_i h
    obtain ⟨L, c, s⟩ := h.choose_spec
    have tr : ∀ t ∈ L, Trn n t := fun t ht => ((c.iff t).mp ht).trn hm
    exact ⟨fun t ht => tr t (s.perm.mem_iff.mp ht), by rw [s.perm.length_eq]; exact few h5 c.nd tr⟩
  · exact ⟨fun t ht => (by cases ht), by decide⟩
def smallI (ns : List Int) : Prop := ns.length ≤ 5 ∧ ∀ i ∈ ns, 0 ≤ i ∧ i < 5
theorem Trn.small {n : Nat} (h5 : n ≤ 5) {t : List Int} (h : Trn n t) : smallI t := ⟨by rw [h.len]; exact h5, fun i hi => by have := h.mem hi; omega⟩
theorem ints_shown : ∀ ns : List Int, (∀ i ∈ ns, 0 ≤ i ∧ i < 5) → PyData.showableAll (ns.map PyData.int) = true ∧ PyData.leavesShortAll 8 (ns.map PyData.int) = true ∧ PyData.bulkAll (ns.map PyData.int) ≤ 2 * ns.length ∧ PyData.depthAll (ns.map PyData.int) = 0 ∧ PyData.hasDictAll (ns.map PyData.int) = false
  | [], _ => by simp [PyData.showableAll, PyData.leavesShortAll, PyData.bulkAll, PyData.depthAll, PyData.hasDictAll]
  | i :: ns, h => by
    obtain ⟨h1, h2, h3, h4, h5⟩ := ints_shown ns fun j hj => h j (by simp [hj])
    have hi := h i (by simp)
    obtain rfl | rfl | rfl | rfl | rfl : i = 0 ∨ i = 1 ∨ i = 2 ∨ i = 3 ∨ i = 4 := by omega
    all_goals
      simp only [List.map_cons, PyData.showableAll, PyData.leavesShortAll, PyData.bulkAll, PyData.depthAll, PyData.hasDictAll, h1, h2, h4, h5, PyData.showable, PyData.leavesShort, PyData.bulk, PyData.depth, PyData.hasDict, List.length_cons]
      refine ⟨by decide, by decide +kernel, by omega, by decide, by decide⟩
theorem tups_shown : ∀ M : LL, (∀ t ∈ M, smallI t) → PyData.showableAll (M.map tI) = true ∧ PyData.leavesShortAll 8 (M.map tI) = true ∧ PyData.bulkAll (M.map tI) ≤ 12 * M.length ∧ PyData.depthAll (M.map tI) ≤ 1 ∧ PyData.hasDictAll (M.map tI) = false
  | [], _ => by simp [PyData.showableAll, PyData.leavesShortAll, PyData.bulkAll, PyData.depthAll, PyData.hasDictAll]
  | t :: M, h => by
    obtain ⟨h1, h2, h3, h4, h5⟩ := tups_shown M fun j hj => h j (by simp [hj])
    obtain ⟨l, hi⟩ := h t (by simp)
    obtain ⟨i1, i2, i3, i4, i5⟩ := ints_shown t hi
    simp only [List.map_cons, tI, PyData.showableAll, PyData.leavesShortAll, PyData.bulkAll, PyData.depthAll, PyData.hasDictAll, PyData.showable, PyData.leavesShort, PyData.bulk, PyData.depth, PyData.hasDict, List.length_cons, i1, i2, i4, i5]
    refine ⟨h1, h2, ?_, ?_, h5⟩
    · omega
    · exact Nat.max_le.mpr ⟨by omega, h4⟩
theorem due_shown {M : LL} (hl : M.length ≤ 120) (h : ∀ t ∈ M, smallI t) : PyData.showable (.list [.tuple (M.map tI), .tuple (M.map tI)]) = true ∧ (PyData.list [.tuple (M.map tI), .tuple (M.map tI)]).hasDict = false ∧ (PyData.list [.tuple (M.map tI), .tuple (M.map tI)]).depth ≤ 64 ∧ (PyData.shown (.list [.tuple (M.map tI), .tuple (M.map tI)])).length ≤ sizeLine := by
  obtain ⟨h1, h2, h3, h4, h5⟩ := tups_shown M h
  refine ⟨by simp [PyData.showable, PyData.showableAll, h1], by simp [PyData.hasDict, PyData.hasDictAll, h5], ?_, ?_⟩
  · simp only [PyData.depth, PyData.depthAll]
    omega
  · refine PyData.shown_fits_bulk (B := 8) (by decide) (by decide) (by simp [PyData.leavesShort, PyData.leavesShortAll, h2]) ?_
    simp only [PyData.bulk, PyData.bulkAll]
    have : (2 : Nat) ^ 20 = 1048576 := by decide
    omega
abbrev lawN : List Str := ["script", "pen", "turn", "many", "makers", "handed", "due", "bad", "last", "odd", "wrong", "heard", "lap", "spot"]
theorem sc_law : FnScope lawN ["script"] (defScope sLaw) := ⟨rfl, rfl, rfl, by decide +kernel, rfl, by decide +kernel, by decide +kernel⟩
abbrev lBody : List Stmt := bodyFor ((defBody sLaw).getD 1 (.Pass ⟨0, 0, 0, 0⟩))
theorem pick_mem (p : Pen) {ds : List PyData} (h : 0 < ds.length) : p.pick ds ∈ ds := by
  have := pick_at p h
  unfold atI at this
  obtain ⟨j, _, h2⟩ := Option.bind_eq_some_iff.mp this
  exact List.mem_of_getElem? h2
/-- the defs that the law calls -/
structure Defs (P : Program) (w : World) (K : PySem.W.Frag) (mg : Str → Option Value) (base : Heap) (C C2 : Addr) : Prop where
  pen : DefG P w K mg base "_law_pen" 1 ["script"] (φPen K)
  draw : DefG P w K mg base "_law_draw" 1 ["pen", "many"] φDraw
  pick : DefG P w K mg base "_law_pick" 2 ["pen", "some"] φPick
  mixed : DefG P w K mg base "_law_mixed" 2 ["pen", "some"] φMixed
  listed : DefG P w K mg base "_law_listed" 3 ["value"] φL2
  closed : DefG P w K mg base "_law_b_closed" 2 ["many", "makers"] φClosed
  group : DefG P w K mg base "group" 4 ["many", "makers"] (φGroup C C2)
  groupK : DefKW P w K mg base "group" 4 ["many", "makers"] (φGroup C C2) ["makers", "many"] List.reverse
  having : DefG P w K mg base "nest_having" 4 ["many", "wanted"] (φNestHaving C C2)
  alls : DefKW P w K mg base "all_nests" 4 ["many"] (φAllNests C) ["many"] (fun l => l)
section
variable {P : Program} {w : World} {K : PySem.W.Frag} {mg : Str → Option Value} {base : Heap} {f C C2 fI : Addr} {fd : FuncData}
abbrev lX (P : Program) (w : World) (K : PySem.W.Frag) (mg : Str → Option Value) (base : Heap) (f : Addr) (cdv : Value) (A : Around) (out : List Env) (s : Shared) (H : Hp) (E : XK) : Cx := bcx P w K mg base lawN "law" (defScope sLaw) f cdv A out s H E
variable {cdv : Value} {A : Around} {out : List Env} {s : Shared} {H : Hp} {E : XK} {F : FC}
theorem mix_tI (p : Pen) (n : Nat) : ∃ t, Trn n t ∧ (p.mix (rng 0 n) (rng 0 n).length).1 = t.map PyData.int := by
  have h := mix_perm (rng 0 n).length p (rng 0 n) rfl
  rw [rng_idt] at h ⊢
  generalize (p.mix ((idt n).map PyData.int) ((idt n).map PyData.int).length).1 = L at h
  have hi : ∀ d ∈ L, ∃ i, d = .int i := fun d hd => by
    obtain ⟨i, _, e⟩ := List.mem_map.mp (h.mem_iff.mp hd)
    exact ⟨i, e.symm⟩
  obtain ⟨t, rfl⟩ : ∃ t : List Int, L = t.map PyData.int := by
    clear h
    induction L with
    | nil => exact ⟨[], rfl⟩
    | cons d L ih =>
      obtain ⟨t, rfl⟩ := ih fun d hd => hi d (by simp [hd])
      obtain ⟨i, rfl⟩ := hi d (by simp)
      exact ⟨i :: t, rfl⟩
  refine ⟨t, ?_, rfl⟩
  have inj : Function.Injective PyData.int := fun a b e => by cases e; rfl
  have h2 := h.map fun d => match d with | .int i => i | _ => 0
  rw [List.map_map, List.map_map] at h2
  have e : ∀ l : List Int, l.map ((fun d => match d with | .int i => i | _ => 0) ∘ PyData.int) = l := fun l => by
    induction l with
    | nil => rfl
    | cons a l ih => rw [List.map_cons, ih]; rfl
  rw [e, e] at h2
  exact h2
end
end K09
end
section
set_option maxHeartbeats 4000000
namespace K09
open PySem PySem.Spec PyProof.Rows L2 DL
section
variable {P : Program} {w : World} {K : PySem.W.Frag} {mg : Str → Option Value} {base : Heap} {f C C2 fI : Addr} {fd : FuncData}
variable {cdv : Value} {A : Around} {out : List Env} {s : Shared} {H : Hp} {E : XK} {F : FC}
def lcOf (s : Stmt) : Expr × Scope := match s with
  | .Assign _ (.ListComp e _ sc _) _ => (e, sc)
  | _ => (.Constant .none 0 ⟨0, 0, 0, 0⟩, (defScope sLaw))
abbrev mkE : Expr := (lcOf (lBody.getD 1 (.Pass ⟨0, 0, 0, 0⟩))).1
abbrev mkS : Scope := (lcOf (lBody.getD 1 (.Pass ⟨0, 0, 0, 0⟩))).2
theorem mk_laps (D : Defs P w K mg base C C2) (B : Bl mg) (hK : K = F.K) {k0 : Nat} (hr : Room k0 (A.deeper (envOfC "law" (defScope sLaw) s.heap.objs.size f cdv))) (hk : 5 ≤ k0) (hg : A.guards = some []) {n : Nat} (h5 : n ≤ 5) (sc tu x4 x5 x6 x7 x8 x9 x10 x11 x13 : Sl) :
    ∀ (k j : Nat) (p : Pen) (N : Int), p.ok N → 5 * (k : Int) ≤ N → ∃ (p' : Pen) (ms : LL), (∀ m ∈ ms, Trn n m) ∧ ms.length = k ∧ p'.ok (N - 5 * k) ∧
      LcD (lX P w K mg base f cdv A out s H E) F mkS [] mkE [12] (one 12 ((List.range' j k).map fun i => .int (0 + (i : Nat)))) [sc, .ow false p.ds, tu, .fz (.int n), x4, x5, x6, x7, x8, x9, x10, x11, .un, x13] (ms.map tI) [sc, .ow false p'.ds, tu, .fz (.int n), x4, x5, x6, x7, x8, x9, x10, x11, .un, x13] := by
  intro k
  induction k with
  | zero => intro j p N hp _; exact ⟨p, [], fun m hm => (by cases hm), rfl, by simpa using hp, .nil⟩
  | succ k ih =>
    intro j p N hp hN
    obtain ⟨t, ht, et⟩ := mix_tI p n
    have lr : (rng 0 n).length = n := by simp [rng]
    have ok1 := mix_ok (rng 0 n).length p (rng 0 n) N rfl hp (by rw [lr]; omega)
    rw [lr] at ok1
    have q1 : φMixed [.ow true p.ds, .fz (.list (rng 0 n))] (.rt (.ow false (t.map PyData.int)) (p.mix (rng 0 n) n).2.ds) := ⟨p, _, rfl, hp.mono (by rw [lr]; omega), by rw [lr]; omega, by rw [et, lr]⟩
    generalize (p.mix (rng 0 n) n).2 = p1 at ok1 q1
    obtain ⟨p', ms, hm, hl, ok2, lc⟩ := ih (j + 1) p1 (N - n) ok1 (by omega)
    refine ⟨p', t :: ms, fun m h => ?_, by simp [hl], ok2.mono (by omega), ?_⟩
    · rcases List.mem_cons.mp h with rfl | h
      · exact ht
      · exact hm m h
    rw [List.range'_succ, List.map_cons]
    refine .keep (ρ2 := [sc, .ow false p1.ds, tu, .fz (.int n), x4, x5, x6, x7, x8, x9, x10, x11, .fz (.int (0 + (j : Nat))), x13]) .nil (fun F' hF s0 H0 C0 cl fp => ?_) lc
    exact ev_tupleL B.at (ev_fz (ev_clIO 1 D.mixed hr (show 2 ≤ k0 by omega) hg (eva (ev_fz (evn_listRng B.at B.at (ev_var 3 rfl) (by omega))) eva_nil) rfl rfl q1 (hK := hK.trans hF.symm)))
/-- the turnings are drawn -/
theorem partA (D : Defs P w K mg base C C2) (B : Bl mg) (hK : K = F.K) {k : Nat} (hr : Room k (A.deeper (envOfC "law" (defScope sLaw) s.heap.objs.size f cdv))) (hk : 5 ≤ k) (hg : A.guards = some []) {p : Pen} {N : Int} (hp : p.ok N) (hN : 100 ≤ N) (sc tu x3 x4 x5 x6 x7 x8 x9 x10 x11 : Sl) :
    ∃ (p' : Pen) (n : Nat) (ms : LL), p'.ok (N - 50) ∧ 1 ≤ n ∧ n ≤ 5 ∧ (∀ m ∈ ms, Trn n m) ∧ ms.length ≤ 6 ∧
      ∀ R, ExB (lX P w K mg base f cdv A out s H E) F (lBody.drop 3) [sc, .ow false p'.ds, tu, .fz (.int (n : Nat)), .fz (.list (ms.map tI)), x5, x6, x7, x8, x9, x10, x11, .un, .un] R →
        ExB (lX P w K mg base f cdv A out s H E) F lBody [sc, .ow false p.ds, tu, x3, x4, x5, x6, x7, x8, x9, x10, x11, .un, .un] R := by
  have nd := sc_law.nd
  have k2 : ∀ {j : Nat}, j ≤ 5 → j ≤ k := fun h => by omega
  obtain ⟨n, hn, h1, h5⟩ : ∃ n : Nat, p.pick [.int 1, .int 2, .int 3, .int 4, .int 4, .int 5, .int 5, .int 5] = .int (n : Nat) ∧ 1 ≤ n ∧ n ≤ 5 := by
    have := pick_mem p (ds := [.int 1, .int 2, .int 3, .int 4, .int 4, .int 5, .int 5, .int 5]) (by decide)
    simp only [List.mem_cons, List.not_mem_nil, or_false] at this
    rcases this with h | h | h | h | h | h | h | h
    · exact ⟨1, h, by decide, by decide⟩
    · exact ⟨2, h, by decide, by decide⟩
    · exact ⟨3, h, by decide, by decide⟩
    · exact ⟨4, h, by decide, by decide⟩
    · exact ⟨4, h, by decide, by decide⟩
    · exact ⟨5, h, by decide, by decide⟩
    · exact ⟨5, h, by decide, by decide⟩
    · exact ⟨5, h, by decide, by decide⟩
  have o1 := draw_ok (m := 8) hp (by decide) (by omega)
  generalize ep1 : (p.draw 8).2 = p1 at o1
  have o2 := draw_ok (m := 4) o1 (by decide) (by omega)
  obtain ⟨g0, g1⟩ := draw_lt p1 (m := 4) (by decide)
  obtain ⟨kk, hkk⟩ : ∃ kk : Nat, (p1.draw 4).1 = (kk : Int) := ⟨(p1.draw 4).1.toNat, by omega⟩
  generalize ep2 : (p1.draw 4).2 = p2 at o2
  obtain ⟨p3, ms, hm, hl, o3, lc⟩ := mk_laps (f := f) (cdv := cdv) (A := A) (out := out) (s := s) (H := H) (E := E) D B hK hr hk hg (n := n) h5 sc tu x4 x5 x6 x7 x8 x9 x10 x11 .un kk 0 p2 _ o2 (by omega)
  have er : ∀ k : Nat, ((List.range' 0 k).map fun i => PyData.int (0 + (i : Nat))) = rng 0 k := fun k => by rw [← List.range_eq_range']; rfl
  rw [er] at lc
  -- more
  have o4 := draw_ok (m := 4) o3 (by decide) (by omega)
  obtain ⟨es, he, hes, hel⟩ : ∃ es : LL, p3.pick [.list [], .list [], .list [tI (idt n)], .list (DL.cutD (ms.map tI) none (some 1))] = .list (es.map tI) ∧ (∀ m ∈ es, Trn n m) ∧ es.length ≤ 3 := by
    have := pick_mem p3 (ds := [.list [], .list [], .list [tI (idt n)], .list (DL.cutD (ms.map tI) none (some 1))]) (by simp)
    simp only [List.mem_cons, List.not_mem_nil, or_false] at this
    rcases this with h | h | h | h
    · exact ⟨[], h, fun m hm => (by cases hm), by decide⟩
    · exact ⟨[], h, fun m hm => (by cases hm), by decide⟩
    · exact ⟨[idt n], h, fun m hm => by rw [List.mem_singleton.mp hm]; exact .id n, by simp⟩
    · have e : DL.cutD (ms.map tI) none (some 1) = ((ms.drop (HT.sIx (ms.map tI).length 0 none)).take (HT.sIx (ms.map tI).length (ms.map tI).length (some 1) - HT.sIx (ms.map tI).length 0 none)).map tI := by
        unfold DL.cutD
        rw [List.map_take, List.map_drop]
      refine ⟨_, by rw [h, e], fun m h' => hm m (List.mem_of_mem_drop (List.mem_of_mem_take h')), ?_⟩
      rw [List.length_take, List.length_drop]
      omega
  generalize ep4 : (p3.draw 4).2 = p4 at o4
  have q1 : φPick [.ow true p.ds, .fz (.list [.int 1, .int 2, .int 3, .int 4, .int 4, .int 5, .int 5, .int 5])] (.rt (.fz (.int (n : Nat))) p1.ds) := ⟨p, _, rfl, hp.mono (by omega), by simp, by simp, by rw [hn, ← ep1]; rfl⟩
  have q2 : φDraw [.ow true p1.ds, .fz (.int 4)] (.rt (.fz (.int (kk : Nat))) p2.ds) := ⟨p1, 4, rfl, o1.mono (by omega), by decide, by decide +kernel, by rw [hkk, ep2]⟩
  have q4 : φPick [.ow true p3.ds, .fz (.list [.list [], .list [], .list [tI (idt n)], .list (DL.cutD (ms.map tI) none (some 1))])] (.rt (.fz (.list (es.map tI))) p4.ds) := ⟨p3, _, rfl, o3.mono (by omega), by simp, by simp, by rw [he, ← ep4]; rfl⟩
  refine ⟨p4, n, ms ++ es, o4.mono (by omega), h1, h5, fun m h => ?_, by rw [List.length_append]; omega, fun R h => ?_⟩
  · rcases List.mem_append.mp h with h | h
    · exact hm m h
    · exact hes m h
  refine st_set 3 (ev_clIO 1 D.pick hr (k2 (by decide)) hg (eva (ev_fz (ev_ls (evd ev_int (evd ev_int (evd ev_int (evd ev_int (evd ev_int (evd ev_int (evd ev_int (evd ev_int evd_nil)))))))))) eva_nil) rfl rfl q1) ?_
  refine exb_cons (exs_setLc 4 (own := [("lap", 12)]) (src_range1 (n := 12) B.at (ev_clIO 1 D.draw hr (k2 (by decide)) hg (eva ev_int eva_nil) rfl rfl q2) (by omega) (by omega)) lc (one_ok (Nat.le_of_ble_eq_true rfl)) (by rw [one_len]; simp [rng, sizeLine_eq]; omega) nd (blkOk_by (by rfl)) (fun s H C cl fp => pg_name nd rfl (Or.inl rfl) (Or.inr rfl)) (Nat.le_of_ble_eq_true rfl)) ?_
  refine exb_fz 4 rfl ?_
  refine st_set 4 (EvS.to (evn_cat (ev_var 4 rfl) (ev_clIO 1 D.pick hr (k2 (by decide)) hg (eva (ev_fz (ev_ls (evd (ev_fz (ev_ls evd_nil)) (evd (ev_fz (ev_ls evd_nil)) (evd (ev_fz (ev_ls (evd (EvD.to (ev_tupRng (m := n) B.at B.at (ev_var 3 rfl) (by omega)) (show PyData.tuple (rng 0 n) = tI (idt n) by rw [rng_idt]; rfl)) evd_nil))) (evd (ev_fz (evn_sliceL (ev_var 4 rfl) .none (.some ev_int))) evd_nil)))))) eva_nil) rfl rfl q4) ?_) (show Sl.ow false (ms.map tI ++ es.map tI) = .ow false ((ms ++ es).map tI) by rw [List.map_append])) ?_
  · rw [List.length_map, List.length_map, sizeLine_eq]; omega
  refine exb_fz 4 rfl ?_
  exact h
end
end K09
end
section
set_option maxHeartbeats 4000000
namespace K09
open PySem PySem.Spec PyProof.Rows L2 DL
theorem intsD_map : ∀ t : List Int, intsD? (t.map PyData.int) = some t
  | [] => rfl
  | i :: t => by simp [intsD?, intsD_map t]
theorem turnsL_of {n : Nat} (g : List Int → PyData) (hg : ∀ t, itemsD (g t) = some (t.map PyData.int)) : ∀ {ms : LL}, (∀ m ∈ ms, Trn n m) → turnsL n (ms.map g) = some ms
  | [], _ => rfl
  | m :: ms, h => by
    have ih := turnsL_of g hg (ms := ms) fun x hx => h x (by simp [hx])
    have h1 : turn? n (g m) = some m := by rw [turn_some (hg m) (intsD_map m), if_pos (h m (by simp))]
    simp [turnsL, ih, h1]
theorem turnsL_bad {n : Nat} {d : PyData} (h : turn? n d = none) : ∀ (l r : List PyData), turnsL n (l ++ d :: r) = none
  | [], r => by simp [turnsL, h]
  | x :: l, r => by
    simp only [List.cons_append, turnsL, turnsL_bad h l r]
    cases turn? n x <;> rfl
/-- what is no turning -/
def oddL (n : Nat) : List PyData :=
  [.list (rng 0 n ++ [.int n]), .list (DL.cutD (rng 0 n) (some 1) none), .list (List.replicate ((n : Int) + 1).toNat [PyData.int 1]).flatten, if decide ((1 : Int) < n) then .list (List.replicate ((n : Int)).toNat [PyData.int 0]).flatten else .list [.int 1],
    .list ([.bool false] ++ DL.cutD (rng 0 n) (some 1) none), .none, .int 5, .str (cutS "01234" none (some (n : Int)))]
def oddM (n : Nat) : List PyData :=
  [.list ((rng 0 n).map fun d => match d with | .int i => .str (toString i) | d => d), .list ((rng 0 n).map fun d => match d with | .int i => .int (i + 1) | d => d), .list ((rng 0 n).map fun d => match d with | .int i => .int (i - 1) | d => d)]
def seqLe (m : Nat) (d : PyData) : Bool := match itemsD d with
  | some l => decide (l.length ≤ m)
  | none => true
theorem odd_all {n : Nat} (h1 : 1 ≤ n) (h5 : n ≤ 5) : ∀ d ∈ oddL n ++ oddM n, turn? n d = none := by
  have : ((oddL n ++ oddM n).all fun d => (turn? n d).isNone) = true := by
    obtain rfl | rfl | rfl | rfl | rfl : n = 1 ∨ n = 2 ∨ n = 3 ∨ n = 4 ∨ n = 5 := by omega
    all_goals decide +kernel
  intro d hd
  have := List.all_eq_true.mp this d hd
  cases e : turn? n d with
  | none => rfl
  | some t => rw [e] at this; cases this
theorem lists_shaped (nss : LL) : SeqAt.shaped (.list (nss.map lI)) = true := by
  have h1 : ∀ ns : List Int, PyData.canLayAll0 (ns.map PyData.int) = true := by
    intro ns
    induction ns with
    | nil => rfl
    | cons n ns ih => simp [PyData.canLayAll0, PyData.canLay0, ih]
  have h2 : ∀ ns : List Int, PyData.depthAll (ns.map PyData.int) ≤ 0 := by
    intro ns
    induction ns with
    | nil => simp [PyData.depthAll]
    | cons n ns ih => simp only [List.map_cons, PyData.depthAll, PyData.depth]; omega
  have h3 : PyData.canLayAll0 (nss.map lI) = true := by
    induction nss with
    | nil => rfl
    | cons n ns ih =>
      simp only [List.map_cons, lI, PyData.canLayAll0, PyData.canLay0, Bool.and_eq_true]
      exact ⟨h1 n, ih⟩
  have hd : ∀ n, (lI n).depth ≤ 1 := by
    intro n
    unfold lI
    simp only [PyData.depth]
    have := h2 n
    omega
  have h4 : PyData.depthAll (nss.map lI) ≤ 1 := by
    clear h3
    induction nss with
    | nil => simp [PyData.depthAll]
    | cons n ns ih =>
      simp only [List.map_cons, PyData.depthAll]
      have := hd n
      omega
  unfold SeqAt.shaped
  rw [Bool.and_eq_true]
  refine ⟨by simp only [PyData.canLay0]; exact h3, decide_eq_true ?_⟩
  simp only [PyData.depth]
  omega
section
variable {P : Program} {w : World} {K : PySem.W.Frag} {mg : Str → Option Value} {base : Heap} {f C C2 fI : Addr} {fd : FuncData}
variable {cdv : Value} {A : Around} {out : List Env} {s : Shared} {H : Hp} {E : XK} {F : FC}
/-- all products, both ways -/
theorem partB (D : Defs P w K mg base C C2) (B : Bl mg) (hK : K = F.K) {k : Nat} (hr : Room k (A.deeper (envOfC "law" (defScope sLaw) s.heap.objs.size f cdv))) (hk : 5 ≤ k) (hg : A.guards = some []) {n : Nat} {ms : LL} (h1 : 1 ≤ n) (h5 : n ≤ 5) (hm : ∀ m ∈ ms, Trn n m) (hl : ms.length ≤ 6) (sc pe tu x5 x6 x7 x8 x9 x10 x11 : Sl) (R : Out)
    (h : ExB (lX P w K mg base f cdv A out s H E) F (lBody.drop 5) [sc, pe, tu, .fz (.int (n : Nat)), .fz (.list (ms.map tI)), .fz (.list (ms.map lI)), .fz (.tuple ((closG n ms).map tI)), x7, x8, x9, x10, x11, .un, .un] R) :
    ExB (lX P w K mg base f cdv A out s H E) F (lBody.drop 3) [sc, pe, tu, .fz (.int (n : Nat)), .fz (.list (ms.map tI)), x5, x6, x7, x8, x9, x10, x11, .un, .un] R := by
  have nd := sc_law.nd
  have k2 : ∀ {j : Nat}, j ≤ 5 → j ≤ k := fun h => by omega
  have hu : (A.deeper (envOfC "law" (defScope sLaw) s.heap.objs.size f cdv)).units + 100 < cLine := by have := hr.un; omega
  have lm : ∀ m ∈ ms, m.length ≤ 1000 := fun m h => by rw [(hm m h).len]; omega
  have q1 : φL2 [.fz (.list (ms.map tI))] (.rt (.ow false (ms.map lI)) []) := ⟨ms, rfl, by omega, lm, rfl⟩
  have q2 : φClosed [.fz (.int n), .fz (.list (ms.map tI))] (.rt (.ow false ((closG n ms).map tI)) []) := ⟨n, ms, rfl, h1, h5, hm, rfl⟩
  have t1 : turns? n (.list (ms.map lI)) = some ms := turnsL_of lI (fun t => rfl) hm
  have t2 : turns? n (.tuple (ms.map tI)) = some ms := turnsL_of tI (fun t => rfl) hm
  have q3 : φGroup C C2 [.fz (.int n), .fz (.list (ms.map lI))] (.rt (.fz (.tuple ((closG n ms).map tI))) []) := ⟨_, _, rfl, fun ds e => by cases e; rw [List.length_map]; omega, .inr ⟨n, rfl, h1, h5, .inr ⟨ms, t1, rfl⟩⟩⟩
  have q4 : φGroup C C2 [.fz (.int n), .fz (.tuple (ms.map tI))] (.rt (.fz (.tuple ((closG n ms).map tI))) []) := ⟨_, _, rfl, fun ds e => by cases e; rw [List.length_map]; omega, .inr ⟨n, rfl, h1, h5, .inr ⟨ms, t2, rfl⟩⟩⟩
  obtain ⟨ck, cl⟩ := closG_ok h5 hm
  obtain ⟨s1, s2, s3, s4⟩ := due_shown cl fun t ht => (ck t ht).small h5
  refine exb_cons (exs_par2 5 6 (s1 := .fz (.list (ms.map lI))) (s2 := .fz (.tuple ((closG n ms).map tI))) (ev_fz (ev_cl D.listed hr (k2 (by decide)) hg (eva (ev_var 4 rfl) eva_nil) q1)) (fun F' hF => ev_tupleL B.at (ev_fz (ev_cl D.closed hr (k2 (by decide)) hg (eva (ev_var 3 rfl) (eva (ev_var 4 rfl) eva_nil)) q2 (hK := hK.trans hF.symm)))) (Nat.le_of_ble_eq_true rfl) (Nat.le_of_ble_eq_true rfl) nd) ?_
  refine st_if0 (evt_p (evp_orF (.to (evt_neS (ev_repr B.at hg hu (ev_fz (ev_ls (evd (ev_cl D.group hr (k2 (by decide)) hg (eva (ev_var 3 rfl) (eva (ev_var 5 rfl) eva_nil)) q3) (evd (ev_clKr D.groupK hr (k2 (by decide)) hg (evk_cons (ev_tupleL B.at (ev_var 4 rfl)) (evk_cons (ev_var 3 rfl) evk_nil)) q4) evd_nil)))) (.inl ⟨_, rfl⟩) s1 s2 s3 s4)
    (ev_repr B.at hg hu (ev_fz (ev_ls (evd (ev_var 6 rfl) (evd (ev_var 6 rfl) evd_nil)))) (.inl ⟨_, rfl⟩) s1 s2 s3 s4)) (by simp))
    (evp_or1 (.to (evt_neD hr.units (ev_var 5 rfl) (ev_fz (ev_cl D.listed hr (k2 (by decide)) hg (eva (ev_var 4 rfl) eva_nil) q1)) (lists_shaped ms) (lists_shaped ms)) (by
      have := lists_shaped ms
      unfold SeqAt.shaped at this
      rw [SeqAt.eqv_refl _ (Bool.and_eq_true_iff.mp this).1]; rfl))))) ?_
  exact h
end
end K09
end
section
set_option maxHeartbeats 4000000
namespace K09
open PySem PySem.Spec PyProof.Rows L2 DL
section
variable {P : Program} {w : World} {K : PySem.W.Frag} {mg : Str → Option Value} {base : Heap} {f C C2 fI : Addr} {fd : FuncData}
variable {cdv : Value} {A : Around} {out : List Env} {s : Shared} {H : Hp} {E : XK} {F : FC}
def bads : List PyData := [.int 0, .int 6, .int (-1), .none, .bool true, .str "3", .list [.int 3], .int (10 ^ (40 : Int).toNat)]
theorem bads_all : ∀ d ∈ bads, within d 1 5 = false := by
  have : (bads.all fun d => !within d 1 5) = true := by decide +kernel
  intro d hd
  have := List.all_eq_true.mp this d hd
  simpa using this
/-- no turnings -/
def wrongL (ms : LL) (o1 o2 : PyData) : List PyData := [.list (ms.map tI ++ [o1]), .list ([o2] ++ ms.map tI), .none, .int 5, .str "ab"]
theorem wrong_all {n : Nat} {ms : LL} {o1 o2 : PyData} (hl : ms.length ≤ 6) (h1 : turn? n o1 = none) (h2 : turn? n o2 = none) : ∀ d ∈ wrongL ms o1 o2, turns? n d = none ∧ ∀ ds, itemsD d = some ds → ds.length ≤ 1000 := by
  intro d hd
  unfold wrongL at hd
  simp only [List.mem_cons, List.not_mem_nil, or_false] at hd
  rcases hd with rfl | rfl | rfl | rfl | rfl
  · exact ⟨turnsL_bad h1 (ms.map tI) [], fun ds e => by cases e; simp; omega⟩
  · exact ⟨turnsL_bad h2 [] (ms.map tI), fun ds e => by cases e; simp; omega⟩
  · exact ⟨rfl, fun ds e => by cases e⟩
  · exact ⟨rfl, fun ds e => by cases e⟩
  · exact ⟨rfl, fun ds e => by cases e⟩
theorem rng_mem {n : Nat} (h5 : n ≤ 5) {d : PyData} (h : d ∈ rng 0 n) : ∃ i : Int, d = .int i ∧ 0 ≤ i ∧ i < 5 := by
  unfold rng at h
  obtain ⟨i, hi, rfl⟩ := List.mem_map.mp h
  have := List.mem_range.mp hi
  exact ⟨_, rfl, by omega, by omega⟩
/-- bad numbers, odd values -/
theorem partC (D : Defs P w K mg base C C2) (B : Bl mg) (hK : K = F.K) {k : Nat} (hr : Room k (A.deeper (envOfC "law" (defScope sLaw) s.heap.objs.size f cdv))) (hk : 5 ≤ k) (hg : A.guards = some []) {p : Pen} {N : Int} (hp : p.ok N) (hN : 10 ≤ N) {n : Nat} {ms : LL} (h1 : 1 ≤ n) (h5 : n ≤ 5) (hl : ms.length ≤ 6) (sc tu x5 x6 x7 x8 x9 x10 x11 : Sl) :
    ∃ (p' : Pen) (bad wrong x8' x9' : PyData), p'.ok (N - 4) ∧ within bad 1 5 = false ∧ (turns? n wrong = none ∧ ∀ ds, itemsD wrong = some ds → ds.length ≤ 1000) ∧
      ∀ R, ExB (lX P w K mg base f cdv A out s H E) F (lBody.drop 10) [sc, .ow false p'.ds, tu, .fz (.int (n : Nat)), .fz (.list (ms.map tI)), x5, x6, .fz bad, .fz x8', .fz x9', .fz wrong, x11, .un, .un] R →
        ExB (lX P w K mg base f cdv A out s H E) F (lBody.drop 5) [sc, .ow false p.ds, tu, .fz (.int (n : Nat)), .fz (.list (ms.map tI)), x5, x6, x7, x8, x9, x10, x11, .un, .un] R := by
  have nd := sc_law.nd
  have k2 : ∀ {j : Nat}, j ≤ 5 → j ≤ k := fun h => by omega
  have lr : (rng 0 n).length = n := by simp [rng]
  have o1 := draw_ok (m := 8) hp (by decide) (by omega)
  have b1 := bads_all _ (pick_mem p (ds := bads) (by decide))
  have q1 : φPick [.ow true p.ds, .fz (.list bads)] (.rt (.fz (p.pick bads)) (p.draw 8).2.ds) := ⟨p, _, rfl, hp.mono (by omega), by decide, by decide, rfl⟩
  generalize (p.draw 8).2 = p1 at o1 q1
  generalize p.pick bads = bad at b1 q1
  have lo : (oddL n ++ oddM n).length = 11 := rfl
  have o2 := draw_ok (m := 11) o1 (by decide) (by omega)
  have b2 := odd_all h1 h5 _ (pick_mem p1 (ds := oddL n ++ oddM n) (by rw [lo]; decide))
  have q2 : φPick [.ow true p1.ds, .fz (.list (oddL n ++ oddM n))] (.rt (.fz (p1.pick (oddL n ++ oddM n))) (p1.draw 11).2.ds) := ⟨p1, _, rfl, o1.mono (by omega), by rw [lo]; decide, by rw [lo]; decide, rfl⟩
  generalize (p1.draw 11).2 = p2 at o2 q2
  generalize p1.pick (oddL n ++ oddM n) = w1 at b2 q2
  have o3 := draw_ok (m := 11) o2 (by decide) (by omega)
  have b3 := odd_all h1 h5 _ (pick_mem p2 (ds := oddL n ++ oddM n) (by rw [lo]; decide))
  have q3 : φPick [.ow true p2.ds, .fz (.list (oddL n ++ oddM n))] (.rt (.fz (p2.pick (oddL n ++ oddM n))) (p2.draw 11).2.ds) := ⟨p2, _, rfl, o2.mono (by omega), by rw [lo]; decide, by rw [lo]; decide, rfl⟩
  generalize (p2.draw 11).2 = p3 at o3 q3
  generalize p2.pick (oddL n ++ oddM n) = w2 at b3 q3
  have o4 := draw_ok (m := 5) o3 (by decide) (by omega)
  have b4 := wrong_all hl b2 b3 _ (pick_mem p3 (ds := wrongL ms w1 w2) (by unfold wrongL; simp))
  have q4 : φPick [.ow true p3.ds, .fz (.list (wrongL ms w1 w2))] (.rt (.fz (p3.pick (wrongL ms w1 w2))) (p3.draw 5).2.ds) := ⟨p3, _, rfl, o3.mono (by omega), by unfold wrongL; simp, by unfold wrongL; simp, rfl⟩
  generalize (p3.draw 5).2 = p4 at o4 q4
  generalize p3.pick (wrongL ms w1 w2) = wrong at b4 q4
  refine ⟨p4, bad, wrong, .list (rng 0 n), .list (oddL n ++ oddM n), o4.mono (by omega), b1, b4, fun R h => ?_⟩
  have rz : ∀ m : Nat, m ≤ 1000 → m ≤ sizeLine := fun m h => by rw [sizeLine_eq]; omega
  refine st_set 7 (ev_clIO 1 D.pick hr (k2 (by decide)) hg (eva (ev_fz (ev_ls (evd ev_int (evd ev_int (evd (ev_neg ev_int) (evd ev_non (evd ev_bl (evd ev_str (evd (ev_fz (ev_ls (evd ev_int evd_nil))) (evd (ev_pow ev_int ev_int ⟨by decide, by decide, by decide⟩) evd_nil)))))))))) eva_nil) rfl rfl q1) ?_
  refine st_set 8 (evn_listRng B.at B.at (ev_var 3 rfl) (by omega)) ?_
  refine exb_fz 8 rfl ?_
  refine st_set 9 (EvS.to (ev_ls (evd (ev_fz (evn_cat (ev_var 8 rfl) (ev_fz (ev_ls (evd (ev_var 3 rfl) evd_nil))) ?_)) (evd (ev_fz (evn_sliceL (ev_var 8 rfl) (.some ev_int) .none)) (evd (ev_fz (evn_rep (ev_fz (ev_ls (evd ev_int evd_nil))) (ev_add (ev_var 3 rfl) ev_int) ?_))
    (evd (ev_if (evt_gt (ev_var 3 rfl) ev_int) (fun _ => ev_fz (evn_rep (ev_fz (ev_ls (evd ev_int evd_nil))) (ev_var 3 rfl) ?_)) (fun _ => ev_fz (ev_ls (evd ev_int evd_nil)))) (evd (ev_fz (evn_cat (ev_fz (ev_ls (evd ev_bl evd_nil))) (ev_fz (evn_sliceL (ev_var 8 rfl) (.some ev_int) .none)) ?_))
    (evd ev_non (evd ev_int (evd (ev_sliceS ev_str .none (.some (ev_var 3 rfl)) (by decide)) evd_nil))))))))) (show _ = Sl.ow false (oddL n) from rfl)) ?_
  · rw [lr]; exact rz _ (by simp; omega)
  · refine ⟨by omega, by omega, rz _ ?_⟩
    simp
    omega
  · refine ⟨by omega, by omega, rz _ ?_⟩
    simp
    omega
  · refine rz _ ?_
    unfold DL.cutD
    simp only [List.length_take, List.length_drop, List.length_cons, List.length_nil, lr]
    omega
  refine exb_fz 9 rfl ?_
  refine st_set 9 (EvS.to (evn_cat (ev_var 9 rfl) (ev_fz (ev_ls (evd (ev_fz (ev_lcm (n := 13) (g := fun d => match d with | .int i => .str (toString i) | d => d) (src_list (ev_var 8 rfl)) (fun d hd F' hF s0 H0 C cl fp => ?_) (by rw [lr]; exact rz _ (by omega)))) (evd (ev_fz (ev_lcm (n := 13) (g := fun d => match d with | .int i => .int (i + 1) | d => d) (src_list (ev_var 8 rfl)) (fun d hd F' hF s0 H0 C cl fp => ?_) (by rw [lr]; exact rz _ (by omega))))
    (evd (ev_fz (ev_lcm (n := 13) (g := fun d => match d with | .int i => .int (i - 1) | d => d) (src_list (ev_var 8 rfl)) (fun d hd F' hF s0 H0 C cl fp => ?_) (by rw [lr]; exact rz _ (by omega)))) evd_nil))))) ?_) (show _ = Sl.ow false (oddL n ++ oddM n) from rfl)) ?_
  · obtain ⟨i, rfl, i0, i1⟩ := rng_mem h5 hd
    exact ev_strI B.at (ev_var 13 rfl) (by
      have : i.natAbs < 2 ^ 3 := by omega
      rcases Nat.eq_zero_or_pos i.natAbs with z | z
      · rw [z]; decide
      · have := (Nat.log2_lt (by omega)).mpr this; omega)
  · obtain ⟨i, rfl, i0, i1⟩ := rng_mem h5 hd
    exact ev_add (ev_var 13 rfl) ev_int
  · obtain ⟨i, rfl, i0, i1⟩ := rng_mem h5 hd
    exact ev_sub (ev_var 13 rfl) ev_int
  · exact rz _ (by show 8 + 3 ≤ 1000; decide)
  refine exb_fz 9 rfl ?_
  refine st_set 10 (ev_clIO 1 D.pick hr (k2 (by decide)) hg (eva (ev_fz (ev_ls (evd (ev_fz (evn_cat (ev_var 4 rfl) (ev_fz (ev_ls (evd (ev_clIO 1 D.pick hr (k2 (by decide)) hg (eva (ev_var 9 rfl) eva_nil) rfl rfl q2) evd_nil))) ?_))
    (evd (ev_fz (evn_cat (ev_fz (ev_ls (evd (ev_clIO 1 D.pick hr (k2 (by decide)) hg (eva (ev_var 9 rfl) eva_nil) rfl rfl q3) evd_nil))) (ev_var 4 rfl) ?_)) (evd ev_non (evd ev_int (evd ev_str evd_nil))))))) eva_nil) rfl rfl q4) ?_
  · rw [List.length_map]; exact rz _ (by simp; omega)
  · rw [List.length_map]; exact rz _ (by simp; omega)
  exact h
end
end K09
end
section
set_option maxHeartbeats 1000000
namespace K09
open PySem PySem.Spec PyProof.Rows L2 DL
/-- what the law's own hearing is -/
structure HeardD (K : PySem.W.Frag) (mg : Str → Option Value) (g : Addr) (fd : FuncData) : Prop where
  fn : FnP K "_law_heard" sHeard g fd
  mg : mg "_law_heard" = some (.ref g)
  kp : PySem.W.keepIn K (.ref g) = true
  bd : L2.Binds K fd ["ask"] []
theorem lam1 {X : Cx} {body : Expr} {scope : Scope} : LamP X { posonlyargs := [], args := [], vararg := none, kwonlyargs := [], kw_defaults := [], kwarg := none, defaults := [] } body scope := .no rfl fun q cl dV doc pm cv ctv e => by subst e; rfl
theorem lamA1 {X : Cx} {body : Expr} {scope : Scope} {q : Pos} {p : Pos} (hl : scope.names.lookup ("a1" : Str) = some .local) : LamP X { posonlyargs := [], args := [{ arg := "a1", annotation := none, pos := q }], vararg := none, kwonlyargs := [], kw_defaults := [], kwarg := none, defaults := [.Constant (.int 0) 0 p] } body scope :=
  .one 0 0 p "a1" rfl rfl (fun q cl dV doc pm cv ctv => ⟨_, rfl, fun v => rfl⟩) hl
theorem lamA2 {X : Cx} {body : Expr} {scope : Scope} {q : Pos} {p : Pos} (hl : scope.names.lookup ("a2" : Str) = some .local) : LamP X { posonlyargs := [], args := [{ arg := "a2", annotation := none, pos := q }], vararg := none, kwonlyargs := [], kw_defaults := [], kwarg := none, defaults := [.Constant (.int 0) 0 p] } body scope :=
  .one 0 0 p "a2" rfl rfl (fun q cl dV doc pm cv ctv => ⟨_, rfl, fun v => rfl⟩) hl
theorem lamA3 {X : Cx} {body : Expr} {scope : Scope} {q : Pos} {p : Pos} (hl : scope.names.lookup ("a3" : Str) = some .local) : LamP X { posonlyargs := [], args := [{ arg := "a3", annotation := none, pos := q }], vararg := none, kwonlyargs := [], kw_defaults := [], kwarg := none, defaults := [.Constant (.int 0) 0 p] } body scope :=
  .one 0 0 p "a3" rfl rfl (fun q cl dV doc pm cv ctv => ⟨_, rfl, fun v => rfl⟩) hl
section
variable {P : Program} {w : World} {K : PySem.W.Frag} {mg : Str → Option Value} {base : Heap} {f C C2 fI g : Addr} {fd : FuncData}
variable {cdv : Value} {A : Around} {out : List Env} {s : Shared} {H : Hp} {E : XK} {F : FC}
/-- an error is heard -/
theorem ev_heardX {ρ : List Sl} {k j : Nat} {d : PyData} {params : Arguments} {body : Expr} {scope : Scope} {lpos p pos : Pos} {C : Addr} (HD : HeardD K mg g fd) (HC : HeardC K mg C j) (B : Bl mg) (hK : K = F.K) (MK : Maker (lX P w K mg base f cdv A out s H E) F) (hr : Room (k + 2) (A.deeper (envOfC "law" (defScope sLaw) s.heap.objs.size f cdv))) (hg : A.guards = some [])
    (L : LamO lawN (defScope sLaw) scope) (hp : LamP (lX P w K mg base f cdv A out s H E) params body scope) (hb : LBody (lX P w K mg base f cdv A out s H E) F.K k scope body ρ (.exc C [("part", d)])) :
    EvD (lX P w K mg base f cdv A out s H E) F (.Call (.Name "_law_heard" p) [.Lambda params body scope lpos] [] pos) ρ (.tuple [.str (kindWords.getD j ""), d]) ρ :=
  ev_lamcall MK HD.fn HD.mg HD.kp HD.bd sc_heard rfl (.inl rfl) hr hg L hp hb fun cdv' s' H' f' Fh hF hr' acts => heard_exc hr' (hK.trans hF.symm) B HC acts
abbrev N1 : PyData := .tuple [.str "number", .str "many"]
abbrev hrd : List PyData := [N1, .tuple [.str "value", .str "makers"], N1, .tuple [.str "value", .str "wanted"]]
theorem partD (D : Defs P w K mg base C C2) (HD : HeardD K mg g fd) (HC : HeardC K mg C 1) (HC2 : HeardC K mg C2 2) (B : Bl mg) (hK : K = F.K) (MK : Maker (lX P w K mg base f cdv A out s H E) F) {k : Nat} (hr : Room (k + 2) (A.deeper (envOfC "law" (defScope sLaw) s.heap.objs.size f cdv))) (hk : 4 ≤ k) (hg : A.guards = some [])
    {n : Nat} (h1 : 1 ≤ n) (h5 : n ≤ 5) {bad wrong : PyData} (hb : within bad 1 5 = false) (hw : turns? n wrong = none ∧ ∀ ds, itemsD wrong = some ds → ds.length ≤ 1000) (sc pe tu x4 x5 x6 x8 x9 x11 : Sl) (R : Out)
    (h : ExB (lX P w K mg base f cdv A out s H E) F [] [sc, pe, tu, .fz (.int (n : Nat)), x4, x5, x6, .fz bad, x8, x9, .fz wrong, .fz (.list (hrd ++ [N1])), .un, .un] R) :
    ExB (lX P w K mg base f cdv A out s H E) F (lBody.drop 10) [sc, pe, tu, .fz (.int (n : Nat)), x4, x5, x6, .fz bad, x8, x9, .fz wrong, x11, .un, .un] R := by
  have nd := sc_law.nd
  have hu := hr.units
  refine st_set 11 (EvS.to (ev_ls (evd (ev_heardX (d := .str "many") HD HC B hK MK hr hg (lamO_by (by rfl)) lam1 (fun A' outer s1 H' E' f' c' F' hr2 hg2 hF => ?_)) (evd (ev_heardX (d := .str "makers") HD HC2 B hK MK hr hg (lamO_by (by rfl)) (lamA1 rfl) (fun A' outer s1 H' E' f' c' F' hr2 hg2 hF => ?_))
    (evd (ev_heardX (d := .str "many") HD HC B hK MK hr hg (lamO_by (by rfl)) (lamA2 rfl) (fun A' outer s1 H' E' f' c' F' hr2 hg2 hF => ?_)) (evd (ev_heardX (d := .str "wanted") HD HC2 B hK MK hr hg (lamO_by (by rfl)) (lamA3 rfl) (fun A' outer s1 H' E' f' c' F' hr2 hg2 hF => ?_)) evd_nil))))) (show _ = Sl.ow false hrd from rfl)) ?_
  · have hK' : K = F'.K := hK.trans hF.symm
    exact ⟨_, ev_clX D.group hr2 hk hg2 (eva (ev_var 7 rfl) (eva (ev_var 10 rfl) eva_nil)) ⟨_, _, rfl, hw.2, .inl ⟨hb, rfl⟩⟩⟩
  · have hK' : K = F'.K := hK.trans hF.symm
    exact ⟨_, ev_clX D.group hr2 hk hg2 (eva (ev_var 3 rfl) (eva (ev_var 10 rfl) eva_nil)) ⟨_, _, rfl, hw.2, .inr ⟨n, rfl, h1, h5, .inl ⟨hw.1, rfl⟩⟩⟩⟩
  · have hK' : K = F'.K := hK.trans hF.symm
    exact ⟨_, ev_clX D.having hr2 hk hg2 (eva (ev_var 7 rfl) (eva ev_non eva_nil)) ⟨_, _, rfl, fun ds e => (by cases e), .inl ⟨hb, rfl⟩⟩⟩
  · have hK' : K = F'.K := hK.trans hF.symm
    exact ⟨_, ev_clX D.having hr2 hk hg2 (eva (ev_var 3 rfl) (eva (ev_var 10 rfl) eva_nil)) ⟨_, _, rfl, hw.2, .inr ⟨n, rfl, h1, h5, hw.1, rfl⟩⟩⟩
  · refine st_expr (ev_append 11 rfl (ev_heardX (d := .str "many") HD HC B hK MK hr hg (lamO_by (by rfl)) lam1 (fun A' outer s1 H' E' f' c' F' hr2 hg2 hF => ?_)) rfl (by rw [sizeLine_eq]; decide)) ?_
    · have hK' : K = F'.K := hK.trans hF.symm
      exact ⟨_, ev_clKX D.alls hr2 hk hg2 (evk_cons (ev_var 7 rfl) evk_nil) ⟨_, rfl, hb, rfl⟩⟩
    refine exb_fz 11 (ds := hrd ++ [N1]) rfl ?_
    refine st_if0 (.to (evt_neD hu (ev_var 11 rfl) (ev_fz (ev_ls (evd (ev_tp (evd ev_str (evd ev_str evd_nil))) (evd (ev_tp (evd ev_str (evd ev_str evd_nil))) (evd (ev_tp (evd ev_str (evd ev_str evd_nil))) (evd (ev_tp (evd ev_str (evd ev_str evd_nil))) (evd (ev_tp (evd ev_str (evd ev_str evd_nil))) evd_nil))))))) (by decide +kernel) (by decide +kernel)) (by decide +kernel)) ?_
    exact h
/-- all that the law leans on -/
structure LawD (P : Program) (w : World) (K : PySem.W.Frag) (mg : Str → Option Value) (base : Heap) : Prop where
  ex : ∃ (C C2 g : Addr) (fd : FuncData), Defs P w K mg base C C2 ∧ HeardD K mg g fd ∧ HeardC K mg C 1 ∧ HeardC K mg C2 2 ∧ Bl mg
def lawJ (sc : Sl) (k : Nat) (ρ : List Sl) : Prop := ∃ (p : Pen) (tu x3 x4 x5 x6 x7 x8 x9 x10 x11 : Sl), p.ok (10000 - 200 * (k : Int)) ∧ ρ = [sc, .ow false p.ds, tu, x3, x4, x5, x6, x7, x8, x9, x10, x11, .un, .un]
theorem law_round (LD : LawD P w K mg base) (hK : K = F.K) (MK : Maker (lX P w K mg base f cdv A out s H E) F) (hr : Room 10 (A.deeper (envOfC "law" (defScope sLaw) s.heap.objs.size f cdv))) (hg : A.guards = some []) (sc : Sl) (k : Nat) (hk : k < 8) (d : PyData) (ρ : List Sl) (hj : lawJ sc k ρ) :
    ∃ ρ', lawJ sc (k + 1) ρ' ∧ ExB (lX P w K mg base f cdv A out s H E) F lBody (ρ.set 2 (.fz d)) (.nx ρ') := by
  obtain ⟨C, C2, g, fd, D, HD, HC, HC2, B⟩ := LD.ex
  obtain ⟨p, tu, x3, x4, x5, x6, x7, x8, x9, x10, x11, hp, rfl⟩ := hj
  obtain ⟨p', n, ms, hp', h1, h5, hm, hl, eA⟩ := partA (f := f) (cdv := cdv) (A := A) (out := out) (s := s) (H := H) (E := E) D B hK hr (by decide) hg hp (by omega) sc (.fz d) x3 x4 x5 x6 x7 x8 x9 x10 x11
  obtain ⟨p'', bad, wrong, y8, y9, hp'', hb, hw, eC⟩ := partC (f := f) (cdv := cdv) (A := A) (out := out) (s := s) (H := H) (E := E) D B hK hr (by decide) hg hp' (by omega) h1 h5 hl sc (.fz d) (.fz (.list (ms.map lI))) (.fz (.tuple ((closG n ms).map tI))) x7 x8 x9 x10 x11
  exact ⟨_, ⟨p'', .fz d, _, _, _, _, _, _, _, _, _, hp''.mono (by omega), rfl⟩, eA _ (partB D B hK hr (by decide) hg h1 h5 hm hl sc _ _ x5 x6 x7 x8 x9 x10 x11 _ (eC _ (partD (k := 8) D HD HC HC2 B hK MK hr (by decide) hg h1 h5 hb hw sc _ _ _ _ _ _ _ x11 _ exb_nil)))⟩
theorem law_body (LD : LawD P w K mg base) (hK : K = F.K) (MK : Maker (lX P w K mg base f cdv A out s H E) F) (hr : Room 10 (A.deeper (envOfC "law" (defScope sLaw) s.heap.objs.size f cdv))) (hg : A.guards = some []) (ns : List Int) (hl : ns.length ≤ 63) :
    ∃ ρ', ExB (lX P w K mg base f cdv A out s H E) F (defBody sLaw) (.pv (ScP K ns) :: List.replicate 13 .un) (.rt (.fz (.bool true)) ρ') := by
  obtain ⟨C, C2, g, fd, D, HD, HC, HC2, B⟩ := LD.ex
  have nd := sc_law.nd
  obtain ⟨ρ', _, loop⟩ := for_pred (X := lX P w K mg base f cdv A out s H E) (F := F) (body := lBody) (n := 2) (ds := rng 0 8) (lawJ (.pv (ScP K ns))) (fun k d ρ hd hj => law_round LD hK MK hr hg _ k (by
      have := (List.getElem?_eq_some_iff.mp hd).1
      simpa [rng] using this) d ρ hj)
    [.pv (ScP K ns), .ow false (Pen.ds ⟨ns, 0, 0⟩), .un, .un, .un, .un, .un, .un, .un, .un, .un, .un, .un, .un] ⟨⟨ns, 0, 0⟩, .un, .un, .un, .un, .un, .un, .un, .un, .un, .un, ⟨Int.le_refl 0, show (0 : Int) + (10000 - 200 * ((0 : Nat) : Int)) < 1000000 by omega, Int.le_refl 0, hl⟩, rfl⟩
  exact ⟨_, st_set 1 (ev_cl D.pen hr (by decide) hg (eva_cons (ev_pv 0 rfl) eva_nil) ⟨ns, rfl, hl, rfl⟩) (st_for (n := 2) (src_range1 B.at ev_int (by decide) (by decide)) loop (st_ret ev_bl))⟩
end
end K09
end
section
set_option maxHeartbeats 4000000
namespace K09
open PySem PySem.Spec PyProof.Rows L2 DL PySem.W
abbrev pr : Program := PySem.Challenge.pw_foldedalike_k09_groups_are_all_products
def dOf (x : Str) (st : Stmt) : He.DefD := ⟨(x, none), x, x, defArgs st, defBody st, defScope st, [], []⟩
def dOfD (x : Str) (st : Stmt) (dl : List He.Dv) : He.DefD := ⟨(x, none), x, x, defArgs st, defBody st, defScope st, dl, []⟩
def clsInit (st : Stmt) : Stmt := match st with
  | .ClassDef _ _ _ b _ _ _ _ _ _ _ => b.getD 0 (.Pass ⟨0, 0, 0, 0⟩)
  | _ => .Pass ⟨0, 0, 0, 0⟩
def iniOf (x q : Str) (st : Stmt) : IniD := ⟨x, q, defArgs (clsInit st), defBody (clsInit st)⟩
def fn : List He.DefD := [dOf "is_integer" sIsInteger, dOf "is_within" sIsWithin, dOf "is_listed" sIsListed, dOf "then" sThen, dOf "group_by" sGroupBy, dOf "is_turning" sIsTurning, dOfD "need_spots" sNeedSpots [.str "many"], dOf "need_turnings" sNeedTurnings, dOf "group" sGroup, dOf "nest_having" sNestHaving, dOf "all_nests" sAllNests, dOf "_law_pen" sPen, dOf "_law_draw" sDraw, dOf "_law_pick" sPick, dOf "_law_mixed" sMixed, dOf "_law_heard" sHeard, dOf "_law_listed" sListed, dOf "_law_b_closed" sClosed, dOf "law" sLaw]
def glos : List Str := ((["is_integer", "is_within", "is_listed", "then", "group_by", "is_turning", "need_spots", "need_turnings", "group", "nest_having", "all_nests", "_law_pen", "_law_draw", "_law_pick", "_law_mixed", "_law_heard", "_law_listed", "_law_b_closed", "law", "FoldError", "TooMany", "BadText", "BadCommand", "NoName"] : List Str)) ++ kindNames
def iniBadNumber : IniD := iniOf "BadNumber" "BadNumber.__init__" (top 7)
def iniBadValue : IniD := iniOf "BadValue" "BadValue.__init__" (top 8)
abbrev inis : List IniD := [iniBadNumber, iniBadValue]
/-- the class x is the j-th kind of errors -/
def heardB (K : Frag) (x : Str) (j : Nat) : Bool := decide (exmOne K (.ref (He.ga K x)) (.ref (He.ga K "FoldError")) = some true) && ((["TooMany", "BadText", "BadCommand", "NoName"] : List Str).all (fun y => decide (kitOne K (.ref (He.ga K x)) (.ref (He.ga K y)) = some false)) && (kindNames.zipIdx.all fun p => decide (kitOne K (.ref (He.ga K x)) (.ref (He.ga K p.1)) = some (decide (p.2 = j)))))
def ex (K : Frag) : Bool := (glos.all fun x => (He.Fa.glo x).ok K) && ((blNames.all fun x => (He.Fa.free x).ok K) && (errB0 K && (errB K "BadNumber" && (iniB pr.main.file K iniBadNumber && (heardB K "BadNumber" 1 && (errB K "BadValue" && (iniB pr.main.file K iniBadValue && (heardB K "BadValue" 2 && ((He.Fa.int "MOST_SPOTS" 5).ok K)))))))))
theorem heardC_of {K : Frag} {h : Heap} {mg : Str → Option Value} {x : Str} {j : Nat} (X : K.In h) (G : h.Ns mainGlobals mg) (gl : (glos.all fun x => (He.Fa.glo x).ok K) = true) (eb : errB K x = true) (b : heardB K x j = true) (hj : j < 8) : HeardC K mg (He.ga K x) j := by
  have mgOf : ∀ y ∈ glos, mg y = some (.ref (He.ga K y)) := fun y hy => He.glo_ok X G (List.all_eq_true.mp gl y hy)
  obtain ⟨b1, b⟩ := He.ba b
  obtain ⟨b2, b3⟩ := He.ba b
  obtain ⟨_, q⟩ := He.ba eb
  obtain ⟨_, q⟩ := He.ba q
  obtain ⟨qp, q⟩ := He.ba q
  obtain ⟨_, q⟩ := He.ba q
  obtain ⟨_, q⟩ := He.ba q
  obtain ⟨_, q⟩ := He.ba q
  obtain ⟨_, q⟩ := He.ba q
  obtain ⟨_, q⟩ := He.ba q
  obtain ⟨_, q⟩ := He.ba q
  refine ⟨⟨_, mgOf _ (List.elem_iff.mp rfl), of_decide_eq_true b1⟩, xcB_ok q, He.eqO_ok qp, fun y hy => ⟨_, mgOf y ?_, of_decide_eq_true (List.all_eq_true.mp b2 y hy)⟩, fun i y hy => ⟨_, mgOf y ?_, ?_⟩, hj⟩
  · have := hy
    simp only [List.mem_cons, List.not_mem_nil, or_false] at this
    rcases this with rfl | rfl | rfl | rfl <;> exact List.elem_iff.mp rfl
  · exact List.mem_append_right _ (List.mem_of_getElem? hy)
  · have m : (y, i) ∈ kindNames.zipIdx := List.mem_zipIdx_iff_getElem?.mpr hy
    exact of_decide_eq_true (List.all_eq_true.mp b3 _ m)
theorem tx_BadNumber : ∃ (p1 p2 q1 q2 q3 q4 q5 q6 q7 q8 q9 q10 : Pos), iniBadNumber.params = eArgs p1 p2 ∧ iniBadNumber.body = eBody q1 q2 q3 q4 q5 q6 q7 q8 q9 q10 ∧ (q3.endLine == q5.line) = true := ⟨_, _, _, _, _, _, _, _, _, _, _, _, rfl, rfl, by rfl⟩
theorem tx_BadValue : ∃ (p1 p2 q1 q2 q3 q4 q5 q6 q7 q8 q9 q10 : Pos), iniBadValue.params = eArgs p1 p2 ∧ iniBadValue.body = eBody q1 q2 q3 q4 q5 q6 q7 q8 q9 q10 ∧ (q3.endLine == q5.line) = true := ⟨_, _, _, _, _, _, _, _, _, _, _, _, rfl, rfl, by rfl⟩
abbrev tf : List He.Defn := [("law", none)]
end K09
end
section
set_option maxHeartbeats 4000000
namespace K09
open PySem PySem.Spec PyProof.Rows L2 DL PySem.W
section
variable {w : World} {K : Frag} {mg : Str → Option Value} {h : Heap}
theorem facts {fa : Addr} (X : K.In h) (G : h.Ns mainGlobals mg) (hfa : mg ("law" : Str) = some (.ref fa)) (c : SaysY [] fn tf inis ex h K) : LawAt PySem.Challenge.rw_foldedalike_k09_groups_are_all_products w K mg fa h := by
  obtain ⟨gl, cx⟩ := He.ba c.more
  obtain ⟨bl, cx⟩ := He.ba cx
  obtain ⟨e0, cx⟩ := He.ba cx
  obtain ⟨ebBadNumber, cx⟩ := He.ba cx
  obtain ⟨ibBadNumber, cx⟩ := He.ba cx
  obtain ⟨hbBadNumber, cx⟩ := He.ba cx
  obtain ⟨ebBadValue, cx⟩ := He.ba cx
  obtain ⟨ibBadValue, cx⟩ := He.ba cx
  obtain ⟨hbBadValue, cx⟩ := He.ba cx
  have inMOST_SPOTS := cx
  have mgOf : ∀ y ∈ glos, mg y = some (.ref (He.ga K y)) := fun y hy => He.glo_ok X G (List.all_eq_true.mp gl y hy)
  have B : Bl mg := fun x hx => He.free_ok X G (List.all_eq_true.mp bl x (List.elem_iff.mp hx))
  have TBadNumber : ErrT pr K (He.ga K "BadNumber") (He.ma K (He.ga K "BadNumber") "__init__") "BadNumber.__init__" := errT_of (d := iniBadNumber) ebBadNumber e0 ibBadNumber (c.inis 0) (by decide +kernel) tx_BadNumber
  have HCBadNumber := heardC_of X G gl ebBadNumber hbBadNumber (by decide)
  have mBadNumber : mg "BadNumber" = some (.ref (He.ga K "BadNumber")) := mgOf _ (List.elem_iff.mp rfl)
  have TBadValue : ErrT pr K (He.ga K "BadValue") (He.ma K (He.ga K "BadValue") "__init__") "BadValue.__init__" := errT_of (d := iniBadValue) ebBadValue e0 ibBadValue (c.inis 1) (by decide +kernel) tx_BadValue
  have HCBadValue := heardC_of X G gl ebBadValue hbBadValue (by decide)
  have mBadValue : mg "BadValue" = some (.ref (He.ga K "BadValue")) := mgOf _ (List.elem_iff.mp rfl)
  obtain ⟨tMOST_SPOTS, mMOST_SPOTS⟩ := He.int_ok X G inMOST_SPOTS
  obtain ⟨fd0, F0⟩ := c.d.def_ 0 (d := dOf "is_integer" sIsInteger) rfl
  obtain ⟨fd1, F1⟩ := c.d.def_ 1 (d := dOf "is_within" sIsWithin) rfl
  obtain ⟨fd2, F2⟩ := c.d.def_ 2 (d := dOf "is_listed" sIsListed) rfl
  obtain ⟨fd3, F3⟩ := c.d.def_ 3 (d := dOf "then" sThen) rfl
  obtain ⟨fd4, F4⟩ := c.d.def_ 4 (d := dOf "group_by" sGroupBy) rfl
  obtain ⟨fd5, F5⟩ := c.d.def_ 5 (d := dOf "is_turning" sIsTurning) rfl
  obtain ⟨fd6, F6⟩ := c.d.def_ 6 (d := dOfD "need_spots" sNeedSpots [.str "many"]) rfl
  obtain ⟨fd7, F7⟩ := c.d.def_ 7 (d := dOf "need_turnings" sNeedTurnings) rfl
  obtain ⟨fd8, F8⟩ := c.d.def_ 8 (d := dOf "group" sGroup) rfl
  obtain ⟨fd9, F9⟩ := c.d.def_ 9 (d := dOf "nest_having" sNestHaving) rfl
  obtain ⟨fd10, F10⟩ := c.d.def_ 10 (d := dOf "all_nests" sAllNests) rfl
  obtain ⟨fd11, F11⟩ := c.d.def_ 11 (d := dOf "_law_pen" sPen) rfl
  obtain ⟨fd12, F12⟩ := c.d.def_ 12 (d := dOf "_law_draw" sDraw) rfl
  obtain ⟨fd13, F13⟩ := c.d.def_ 13 (d := dOf "_law_pick" sPick) rfl
  obtain ⟨fd14, F14⟩ := c.d.def_ 14 (d := dOf "_law_mixed" sMixed) rfl
  obtain ⟨fd15, F15⟩ := c.d.def_ 15 (d := dOf "_law_heard" sHeard) rfl
  obtain ⟨fd16, F16⟩ := c.d.def_ 16 (d := dOf "_law_listed" sListed) rfl
  obtain ⟨fd17, F17⟩ := c.d.def_ 17 (d := dOf "_law_b_closed" sClosed) rfl
  obtain ⟨fd18, F18⟩ := c.d.def_ 18 (d := dOf "law" sLaw) rfl
  obtain rfl : fa = He.ga K "law" := by
    have e := hfa.symm.trans (mgOf "law" (List.elem_iff.mp rfl))
    exact Value.ref.inj (Option.some.inj e)
  have G_integer : ∀ base, GnOk pr w K mg base 1 (He.ga K "is_integer") fd0 ["value"] (SpD K φIsInteger) := fun base => ok_isInteger F0 B
  have D_integer : ∀ base, DefG pr w K mg base "is_integer" 1 ["value"] φIsInteger := fun base => ⟨_, fd0, G_integer base, mgOf _ (List.elem_iff.mp rfl), F0.kp, F0.bindsN fun _ _ _ _ _ _ us hl => match us, hl with | [_], _ => rfl⟩
  have G_within : ∀ base, GnOk pr w K mg base 2 (He.ga K "is_within") fd1 ["value", "least", "most"] (SpD K φWithin) := fun base => ok_isWithin F1 (D_integer base)
  have D_within : ∀ base, DefG pr w K mg base "is_within" 2 ["value", "least", "most"] φWithin := fun base => ⟨_, fd1, G_within base, mgOf _ (List.elem_iff.mp rfl), F1.kp, F1.bindsN fun _ _ _ _ _ _ us hl => match us, hl with | [_, _, _], _ => rfl⟩
  have G_listed : ∀ base, GnOk pr w K mg base 1 (He.ga K "is_listed") fd2 ["value"] (SpD K φIsListed) := fun base => ok_isListed F2 B
  have D_listed : ∀ base, DefG pr w K mg base "is_listed" 1 ["value"] φIsListed := fun base => ⟨_, fd2, G_listed base, mgOf _ (List.elem_iff.mp rfl), F2.kp, F2.bindsN fun _ _ _ _ _ _ us hl => match us, hl with | [_], _ => rfl⟩
  have G_then : ∀ base, GnOk pr w K mg base 1 (He.ga K "then") fd3 ["one", "other"] (SpD K φThen) := fun base => ok_then F3 B
  have D_then : ∀ base, DefG pr w K mg base "then" 1 ["one", "other"] φThen := fun base => ⟨_, fd3, G_then base, mgOf _ (List.elem_iff.mp rfl), F3.kp, F3.bindsN fun _ _ _ _ _ _ us hl => match us, hl with | [_, _], _ => rfl⟩
  have G_groupBy : ∀ base, GnOk pr w K mg base 2 (He.ga K "group_by") fd4 ["many", "makers"] (SpD K φGroupBy) := fun base => ok_groupBy F4 B (D_then base)
  have D_groupBy : ∀ base, DefG pr w K mg base "group_by" 2 ["many", "makers"] φGroupBy := fun base => ⟨_, fd4, G_groupBy base, mgOf _ (List.elem_iff.mp rfl), F4.kp, F4.bindsN fun _ _ _ _ _ _ us hl => match us, hl with | [_, _], _ => rfl⟩
  have G_turning : ∀ base, GnOk pr w K mg base 2 (He.ga K "is_turning") fd5 ["value", "many"] (SpD K φIsTurning) := fun base => ok_isTurning F5 B (D_listed base) (D_integer base)
  have D_turning : ∀ base, DefG pr w K mg base "is_turning" 2 ["value", "many"] φIsTurning := fun base => ⟨_, fd5, G_turning base, mgOf _ (List.elem_iff.mp rfl), F5.kp, F5.bindsN fun _ _ _ _ _ _ us hl => match us, hl with | [_, _], _ => rfl⟩
  have G_spots : ∀ base, GnOk pr w K mg base 3 (He.ga K "need_spots") fd6 ["value", "part"] (SpD K (φNeedSpots (He.ga K "BadNumber"))) := fun base => ok_needSpots F6 B (D_within base) TBadNumber mBadNumber mMOST_SPOTS
  have D_spots : ∀ base, DefGd pr w K mg base "need_spots" 3 ["value", "part"] (φNeedSpots (He.ga K "BadNumber")) [.str "many"] := fun base => by
    obtain ⟨ds, r1, r2⟩ := F6.binds1 (ps := ["value", "part"]) 1 0 (fun z => nomatch z) rfl fun T kV doc pm an cdv ct us its h1 h2 => match us, its, h1, h2 with | [_], [_], _, _ => ⟨_, rfl, rfl⟩
    exact ⟨_, fd6, ds, _, G_spots base, mgOf _ (List.elem_iff.mp rfl), F6.kp, r2, r1, fun G => ⟨_, [], rfl, rp_str "many" G, rfl⟩⟩
  have G_turnings : ∀ base, GnOk pr w K mg base 3 (He.ga K "need_turnings") fd7 ["value", "many", "part"] (SpD K (φNeedTurnings (He.ga K "BadValue"))) := fun base => ok_needTurnings F7 B (D_listed base) (D_turning base) TBadValue mBadValue
  have D_turnings : ∀ base, DefG pr w K mg base "need_turnings" 3 ["value", "many", "part"] (φNeedTurnings (He.ga K "BadValue")) := fun base => ⟨_, fd7, G_turnings base, mgOf _ (List.elem_iff.mp rfl), F7.kp, F7.bindsN fun _ _ _ _ _ _ us hl => match us, hl with | [_, _, _], _ => rfl⟩
  have G_group : ∀ base, GnOk pr w K mg base 4 (He.ga K "group") fd8 ["many", "makers"] (SpD K (φGroup (He.ga K "BadNumber") (He.ga K "BadValue"))) := fun base => ok_group F8 (D_spots base) (D_turnings base) (D_groupBy base)
  have D_group : ∀ base, DefG pr w K mg base "group" 4 ["many", "makers"] (φGroup (He.ga K "BadNumber") (He.ga K "BadValue")) := fun base => ⟨_, fd8, G_group base, mgOf _ (List.elem_iff.mp rfl), F8.kp, F8.bindsN fun _ _ _ _ _ _ us hl => match us, hl with | [_, _], _ => rfl⟩
  have K_group : ∀ base, DefKW pr w K mg base "group" 4 ["many", "makers"] (φGroup (He.ga K "BadNumber") (He.ga K "BadValue")) ["makers", "many"] (List.reverse) := fun base => ⟨_, fd8, G_group base, mgOf _ (List.elem_iff.mp rfl), F8.kp, bindsK (g := List.reverse) F8 fun _ _ _ _ _ _ ws hl => match ws, hl with | [_, _], _ => rfl⟩
  have G_having : ∀ base, GnOk pr w K mg base 4 (He.ga K "nest_having") fd9 ["many", "wanted"] (SpD K (φNestHaving (He.ga K "BadNumber") (He.ga K "BadValue"))) := fun base => ok_nestHaving F9 (D_spots base) (D_turnings base)
  have D_having : ∀ base, DefG pr w K mg base "nest_having" 4 ["many", "wanted"] (φNestHaving (He.ga K "BadNumber") (He.ga K "BadValue")) := fun base => ⟨_, fd9, G_having base, mgOf _ (List.elem_iff.mp rfl), F9.kp, F9.bindsN fun _ _ _ _ _ _ us hl => match us, hl with | [_, _], _ => rfl⟩
  have G_alls : ∀ base, GnOk pr w K mg base 4 (He.ga K "all_nests") fd10 ["many"] (SpD K (φAllNests (He.ga K "BadNumber"))) := fun base => ok_allNests F10 (D_spots base)
  have D_alls : ∀ base, DefG pr w K mg base "all_nests" 4 ["many"] (φAllNests (He.ga K "BadNumber")) := fun base => ⟨_, fd10, G_alls base, mgOf _ (List.elem_iff.mp rfl), F10.kp, F10.bindsN fun _ _ _ _ _ _ us hl => match us, hl with | [_], _ => rfl⟩
  have K_alls : ∀ base, DefKW pr w K mg base "all_nests" 4 ["many"] (φAllNests (He.ga K "BadNumber")) ["many"] (fun l => l) := fun base => ⟨_, fd10, G_alls base, mgOf _ (List.elem_iff.mp rfl), F10.kp, bindsK (g := fun l => l) F10 fun _ _ _ _ _ _ ws hl => match ws, hl with | [_], _ => rfl⟩
  have G_pen : ∀ base, GnOk pr w K mg base 1 (He.ga K "_law_pen") fd11 ["script"] (SpD K (φPen K)) := fun base => ok_pen F11 B
  have D_pen : ∀ base, DefG pr w K mg base "_law_pen" 1 ["script"] (φPen K) := fun base => ⟨_, fd11, G_pen base, mgOf _ (List.elem_iff.mp rfl), F11.kp, F11.bindsN fun _ _ _ _ _ _ us hl => match us, hl with | [_], _ => rfl⟩
  have G_draw : ∀ base, GnOk pr w K mg base 1 (He.ga K "_law_draw") fd12 ["pen", "many"] (SpD K φDraw) := fun base => ok_draw F12 B
  have D_draw : ∀ base, DefG pr w K mg base "_law_draw" 1 ["pen", "many"] φDraw := fun base => ⟨_, fd12, G_draw base, mgOf _ (List.elem_iff.mp rfl), F12.kp, F12.bindsN fun _ _ _ _ _ _ us hl => match us, hl with | [_, _], _ => rfl⟩
  have G_pick : ∀ base, GnOk pr w K mg base 2 (He.ga K "_law_pick") fd13 ["pen", "some"] (SpD K φPick) := fun base => ok_pick F13 B (D_draw base)
  have D_pick : ∀ base, DefG pr w K mg base "_law_pick" 2 ["pen", "some"] φPick := fun base => ⟨_, fd13, G_pick base, mgOf _ (List.elem_iff.mp rfl), F13.kp, F13.bindsN fun _ _ _ _ _ _ us hl => match us, hl with | [_, _], _ => rfl⟩
  have G_mixed : ∀ base, GnOk pr w K mg base 2 (He.ga K "_law_mixed") fd14 ["pen", "some"] (SpD K φMixed) := fun base => ok_mixed F14 B (D_draw base)
  have D_mixed : ∀ base, DefG pr w K mg base "_law_mixed" 2 ["pen", "some"] φMixed := fun base => ⟨_, fd14, G_mixed base, mgOf _ (List.elem_iff.mp rfl), F14.kp, F14.bindsN fun _ _ _ _ _ _ us hl => match us, hl with | [_, _], _ => rfl⟩
  have G_l0 : ∀ base, GnOk pr w K mg base 1 (He.ga K "_law_listed") fd16 ["value"] (SpD K φL0) := fun base => ok_L0 F16 B
  have D_l0 : ∀ base, DefG pr w K mg base "_law_listed" 1 ["value"] φL0 := fun base => ⟨_, fd16, G_l0 base, mgOf _ (List.elem_iff.mp rfl), F16.kp, F16.bindsN fun _ _ _ _ _ _ us hl => match us, hl with | [_], _ => rfl⟩
  have G_l1 : ∀ base, GnOk pr w K mg base 2 (He.ga K "_law_listed") fd16 ["value"] (SpD K φL1) := fun base => ok_L1 F16 B (D_l0 base)
  have D_l1 : ∀ base, DefG pr w K mg base "_law_listed" 2 ["value"] φL1 := fun base => ⟨_, fd16, G_l1 base, mgOf _ (List.elem_iff.mp rfl), F16.kp, F16.bindsN fun _ _ _ _ _ _ us hl => match us, hl with | [_], _ => rfl⟩
  have G_l2 : ∀ base, GnOk pr w K mg base 3 (He.ga K "_law_listed") fd16 ["value"] (SpD K φL2) := fun base => ok_L2 F16 B (D_l1 base)
  have D_l2 : ∀ base, DefG pr w K mg base "_law_listed" 3 ["value"] φL2 := fun base => ⟨_, fd16, G_l2 base, mgOf _ (List.elem_iff.mp rfl), F16.kp, F16.bindsN fun _ _ _ _ _ _ us hl => match us, hl with | [_], _ => rfl⟩
  have G_closed : ∀ base, GnOk pr w K mg base 2 (He.ga K "_law_b_closed") fd17 ["many", "makers"] (SpD K φClosed) := fun base => ok_closed F17 B
  have D_closed : ∀ base, DefG pr w K mg base "_law_b_closed" 2 ["many", "makers"] φClosed := fun base => ⟨_, fd17, G_closed base, mgOf _ (List.elem_iff.mp rfl), F17.kp, F17.bindsN fun _ _ _ _ _ _ us hl => match us, hl with | [_, _], _ => rfl⟩
  have LD : ∀ base, LawD pr w K mg base := fun base => ⟨_, _, _, fd15, ⟨(D_pen base), (D_draw base), (D_pick base), (D_mixed base), (D_l2 base), (D_closed base), (D_group base), (K_group base), (D_having base), (K_alls base)⟩, ⟨F15, mgOf _ (List.elem_iff.mp rfl), F15.kp, F15.bindsN fun _ _ _ _ _ _ us hl => match us, hl with | [_], _ => rfl⟩, HCBadNumber, HCBadValue, B⟩
  have mT : (("law" : Str), (none : Option Str)) ∈ tf := List.mem_singleton.mpr rfl
  refine ⟨10, 63, [(He.codeOf K ("law", none), He.tabOf K (He.codeOf K ("law", none)), (("law.<locals>.<lambda>" : Str)))], He.codeOf K ("law", none), "law", "law", "script", _, _, _, fd18, lawN, ⟨rfl, by decide, by decide⟩, rfl, by decide, fun p hp => ?_, fun p hp => ?_, fun p hp => ?_, F18, code_at (p := ("law", none)) F18, sc_law, fun s u => F18.bindsA (ps := ["script"]) (fun _ _ _ _ _ _ us hl => match us, hl with | [_], _ => rfl) s [u] rfl, fun ns hl _ base A s H F kin _ tb hK ht hr hg => ?_⟩
  · have := c.empty _ mT
    rw [List.mem_singleton.mp hp]
    exact this
  · have := c.out _ mT
    rw [List.mem_singleton.mp hp]
    exact this
  · have := codeHd_of_K X (c.hd _ mT)
    rw [List.mem_singleton.mp hp]
    exact this
  · refine law_body (LD base) hK.symm ⟨He.codeOf K ("law", none), He.tabOf K (He.codeOf K ("law", none)), tb _ (List.mem_singleton.mpr rfl), rfl, ?_, fun p hp _ => ?_⟩ hr hg ns hl
    · rw [ht]
      exact List.mem_singleton.mpr rfl
    · rw [ht] at hp
      rw [List.mem_singleton.mp hp]
      rfl
end
end K09
end
section
set_option maxHeartbeats 0
namespace K09
open PySem PySem.Spec PyProof.Rows L2 DL PySem.W
abbrev R : OpenRow := OpenLaw.row PySem.Challenge.rw_foldedalike_k09_groups_are_all_products
abbrev hk : Hook := hookY 4 [] fn tf inis ex
def ob (s : SharedT) : AlY := obsY 4 [] fn tf inis ex (HandSHeadRun.getT s)
theorem ob_eq (s : SharedT) : ob s = hk.obs s.abs := obsY_eq (HandSHeadRun.getT_eq s)
def loose : List Str := (["__name__", "is_integer", "is_within", "is_listed", "FoldError", "BadNest", "BadNumber", "BadValue", "BadTypes", "BadProgram", "BadPaper", "Misfit", "Nothing", "BadCommand", "NoName", "BadText", "TooMany", "ROW", "BAG", "ROUND", "WHEEL", "MOST_SPOTS", "leaves_of", "spots_in", "all_orders", "places_of", "turnings_by", "turnings_of", "then", "group_by"] : List Str) ++ (["rings_of", "doubled", "whole_ones", "partings", "listed_nests", "nest_for", "is_turning", "need_spots", "need_turnings", "group", "nest_having", "all_nests", "_law_pen", "_law_draw", "_law_pick", "_law_mixed", "_law_heard", "_law_listed", "_law_b_closed"] : List Str)
set_option maxRecDepth 1000000 in
theorem run (w : World) : HandSHeadRun.RunEq R (view R.prog [53]) hk ob 20000 loose w := by
  intro os
  kernel_rfl
end K09
end
section
set_option maxHeartbeats 0
open PySem PySem.W PySem.Calls PyProof.Rows
theorem PySem.Challenge.cw_foldedalike_k09_groups_are_all_products_holds : PySem.Challenge.rw_foldedalike_k09_groups_are_all_products.Holds := by
  w_on; o_law
  refine HandSHeadRun.head_any (r := K09.R) (q := view K09.R.prog [53]) (H := K09.hk) (ob := K09.ob) (M := 20000) (loose := K09.loose) (d := HandSHeadRun.topDef K09.R.prog 53) (kwd := []) K09.ob_eq
    (by kernel_rfl) (fun s => by kernel_rfl) K09.run (by kernel_rfl) (by kernel_rfl) (by kernel_rfl) (by rfl) (by first | assumption | decide +kernel) (by decide +kernel) ⟨rfl, rfl, rfl, rfl, rfl, by decide +kernel⟩ ?hw ?hc
  case hw => w_witness2
  case hc =>
    refine DL.walk_ofD (l := PySem.Challenge.rw_foldedalike_k09_groups_are_all_products) (n := 63) rfl (by kernel_rfl) fun w mg fa h Y G hmg0 => ?_
    obtain ⟨K, KX, c⟩ := Y
    have hmg : mg ("law" : PySem.Str) = some (.ref fa) := by
      have e : (HandSHeadRun.topDef K09.R.prog 53).name = ("law" : PySem.Str) := by kernel_rfl
      rw [← e]
      exact hmg0
    exact ⟨K, KX, K09.facts KX G hmg c⟩
end
