import PyProof.Rows.All
import Wide.All
import OpenK.AllK
import Wide.FinOn
import HandS.ForMost
import HandS.IsInst
import HandS.Conv
import HandS.Flow
import HandS.Zip
import HandS.SortInts
import HandS.TupAny
import HandS.Style
import HandS.Star
import HandS.NoneIn
import KE.GoesMore
import KE.GoesEnum
import KE.KDictZip
import HandS.More
import HandS.Proxy
import HandS.HeadHook3
import PySem.Challenge.RW_nolooking_k07_words_of_expressions_for_r
set_option Elab.async false
set_option linter.all false
set_option maxRecDepth 100000
set_option maxHeartbeats 4000000
noncomputable section
namespace Fx
open PySem L2
abbrev Fg := PySem.W.Frag

/-! ## data -/
inductive D where
  | non | bl (b : Bool) | int (i : Int) | str (x : Str)
  | tup (ds : List D) | lst (ds : List D)
  | dk (kvs : List (Key × D)) | dt (kvs : List (List Key × D))
  | scr (ns : List Int)
instance : Inhabited D := ⟨.non⟩

/- value v stands for d, in what never changes -/
mutual
inductive Rep (K : Fg) (G : Hp) : V → D → Prop
  | non : Rep K G .non .non
  | bl (b : Bool) : Rep K G (.bl b) (.bl b)
  | int (i : Int) : Rep K G (.int i) (.int i)
  | str (x : Str) : Rep K G (.str x) (.str x)
  | tup {a : Addr} {xs : List V} {ds : List D} : G a = some (.tup xs) → Reps K G xs ds → Rep K G (.ref a) (.tup ds)
  | lst {a : Addr} {xs : List V} {ds : List D} : G a = some (.lst xs) → Reps K G xs ds → Rep K G (.ref a) (.lst ds)
  | dk {a : Addr} {xs : List (Key × V)} {ds : List (Key × D)} : G a = some (.dK xs) → RepK K G xs ds → Rep K G (.ref a) (.dk ds)
  | dt {a : Addr} {xs : List (List Key × V)} {ds : List (List Key × D)} : G a = some (.dT xs) → RepT K G xs ds → Rep K G (.ref a) (.dt ds)
  | scr {a : Addr} {ns : List Int} : SqL K G a (ns.map V.int) → Rep K G (.ref a) (.scr ns)
inductive Reps (K : Fg) (G : Hp) : List V → List D → Prop
  | nil : Reps K G [] []
  | cons {v : V} {vs : List V} {d : D} {ds : List D} : Rep K G v d → Reps K G vs ds → Reps K G (v :: vs) (d :: ds)
inductive RepK (K : Fg) (G : Hp) : List (Key × V) → List (Key × D) → Prop
  | nil : RepK K G [] []
  | cons {k : Key} {v : V} {vs : List (Key × V)} {d : D} {ds : List (Key × D)} : Rep K G v d → RepK K G vs ds → RepK K G ((k, v) :: vs) ((k, d) :: ds)
inductive RepT (K : Fg) (G : Hp) : List (List Key × V) → List (List Key × D) → Prop
  | nil : RepT K G [] []
  | cons {k : List Key} {v : V} {vs : List (List Key × V)} {d : D} {ds : List (List Key × D)} : Rep K G v d → RepT K G vs ds → RepT K G ((k, v) :: vs) ((k, d) :: ds)
end

theorem Same.sqT {K : Fg} {G G' : Hp} {a : Addr} {xs : List V} (e : Same G G') (h : SqT K G a xs) : SqT K G' a xs := by
  rcases h with (h | ⟨o, h⟩) | h
  · exact .inl (.inl (e _ _ h))
  · exact .inl (.inr ⟨o, e _ _ h⟩)
  · exact .inr h

section
variable {K : Fg} {G G' : Hp}
mutual
theorem Rep.mono (e : Same G G') : ∀ {d : D} {v : V}, Rep K G v d → Rep K G' v d
  | _, _, .non => .non
  | _, _, .bl b => .bl b
  | _, _, .int i => .int i
  | _, _, .str x => .str x
  | _, _, .tup h r => .tup (e _ _ h) (Reps.mono e r)
  | _, _, .lst h r => .lst (e _ _ h) (Reps.mono e r)
  | _, _, .dk h r => .dk (e _ _ h) (RepK.mono e r)
  | _, _, .dt h r => .dt (e _ _ h) (RepT.mono e r)
  | _, _, .scr h => .scr (e.seq h)
theorem Reps.mono (e : Same G G') : ∀ {ds : List D} {vs : List V}, Reps K G vs ds → Reps K G' vs ds
  | _, _, .nil => .nil
  | _, _, .cons h r => .cons (Rep.mono e h) (Reps.mono e r)
theorem RepK.mono (e : Same G G') : ∀ {ds : List (Key × D)} {vs : List (Key × V)}, RepK K G vs ds → RepK K G' vs ds
  | _, _, .nil => .nil
  | _, _, .cons h r => .cons (Rep.mono e h) (RepK.mono e r)
theorem RepT.mono (e : Same G G') : ∀ {ds : List (List Key × D)} {vs : List (List Key × V)}, RepT K G vs ds → RepT K G' vs ds
  | _, _, .nil => .nil
  | _, _, .cons h r => .cons (Rep.mono e h) (RepT.mono e r)
end
theorem Reps.length : ∀ {ds : List D} {vs : List V}, Reps K G vs ds → vs.length = ds.length
  | _, _, .nil => rfl
  | _, _, .cons _ r => by simp [Reps.length r]
theorem Reps.get : ∀ {ds : List D} {vs : List V} {i : Nat} {v : V}, Reps K G vs ds → vs[i]? = some v → ∃ d, ds[i]? = some d ∧ Rep K G v d
  | _, _, _, _, .nil, h => by simp at h
  | _, _, 0, _, .cons h _, e => by simp at e; subst e; exact ⟨_, rfl, h⟩
  | _, _, i + 1, v, .cons _ r, e => by
    obtain ⟨d, h1, h2⟩ := Reps.get (i := i) r (by simpa using e)
    exact ⟨d, by simpa using h1, h2⟩
theorem Reps.getD : ∀ {ds : List D} {vs : List V} {i : Nat} {d : D}, Reps K G vs ds → ds[i]? = some d → ∃ v, vs[i]? = some v ∧ Rep K G v d
  | _, _, _, _, .nil, h => by simp at h
  | _, _, 0, _, .cons h _, e => by simp at e; subst e; exact ⟨_, rfl, h⟩
  | _, _, i + 1, v, .cons _ r, e => by
    obtain ⟨d, h1, h2⟩ := Reps.getD (i := i) r (by simpa using e)
    exact ⟨d, by simpa using h1, h2⟩
theorem Reps.append : ∀ {ds es : List D} {vs ws : List V}, Reps K G vs ds → Reps K G ws es → Reps K G (vs ++ ws) (ds ++ es)
  | _, _, _, _, .nil, s => s
  | _, _, _, _, .cons h r, s => .cons h (Reps.append r s)
theorem Reps.take : ∀ {ds : List D} {vs : List V} (n : Nat), Reps K G vs ds → Reps K G (vs.take n) (ds.take n)
  | _, _, 0, _ => by simp; exact .nil
  | _, _, _ + 1, .nil => .nil
  | _, _, n + 1, .cons h r => .cons h (Reps.take n r)
theorem Reps.drop : ∀ {ds : List D} {vs : List V} (n : Nat), Reps K G vs ds → Reps K G (vs.drop n) (ds.drop n)
  | _, _, 0, r => by simpa using r
  | _, _, _ + 1, .nil => .nil
  | _, _, n + 1, .cons h r => Reps.drop n r
theorem Reps.set {v : V} {d : D} (h : Rep K G v d) : ∀ {ds : List D} {vs : List V} (i : Nat), Reps K G vs ds → Reps K G (vs.set i v) (ds.set i d)
  | _, _, _, .nil => .nil
  | _, _, 0, .cons _ r => .cons h r
  | _, _, i + 1, .cons q r => .cons q (Reps.set h i r)
theorem Reps.rev : ∀ {ds : List D} {vs : List V}, Reps K G vs ds → Reps K G vs.reverse ds.reverse
  | _, _, .nil => .nil
  | _, _, .cons h r => by rw [List.reverse_cons, List.reverse_cons]; exact (Reps.rev r).append (.cons h .nil)
theorem reps_ints (ns : List Int) : Reps K G (ns.map V.int) (ns.map D.int) := by
  induction ns with
  | nil => exact .nil
  | cons n r ih => exact .cons (.int n) ih
theorem Reps.ints_inv {vs : List V} : ∀ {ns : List Int}, Reps K G vs (ns.map D.int) → vs = ns.map V.int := by
  intro ns
  induction ns generalizing vs with
  | nil => intro h; cases h; rfl
  | cons n r ih =>
    intro h
    cases h with
    | cons a b => cases a; rw [ih b]; rfl
end

/-! ## cells: shared data; a list, a dict of one's own -/
inductive C where
  | sh (d : D) | ol (ds : List D) | oll (dss : List (List D)) | odk (kvs : List (Key × D)) | odt (kvs : List (List Key × D))
instance : Inhabited C := ⟨.sh .non⟩

/-- lists at the places ls -/
inductive Inner (K : Fg) (G H : Hp) : List Addr → List (List D) → Prop
  | nil : Inner K G H [] []
  | cons {l : Addr} {ls : List Addr} {xs : List V} {ds : List D} {dss : List (List D)} : G l = none → H l = some (.lst xs) → Reps K G xs ds → Inner K G H ls dss → Inner K G H (l :: ls) (ds :: dss)

inductive RepC (K : Fg) (G H : Hp) : V → C → List Addr → Prop
  | sh {v : V} {d : D} : Rep K G v d → RepC K G H v (.sh d) []
  | ol {l : Addr} {xs : List V} {ds : List D} : G l = none → H l = some (.lst xs) → Reps K G xs ds → RepC K G H (.ref l) (.ol ds) [l]
  | oll {l : Addr} {ls : List Addr} {dss : List (List D)} : G l = none → H l = some (.lst (ls.map V.ref)) → Inner K G H ls dss → (l :: ls).Nodup → RepC K G H (.ref l) (.oll dss) (l :: ls)
  | odk {l : Addr} {xs : List (Key × V)} {ds : List (Key × D)} : G l = none → H l = some (.dK xs) → RepK K G xs ds → RepC K G H (.ref l) (.odk ds) [l]
  | odt {l : Addr} {xs : List (List Key × V)} {ds : List (List Key × D)} : G l = none → H l = some (.dT xs) → RepT K G xs ds → RepC K G H (.ref l) (.odt ds) [l]

def C.fz : C → D
  | .sh d => d | .ol ds => .lst ds | .oll dss => .lst (dss.map D.lst) | .odk kvs => .dk kvs | .odt kvs => .dt kvs

theorem Inner.mem {K : Fg} {G H : Hp} : ∀ {ls : List Addr} {dss : List (List D)}, Inner K G H ls dss → ∀ a ∈ ls, G a = none ∧ ∃ o, H a = some o
  | _, _, .nil, a, h => by cases h
  | _, _, .cons g h r i, a, m => by
    rcases List.mem_cons.mp m with e | m
    · subst e; exact ⟨g, _, h⟩
    · exact Inner.mem i a m
theorem Inner.mono {K : Fg} {G H G' H' : Hp} (e : Same G G') : ∀ {ls : List Addr} {dss : List (List D)}, Inner K G H ls dss → (∀ a ∈ ls, G' a = none) → (∀ a ∈ ls, ∀ o, H a = some o → H' a = some o) → Inner K G' H' ls dss
  | _, _, .nil, _, _ => .nil
  | _, _, .cons g h r i, k1, k2 => .cons (k1 _ (by simp)) (k2 _ (by simp) _ h) (r.mono e) (Inner.mono e i (fun a m => k1 a (by simp [m])) fun a m => k2 a (by simp [m]))
theorem RepC.mem {K : Fg} {G H : Hp} {v : V} {c : C} {f : List Addr} (h : RepC K G H v c f) : ∀ a ∈ f, G a = none ∧ ∃ o, H a = some o := by
  intro a m
  cases h with
  | sh => cases m
  | ol g h r => simp at m; subst m; exact ⟨g, _, h⟩
  | oll g h i n =>
    rcases List.mem_cons.mp m with e | m
    · subst e; exact ⟨g, _, h⟩
    · exact i.mem a m
  | odk g h r => simp at m; subst m; exact ⟨g, _, h⟩
  | odt g h r => simp at m; subst m; exact ⟨g, _, h⟩
theorem RepC.mono {K : Fg} {G H G' H' : Hp} {v : V} {c : C} {f : List Addr} (h : RepC K G H v c f) (e : Same G G') (k1 : ∀ a ∈ f, G' a = none) (k2 : ∀ a ∈ f, ∀ o, H a = some o → H' a = some o) : RepC K G' H' v c f := by
  cases h with
  | sh r => exact .sh (r.mono e)
  | ol g h r => exact .ol (k1 _ (by simp)) (k2 _ (by simp) _ h) (r.mono e)
  | oll g h i n => exact .oll (k1 _ (by simp)) (k2 _ (by simp) _ h) (i.mono e (fun a m => k1 a (by simp [m])) fun a m => k2 a (by simp [m])) n
  | odk g h r => exact .odk (k1 _ (by simp)) (k2 _ (by simp) _ h) (r.mono e)
  | odt g h r => exact .odt (k1 _ (by simp)) (k2 _ (by simp) _ h) (r.mono e)

/-- G with what H has at f -/
def addF (G H : Hp) (f : List Addr) : Hp := fun a => if a ∈ f then H a else G a
theorem addF_same {G H : Hp} {f : List Addr} (n : ∀ a ∈ f, G a = none) : Same G (addF G H f) := fun a o e => by
  unfold addF
  by_cases m : a ∈ f
  · rw [n a m] at e; cases e
  · rw [if_neg m]; exact e
theorem addF_sub {G H : Hp} {f : List Addr} (s : Same G H) : Same (addF G H f) H := fun a o e => by
  unfold addF at e
  by_cases m : a ∈ f
  · rw [if_pos m] at e; exact e
  · rw [if_neg m] at e; exact s a o e
theorem addF_gr {G H : Hp} {f : List Addr} {a : Addr} {o : HO} (e : addF G H f a = some o) : G a = some o ∨ a ∈ f := by
  unfold addF at e
  by_cases m : a ∈ f
  · exact .inr m
  · rw [if_neg m] at e; exact .inl e
theorem Inner.fz {K : Fg} {G H G' : Hp} (e : Same G G') : ∀ {ls : List Addr} {dss : List (List D)}, Inner K G H ls dss → (∀ a ∈ ls, ∀ o, H a = some o → G' a = some o) → Reps K G' (ls.map V.ref) (dss.map D.lst)
  | _, _, .nil, _ => .nil
  | _, _, .cons g h r i, k => .cons (.lst (k _ (by simp) _ h) (r.mono e)) (Inner.fz e i fun a m => k a (by simp [m]))
theorem RepC.fz {K : Fg} {G H : Hp} {v : V} {c : C} {f : List Addr} (h : RepC K G H v c f) : Rep K (addF G H f) v c.fz := by
  have s : Same G (addF G H f) := addF_same fun a m => (h.mem a m).1
  cases h with
  | sh r => exact r.mono s
  | ol g h r => exact .lst (by unfold addF; rw [if_pos (by simp)]; exact h) (r.mono s)
  | oll g h i n => exact .lst (by unfold addF; rw [if_pos (by simp)]; exact h) (i.fz s fun a m o e => by unfold addF; rw [if_pos (by simp [m])]; exact e)
  | odk g h r => exact .dk (by unfold addF; rw [if_pos (by simp)]; exact h) (r.mono s)
  | odt g h r => exact .dt (by unfold addF; rw [if_pos (by simp)]; exact h) (r.mono s)

/-! ## steps -/
structure Step (G H : Hp) (U : Addr → Prop) (G' H' : Hp) (U' : Addr → Prop) : Prop where
  sG : Same G G'
  keep : ∀ a o, H a = some o → ¬ U a → H' a = some o
  gr : ∀ a o, G' a = some o → G a = some o ∨ H a = none ∨ U a
  fr : ∀ a, U' a → U a ∨ H a = none
theorem Step.refl (G H : Hp) (U : Addr → Prop) : Step G H U G H U := ⟨fun _ _ h => h, fun _ _ h _ => h, fun _ _ h => .inl h, fun _ h => .inl h⟩
theorem Step.trans {G H G1 H1 G2 H2 : Hp} {U U1 U2 : Addr → Prop} (s : Step G H U G1 H1 U1) (t : Step G1 H1 U1 G2 H2 U2) : Step G H U G2 H2 U2 := by
  have back : ∀ a, H1 a = none → U a ∨ H a = none := fun a e => by
    by_cases u : U a
    · exact .inl u
    · cases q : H a with
      | none => exact .inr rfl
      | some o => rw [s.keep a o q u] at e; cases e
  have nu : ∀ a o, H a = some o → ¬ U a → ¬ U1 a := fun a o e u u1 => by
    rcases s.fr a u1 with z | z
    · exact u z
    · rw [e] at z; cases z
  refine ⟨fun a o e => t.sG a o (s.sG a o e), fun a o e u => t.keep a o (s.keep a o e u) (nu a o e u), fun a o e => ?_, fun a u => ?_⟩
  · rcases t.gr a o e with z | z | z
    · exact s.gr a o z
    · rcases back a z with z | z
      · exact .inr (.inr z)
      · exact .inr (.inl z)
    · rcases s.fr a z with z | z
      · exact .inr (.inr z)
      · exact .inr (.inl z)
  · rcases t.fr a u with z | z
    · exact s.fr a z
    · exact back a z
theorem Step.weak {G H G' H' : Hp} {U U' W W' : Addr → Prop} (s : Step G H U G' H' U') (h1 : ∀ a, U a → W a) (h2 : ∀ a, W' a → U' a ∨ W a ∨ H a = none) : Step G H W G' H' W' := by
  refine ⟨s.sG, fun a o e u => s.keep a o e fun z => u (h1 a z), fun a o e => ?_, fun a u => ?_⟩
  · rcases s.gr a o e with z | z | z
    · exact .inl z
    · exact .inr (.inl z)
    · exact .inr (.inr (h1 a z))
  · rcases h2 a u with z | z | z
    · rcases s.fr a z with z | z
      · exact .inl (h1 a z)
      · exact .inr z
    · exact .inl z
    · exact .inr z
/-- a cell that is not in U stays -/
theorem RepC.step {K : Fg} {G H G' H' : Hp} {U U' : Addr → Prop} {v : V} {c : C} {f : List Addr} (h : RepC K G H v c f) (s : Step G H U G' H' U') (n : ∀ a ∈ f, ¬ U a) : RepC K G' H' v c f := by
  refine h.mono s.sG (fun a m => ?_) fun a m o e => s.keep a o e (n a m)
  obtain ⟨g, o, e⟩ := h.mem a m
  cases q : G' a with
  | none => rfl
  | some o' =>
    rcases s.gr a o' q with z | z | z
    · rw [g] at z; cases z
    · rw [e] at z; cases z
    · exact absurd z (n a m)
theorem RepC.out {K : Fg} {G H G' H' : Hp} {U U' : Addr → Prop} {v : V} {c : C} {f : List Addr} (h : RepC K G H v c f) (s : Step G H U G' H' U') (n : ∀ a ∈ f, ¬ U a) : ∀ a ∈ f, ¬ U' a := fun a m u => by
  obtain ⟨g, o, e⟩ := h.mem a m
  rcases s.fr a u with z | z
  · exact n a m z
  · rw [e] at z; cases z

/-! ## the state -/
abbrev Env := List (Option C)
abbrev Fp := Nat → List Addr
def U (fp : Fp) : Addr → Prop := fun a => ∃ i, a ∈ fp i
structure Con (K : Fg) (σ : St) (env : Env) (G H : Hp) (fp : Fp) : Prop where
  sub : Same G H
  len : σ.length = env.length
  rep : ∀ i c, env[i]? = some (some c) → ∃ v, σ[i]? = some (some v) ∧ RepC K G H v c (fp i)
  nil : ∀ i, (∀ c, env[i]? ≠ some (some c)) → fp i = []
  dis : ∀ i j a, a ∈ fp i → a ∈ fp j → i = j
def Fp.set (fp : Fp) (i : Nat) (f : List Addr) : Fp := fun j => if j = i then f else fp j
theorem Fp.set_same {fp : Fp} {i : Nat} {f : List Addr} : (fp.set i f) i = f := if_pos rfl
theorem Fp.set_ne {fp : Fp} {i j : Nat} {f : List Addr} (h : j ≠ i) : (fp.set i f) j = fp j := if_neg h

/-- the state elsewhere: what is outside of what changed -/
theorem Con.step {K : Fg} {σ : St} {env : Env} {G H G' H' : Hp} {fp : Fp} {W W' : Addr → Prop} (c : Con K σ env G H fp) (s : Step G H W G' H' W') (n : ∀ a, U fp a → ¬ W a) (sub : Same G' H') : Con K σ env G' H' fp :=
  ⟨sub, c.len, fun i x e => by
    obtain ⟨v, e1, r⟩ := c.rep i x e
    exact ⟨v, e1, r.step s fun a m => n a ⟨i, m⟩⟩, c.nil, c.dis⟩
/-- slot i gets a cell -/
theorem Con.put {K : Fg} {σ : St} {env : Env} {G H : Hp} {fp : Fp} {i : Nat} {v : V} {x : C} {f : List Addr} (c : Con K σ env G H fp) (hi : i < env.length) (r : RepC K G H v x f) (n : ∀ a ∈ f, ∀ j, j ≠ i → a ∉ fp j) :
    Con K (σ.set i (some v)) (env.set i (some x)) G H (fp.set i f) := by
  refine ⟨c.sub, by simp [c.len], fun j y e => ?_, fun j h => ?_, fun j k a h1 h2 => ?_⟩
  · by_cases h : j = i
    · subst h
      rw [List.getElem?_set_self hi] at e
      cases e
      rw [Fp.set_same]
      exact ⟨v, List.getElem?_set_self (by rw [c.len]; exact hi), r⟩
    · rw [List.getElem?_set_ne (fun z => h z.symm)] at e
      rw [Fp.set_ne h, List.getElem?_set_ne (fun z => h z.symm)]
      exact c.rep j y e
  · by_cases q : j = i
    · subst q
      exact absurd (List.getElem?_set_self hi) (h x)
    · rw [Fp.set_ne q]
      exact c.nil j fun y e => h y (by rw [List.getElem?_set_ne (fun z => q z.symm)]; exact e)
  · by_cases hj : j = i
    · by_cases hk : k = i
      · rw [hj, hk]
      · subst hj
        rw [Fp.set_same] at h1
        rw [Fp.set_ne hk] at h2
        exact absurd h2 (n a h1 k hk)
    · by_cases hk : k = i
      · subst hk
        rw [Fp.set_same] at h2
        rw [Fp.set_ne hj] at h1
        exact absurd h1 (n a h2 j hj)
      · rw [Fp.set_ne hj] at h1
        rw [Fp.set_ne hk] at h2
        exact c.dis j k a h1 h2
/-- slot i is forgotten -/
theorem Con.drop {K : Fg} {σ σ' : St} {env : Env} {G H : Hp} {fp : Fp} {i : Nat} (c : Con K σ env G H fp) (hl : σ'.length = σ.length) (hs : ∀ j, j ≠ i → σ'[j]? = σ[j]?) :
    Con K σ' (env.set i none) G H (fp.set i []) := by
  refine ⟨c.sub, by simp [c.len, hl], fun j y e => ?_, fun j h => ?_, fun j k a h1 h2 => ?_⟩
  · by_cases h : j = i
    · subst h
      by_cases hi : j < env.length
      · rw [List.getElem?_set_self hi] at e; cases e
      · rw [List.getElem?_eq_none (by simpa using hi)] at e; cases e
    · rw [List.getElem?_set_ne (fun z => h z.symm)] at e
      rw [Fp.set_ne h, hs j h]
      exact c.rep j y e
  · by_cases q : j = i
    · subst q; exact Fp.set_same
    · rw [Fp.set_ne q]
      exact c.nil j fun y e => h y (by rw [List.getElem?_set_ne (fun z => q z.symm)]; exact e)
  · by_cases hj : j = i
    · subst hj; rw [Fp.set_same] at h1; cases h1
    · by_cases hk : k = i
      · subst hk; rw [Fp.set_same] at h2; cases h2
      · rw [Fp.set_ne hj] at h1
        rw [Fp.set_ne hk] at h2
        exact c.dis j k a h1 h2
theorem U_set {fp : Fp} {i : Nat} {f : List Addr} {a : Addr} (h : U (fp.set i f) a) : U fp a ∨ a ∈ f := by
  obtain ⟨j, m⟩ := h
  by_cases q : j = i
  · subst q; rw [Fp.set_same] at m; exact .inr m
  · rw [Fp.set_ne q] at m; exact .inl ⟨j, m⟩
end Fx
set_option Elab.async false
set_option linter.all false
set_option maxRecDepth 100000
set_option maxHeartbeats 4000000
noncomputable section
namespace Fx
open PySem L2

/-! ## readings -/
abbrev EM := Env → Option (C × Env)
abbrev TM := Env → Option (Bool × Env)
inductive Out where
  | nx (e : Env) | rt (c : C) (e : Env) | bk (e : Env) | ct (e : Env)
abbrev SM := Env → Option Out

/-- behind an expression -/
def EndE (K : Fg) (σ : St) (env' : Env) (c : C) (G H : Hp) (fp : Fp) (Q : VK) : Prop :=
  ∀ v G' H' fp' fr, Con K σ env' G' H' fp' → RepC K G' H' v c fr → (∀ a ∈ fr, ¬ U fp' a) → Step G H (U fp) G' H' (fun a => U fp' a ∨ a ∈ fr) → Q v H'
def tE (K : Fg) (m : EM) : TE := fun σ H Q => ∃ env G fp, Con K σ env G H fp ∧ ∃ c env', m env = some (c, env') ∧ EndE K σ env' c G H fp Q
def tT (K : Fg) (m : TM) : TT := fun σ H Q => ∃ env G fp, Con K σ env G H fp ∧ ∃ b env', m env = some (b, env') ∧
  ∀ G' H' fp', Con K σ env' G' H' fp' → Step G H (U fp) G' H' (U fp') → Q b H'
def EndS (K : Fg) (p : Nat) (σ : St) (G H : Hp) (fp : Fp) (D : Ends) : Out → Prop
  | .nx e => ∀ σ' G' H' fp', Con K σ' e G' H' fp' → Step G H (U fp) G' H' (U fp') → σ'.take p = σ.take p → D.nx σ' H'
  | .bk e => ∀ σ' G' H' fp', Con K σ' e G' H' fp' → Step G H (U fp) G' H' (U fp') → σ'.take p = σ.take p → D.bk σ' H'
  | .ct e => ∀ σ' G' H' fp', Con K σ' e G' H' fp' → Step G H (U fp) G' H' (U fp') → σ'.take p = σ.take p → D.ct σ' H'
  | .rt c e => ∀ v σ' G' H' fp' fr, Con K σ' e G' H' fp' → RepC K G' H' v c fr → (∀ a ∈ fr, ¬ U fp' a) → Step G H (U fp) G' H' (fun a => U fp' a ∨ a ∈ fr) → σ'.take p = σ.take p → D.rt v H'
def tS (K : Fg) (p : Nat) (m : SM) : TS := fun D σ H => ∃ env G fp, Con K σ env G H fp ∧ ∃ o, m env = some o ∧ EndS K p σ G H fp D o

def EOk (X : Cx) (e : Expr) (m : EM) : Prop := PE X e (tE X.K m)
def TOk (X : Cx) (e : Expr) (m : TM) : Prop := PT X e (tT X.K m)
def SOk (X : Cx) (p : Nat) (s : Stmt) (m : SM) : Prop := PS X s (tS X.K p m)
def SsOk (X : Cx) (p : Nat) (s : List Stmt) (m : SM) : Prop := PSs X s (tS X.K p m)

theorem pe_mono {X : Cx} {e : Expr} {t t' : TE} (h : PE X e t) (k : ∀ σ H Q, t' σ H Q → t σ H Q) : PE X e t' := ⟨fun pins s σ H Q I q => h.run pins s σ H Q I (k σ H Q q)⟩
theorem pt_mono {X : Cx} {e : Expr} {t t' : TT} (h : PT X e t) (k : ∀ σ H Q, t' σ H Q → t σ H Q) : PT X e t' := ⟨fun pins s σ H Q I q => h.run pins s σ H Q I (k σ H Q q)⟩
theorem ps_mono {X : Cx} {e : Stmt} {t t' : TS} (h : PS X e t) (k : ∀ D σ H, t' D σ H → t D σ H) : PS X e t' := ⟨fun pins s σ H D I q => h.run pins s σ H D I (k D σ H q)⟩
theorem pss_mono {X : Cx} {e : List Stmt} {t t' : TS} (h : PSs X e t) (k : ∀ D σ H, t' D σ H → t D σ H) : PSs X e t' := ⟨fun pins s σ H D I q => h.run pins s σ H D I (k D σ H q)⟩
theorem pa_mono {X : Cx} {e : List Expr} {t t' : TA} (h : PA X e t) (k : ∀ σ H Q, t' σ H Q → t σ H Q) : PA X e t' := ⟨fun pos pins s σ H Q I q => h.run pos pins s σ H Q I (k σ H Q q)⟩

/-! ## no change, a new object -/
theorem none_of_same {G H : Hp} {p : Addr} (s : Same G H) (h : H p = none) : G p = none := s.free h
theorem same_new {H : Hp} {p : Addr} {o : HO} (h : H p = none) : Same H (upd H p o) := fun a u e => by rw [upd_ne (ne_of_none e h)]; exact e
theorem same_upd2 {G H : Hp} {p : Addr} {o : HO} (s : Same G H) (h : H p = none) : Same (upd G p o) (upd H p o) := fun a u e => by
  by_cases q : a = p
  · subst q; rw [upd_same] at e ⊢; exact e
  · rw [upd_ne q] at e ⊢; exact s a u e
/-- a new object that is shared at once -/
theorem Step.newG {G H : Hp} {p : Addr} {o : HO} (s : Same G H) (h : H p = none) : Step G H (fun _ => False) (upd G p o) (upd H p o) (fun _ => False) :=
  ⟨same_new (none_of_same s h), fun a u e _ => by rw [upd_ne (ne_of_none e h)]; exact e, fun a u e => by
    by_cases q : a = p
    · subst q; exact .inr (.inl h)
    · rw [upd_ne q] at e; exact .inl e, fun a f => f.elim⟩
/-- a new object of one's own -/
theorem Step.newH {G H : Hp} {p : Addr} {o : HO} (h : H p = none) : Step G H (fun _ => False) G (upd H p o) (fun a => a ∈ [p]) :=
  ⟨fun _ _ e => e, fun a u e _ => by rw [upd_ne (ne_of_none e h)]; exact e, fun a u e => .inl e, fun a f => by simp at f; subst f; exact .inr h⟩
theorem same_newH {G H : Hp} {p : Addr} {o : HO} (s : Same G H) (h : H p = none) : Same G (upd H p o) := fun a u e => by rw [upd_ne (ne_of_none (s a u e) h)]; exact s a u e
/-- freezing -/
theorem Step.fz {K : Fg} {G H : Hp} {v : V} {c : C} {f : List Addr} (r : RepC K G H v c f) : Step G H (fun a => a ∈ f) (addF G H f) H (fun _ => False) :=
  ⟨addF_same fun a m => (r.mem a m).1, fun a o e _ => e, fun a o e => (addF_gr e).elim .inl fun z => .inr (.inr z), fun a z => z.elim⟩

/-- W is free of the state: what EndE asks behind a further step -/
theorem EndE.end_ {K : Fg} {σ : St} {env : Env} {c : C} {G H G1 H1 G2 H2 : Hp} {fp fp1 : Fp} {Q : VK} {v : V} {fr : List Addr} {W : Addr → Prop}
    (k : EndE K σ env c G H fp Q) (con : Con K σ env G1 H1 fp1) (s1 : Step G H (U fp) G1 H1 (fun a => U fp1 a ∨ W a)) (hw : ∀ a, W a → ¬ U fp1 a)
    (s2 : Step G1 H1 W G2 H2 (fun a => a ∈ fr)) (sub : Same G2 H2) (r : RepC K G2 H2 v c fr) : Q v H2 := by
  have con2 : Con K σ env G2 H2 fp1 := con.step s2 (fun a u w => hw a w u) sub
  have nu : ∀ a ∈ fr, ¬ U fp1 a := fun a m u => by
    rcases s2.fr a m with z | z
    · exact hw a z u
    · obtain ⟨i, hi⟩ := u
      have : ∃ x, env[i]? = some (some x) := by
        refine Classical.byContradiction fun no => ?_
        have e := con.nil i fun x e => no ⟨x, e⟩
        rw [e] at hi; cases hi
      obtain ⟨x, e⟩ := this
      obtain ⟨v', _, rx⟩ := con.rep i x e
      obtain ⟨_, o, eo⟩ := rx.mem a hi
      rw [eo] at z; cases z
  refine k v G2 H2 fp1 fr con2 r nu (s1.trans ?_)
  refine s2.weak (fun a w => .inr w) fun a z => ?_
  rcases z with z | z
  · exact .inr (.inl (.inl z))
  · exact .inl z

/-! ## names, constants -/
def eC (d : D) : EM := fun env => some (.sh d, env)
theorem ok_c {X : Cx} {e : Expr} {v : V} {d : D} (h : PE X e (tC v)) (r : ∀ G, Rep X.K G v d) : EOk X e (eC d) := pe_mono h fun σ H Q ⟨env, G, fp, con, c, env', e1, k⟩ => by
  cases e1
  exact k v G H fp [] con (.sh (r G)) (fun a m => by cases m) ((Step.refl G H (U fp)).weak (fun a u => u) fun a u => u.elim .inl fun z => by cases z)
theorem ok_int {X : Cx} {i : Int} {j pos} : EOk X (.Constant (.int i) j pos) (eC (.int i)) := ok_c pe_int fun _ => .int i
theorem ok_bl {X : Cx} {i : Bool} {j pos} : EOk X (.Constant (.bool i) j pos) (eC (.bl i)) := ok_c pe_bl fun _ => .bl i
theorem ok_non {X : Cx} {j pos} : EOk X (.Constant .none j pos) (eC .non) := ok_c pe_non fun _ => .non
theorem ok_str {X : Cx} {i : Str} {j pos} : EOk X (.Constant (.str i) j pos) (eC (.str i)) := ok_c pe_str fun _ => .str i

/-- a name's value, from now on shared -/
def eSlot (i : Nat) : EM := fun env => match env[i]? with
  | some (some c) => some (.sh c.fz, env.set i (some (.sh c.fz)))
  | _ => none
/-- a name's value, given away -/
def eMove (i : Nat) : EM := fun env => match env[i]? with
  | some (some c) => some (c, env.set i none)
  | _ => none
theorem con_fz {K : Fg} {σ : St} {env : Env} {G H : Hp} {fp : Fp} {i : Nat} {c : C} (con : Con K σ env G H fp) (e : env[i]? = some (some c)) :
    ∃ v, σ[i]? = some (some v) ∧ Rep K (addF G H (fp i)) v c.fz ∧ Con K σ (env.set i (some (.sh c.fz))) (addF G H (fp i)) H (fp.set i []) ∧ Step G H (U fp) (addF G H (fp i)) H (U (fp.set i [])) := by
  obtain ⟨v, e1, r⟩ := con.rep i c e
  have hi : i < env.length := (List.getElem?_eq_some_iff.mp e).1
  have s := Step.fz r
  have sub : Same (addF G H (fp i)) H := addF_sub con.sub
  have con0 := con.drop (i := i) (σ' := σ) rfl fun _ _ => rfl
  have con1 := con0.step s (fun a u w => by
    obtain ⟨j, m⟩ := u
    by_cases q : j = i
    · subst q; rw [Fp.set_same] at m; cases m
    · rw [Fp.set_ne q] at m; exact q (con.dis j i a m w)) sub
  have con2 := con1.put (i := i) (v := v) (x := .sh c.fz) (f := []) (by simpa using hi) (.sh r.fz) (fun a m => by cases m)
  have es : σ.set i (some v) = σ := by
    apply List.ext_getElem?
    intro j
    by_cases q : j = i
    · subst q
      rw [e1]
      exact List.getElem?_set_self (by rw [con.len]; exact hi)
    · rw [List.getElem?_set_ne (fun z => q z.symm)]
  have ef : Fp.set (Fp.set fp i []) i [] = Fp.set fp i [] := by funext j; unfold Fp.set; split <;> rfl
  rw [es, ef, List.set_set] at con2
  refine ⟨v, e1, r.fz, con2, s.weak (fun a m => ⟨i, m⟩) fun a u => ?_⟩
  rcases U_set u with z | z
  · exact .inr (.inl z)
  · cases z
theorem ok_slot {X : Cx} {e : Expr} {i : Nat} (h : PE X e (tVar i)) : EOk X e (eSlot i) := pe_mono h fun σ H Q ⟨env, G, fp, con, c, env', e1, k⟩ => by
  unfold eSlot at e1
  split at e1
  · rename_i c0 e0
    cases e1
    obtain ⟨v, ev, r, con1, s1⟩ := con_fz con e0
    refine ⟨v, ev, k v _ H _ [] con1 (.sh r) (fun a m => by cases m) (s1.weak (fun a u => u) fun a u => u.elim .inl fun z => by cases z)⟩
  · cases e1
theorem ok_move {X : Cx} {e : Expr} {i : Nat} (h : PE X e (tVar i)) : EOk X e (eMove i) := pe_mono h fun σ H Q ⟨env, G, fp, con, c, env', e1, k⟩ => by
  unfold eMove at e1
  split at e1
  · rename_i c0 e0
    cases e1
    obtain ⟨v, ev, r⟩ := con.rep i c e0
    have con1 := con.drop (i := i) (σ' := σ) rfl fun _ _ => rfl
    refine ⟨v, ev, k v G H _ (fp i) con1 r (fun a m u => ?_) ((Step.refl G H (U fp)).weak (fun a u => u) fun a u => ?_)⟩
    · obtain ⟨j, mj⟩ := u
      by_cases q : j = i
      · subst q; rw [Fp.set_same] at mj; cases mj
      · rw [Fp.set_ne q] at mj; exact q (con.dis j i a mj m)
    · rcases u with u | u
      · rcases U_set u with z | z
        · exact .inl z
        · cases z
      · exact .inl ⟨i, u⟩
  · cases e1

/-! ## operands: a name is looked at, not given away -/
inductive Opd where
  | slot (i : Nat) | val (m : EM)
def tOpd (K : Fg) : Opd → TE
  | .slot i => tVar i
  | .val m => tE K m
def OOk (X : Cx) (e : Expr) (o : Opd) : Prop := PE X e (tOpd X.K o)
def C.vw : C → Option D
  | .sh d => some d | .ol ds => some (.lst ds) | .oll _ => none | .odk kvs => some (.dk kvs) | .odt kvs => some (.dt kvs)
/-- x stands for d as H is now; its parts for ever -/
inductive RepV (K : Fg) (G H : Hp) : V → D → Prop
  | sh {v : V} {d : D} : Rep K G v d → RepV K G H v d
  | ol {l : Addr} {xs : List V} {ds : List D} : H l = some (.lst xs) → Reps K G xs ds → RepV K G H (.ref l) (.lst ds)
  | dk {l : Addr} {xs : List (Key × V)} {ds : List (Key × D)} : H l = some (.dK xs) → RepK K G xs ds → RepV K G H (.ref l) (.dk ds)
  | dt {l : Addr} {xs : List (List Key × V)} {ds : List (List Key × D)} : H l = some (.dT xs) → RepT K G xs ds → RepV K G H (.ref l) (.dt ds)
theorem RepC.vw {K : Fg} {G H : Hp} {v : V} {c : C} {f : List Addr} {d : D} (r : RepC K G H v c f) (e : c.vw = some d) : RepV K G H v d := by
  cases r with
  | sh r => cases e; exact .sh r
  | ol g h r => cases e; exact .ol h r
  | oll g h i n => cases e
  | odk g h r => cases e; exact .dk h r
  | odt g h r => cases e; exact .dt h r
theorem RepV.all {K : Fg} {G H : Hp} {v : V} {d : D} (s : Same G H) (r : RepV K G H v d) : Rep K H v d := by
  cases r with
  | sh r => exact r.mono s
  | ol h r => exact .lst h (r.mono s)
  | dk h r => exact .dk h (r.mono s)
  | dt h r => exact .dt h (r.mono s)
inductive RepVs (K : Fg) (G H : Hp) : List V → List D → Prop
  | nil : RepVs K G H [] []
  | cons {v : V} {vs : List V} {d : D} {ds : List D} : RepV K G H v d → RepVs K G H vs ds → RepVs K G H (v :: vs) (d :: ds)

def preO : List Opd → Env → Option (List C × Env)
  | [], env => some ([], env)
  | .slot i :: r, env => match env[i]? with
    | some (some _) => (preO r env).bind fun (xs, e) => some (.sh .non :: xs, e)
    | _ => none
  | .val m :: r, env => (m env).bind fun (c, e) => (preO r e).bind fun (xs, e') => some (c :: xs, e')
def finO (env : Env) : List Opd → List C → Option (List D)
  | [], _ => some []
  | .slot i :: r, _ :: xs => match env[i]? with
    | some (some c) => c.vw.bind fun d => (finO env r xs).bind fun ds => some (d :: ds)
    | _ => none
  | .val _ :: r, c :: xs => c.vw.bind fun d => (finO env r xs).bind fun ds => some (d :: ds)
  | _, [] => none
def evO (os : List Opd) (env : Env) : Option (List D × Env) := (preO os env).bind fun (cs, e) => (finO e os cs).bind fun ds => some (ds, e)

/-- what came of the operands -/
inductive Pre (K : Fg) (σ : St) (G H : Hp) (fp : Fp) : List Opd → List C → List V → Prop
  | nil {xs : List C} : Pre K σ G H fp [] xs []
  | slot {i : Nat} {v : V} {c : C} {os : List Opd} {cs : List C} {vs : List V} : σ[i]? = some (some v) → Pre K σ G H fp os cs vs → Pre K σ G H fp (.slot i :: os) (c :: cs) (v :: vs)
  | val {m : EM} {v : V} {c : C} {f : List Addr} {os : List Opd} {cs : List C} {vs : List V} : RepC K G H v c f → (∀ a ∈ f, ¬ U fp a) → Pre K σ G H fp os cs vs → Pre K σ G H fp (.val m :: os) (c :: cs) (v :: vs)
theorem Pre.fin {K : Fg} {σ : St} {env : Env} {G H : Hp} {fp : Fp} (con : Con K σ env G H fp) : ∀ {os : List Opd} {cs : List C} {vs : List V} {ds : List D}, Pre K σ G H fp os cs vs → finO env os cs = some ds → RepVs K G H vs ds
  | _, _, _, _, .nil, e => by cases e; exact .nil
  | _, _, _, _, .slot (i := i) (cs := cs) (os := os) hv r, e => by
    unfold finO at e
    split at e
    · rename_i c e0
      obtain ⟨v', e1, rc⟩ := con.rep i c e0
      rw [hv] at e1; cases e1
      cases q : c.vw with
      | none => rw [q] at e; cases e
      | some d =>
        rw [q] at e
        cases q2 : finO env os cs with
        | none => simp [q2] at e
        | some ds => simp [q2] at e; subst e; exact .cons (rc.vw q) (Pre.fin con r q2)
    · cases e
  | _, _, _, _, .val (c := c) (cs := cs) (os := os) rc hn r, e => by
    unfold finO at e
    cases q : c.vw with
    | none => rw [q] at e; cases e
    | some d =>
      rw [q] at e
      cases q2 : finO env os cs with
      | none => simp [q2] at e
      | some ds => simp [q2] at e; subst e; exact .cons (rc.vw q) (Pre.fin con r q2)
def tOs (K : Fg) : List Opd → TA
  | [] => tNil
  | o :: r => tCons (tOpd K o) (tOs K r)
theorem pre_run {K : Fg} {σ : St} : ∀ (os : List Opd) {env env' : Env} {G H : Hp} {fp : Fp} {cs : List C} {Q : List V → Hp → Prop}, Con K σ env G H fp → preO os env = some (cs, env') →
    (∀ vs G' H' fp', Con K σ env' G' H' fp' → Pre K σ G' H' fp' os cs vs → Step G H (U fp) G' H' (U fp') → Q vs H') → tOs K os σ H Q
  | [], env, env', G, H, fp, cs, Q, con, e, k => by
    cases e
    exact k [] G H fp con .nil (Step.refl ..)
  | .slot i :: r, env, env', G, H, fp, cs, Q, con, e, k => by
    unfold preO at e
    split at e
    · rename_i c0 e0
      obtain ⟨v, hv, _⟩ := con.rep i c0 e0
      cases q : preO r env with
      | none => simp [q] at e
      | some y =>
        simp [q] at e
        obtain ⟨rfl, rfl⟩ := e
        refine ⟨v, hv, ?_⟩
        exact pre_run r con q fun vs G' H' fp' c' p' s' => k (v :: vs) G' H' fp' c' (.slot hv p') s'
    · cases e
  | .val m :: r, env, env', G, H, fp, cs, Q, con, e, k => by
    unfold preO at e
    cases q : m env with
    | none => simp [q] at e
    | some y =>
      obtain ⟨c, e1⟩ := y
      simp only [q, Option.bind_some] at e
      cases q2 : preO r e1 with
      | none => simp [q2] at e
      | some y =>
        obtain ⟨xs, e2⟩ := y
        simp [q2] at e
        obtain ⟨rfl, rfl⟩ := e
        refine ⟨env, G, fp, con, c, e1, q, fun v G1 H1 fp1 fr con1 r1 n1 s1 => ?_⟩
        refine pre_run r con1 q2 fun vs G' H' fp' c' p' s' => ?_
        refine k (v :: vs) G' H' fp' c' (.val (r1.step s' n1) (fun a ma => r1.out s' n1 a ma) p') ?_
        have s1' : Step G H (U fp) G1 H1 (U fp1) := s1.weak (fun _ u => u) fun a u => .inl (.inl u)
        exact s1'.trans s'
/-- args read as operands -/
def tO (K : Fg) (os : List Opd) : TA := fun σ H Q => ∃ env G fp, Con K σ env G H fp ∧ ∃ ds env', evO os env = some (ds, env') ∧
  ∀ vs G' H' fp', Con K σ env' G' H' fp' → RepVs K G' H' vs ds → Step G H (U fp) G' H' (U fp') → Q vs H'
theorem tO_tOs {K : Fg} {os : List Opd} {σ : St} {H : Hp} {Q : List V → Hp → Prop} (h : tO K os σ H Q) : tOs K os σ H Q := by
  obtain ⟨env, G, fp, con, ds, env', e, k⟩ := h
  unfold evO at e
  cases q : preO os env with
  | none => simp [q] at e
  | some y =>
    obtain ⟨cs, e1⟩ := y
    simp only [q, Option.bind_some] at e
    cases q2 : finO e1 os cs with
    | none => simp [q2] at e
    | some y =>
      simp [q2] at e
      obtain ⟨rfl, rfl⟩ := e
      exact pre_run os con q fun vs G' H' fp' c' p' s' => k vs G' H' fp' c' (p'.fin c' q2) s'
theorem pao_nil {X : Cx} : PA X [] (tOs X.K []) := pa_nil
theorem pao_cons {X : Cx} {e : Expr} {es : List Expr} {o : Opd} {os : List Opd} (h : OOk X e o) (r : PA X es (tOs X.K os)) (hs : starEach (e :: es) X.env = (false, eval e X.env) :: starEach es X.env := by rfl) : PA X (e :: es) (tOs X.K (o :: os)) := pa_cons h r hs
theorem pao {X : Cx} {es : List Expr} {os : List Opd} (h : PA X es (tOs X.K os)) : PA X es (tO X.K os) := pa_mono h fun _ _ _ q => tO_tOs q

/-! ## what is given away: shared from now on; with stars -/
inductive Arg where
  | one (m : EM) | star (m : EM)
def D.seq : D → Option (List D)
  | .tup ds => some ds | .lst ds => some ds | _ => none
def evA : List Arg → Env → Option (List D × Env)
  | [], env => some ([], env)
  | .one m :: r, env => (m env).bind fun (c, e) => (evA r e).bind fun (ds, e') => some (c.fz :: ds, e')
  | .star m :: r, env => (m env).bind fun (c, e) => c.fz.seq.bind fun xs => (evA r e).bind fun (ds, e') => some (xs ++ ds, e')
def tAr (K : Fg) : List Arg → TA
  | [] => tNil
  | .one m :: r => tCons (tE K m) (tAr K r)
  | .star m :: r => StX.tStar K (tE K m) (tAr K r)
theorem con_fz2 {K : Fg} {σ : St} {env : Env} {G H : Hp} {fp : Fp} {v : V} {c : C} {f : List Addr} (con : Con K σ env G H fp) (r : RepC K G H v c f) (n : ∀ a ∈ f, ¬ U fp a) :
    Con K σ env (addF G H f) H fp := con.step (Step.fz r) (fun a u w => n a w u) (addF_sub con.sub)
theorem args_run {K : Fg} {σ : St} : ∀ (ms : List Arg) {env env' : Env} {G H : Hp} {fp : Fp} {ds : List D} {Q : List V → Hp → Prop}, Con K σ env G H fp → evA ms env = some (ds, env') →
    (∀ vs G' H' fp', Con K σ env' G' H' fp' → Reps K G' vs ds → Step G H (U fp) G' H' (U fp') → Q vs H') → tAr K ms σ H Q
  | [], env, env', G, H, fp, ds, Q, con, e, k => by
    cases e
    exact k [] G H fp con .nil (Step.refl ..)
  | .one m :: r, env, env', G, H, fp, ds, Q, con, e, k => by
    unfold evA at e
    cases q : m env with
    | none => simp [q] at e
    | some y =>
      obtain ⟨c, e1⟩ := y
      simp only [q, Option.bind_some] at e
      cases q2 : evA r e1 with
      | none => simp [q2] at e
      | some y =>
        obtain ⟨xs, e2⟩ := y
        simp [q2] at e
        obtain ⟨rfl, rfl⟩ := e
        refine ⟨env, G, fp, con, c, e1, q, fun v G1 H1 fp1 fr con1 r1 n1 s1 => ?_⟩
        refine args_run r (con_fz2 con1 r1 n1) q2 fun vs G' H' fp' c' p' s' => ?_
        refine k (v :: vs) G' H' fp' c' (.cons (r1.fz.mono s'.sG) p') ?_
        refine (s1.trans ((Step.fz r1).weak (U' := fun _ => False) (W := fun a => U fp1 a ∨ a ∈ fr) (W' := U fp1) (fun a m => .inr m) fun a u => .inr (.inl (.inl u)))).trans s'
  | .star m :: r, env, env', G, H, fp, ds, Q, con, e, k => by
    unfold evA at e
    cases q : m env with
    | none => simp [q] at e
    | some y =>
      obtain ⟨c, e1⟩ := y
      simp only [q, Option.bind_some] at e
      cases q3 : c.fz.seq with
      | none => simp [q3] at e
      | some ys =>
        simp only [q3, Option.bind_some] at e
        cases q2 : evA r e1 with
        | none => simp [q2] at e
        | some y =>
          obtain ⟨xs, e2⟩ := y
          simp [q2] at e
          obtain ⟨rfl, rfl⟩ := e
          refine ⟨env, G, fp, con, c, e1, q, fun v G1 H1 fp1 fr con1 r1 n1 s1 => ?_⟩
          have s2 : Step G H (U fp) (addF G1 H1 fr) H1 (U fp1) := s1.trans ((Step.fz r1).weak (U' := fun _ => False) (W := fun a => U fp1 a ∨ a ∈ fr) (W' := U fp1) (fun a m => .inr m) fun a u => .inr (.inl (.inl u)))
          have rv := r1.fz
          have fin : ∀ (us : List V), Reps K (addF G1 H1 fr) us ys → tAr K r σ H1 fun vs H2 => Q (us ++ vs) H2 := fun us ru =>
            args_run r (con_fz2 con1 r1 n1) q2 fun vs G' H' fp' c' p' s' => k (us ++ vs) G' H' fp' c' ((ru.mono s'.sG).append p') (s2.trans s')
          have hsub : Same (addF G1 H1 fr) H1 := addF_sub con1.sub
          cases hf : c.fz with
          | tup zs =>
            rw [hf] at q3 rv; cases q3
            cases rv with
            | tup h1 h2 => exact ⟨_, _, rfl, .inl (SqT.of (hsub _ _ h1)), fin _ h2⟩
          | lst zs =>
            rw [hf] at q3 rv; cases q3
            cases rv with
            | lst h1 h2 => exact ⟨_, _, rfl, .inr (SqL.of (hsub _ _ h1)), fin _ h2⟩
          | _ => rw [hf] at q3; cases q3
def tA (K : Fg) (ms : List Arg) : TA := fun σ H Q => ∃ env G fp, Con K σ env G H fp ∧ ∃ ds env', evA ms env = some (ds, env') ∧
  ∀ vs G' H' fp', Con K σ env' G' H' fp' → Reps K G' vs ds → Step G H (U fp) G' H' (U fp') → Q vs H'
theorem paa_nil {X : Cx} : PA X [] (tAr X.K []) := pa_nil
theorem paa_cons {X : Cx} {e : Expr} {es : List Expr} {o : EM} {os : List Arg} (h : EOk X e o) (r : PA X es (tAr X.K os)) (hs : starEach (e :: es) X.env = (false, eval e X.env) :: starEach es X.env := by rfl) : PA X (e :: es) (tAr X.K (.one o :: os)) := pa_cons h r hs
theorem paa_star {X : Cx} {e : Expr} {es : List Expr} {o : EM} {os : List Arg} {p : Pos} (h : EOk X e o) (r : PA X es (tAr X.K os)) (hs : starEach (.Starred e p :: es) X.env = (true, eval e X.env) :: starEach es X.env := by rfl) : PA X (.Starred e p :: es) (tAr X.K (.star o :: os)) := StX.pa_star h r hs
theorem paa {X : Cx} {es : List Expr} {os : List Arg} (h : PA X es (tAr X.K os)) : PA X es (tA X.K os) := pa_mono h fun _ _ _ ⟨env, G, fp, con, ds, env', e, k⟩ => args_run os con e k

/-! ## displays -/
theorem lim_ex : ∃ n : Nat, n = 16777216 := ⟨_, rfl⟩
noncomputable def lim : Nat := Classical.choose lim_ex
theorem lim_val : lim = 16777216 := Classical.choose_spec lim_ex
theorem lim_eq : lim = sizeLine := by rw [sizeLine_eq, lim_val]
def eTup (ms : List Arg) : EM := fun env => (evA ms env).bind fun (ds, e) => if ds.length ≤ lim then some (.sh (.tup ds), e) else none
def eLst (ms : List Arg) : EM := fun env => (evA ms env).bind fun (ds, e) => if ds.length ≤ lim then some (.ol ds, e) else none
theorem ok_tup {X : Cx} {es : List Expr} {ms : List Arg} {x1 pos} (h : PA X es (tAr X.K ms)) : EOk X (.Tuple es x1 pos) (eTup ms) := pe_mono (pe_tup (paa h)) fun σ H Q ⟨env, G, fp, con, c, env', e1, k⟩ => by
  unfold eTup at e1
  cases q : evA ms env with
  | none => simp [q] at e1
  | some y =>
    obtain ⟨ds, e2⟩ := y
    simp only [q, Option.bind_some] at e1
    split at e1
    · rename_i hl
      cases e1
      refine ⟨env, G, fp, con, ds, env', q, fun vs G' H' fp' c' r s => ⟨by rw [r.length, ← lim_eq]; exact hl, fun p hp => ?_⟩⟩
      refine k.end_ (W := fun _ => False) (fr := []) c' (s.weak (fun _ u => u) fun a u => u.elim .inl fun z => z.elim) (fun a z => z.elim) ((Step.newG (o := .tup vs) c'.sub hp).weak (fun _ z => z.elim) fun a z => by cases z) (same_upd2 c'.sub hp) ?_
      exact .sh (.tup upd_same (r.mono (same_new (none_of_same c'.sub hp))))
    · cases e1
theorem ok_lst {X : Cx} {es : List Expr} {ms : List Arg} {pos} (h : PA X es (tAr X.K ms)) : EOk X (.List es pos) (eLst ms) := pe_mono (pe_lst (paa h)) fun σ H Q ⟨env, G, fp, con, c, env', e1, k⟩ => by
  unfold eLst at e1
  cases q : evA ms env with
  | none => simp [q] at e1
  | some y =>
    obtain ⟨ds, e2⟩ := y
    simp only [q, Option.bind_some] at e1
    split at e1
    · rename_i hl
      cases e1
      refine ⟨env, G, fp, con, ds, env', q, fun vs G' H' fp' c' r s => ⟨by rw [r.length, ← lim_eq]; exact hl, fun p hp => ?_⟩⟩
      refine k.end_ (W := fun _ => False) (fr := [p]) c' (s.weak (fun _ u => u) fun a u => u.elim .inl fun z => z.elim) (fun a z => z.elim) (Step.newH (o := .lst vs) hp) (same_newH c'.sub hp) ?_
      exact .ol (none_of_same c'.sub hp) upd_same r
    · cases e1

/-! ## operations by values -/
abbrev Kont (K : Fg) (G H : Hp) (c : C) (Q : VK) : Prop := ∀ v G' H' fr, Same G' H' → RepC K G' H' v c fr → Step G H (fun _ => False) G' H' (fun a => a ∈ fr) → Q v H'
/-- an operation on values says what the function says -/
def OpS (K : Fg) (r : List V → Hp → VK → Prop) (op : List D → Option C) : Prop :=
  ∀ (G H : Hp) (vs : List V) (ds : List D) (c : C) (Q : VK), Same G H → RepVs K G H vs ds → op ds = some c → Kont K G H c Q → r vs H Q
def eO (op : List D → Option C) (os : List Opd) : EM := fun env => (evO os env).bind fun (ds, e) => (op ds).bind fun c => some (c, e)
theorem eO_run {K : Fg} {r : List V → Hp → VK → Prop} {op : List D → Option C} {os : List Opd} (h : OpS K r op) {σ : St} {H : Hp} {Q : VK} (q : tE K (eO op os) σ H Q) : tO K os σ H (fun vs H1 => r vs H1 Q) := by
  obtain ⟨env, G, fp, con, c, env', e1, k⟩ := q
  unfold eO at e1
  cases q : evO os env with
  | none => simp [q] at e1
  | some y =>
    obtain ⟨ds, e2⟩ := y
    simp only [q, Option.bind_some] at e1
    cases q2 : op ds with
    | none => simp [q2] at e1
    | some c0 =>
      simp [q2] at e1
      obtain ⟨rfl, rfl⟩ := e1
      refine ⟨env, G, fp, con, ds, e2, q, fun vs G' H' fp' c' rv s => h G' H' vs ds c0 Q c'.sub rv q2 fun v G2 H2 fr sub rc s2 => ?_⟩
      exact k.end_ (W := fun _ => False) c' (s.weak (fun _ u => u) fun a u => u.elim .inl fun z => z.elim) (fun a z => z.elim) s2 sub rc
/-- two operands -/
def op2r (r : R2) : List V → Hp → VK → Prop := fun vs H Q => ∃ x y, vs = [x, y] ∧ r x y H Q
def op1r (r : V → Hp → VK → Prop) : List V → Hp → VK → Prop := fun vs H Q => ∃ x, vs = [x] ∧ r x H Q
theorem tOs2 {K : Fg} {a b : Opd} {σ : St} {H : Hp} {R : List V → Hp → Prop} (h : tOs K [a, b] σ H R) : tOpd K a σ H fun x H1 => tOpd K b σ H1 fun y H2 => R [x, y] H2 := h
theorem tOs1 {K : Fg} {a : Opd} {σ : St} {H : Hp} {R : List V → Hp → Prop} (h : tOs K [a] σ H R) : tOpd K a σ H fun x H1 => R [x] H1 := h
theorem vk_mono_opd {K : Fg} (o : Opd) {σ : St} {H : Hp} {Q Q' : VK} (k : ∀ v H, Q v H → Q' v H) (h : tOpd K o σ H Q) : tOpd K o σ H Q' := by
  cases o with
  | slot i => obtain ⟨v, e, q⟩ := h; exact ⟨v, e, k v H q⟩
  | val m =>
    obtain ⟨env, G, fp, con, c, env', e, q⟩ := h
    exact ⟨env, G, fp, con, c, env', e, fun v G' H' fp' fr a b c d => k v H' (q v G' H' fp' fr a b c d)⟩
theorem ok_op {X : Cx} {a b : Expr} {oa ob : Opd} {op : Operator} {r : R2} {f : List D → Option C} {pos : Pos} (hr : OpR X (binaryOp op) r) (hf : OpS X.K (op2r r) f) (ha : OOk X a oa) (hb : OOk X b ob) : EOk X (.BinOp a op b pos) (eO f [oa, ob]) :=
  pe_mono (L2.pe_op hr ha hb) fun σ H Q q => by
    refine vk_mono_opd oa (fun x H1 h1 => vk_mono_opd ob (fun y H2 h2 => ?_) h1) (tOs2 (tO_tOs (eO_run hf q)))
    obtain ⟨x', y', e, h⟩ := h2
    cases e
    exact h
theorem ok_cmp {X : Cx} {a b : Expr} {oa ob : Opd} {op : CmpOp} {r : R2} {f : List D → Option C} {pos : Pos} (hr : OpR X (compareOp op) r) (hf : OpS X.K (op2r r) f) (ha : OOk X a oa) (hb : OOk X b ob) (hm : behindInMarks op b = false := by first | exact nomark _ | rfl) : EOk X (.Compare a [op] [b] pos) (eO f [oa, ob]) :=
  pe_mono (pe_cmpR hr ha hb hm) fun σ H Q q => by
    refine vk_mono_opd oa (fun x H1 h1 => vk_mono_opd ob (fun y H2 h2 => ?_) h1) (tOs2 (tO_tOs (eO_run hf q)))
    obtain ⟨x', y', e, h⟩ := h2
    cases e
    exact h
theorem ok_ix {X : Cx} {a b : Expr} {oa ob : Opd} {r : R2} {f : List D → Option C} {pos : Pos} (hr : IxR X r) (hf : OpS X.K (op2r r) f) (ha : OOk X a oa) (hb : OOk X b ob) (hs : PlainIx b := by intro _ _; rfl) : EOk X (.Subscript a b pos) (eO f [oa, ob]) :=
  pe_mono (pe_ix hr ha hb hs) fun σ H Q q => by
    refine vk_mono_opd oa (fun x H1 h1 => vk_mono_opd ob (fun y H2 h2 => ?_) h1) (tOs2 (tO_tOs (eO_run hf q)))
    obtain ⟨x', y', e, h⟩ := h2
    cases e
    exact h
theorem ok_un {X : Cx} {a : Expr} {oa : Opd} {op : UnaryOp} {r : V → Hp → VK → Prop} {f : List D → Option C} {pos : Pos} (hr : UnR X (unaryOp op) r) (hf : OpS X.K (op1r r) f) (ha : OOk X a oa) : EOk X (.UnaryOp op a pos) (eO f [oa]) :=
  pe_mono (pe_un hr ha) fun σ H Q q => by
    refine vk_mono_opd oa (fun x H1 h1 => ?_) (tOs1 (tO_tOs (eO_run hf q)))
    obtain ⟨x', e, h⟩ := h1
    cases e
    exact h
theorem ok_callB {X : Cx} {e : Expr} {es : List Expr} {os : List Opd} {x : Str} {id : String} {r : List V → Hp → VK → Prop} {f : List D → Option C} {p pos : Pos} (hc : CallR X (.builtin id) r) (hf : OpS X.K r f) (hg : Gl X x) (hm : X.mg x = none) (hv : bootBuiltins x = some (.builtin id)) (ha : PA X (e :: es) (tOs X.K os)) (hn : x ≠ "__name__" := by decide) (hdb : (x == ("__debug__" : Str)) = false := by decide)
    (he : starEach (e :: es) X.env = (false, eval e X.env) :: starEach es X.env := by rfl) (hpl : (backTo pos (starEach es X.env)).any (·.1) = false := by rfl) : EOk X (.Call (.Name x p) (e :: es) [] pos) (eO f os) :=
  pe_mono (pe_callB hc hg hm hv (pao ha) hn hdb he hpl) fun σ H Q q => eO_run hf q
theorem ok_callTy {X : Cx} {e : Expr} {es : List Expr} {os : List Opd} {x : Str} {id : String} {r : List V → Hp → VK → Prop} {f : List D → Option C} {p pos : Pos} (hc : CallR X (.type id) r) (hf : OpS X.K r f) (hg : Gl X x) (hm : X.mg x = none) (hv : bootBuiltins x = some (.type id)) (ha : PA X (e :: es) (tOs X.K os)) (hn : x ≠ "__name__" := by decide) (hdb : (x == ("__debug__" : Str)) = false := by decide)
    (he : starEach (e :: es) X.env = (false, eval e X.env) :: starEach es X.env := by rfl) (hpl : (backTo pos (starEach es X.env)).any (·.1) = false := by rfl) : EOk X (.Call (.Name x p) (e :: es) [] pos) (eO f os) :=
  pe_mono (pe_callTy hc hg hm hv (pao ha) hn hdb he hpl) fun σ H Q q => eO_run hf q
theorem OpS.or {K : Fg} {r r' : List V → Hp → VK → Prop} {f f' : List D → Option C} (h : OpS K r f) (h' : OpS K r' f') : OpS K (fun vs H Q => r vs H Q ∨ r' vs H Q) (fun ds => (f ds).or (f' ds)) := fun G H vs ds c Q s rv e k => by
  have e : (f ds).or (f' ds) = some c := e
  cases q : f ds with
  | some c0 =>
    rw [q] at e
    exact .inl (h G H vs ds c Q s rv (by rw [q]; exact e) k)
  | none =>
    rw [q] at e
    exact .inr (h' G H vs ds c Q s rv e k)
theorem OpS.imp {K : Fg} {r r' : List V → Hp → VK → Prop} {f : List D → Option C} (h : OpS K r f) (i : ∀ vs H Q, r vs H Q → r' vs H Q) : OpS K r' f := fun G H vs ds c Q s rv e k => i vs H Q (h G H vs ds c Q s rv e k)
end Fx
set_option Elab.async false
set_option linter.all false
set_option maxRecDepth 100000
set_option maxHeartbeats 4000000
noncomputable section
namespace Fx
open PySem L2

/-! ## ends of operations -/
theorem OpR.or {X : Cx} {f : Value → Value → Sem Value} {r r' : R2} (h : OpR X f r) (h' : OpR X f r') : OpR X f (fun x y H Q => r x y H Q ∨ r' x y H Q) := by
  intro pins s σ H x y v u Q I rx ry q
  rcases q with q | q
  · exact h pins s σ H x y v u Q I rx ry q
  · exact h' pins s σ H x y v u Q I rx ry q
theorem CallR.or {X : Cx} {f : Value} {r r' : List V → Hp → VK → Prop} (h : CallR X f r) (h' : CallR X f r') : CallR X f (fun x H Q => r x H Q ∨ r' x H Q) := by
  intro pins s σ H xs us Q I rx q
  rcases q with q | q
  · exact h pins s σ H xs us Q I rx q
  · exact h' pins s σ H xs us Q I rx q
section
variable {K : Fg} {G H : Hp} {Q : VK}
theorem Kont.sh {d : D} {v : V} (k : Kont K G H (.sh d) Q) (s : Same G H) (r : Rep K G v d) : Q v H :=
  k v G H [] s (.sh r) ((Step.refl G H (fun _ => False)).weak (fun _ z => z.elim) fun a z => by cases z)
theorem Kont.tup {ds : List D} {xs : List V} {p : Addr} (k : Kont K G H (.sh (.tup ds)) Q) (s : Same G H) (r : Reps K G xs ds) (hp : H p = none) : Q (.ref p) (upd H p (.tup xs)) :=
  k _ (upd G p (.tup xs)) _ [] (same_upd2 s hp) (.sh (.tup upd_same (r.mono (same_new (none_of_same s hp))))) ((Step.newG s hp).weak (fun _ z => z.elim) fun a z => by cases z)
theorem Kont.ol {ds : List D} {xs : List V} {p : Addr} (k : Kont K G H (.ol ds) Q) (s : Same G H) (r : Reps K G xs ds) (hp : H p = none) : Q (.ref p) (upd H p (.lst xs)) :=
  k _ G _ [p] (same_newH s hp) (.ol (none_of_same s hp) upd_same r) (Step.newH hp)
theorem RepV.int {x : V} {i : Int} (r : RepV K G H x (.int i)) : x = .int i := by cases r with | sh r => cases r; rfl
theorem RepV.bl {x : V} {i : Bool} (r : RepV K G H x (.bl i)) : x = .bl i := by cases r with | sh r => cases r; rfl
theorem RepV.str {x : V} {i : Str} (r : RepV K G H x (.str i)) : x = .str i := by cases r with | sh r => cases r; rfl
theorem RepV.non {x : V} (r : RepV K G H x .non) : x = .non := by cases r with | sh r => cases r; rfl
theorem RepV.tup {x : V} {ds : List D} (r : RepV K G H x (.tup ds)) : ∃ a xs, x = .ref a ∧ G a = some (.tup xs) ∧ Reps K G xs ds := by
  cases r with | sh r => cases r with | tup h r => exact ⟨_, _, rfl, h, r⟩
theorem RepV.lst {x : V} {ds : List D} (s : Same G H) (r : RepV K G H x (.lst ds)) : ∃ a xs, x = .ref a ∧ H a = some (.lst xs) ∧ Reps K G xs ds := by
  cases r with
  | sh r => cases r with | lst h r => exact ⟨_, _, rfl, s _ _ h, r⟩
  | ol h r => exact ⟨_, _, rfl, h, r⟩
theorem RepV.scr {x : V} {ns : List Int} (s : Same G H) (r : RepV K G H x (.scr ns)) : ∃ a, x = .ref a ∧ SqL K H a (ns.map V.int) := by
  cases r with | sh r => cases r with | scr h => exact ⟨_, rfl, s.seq h⟩
theorem RepV.dk_ {x : V} {ds : List (Key × D)} (s : Same G H) (r : RepV K G H x (.dk ds)) : ∃ a xs, x = .ref a ∧ H a = some (.dK xs) ∧ RepK K G xs ds := by
  cases r with
  | sh r => cases r with | dk h r => exact ⟨_, _, rfl, s _ _ h, r⟩
  | dk h r => exact ⟨_, _, rfl, h, r⟩
theorem RepV.dt_ {x : V} {ds : List (List Key × D)} (s : Same G H) (r : RepV K G H x (.dt ds)) : ∃ a xs, x = .ref a ∧ H a = some (.dT xs) ∧ RepT K G xs ds := by
  cases r with
  | sh r => cases r with | dt h r => exact ⟨_, _, rfl, s _ _ h, r⟩
  | dt h r => exact ⟨_, _, rfl, h, r⟩
end

/-! ## ints -/
def fII (g : Int → Int → Option D) : List D → Option C
  | [.int i, .int j] => (g i j).bind fun d => some (.sh d)
  | _ => none
theorem opS_rI {K : Fg} {P : Int → Int → Prop} {g : Int → Int → V} {f : Int → Int → Option D} (h : ∀ i j d, f i j = some d → P i j ∧ ∀ G, Rep K G (g i j) d) : OpS K (op2r (rI P g)) (fII f) := fun G H vs ds c Q s rv e k => by
  unfold fII at e
  split at e
  · rename_i i j
    cases q : f i j with
    | none => simp [q] at e
    | some d =>
      simp [q] at e; subst e
      cases rv with
      | cons r1 rv =>
        cases rv with
        | cons r2 rv =>
          cases rv
          cases r1.int; cases r2.int
          exact ⟨_, _, rfl, i, j, rfl, rfl, (h i j d q).1, k.sh s ((h i j d q).2 G)⟩
  · cases e
theorem opS_rI0 {K : Fg} {g : Int → Int → V} {f : Int → Int → Option D} (h : ∀ i j d, f i j = some d → ∀ G, Rep K G (g i j) d) : OpS K (op2r (rI0 g)) (fII f) := fun G H vs ds c Q s rv e k => by
  unfold fII at e
  split at e
  · rename_i i j
    cases q : f i j with
    | none => simp [q] at e
    | some d =>
      simp [q] at e; subst e
      cases rv with
      | cons r1 rv =>
        cases rv with
        | cons r2 rv =>
          cases rv
          cases r1.int; cases r2.int
          exact ⟨_, _, rfl, i, j, rfl, rfl, k.sh s ((h i j d q) G)⟩
  · cases e
/-- below 2 ^ 64 in size -/
def sm (i : Int) : Bool := @decide (-18446744073709551616 < i ∧ i < 18446744073709551616) (Classical.propDecidable _)
theorem sm_iff {i : Int} : sm i = true ↔ -18446744073709551616 < i ∧ i < 18446744073709551616 := @decide_eq_true_iff _ (Classical.propDecidable _)
def gAdd (i j : Int) : Option D := some (.int (i + j))
def gSub (i j : Int) : Option D := some (.int (i - j))
def gMul (i j : Int) : Option D := if sm i || sm j then some (.int (i * j)) else none
def gDiv (i j : Int) : Option D := if 0 < j ∧ j < 1073741824 then some (.int (i / j)) else none
def gMod (i j : Int) : Option D := if 0 < j then some (.int (i % j)) else none
def gPow (i j : Int) : Option D := if 0 ≤ j ∧ j ≤ 1000000 ∧ sm i then some (.int (i ^ j.toNat)) else none
def gShl (i j : Int) : Option D := if 0 ≤ j ∧ j ≤ 1000000 ∧ sm i then some (.int (i * 2 ^ j.toNat)) else none
def gShr (i j : Int) : Option D := if 0 ≤ j then some (.int (i / 2 ^ j.toNat)) else none
def gAnd (i j : Int) : Option D := some (.int (Builtin.bitAnd i j))
def gLt (i j : Int) : Option D := some (.bl (decide (i < j)))
def gLe (i j : Int) : Option D := some (.bl (decide (i ≤ j)))
def gGt (i j : Int) : Option D := some (.bl (decide (j < i)))
def gGe (i j : Int) : Option D := some (.bl (decide (j ≤ i)))
section
variable {K : Fg}
theorem sI (i : Int) : ∀ G, Rep K G (.int i) (.int i) := fun _ => .int i
theorem natAbs64 {i : Int} (h : sm i = true) : i.natAbs < 2 ^ 64 := by
  have := sm_iff.mp h
  have e : (2 : Nat) ^ 64 = 18446744073709551616 := by decide
  rw [e]; omega
theorem s_addI : OpS K (op2r (rI0 fun i j => .int (i + j))) (fII gAdd) := opS_rI0 fun i j d e => by cases e; exact sI _
theorem s_sub : OpS K (op2r (rI0 fun i j => .int (i - j))) (fII gSub) := opS_rI0 fun i j d e => by cases e; exact sI _
theorem s_mulI : OpS K (op2r (rI CMul fun i j => .int (i * j))) (fII gMul) := opS_rI fun i j d e => by
  unfold gMul at e
  split at e
  · rename_i h
    cases e
    refine ⟨?_, sI _⟩
    have e64 : (2 : Int) ^ 64 = 18446744073709551616 := by decide
    simp only [Bool.or_eq_true] at h
    rcases h with h | h
    · have := sm_iff.mp h
      exact .inl (by rw [e64]; exact this)
    · have := sm_iff.mp h
      exact .inr (by rw [e64]; exact this)
  · cases e
theorem s_div : OpS K (op2r (rI CDiv fun i j => .int (i / j))) (fII gDiv) := opS_rI fun i j d e => by
  unfold gDiv at e
  split at e
  · rename_i h; cases e; exact ⟨h, sI _⟩
  · cases e
theorem s_mod : OpS K (op2r (rI (fun _ j => 0 < j) fun i j => .int (i % j))) (fII gMod) := opS_rI fun i j d e => by
  unfold gMod at e
  split at e
  · rename_i h; cases e; exact ⟨h, sI _⟩
  · cases e
theorem s_pow : OpS K (op2r (rI CPow fun i j => .int (i ^ j.toNat))) (fII gPow) := opS_rI fun i j d e => by
  unfold gPow at e
  split at e
  · rename_i h; cases e; exact ⟨⟨h.1, h.2.1, natAbs64 h.2.2⟩, sI _⟩
  · cases e
theorem s_shl : OpS K (op2r (rI CPow fun i j => .int (i * 2 ^ j.toNat))) (fII gShl) := opS_rI fun i j d e => by
  unfold gShl at e
  split at e
  · rename_i h; cases e; exact ⟨⟨h.1, h.2.1, natAbs64 h.2.2⟩, sI _⟩
  · cases e
theorem s_shr : OpS K (op2r (rI (fun _ j => 0 ≤ j) fun i j => .int (i / 2 ^ j.toNat))) (fII gShr) := opS_rI fun i j d e => by
  unfold gShr at e
  split at e
  · rename_i h; cases e; exact ⟨h, sI _⟩
  · cases e
theorem s_and : OpS K (op2r (rI0 fun i j => .int (Builtin.bitAnd i j))) (fII gAnd) := opS_rI0 fun i j d e => by cases e; exact sI _
theorem s_lt : OpS K (op2r (rI0 fun i j => .bl (decide (i < j)))) (fII gLt) := opS_rI0 fun i j d e => by cases e; exact fun _ => .bl _
theorem s_le : OpS K (op2r (rI0 fun i j => .bl (decide (i ≤ j)))) (fII gLe) := opS_rI0 fun i j d e => by cases e; exact fun _ => .bl _
theorem s_gt : OpS K (op2r (rI0 fun i j => .bl (decide (j < i)))) (fII gGt) := opS_rI0 fun i j d e => by cases e; exact fun _ => .bl _
theorem s_ge : OpS K (op2r (rI0 fun i j => .bl (decide (j ≤ i)))) (fII gGe) := opS_rI0 fun i j d e => by cases e; exact fun _ => .bl _
def fNeg : List D → Option C
  | [.int i] => some (.sh (.int (-i)))
  | _ => none
theorem s_neg : OpS K (op1r (rU fun i => .int (-i))) fNeg := fun G H vs ds c Q s rv e k => by
  unfold fNeg at e
  split at e
  · rename_i i
    cases e
    cases rv with
    | cons r1 rv => cases rv; cases r1.int; exact ⟨_, rfl, i, rfl, k.sh s (.int _)⟩
  · cases e

/-! ## + of ints, texts, tuples, lists -/
def fAdd : List D → Option C
  | [.int i, .int j] => some (.sh (.int (i + j)))
  | [.str x, .str y] => if x.length + y.length ≤ lim then some (.sh (.str (x ++ y))) else none
  | [.tup x, .tup y] => if x.length + y.length ≤ lim then some (.sh (.tup (x ++ y))) else none
  | [.lst x, .lst y] => if x.length + y.length ≤ lim then some (.ol (x ++ y)) else none
  | _ => none
def rAddAll (K : Fg) : R2 := fun x y H Q => (rI0 (fun i j => .int (i + j)) x y H Q) ∨ ((∃ i j, x = .str i ∧ y = .str j ∧ i.length + j.length ≤ sizeLine ∧ Q (.str (i ++ j)) H) ∨ (rCatA K x y H Q ∨ rCat x y H Q))
theorem op_addAll {X : Cx} : OpR X (binaryOp .Add) (rAddAll X.K) := OpR.or op_add (OpR.or op_add_str (OpR.or op_catA op_cat))
theorem s_add : OpS K (op2r (rAddAll K)) fAdd := fun G H vs ds c Q s rv e k => by
  unfold fAdd at e
  split at e
  · rename_i i j
    cases e
    cases rv with
    | cons r1 rv => cases rv with | cons r2 rv => cases rv; cases r1.int; cases r2.int; exact ⟨_, _, rfl, .inl ⟨i, j, rfl, rfl, k.sh s (.int _)⟩⟩
  · rename_i x y
    split at e
    · rename_i hl
      cases e
      cases rv with
      | cons r1 rv => cases rv with | cons r2 rv => cases rv; cases r1.str; cases r2.str; exact ⟨_, _, rfl, .inr (.inl ⟨x, y, rfl, rfl, by rw [← lim_eq]; exact hl, k.sh s (.str _)⟩)⟩
    · cases e
  · rename_i x y
    split at e
    · rename_i hl
      cases e
      cases rv with
      | cons r1 rv =>
        cases rv with
        | cons r2 rv =>
          cases rv
          obtain ⟨a, xs, rfl, h1, q1⟩ := r1.tup
          obtain ⟨b, ys, rfl, h2, q2⟩ := r2.tup
          refine ⟨_, _, rfl, .inr (.inr (.inl ⟨a, b, xs, ys, rfl, rfl, SqT.of (s _ _ h1), SqT.of (s _ _ h2), by rw [q1.length, q2.length, ← lim_eq]; exact hl, fun z => ?_, fun _ z => ?_, fun _ _ p hp => k.tup s (q1.append q2) hp⟩))⟩
          · subst z
            cases q1
            exact k.sh s (.tup h2 q2)
          · subst z
            cases q2
            exact k.sh s (.tup h1 (by simpa using q1))
    · cases e
  · rename_i x y
    split at e
    · rename_i hl
      cases e
      cases rv with
      | cons r1 rv =>
        cases rv with
        | cons r2 rv =>
          cases rv
          obtain ⟨a, xs, rfl, h1, q1⟩ := r1.lst s
          obtain ⟨b, ys, rfl, h2, q2⟩ := r2.lst s
          exact ⟨_, _, rfl, .inr (.inr (.inr ⟨a, b, xs, ys, rfl, rfl, h1, h2, by rw [q1.length, q2.length, ← lim_eq]; exact hl, fun p hp => k.ol s (q1.append q2) hp⟩))⟩
    · cases e
  · cases e
/-! ## * of ints; a list so many times -/
def fMul : List D → Option C
  | [.int i, .int j] => if sm i || sm j then some (.sh (.int (i * j))) else none
  | [.lst x, .int n] => if sm n ∧ -9223372036854775808 ≤ n ∧ n < 9223372036854775808 ∧ x.length * n.toNat ≤ lim then some (.ol (List.replicate n.toNat x).flatten) else none
  | _ => none
theorem reps_rep {G : Hp} {xs : List V} {ds : List D} (r : Reps K G xs ds) : ∀ n : Nat, Reps K G (List.replicate n xs).flatten (List.replicate n ds).flatten
  | 0 => .nil
  | n + 1 => by rw [List.replicate_succ, List.replicate_succ, List.flatten_cons, List.flatten_cons]; exact r.append (reps_rep r n)
def rMulAll : R2 := fun x y H Q => (rI CMul (fun i j => .int (i * j)) x y H Q) ∨ rRep x y H Q
theorem op_mulAll {X : Cx} : OpR X (binaryOp .Mult) rMulAll := OpR.or op_mul op_rep
theorem s_mul : OpS K (op2r rMulAll) fMul := fun G H vs ds c Q s rv e k => by
  unfold fMul at e
  split at e
  · rename_i i j
    split at e
    · rename_i h
      cases e
      cases rv with
      | cons r1 rv =>
        cases rv with
        | cons r2 rv =>
          cases rv; cases r1.int; cases r2.int
          refine ⟨_, _, rfl, .inl ⟨i, j, rfl, rfl, ?_, k.sh s (.int _)⟩⟩
          have e64 : (2 : Int) ^ 64 = 18446744073709551616 := by decide
          simp only [Bool.or_eq_true] at h
          rcases h with h | h
          · have := sm_iff.mp h
            exact .inl (by rw [e64]; exact this)
          · have := sm_iff.mp h
            exact .inr (by rw [e64]; exact this)
    · cases e
  · rename_i x n
    split at e
    · rename_i h
      cases e
      cases rv with
      | cons r1 rv =>
        cases rv with
        | cons r2 rv =>
          cases rv; cases r2.int
          obtain ⟨a, xs, rfl, h1, q1⟩ := r1.lst s
          have e63 : (2 : Int) ^ 63 = 9223372036854775808 := by decide
          exact ⟨_, _, rfl, .inr ⟨a, n, xs, rfl, rfl, h1, by rw [e63]; exact h.2.1, by rw [e63]; exact h.2.2.1, by rw [q1.length, ← lim_eq]; exact h.2.2.2, fun p hp => k.ol s (reps_rep q1 _) hp⟩⟩
    · cases e
  · cases e

/-! ## a[i], a[i:j] -/
def atD (ds : List D) (i : Int) : Option D := atI ds i
theorem Reps.at_ {G : Hp} {xs : List V} {ds : List D} {i : Int} {d : D} (r : Reps K G xs ds) (e : atI ds i = some d) : ∃ v, atI xs i = some v ∧ Rep K G v d := by
  unfold atI at e ⊢
  rw [r.length]
  cases q : ixN ds.length i with
  | none => rw [q] at e; cases e
  | some j =>
    rw [q] at e
    exact r.getD (i := j) e
def fIx : List D → Option C
  | [.lst ds, .int i] => (atI ds i).bind fun d => some (.sh d)
  | [.tup ds, .int i] => (atI ds i).bind fun d => some (.sh d)
  | [.str z, .int i] => if z.length ≤ lim then (atI z.cps.toList i).bind fun c => some (.sh (.str ⟨#[c]⟩)) else none
  | _ => none
theorem s_ix : OpS K (op2r (rIx K)) fIx := fun G H vs ds c Q s rv e k => by
  unfold fIx at e
  split at e
  · rename_i ds i
    cases q : atI ds i with
    | none => simp [q] at e
    | some d =>
      simp [q] at e; subst e
      cases rv with
      | cons r1 rv =>
        cases rv with
        | cons r2 rv =>
          cases rv; cases r2.int
          obtain ⟨a, xs, rfl, h1, q1⟩ := r1.lst s
          obtain ⟨v, e1, rd⟩ := q1.at_ q
          exact ⟨_, _, rfl, .inl ⟨a, xs, i, v, rfl, rfl, SqL.of h1, e1, k.sh s rd⟩⟩
  · rename_i ds i
    cases q : atI ds i with
    | none => simp [q] at e
    | some d =>
      simp [q] at e; subst e
      cases rv with
      | cons r1 rv =>
        cases rv with
        | cons r2 rv =>
          cases rv; cases r2.int
          obtain ⟨a, xs, rfl, h1, q1⟩ := r1.tup
          obtain ⟨v, e1, rd⟩ := q1.at_ q
          exact ⟨_, _, rfl, .inr (.inl ⟨a, xs, i, v, rfl, rfl, SqT.of (s _ _ h1), e1, k.sh s rd⟩)⟩
  · rename_i z i
    split at e
    · rename_i hz
      cases q : atI z.cps.toList i with
      | none => simp [q] at e
      | some d =>
        simp [q] at e; subst e
        cases rv with
        | cons r1 rv =>
          cases rv with
          | cons r2 rv =>
            cases rv; cases r2.int; cases r1.str
            exact ⟨_, _, rfl, .inr (.inr ⟨z, i, d, rfl, rfl, by rw [← lim_eq]; exact hz, q, k.sh s (.str _)⟩)⟩
    · cases e
  · cases e
/-- the items of xs[lo:hi] -/
def cutD {α : Type} (xs : List α) (lo hi : Option Int) : List α := (xs.drop (HT.sIx xs.length 0 lo)).take (HT.sIx xs.length xs.length hi - HT.sIx xs.length 0 lo)
theorem Reps.cut {G : Hp} {xs : List V} {ds : List D} (r : Reps K G xs ds) (lo hi : Option Int) : Reps K G (cutV xs lo hi) (cutD ds lo hi) := by
  unfold cutV cutD
  rw [r.length]
  exact (r.drop _).take _
def fSl (x : D) (lo hi : Option Int) : Option C := match x with
  | .lst ds => some (.ol (cutD ds lo hi))
  | .tup ds => some (.sh (.tup (cutD ds lo hi)))
  | .scr ns => some (.ol (cutD (ns.map D.int) lo hi))
  | .str z => if z.length ≤ lim then some (.sh (.str (cutS z lo hi))) else none
  | _ => none
end
end Fx
set_option Elab.async false
set_option linter.all false
set_option maxRecDepth 100000
set_option maxHeartbeats 4000000
noncomputable section
namespace Fx
open PySem L2

/-! ## slices -/
def rSlAll (K : Fg) : V → Option Int → Option Int → Hp → VK → Prop := fun x lo hi H Q => rSlL K x lo hi H Q ∨ (rSlA K x lo hi H Q ∨ rSlS x lo hi H Q)
theorem sl_all {X : Cx} : SlR X (rSlAll X.K) := SlR.or sl_list (SlR.or sl_tupA sl_str)
theorem cut_whole {α : Type} {xs : List α} {lo hi : Option Int} (h : HT.sIx xs.length 0 lo = 0 ∧ HT.sIx xs.length xs.length hi = xs.length) : cutD xs lo hi = xs := by
  unfold cutD
  rw [h.1, h.2]
  simp
theorem s_sl {K : Fg} {G H : Hp} {x : V} {d : D} {lo hi : Option Int} {c : C} {Q : VK} (s : Same G H) (rv : RepV K G H x d) (e : fSl d lo hi = some c) (k : Kont K G H c Q) : rSlAll K x lo hi H Q := by
  unfold fSl at e
  split at e
  · cases e
    obtain ⟨a, xs, rfl, h1, q1⟩ := rv.lst s
    exact .inl ⟨a, xs, rfl, SqL.of h1, fun p hp => k.ol s (q1.cut lo hi) hp⟩
  · cases e
    obtain ⟨a, xs, rfl, h1, q1⟩ := rv.tup
    refine .inr (.inl ⟨a, xs, rfl, SqT.of (s _ _ h1), fun w => ?_, fun _ p hp => k.tup s (q1.cut lo hi) hp⟩)
    rw [q1.length] at w
    rw [cut_whole w] at k
    exact k.sh s (.tup h1 q1)
  · rename_i ns
    cases e
    obtain ⟨a, rfl, h1⟩ := rv.scr s
    exact .inl ⟨a, _, rfl, h1, fun p hp => k.ol s ((reps_ints ns).cut lo hi) hp⟩
  · split at e
    · rename_i hz
      cases e
      cases rv.str
      exact .inr (.inr ⟨_, rfl, by rw [← lim_eq]; exact hz, k.sh s (.str _)⟩)
    · cases e
  · cases e

theorem Pre.step {K : Fg} {σ : St} {G H G' H' : Hp} {fp fp' : Fp} (s : Step G H (U fp) G' H' (U fp')) : ∀ {os : List Opd} {cs : List C} {vs : List V}, Pre K σ G H fp os cs vs → Pre K σ G' H' fp' os cs vs
  | _, _, _, .nil => .nil
  | _, _, _, .slot h r => .slot h (Pre.step s r)
  | _, _, _, .val rc n r => .val (rc.step s n) (fun a m => rc.out s n a m) (Pre.step s r)
theorem RepC.of_sh {K : Fg} {G H : Hp} {v : V} {d : D} {f : List Addr} (h : RepC K G H v (.sh d) f) : Rep K G v d ∧ f = [] := by
  cases h with
  | sh r => exact ⟨r, rfl⟩
/-- an operand that is an int -/
def evI : Opd → Env → Option (Int × Env)
  | .slot i, env => match env[i]? with
    | some (some (.sh (.int n))) => some (n, env)
    | _ => none
  | .val m, env => match m env with
    | some (.sh (.int n), e) => some (n, e)
    | _ => none
theorem evI_run {K : Fg} {o : Opd} {σ : St} {env env' : Env} {G H : Hp} {fp : Fp} {n : Int} {R : V → Hp → Prop} (con : Con K σ env G H fp) (e : evI o env = some (n, env'))
    (k : ∀ G' H' fp', Con K σ env' G' H' fp' → Step G H (U fp) G' H' (U fp') → R (.int n) H') : tOpd K o σ H R := by
  cases o with
  | slot i =>
    simp only [evI] at e
    split at e
    · rename_i m e0
      cases e
      obtain ⟨v, hv, r⟩ := con.rep i _ e0
      have r := r.of_sh.1
      cases r
      exact ⟨_, hv, k G H fp con (Step.refl ..)⟩
    · cases e
  | val m =>
    simp only [evI] at e
    split at e
    · rename_i i e1 q
      cases e
      refine ⟨env, G, fp, con, _, env', q, fun v G' H' fp' fr c' r n s => ?_⟩
      cases r with
      | sh r => cases r; exact k G' H' fp' c' (s.weak (fun _ u => u) fun a u => .inl (.inl u))
    · cases e
inductive Part where
  | no | at_ (o : Opd)
def evP : Part → Env → Option (Option Int × Env)
  | .no, env => some (none, env)
  | .at_ o, env => (evI o env).bind fun (i, e) => some (some i, e)
def tPart' (K : Fg) : Part → TO
  | .no => tNoPart
  | .at_ o => tPart (tOpd K o)
theorem evP_run {K : Fg} {o : Part} {σ : St} {env env' : Env} {G H : Hp} {fp : Fp} {n : Option Int} {R : Option Int → Hp → Prop} (con : Con K σ env G H fp) (e : evP o env = some (n, env'))
    (k : ∀ G' H' fp', Con K σ env' G' H' fp' → Step G H (U fp) G' H' (U fp') → R n H') : tPart' K o σ H R := by
  cases o with
  | no => cases e; exact k G H fp con (Step.refl ..)
  | at_ o =>
    unfold evP at e
    cases q : evI o env with
    | none => simp [q] at e
    | some y =>
      obtain ⟨i, e1⟩ := y
      simp [q] at e
      obtain ⟨rfl, rfl⟩ := e
      exact evI_run con q fun G' H' fp' c' s' => ⟨i, rfl, k G' H' fp' c' s'⟩
def eSl (o : Opd) (lo hi : Part) : EM := fun env => (preO [o] env).bind fun (cs, e1) => (evP lo e1).bind fun (i, e2) => (evP hi e2).bind fun (j, e3) => (finO e3 [o] cs).bind fun ds => match ds with
  | [d] => (fSl d i j).bind fun c => some (c, e3)
  | _ => none
def POk (X : Cx) (e : Option Expr) (p : Part) : Prop := PO X e (tPart' X.K p)
theorem part_no {X : Cx} : POk X none .no := po_none
theorem part_at {X : Cx} {e : Expr} {o : Opd} (h : OOk X e o) : POk X (some e) (.at_ o) := po_some h
theorem ok_sl {X : Cx} {e : Expr} {o : Opd} {lo hi : Option Expr} {pl ph : Part} {p2 pos : Pos} (h : OOk X e o) (hl : POk X lo pl) (hh : POk X hi ph) : EOk X (.Subscript e (.Slice lo hi none p2) pos) (eSl o pl ph) :=
  pe_mono (pe_slice sl_all h hl hh) fun σ H Q ⟨env, G, fp, con, c, env', e1, k⟩ => by
    unfold eSl at e1
    cases q1 : preO [o] env with
    | none => simp [q1] at e1
    | some y1 =>
      obtain ⟨cs, v1⟩ := y1
      simp only [q1, Option.bind_some] at e1
      cases q2 : evP pl v1 with
      | none => simp [q2] at e1
      | some y2 =>
        obtain ⟨i, v2⟩ := y2
        simp only [q2, Option.bind_some] at e1
        cases q3 : evP ph v2 with
        | none => simp [q3] at e1
        | some y3 =>
          obtain ⟨j, v3⟩ := y3
          simp only [q3, Option.bind_some] at e1
          cases q4 : finO v3 [o] cs with
          | none => simp [q4] at e1
          | some ds =>
            simp only [q4, Option.bind_some] at e1
            split at e1
            · rename_i d
              cases q5 : fSl d i j with
              | none => simp [q5] at e1
              | some c0 =>
                simp [q5] at e1
                obtain ⟨rfl, rfl⟩ := e1
                have z := pre_run (K := X.K) (Q := fun vs H1 => ∃ x, vs = [x] ∧ tPart' X.K pl σ H1 fun l H2 => tPart' X.K ph σ H2 fun u H3 => rSlAll X.K x l u H3 Q) [o] con q1 fun vs G1 H1 fp1 c1 p1 s1 => by
                  have : ∃ x, vs = [x] := by
                    cases p1 with
                    | slot h r => cases r; exact ⟨_, rfl⟩
                    | val a b r => cases r; exact ⟨_, rfl⟩
                  obtain ⟨x, rfl⟩ := this
                  refine ⟨x, rfl, evP_run c1 q2 fun G2 H2 fp2 c2 s2 => evP_run c2 q3 fun G3 H3 fp3 c3 s3 => ?_⟩
                  have rv := ((p1.step s2).step s3).fin c3 q4
                  cases rv with
                  | cons r1 rv =>
                    cases rv
                    refine s_sl c3.sub r1 q5 fun v G4 H4 fr sub rc s4 => ?_
                    exact k.end_ (W := fun _ => False) c3 (((s1.trans s2).trans s3).weak (fun _ u => u) fun a u => u.elim .inl fun z => z.elim) (fun a z => z.elim) s4 sub rc
                have z1 := tOs1 z
                refine vk_mono_opd o (fun x H1 h1 => ?_) z1
                obtain ⟨x', ex, h1⟩ := h1
                cases ex
                exact h1
            · cases e1

/-! ## == -/
mutual
def D.py : D → PyData
  | .non => .none | .bl b => .bool b | .int i => .int i | .str x => .str x
  | .tup ds => .tuple (D.pys ds) | .lst ds => .list (D.pys ds)
  | .dk _ => .dict [] | .dt _ => .dict [] | .scr ns => .dict []
def D.pys : List D → List PyData
  | [] => [] | d :: ds => D.py d :: D.pys ds
end
mutual
/-- may be compared by == -/
def D.okq : D → Bool
  | .non | .bl _ | .int _ => true
  | .str x => PyData.strOk x
  | .tup ds | .lst ds => D.okqs ds
  | .dk _ | .dt _ | .scr _ => false
def D.okqs : List D → Bool
  | [] => true | d :: ds => D.okq d && D.okqs ds
end
mutual
def D.dep : D → Nat
  | .tup ds | .lst ds => D.deps ds + 1
  | _ => 0
def D.deps : List D → Nat
  | [] => 0 | d :: ds => max (D.dep d) (D.deps ds)
end
mutual
def D.eqv : D → D → Bool
  | .non, .non => true
  | .bl a, .bl b => a == b
  | .bl a, .int j => (if a then 1 else 0) == j
  | .int i, .bl b => i == (if b then 1 else 0)
  | .int i, .int j => i == j
  | .str x, .str y => x == y
  | .lst xs, .lst ys => D.eqvs xs ys
  | .tup xs, .tup ys => D.eqvs xs ys
  | _, _ => false
def D.eqvs : List D → List D → Bool
  | [], [] => true
  | x :: xs, y :: ys => D.eqv x y && D.eqvs xs ys
  | _, _ => false
end
mutual
theorem D.lay : ∀ d : D, d.okq = true → d.py.canLay0 = true
  | .non, _ => rfl
  | .bl _, _ => rfl
  | .int _, _ => rfl
  | .str x, h => by simpa [D.py, PyData.canLay0, D.okq] using h
  | .tup ds, h => by simp only [D.py, PyData.canLay0]; exact D.lays ds (by simpa [D.okq] using h)
  | .lst ds, h => by simp only [D.py, PyData.canLay0]; exact D.lays ds (by simpa [D.okq] using h)
  | .dk _, h => by simp [D.okq] at h
  | .dt _, h => by simp [D.okq] at h
  | .scr _, h => by simp [D.okq] at h
theorem D.lays : ∀ ds : List D, D.okqs ds = true → PyData.canLayAll0 (D.pys ds) = true
  | [], _ => by simp [D.pys, PyData.canLayAll0]
  | d :: ds, h => by
    simp only [D.okqs, Bool.and_eq_true] at h
    simp only [D.pys, PyData.canLayAll0, D.lay d h.1, D.lays ds h.2, Bool.and_self]
end
mutual
theorem D.py_dep : ∀ d : D, d.py.depth ≤ d.dep + 1
  | .non | .bl _ | .int _ | .str _ => by simp [D.py, PyData.depth, D.dep]
  | .tup ds => by have := D.pys_dep ds; simp only [D.py, PyData.depth, D.dep]; omega
  | .lst ds => by have := D.pys_dep ds; simp only [D.py, PyData.depth, D.dep]; omega
  | .dk _ | .dt _ | .scr _ => by simp [D.py, PyData.depth, PyData.depthKv, D.dep]
theorem D.pys_dep : ∀ ds : List D, PyData.depthAll (D.pys ds) ≤ D.deps ds + 1
  | [] => by simp [D.pys, PyData.depthAll, D.deps]
  | d :: ds => by have := D.py_dep d; have := D.pys_dep ds; simp only [D.pys, PyData.depthAll, D.deps]; omega
end
mutual
theorem Rep.dp {K : Fg} {H : Hp} : ∀ {d : D} {v : V}, Rep K H v d → d.okq = true → Dp K H v d.py
  | _, _, .non, _ => .non
  | _, _, .bl b, _ => .bl b
  | _, _, .int i, _ => .int i
  | _, _, .str x, _ => .str x
  | _, _, .tup h r, e => .tup (SqT.of h) (Reps.dp r (by simpa [D.okq] using e))
  | _, _, .lst h r, e => .lst (SqL.of h) (Reps.dp r (by simpa [D.okq] using e))
  | _, _, .dk h r, e => by simp [D.okq] at e
  | _, _, .dt h r, e => by simp [D.okq] at e
  | _, _, .scr h, e => by simp [D.okq] at e
theorem Reps.dp {K : Fg} {H : Hp} : ∀ {ds : List D} {vs : List V}, Reps K H vs ds → D.okqs ds = true → DpAll K H vs (D.pys ds)
  | _, _, .nil, _ => .nil
  | _, _, .cons h r, e => by
    simp only [D.okqs, Bool.and_eq_true] at e
    exact .cons (Rep.dp h e.1) (Reps.dp r e.2)
end
mutual
theorem D.eqv_py : ∀ d e : D, d.okq = true → e.okq = true → PyData.eqv d.py e.py = D.eqv d e
  | .non, e, _, h => by cases e <;> simp_all [D.py, D.eqv, PyData.eqv, D.okq]
  | .bl _, e, _, h => by cases e <;> simp_all [D.py, D.eqv, PyData.eqv, D.okq]
  | .int _, e, _, h => by cases e <;> simp_all [D.py, D.eqv, PyData.eqv, D.okq]
  | .str _, e, _, h => by cases e <;> simp_all [D.py, D.eqv, PyData.eqv, D.okq]
  | .tup ds, e, g, h => by
    cases e with
    | tup es => simp only [D.py, D.eqv, PyData.eqv]; exact D.eqvs_py ds es (by simpa [D.okq] using g) (by simpa [D.okq] using h)
    | _ => simp [D.py, D.eqv, PyData.eqv]
  | .lst ds, e, g, h => by
    cases e with
    | lst es => simp only [D.py, D.eqv, PyData.eqv]; exact D.eqvs_py ds es (by simpa [D.okq] using g) (by simpa [D.okq] using h)
    | _ => simp [D.py, D.eqv, PyData.eqv]
  | .dk _, e, h, _ => by simp [D.okq] at h
  | .dt _, e, h, _ => by simp [D.okq] at h
  | .scr _, e, h, _ => by simp [D.okq] at h
theorem D.eqvs_py : ∀ ds es : List D, D.okqs ds = true → D.okqs es = true → PyData.eqvAll (D.pys ds) (D.pys es) = D.eqvs ds es
  | [], [], _, _ => by simp [D.pys, PyData.eqvAll, D.eqvs]
  | [], _ :: _, _, _ => by simp [D.pys, PyData.eqvAll, D.eqvs]
  | _ :: _, [], _, _ => by simp [D.pys, PyData.eqvAll, D.eqvs]
  | d :: ds, e :: es, g, h => by
    simp only [D.okqs, Bool.and_eq_true] at g h
    simp only [D.pys, PyData.eqvAll, D.eqvs, D.eqv_py d e g.1 h.1, D.eqvs_py ds es g.2 h.2]
end
/-- both may be compared -/
def D.cmpable (d e : D) : Bool := d.okq && e.okq && decide (d.dep ≤ 63) && decide (e.dep ≤ 63)
def fEq : List D → Option C
  | [d, e] => if d.cmpable e then some (.sh (.bl (D.eqv d e))) else none
  | _ => none
def fNe : List D → Option C
  | [d, e] => if d.cmpable e then some (.sh (.bl (!D.eqv d e))) else none
  | _ => none
theorem D.shaped {d : D} (h : d.okq = true) (l : d.dep ≤ 63) : SeqAt.shaped d.py = true := by
  have := D.py_dep d
  unfold SeqAt.shaped
  rw [D.lay d h, Bool.true_and, decide_eq_true_eq]
  omega
section
variable {K : Fg}
theorem s_eq : OpS K (op2r (rEqD K)) fEq := fun G H vs ds c Q s rv e k => by
  unfold fEq at e
  split at e
  · rename_i d f
    split at e
    · rename_i h
      cases e
      simp only [D.cmpable, Bool.and_eq_true, decide_eq_true_eq] at h
      obtain ⟨⟨⟨h1, h2⟩, h3⟩, h4⟩ := h
      cases rv with
      | cons r1 rv =>
        cases rv with
        | cons r2 rv =>
          cases rv
          exact ⟨_, _, rfl, d.py, f.py, (r1.all s).dp h1, (r2.all s).dp h2, D.shaped h1 h3, D.shaped h2 h4, by rw [D.eqv_py d f h1 h2]; exact k.sh s (.bl _)⟩
    · cases e
  · cases e
theorem s_ne : OpS K (op2r (rNeD K)) fNe := fun G H vs ds c Q s rv e k => by
  unfold fNe at e
  split at e
  · rename_i d f
    split at e
    · rename_i h
      cases e
      simp only [D.cmpable, Bool.and_eq_true, decide_eq_true_eq] at h
      obtain ⟨⟨⟨h1, h2⟩, h3⟩, h4⟩ := h
      cases rv with
      | cons r1 rv =>
        cases rv with
        | cons r2 rv =>
          cases rv
          exact ⟨_, _, rfl, d.py, f.py, (r1.all s).dp h1, (r2.all s).dp h2, D.shaped h1 h3, D.shaped h2 h4, by rw [D.eqv_py d f h1 h2]; exact k.sh s (.bl _)⟩
    · cases e
  · cases e
/-! ## is None -/
def D.isN : D → Bool
  | .non => true | _ => false
def fIsN : List D → Option C
  | [d, .non] => some (.sh (.bl d.isN))
  | _ => none
def fNotN : List D → Option C
  | [d, .non] => some (.sh (.bl (!d.isN)))
  | _ => none
theorem isN_of {G H : Hp} {x : V} {d : D} (r : RepV K G H x d) : decide (x = .non) = d.isN := by
  cases r with
  | sh r => cases r <;> simp [D.isN]
  | _ => simp [D.isN]
theorem s_isN : OpS K (op2r (fun x y H Q => y = .non ∧ Q (.bl (decide (x = .non))) H)) fIsN := fun G H vs ds c Q s rv e k => by
  unfold fIsN at e
  split at e
  · rename_i d
    cases e
    cases rv with
    | cons r1 rv =>
      cases rv with
      | cons r2 rv =>
        cases rv; cases r2.non
        exact ⟨_, _, rfl, rfl, by rw [isN_of r1]; exact k.sh s (.bl _)⟩
  · cases e
theorem s_notN : OpS K (op2r (fun x y H Q => y = .non ∧ Q (.bl (!decide (x = .non))) H)) fNotN := fun G H vs ds c Q s rv e k => by
  unfold fNotN at e
  split at e
  · rename_i d
    cases e
    cases rv with
    | cons r1 rv =>
      cases rv with
      | cons r2 rv =>
        cases rv; cases r2.non
        exact ⟨_, _, rfl, rfl, by rw [isN_of r1]; exact k.sh s (.bl _)⟩
  · cases e
end
end Fx
set_option Elab.async false
set_option linter.all false
set_option maxRecDepth 100000
set_option maxHeartbeats 4000000
noncomputable section
namespace Fx
open PySem L2

/-! ## tests -/
def kVal (m : EM) : TM := fun env => match m env with
  | some (.sh (.bl b), e) => some (b, e)
  | _ => none
section
variable {X : Cx} {a b c e : Expr} {pos : Pos}
theorem weakT {fp fp' : Fp} {G H G' H' : Hp} {fr : List Addr} (s : Step G H (U fp) G' H' (fun a => U fp' a ∨ a ∈ fr)) : Step G H (U fp) G' H' (U fp') := s.weak (fun _ u => u) fun a u => .inl (.inl u)
theorem kVal_val {m : EM} (h : EOk X e m) (he : ∀ whole, isTrue e X.env whole = (do let v ← whole; standAt e.pos; holding [v] (truthy v)) := by intro _; rfl) : TOk X e (kVal m) := pt_mono (pt_val h he) fun σ H Q ⟨env, G, fp, con, b, env', e1, k⟩ => by
  unfold kVal at e1
  split at e1
  · rename_i b0 e0 q
    cases e1
    exact ⟨env, G, fp, con, _, _, q, fun v G' H' fp' fr c' r n s => by
      have r := r.of_sh.1
      cases r
      exact ⟨_, rfl, k G' H' fp' c' (weakT s)⟩⟩
  · cases e1
theorem kVal_cmp {oa ob : Opd} {op : CmpOp} {r : R2} {f : List D → Option C} (hr : OpR X (compareOp op) r) (hf : OpS X.K (op2r r) f) (ha : OOk X a oa) (hb : OOk X b ob) (hm : behindInMarks op b = false := by first | exact nomark _ | rfl) : TOk X (.Compare a [op] [b] pos) (kVal (eO f [oa, ob])) :=
  pt_mono (pt_cmpR hr ha hb hm) fun σ H Q ⟨env, G, fp, con, b, env', e1, k⟩ => by
    unfold kVal at e1
    split at e1
    · rename_i b0 e0 q
      cases e1
      have q1 : tE X.K (eO f [oa, ob]) σ H (fun x H' => ∃ k, x = .bl k ∧ Q k H') := ⟨env, G, fp, con, _, _, q, fun v G' H' fp' fr c' r n s => by
        have r := r.of_sh.1
        cases r
        exact ⟨_, rfl, k G' H' fp' c' (weakT s)⟩⟩
      refine vk_mono_opd oa (fun x H1 h1 => vk_mono_opd ob (fun y H2 h2 => ?_) h1) (tOs2 (tO_tOs (eO_run hf q1)))
      obtain ⟨x', y', e, h⟩ := h2
      cases e
      exact h
    · cases e1
def fTru : D → Option Bool
  | .non => some false | .bl b => some b | .int i => some (i != 0)
  | .str x => if x.length ≤ lim then some ((x.length : Int) != 0) else none
  | .tup ds => some (!ds.isEmpty) | .lst ds => some (!ds.isEmpty) | .dk kvs => some (!kvs.isEmpty)
  | _ => none
def kTru (o : Opd) : TM := fun env => (evO [o] env).bind fun (ds, e) => match ds with
  | [d] => (fTru d).bind fun b => some (b, e)
  | _ => none
theorem reps_emp {K : Fg} {G : Hp} {xs : List V} {ds : List D} (r : Reps K G xs ds) : xs.isEmpty = ds.isEmpty := by cases r <;> rfl
theorem repK_emp {K : Fg} {G : Hp} {xs : List (Key × V)} {ds : List (Key × D)} (r : RepK K G xs ds) : xs.isEmpty = ds.isEmpty := by cases r <;> rfl
theorem tru_of {K : Fg} {G H : Hp} {x : V} {d : D} {b : Bool} (s : Same G H) (r : RepV K G H x d) (e : fTru d = some b) : TruV K x H b := by
  unfold fTru at e
  split at e
  · cases e; cases r.non; rfl
  · cases e; cases r.bl; rfl
  · cases e; cases r.int; rfl
  · split at e
    · rename_i hz; cases e; cases r.str; exact ⟨by rw [← lim_eq]; exact hz, rfl⟩
    · cases e
  · cases e; obtain ⟨a, xs, rfl, h1, q1⟩ := r.tup; exact .inr (.inl ⟨xs, SqT.of (s _ _ h1), by rw [reps_emp q1]⟩)
  · cases e; obtain ⟨a, xs, rfl, h1, q1⟩ := r.lst s; exact .inl ⟨xs, SqL.of h1, by rw [reps_emp q1]⟩
  · cases e; obtain ⟨a, xs, rfl, h1, q1⟩ := r.dk_ s; exact .inr (.inr ⟨xs, h1, by rw [repK_emp q1]⟩)
  · cases e
theorem kTru_ok {o : Opd} (h : OOk X e o) (he : ∀ whole, isTrue e X.env whole = (do let v ← whole; standAt e.pos; holding [v] (truthy v)) := by intro _; rfl) : TOk X e (kTru o) := pt_mono (pt_truth h he) fun σ H Q ⟨env, G, fp, con, b, env', e1, k⟩ => by
  unfold kTru at e1
  cases q : evO [o] env with
  | none => simp [q] at e1
  | some y =>
    obtain ⟨ds, e2⟩ := y
    simp only [q, Option.bind_some] at e1
    split at e1
    · rename_i d
      cases q2 : fTru d with
      | none => simp [q2] at e1
      | some b0 =>
        simp [q2] at e1
        obtain ⟨rfl, rfl⟩ := e1
        have z : tO X.K [o] σ H (fun vs H1 => ∃ x, vs = [x] ∧ ∃ k, TruV X.K x H1 k ∧ Q k H1) := ⟨env, G, fp, con, _, _, q, fun vs G' H' fp' c' rv s => by
          cases rv with | cons r1 rv => cases rv; exact ⟨_, rfl, b0, tru_of c'.sub r1 q2, k G' H' fp' c' s⟩⟩
        refine vk_mono_opd o (fun x H1 h1 => ?_) (tOs1 (tO_tOs z))
        obtain ⟨x', ex, h1⟩ := h1
        cases ex
        exact h1
    · cases e1
def kAnd (a b : TM) : TM := fun env => (a env).bind fun (x, e) => if x then b e else some (false, e)
def kOr (a b : TM) : TM := fun env => (a env).bind fun (x, e) => if x then some (true, e) else b e
def kNot (a : TM) : TM := fun env => (a env).bind fun (x, e) => some (!x, e)
def WOk (X : Cx) (e : Expr) (m : TM) : Prop := PW X e (tT X.K m)
theorem pw_mono {e : Expr} {t t' : TT} (h : PW X e t) (k : ∀ σ H Q, t' σ H Q → t σ H Q) : PW X e t' := ⟨fun wh pins s σ H Q I q => h.run wh pins s σ H Q I (k σ H Q q)⟩
theorem kAnd_run {K : Fg} {ma mb : TM} {σ : St} {H : Hp} {Q : Bool → Hp → Prop} (q : tT K (kAnd ma mb) σ H Q) : tAnd (tT K ma) (tT K mb) σ H Q := by
  obtain ⟨env, G, fp, con, b, env', e1, k⟩ := q
  unfold kAnd at e1
  cases q : ma env with
  | none => simp [q] at e1
  | some y =>
    obtain ⟨x, e2⟩ := y
    simp only [q, Option.bind_some] at e1
    refine ⟨env, G, fp, con, x, e2, q, fun G' H' fp' c' s => ?_⟩
    cases x with
    | true =>
      rw [if_pos rfl] at e1 ⊢
      exact ⟨e2, G', fp', c', b, env', e1, fun G2 H2 fp2 c2 s2 => k G2 H2 fp2 c2 (s.trans s2)⟩
    | false =>
      rw [if_neg Bool.false_ne_true] at e1 ⊢
      cases e1
      exact k G' H' fp' c' s
theorem kOr_run {K : Fg} {ma mb : TM} {σ : St} {H : Hp} {Q : Bool → Hp → Prop} (q : tT K (kOr ma mb) σ H Q) : tOr (tT K ma) (tT K mb) σ H Q := by
  obtain ⟨env, G, fp, con, b, env', e1, k⟩ := q
  unfold kOr at e1
  cases q : ma env with
  | none => simp [q] at e1
  | some y =>
    obtain ⟨x, e2⟩ := y
    simp only [q, Option.bind_some] at e1
    refine ⟨env, G, fp, con, x, e2, q, fun G' H' fp' c' s => ?_⟩
    cases x with
    | false =>
      rw [if_neg Bool.false_ne_true] at e1 ⊢
      exact ⟨e2, G', fp', c', b, env', e1, fun G2 H2 fp2 c2 s2 => k G2 H2 fp2 c2 (s.trans s2)⟩
    | true =>
      rw [if_pos rfl] at e1 ⊢
      cases e1
      exact k G' H' fp' c' s
theorem kNot_run {K : Fg} {ma : TM} {σ : St} {H : Hp} {Q : Bool → Hp → Prop} (q : tT K (kNot ma) σ H Q) : tNot (tT K ma) σ H Q := by
  obtain ⟨env, G, fp, con, b, env', e1, k⟩ := q
  unfold kNot at e1
  cases q : ma env with
  | none => simp [q] at e1
  | some y =>
    obtain ⟨x, e2⟩ := y
    simp only [q, Option.bind_some] at e1
    cases e1
    exact ⟨env, G, fp, con, x, env', q, fun G' H' fp' c' s => k G' H' fp' c' s⟩
theorem kw_and1 {ma : TM} (h : TOk X a ma) : WOk X (.BoolOp .And [a] pos) ma := pw_and1 h
theorem kw_or1 {ma : TM} (h : TOk X a ma) : WOk X (.BoolOp .Or [a] pos) ma := pw_or1 h
theorem kw_and {ma mb : TM} {rest : List Expr} (h : TOk X a ma) (r : WOk X (.BoolOp .And (b :: rest) pos) mb) : WOk X (.BoolOp .And (a :: b :: rest) pos) (kAnd ma mb) := pw_mono (pw_and h r) fun _ _ _ q => kAnd_run q
theorem kw_or {ma mb : TM} {rest : List Expr} (h : TOk X a ma) (r : WOk X (.BoolOp .Or (b :: rest) pos) mb) : WOk X (.BoolOp .Or (a :: b :: rest) pos) (kOr ma mb) := pw_mono (pw_or h r) fun _ _ _ q => kOr_run q
theorem k_w {m : TM} (h : WOk X e m) : TOk X e m := h.pt
theorem k_not {ma : TM} (h : TOk X a ma) : TOk X (.UnaryOp .Not a pos) (kNot ma) := pt_mono (pt_not h) fun _ _ _ q => kNot_run q

/-! ## and, or, not of truths as values; a if c else b -/
def eAnd (a b : EM) : EM := fun env => match a env with
  | some (.sh (.bl x), e) => if x then b e else some (.sh (.bl false), e)
  | _ => none
def eOr (a b : EM) : EM := fun env => match a env with
  | some (.sh (.bl x), e) => if x then some (.sh (.bl true), e) else b e
  | _ => none
def eNot (a : EM) : EM := fun env => match a env with
  | some (.sh (.bl x), e) => some (.sh (.bl (!x)), e)
  | _ => none
def eIf (t : TM) (a b : EM) : EM := fun env => (t env).bind fun (x, e) => if x then a e else b e
theorem EndE.step {K : Fg} {σ : St} {env' : Env} {c : C} {G H G1 H1 : Hp} {fp fp1 : Fp} {Q : VK} (k : EndE K σ env' c G H fp Q) (s : Step G H (U fp) G1 H1 (U fp1)) : EndE K σ env' c G1 H1 fp1 Q :=
  fun v G' H' fp' fr c' r n s' => k v G' H' fp' fr c' r n (s.trans s')
theorem EndE.sh {K : Fg} {σ : St} {env' : Env} {d : D} {v : V} {G H G1 H1 : Hp} {fp fp1 : Fp} {Q : VK} (k : EndE K σ env' (.sh d) G H fp Q) (c : Con K σ env' G1 H1 fp1) (s : Step G H (U fp) G1 H1 (U fp1)) (r : Rep K G1 v d) : Q v H1 :=
  k v G1 H1 fp1 [] c (.sh r) (fun a m => by cases m) (s.weak (fun _ u => u) fun a u => u.elim .inl fun z => by cases z)
theorem ok_one {m : EM} {op} (h : EOk X a m) : EOk X (.BoolOp op [a] pos) m := pe_one h
theorem ok_and {ma mb : EM} {rest : List Expr} (h : EOk X a ma) (r : EOk X (.BoolOp .And (b :: rest) pos) mb) : EOk X (.BoolOp .And (a :: b :: rest) pos) (eAnd ma mb) := pe_mono (pe_and h r) fun σ H Q ⟨env, G, fp, con, c, env', e1, k⟩ => by
  unfold eAnd at e1
  split at e1
  · rename_i x e2 q
    refine ⟨env, G, fp, con, _, _, q, fun v G' H' fp' fr c' r n s => ?_⟩
    have r := r.of_sh.1
    cases r
    refine ⟨x, rfl, ?_⟩
    cases x with
    | true =>
      rw [if_pos rfl] at e1 ⊢
      exact ⟨e2, G', fp', c', c, env', e1, k.step (weakT s)⟩
    | false =>
      rw [if_neg Bool.false_ne_true] at e1 ⊢
      cases e1
      exact k.sh c' (weakT s) (.bl _)
  · cases e1
theorem ok_or {ma mb : EM} {rest : List Expr} (h : EOk X a ma) (r : EOk X (.BoolOp .Or (b :: rest) pos) mb) : EOk X (.BoolOp .Or (a :: b :: rest) pos) (eOr ma mb) := pe_mono (pe_or h r) fun σ H Q ⟨env, G, fp, con, c, env', e1, k⟩ => by
  unfold eOr at e1
  split at e1
  · rename_i x e2 q
    refine ⟨env, G, fp, con, _, _, q, fun v G' H' fp' fr c' r n s => ?_⟩
    have r := r.of_sh.1
    cases r
    refine ⟨x, rfl, ?_⟩
    cases x with
    | false =>
      rw [if_neg Bool.false_ne_true] at e1 ⊢
      exact ⟨e2, G', fp', c', c, env', e1, k.step (weakT s)⟩
    | true =>
      rw [if_pos rfl] at e1 ⊢
      cases e1
      exact k.sh c' (weakT s) (.bl _)
  · cases e1
theorem ok_not {ma : EM} (h : EOk X a ma) : EOk X (.UnaryOp .Not a pos) (eNot ma) := pe_mono (pe_not h) fun σ H Q ⟨env, G, fp, con, c, env', e1, k⟩ => by
  unfold eNot at e1
  split at e1
  · rename_i x e2 q
    cases e1
    refine ⟨env, G, fp, con, _, _, q, fun v G' H' fp' fr c' r n s => ?_⟩
    have r := r.of_sh.1
    cases r
    exact ⟨x, rfl, k.sh c' (weakT s) (.bl _)⟩
  · cases e1
theorem ok_if {t : TM} {ma mb : EM} (ht : TOk X c t) (ha : EOk X a ma) (hb : EOk X b mb) : EOk X (.IfExp c a b pos) (eIf t ma mb) := pe_mono (pe_ifExp ht ha hb) fun σ H Q ⟨env, G, fp, con, c, env', e1, k⟩ => by
  unfold eIf at e1
  cases q : t env with
  | none => simp [q] at e1
  | some y =>
    obtain ⟨x, e2⟩ := y
    simp only [q, Option.bind_some] at e1
    refine ⟨env, G, fp, con, x, e2, q, fun G' H' fp' c' s => ?_⟩
    cases x with
    | true =>
      rw [if_pos rfl] at e1 ⊢
      exact ⟨e2, G', fp', c', c, env', e1, k.step s⟩
    | false =>
      rw [if_neg Bool.false_ne_true] at e1 ⊢
      exact ⟨e2, G', fp', c', c, env', e1, k.step s⟩
end

/-! ## statements -/
def sNx : SM := fun env => some (.nx env)
def sSeq (a b : SM) : SM := fun env => (a env).bind fun o => match o with
  | .nx e => b e
  | o => some o
def sIf (t : TM) (a b : SM) : SM := fun env => (t env).bind fun (x, e) => if x then a e else b e
def sSet (i : Nat) (m : EM) : SM := fun env => (m env).bind fun (c, e) => if i < e.length then some (.nx (e.set i (some c))) else none
def sRet (m : EM) : SM := fun env => (m env).bind fun (c, e) => some (.rt c e)
def sRetN : SM := fun env => some (.rt (.sh .non) env)
def sBk : SM := fun env => some (.bk env)
def sCt : SM := fun env => some (.ct env)
def sDrop (m : EM) : SM := fun env => (m env).bind fun (_, e) => some (.nx e)
def sNo : SM := fun _ => none
section
variable {X : Cx} {p : Nat} {st : Stmt} {rest : List Stmt}
theorem EndS.step {K : Fg} {σ σ1 : St} {G H G1 H1 : Hp} {fp fp1 : Fp} {D : Ends} {o : Out} (k : EndS K p σ G H fp D o) (s : Step G H (U fp) G1 H1 (U fp1)) (hp : σ1.take p = σ.take p) : EndS K p σ1 G1 H1 fp1 D o := by
  cases o with
  | nx e => exact fun σ' G' H' fp' c' s' z => k σ' G' H' fp' c' (s.trans s') (z.trans hp)
  | bk e => exact fun σ' G' H' fp' c' s' z => k σ' G' H' fp' c' (s.trans s') (z.trans hp)
  | ct e => exact fun σ' G' H' fp' c' s' z => k σ' G' H' fp' c' (s.trans s') (z.trans hp)
  | rt c e => exact fun v σ' G' H' fp' fr c' r n s' z => k v σ' G' H' fp' fr c' r n (s.trans s') (z.trans hp)
theorem ss_nil : SsOk X p [] sNx := pss_mono pss_nil fun D σ H ⟨env, G, fp, con, o, e1, k⟩ => by
  cases e1
  exact k σ G H fp con (Step.refl ..) rfl
theorem ss_cons {ma mb : SM} (h : SOk X p st ma) (r : SsOk X p rest mb) : SsOk X p (st :: rest) (sSeq ma mb) := pss_mono (pss_cons h r) fun D σ H ⟨env, G, fp, con, o, e1, k⟩ => by
  unfold sSeq at e1
  cases q : ma env with
  | none => simp [q] at e1
  | some o1 =>
    simp only [q, Option.bind_some] at e1
    refine ⟨env, G, fp, con, o1, q, ?_⟩
    cases o1 with
    | nx e => exact fun σ' G' H' fp' c' s' z => ⟨e, G', fp', c', o, e1, k.step s' z⟩
    | bk e => cases e1; exact k
    | ct e => cases e1; exact k
    | rt c e => cases e1; exact k
theorem ss_one {ma : SM} (h : SOk X p st ma) : SsOk X p [st] ma := pss_one h
theorem s_if {c : Expr} {a b : List Stmt} {pos : Pos} {t : TM} {ma mb : SM} (ht : TOk X c t) (ha : SsOk X p a ma) (hb : SsOk X p b mb) : SOk X p (.If c a b pos) (sIf t ma mb) := ps_mono (ps_if ht ha hb) fun D σ H ⟨env, G, fp, con, o, e1, k⟩ => by
  unfold sIf at e1
  cases q : t env with
  | none => simp [q] at e1
  | some y =>
    obtain ⟨x, e2⟩ := y
    simp only [q, Option.bind_some] at e1
    refine ⟨env, G, fp, con, x, e2, q, fun G' H' fp' c' s => ?_⟩
    cases x with
    | true =>
      rw [if_pos rfl] at e1 ⊢
      exact ⟨e2, G', fp', c', o, e1, k.step s rfl⟩
    | false =>
      rw [if_neg Bool.false_ne_true] at e1 ⊢
      exact ⟨e2, G', fp', c', o, e1, k.step s rfl⟩
theorem take_set {σ : St} {i p : Nat} {v : Option V} (h : p ≤ i) : (σ.set i v).take p = σ.take p := by
  rw [List.take_set_of_le h]
/-- a value goes into a slot -/
theorem set_run {K : Fg} {σ : St} {env' : Env} {c : C} {i : Nat} {G H : Hp} {fp : Fp} {D : Ends} (hp : p ≤ i) (hi : i < env'.length) (k : EndS K p σ G H fp D (.nx (env'.set i (some c)))) : EndE K σ env' c G H fp (fun v H' => D.nx (σ.set i (some v)) H') :=
  fun v G' H' fp' fr c' r n s => k _ G' H' _ (c'.put hi r fun a m j hj z => n a m ⟨j, z⟩) (s.weak (fun _ u => u) fun a u => (U_set u).elim (fun z => .inl (.inl z)) fun z => .inl (.inr z)) (take_set hp)
theorem sSet_run {K : Fg} {m : EM} {i : Nat} {σ : St} {H : Hp} {D : Ends} (hp : p ≤ i) (q : tS K p (sSet i m) D σ H) : tE K m σ H (fun v H' => D.nx (σ.set i (some v)) H') := by
  obtain ⟨env, G, fp, con, o, e1, k⟩ := q
  unfold sSet at e1
  cases q : m env with
  | none => simp [q] at e1
  | some y =>
    obtain ⟨c, e2⟩ := y
    simp only [q, Option.bind_some] at e1
    split at e1
    · rename_i hi
      cases e1
      exact ⟨env, G, fp, con, c, e2, q, set_run hp hi k⟩
    · cases e1
theorem s_set {i : Nat} {x : Str} {e : Expr} {pos pos' : Pos} {m : EM} (hp : p ≤ i) (he : EOk X e m) (hN : X.N.Nodup) (hi : X.N[i]? = some x) (hx : Loc X.env.scope x) (hs : swapsWith e (some (.Name x pos')) pos.line X.env = pure false := by rfl) (hf : X.fn x = true ∨ X.env.scope.names.lookup x = some .local := by first | exact .inl rfl | exact .inr rfl | assumption) :
    SOk X p (.Assign [.Name x pos'] e pos) (sSet i m) := ps_mono (ps_set hN hi hx he hs hf) fun D σ H q => sSet_run hp q
theorem s_ret {e : Expr} {pos : Pos} {m : EM} (h : EOk X e m) : SOk X p (.Return (some e) pos) (sRet m) := ps_mono (ps_ret h) fun D σ H ⟨env, G, fp, con, o, e1, k⟩ => by
  unfold sRet at e1
  cases q : m env with
  | none => simp [q] at e1
  | some y =>
    obtain ⟨c, e2⟩ := y
    simp [q] at e1
    subst e1
    exact ⟨env, G, fp, con, c, e2, q, fun v G' H' fp' fr c' r n s => k v σ G' H' fp' fr c' r n s rfl⟩
theorem s_retN {pos : Pos} : SOk X p (.Return none pos) sRetN := ps_mono ps_retN fun D σ H ⟨env, G, fp, con, o, e1, k⟩ => by
  cases e1
  exact k .non σ G H fp [] con (.sh .non) (fun a m => by cases m) ((Step.refl G H (U fp)).weak (fun _ u => u) fun a u => u.elim .inl fun z => by cases z) rfl
theorem s_bk {pos : Pos} : SOk X p (.Break pos) sBk := ps_mono ps_break fun D σ H ⟨env, G, fp, con, o, e1, k⟩ => by
  cases e1
  exact k σ G H fp con (Step.refl ..) rfl
theorem s_ct {pos : Pos} : SOk X p (.Continue pos) sCt := ps_mono ps_continue fun D σ H ⟨env, G, fp, con, o, e1, k⟩ => by
  cases e1
  exact k σ G H fp con (Step.refl ..) rfl
theorem s_pass {pos : Pos} : SOk X p (.Pass pos) sNx := ps_mono ps_pass fun D σ H ⟨env, G, fp, con, o, e1, k⟩ => by
  cases e1
  exact k σ G H fp con (Step.refl ..) rfl
theorem s_no {st : Stmt} : SOk X p st sNo := ps_mono ps_never fun D σ H ⟨env, G, fp, con, o, e1, k⟩ => by cases e1
theorem s_drop {e : Expr} {pos : Pos} {m : EM} (h : EOk X e m) (hs : swapsWith e none pos.line X.env = pure false := by rfl) : SOk X p (.Expr e pos) (sDrop m) := ps_mono (ps_expr h hs) fun D σ H ⟨env, G, fp, con, o, e1, k⟩ => by
  unfold sDrop at e1
  cases q : m env with
  | none => simp [q] at e1
  | some y =>
    obtain ⟨c, e2⟩ := y
    simp [q] at e1
    subst e1
    exact ⟨env, G, fp, con, c, e2, q, fun v G' H' fp' fr c' r n s => k σ G' H' fp' c' (weakT s) rfl⟩
end

/-! ## while -/
def whileN : Nat → TM → SM → Env → Option Out
  | 0, _, _, _ => none
  | n + 1, t, b, env => (t env).bind fun (x, e) => if x then (b e).bind fun o => match o with
      | .nx e => whileN n t b e
      | .ct e => whileN n t b e
      | .bk e => some (.nx e)
      | .rt c e => some (.rt c e)
    else some (.nx e)
theorem whileN_mono {t : TM} {b : SM} : ∀ {n m : Nat} {env : Env} {o : Out}, n ≤ m → whileN n t b env = some o → whileN m t b env = some o
  | 0, _, _, _, _, h => by cases h
  | n + 1, 0, _, _, hl, _ => by omega
  | n + 1, m + 1, env, o, hl, h => by
    unfold whileN at h ⊢
    cases q : t env with
    | none => simp [q] at h
    | some y =>
      obtain ⟨x, e⟩ := y
      simp only [q, Option.bind_some] at h ⊢
      cases x with
      | false => exact h
      | true =>
        rw [if_pos rfl] at h ⊢
        cases q2 : b e with
        | none => simp [q2] at h
        | some o2 =>
          simp only [q2, Option.bind_some] at h ⊢
          cases o2 with
          | nx e => exact whileN_mono (by omega) h
          | ct e => exact whileN_mono (by omega) h
          | bk e => exact h
          | rt c e => exact h
open Classical in
noncomputable def sWhile (t : TM) (b : SM) : SM := fun env => if h : ∃ o, ∃ n, whileN n t b env = some o then some h.choose else none
theorem sWhile_of {t : TM} {b : SM} {env : Env} {o : Out} {n : Nat} (h : whileN n t b env = some o) : sWhile t b env = some o := by
  unfold sWhile
  have hx : ∃ o, ∃ n, whileN n t b env = some o := ⟨o, n, h⟩
  rw [dif_pos hx]
  obtain ⟨m, hm⟩ := hx.choose_spec
  have a := whileN_mono (Nat.le_max_left n m) h
  have c := whileN_mono (Nat.le_max_right n m) hm
  rw [a] at c
  exact c.symm
theorem sWhile_inv {t : TM} {b : SM} {env : Env} {o : Out} (h : sWhile t b env = some o) : ∃ n, whileN n t b env = some o := by
  unfold sWhile at h
  split at h
  · rename_i hx
    cases h
    exact hx.choose_spec
  · cases h
theorem s_while {X : Cx} {p : Nat} {c : Expr} {body : List Stmt} {pos : Pos} {t : TM} {b : SM} (hp : PassesOwn (model X.prog X.w) X.A X.env X.xe) (hc : TOk X c t) (hb : SsOk X p body b) : SOk X p (.While c body [] pos) (sWhile t b) := ps_mono (ps_while hp hc hb) fun D σ H ⟨env, G, fp, con, o, e1, k⟩ => by
  obtain ⟨n, hn⟩ := sWhile_inv e1
  refine ⟨fun m σ1 H1 => ∃ env1 G1 fp1, Con X.K σ1 env1 G1 H1 fp1 ∧ whileN m t b env1 = some o ∧ EndS X.K p σ1 G1 H1 fp1 D o, ⟨n, env, G, fp, con, hn, k⟩, ?_⟩
  rintro m σ1 H1 ⟨env1, G1, fp1, con1, h1, k1⟩
  cases m with
  | zero => cases h1
  | succ m =>
    unfold whileN at h1
    cases q : t env1 with
    | none => simp [q] at h1
    | some y =>
      obtain ⟨x, e⟩ := y
      simp only [q, Option.bind_some] at h1
      refine ⟨env1, G1, fp1, con1, x, e, q, fun G' H' fp' c' s => ?_⟩
      cases x with
      | false =>
        rw [if_neg Bool.false_ne_true] at h1 ⊢
        cases h1
        exact k1 σ1 G' H' fp' c' s rfl
      | true =>
        rw [if_pos rfl] at h1 ⊢
        cases q2 : b e with
        | none => simp [q2] at h1
        | some o2 =>
          simp only [q2, Option.bind_some] at h1
          refine ⟨fun σ2 H2 => ∃ env1 G1 fp1, Con X.K σ2 env1 G1 H2 fp1 ∧ whileN m t b env1 = some o ∧ EndS X.K p σ2 G1 H2 fp1 D o, fun σ' H' w => ⟨m, Nat.lt_succ_self m, w⟩, e, G', fp', c', o2, q2, ?_⟩
          cases o2 with
          | nx e2 => exact fun σ2 G2 H2 fp2 c2 s2 z => ⟨e2, G2, fp2, c2, h1, k1.step (s.trans s2) z⟩
          | ct e2 => exact fun σ2 G2 H2 fp2 c2 s2 z => ⟨e2, G2, fp2, c2, h1, k1.step (s.trans s2) z⟩
          | bk e2 => cases h1; exact fun σ2 G2 H2 fp2 c2 s2 z => k1 σ2 G2 H2 fp2 c2 (s.trans s2) z
          | rt c e2 => cases h1; exact fun v σ2 G2 H2 fp2 fr c2 r n s2 z => k1 v σ2 G2 H2 fp2 fr c2 r n (s.trans s2) z
end Fx
set_option Elab.async false
set_option linter.all false
set_option maxRecDepth 100000
set_option maxHeartbeats 4000000
noncomputable section
namespace Fx
open PySem L2

/-! ## what is walked -/
abbrev IM := Env → Option (List D × Env)
structure Wlk (K : Fg) (J : It) (ds : List D) (G : Hp) : Prop where
  go : ∀ i G1 H1, i < ds.length → Same G G1 → Same G1 H1 → J.go i H1 ∧ ∀ x H2, J.yld i H1 x H2 → ∃ G2 d, ds[i]? = some d ∧ Rep K G2 x d ∧ Same G2 H2 ∧ Step G1 H1 (fun _ => False) G2 H2 (fun _ => False)
  stop : ∀ G1 H1, Same G G1 → Same G1 H1 → J.stop ds.length H1
theorem Wlk.mono {K : Fg} {J : It} {ds : List D} {G G' : Hp} (w : Wlk K J ds G) (s : Same G G') : Wlk K J ds G' := ⟨fun i G1 H1 hi a b => w.go i G1 H1 hi (s.trans a) b, fun G1 H1 a b => w.stop G1 H1 (s.trans a) b⟩
def tI (K : Fg) (m : IM) : TI := fun σ H R => ∃ env G fp, Con K σ env G H fp ∧ ∃ ds env', m env = some (ds, env') ∧
  ∀ J G' H' fp', Con K σ env' G' H' fp' → Step G H (U fp) G' H' (U fp') → Wlk K J ds G' → R J H'
def IOk (X : Cx) (tg iter : Expr) (m : IM) : Prop := PI X tg iter (tI X.K m)
theorem pi_mono {X : Cx} {tg iter : Expr} {t t' : TI} (h : PI X tg iter t) (k : ∀ σ H R, t' σ H R → t σ H R) : PI X tg iter t' := ⟨fun pins s σ H R I q => h.run pins s σ H R I (k σ H R q)⟩

/-- a list or a tuple that stands still -/
def iSeq (K : Fg) (tl : TE) : TI := fun σ H R => tl σ H fun x H1 => ∃ a, x = .ref a ∧ (((∃ xs, SqL K H1 a xs) ∧ R (Itl K a) H1) ∨ ((∃ xs, SqT K H1 a xs) ∧ R (Itt K a) H1))
theorem pi_seq {X : Cx} {tg l : Expr} {tl : TE} (hl : PE X l tl) : PI X tg l (iSeq X.K tl) := by
  refine ⟨fun pins s σ H R I h => ?_⟩
  refine thn (hl.run pins s σ H _ I h) fun v s1 ⟨x, H1, I1, r1, q1⟩ => ?_
  obtain ⟨a, e, q⟩ := q1
  subst e
  cases r1
  rcases q with ⟨⟨xs, hq⟩, q⟩ | ⟨⟨xs, hq⟩, q⟩
  · obtain ⟨its, rv, p, hz⟩ := I1.list hq
    refine wpAny_pyIter_list p.isList ?_
    refine ⟨s1.heap.objs.size, [s1.heap.objs.size], _, _, H1, rfl, I1.kept (t' := s1.toks) fun b o e => Heap.get?_push_of_some _ e, turn_list a _, ⟨_, Heap.get?_push_size _ rfl, rfl, rfl⟩, fun b hb => ?_, q⟩
    have e : b = s1.heap.objs.size := by simpa using hb
    subst e
    exact I1.fpOk (Nat.le_refl _) (I1.hok.fresh (Nat.le_refl _))
  · obtain ⟨its, rv, p, hz⟩ := I1.tuple hq
    refine wpAny_pyIter_tuple (show s1.heap.IsTuple a its.toArray from p) ?_
    refine ⟨s1.heap.objs.size, [s1.heap.objs.size], _, _, H1, rfl, I1.kept (t' := s1.toks) fun b o e => Heap.get?_push_of_some _ e, turn_tuple a _, ⟨_, Heap.get?_push_size _ rfl, rfl, rfl⟩, fun b hb => ?_, q⟩
    have e : b = s1.heap.objs.size := by simpa using hb
    subst e
    exact I1.fpOk (Nat.le_refl _) (I1.hok.fresh (Nat.le_refl _))
theorem wlk_list {K : Fg} {G : Hp} {a : Addr} {xs : List V} {ds : List D} (h : G a = some (.lst xs)) (r : Reps K G xs ds) : Wlk K (Itl K a) ds G := by
  refine ⟨fun i G1 H1 hi s1 s2 => ?_, fun G1 H1 s1 s2 => ⟨xs, SqL.of (s2 _ _ (s1 _ _ h)), Nat.le_of_eq r.length⟩⟩
  have hq : SqL K H1 a xs := SqL.of (s2 _ _ (s1 _ _ h))
  have hl : i < xs.length := by rw [r.length]; exact hi
  refine ⟨⟨xs, xs[i], hq, by simp [hl]⟩, fun x H2 hy => ?_⟩
  obtain ⟨e, hy⟩ := hy
  subst e
  obtain ⟨d, e1, rd⟩ := r.get (hy xs hq)
  exact ⟨G1, d, e1, rd.mono s1, s2, Step.refl ..⟩
theorem wlk_tup {K : Fg} {G : Hp} {a : Addr} {xs : List V} {ds : List D} (h : SqT K G a xs) (r : Reps K G xs ds) : Wlk K (Itt K a) ds G := by
  refine ⟨fun i G1 H1 hi s1 s2 => ?_, fun G1 H1 s1 s2 => ⟨xs, Same.sqT s2 (Same.sqT s1 h), Nat.le_of_eq r.length⟩⟩
  have hq : SqT K H1 a xs := Same.sqT s2 (Same.sqT s1 h)
  have hl : i < xs.length := by rw [r.length]; exact hi
  refine ⟨⟨xs, xs[i], hq, by simp [hl]⟩, fun x H2 hy => ?_⟩
  obtain ⟨e, hy⟩ := hy
  subst e
  obtain ⟨d, e1, rd⟩ := r.get (hy xs hq)
  exact ⟨G1, d, e1, rd.mono s1, s2, Step.refl ..⟩
/-- the items of a value: a list or a tuple -/
def iV (m : EM) : IM := fun env => (m env).bind fun (c, e) => c.fz.seq.bind fun ds => some (ds, e)
theorem i_seq {X : Cx} {tg l : Expr} {m : EM} (h : EOk X l m) : IOk X tg l (iV m) := pi_mono (pi_seq h) fun σ H R ⟨env, G, fp, con, ds, env', e1, k⟩ => by
  unfold iV at e1
  cases q : m env with
  | none => simp [q] at e1
  | some y =>
    obtain ⟨c, e2⟩ := y
    simp only [q, Option.bind_some] at e1
    cases q2 : c.fz.seq with
    | none => simp [q2] at e1
    | some ds0 =>
      simp [q2] at e1
      obtain ⟨rfl, rfl⟩ := e1
      refine ⟨env, G, fp, con, c, e2, q, fun v G1 H1 fp1 fr con1 r1 n1 s1 => ?_⟩
      have con2 := con_fz2 con1 r1 n1
      have s2 : Step G H (U fp) (addF G1 H1 fr) H1 (U fp1) := s1.trans ((Step.fz r1).weak (U' := fun _ => False) (W := fun a => U fp1 a ∨ a ∈ fr) (W' := U fp1) (fun a m => .inr m) fun a u => .inr (.inl (.inl u)))
      have rv := r1.fz
      cases hf : c.fz with
      | tup zs =>
        rw [hf] at q2 rv; cases q2
        cases rv with
        | tup h1 h2 => exact ⟨_, rfl, .inr ⟨⟨_, SqT.of (con2.sub _ _ h1)⟩, k _ _ _ _ con2 s2 (wlk_tup (SqT.of h1) h2)⟩⟩
      | lst zs =>
        rw [hf] at q2 rv; cases q2
        cases rv with
        | lst h1 h2 => exact ⟨_, rfl, .inl ⟨⟨_, SqL.of (con2.sub _ _ h1)⟩, k _ _ _ _ con2 s2 (wlk_list h1 h2)⟩⟩
      | _ => rw [hf] at q2; cases q2
/-- range(n), range(a, b) -/
def rng (a b : Int) : List D := (List.range (b - a).toNat).map fun i => D.int (a + (i : Nat))
theorem rng_length (a b : Int) : (rng a b).length = (b - a).toNat := by unfold rng; simp
theorem wlk_rng {K : Fg} {G : Hp} (a b : Int) : Wlk K (Itr a (b - a).toNat) (rng a b) G := by
  refine ⟨fun i G1 H1 hi s1 s2 => ?_, fun G1 H1 s1 s2 => ?_⟩
  · rw [rng_length] at hi
    refine ⟨hi, fun x H2 hy => ?_⟩
    obtain ⟨e, ex⟩ := hy
    subst e ex
    exact ⟨G1, .int (a + (i : Nat)), by unfold rng; simp [hi], .int _, s2, Step.refl ..⟩
  · show (b - a).toNat ≤ _
    rw [rng_length]
    exact Nat.le_refl _
def okR (i : Int) : Bool := @decide (-(2 ^ 62) ≤ i ∧ i < 2 ^ 62) (Classical.propDecidable _)
theorem okR_iff {i : Int} : okR i = true ↔ -(2 ^ 62) ≤ i ∧ i < 2 ^ 62 := @decide_eq_true_iff _ (Classical.propDecidable _)
def iR1 (o : Opd) : IM := fun env => (evO [o] env).bind fun (ds, e) => match ds with
  | [.int n] => if okR n then some (rng 0 n, e) else none
  | _ => none
def iR2 (o o' : Opd) : IM := fun env => (evO [o, o'] env).bind fun (ds, e) => match ds with
  | [.int a, .int b] => if okR a && okR b then some (rng a b, e) else none
  | _ => none
theorem i_rng1 {X : Cx} {tg a : Expr} {o : Opd} {p pos : Pos} (hg : Gl X "range") (hm : X.mg "range" = none) (ha : PA X [a] (tOs X.K [o])) (hs : starEach [a] X.env = [(false, eval a X.env)] := by rfl) : IOk X tg (.Call (.Name "range" p) [a] [] pos) (iR1 o) :=
  pi_mono (pi_range1 hg hm (pao ha) hs) fun σ H R ⟨env, G, fp, con, ds, env', e1, k⟩ => by
    unfold iR1 at e1
    cases q : evO [o] env with
    | none => simp [q] at e1
    | some y =>
      obtain ⟨ds0, e2⟩ := y
      simp only [q, Option.bind_some] at e1
      split at e1
      · rename_i n
        split at e1
        · rename_i hn
          cases e1
          refine ⟨env, G, fp, con, _, _, q, fun vs G' H' fp' c' rv s => ?_⟩
          cases rv with
          | cons r1 rv =>
            cases rv; cases r1.int
            have hn := okR_iff.mp hn
            refine ⟨n, rfl, hn.1, hn.2, k _ G' H' fp' c' s ?_⟩
            have := wlk_rng (K := X.K) (G := G') 0 n
            rwa [show (n - 0).toNat = n.toNat by rw [Int.sub_zero]] at this
        · cases e1
      · cases e1
theorem i_rng2 {X : Cx} {tg a b : Expr} {o o' : Opd} {p pos : Pos} (hg : Gl X "range") (hm : X.mg "range" = none) (ha : PA X [a, b] (tOs X.K [o, o'])) (hs : starEach [a, b] X.env = [(false, eval a X.env), (false, eval b X.env)] := by rfl) (hs2 : starEach [b] X.env = [(false, eval b X.env)] := by rfl) : IOk X tg (.Call (.Name "range" p) [a, b] [] pos) (iR2 o o') :=
  pi_mono (pi_range2 hg hm (pao ha) hs hs2) fun σ H R ⟨env, G, fp, con, ds, env', e1, k⟩ => by
    unfold iR2 at e1
    cases q : evO [o, o'] env with
    | none => simp [q] at e1
    | some y =>
      obtain ⟨ds0, e2⟩ := y
      simp only [q, Option.bind_some] at e1
      split at e1
      · rename_i a b
        split at e1
        · rename_i hn
          cases e1
          refine ⟨env, G, fp, con, _, _, q, fun vs G' H' fp' c' rv s => ?_⟩
          cases rv with
          | cons r1 rv =>
            cases rv with
            | cons r2 rv =>
              cases rv; cases r1.int; cases r2.int
              simp only [Bool.and_eq_true] at hn
              have h1 := okR_iff.mp hn.1
              have h2 := okR_iff.mp hn.2
              exact ⟨a, b, rfl, ⟨h1.1, h1.2, h2.1, h2.2⟩, k _ G' H' fp' c' s (wlk_rng a b)⟩
        · cases e1
      · cases e1

/-! ## targets -/
/-- where the items of a value go -/
def asg : List Nat → List D → Env → Option Env
  | [], [], env => some env
  | i :: is, d :: ds, env => if i < env.length then asg is ds (env.set i (some (.sh d))) else none
  | _, _, _ => none
inductive Tgt where
  | one (i : Nat) | tup (is : List Nat)
def Tgt.is : Tgt → List Nat
  | .one i => [i] | .tup is => is
def asgT : Tgt → D → Env → Option Env
  | .one i, d, env => if i < env.length then some (env.set i (some (.sh d))) else none
  | .tup is, .tup ds, env => asg is ds env
  | _, _, _ => none
def gNames : List Nat → TGs
  | [] => gNil
  | i :: is => gCons (gName i) (gNames is)
def gT (K : Fg) : Tgt → TG
  | .one i => gName i
  | .tup is => gTup K is.length (gNames is)
def GOk (X : Cx) (tg : Expr) (t : Tgt) : Prop := PG X tg (gT X.K t)
theorem con_sh {K : Fg} {σ : St} {env : Env} {G H : Hp} {fp : Fp} {i : Nat} {v : V} {d : D} (c : Con K σ env G H fp) (hi : i < env.length) (r : Rep K G v d) :
    Con K (σ.set i (some v)) (env.set i (some (.sh d))) G H (fp.set i []) := c.put hi (.sh r) fun a m => by cases m
theorem U_set_nil {fp : Fp} {i : Nat} {a : Addr} (h : U (fp.set i []) a) : U fp a := (U_set h).elim id fun z => by cases z
theorem asg_run {K : Fg} {p : Nat} : ∀ {is : List Nat} {ds : List D} {vs : List V} {σ : St} {env env' : Env} {G H : Hp} {fp : Fp} {Q : St → Hp → Prop}, Con K σ env G H fp → Reps K G vs ds → asg is ds env = some env' → (∀ i ∈ is, p ≤ i) →
    (∀ σ' fp', Con K σ' env' G H fp' → (∀ a, U fp' a → U fp a) → σ'.take p = σ.take p → (∀ j, j ∉ is → σ'[j]? = σ[j]?) → Q σ' H) → gNames is vs σ H Q
  | [], [], _, σ, env, env', G, H, fp, Q, con, .nil, e, hp, k => by
    cases e
    exact ⟨rfl, k σ fp con (fun _ u => u) rfl fun _ _ => rfl⟩
  | i :: is, d :: ds, _, σ, env, env', G, H, fp, Q, con, .cons (v := v) (vs := vs) r rs, e, hp, k => by
    unfold asg at e
    split at e
    · rename_i hi
      refine ⟨v, vs, rfl, ?_⟩
      refine asg_run (con_sh con hi r) rs e (fun j m => hp j (by simp [m])) fun σ' fp' c' u' t' st' => ?_
      refine k σ' fp' c' (fun a u => U_set_nil (u' a u)) (t'.trans (take_set (hp i (by simp)))) fun j hj => ?_
      rw [st' j fun m => hj (by simp [m]), List.getElem?_set_ne (fun z => hj (by simp [z]))]
    · cases e
  | [], _ :: _, _, _, _, _, _, _, _, _, _, _, e, _, _ => by cases e
  | _ :: _, [], _, _, _, _, _, _, _, _, _, _, e, _, _ => by cases e
theorem asg_length : ∀ {is : List Nat} {ds : List D} {env env' : Env}, asg is ds env = some env' → ds.length = is.length
  | [], [], _, _, _ => rfl
  | i :: is, d :: ds, env, env', e => by
    simp only [asg] at e
    split at e
    · simp [asg_length e]
    · cases e
  | [], _ :: _, _, _, e => by simp [asg] at e
  | _ :: _, [], _, _, e => by simp [asg] at e
theorem asgT_run {K : Fg} {p : Nat} {t : Tgt} {d : D} {v : V} {σ : St} {env env' : Env} {G H : Hp} {fp : Fp} {Q : St → Hp → Prop} (con : Con K σ env G H fp) (r : Rep K G v d) (e : asgT t d env = some env') (hp : ∀ i ∈ t.is, p ≤ i)
    (k : ∀ σ' fp', Con K σ' env' G H fp' → (∀ a, U fp' a → U fp a) → σ'.take p = σ.take p → (∀ j, j ∉ t.is → σ'[j]? = σ[j]?) → Q σ' H) : gT K t v σ H Q := by
  cases t with
  | one i =>
    simp only [asgT] at e
    split at e
    · rename_i hi
      cases e
      exact k _ _ (con_sh con hi r) (fun a u => U_set_nil u) (take_set (hp i (by simp [Tgt.is]))) fun j hj => List.getElem?_set_ne (fun z => hj (by simp [Tgt.is, z]))
    · cases e
  | tup is =>
    cases d with
    | tup ds =>
      have e : asg is ds env = some env' := e
      cases r with
      | tup h rs => exact ⟨_, _, rfl, SqT.of (con.sub _ _ h), by rw [rs.length, asg_length e], asg_run con rs e hp k⟩
    | _ => simp [asgT] at e
theorem g_one {X : Cx} {i : Nat} {x : Str} {pos : Pos} (hN : X.N.Nodup) (hi : X.N[i]? = some x) (hx : Loc X.env.scope x) (hf : X.fn x = true ∨ X.env.scope.names.lookup x = some .local := by first | exact .inl rfl | exact .inr rfl | assumption) : GOk X (.Name x pos) (.one i) := pg_name hN hi hx hf

/-! ## for -/
def forN (t : Tgt) (b : SM) : List D → Env → Option Out
  | [], env => some (.nx env)
  | d :: ds, env => (asgT t d env).bind fun e => (b e).bind fun o => match o with
    | .nx e => forN t b ds e
    | .ct e => forN t b ds e
    | .bk e => some (.nx e)
    | .rt c e => some (.rt c e)
def sFor (t : Tgt) (i : IM) (b : SM) : SM := fun env => (i env).bind fun (ds, e) => forN t b ds e
theorem s_for {X : Cx} {p : Nat} {tg iter : Expr} {body : List Stmt} {pos : Pos} {t : Tgt} {i : IM} {b : SM} (hpt : ∀ i ∈ t.is, p ≤ i) (hp : PassesOwn (model X.prog X.w) X.A X.env X.xe) (hc : X.calm = true) (hi : IOk X tg iter i) (hg : GOk X tg t) (hb : SsOk X p body b)
    (hs : ∀ x, foldedSetIterable iter X.env x = pure x := by intro _; rfl) : SOk X p (.For tg iter body [] pos) (sFor t i b) := ps_mono (ps_for hp hc hi hg hb hs) fun D σ H ⟨env, G, fp, con, o, e1, k⟩ => by
  unfold sFor at e1
  cases q : i env with
  | none => simp [q] at e1
  | some y =>
    obtain ⟨ds, e2⟩ := y
    simp only [q, Option.bind_some] at e1
    refine ⟨env, G, fp, con, ds, e2, q, fun J G' H' fp' c' s w => ?_⟩
    refine ⟨fun n m σ1 H1 => n + m = ds.length ∧ ∃ env1 G1 fp1, Con X.K σ1 env1 G1 H1 fp1 ∧ Same G' G1 ∧ forN t b (ds.drop n) env1 = some o ∧ EndS X.K p σ1 G1 H1 fp1 D o, ⟨ds.length, by simp, e2, G', fp', c', Same.refl _, by simpa using e1, k.step s rfl⟩, ?_⟩
    rintro n m σ1 H1 ⟨hnm, env1, G1, fp1, con1, sG, h1, k1⟩
    by_cases hn : n < ds.length
    · right
      obtain ⟨hgo, hy⟩ := w.go n G1 H1 hn sG con1.sub
      have hd : ds.drop n = ds[n] :: ds.drop (n + 1) := List.drop_eq_getElem_cons hn
      rw [hd] at h1
      refine ⟨hgo, fun σ2 H2 => ∃ env1 G1 fp1, Con X.K σ2 env1 G1 H2 fp1 ∧ Same G' G1 ∧ forN t b (ds.drop (n + 1)) env1 = some o ∧ EndS X.K p σ2 G1 H2 fp1 D o, fun σ' H' w => ⟨m - 1, by omega, by omega, w⟩, fun x H2 hx => ?_⟩
      obtain ⟨G2, d, ed, rd, sub2, s2⟩ := hy x H2 hx
      have ed' : ds[n] = d := by
        rw [List.getElem?_eq_getElem hn] at ed
        exact Option.some.inj ed
      rw [ed'] at h1
      unfold forN at h1
      cases q1 : asgT t d env1 with
      | none => simp [q1] at h1
      | some e3 =>
        simp only [q1, Option.bind_some] at h1
        cases q2 : b e3 with
        | none => simp [q2] at h1
        | some o2 =>
          simp only [q2, Option.bind_some] at h1
          have con2 : Con X.K σ1 env1 G2 H2 fp1 := con1.step s2 (fun a u w => w) sub2
          have s12 : Step G1 H1 (U fp1) G2 H2 (U fp1) := s2.weak (fun _ z => z.elim) fun a u => .inr (.inl u)
          refine asgT_run con2 rd q1 hpt fun σ3 fp3 c3 u3 t3 _ => ?_
          have s13 : Step G1 H1 (U fp1) G2 H2 (U fp3) := s12.weak (fun _ u => u) fun a u => .inl (u3 a u)
          refine ⟨e3, G2, fp3, c3, o2, q2, ?_⟩
          cases o2 with
          | nx e4 => exact fun σ4 G4 H4 fp4 c4 s4 z => ⟨e4, G4, fp4, c4, (sG.trans s2.sG).trans s4.sG, h1, k1.step (s13.trans s4) (z.trans t3)⟩
          | ct e4 => exact fun σ4 G4 H4 fp4 c4 s4 z => ⟨e4, G4, fp4, c4, (sG.trans s2.sG).trans s4.sG, h1, k1.step (s13.trans s4) (z.trans t3)⟩
          | bk e4 => cases h1; exact fun σ4 G4 H4 fp4 c4 s4 z => k1 σ4 G4 H4 fp4 c4 (s13.trans s4) (z.trans t3)
          | rt c e4 => cases h1; exact fun v σ4 G4 H4 fp4 fr c4 r n s4 z => k1 v σ4 G4 H4 fp4 fr c4 r n (s13.trans s4) (z.trans t3)
    · left
      have e : n = ds.length := by omega
      subst e
      rw [List.drop_length] at h1
      cases h1
      exact ⟨w.stop G1 H1 sG con1.sub, k1 σ1 G1 H1 fp1 con1 (Step.refl ..) rfl⟩
end Fx
set_option Elab.async false
set_option linter.all false
set_option maxRecDepth 100000
set_option maxHeartbeats 4000000
noncomputable section
namespace Fx
open PySem L2

/-! ## comprehensions -/
def wipeE (env : Env) : List Nat → Env
  | [] => env
  | v :: vs => (wipeE env vs).set v none
def calm1 : Option (Option C) → Bool
  | some none => true | some (some (.sh _)) => true | none => true | _ => false
/-- no list of one's own at these places -/
def calmE (env : Env) (vs : List Nat) : Bool := vs.all fun v => calm1 env[v]?
def restE (e0 : Env) : List Nat → Env → Env
  | [], e => e
  | v :: vs, e => match e0[v]? with
    | some c => restE e0 vs (e.set v c)
    | none => restE e0 vs e
theorem wipeE_length (env : Env) : ∀ vs, (wipeE env vs).length = env.length
  | [] => rfl
  | v :: vs => by unfold wipeE; rw [List.length_set, wipeE_length env vs]
theorem fp_calm {K : Fg} {σ : St} {env : Env} {G H : Hp} {fp : Fp} {v : Nat} (con : Con K σ env G H fp) (h : calm1 env[v]? = true) : fp v = [] := by
  cases q : env[v]? with
  | none => exact con.nil v fun c e => by rw [q] at e; cases e
  | some o =>
    cases o with
    | none => exact con.nil v fun c e => by rw [q] at e; cases e
    | some c =>
      cases c with
      | sh d =>
        obtain ⟨x, _, r⟩ := con.rep v _ q
        exact r.of_sh.2
      | _ => rw [q] at h; cases h
theorem set_nil {fp : Fp} {v : Nat} (h : fp v = []) : Fp.set fp v [] = fp := by
  funext j
  unfold Fp.set
  split
  · rename_i e; rw [e, h]
  · rfl
theorem con_wipe {K : Fg} {σ : St} {env : Env} {G H : Hp} {fp : Fp} : ∀ {vs : List Nat}, Con K σ env G H fp → calmE env vs = true → Con K (wipe σ vs) (wipeE env vs) G H fp
  | [], con, _ => con
  | v :: vs, con, h => by
    unfold calmE at h
    rw [List.all_cons, Bool.and_eq_true] at h
    have c1 := con_wipe (vs := vs) con h.2
    have hv : fp v = [] := fp_calm con h.1
    have c2 := c1.drop (i := v) (σ' := (wipe σ vs).set v none) (by simp) fun j hj => List.getElem?_set_ne (fun z => hj z.symm)
    rw [set_nil hv] at c2
    exact c2
theorem con_rest {K : Fg} {σ : St} {e0 : Env} {G0 H0 : Hp} {fp0 : Fp} (c0 : Con K σ e0 G0 H0 fp0) : ∀ {vs : List Nat} {e : Env} {G H : Hp} {fp : Fp}, vs.Nodup → calmE e0 vs = true → Same G0 G → (∀ v ∈ vs, fp v = []) → Con K (wipe σ vs) e G H fp → Con K σ (restE e0 vs e) G H fp
  | [], e, G, H, fp, _, _, _, _, con => con
  | v :: vs, e, G, H, fp, nd, h, s, hf, con => by
    have h' := h
    unfold calmE at h
    rw [List.all_cons, Bool.and_eq_true] at h
    have nv : v ∉ vs := (List.nodup_cons.mp nd).1
    have hl : (wipe σ vs).length = e0.length := by rw [wipe_length, c0.len]
    have hle : e.length = e0.length := by
      have := con.len
      rw [← this]
      show ((wipe σ vs).set v none).length = _
      rw [List.length_set, hl]
    have hfv : fp v = [] := hf v (by simp)
    have hfs : ∀ w ∈ vs, fp w = [] := fun w m => hf w (by simp [m])
    unfold restE
    cases q : e0[v]? with
    | none =>
      refine con_rest c0 (List.nodup_cons.mp nd).2 h.2 s hfs ?_
      have hv : e0.length ≤ v := List.getElem?_eq_none_iff.mp q
      have es : (wipe σ vs).set v none = wipe σ vs := List.set_eq_of_length_le (by rw [hl]; exact hv)
      have con' : Con K ((wipe σ vs).set v none) e G H fp := con
      rw [es] at con'
      exact con'
    | some o =>
      have hv : v < e0.length := (List.getElem?_eq_some_iff.mp q).1
      refine con_rest c0 (List.nodup_cons.mp nd).2 h.2 s hfs ?_
      have con' : Con K ((wipe σ vs).set v none) e G H fp := con
      have hw : (wipe σ vs)[v]? = σ[v]? := wipe_out nv
      cases o with
      | none =>
        have c2 := con'.drop (i := v) (σ' := wipe σ vs) (by simp) fun j hj => (List.getElem?_set_ne (fun z => hj z.symm)).symm
        rw [set_nil hfv] at c2
        exact c2
      | some c =>
        cases c with
        | sh d =>
          obtain ⟨x, ex, r⟩ := c0.rep v _ q
          have c2 := con_sh (i := v) (v := x) (d := d) con' (by rw [hle]; exact hv) (r.of_sh.1.mono s)
          rw [set_nil hfv, List.set_set] at c2
          have es : (wipe σ vs).set v (some x) = wipe σ vs := by
            apply List.ext_getElem?
            intro j
            by_cases hj : j = v
            · subst hj
              rw [List.getElem?_set_self (by rw [hl]; exact hv), hw, ex]
            · rw [List.getElem?_set_ne (fun z => hj z.symm)]
          rw [es] at c2
          exact c2
        | _ =>
          have := h.1
          rw [q] at this
          cases this
theorem wipe_eq : ∀ {vs : List Nat} {σ σ' : St}, σ'.length = σ.length → (∀ j, j ∉ vs → σ'[j]? = σ[j]?) → wipe σ' vs = wipe σ vs
  | vs, σ, σ', hl, h => by
    apply List.ext_getElem?
    intro j
    by_cases hj : j ∈ vs
    · have key : ∀ (ws : List Nat) (τ : St), j ∈ ws → (wipe τ ws)[j]? = if j < τ.length then some none else none := by
        intro ws
        induction ws with
        | nil => intro τ m; cases m
        | cons w ws ih =>
          intro τ m
          show ((wipe τ ws).set w none)[j]? = _
          by_cases e : w = j
          · subst e
            by_cases hw : w < τ.length
            · rw [if_pos hw]; exact List.getElem?_set_self (by rw [wipe_length]; exact hw)
            · rw [if_neg hw]; exact List.getElem?_eq_none (by rw [List.length_set, wipe_length]; omega)
          · rw [List.getElem?_set_ne e]
            rcases List.mem_cons.mp m with m | m
            · exact absurd m.symm e
            · exact ih τ m
      rw [key vs σ hj, key vs σ' hj, hl]
    · rw [wipe_out hj, wipe_out hj]; exact h j hj

def kYes : TM := fun env => some (true, env)
def compN (vs : List Nat) (t : Tgt) (c : TM) (m : EM) : List D → Env → Option (List D × Env)
  | [], env => some ([], env)
  | d :: ds, env => (asgT t d env).bind fun e1 => (c e1).bind fun (b, e2) => if b then (m e2).bind fun (x, e3) => if calmE e3 vs then (compN vs t c m ds (wipeE e3 vs)).bind fun (rs, e4) => some (x.fz :: rs, e4) else none
      else if calmE e2 vs then compN vs t c m ds (wipeE e2 vs) else none
def eComp (vs : List Nat) (t : Tgt) (i : IM) (c : TM) (m : EM) : EM := fun env => (i env).bind fun (ds, e1) => if calmE e1 vs then (compN vs t c m ds (wipeE e1 vs)).bind fun (rs, e2) => if rs.length ≤ lim then some (.ol rs, restE e1 vs e2) else none else none
def PTsOk (X : Cx) (ifs : List Expr) (c : TM) : Prop := PTs X ifs (tT X.K c)
theorem ts_nil {X : Cx} : PTsOk X [] kYes := ⟨fun pins s σ H Q I ⟨env, G, fp, con, b, env', e1, k⟩ => pts_nil.run pins s σ H Q I (by cases e1; exact k G H fp con (Step.refl ..))⟩
theorem ts_one {X : Cx} {c : Expr} {t : TM} (h : TOk X c t) : PTsOk X [c] t := pts_one h
theorem compN_len {vs : List Nat} {t : Tgt} {c : TM} {m : EM} : ∀ {ds : List D} {env env' : Env} {rs : List D}, compN vs t c m ds env = some (rs, env') → rs.length ≤ ds.length
  | [], env, env', rs, e => by cases e; exact Nat.le_refl _
  | d :: ds, env, env', rs, e => by
    unfold compN at e
    cases q1 : asgT t d env with
    | none => simp [q1] at e
    | some e1 =>
      simp only [q1, Option.bind_some] at e
      cases q2 : c e1 with
      | none => simp [q2] at e
      | some y =>
        obtain ⟨b, e2⟩ := y
        simp only [q2, Option.bind_some] at e
        cases b with
        | true =>
          rw [if_pos rfl] at e
          cases q3 : m e2 with
          | none => simp [q3] at e
          | some y =>
            obtain ⟨x, e3⟩ := y
            simp only [q3, Option.bind_some] at e
            split at e
            · cases q4 : compN vs t c m ds (wipeE e3 vs) with
              | none => simp [q4] at e
              | some y =>
                obtain ⟨r, e4⟩ := y
                simp [q4] at e
                obtain ⟨rfl, rfl⟩ := e
                have := compN_len q4
                simp; omega
            · cases e
        | false =>
          rw [if_neg Bool.false_ne_true] at e
          split at e
          · have := compN_len e
            simp; omega
          · cases e
theorem nofp {K : Fg} {σ : St} {env : Env} {G H : Hp} {fp : Fp} {vs : List Nat} (con : Con K σ (wipeE env vs) G H fp) : ∀ v ∈ vs, fp v = [] := fun v m => con.nil v fun c e => by
  have key : ∀ (ws : List Nat), v ∈ ws → ∀ c, (wipeE env ws)[v]? ≠ some (some c) := by
    intro ws
    induction ws with
    | nil => intro m; cases m
    | cons w ws ih =>
      intro m c e
      unfold wipeE at e
      by_cases z : w = v
      · subst z
        by_cases hw : w < (wipeE env ws).length
        · rw [List.getElem?_set_self hw] at e; cases e
        · rw [List.getElem?_eq_none (by simpa using hw)] at e; cases e
      · rw [List.getElem?_set_ne z] at e
        rcases List.mem_cons.mp m with m | m
        · exact z m.symm
        · exact ih m c e
  exact key vs m c e
theorem comp_run {K : Fg} {vs : List Nat} {t : Tgt} {i : IM} {c : TM} {m : EM} {σ : St} {H : Hp} {Q : VK} (hn : vs.Nodup) (hsub : ∀ i ∈ t.is, i ∈ vs) (q : tE K (eComp vs t i c m) σ H Q) : tLc (tI K i) (gT K t) (tT K c) (tE K m) vs σ H Q := by
  obtain ⟨env, G, fp, con, c0, env', e1, k⟩ := q
  unfold eComp at e1
  cases q : i env with
  | none => simp [q] at e1
  | some y =>
    obtain ⟨ds, e2⟩ := y
    simp only [q, Option.bind_some] at e1
    split at e1
    · rename_i hcalm
      cases q2 : compN vs t c m ds (wipeE e2 vs) with
      | none => simp [q2] at e1
      | some y =>
        obtain ⟨rs, e3⟩ := y
        simp only [q2, Option.bind_some] at e1
        split at e1
        · rename_i hlen
          cases e1
          refine ⟨env, G, fp, con, ds, e2, q, fun J G1 H1 fp1 con1 s1 w => fun Dl hD => ?_⟩
          have GD : G1 Dl = none := none_of_same con1.sub hD
          refine ⟨fun n mm H2 => n + mm = ds.length ∧ ∃ e G2 fp2 acc rest, Con K (wipe σ vs) e G2 H2 fp2 ∧ (∀ v ∈ vs, fp2 v = []) ∧ Same G1 G2 ∧ RepC K G2 H2 (.ref Dl) (.ol acc) [Dl] ∧ ¬ U fp2 Dl ∧ compN vs t c m (ds.drop n) e = some (rest, e3) ∧ acc ++ rest = rs ∧ Step G1 (upd H1 Dl (.lst [])) (fun a => U fp1 a ∨ a ∈ [Dl]) G2 H2 (fun a => U fp2 a ∨ a ∈ [Dl]), ?_, ?_⟩
          · refine ⟨ds.length, by simp, wipeE e2 vs, G1, fp1, [], rs, ?_, ?_, Same.refl _, .ol GD upd_same .nil, ?_, by simpa using q2, rfl, Step.refl ..⟩
            · exact (con_wipe con1 hcalm).step (Step.newH (o := .lst []) hD) (fun a u z => z) (same_newH con1.sub hD)
            · exact nofp (con_wipe con1 hcalm)
            · intro u
              obtain ⟨j, mj⟩ := u
              have : ∃ x, e2[j]? = some (some x) := by
                refine Classical.byContradiction fun no => ?_
                have e := con1.nil j fun x e => no ⟨x, e⟩
                rw [e] at mj; cases mj
              obtain ⟨x, ex⟩ := this
              obtain ⟨_, _, rx⟩ := con1.rep j x ex
              obtain ⟨_, o, eo⟩ := rx.mem Dl mj
              rw [eo] at hD; cases hD
          · rintro n mm H2 ⟨hnm, e, G2, fp2, acc, rest, con2, nf2, sG, rD, nD, hcomp, hacc, st⟩
            by_cases hnl : n < ds.length
            · right
              obtain ⟨hgo, hy⟩ := w.go n G2 H2 hnl sG con2.sub
              have hd : ds.drop n = ds[n] :: ds.drop (n + 1) := List.drop_eq_getElem_cons hnl
              rw [hd] at hcomp
              refine ⟨hgo, fun H3 => ∃ e G2 fp2 acc rest, Con K (wipe σ vs) e G2 H3 fp2 ∧ (∀ v ∈ vs, fp2 v = []) ∧ Same G1 G2 ∧ RepC K G2 H3 (.ref Dl) (.ol acc) [Dl] ∧ ¬ U fp2 Dl ∧ compN vs t c m (ds.drop (n + 1)) e = some (rest, e3) ∧ acc ++ rest = rs ∧ Step G1 (upd H1 Dl (.lst [])) (fun a => U fp1 a ∨ a ∈ [Dl]) G2 H3 (fun a => U fp2 a ∨ a ∈ [Dl]), fun H' w => ⟨mm - 1, by omega, by omega, w⟩, fun x H3 hx => ?_⟩
              obtain ⟨G3, d, ed, rd, sub3, s3⟩ := hy x H3 hx
              have ed' : ds[n] = d := by
                rw [List.getElem?_eq_getElem hnl] at ed
                exact Option.some.inj ed
              rw [ed'] at hcomp
              unfold compN at hcomp
              cases q1 : asgT t d e with
              | none => simp [q1] at hcomp
              | some e4 =>
                simp only [q1, Option.bind_some] at hcomp
                have ew : wipe (wipe σ vs) vs = wipe σ vs := by
                  apply List.ext_getElem?
                  intro j
                  by_cases hj : j ∈ vs
                  · have key : ∀ (ws : List Nat) (τ : St), j ∈ ws → (wipe τ ws)[j]? = if j < τ.length then some none else none := by
                      intro ws
                      induction ws with
                      | nil => intro τ m; cases m
                      | cons w ws ih =>
                        intro τ m
                        show ((wipe τ ws).set w none)[j]? = _
                        by_cases e : w = j
                        · subst e
                          by_cases hw : w < τ.length
                          · rw [if_pos hw]; exact List.getElem?_set_self (by rw [wipe_length]; exact hw)
                          · rw [if_neg hw]; exact List.getElem?_eq_none (by rw [List.length_set, wipe_length]; omega)
                        · rw [List.getElem?_set_ne e]
                          rcases List.mem_cons.mp m with m | m
                          · exact absurd m.symm e
                          · exact ih τ m
                    rw [key vs _ hj, key vs _ hj, wipe_length]
                  · rw [wipe_out hj]
                have con3 : Con K (wipe σ vs) e G3 H3 fp2 := con2.step s3 (fun a u z => z) sub3
                have rD3 : RepC K G3 H3 (.ref Dl) (.ol acc) [Dl] := rD.step s3 fun a m z => z
                refine asgT_run (p := 0) con3 rd q1 (fun _ _ => Nat.zero_le _) fun σ4 fp4 con4 u4 _ st4 => ?_
                have hl4 : σ4.length = (wipe σ vs).length := by
                  have a := con4.len
                  have b := con3.len
                  rw [a, b]
                  have key : ∀ {t : Tgt} {d : D} {e e' : Env}, asgT t d e = some e' → e'.length = e.length := by
                    intro t d e e' h
                    have k2 : ∀ {is : List Nat} {ds : List D} {e e' : Env}, asg is ds e = some e' → e'.length = e.length := by
                      intro is
                      induction is with
                      | nil => intro ds e e' h; cases ds with | nil => cases h; rfl | cons => simp [asg] at h
                      | cons i is ih => intro ds e e' h; cases ds with
                        | nil => simp [asg] at h
                        | cons d ds =>
                          simp only [asg] at h
                          split at h
                          · rw [ih h, List.length_set]
                          · cases h
                    cases t with
                    | one i =>
                      simp only [asgT] at h
                      split at h
                      · cases h; simp
                      · cases h
                    | tup is => cases d with
                      | tup ds => exact k2 (show asg is ds e = some e' from h)
                      | _ => simp [asgT] at h
                  exact key q1
                refine ⟨(wipe_eq hl4 fun j hj => st4 j fun z => hj (hsub j z)).trans ew, ?_⟩
                have eq4 : wipe σ4 vs = wipe σ vs := (wipe_eq hl4 fun j hj => st4 j fun z => hj (hsub j z)).trans ew
                have nD4 : ¬ U fp4 Dl := fun z => nD (u4 _ z)
                have st4' : Step G1 (upd H1 Dl (.lst [])) (fun a => U fp1 a ∨ a ∈ [Dl]) G3 H3 (fun a => U fp4 a ∨ a ∈ [Dl]) := st.trans (s3.weak (fun _ z => z.elim) fun a u => .inr (.inl (u.elim (fun z => .inl (u4 a z)) .inr)))
                cases q2' : c e4 with
                | none => simp [q2'] at hcomp
                | some y =>
                  obtain ⟨b, e5⟩ := y
                  simp only [q2', Option.bind_some] at hcomp
                  refine ⟨e4, G3, fp4, con4, b, e5, q2', fun G5 H5 fp5 con5 s5 => ?_⟩
                  have rD5 : RepC K G5 H5 (.ref Dl) (.ol acc) [Dl] := rD3.step s5 fun a m z => by simp at m; subst m; exact nD4 z
                  have nD5 : ¬ U fp5 Dl := rD3.out s5 (fun a m z => by simp at m; subst m; exact nD4 z) Dl (by simp)
                  have st5 : Step G1 (upd H1 Dl (.lst [])) (fun a => U fp1 a ∨ a ∈ [Dl]) G5 H5 (fun a => U fp5 a ∨ a ∈ [Dl]) := st4'.trans (s5.weak (fun _ z => .inl z) fun a u => u.elim .inl fun z => .inr (.inl (.inr z)))
                  cases b with
                  | false =>
                    rw [if_neg Bool.false_ne_true] at hcomp
                    refine iteF ?_
                    split at hcomp
                    · rename_i hc5
                      refine ⟨wipeE e5 vs, G5, fp5, acc, rest, by rw [← eq4]; exact con_wipe con5 hc5, nofp (con_wipe con5 hc5), (sG.trans s3.sG).trans s5.sG, rD5, nD5, hcomp, hacc, st5⟩
                    · cases hcomp
                  | true =>
                    rw [if_pos rfl] at hcomp
                    refine iteT ?_
                    cases q3 : m e5 with
                    | none => simp [q3] at hcomp
                    | some y =>
                      obtain ⟨cx, e6⟩ := y
                      simp only [q3, Option.bind_some] at hcomp
                      split at hcomp
                      · rename_i hc6
                        cases q4 : compN vs t c m (ds.drop (n + 1)) (wipeE e6 vs) with
                        | none => simp [q4] at hcomp
                        | some y =>
                          obtain ⟨r', e7⟩ := y
                          simp [q4] at hcomp
                          obtain ⟨rfl, rfl⟩ := hcomp
                          refine ⟨e5, G5, fp5, con5, cx, e6, q3, fun v G6 H6 fp6 fr con6 r6 n6 s6 => ?_⟩
                          have nm : ∀ a ∈ [Dl], ¬ U fp5 a := fun a m z => by simp at m; subst m; exact nD5 z
                          have rD6 := rD5.step s6 nm
                          have nD6 := rD5.out s6 nm Dl (by simp)
                          have con7 := con_fz2 con6 r6 n6
                          have sf := Step.fz r6
                          have rD7 : RepC K (addF G6 H6 fr) H6 (.ref Dl) (.ol acc) [Dl] := rD6.step sf fun a m z => by simp at m; subst m; exact nD6 (.inr z)
                          have rx := r6.fz
                          cases rD7 with
                          | @ol _ xsD _ gD hD7 rsD =>
                            refine ⟨_, hD7, ?_, ?_⟩
                            · rw [rsD.length]
                              have := compN_len q4
                              have hrl : acc.length < rs.length := by rw [← hacc]; simp
                              rw [← lim_eq]
                              omega
                            · have hsub7 : Same (addF G6 H6 fr) H6 := addF_sub con6.sub
                              have sW : Step (addF G6 H6 fr) H6 (fun a => a ∈ [Dl]) (addF G6 H6 fr) (upd H6 Dl (.lst (xsD ++ [v]))) (fun a => a ∈ [Dl]) := ⟨fun _ _ h => h, fun a o e z => by rw [upd_ne (fun q => z (by simp [q]))]; exact e, fun a o e => .inl e, fun a z => .inl z⟩
                              have con8 : Con K (wipe σ vs) (wipeE e6 vs) (addF G6 H6 fr) (upd H6 Dl (.lst (xsD ++ [v]))) fp6 := by
                                rw [← eq4]
                                exact (con_wipe con7 hc6).step sW (fun a u z => by simp at z; subst z; exact nD6 (.inl u)) fun a o e => by
                                  rw [upd_ne (fun q => by rw [q, gD] at e; cases e)]; exact hsub7 a o e
                              refine ⟨wipeE e6 vs, addF G6 H6 fr, fp6, acc ++ [cx.fz], r', con8, nofp (con_wipe con7 hc6), ((sG.trans s3.sG).trans s5.sG).trans (s6.sG.trans sf.sG), .ol gD upd_same (rsD.append (.cons rx .nil)), fun z => nD6 (.inl z), q4, by simpa using hacc, ?_⟩
                              refine st5.trans (?_ : Step G5 H5 (fun a => U fp5 a ∨ a ∈ [Dl]) _ _ (fun a => U fp6 a ∨ a ∈ [Dl]))
                              have a1 : Step G5 H5 (fun a => U fp5 a ∨ a ∈ [Dl]) G6 H6 (fun a => U fp6 a ∨ a ∈ fr ∨ a ∈ [Dl]) := s6.weak (fun _ z => .inl z) fun a u => by
                                rcases u with u | u | u
                                · exact .inl (.inl u)
                                · exact .inl (.inr u)
                                · exact .inr (.inl (.inr u))
                              have a2 : Step G6 H6 (fun a => U fp6 a ∨ a ∈ fr ∨ a ∈ [Dl]) (addF G6 H6 fr) H6 (fun a => U fp6 a ∨ a ∈ [Dl]) := sf.weak (fun _ z => .inr (.inl z)) fun a u => u.elim (fun z => .inr (.inl (.inl z))) fun z => .inr (.inl (.inr (.inr z)))
                              have a3 : Step (addF G6 H6 fr) H6 (fun a => U fp6 a ∨ a ∈ [Dl]) (addF G6 H6 fr) (upd H6 Dl (.lst (xsD ++ [v]))) (fun a => U fp6 a ∨ a ∈ [Dl]) := sW.weak (fun _ z => .inr z) fun a u => .inr (.inl u)
                              exact (a1.trans a2).trans a3
                      · cases hcomp
            · left
              have e0 : n = ds.length := by omega
              subst e0
              rw [List.drop_length] at hcomp
              cases hcomp
              rw [List.append_nil] at hacc
              subst hacc
              refine ⟨w.stop G2 H2 sG con2.sub, ?_⟩
              refine k (.ref Dl) G2 H2 fp2 [Dl] (con_rest con1 hn hcalm sG nf2 con2) rD (fun a m z => by simp at m; subst m; exact nD z) ?_
              refine s1.trans (?_ : Step G1 H1 (U fp1) G2 H2 (fun a => U fp2 a ∨ a ∈ [Dl]))
              have a1 : Step G1 H1 (U fp1) G1 (upd H1 Dl (.lst [])) (fun a => U fp1 a ∨ a ∈ [Dl]) := (Step.newH (o := .lst []) hD).weak (fun _ z => z.elim) fun a u => u.elim (fun z => .inr (.inl z)) .inl
              exact a1.trans st
        · cases e1
    · cases e1
section
variable {X : Cx} {p : Nat} {elt tg iter : Expr} {ifs : List Expr} {scope : Scope} {own : List (Str × Nat)} {pos spos : Pos} {t : Tgt} {i : IM} {c : TM} {m : EM}
abbrev Blk (X : Cx) (scope : Scope) (P : Cx → Prop) : Prop := ∀ (s : Shared) (H : Hp) (C : Addr) (cl : List (Str × Addr)) (fp : List Addr), P (X.blk s H scope (compEnvC scope cl C X.env) fp)
theorem ok_comp (own : List (Str × Nat)) (hc : X.calm = true) (hN : X.N.Nodup) (hi : IOk X tg iter i) (ok : BlkOk X.N X.env.scope scope own) (hg : Blk X scope fun Y => GOk Y tg t) (ht : Blk X scope fun Y => PTsOk Y ifs c) (he : Blk X scope fun Y => EOk Y elt m)
    (hn : (own.map (·.2)).Nodup := by decide) (hsub : ∀ i ∈ t.is, i ∈ own.map (·.2) := by decide) (hs : ∀ x, foldedSetIterable iter X.env x = pure x := by intro _; rfl) :
    EOk X (.ListComp elt [⟨tg, iter, ifs, 0⟩] scope pos) (eComp (own.map (·.2)) t i c m) := pe_mono (pe_lc (g := gT X.K t) (tt := tT X.K c) (te := tE X.K m) hc hN hi ok hg ht he hs) fun σ H Q q => comp_run hn hsub q
theorem s_setc (own : List (Str × Nat)) {j : Nat} {y : Str} {py : Pos} (hp : p ≤ j) (hc : X.calm = true) (hN : X.N.Nodup) (hy : X.N[j]? = some y) (hyl : X.env.scope.names.lookup y = some .local)
    (hsw : swapsWith (.ListComp elt [⟨tg, iter, ifs, 0⟩] scope pos) (some (.Name y py)) spos.line X.env = pure true) (hi : IOk X tg iter i) (ok : BlkOk X.N X.env.scope scope own) (hg : Blk X scope fun Y => GOk Y tg t) (ht : Blk X scope fun Y => PTsOk Y ifs c) (he : Blk X scope fun Y => EOk Y elt m)
    (hn : (own.map (·.2)).Nodup := by decide) (hsub : ∀ i ∈ t.is, i ∈ own.map (·.2) := by decide) (hs : ∀ x, foldedSetIterable iter X.env x = pure x := by intro _; rfl) :
    SOk X p (.Assign [.Name y py] (.ListComp elt [⟨tg, iter, ifs, 0⟩] scope pos) spos) (sSet j (eComp (own.map (·.2)) t i c m)) :=
  ps_mono (ps_setLc (g := gT X.K t) (tt := tT X.K c) (te := tE X.K m) hc hN hy hyl hsw hi ok hg ht he hs) fun D σ H q => comp_run hn hsub (sSet_run hp q)
end
end Fx
set_option Elab.async false
set_option linter.all false
set_option maxRecDepth 100000
set_option maxHeartbeats 4000000
noncomputable section
namespace Fx
open PySem L2

/-! ## defs: data in, a cell out -/
def spP (K : Fg) (F : List D → Option C) : Sp := fun vs H Q _ => ∃ ds G, Same G H ∧ Reps K G vs ds ∧ ∃ c, F ds = some c ∧ Kont K G H c Q
def startE (n : Nat) (cs : List C) : Env := cs.map some ++ List.replicate (n - cs.length) none
/-- the def's function: k parameters, n slots, its body -/
def fnP (k n : Nat) (m : SM) : List D → Option C := fun ds => if ds.length = k then match m (startE n (ds.map C.sh)) with
    | some (.rt c _) => some c
    | some (.nx _) => some (.sh .non)
    | _ => none
  else none
theorem start_get {N : List Str} {vs : List V} {i : Nat} (h : i < vs.length) : (L2.start N vs)[i]? = some (some vs[i]) := by
  unfold L2.start
  rw [List.getElem?_append_left (by simpa using h)]
  simp [h]
theorem con_start {K : Fg} {G H : Hp} {N : List Str} {vs : List V} {ds : List D} (s : Same G H) (r : Reps K G vs ds) : Con K (L2.start N vs) (startE N.length (ds.map C.sh)) G H (fun _ => []) := by
  have hl := r.length
  refine ⟨s, by unfold L2.start startE; simp [hl], fun i c e => ?_, fun _ _ => rfl, fun i j a m => by cases m⟩
  unfold startE at e
  by_cases hi : i < ds.length
  · rw [List.getElem?_append_left (by simpa using hi)] at e
    simp [hi] at e
    subst e
    obtain ⟨v, h1, h2⟩ := r.getD (i := i) (d := ds[i]) (by simp [hi])
    have hv : i < vs.length := by omega
    have ev : vs[i] = v := by simpa [hv] using h1
    exact ⟨vs[i], start_get hv, by rw [ev]; exact .sh h2⟩
  · rw [List.getElem?_append_right (by simpa using hi)] at e
    rw [List.getElem?_replicate] at e
    split at e <;> cases e
theorem fokP {P : Program} {w : World} {K : Fg} {mg : Str → Option Value} {base : Heap} {x qual : Str} {st : Stmt} {f : Addr} {fd : FuncData} {N ps : List Str} {k : Nat} {m : SM} (F : Fun K x qual st f fd) (S : FnScope N ps (defScope st))
    (hbody : ∀ (cdv : Value) (A : Around) (outer : List PySem.Env) (s : Shared) (H : Hp) (E : XK), Room k (A.deeper (PyProof.Rows.envOfC qual (defScope st) s.heap.objs.size f cdv)) → SsOk (cxOf CX0 P w K mg base N qual (defScope st) f cdv A outer s H E).nox 0 (defBody st) m) :
    FnOk P w K mg base CX0 (k + 1) f fd ps (spP K (fnP ps.length N.length m)) := by
  refine F.ok S (fun vs H Q E h => ?_) (fun cdv A outer s H vs Q E hr h => ?_)
  · obtain ⟨ds, G, hs, r, c, e, _⟩ := h
    unfold fnP at e
    split at e
    · rename_i hl; rw [r.length]; exact hl
    · cases e
  · obtain ⟨ds, G, hs, r, c, e, kk⟩ := h
    refine ⟨_, hbody cdv A outer s H E hr, ?_⟩
    unfold fnP at e
    split at e
    · split at e
      · rename_i c0 e0 hm
        cases e
        refine ⟨_, G, _, con_start hs r, _, hm, fun v σ' G' H' fp' fr c' r' n' s' _ => ?_⟩
        exact kk v G' H' fr c'.sub r' (s'.weak (fun a u => by obtain ⟨i, z⟩ := u; cases z) fun a m => .inl (.inr m))
      · rename_i e0 hm
        cases e
        refine ⟨_, G, _, con_start hs r, _, hm, fun σ' G' H' fp' c' s' _ => ?_⟩
        exact kk .non G' H' [] c'.sub (.sh .non) (s'.weak (fun a u => by obtain ⟨i, z⟩ := u; cases z) fun a m => by cases m)
      · cases e
    · cases e
def eCall (F : List D → Option C) (ms : List Arg) : EM := fun env => (evA ms env).bind fun (ds, e) => (F ds).bind fun c => some (c, e)
section
variable {X : Cx} {e : Expr} {es : List Expr} {f : Addr} {fd : FuncData} {ps : List Str} {x : Str} {p pos : Pos} {ms : List Arg} {k : Nat}
theorem ok_call {F : List D → Option C} (hF : FnOk X.prog X.w X.K X.mg X.base CX0 k f fd ps (spP X.K F)) (hr : Room k X.A) (hg : Gl X x) (hm : X.mg x = some (.ref f)) (hk : PySem.W.keepIn X.K (.ref f) = true) (hb : Binds X.K fd ps []) (ha : PA X (e :: es) (tAr X.K ms))
    (hdb : (x == ("__debug__" : Str)) = false := by decide) (he : starEach (e :: es) X.env = (false, eval e X.env) :: starEach es X.env := by rfl) (hpl : (backTo pos (starEach es X.env)).any (·.1) = false := by rfl) : EOk X (.Call (.Name x p) (e :: es) [] pos) (eCall F ms) :=
  pe_mono (pe_call hF hr hg hm hk hb .nil pass0 (paa ha) hdb he hpl) fun σ H Q ⟨env, G, fp, con, c, env', e1, k⟩ => by
    unfold eCall at e1
    cases q : evA ms env with
    | none => simp [q] at e1
    | some y =>
      obtain ⟨ds, e2⟩ := y
      simp only [q, Option.bind_some] at e1
      cases q2 : F ds with
      | none => simp [q2] at e1
      | some c0 =>
        simp [q2] at e1
        obtain ⟨rfl, rfl⟩ := e1
        refine ⟨env, G, fp, con, ds, e2, q, fun vs G' H' fp' c' r s => ?_⟩
        refine ⟨ds, G', c'.sub, (by rw [List.append_nil]; exact r), c0, q2, fun v G2 H2 fr sub rc s2 => ?_⟩
        exact k.end_ (W := fun _ => False) c' (s.weak (fun _ u => u) fun a u => u.elim .inl fun z => z.elim) (fun a z => z.elim) s2 sub rc
end

/-! ## defs that change their first argument, a list of one's own -/
def spB (K : Fg) (F : C → List D → Option (C × C)) : Sp := fun vs H Q _ => ∃ v0 vs' c0 f0 ds G, vs = v0 :: vs' ∧ Same G H ∧ RepC K G H v0 c0 f0 ∧ Reps K G vs' ds ∧ ∃ c c0', F c0 ds = some (c, c0') ∧
  ∀ v G' H' f0' fr, Same G' H' → RepC K G' H' v0 c0' f0' → RepC K G' H' v c fr → (∀ a ∈ fr, a ∉ f0') → Step G H (fun a => a ∈ f0) G' H' (fun a => a ∈ f0' ∨ a ∈ fr) → Q v H'
def get0 (e : Env) : Option C := match e[0]? with
  | some (some c) => some c
  | _ => none
def fnB (k n : Nat) (m : SM) : C → List D → Option (C × C) := fun c0 ds => if ds.length + 1 = k then match m (startE n (c0 :: ds.map C.sh)) with
    | some (.rt c e) => (get0 e).bind fun c0' => some (c, c0')
    | some (.nx e) => (get0 e).bind fun c0' => some (.sh .non, c0')
    | _ => none
  else none
theorem con_startB {K : Fg} {G H : Hp} {N : List Str} {v0 : V} {vs : List V} {c0 : C} {f0 : List Addr} {ds : List D} (s : Same G H) (r0 : RepC K G H v0 c0 f0) (r : Reps K G vs ds) : Con K (L2.start N (v0 :: vs)) (startE N.length (c0 :: ds.map C.sh)) G H (Fp.set (fun _ => []) 0 f0) := by
  have hl := r.length
  refine ⟨s, by unfold L2.start startE; simp [hl], fun i c e => ?_, fun i h => ?_, fun i j a m1 m2 => ?_⟩
  · cases i with
    | zero =>
      unfold startE at e
      simp at e
      subst e
      exact ⟨v0, by unfold L2.start; simp, by rw [Fp.set_same]; exact r0⟩
    | succ i =>
      rw [Fp.set_ne (by omega)]
      unfold startE at e
      simp only [List.map_cons, List.cons_append, List.getElem?_cons_succ] at e
      by_cases hi : i < ds.length
      · rw [List.getElem?_append_left (by simpa using hi)] at e
        simp [hi] at e
        subst e
        obtain ⟨v, h1, h2⟩ := r.getD (i := i) (d := ds[i]) (by simp [hi])
        have hv : i < vs.length := by omega
        have ev : vs[i] = v := by simpa [hv] using h1
        refine ⟨vs[i], ?_, by rw [ev]; exact .sh h2⟩
        have := start_get (N := N) (vs := v0 :: vs) (i := i + 1) (by simp; omega)
        simpa using this
      · rw [List.getElem?_append_right (by simpa using hi)] at e
        rw [List.getElem?_replicate] at e
        split at e <;> cases e
  · cases i with
    | zero => exact absurd (by unfold startE; simp) (h c0)
    | succ i => rw [Fp.set_ne (by omega)]
  · have k1 : ∀ j, a ∈ (Fp.set (fun _ => []) 0 f0) j → j = 0 := fun j m => by
      by_cases hj : j = 0
      · exact hj
      · rw [Fp.set_ne hj] at m; cases m
    rw [k1 i m1, k1 j m2]
theorem fokB {P : Program} {w : World} {K : Fg} {mg : Str → Option Value} {base : Heap} {x qual : Str} {st : Stmt} {f : Addr} {fd : FuncData} {N ps : List Str} {k : Nat} {m : SM} (F : Fun K x qual st f fd) (S : FnScope N ps (defScope st))
    (hbody : ∀ (cdv : Value) (A : Around) (outer : List PySem.Env) (s : Shared) (H : Hp) (E : XK), Room k (A.deeper (PyProof.Rows.envOfC qual (defScope st) s.heap.objs.size f cdv)) → SsOk (cxOf CX0 P w K mg base N qual (defScope st) f cdv A outer s H E).nox 1 (defBody st) m) :
    FnOk P w K mg base CX0 (k + 1) f fd ps (spB K (fnB ps.length N.length m)) := by
  refine F.ok S (fun vs H Q E h => ?_) (fun cdv A outer s H vs Q E hr h => ?_)
  · obtain ⟨v0, vs', c0, f0, ds, G, rfl, hs, r0, r, c, c0', e, _⟩ := h
    unfold fnB at e
    split at e
    · rename_i hl; rw [List.length_cons, r.length]; exact hl
    · cases e
  · obtain ⟨v0, vs', c0, f0, ds, G, rfl, hs, r0, r, c, c0', e, kk⟩ := h
    refine ⟨_, hbody cdv A outer s H E hr, ?_⟩
    have hU : ∀ a, U (Fp.set (fun _ => []) 0 f0) a → a ∈ f0 := fun a u => (U_set u).elim (fun ⟨i, z⟩ => by cases z) id
    have h0 : ∀ {σ' : St}, σ'.take 1 = (L2.start N (v0 :: vs')).take 1 → σ'[0]? = some (some v0) := fun {σ'} h => by
      have := congrArg (fun l => l[0]?) h
      simp only [List.getElem?_take] at this
      have e0 : (L2.start N (v0 :: vs'))[0]? = some (some v0) := start_get (N := N) (vs := v0 :: vs') (i := 0) (by simp)
      rw [e0] at this
      simpa using this
    unfold fnB at e
    split at e
    · split at e
      · rename_i cc e0 hm
        cases q : get0 e0 with
        | none => simp [q] at e
        | some c1 =>
          simp [q] at e
          obtain ⟨rfl, rfl⟩ := e
          refine ⟨_, G, _, con_startB hs r0 r, _, hm, fun v σ' G' H' fp' fr c' r' n' s' t' => ?_⟩
          have eg : e0[0]? = some (some c1) := by
            unfold get0 at q
            split at q
            · rename_i c2 h2; cases q; exact h2
            · cases q
          obtain ⟨v1, ev, rc⟩ := c'.rep 0 _ eg
          rw [h0 t'] at ev
          cases ev
          exact kk v G' H' (fp' 0) fr c'.sub rc r' (fun a m z => n' a m ⟨0, z⟩) (s'.weak hU fun a m => m.elim (fun z => .inl (.inl ⟨0, z⟩)) fun z => .inl (.inr z))
      · rename_i e0 hm
        cases q : get0 e0 with
        | none => simp [q] at e
        | some c1 =>
          simp [q] at e
          obtain ⟨rfl, rfl⟩ := e
          refine ⟨_, G, _, con_startB hs r0 r, _, hm, fun σ' G' H' fp' c' s' t' => ?_⟩
          have eg : e0[0]? = some (some c1) := by
            unfold get0 at q
            split at q
            · rename_i c2 h2; cases q; exact h2
            · cases q
          obtain ⟨v1, ev, rc⟩ := c'.rep 0 _ eg
          rw [h0 t'] at ev
          cases ev
          exact kk .non G' H' (fp' 0) [] c'.sub rc (.sh .non) (fun a m => by cases m) (s'.weak hU fun a m => m.elim (fun z => .inl ⟨0, z⟩) fun z => by cases z)
      · cases e
    · cases e
def eCallB (F : C → List D → Option (C × C)) (i : Nat) (ms : List Arg) : EM := fun env => match env[i]? with
  | some (some _) => (evA ms env).bind fun (ds, e) => match e[i]? with
    | some (some c0) => (F c0 ds).bind fun (c, c0') => some (c, e.set i (some c0'))
    | _ => none
  | _ => none
section
variable {X : Cx} {e0 : Expr} {es : List Expr} {f : Addr} {fd : FuncData} {ps : List Str} {x : Str} {p pos : Pos} {ms : List Arg} {k i : Nat}
theorem ok_callB' {F : C → List D → Option (C × C)} (hF : FnOk X.prog X.w X.K X.mg X.base CX0 k f fd ps (spB X.K F)) (hr : Room k X.A) (hg : Gl X x) (hm : X.mg x = some (.ref f)) (hk : PySem.W.keepIn X.K (.ref f) = true) (hb : Binds X.K fd ps []) (h0 : PE X e0 (tVar i)) (ha : PA X es (tAr X.K ms))
    (hdb : (x == ("__debug__" : Str)) = false := by decide) (he : starEach (e0 :: es) X.env = (false, eval e0 X.env) :: starEach es X.env := by rfl) (hpl : (backTo pos (starEach es X.env)).any (·.1) = false := by rfl) : EOk X (.Call (.Name x p) (e0 :: es) [] pos) (eCallB F i ms) :=
  pe_mono (pe_call hF hr hg hm hk hb .nil pass0 (pa_cons h0 ha he) hdb he hpl) fun σ H Q ⟨env, G, fp, con, c, env', e1, k⟩ => by
    unfold eCallB at e1
    split at e1
    · rename_i cc q0
      obtain ⟨v0, hv0, _⟩ := con.rep i _ q0
      cases q : evA ms env with
      | none => simp [q] at e1
      | some y =>
        obtain ⟨ds, e2⟩ := y
        simp only [q, Option.bind_some] at e1
        split at e1
        · rename_i c0 q1
          cases q2 : F c0 ds with
          | none => simp [q2] at e1
          | some y =>
            obtain ⟨c1, c0'⟩ := y
            simp [q2] at e1
            obtain ⟨rfl, rfl⟩ := e1
            refine ⟨v0, hv0, args_run ms con q fun vs G1 H1 fp1 con1 r s => ?_⟩
            obtain ⟨v0', hv0', r0⟩ := con1.rep i _ q1
            rw [hv0] at hv0'
            cases hv0'
            have hi : i < e2.length := (List.getElem?_eq_some_iff.mp q1).1
            refine ⟨v0, vs ++ [], c0, fp1 i, ds, G1, rfl, con1.sub, r0, by rw [List.append_nil]; exact r, c1, c0', q2, fun v G' H' f0' fr sub r0' rc n s' => ?_⟩
            have hd : ∀ a, U (fp1.set i []) a → ¬ a ∈ fp1 i := fun a u m => by
              obtain ⟨j, mj⟩ := u
              by_cases hj : j = i
              · subst hj; rw [Fp.set_same] at mj; cases mj
              · rw [Fp.set_ne hj] at mj; exact hj (con1.dis j i a mj m)
            have there : ∀ j a, a ∈ fp1 j → ∃ o, H1 a = some o := fun j a m => by
              have : ∃ x, e2[j]? = some (some x) := by
                refine Classical.byContradiction fun no => ?_
                have e := con1.nil j fun x e => no ⟨x, e⟩
                rw [e] at m; cases m
              obtain ⟨x, ex⟩ := this
              obtain ⟨_, _, rx⟩ := con1.rep j x ex
              exact (rx.mem a m).2
            have con2 := (con1.drop (i := i) (σ' := σ) rfl fun _ _ => rfl).step s' hd sub
            have con3 := con2.put (i := i) (by simpa using hi) r0' fun a m j hj z => by
              rw [Fp.set_ne hj] at z
              rcases s'.fr a (.inl m) with w | w
              · exact hj (con1.dis j i a z w)
              · obtain ⟨o, eo⟩ := there j a z
                rw [eo] at w; cases w
            have es : σ.set i (some v0) = σ := by
              apply List.ext_getElem?
              intro j
              by_cases q : j = i
              · subst q; rw [hv0]; exact List.getElem?_set_self (by rw [con1.len]; exact hi)
              · rw [List.getElem?_set_ne (fun z => q z.symm)]
            have ef : Fp.set (Fp.set fp1 i []) i f0' = Fp.set fp1 i f0' := by funext j; unfold Fp.set; split <;> rfl
            rw [es, ef, List.set_set] at con3
            refine k v G' H' _ fr con3 rc (fun a m u => ?_) (s.trans (s'.weak (fun a m => ⟨i, m⟩) fun a u => ?_))
            · obtain ⟨j, mj⟩ := u
              by_cases hj : j = i
              · subst hj; rw [Fp.set_same] at mj; exact n a m mj
              · rw [Fp.set_ne hj] at mj
                rcases s'.fr a (.inr m) with w | w
                · exact hj (con1.dis j i a mj w)
                · obtain ⟨o, eo⟩ := there j a mj
                  rw [eo] at w; cases w
            · rcases u with u | u
              · obtain ⟨j, mj⟩ := u
                by_cases hj : j = i
                · subst hj; rw [Fp.set_same] at mj; exact .inl (.inl mj)
                · rw [Fp.set_ne hj] at mj; exact .inr (.inl ⟨j, mj⟩)
              · exact .inl (.inr u)
        · cases e1
    · cases e1
end
end Fx
set_option Elab.async false
set_option linter.all false
set_option maxRecDepth 100000
set_option maxHeartbeats 4000000
noncomputable section
namespace Fx
open PySem L2
section
variable {K : Fg}
/-! ## built-ins -/
def fLen : List D → Option C
  | [.str x] => if x.length ≤ lim then some (.sh (.int x.length)) else none
  | [.tup ds] => some (.sh (.int ds.length)) | [.lst ds] => some (.sh (.int ds.length)) | [.scr ns] => some (.sh (.int ns.length))
  | [.dk kvs] => some (.sh (.int kvs.length))
  | _ => none
theorem repK_len {G : Hp} : ∀ {xs : List (Key × V)} {ds : List (Key × D)}, RepK K G xs ds → xs.length = ds.length
  | _, _, .nil => rfl
  | _, _, .cons _ r => by simp [repK_len r]
def rLenA (K : Fg) : List V → Hp → VK → Prop := fun xs H Q => (∃ p ys, xs = [.ref p] ∧ (SqL K H p ys ∨ SqT K H p ys) ∧ Q (.int ys.length) H) ∨ ((∃ z, xs = [.str z] ∧ z.length ≤ sizeLine ∧ Q (.int z.length) H) ∨ (∃ a kvs, xs = [V.ref a] ∧ H a = some (.dK kvs) ∧ Q (.int kvs.length) H))
theorem call_lenA {X : Cx} : CallR X (.builtin "len") (rLenA X.K) := CallR.or call_len_seq (CallR.or call_len_str call_lenD)
theorem s_len : OpS K (rLenA K) fLen := fun G H vs ds c Q s rv e k => by
  unfold fLen at e
  split at e
  · split at e
    · rename_i x hl
      cases e
      cases rv with | cons r1 rv => cases rv; cases r1.str; exact .inr (.inl ⟨x, rfl, by rw [← lim_eq]; exact hl, k.sh s (.int _)⟩)
    · cases e
  · rename_i ds
    cases e
    cases rv with | cons r1 rv => cases rv; obtain ⟨a, xs, rfl, h1, q1⟩ := r1.tup; exact .inl ⟨a, xs, rfl, .inr (SqT.of (s _ _ h1)), by rw [q1.length]; exact k.sh s (.int _)⟩
  · rename_i ds
    cases e
    cases rv with | cons r1 rv => cases rv; obtain ⟨a, xs, rfl, h1, q1⟩ := r1.lst s; exact .inl ⟨a, xs, rfl, .inl (SqL.of h1), by rw [q1.length]; exact k.sh s (.int _)⟩
  · rename_i ns
    cases e
    cases rv with | cons r1 rv => cases rv; obtain ⟨a, rfl, h1⟩ := r1.scr s; exact .inl ⟨a, _, rfl, .inl h1, by rw [List.length_map]; exact k.sh s (.int _)⟩
  · rename_i kvs
    cases e
    cases rv with | cons r1 rv => cases rv; obtain ⟨a, xs, rfl, h1, q1⟩ := r1.dk_ s; exact .inr (.inr ⟨a, xs, rfl, h1, by rw [repK_len q1]; exact k.sh s (.int _)⟩)
  · cases e
def fInt : List D → Option C
  | [.int i] => some (.sh (.int i)) | [.bl b] => some (.sh (.int (if b then 1 else 0)))
  | _ => none
theorem s_int : OpS K (fun xs H Q => (∃ i, xs = [.int i] ∧ Q (.int i) H) ∨ ∃ k, xs = [.bl k] ∧ Q (.int (if k then 1 else 0)) H) fInt := fun G H vs ds c Q s rv e k => by
  unfold fInt at e
  split at e
  · cases e; cases rv with | cons r1 rv => cases rv; cases r1.int; exact .inl ⟨_, rfl, k.sh s (.int _)⟩
  · cases e; cases rv with | cons r1 rv => cases rv; cases r1.bl; exact .inr ⟨_, rfl, k.sh s (.int _)⟩
  · cases e
def fAbs : List D → Option C
  | [.int i] => some (.sh (.int (if i < 0 then -i else i)))
  | _ => none
theorem s_abs : OpS K (fun xs H Q => ∃ i, xs = [.int i] ∧ Q (.int (if i < 0 then -i else i)) H) fAbs := fun G H vs ds c Q s rv e k => by
  unfold fAbs at e
  split at e
  · cases e; cases rv with | cons r1 rv => cases rv; cases r1.int; exact ⟨_, rfl, k.sh s (.int _)⟩
  · cases e
def intsOf : List D → Option (List Int)
  | [] => some []
  | .int i :: r => (intsOf r).bind fun is => some (i :: is)
  | _ => none
theorem intsOf_inv : ∀ {ds : List D} {ns : List Int}, intsOf ds = some ns → ds = ns.map D.int
  | [], ns, e => by cases e; rfl
  | .int i :: r, ns, e => by
    simp only [intsOf] at e
    cases q : intsOf r with
    | none => simp [q] at e
    | some is => simp [q] at e; subst e; rw [intsOf_inv q]; rfl
  | .non :: _, _, e => by cases e
  | .bl _ :: _, _, e => by cases e
  | .str _ :: _, _, e => by cases e
  | .tup _ :: _, _, e => by cases e
  | .lst _ :: _, _, e => by cases e
  | .dk _ :: _, _, e => by cases e
  | .dt _ :: _, _, e => by cases e
  | .scr _ :: _, _, e => by cases e
@[simp] theorem intsOf_map : ∀ ns : List Int, intsOf (ns.map D.int) = some ns
  | [] => rfl
  | n :: r => by simp [intsOf, intsOf_map r]
def mx2 (i j : Int) : Int := if j > i then j else i
def mn2 (i j : Int) : Int := if j < i then j else i
def maxL : List Int → Int
  | [] => 0 | a :: r => r.foldl mx2 a
def minL : List Int → Int
  | [] => 0 | a :: r => r.foldl mn2 a
theorem mxF (r : List Int) : ∀ a : Int, a ≤ r.foldl mx2 a ∧ (∀ y ∈ r, y ≤ r.foldl mx2 a) ∧ (r.foldl mx2 a = a ∨ r.foldl mx2 a ∈ r) := by
  induction r with
  | nil => intro a; simp
  | cons b r ih =>
    intro a
    obtain ⟨h1, h2, h3⟩ := ih (mx2 a b)
    have ha : a ≤ mx2 a b := by unfold mx2; split <;> omega
    have hb : b ≤ mx2 a b := by unfold mx2; split <;> omega
    refine ⟨by rw [List.foldl_cons]; omega, fun y m => ?_, ?_⟩
    · rw [List.foldl_cons]
      rcases List.mem_cons.mp m with e | m
      · subst e; omega
      · exact h2 y m
    · rw [List.foldl_cons]
      rcases h3 with h3 | h3
      · rw [h3]; unfold mx2; split <;> simp
      · exact .inr (by simp [h3])
theorem mnF (r : List Int) : ∀ a : Int, r.foldl mn2 a ≤ a ∧ (∀ y ∈ r, r.foldl mn2 a ≤ y) ∧ (r.foldl mn2 a = a ∨ r.foldl mn2 a ∈ r) := by
  induction r with
  | nil => intro a; simp
  | cons b r ih =>
    intro a
    obtain ⟨h1, h2, h3⟩ := ih (mn2 a b)
    have ha : mn2 a b ≤ a := by unfold mn2; split <;> omega
    have hb : mn2 a b ≤ b := by unfold mn2; split <;> omega
    refine ⟨by rw [List.foldl_cons]; omega, fun y m => ?_, ?_⟩
    · rw [List.foldl_cons]
      rcases List.mem_cons.mp m with e | m
      · subst e; omega
      · exact h2 y m
    · rw [List.foldl_cons]
      rcases h3 with h3 | h3
      · rw [h3]; unfold mn2; split <;> simp
      · exact .inr (by simp [h3])
theorem maxL_ge (l : List Int) : ∀ y ∈ l, y ≤ maxL l := fun y m => by
  cases l with
  | nil => cases m
  | cons a r =>
    rcases List.mem_cons.mp m with e | m
    · subst e; exact (mxF r y).1
    · exact (mxF r a).2.1 y m
theorem maxL_mem (l : List Int) (h : l ≠ []) : maxL l ∈ l := by
  cases l with
  | nil => exact absurd rfl h
  | cons a r =>
    rcases (mxF r a).2.2 with e | e
    · show r.foldl mx2 a ∈ _; rw [e]; simp
    · exact List.mem_cons_of_mem _ e
theorem minL_le (l : List Int) : ∀ y ∈ l, minL l ≤ y := fun y m => by
  cases l with
  | nil => cases m
  | cons a r =>
    rcases List.mem_cons.mp m with e | m
    · subst e; exact (mnF r y).1
    · exact (mnF r a).2.1 y m
theorem minL_mem (l : List Int) (h : l ≠ []) : minL l ∈ l := by
  cases l with
  | nil => exact absurd rfl h
  | cons a r =>
    rcases (mnF r a).2.2 with e | e
    · show r.foldl mn2 a ∈ _; rw [e]; simp
    · exact List.mem_cons_of_mem _ e
def fMax : List D → Option C
  | [.int i, .int j] => some (.sh (.int (mx2 i j)))
  | [.lst ds] => (intsOf ds).bind fun ns => if ns = [] then none else some (.sh (.int (maxL ns)))
  | _ => none
def fMin : List D → Option C
  | [.int i, .int j] => some (.sh (.int (mn2 i j)))
  | [.lst ds] => (intsOf ds).bind fun ns => if ns = [] then none else some (.sh (.int (minL ns)))
  | _ => none
def rMaxA (K : Fg) : List V → Hp → VK → Prop := fun xs H Q => (∃ i j, xs = [.int i, .int j] ∧ Q (.int (if j > i then j else i)) H) ∨ rMax K xs H Q
def rMinA (K : Fg) : List V → Hp → VK → Prop := fun xs H Q => (∃ i j, xs = [.int i, .int j] ∧ Q (.int (if j < i then j else i)) H) ∨ rMin K xs H Q
theorem call_maxA {X : Cx} (hc : X.calm = true) : CallR X (.builtin "max") (rMaxA X.K) := CallR.or (call_max2 hc) (cr_max hc)
theorem call_minA {X : Cx} (hc : X.calm = true) : CallR X (.builtin "min") (rMinA X.K) := CallR.or (call_min2 hc) (cr_min hc)
theorem s_max : OpS K (rMaxA K) fMax := fun G H vs ds c Q s rv e k => by
  unfold fMax at e
  split at e
  · cases e; cases rv with | cons r1 rv => cases rv with | cons r2 rv => cases rv; cases r1.int; cases r2.int; exact .inl ⟨_, _, rfl, k.sh s (.int _)⟩
  · rename_i ds
    cases q : intsOf ds with
    | none => simp [q] at e
    | some ns =>
      simp only [q, Option.bind_some] at e
      split at e
      · cases e
      · rename_i hne
        cases e
        have := intsOf_inv q; subst this
        cases rv with
        | cons r1 rv =>
          cases rv
          obtain ⟨a, xs, rfl, h1, q1⟩ := r1.lst s
          cases q1.ints_inv
          refine .inr ⟨a, ns, rfl, SqL.of h1, List.length_pos_iff.mpr hne, fun m hm hle => ?_⟩
          have : m = maxL ns := Int.le_antisymm (maxL_ge ns m hm) (hle _ (maxL_mem ns hne))
          rw [this]; exact k.sh s (.int _)
  · cases e
theorem s_min : OpS K (rMinA K) fMin := fun G H vs ds c Q s rv e k => by
  unfold fMin at e
  split at e
  · cases e; cases rv with | cons r1 rv => cases rv with | cons r2 rv => cases rv; cases r1.int; cases r2.int; exact .inl ⟨_, _, rfl, k.sh s (.int _)⟩
  · rename_i ds
    cases q : intsOf ds with
    | none => simp [q] at e
    | some ns =>
      simp only [q, Option.bind_some] at e
      split at e
      · cases e
      · rename_i hne
        cases e
        have := intsOf_inv q; subst this
        cases rv with
        | cons r1 rv =>
          cases rv
          obtain ⟨a, xs, rfl, h1, q1⟩ := r1.lst s
          cases q1.ints_inv
          refine .inr ⟨a, ns, rfl, SqL.of h1, List.length_pos_iff.mpr hne, fun m hm hle => ?_⟩
          have : m = minL ns := Int.le_antisymm (hle _ (minL_mem ns hne)) (minL_le ns m hm)
          rw [this]; exact k.sh s (.int _)
  · cases e
def fSum : List D → Option C
  | [.lst ds] => (intsOf ds).bind fun ns => some (.sh (.int ns.sum))
  | _ => none
theorem s_sum : OpS K (rSum K) fSum := fun G H vs ds c Q s rv e k => by
  unfold fSum at e
  split at e
  · rename_i ds
    cases q : intsOf ds with
    | none => simp [q] at e
    | some ns =>
      simp [q] at e; subst e
      have := intsOf_inv q; subst this
      cases rv with
      | cons r1 rv =>
        cases rv
        obtain ⟨a, xs, rfl, h1, q1⟩ := r1.lst s
        cases q1.ints_inv
        exact ⟨a, ns, rfl, SqL.of h1, k.sh s (.int _)⟩
  · cases e
def blsOf : List D → Option (List Bool)
  | [] => some []
  | .bl i :: r => (blsOf r).bind fun is => some (i :: is)
  | _ => none
theorem blsOf_inv : ∀ {ds : List D} {ns : List Bool}, blsOf ds = some ns → ds = ns.map D.bl
  | [], ns, e => by cases e; rfl
  | .bl i :: r, ns, e => by
    simp only [blsOf] at e
    cases q : blsOf r with
    | none => simp [q] at e
    | some is => simp [q] at e; subst e; rw [blsOf_inv q]; rfl
  | .non :: _, _, e => by cases e
  | .int _ :: _, _, e => by cases e
  | .str _ :: _, _, e => by cases e
  | .tup _ :: _, _, e => by cases e
  | .lst _ :: _, _, e => by cases e
  | .dk _ :: _, _, e => by cases e
  | .dt _ :: _, _, e => by cases e
  | .scr _ :: _, _, e => by cases e
@[simp] theorem blsOf_map : ∀ ns : List Bool, blsOf (ns.map D.bl) = some ns
  | [] => rfl
  | n :: r => by simp [blsOf, blsOf_map r]
theorem Reps.bls_inv {G : Hp} {vs : List V} : ∀ {ns : List Bool}, Reps K G vs (ns.map D.bl) → vs = ns.map V.bl := by
  intro ns
  induction ns generalizing vs with
  | nil => intro h; cases h; rfl
  | cons n r ih =>
    intro h
    cases h with
    | cons a b => cases a; rw [ih b]; rfl
def fAll : List D → Option C
  | [.lst ds] => (blsOf ds).bind fun ns => some (.sh (.bl (ns.all id)))
  | _ => none
def fAny : List D → Option C
  | [.lst ds] => (blsOf ds).bind fun ns => some (.sh (.bl (ns.any id)))
  | _ => none
theorem s_all : OpS K (rAll K) fAll := fun G H vs ds c Q s rv e k => by
  unfold fAll at e
  split at e
  · rename_i ds
    cases q : blsOf ds with
    | none => simp [q] at e
    | some ns =>
      simp [q] at e; subst e
      have := blsOf_inv q; subst this
      cases rv with
      | cons r1 rv =>
        cases rv
        obtain ⟨a, xs, rfl, h1, q1⟩ := r1.lst s
        cases q1.bls_inv
        exact ⟨a, ns, rfl, SqL.of h1, k.sh s (.bl _)⟩
  · cases e
theorem s_any : OpS K (rAny K) fAny := fun G H vs ds c Q s rv e k => by
  unfold fAny at e
  split at e
  · rename_i ds
    cases q : blsOf ds with
    | none => simp [q] at e
    | some ns =>
      simp [q] at e; subst e
      have := blsOf_inv q; subst this
      cases rv with
      | cons r1 rv =>
        cases rv
        obtain ⟨a, xs, rfl, h1, q1⟩ := r1.lst s
        cases q1.bls_inv
        exact ⟨a, ns, rfl, SqL.of h1, k.sh s (.bl _)⟩
  · cases e
def fList : List D → Option C
  | [.lst ds] => some (.ol ds) | [.tup ds] => some (.ol ds)
  | _ => none
theorem s_list : OpS K (fun xs H Q => ∃ p ys, xs = [.ref p] ∧ (SqL K H p ys ∨ SqT K H p ys) ∧ ∀ l, H l = none → Q (.ref l) (upd H l (.lst ys))) fList := fun G H vs ds c Q s rv e k => by
  unfold fList at e
  split at e
  · cases e
    cases rv with | cons r1 rv => cases rv; obtain ⟨a, xs, rfl, h1, q1⟩ := r1.lst s; exact ⟨a, xs, rfl, .inl (SqL.of h1), fun l hl => k.ol s q1 hl⟩
  · cases e
    cases rv with | cons r1 rv => cases rv; obtain ⟨a, xs, rfl, h1, q1⟩ := r1.tup; exact ⟨a, xs, rfl, .inr (SqT.of (s _ _ h1)), fun l hl => k.ol s q1 hl⟩
  · cases e
def fTuple : List D → Option C
  | [.lst ds] => some (.sh (.tup ds)) | [.tup ds] => some (.sh (.tup ds))
  | _ => none
theorem s_tuple : OpS K (fun xs H Q => ∃ p ys, xs = [.ref p] ∧ ((SqL K H p ys ∧ ∀ l, H l = none → Q (.ref l) (upd H l (.tup ys))) ∨ (SqT K H p ys ∧ Q (.ref p) H))) fTuple := fun G H vs ds c Q s rv e k => by
  unfold fTuple at e
  split at e
  · cases e
    cases rv with | cons r1 rv => cases rv; obtain ⟨a, xs, rfl, h1, q1⟩ := r1.lst s; exact ⟨a, xs, rfl, .inl ⟨SqL.of h1, fun l hl => k.tup s q1 hl⟩⟩
  · cases e
    cases rv with | cons r1 rv => cases rv; obtain ⟨a, xs, rfl, h1, q1⟩ := r1.tup; exact ⟨a, xs, rfl, .inr ⟨SqT.of (s _ _ h1), k.sh s (.tup h1 q1)⟩⟩
  · cases e
end

/-! ## list(range(..)) -/
def eLRg (m : IM) : EM := fun env => (m env).bind fun (ds, e) => if ds.length ≤ lim then some (.ol ds, e) else none
section
variable {X : Cx} {a b : Expr}
def rgOk (i j : Int) : Bool := okR i && okR j && decide ((j - i).toNat ≤ lim)
theorem rgOk_iff {i j : Int} (h : rgOk i j = true) : RgOk i j := by
  unfold rgOk at h
  simp only [Bool.and_eq_true, decide_eq_true_eq] at h
  have h1 := okR_iff.mp h.1.1
  have h2 := okR_iff.mp h.1.2
  exact ⟨h1.1, h1.2, h2.1, h2.2, by have := h.2; rw [lim_val] at this; exact this⟩
theorem reps_rg {K : Fg} {G : Hp} (i j : Int) : Reps K G (rgV i j) (rng i j) := by
  unfold rgV rng
  generalize List.range (j - i).toNat = l
  induction l with
  | nil => exact .nil
  | cons x r ih => exact .cons (.int _) ih
def eLR1 (o : Opd) : EM := fun env => (evO [o] env).bind fun (ds, e) => match ds with
  | [.int n] => if rgOk 0 n then some (.ol (rng 0 n), e) else none
  | _ => none
theorem ok_lrg1 {o : Opd} {p p2 pos pos2 : Pos} (hc : X.calm = true) (hg : Gl X "list") (hm : X.mg "list" = none) (hg2 : Gl X "range") (hm2 : X.mg "range" = none) (ha : OOk X a o) (na : starEach [a] X.env = (false, eval a X.env) :: starEach [] X.env := by rfl)
    (na2 : starEach [.Call (.Name "range" p2) [a] [] pos2] X.env = (false, eval (.Call (.Name "range" p2) [a] [] pos2) X.env) :: starEach [] X.env := by rfl) : EOk X (.Call (.Name "list" p) [.Call (.Name "range" p2) [a] [] pos2] [] pos) (eLR1 o) :=
  pe_mono (pe_listRg hc hg hm (prg_1 hg2 hm2 ha na) na2) fun σ H Q ⟨env, G, fp, con, c, env', e1, k⟩ => by
    unfold eLR1 at e1
    cases q : evO [o] env with
    | none => simp [q] at e1
    | some y =>
      obtain ⟨ds, e2⟩ := y
      simp only [q, Option.bind_some] at e1
      split at e1
      · rename_i n
        split at e1
        · rename_i hn
          cases e1
          have z : tO X.K [o] σ H (fun vs H1 => ∃ x, vs = [x] ∧ ∃ n, x = .int n ∧ RgOk 0 n ∧ ∀ q, H1 q = none → Q (.ref q) (upd H1 q (.lst (rgV 0 n)))) := ⟨env, G, fp, con, _, _, q, fun vs G' H' fp' c' rv s => by
            cases rv with
            | cons r1 rv =>
              cases rv; cases r1.int
              refine ⟨_, rfl, n, rfl, rgOk_iff hn, fun l hl => ?_⟩
              exact k.end_ (W := fun _ => False) (fr := [l]) c' (s.weak (fun _ u => u) fun a u => u.elim .inl fun z => z.elim) (fun a z => z.elim) (Step.newH (o := .lst (rgV 0 n)) hl) (same_newH c'.sub hl) (.ol (none_of_same c'.sub hl) upd_same (reps_rg 0 n))⟩
          refine vk_mono_opd o (fun x H1 h1 => ?_) (tOs1 (tO_tOs z))
          obtain ⟨x', ex, h1⟩ := h1
          cases ex
          obtain ⟨n', en, h1⟩ := h1
          exact ⟨n', en, h1⟩
        · cases e1
      · cases e1
end
end Fx
set_option Elab.async false
set_option linter.all false
set_option maxRecDepth 100000
set_option maxHeartbeats 4000000
noncomputable section
namespace Fx
open PySem L2

/-! ## isinstance against built-in types -/
def D.ty : D → String
  | .non => "NoneType" | .bl _ => "bool" | .int _ => "int" | .str _ => "str" | .tup _ => "tuple" | .lst _ => "list" | .dk _ => "dict" | .dt _ => "dict" | .scr _ => "list"
/-- whether a value of type a is of type b -/
def subT (a b : String) : Bool := a == b || (a == "bool" && b == "int")
def tyNames : List String := ["int", "bool", "str", "tuple", "list"]
def tyAll : List String := ["NoneType", "bool", "int", "str", "tuple", "list", "dict"]
theorem kit_all : (tyAll.all fun a => tyNames.all fun b => kitB a b == some (subT a b)) = true := by decide +kernel
theorem ty_mem (d : D) : d.ty ∈ tyAll := by cases d <;> simp [D.ty, tyAll]
theorem kit_sub {K : Fg} {b : String} (d : D) (h : b ∈ tyNames) : PySem.W.kitOne K (.type d.ty) (.type b) = some (subT d.ty b) := by
  have := kit_all
  rw [List.all_eq_true] at this
  have := this _ (ty_mem d)
  rw [List.all_eq_true] at this
  have := this _ h
  exact kit_ty (by simpa using this)
def D.isT (d : D) (bs : List String) : Bool := bs.any fun b => subT d.ty b
theorem kit_any {K : Fg} (d : D) : ∀ (bs : List String), (∀ b ∈ bs, b ∈ tyNames) → PySem.W.kitAny K (.type d.ty) (bs.map Value.type) = some (d.isT bs)
  | [], _ => rfl
  | b :: bs, h => by
    have h1 := kit_sub (K := K) d (h b (by simp))
    have h2 := kit_any (K := K) d bs fun c m => h c (by simp [m])
    show PySem.W.kitAny K (.type d.ty) (.type b :: bs.map Value.type) = some (d.isT (b :: bs))
    unfold D.isT at h2 ⊢
    rw [List.any_cons]
    cases e : subT d.ty b with
    | true => exact kitAny_cons (h1.trans (by rw [e])) (fun z => by cases z) (fun _ => rfl)
    | false => exact kitAny_cons (h1.trans (by rw [e])) (fun _ => by simpa using h2) (fun z => by cases z)
theorem tyX_of {K : Fg} {G H : Hp} {x : V} {d : D} (s : Same G H) (r : RepV K G H x d) (h : ∀ ns, d ≠ .scr ns) : TyX K H x (.type d.ty) := by
  cases r with
  | sh r =>
    cases r with
    | non => exact .base .non
    | bl b => exact .base (.bl b)
    | int i => exact .base (.int i)
    | str x => exact .base (.str x)
    | tup h1 r => exact .base (.tup (s _ _ h1))
    | lst h1 r => exact .base (.lst (s _ _ h1))
    | dk h1 r => exact .base (.dK (s _ _ h1))
    | dt h1 r => exact .base (.dT (s _ _ h1))
    | scr h1 => exact absurd rfl (h _)
  | ol h1 r => exact .base (.lst h1)
  | dk h1 r => exact .base (.dK h1)
  | dt h1 r => exact .base (.dT h1)
def D.noScr : D → Bool
  | .scr _ => false | _ => true
def eIsi (bs : List String) (o : Opd) : EM := fun env => (evO [o] env).bind fun (ds, e) => match ds with
  | [d] => if d.noScr then some (.sh (.bl (d.isT bs)), e) else none
  | _ => none
section
variable {X : Cx} {a : Expr} {o : Opd} {p pos : Pos}
theorem eIsi_run {bs : List String} {σ : St} {H : Hp} {Q : VK} (q : tE X.K (eIsi bs o) σ H Q) : tOpd X.K o σ H fun x H1 => ∃ d, TyX X.K H1 x (.type d.ty) ∧ Q (.bl (D.isT d bs)) H1 ∧ ∃ G fp env' σ' , Con X.K σ' env' G H1 fp ∧ (∀ p o, H1 p = none → Q (.bl (D.isT d bs)) (upd H1 p o)) := by
  obtain ⟨env, G, fp, con, c, env', e1, k⟩ := q
  unfold eIsi at e1
  cases q : evO [o] env with
  | none => simp [q] at e1
  | some y =>
    obtain ⟨ds, e2⟩ := y
    simp only [q, Option.bind_some] at e1
    split at e1
    · rename_i d
      split at e1
      · rename_i hn
        cases e1
        have z : tO X.K [o] σ H (fun vs H1 => ∃ x, vs = [x] ∧ ∃ d, TyX X.K H1 x (.type d.ty) ∧ Q (.bl (D.isT d bs)) H1 ∧ ∃ G fp env' σ', Con X.K σ' env' G H1 fp ∧ (∀ p o, H1 p = none → Q (.bl (D.isT d bs)) (upd H1 p o))) := ⟨env, G, fp, con, _, _, q, fun vs G' H' fp' c' rv s => by
          cases rv with
          | cons r1 rv =>
            cases rv
            refine ⟨_, rfl, d, tyX_of c'.sub r1 (fun ns e => by subst e; simp [D.noScr] at hn), k.sh c' s (.bl _), G', fp', _, σ, c', fun p o hp => ?_⟩
            exact k.end_ (W := fun _ => False) (fr := []) c' (s.weak (fun _ u => u) fun a u => u.elim .inl fun z => z.elim) (fun a z => z.elim)
              (⟨fun _ _ e => e, fun a u e _ => by rw [upd_ne (ne_of_none e hp)]; exact e, fun a u e => .inl e, fun a f => by cases f⟩) (same_newH c'.sub hp) (.sh (.bl _))⟩
        refine vk_mono_opd o (fun x H1 h1 => ?_) (tOs1 (tO_tOs z))
        obtain ⟨x', ex, h1⟩ := h1
        cases ex
        exact h1
      · cases e1
    · cases e1
theorem ok_isi {x : Str} {b : String} {p2 : Pos} (hg : Gl X "isinstance") (hm : X.mg "isinstance" = none) (ha : OOk X a o) (hg2 : Gl X x) (hm2 : X.mg x = none) (hb : bootBuiltins x = some (.type b)) (hmem : b ∈ tyNames)
    (hn2 : x ≠ "__name__" := by decide) (hd2 : (x == ("__debug__" : Str)) = false := by decide)
    (h1 : starEach [a, .Name x p2] X.env = (false, eval a X.env) :: starEach [.Name x p2] X.env := by rfl) (h2 : starEach [.Name x p2] X.env = (false, eval (.Name x p2) X.env) :: starEach [] X.env := by rfl) (hpl : (backTo pos (starEach [.Name x p2] X.env)).any (·.1) = false := by rfl) :
    EOk X (.Call (.Name "isinstance" p) [a, .Name x p2] [] pos) (eIsi [b] o) :=
  pe_mono (pe_callB call_isi hg hm (by decide +kernel) (pa_cons ha (pa_cons (pe_bltn (v := .ty b) hg2 hm2 hb rfl hn2 hd2) pa_nil h2) h1) (by decide) (by decide) h1 hpl) fun σ H Q q => by
    refine vk_mono_opd o (fun x H1 h => ?_) (eIsi_run q)
    obtain ⟨d, ty, q1, _⟩ := h
    refine ⟨x, .ty b, _, .type b, _, rfl, .ty b, ty, kit_sub d hmem, ?_⟩
    have e : d.isT [b] = subT d.ty b := by simp [D.isT]
    rw [← e]
    exact q1
theorem ok_isi2 {x y : Str} {b c : String} {p2 p3 tp : Pos} {kk} (hg : Gl X "isinstance") (hm : X.mg "isinstance" = none) (ha : OOk X a o) (hg2 : Gl X x) (hm2 : X.mg x = none) (hb : bootBuiltins x = some (.type b)) (hg3 : Gl X y) (hm3 : X.mg y = none) (hc : bootBuiltins y = some (.type c)) (hmem : b ∈ tyNames) (hmem2 : c ∈ tyNames)
    (hn2 : x ≠ "__name__" := by decide) (hd2 : (x == ("__debug__" : Str)) = false := by decide) (hn3 : y ≠ "__name__" := by decide) (hd3 : (y == ("__debug__" : Str)) = false := by decide)
    (h1 : starEach [a, .Tuple [.Name x p2, .Name y p3] kk tp] X.env = (false, eval a X.env) :: starEach [.Tuple [.Name x p2, .Name y p3] kk tp] X.env := by rfl) (h2 : starEach [.Tuple [.Name x p2, .Name y p3] kk tp] X.env = (false, eval (.Tuple [.Name x p2, .Name y p3] kk tp) X.env) :: starEach [] X.env := by rfl)
    (h3 : starEach [.Name x p2, .Name y p3] X.env = (false, eval (.Name x p2) X.env) :: starEach [.Name y p3] X.env := by rfl) (h4 : starEach [.Name y p3] X.env = (false, eval (.Name y p3) X.env) :: starEach [] X.env := by rfl)
    (hpl : (backTo pos (starEach [.Tuple [.Name x p2, .Name y p3] kk tp] X.env)).any (·.1) = false := by rfl) :
    EOk X (.Call (.Name "isinstance" p) [a, .Tuple [.Name x p2, .Name y p3] kk tp] [] pos) (eIsi [b, c] o) :=
  pe_mono (pe_callB call_isiT hg hm (by decide +kernel) (pa_cons ha (pa_cons (pe_tup (pa_cons (pe_bltn (v := .ty b) hg2 hm2 hb rfl hn2 hd2) (pa_cons (pe_bltn (v := .ty c) hg3 hm3 hc rfl hn3 hd3) pa_nil h4) h3)) pa_nil h2) h1) (by decide) (by decide) h1 hpl) fun σ H Q q => by
    refine vk_mono_opd o (fun x H1 h => ?_) (eIsi_run q)
    obtain ⟨d, ty, _, G, fp, env', σ', con, q2⟩ := h
    refine ⟨by show 2 ≤ sizeLine; decide, fun tp hp => ?_⟩
    have ty' : TyX X.K (upd H1 tp (.tup [.ty b, .ty c])) x (.type d.ty) := by
      have up : ∀ {a u}, H1 a = some u → (upd H1 tp (.tup [.ty b, .ty c])) a = some u := fun e => by rw [upd_ne (ne_of_none e hp)]; exact e
      generalize hq : Value.type d.ty = tv at ty
      cases ty with
      | base b0 =>
        cases b0 with
        | non => exact .base .non
        | bl b => exact .base (.bl b)
        | int i => exact .base (.int i)
        | str x => exact .base (.str x)
        | flt x => exact .base (.flt x)
        | lst e => exact .base (.lst (up e))
        | frz e => exact .base (.frz (up e))
        | tup e => exact .base (.tup (up e))
        | dK e => exact .base (.dK (up e))
        | dT e => exact .base (.dT (up e))
        | ins e => cases hq
      | byt b => exact .byt b
      | set e => exact .set (up e)
      | kList e c => exact .kList e c
      | kTuple e c => exact .kTuple e c
      | kDict e c => exact .kDict e c
      | fTuple e => exact .fTuple (up e)
      | fDict e => exact .fDict (up e)
    exact ⟨x, tp, [.ty b, .ty c], _, [.type b, .type c], _, rfl, upd_same, .cons (.ty b) (.cons (.ty c) .nil), ty', kit_any d [b, c] (fun z m => by simp at m; rcases m with m | m <;> (subst m; assumption)), q2 tp _ hp⟩
end

/-! ## in -/
def D.flat : D → Bool
  | .non | .bl _ | .int _ | .str _ => true | _ => false
def memD (x : D) (ds : List D) : Bool := ds.any fun y => D.eqv y x
theorem flat_of {K : Fg} {G : Hp} {v : V} {d : D} (r : Rep K G v d) (h : d.flat = true) : flatV v = true := by cases r <;> first | rfl | cases h
theorem eqV_of {K : Fg} {G : Hp} {v w : V} {d e : D} (r : Rep K G v d) (q : Rep K G w e) (h : d.flat = true) (h' : e.flat = true) : eqV v w = D.eqv d e := by
  cases r <;> cases q <;> first | rfl | cases h | cases h'
theorem flats_of {K : Fg} {G : Hp} : ∀ {ds : List D} {vs : List V}, Reps K G vs ds → ds.all D.flat = true → vs.all flatV = true
  | _, _, .nil, _ => rfl
  | _, _, .cons h r, e => by
    rw [List.all_cons, Bool.and_eq_true] at e ⊢
    exact ⟨flat_of h e.1, flats_of r e.2⟩
theorem inV_of {K : Fg} {G : Hp} {x : V} {d : D} (rx : Rep K G x d) (hx : d.flat = true) : ∀ {ds : List D} {vs : List V}, Reps K G vs ds → ds.all D.flat = true → inV x vs = memD d ds
  | _, _, .nil, _ => rfl
  | _, _, .cons h r, e => by
    rw [List.all_cons, Bool.and_eq_true] at e
    unfold inV memD
    rw [List.any_cons, List.any_cons, eqV_of h rx e.1 hx]
    have := inV_of rx hx r e.2
    unfold inV memD at this
    rw [this]
def keyD : D → Option Key
  | .int i => some (.inl i) | .str x => some (.inr x) | _ => none
def keysD : List D → Option (List Key)
  | [] => some []
  | d :: r => (keyD d).bind fun k => (keysD r).bind fun ks => some (k :: ks)
def valD {κ : Type} [DecidableEq κ] (kvs : List (κ × D)) (k : κ) : Option D := (kvs.find? fun kv => decide (kv.1 = k)).map (·.2)
def putD {κ : Type} [DecidableEq κ] (kvs : List (κ × D)) (k : κ) (v : D) : List (κ × D) :=
  if (kvs.any fun kv => decide (kv.1 = k)) = true then kvs.map (fun kv => if kv.1 = k then (kv.1, v) else kv) else kvs ++ [(k, v)]
def dropD {κ : Type} [DecidableEq κ] (kvs : List (κ × D)) (k : κ) : List (κ × D) := kvs.filter fun kv => decide (kv.1 ≠ k)
theorem keyD_of {K : Fg} {G : Hp} {v : V} {d : D} {k : Key} (r : Rep K G v d) (e : keyD d = some k) : v = kV k := by
  cases r <;> first | (cases e; rfl) | cases e
theorem keysD_of {K : Fg} {G : Hp} : ∀ {ds : List D} {vs : List V} {ks : List Key}, Reps K G vs ds → keysD ds = some ks → vs = ks.map kV
  | [], vs, ks, r, e => by cases r; cases e; rfl
  | d :: ds, vs, ks, r, e => by
    cases r with
    | cons h r =>
      unfold keysD at e
      cases q : keyD d with
      | none => simp [q] at e
      | some k =>
        cases q2 : keysD ds with
        | none => simp [q, q2] at e
        | some ks => simp [q, q2] at e; subst e; rw [keyD_of h q, keysD_of r q2]; rfl
theorem valK_of {K : Fg} {G : Hp} {k : Key} : ∀ {ds : List (Key × D)} {vs : List (Key × V)}, RepK K G vs ds → (∃ v d, valV vs k = some v ∧ valD ds k = some d ∧ Rep K G v d) ∨ (valV vs k = none ∧ valD ds k = none)
  | _, _, .nil => .inr ⟨rfl, rfl⟩
  | _, _, .cons (k := j) (v := v) (d := d) (vs := vs) (ds := ds) h r => by
    by_cases e : j = k
    · exact .inl ⟨v, d, by simp [valV, e], by simp [valD, e], h⟩
    · have ih := valK_of (k := k) r
      have e1 : valV ((j, v) :: vs) k = valV vs k := by simp [valV, List.find?_cons, e]
      have e2 : valD ((j, d) :: ds) k = valD ds k := by simp [valD, List.find?_cons, e]
      rw [e1, e2]; exact ih
theorem valT_of {K : Fg} {G : Hp} {k : List Key} : ∀ {ds : List (List Key × D)} {vs : List (List Key × V)}, RepT K G vs ds → (∃ v d, valV vs k = some v ∧ valD ds k = some d ∧ Rep K G v d) ∨ (valV vs k = none ∧ valD ds k = none)
  | _, _, .nil => .inr ⟨rfl, rfl⟩
  | _, _, .cons (k := j) (v := v) (d := d) (vs := vs) (ds := ds) h r => by
    by_cases e : j = k
    · exact .inl ⟨v, d, by simp [valV, e], by simp [valD, e], h⟩
    · have ih := valT_of (k := k) r
      have e1 : valV ((j, v) :: vs) k = valV vs k := by simp [valV, List.find?_cons, e]
      have e2 : valD ((j, d) :: ds) k = valD ds k := by simp [valD, List.find?_cons, e]
      rw [e1, e2]; exact ih
theorem anyK_of {K : Fg} {G : Hp} {k : Key} : ∀ {ds : List (Key × D)} {vs : List (Key × V)}, RepK K G vs ds → (vs.any fun kv => decide (kv.1 = k)) = (ds.any fun kv => decide (kv.1 = k))
  | _, _, .nil => rfl
  | _, _, .cons h r => by rw [List.any_cons, List.any_cons, anyK_of r]
theorem anyT_of {K : Fg} {G : Hp} {k : List Key} : ∀ {ds : List (List Key × D)} {vs : List (List Key × V)}, RepT K G vs ds → (vs.any fun kv => decide (kv.1 = k)) = (ds.any fun kv => decide (kv.1 = k))
  | _, _, .nil => rfl
  | _, _, .cons h r => by rw [List.any_cons, List.any_cons, anyT_of r]
theorem mapK_of {K : Fg} {G : Hp} {k : Key} {v : V} {d : D} (hv : Rep K G v d) : ∀ {ds : List (Key × D)} {vs : List (Key × V)}, RepK K G vs ds → RepK K G (vs.map fun kv => if kv.1 = k then (kv.1, v) else kv) (ds.map fun kv => if kv.1 = k then (kv.1, d) else kv)
  | _, _, .nil => .nil
  | _, _, .cons (k := j) h r => by
    rw [List.map_cons, List.map_cons]
    by_cases e : j = k
    · simp only [e, if_true]
      exact .cons hv (mapK_of hv r)
    · simp only [e, if_false]
      exact .cons h (mapK_of hv r)
theorem snocK_of {K : Fg} {G : Hp} {k : Key} {v : V} {d : D} (hv : Rep K G v d) : ∀ {ds : List (Key × D)} {vs : List (Key × V)}, RepK K G vs ds → RepK K G (vs ++ [(k, v)]) (ds ++ [(k, d)])
  | _, _, .nil => .cons hv .nil
  | _, _, .cons h r => .cons h (snocK_of hv r)
theorem putK_of {K : Fg} {G : Hp} {k : Key} {v : V} {d : D} (hv : Rep K G v d) {ds : List (Key × D)} {vs : List (Key × V)} (r : RepK K G vs ds) : RepK K G (putK vs k v) (putD ds k d) := by
  unfold putK putD
  rw [anyK_of r]
  split
  · exact mapK_of hv r
  · exact snocK_of hv r
theorem dropK_of {K : Fg} {G : Hp} {k : Key} : ∀ {ds : List (Key × D)} {vs : List (Key × V)}, RepK K G vs ds → RepK K G (dropK vs k) (dropD ds k)
  | _, _, .nil => .nil
  | _, _, .cons (k := j) (v := v) (d := d) (vs := vs) (ds := ds) h r => by
    have ih := dropK_of (k := k) r
    unfold dropK dropD at ih ⊢
    by_cases e : j = k
    · rw [List.filter_cons_of_neg (by simp [e]), List.filter_cons_of_neg (by simp [e])]
      exact ih
    · rw [List.filter_cons_of_pos (by simp [e]), List.filter_cons_of_pos (by simp [e])]
      exact .cons h ih
theorem mapT_of {K : Fg} {G : Hp} {k : List Key} {v : V} {d : D} (hv : Rep K G v d) : ∀ {ds : List (List Key × D)} {vs : List (List Key × V)}, RepT K G vs ds → RepT K G (vs.map fun kv => if kv.1 = k then (kv.1, v) else kv) (ds.map fun kv => if kv.1 = k then (kv.1, d) else kv)
  | _, _, .nil => .nil
  | _, _, .cons (k := j) h r => by
    rw [List.map_cons, List.map_cons]
    by_cases e : j = k
    · simp only [e, if_true]
      exact .cons hv (mapT_of hv r)
    · simp only [e, if_false]
      exact .cons h (mapT_of hv r)
theorem snocT_of {K : Fg} {G : Hp} {k : List Key} {v : V} {d : D} (hv : Rep K G v d) : ∀ {ds : List (List Key × D)} {vs : List (List Key × V)}, RepT K G vs ds → RepT K G (vs ++ [(k, v)]) (ds ++ [(k, d)])
  | _, _, .nil => .cons hv .nil
  | _, _, .cons h r => .cons h (snocT_of hv r)
theorem putT_of {K : Fg} {G : Hp} {k : List Key} {v : V} {d : D} (hv : Rep K G v d) {ds : List (List Key × D)} {vs : List (List Key × V)} (r : RepT K G vs ds) : RepT K G (putK vs k v) (putD ds k d) := by
  unfold putK putD
  rw [anyT_of r]
  split
  · exact mapT_of hv r
  · exact snocT_of hv r
theorem dropT_of {K : Fg} {G : Hp} {k : List Key} : ∀ {ds : List (List Key × D)} {vs : List (List Key × V)}, RepT K G vs ds → RepT K G (dropK vs k) (dropD ds k)
  | _, _, .nil => .nil
  | _, _, .cons (k := j) (v := v) (d := d) (vs := vs) (ds := ds) h r => by
    have ih := dropT_of (k := k) r
    unfold dropK dropD at ih ⊢
    by_cases e : j = k
    · rw [List.filter_cons_of_neg (by simp [e]), List.filter_cons_of_neg (by simp [e])]
      exact ih
    · rw [List.filter_cons_of_pos (by simp [e]), List.filter_cons_of_pos (by simp [e])]
      exact .cons h ih
/-- what a dict holds at a key -/
def getK : D → D → Option (Option D)
  | .dk kvs, d => (keyD d).bind fun k => some (valD kvs k)
  | .dt kvs, .tup ds => (keysD ds).bind fun k => some (valD kvs k)
  | _, _ => none
theorem getK_of {K : Fg} {G H : Hp} {x y : V} {dx dy : D} {o : Option D} (s : Same G H) (rx : RepV K G H x dx) (ry : RepV K G H y dy) (e : getK dx dy = some o) :
    ∃ a, x = .ref a ∧ IsD H a ∧ ∃ ov, DGet H a y ov ∧ ((∃ v d, ov = some v ∧ o = some d ∧ Rep K G v d) ∨ (ov = none ∧ o = none)) := by
  unfold getK at e
  split at e
  · rename_i kvs
    cases q : keyD dy with
    | none => simp [q] at e
    | some k =>
      simp [q] at e; subst e
      obtain ⟨a, xs, rfl, h1, q1⟩ := rx.dk_ s
      have ey : y = kV k := by
        cases ry with
        | sh r => exact keyD_of r q
        | _ => cases q
      exact ⟨a, rfl, .inl ⟨xs, .inl h1⟩, _, by rw [ey]; exact DGet.k h1, by
        rcases valK_of (k := k) q1 with ⟨v, d, a, b, c⟩ | ⟨a, b⟩
        · exact .inl ⟨v, d, a, b, c⟩
        · exact .inr ⟨a, b⟩⟩
  · rename_i kvs ds
    cases q : keysD ds with
    | none => simp [q] at e
    | some k =>
      simp [q] at e; subst e
      obtain ⟨a, xs, rfl, h1, q1⟩ := rx.dt_ s
      obtain ⟨b, ys, rfl, h2, q2⟩ := ry.tup
      have ey := keysD_of q2 q
      subst ey
      exact ⟨a, rfl, .inr ⟨xs, .inl h1⟩, _, DGet.t h1 (s _ _ h2), by
        rcases valT_of (k := k) q1 with ⟨v, d, a, b, c⟩ | ⟨a, b⟩
        · exact .inl ⟨v, d, a, b, c⟩
        · exact .inr ⟨a, b⟩⟩
  · cases e
def fInB (x y : D) : Option Bool := match y with
  | .lst ds => if x.flat && ds.all D.flat then some (memD x ds) else none
  | .tup ds => if x.flat && ds.all D.flat then some (memD x ds) else none
  | .str z => match x with
    | .str c => match c.cps.toList with
      | [n] => some (decide (n ∈ z.cps.toList))
      | _ => none
    | _ => none
  | .dk kvs => (getK (.dk kvs) x).bind fun o => some o.isSome
  | .dt kvs => (getK (.dt kvs) x).bind fun o => some o.isSome
  | _ => none
def fIn : List D → Option C
  | [x, y] => (fInB x y).bind fun b => some (.sh (.bl b))
  | _ => none
def fNotIn : List D → Option C
  | [x, y] => (fInB x y).bind fun b => some (.sh (.bl (!b)))
  | _ => none
def rInA (K : Fg) : R2 := fun x y H Q => rIn K false x y H Q ∨ ((∃ (c : Nat) (z : Str), x = .str ⟨#[c]⟩ ∧ y = .str z ∧ Q (.bl (decide (c ∈ z.cps.toList))) H) ∨ ∃ a o, y = .ref a ∧ DGet H a x o ∧ Q (.bl o.isSome) H)
def rNotInA (K : Fg) : R2 := fun x y H Q => rIn K true x y H Q ∨ ((∃ (c : Nat) (z : Str), x = .str ⟨#[c]⟩ ∧ y = .str z ∧ Q (.bl (!decide (c ∈ z.cps.toList))) H) ∨ ∃ a o, y = .ref a ∧ DGet H a x o ∧ Q (.bl (!o.isSome)) H)
theorem op_inD {X : Cx} (hu : X.A.units + 1 < cLine) : OpR X (compareOp .In) (fun x y H Q => ∃ a o, y = .ref a ∧ DGet H a x o ∧ Q (.bl o.isSome) H) := by
  intro pins s σ H x y v u Q I rx ry h
  obtain ⟨a, o, rfl, g, q⟩ := h
  obtain rfl : u = Value.ref a := ry
  exact d_in hu I g rx fun s1 I1 => ⟨.bl o.isSome, H, I1, rfl, q⟩
theorem op_notInD {X : Cx} (hu : X.A.units + 1 < cLine) : OpR X (compareOp .NotIn) (fun x y H Q => ∃ a o, y = .ref a ∧ DGet H a x o ∧ Q (.bl (!o.isSome)) H) := by
  intro pins s σ H x y v u Q I rx ry h
  obtain ⟨a, o, rfl, g, q⟩ := h
  obtain rfl : u = Value.ref a := ry
  exact d_notIn hu I g rx fun s1 I1 => ⟨.bl (!o.isSome), H, I1, rfl, q⟩
theorem op_inA {X : Cx} {k : Nat} (hr : Room k X.A) : OpR X (compareOp .In) (rInA X.K) := OpR.or op_in_seq (OpR.or op_in_sign (op_inD (hu_of hr)))
theorem op_notInA {X : Cx} {k : Nat} (hr : Room k X.A) : OpR X (compareOp .NotIn) (rNotInA X.K) := OpR.or op_notIn_seq (OpR.or op_notIn_sign (op_notInD (hu_of hr)))
section
variable {K : Fg}
theorem flat_sh {G H : Hp} {x : V} {d : D} (r : RepV K G H x d) (h : d.flat = true) : Rep K G x d := by
  cases r with
  | sh r => exact r
  | _ => cases h
theorem str_one {c : Str} {n : Nat} (h : c.cps.toList = [n]) : c = ⟨#[n]⟩ := by
  cases c with
  | mk a =>
    have : a = #[n] := by
      apply Array.ext'
      simpa using h
    rw [this]
theorem inB_run {G H : Hp} {x y : V} {dx dy : D} {b : Bool} (s : Same G H) (rx : RepV K G H x dx) (ry : RepV K G H y dy) (e : fInB dx dy = some b) :
    (∃ p xs, y = .ref p ∧ (SqL K H p xs ∨ SqT K H p xs) ∧ flatV x = true ∧ xs.all flatV = true ∧ inV x xs = b) ∨ ((∃ (c : Nat) (z : Str), x = .str ⟨#[c]⟩ ∧ y = .str z ∧ decide (c ∈ z.cps.toList) = b) ∨ ∃ a o, y = .ref a ∧ DGet H a x o ∧ o.isSome = b) := by
  have dict : ∀ {d : D}, RepV K G H y d → ((getK d dx).bind fun o => some o.isSome) = some b → ∃ a o, y = .ref a ∧ DGet H a x o ∧ o.isSome = b := fun {d} ry e => by
    cases q : getK d dx with
    | none => simp [q] at e
    | some o =>
      simp [q] at e; subst e
      obtain ⟨a, ea, _, ov, g, h⟩ := getK_of s ry rx q
      refine ⟨a, ov, ea, g, ?_⟩
      rcases h with ⟨v, d, h1, h2, _⟩ | ⟨h1, h2⟩
      · rw [h1, h2]; rfl
      · rw [h1, h2]; rfl
  cases dy with
  | lst ds =>
    simp only [fInB] at e
    split at e
    · rename_i h
      cases e
      rw [Bool.and_eq_true] at h
      obtain ⟨a, xs, rfl, h1, q1⟩ := ry.lst s
      have r := flat_sh rx h.1
      exact .inl ⟨a, xs, rfl, .inl (SqL.of h1), flat_of r h.1, flats_of q1 h.2, inV_of r h.1 q1 h.2⟩
    · cases e
  | tup ds =>
    simp only [fInB] at e
    split at e
    · rename_i h
      cases e
      rw [Bool.and_eq_true] at h
      obtain ⟨a, xs, rfl, h1, q1⟩ := ry.tup
      have r := flat_sh rx h.1
      exact .inl ⟨a, xs, rfl, .inr (SqT.of (s _ _ h1)), flat_of r h.1, flats_of q1 h.2, inV_of r h.1 q1 h.2⟩
    · cases e
  | str z =>
    cases dx with
    | str c =>
      simp only [fInB] at e
      split at e
      · rename_i n h
        cases e
        cases rx.str
        cases ry.str
        exact .inr (.inl ⟨_, _, by rw [str_one h], rfl, rfl⟩)
      · cases e
    | _ => simp [fInB] at e
  | dk kvs => exact .inr (.inr (dict ry e))
  | dt kvs => exact .inr (.inr (dict ry e))
  | _ => simp [fInB] at e
theorem s_in : OpS K (op2r (rInA K)) fIn := fun G H vs ds c Q s rv e k => by
  unfold fIn at e
  split at e
  · rename_i x y
    cases q : fInB x y with
    | none => simp [q] at e
    | some b =>
      simp [q] at e; subst e
      cases rv with
      | cons r1 rv =>
        cases rv with
        | cons r2 rv =>
          cases rv
          refine ⟨_, _, rfl, ?_⟩
          have fin := k.sh s (.bl b)
          rcases inB_run s r1 r2 q with ⟨p, xs, h1, h2, h3, h4, h5⟩ | ⟨c, z, h1, h2, h3⟩ | ⟨a, o, h1, h2, h3⟩
          · exact .inl ⟨p, xs, h1, h2, h3, h4, by rw [if_neg Bool.false_ne_true, h5]; exact fin⟩
          · exact .inr (.inl ⟨c, z, h1, h2, by rw [h3]; exact fin⟩)
          · exact .inr (.inr ⟨a, o, h1, h2, by rw [h3]; exact fin⟩)
  · cases e
theorem s_notIn : OpS K (op2r (rNotInA K)) fNotIn := fun G H vs ds c Q s rv e k => by
  unfold fNotIn at e
  split at e
  · rename_i x y
    cases q : fInB x y with
    | none => simp [q] at e
    | some b =>
      simp only [q, Option.bind_some] at e; cases e
      cases rv with
      | cons r1 rv =>
        cases rv with
        | cons r2 rv =>
          cases rv
          refine ⟨_, _, rfl, ?_⟩
          have fin := k.sh s (.bl (!b))
          rcases inB_run s r1 r2 q with ⟨p, xs, h1, h2, h3, h4, h5⟩ | ⟨c, z, h1, h2, h3⟩ | ⟨a, o, h1, h2, h3⟩
          · exact .inl ⟨p, xs, h1, h2, h3, h4, by rw [if_pos rfl, h5]; exact fin⟩
          · exact .inr (.inl ⟨c, z, h1, h2, by rw [h3]; exact fin⟩)
          · exact .inr (.inr ⟨a, o, h1, h2, by rw [h3]; exact fin⟩)
  · cases e
end
end Fx
set_option Elab.async false
set_option linter.all false
set_option maxRecDepth 100000
set_option maxHeartbeats 4000000
noncomputable section
namespace Fx
open PySem L2

/-! ## what changes a slot's cell -/
/-- the first value's cell is changed by an operation -/
def Mt (K : Fg) (F : C → List D → Option (C × C)) (v0 : V) (vs : List V) (H : Hp) (Q : VK) : Prop := ∃ c0 f0 ds G, Same G H ∧ RepC K G H v0 c0 f0 ∧ Reps K G vs ds ∧ ∃ c c0', F c0 ds = some (c, c0') ∧
  ∀ v G' H' f0' fr, Same G' H' → RepC K G' H' v0 c0' f0' → RepC K G' H' v c fr → (∀ a ∈ fr, a ∉ f0') → Step G H (fun a => a ∈ f0) G' H' (fun a => a ∈ f0' ∨ a ∈ fr) → Q v H'
theorem con_there {K : Fg} {σ : St} {e : Env} {G H : Hp} {fp : Fp} (con : Con K σ e G H fp) {j : Nat} {a : Addr} (m : a ∈ fp j) : ∃ o, H a = some o := by
  have : ∃ x, e[j]? = some (some x) := by
    refine Classical.byContradiction fun no => ?_
    have e := con.nil j fun x e => no ⟨x, e⟩
    rw [e] at m; cases m
  obtain ⟨x, ex⟩ := this
  obtain ⟨_, _, rx⟩ := con.rep j x ex
  exact (rx.mem a m).2
/-- slot i's cell goes from c0 to c0' while H goes to H' -/
theorem con_mut {K : Fg} {σ : St} {e : Env} {G H G' H' : Hp} {fp : Fp} {i : Nat} {v0 : V} {c0 c0' : C} {f0' fr : List Addr} (con : Con K σ e G H fp) (q1 : e[i]? = some (some c0)) (hv0 : σ[i]? = some (some v0)) (sub : Same G' H') (r0' : RepC K G' H' v0 c0' f0') (n : ∀ a ∈ fr, a ∉ f0')
    (s' : Step G H (fun a => a ∈ fp i) G' H' (fun a => a ∈ f0' ∨ a ∈ fr)) :
    ∃ fp', Con K σ (e.set i (some c0')) G' H' fp' ∧ (∀ a ∈ fr, ¬ U fp' a) ∧ Step G H (U fp) G' H' (fun a => U fp' a ∨ a ∈ fr) := by
  have hi : i < e.length := (List.getElem?_eq_some_iff.mp q1).1
  have hd : ∀ a, U (fp.set i []) a → ¬ a ∈ fp i := fun a u m => by
    obtain ⟨j, mj⟩ := u
    by_cases hj : j = i
    · subst hj; rw [Fp.set_same] at mj; cases mj
    · rw [Fp.set_ne hj] at mj; exact hj (con.dis j i a mj m)
  have con2 := (con.drop (i := i) (σ' := σ) rfl fun _ _ => rfl).step s' hd sub
  have con3 := con2.put (i := i) (by simpa using hi) r0' fun a m j hj z => by
    rw [Fp.set_ne hj] at z
    rcases s'.fr a (.inl m) with w | w
    · exact hj (con.dis j i a z w)
    · obtain ⟨o, eo⟩ := con_there con z
      rw [eo] at w; cases w
  have es : σ.set i (some v0) = σ := by
    apply List.ext_getElem?
    intro j
    by_cases q : j = i
    · subst q; rw [hv0]; exact List.getElem?_set_self (by rw [con.len]; exact hi)
    · rw [List.getElem?_set_ne (fun z => q z.symm)]
  have ef : Fp.set (Fp.set fp i []) i f0' = Fp.set fp i f0' := by funext j; unfold Fp.set; split <;> rfl
  rw [es, ef, List.set_set] at con3
  refine ⟨_, con3, fun a m u => ?_, s'.weak (fun a m => ⟨i, m⟩) fun a u => ?_⟩
  · obtain ⟨j, mj⟩ := u
    by_cases hj : j = i
    · subst hj; rw [Fp.set_same] at mj; exact n a m mj
    · rw [Fp.set_ne hj] at mj
      rcases s'.fr a (.inr m) with w | w
      · exact hj (con.dis j i a mj w)
      · obtain ⟨o, eo⟩ := con_there con mj
        rw [eo] at w; cases w
  · rcases u with u | u
    · obtain ⟨j, mj⟩ := u
      by_cases hj : j = i
      · subst hj; rw [Fp.set_same] at mj; exact .inl (.inl mj)
      · rw [Fp.set_ne hj] at mj; exact .inr (.inl ⟨j, mj⟩)
    · exact .inl (.inr u)
theorem mut_run {K : Fg} {F : C → List D → Option (C × C)} {i : Nat} {ms : List Arg} {σ : St} {H : Hp} {Q : VK} (q : tE K (eCallB F i ms) σ H Q) :
    ∃ v0 cc f0 G, σ[i]? = some (some v0) ∧ RepC K G H v0 cc f0 ∧ (∃ env, env[i]? = some (some cc) ∧ ∃ r, eCallB F i ms env = some r) ∧ tAr K ms σ H fun vs H1 => Mt K F v0 vs H1 Q := by
  obtain ⟨env, G, fp, con, c, env', e1, k⟩ := q
  have e1' := e1
  unfold eCallB at e1
  split at e1
  · rename_i cc q0
    obtain ⟨v0, hv0, rc0⟩ := con.rep i _ q0
    refine ⟨v0, cc, _, G, hv0, rc0, ⟨env, q0, _, e1'⟩, ?_⟩
    cases q : evA ms env with
    | none => simp [q] at e1
    | some y =>
      obtain ⟨ds, e2⟩ := y
      simp only [q, Option.bind_some] at e1
      split at e1
      · rename_i c0 q1
        cases q2 : F c0 ds with
        | none => simp [q2] at e1
        | some y =>
          obtain ⟨c1, c0'⟩ := y
          simp [q2] at e1
          obtain ⟨rfl, rfl⟩ := e1
          refine args_run ms con q fun vs G1 H1 fp1 con1 r s => ?_
          obtain ⟨v0', hv0', r0⟩ := con1.rep i _ q1
          rw [hv0] at hv0'
          cases hv0'
          refine ⟨c0, fp1 i, ds, G1, con1.sub, r0, r, c1, c0', q2, fun v G' H' f0' fr sub r0' rc n s' => ?_⟩
          obtain ⟨fp2, con2, n2, s2⟩ := con_mut con1 q1 hv0 sub r0' n s'
          exact k v G' H' fp2 fr con2 rc n2 (s.trans s2)
      · cases e1
  · cases e1

/-! ## methods of lists -/
/-- the operation on values does what F says -/
def MutS (K : Fg) (r : V → List V → Hp → VK → Prop) (F : C → List D → Option (C × C)) : Prop := ∀ (v0 : V) (vs : List V) (H : Hp) (Q : VK), Mt K F v0 vs H Q → r v0 vs H Q
section
variable {X : Cx} {o e : Expr} {es : List Expr} {name : Str} {apos cpos : Pos} {id : String} {r : V → List V → Hp → VK → Prop} {F : C → List D → Option (C × C)} {i : Nat} {ms : List Arg}
/-- only a list of one's own is let by -/
def olOnly (F : List D → List D → Option (C × List D)) : C → List D → Option (C × C)
  | .ol xs, ds => (F xs ds).bind fun (c, ys) => some (c, .ol ys)
  | _, _ => none
def eMethL (F : List D → List D → Option (C × List D)) (i : Nat) (ms : List Arg) : EM := fun env => match env[i]? with
  | some (some (.ol _)) => eCallB (olOnly F) i ms env
  | _ => none
theorem methL_run {K : Fg} {F : List D → List D → Option (C × List D)} {σ : St} {H : Hp} {Q : VK} (q : tE K (eMethL F i ms) σ H Q) :
    ∃ l xs, σ[i]? = some (some (.ref l)) ∧ H l = some (.lst xs) ∧ tAr K ms σ H fun vs H1 => Mt K (olOnly F) (.ref l) vs H1 Q := by
  obtain ⟨env, G, fp, con, c, env', e1, k⟩ := q
  unfold eMethL at e1
  split at e1
  · rename_i ds q0
    obtain ⟨v0, hv0, r0⟩ := con.rep i _ q0
    obtain ⟨v1, cc, f0, G1, h1, h2, h3, h4⟩ := mut_run (F := olOnly F) ⟨env, G, fp, con, c, env', e1, k⟩
    rw [hv0] at h1; cases h1
    generalize hf : fp i = fi at r0
    cases r0 with
    | ol g h r => exact ⟨_, _, hv0, h, h4⟩
  · cases e1
theorem ok_methL {F : List D → List D → Option (C × List D)} (slot : Slot "list" name id) (hty : typeOf (.builtin id) = pure (.type "method_descriptor")) (hm : MtR X id r) (hF : MutS X.K r (olOnly F)) (ho : PE X o (tVar i)) (ha : PA X (e :: es) (tAr X.K ms))
    (hbase : attributeBase o name X.env (eval o X.env) = eval o X.env := by rfl)
    (hfew : ((backTo cpos (starEach (e :: es) X.env)).all (fun x => !x.1) && (backToKw cpos (keywordEach [] X.env)).all (fun x => x.1.isSome)
      && decide ((e :: es).length + ([] : List Keyword).length + (if ([] : List Keyword).isEmpty then 0 else 1) < 30)) = true := by rfl)
    (hline : (apos.endLine == cpos.line) = true := by rfl) (hs : starEach (e :: es) X.env = (false, eval e X.env) :: starEach es X.env := by rfl) (hplain : (backTo cpos (starEach es X.env)).any (·.1) = false := by rfl) :
    EOk X (.Call (.Attribute o name apos) (e :: es) [] cpos) (eMethL F i ms) :=
  pe_mono (pe_bm PySem.F.plainAttrs_list slot hty hm ho ha hbase hfew hline hs hplain) fun σ H Q q => by
    obtain ⟨l, xs, hv, hl, z⟩ := methL_run q
    exact ⟨_, hv, .inl ⟨rfl, xs, SqL.of hl⟩, ta_mono ms z fun vs H1 h => hF _ _ _ _ h⟩
where
  ta_mono {K : Fg} : ∀ (ms : List Arg) {σ : St} {H : Hp} {R R' : List V → Hp → Prop}, tAr K ms σ H R → (∀ vs H, R vs H → R' vs H) → tAr K ms σ H R'
    | [], _, _, _, _, h, k => k _ _ h
    | .one m :: r, σ, H, R, R', h, k => by
      refine vk_mono_opd (.val m) (fun v H1 h1 => ?_) h
      exact ta_mono r h1 fun vs H2 h2 => k _ _ h2
    | .star m :: r, σ, H, R, R', h, k => by
      refine vk_mono_opd (.val m) (fun v H1 h1 => ?_) h
      obtain ⟨p, xs, e, hx, h1⟩ := h1
      exact ⟨p, xs, e, hx, ta_mono r h1 fun vs H2 h2 => k _ _ h2⟩
end
section
variable {K : Fg}
/-- a list of one's own is written -/
theorem Mt.put {F : List D → List D → Option (C × List D)} {v0 : V} {vs : List V} {H : Hp} {Q : VK} (h : Mt K (olOnly F) v0 vs H Q) : ∃ l xs ds zs c zs' G, v0 = .ref l ∧ H l = some (.lst xs) ∧ Same G H ∧ G l = none ∧ Reps K G xs zs ∧ Reps K G vs ds ∧ F zs ds = some (c, zs') ∧
    ∀ v ys d, c = .sh d → Reps K G ys zs' → Rep K G v d → Q v (upd H l (.lst ys)) := by
  obtain ⟨c0, f0, ds, G, s, r0, r, c, c0', e, k⟩ := h
  cases r0 with
  | @ol l xs zs g h r0 =>
    simp only [olOnly] at e
    cases q : F zs ds with
    | none => simp [q] at e
    | some y =>
      obtain ⟨c1, zs'⟩ := y
      simp [q] at e
      obtain ⟨rfl, rfl⟩ := e
      refine ⟨l, xs, ds, zs, c1, zs', G, rfl, h, s, g, r0, r, q, fun v ys d ec ry rv => ?_⟩
      subst ec
      have sub : Same G (upd H l (.lst ys)) := fun a o e => by rw [upd_ne (fun z => by rw [z, g] at e; cases e)]; exact s a o e
      refine k v G _ [l] [] sub (.ol g upd_same ry) (.sh rv) (fun a m => by cases m) ⟨fun _ _ e => e, fun a o e n => by rw [upd_ne (fun z => n (by simp [z]))]; exact e, fun a o e => .inl e, fun a m => m.elim .inl fun z => by cases z⟩
  | _ => simp [olOnly] at e
def fAppend : List D → List D → Option (C × List D)
  | xs, [d] => if xs.length < lim then some (.sh .non, xs ++ [d]) else none
  | _, _ => none
theorem m_append : MutS K rAppend (olOnly fAppend) := fun v0 vs H Q h => by
  obtain ⟨l, xs, ds, zs, c, zs', G, rfl, hl, s, g, r0, r, e, k⟩ := h.put
  cases r with
  | nil => cases e
  | cons hv r =>
    cases r with
    | cons => cases e
    | nil =>
      unfold fAppend at e
      simp only at e
      split at e
      · rename_i hlen
        cases e
        exact ⟨l, xs, _, rfl, rfl, hl, by rw [r0.length, ← lim_eq]; exact hlen, k _ _ _ rfl (r0.append (.cons hv .nil)) .non⟩
      · cases e
def fExtend : List D → List D → Option (C × List D)
  | xs, [.lst zs] => if xs.length + zs.length ≤ lim then some (.sh .non, xs ++ zs) else none
  | _, _ => none
theorem m_extend : MutS K rExtend (olOnly fExtend) := fun v0 vs H Q h => by
  obtain ⟨l, xs, ds, zs, c, zs', G, rfl, hl, s, g, r0, r, e, k⟩ := h.put
  unfold fExtend at e
  split at e
  · split at e
    · rename_i hlen
      cases e
      cases r with
      | cons hv r =>
        cases r
        cases hv with
        | lst hb rb => exact ⟨l, _, xs, _, rfl, rfl, hl, s _ _ hb, by rw [r0.length, rb.length, ← lim_eq]; exact hlen, k _ _ _ rfl (r0.append rb) .non⟩
    · cases e
  · cases e
/-- xs.pop(i) -/
def fPopAt : List D → List D → Option (C × List D)
  | xs, [.int n] => if 0 ≤ n ∧ n < 9223372036854775808 then (xs[n.toNat]?).bind fun d => some (.sh d, xs.eraseIdx n.toNat) else none
  | _, _ => none
theorem Reps.eraseIdx {G : Hp} : ∀ {ds : List D} {vs : List V} (n : Nat), Reps K G vs ds → Reps K G (vs.eraseIdx n) (ds.eraseIdx n)
  | _, _, _, .nil => .nil
  | _, _, 0, .cons _ r => r
  | _, _, n + 1, .cons h r => .cons h (Reps.eraseIdx n r)
theorem m_popAt : MutS K rPopAt (olOnly fPopAt) := fun v0 vs H Q h => by
  obtain ⟨l, xs, ds, zs, c, zs', G, rfl, hl, s, g, r0, r, e, k⟩ := h.put
  unfold fPopAt at e
  split at e
  · rename_i n
    split at e
    · rename_i hn
      cases q : zs[n.toNat]? with
      | none => simp [q] at e
      | some d =>
        simp [q] at e
        obtain ⟨rfl, rfl⟩ := e
        cases r with
        | cons hv r =>
          cases r
          cases hv
          obtain ⟨v, e1, rv⟩ := r0.getD q
          have e63 : (2 : Int) ^ 63 = 9223372036854775808 := by decide
          have hlt : n < xs.length := by
            have := (List.getElem?_eq_some_iff.mp e1).1
            omega
          exact ⟨l, xs, n, n.toNat, v, rfl, rfl, hl, by rw [e63]; omega, by rw [e63]; exact hn.2, seqIndex_of hn.1 hlt, e1, k _ _ _ rfl (r0.eraseIdx _) rv⟩
    · cases e
  · cases e
end

/-! ## stores -/
/-- a key's place gets a value -/
def putC : C → D → D → Option C
  | .ol ds, .int k, d => (ixN ds.length k).bind fun j => some (.ol (ds.set j d))
  | .odk kvs, y, d => (keyD y).bind fun k => if kvs.length < lim then some (.odk (putD kvs k d)) else none
  | .odt kvs, .tup ks, d => (keysD ks).bind fun k => if kvs.length < lim then some (.odt (putD kvs k d)) else none
  | _, _, _ => none
def rPutA : TSet := fun o i v H Q => rSetL o i v H Q ∨ ∃ a H', o = .ref a ∧ DPut H a i v H' ∧ Q H'
theorem set_A {X : Cx} {k : Nat} (hr : Room k X.A) : PSet X rPutA := by
  intro pins s σ H o i v ov iv u Q I ro ri rv h
  rcases h with h | ⟨a, H', rfl, g, q⟩
  · exact set_list pins s σ H o i v ov iv u Q I ro ri rv h
  · obtain rfl : ov = Value.ref a := ro
    exact d_setItem (hu_of hr) I g ri rv fun s1 I1 => ⟨H', I1, q⟩
theorem putC_run {K : Fg} {G H : Hp} {v0 y v : V} {c0 c1 : C} {f0 : List Addr} {dy d : D} {Q : Hp → Prop} (s : Same G H) (r0 : RepC K G H v0 c0 f0) (ry : RepV K G H y dy) (rv : Rep K G v d) (e : putC c0 dy d = some c1)
    (k : ∀ H', Same G H' → RepC K G H' v0 c1 f0 → Step G H (fun a => a ∈ f0) G H' (fun a => a ∈ f0) → Q H') : rPutA v0 y v H Q := by
  have fin : ∀ {l : Addr} {o : HO}, G l = none → Same G (upd H l o) ∧ Step G H (fun a => a ∈ [l]) G (upd H l o) (fun a => a ∈ [l]) := fun {l o} g =>
    ⟨fun a u e => by rw [upd_ne (fun z => by rw [z, g] at e; cases e)]; exact s a u e, ⟨fun _ _ e => e, fun a u e n => by rw [upd_ne (fun z => n (by simp [z]))]; exact e, fun a u e => .inl e, fun a m => .inl m⟩⟩
  cases r0 with
  | @ol l xs zs g h r =>
    cases dy with
    | int n =>
      simp only [putC] at e
      cases q : ixN zs.length n with
      | none => simp [q] at e
      | some j =>
        simp [q] at e; subst e
        cases ry.int
        obtain ⟨a, b⟩ := fin (o := .lst (xs.set j v)) g
        exact .inl ⟨l, xs, n, j, rfl, rfl, h, by rw [r.length]; exact q, k _ a (.ol g upd_same (r.set rv j)) b⟩
    | _ => simp [putC] at e
  | @odk l xs zs g h r =>
    have e' : (keyD dy).bind (fun k => if zs.length < lim then some (C.odk (putD zs k d)) else none) = some c1 := by cases dy <;> exact e
    cases q : keyD dy with
    | none => simp [q] at e'
    | some kk =>
      simp only [q, Option.bind_some] at e'
      split at e'
      · rename_i hl
        cases e'
        have ey : y = kV kk := keyD_of (flat_sh ry (by cases dy <;> first | rfl | cases q)) q
        obtain ⟨a, b⟩ := fin (o := .dK (putK xs kk v)) g
        exact .inr ⟨l, _, rfl, by rw [ey]; exact DPut.k h (by rw [repK_len r, ← lim_eq]; exact hl), k _ a (.odk g upd_same (putK_of rv r)) b⟩
      · cases e'
  | @odt l xs zs g h r =>
    cases dy with
    | tup ks =>
      simp only [putC] at e
      cases q : keysD ks with
      | none => simp [q] at e
      | some kk =>
        simp only [q, Option.bind_some] at e
        split at e
        · rename_i hl
          cases e
          obtain ⟨b, ys, rfl, h2, q2⟩ := ry.tup
          have ey := keysD_of q2 q
          subst ey
          obtain ⟨a, b'⟩ := fin (o := .dT (putK xs kk v)) g
          have hlen : ∀ {ds : List (List Key × D)} {vs : List (List Key × V)}, RepT K G vs ds → vs.length = ds.length := by
            intro ds
            induction ds with
            | nil => intro vs r; cases r; rfl
            | cons d ds ih => intro vs r; cases r with | cons h r => simp [ih r]
          exact .inr ⟨l, _, rfl, DPut.t h (s _ _ h2) (by rw [hlen r, ← lim_eq]; exact hl), k _ a (.odt g upd_same (putT_of rv r)) b'⟩
        · cases e
    | _ => simp [putC] at e
  | _ => cases dy <;> simp [putC] at e
/-- targets of an assignment -/
inductive Tg where
  | nm (i : Nat) | sb (i : Nat) (o : Opd)
def asgG : Tg → D → Env → Option Env
  | .nm i, d, env => if i < env.length then some (env.set i (some (.sh d))) else none
  | .sb i o, d, env => match env[i]? with
    | some (some _) => (evO [o] env).bind fun (ds, e) => match ds, e[i]? with
      | [y], some (some c0) => (putC c0 y d).bind fun c1 => some (e.set i (some c1))
      | _, _ => none
    | _ => none
def gG (K : Fg) : Tg → TG
  | .nm i => gName i
  | .sb i o => L2.gSub (tVar i) (tOpd K o) rPutA
def Tg.ok (p : Nat) : Tg → Bool
  | .nm i => decide (p ≤ i) | .sb _ _ => true
theorem asgG_run {K : Fg} {p : Nat} {t : Tg} {d : D} {v : V} {σ : St} {env env' : Env} {G H : Hp} {fp : Fp} {Q : St → Hp → Prop} (con : Con K σ env G H fp) (r : Rep K G v d) (e : asgG t d env = some env') (hp : t.ok p = true)
    (k : ∀ σ' G' H' fp', Con K σ' env' G' H' fp' → Step G H (U fp) G' H' (U fp') → σ'.take p = σ.take p → Q σ' H') : gG K t v σ H Q := by
  cases t with
  | nm i =>
    simp only [asgG] at e
    split at e
    · rename_i hi
      cases e
      exact k _ G H _ (con_sh con hi r) ((Step.refl ..).weak (fun _ u => u) fun a u => .inr (.inl (U_set_nil u))) (take_set (by simpa [Tg.ok] using hp))
    · cases e
  | sb i o =>
    simp only [asgG] at e
    split at e
    · rename_i c00 q00
      obtain ⟨v0, hv0, _⟩ := con.rep i _ q00
      cases q : evO [o] env with
      | none => simp [q] at e
      | some y =>
        obtain ⟨ds, e2⟩ := y
        simp only [q, Option.bind_some] at e
        split at e
        · rename_i dy c0 q1
          cases q2 : putC c0 dy d with
          | none => simp [q2] at e
          | some c1 =>
            simp [q2] at e; subst e
            have z : tO K [o] σ H (fun vs H1 => ∃ y, vs = [y] ∧ rPutA v0 y v H1 fun H3 => Q σ H3) := ⟨env, G, fp, con, _, _, q, fun vs G1 H1 fp1 con1 rv s1 => by
              cases rv with
              | cons r1 rv =>
                cases rv
                obtain ⟨v0', hv0', r0⟩ := con1.rep i _ q1
                rw [hv0] at hv0'; cases hv0'
                refine ⟨_, rfl, putC_run con1.sub r0 r1 (r.mono s1.sG) q2 fun H' sub r0' s' => ?_⟩
                obtain ⟨fp2, con2, _, s2⟩ := con_mut (fr := []) con1 q1 hv0 sub r0' (fun a m => by cases m) (s'.weak (fun _ m => m) fun a m => m.elim .inl fun z => by cases z)
                exact k σ G1 H' fp2 con2 (s1.trans (s2.weak (fun _ u => u) fun a u => .inl (.inl u))) rfl⟩
            refine ⟨v0, hv0, vk_mono_opd o (fun x H1 h1 => ?_) (tOs1 (tO_tOs z))⟩
            obtain ⟨x', ex, h1⟩ := h1
            cases ex
            exact h1
        · cases e
    · cases e
def asgGs : List Tg → List D → Env → Option Env
  | [], [], env => some env
  | t :: ts, d :: ds, env => (asgG t d env).bind fun e => asgGs ts ds e
  | _, _, _ => none
def gGs (K : Fg) : List Tg → TGs
  | [] => gNil
  | t :: ts => gCons (gG K t) (gGs K ts)
theorem asgGs_run {K : Fg} {p : Nat} : ∀ {ts : List Tg} {ds : List D} {vs : List V} {σ : St} {env env' : Env} {G H : Hp} {fp : Fp} {Q : St → Hp → Prop}, Con K σ env G H fp → Reps K G vs ds → asgGs ts ds env = some env' → (∀ t ∈ ts, t.ok p = true) →
    (∀ σ' G' H' fp', Con K σ' env' G' H' fp' → Step G H (U fp) G' H' (U fp') → σ'.take p = σ.take p → Q σ' H') → gGs K ts vs σ H Q
  | [], [], _, σ, env, env', G, H, fp, Q, con, .nil, e, hp, k => by
    cases e
    exact ⟨rfl, k σ G H fp con (Step.refl ..) rfl⟩
  | t :: ts, d :: ds, _, σ, env, env', G, H, fp, Q, con, .cons (v := v) (vs := vs) r rs, e, hp, k => by
    simp only [asgGs] at e
    cases q : asgG t d env with
    | none => simp [q] at e
    | some e1 =>
      simp only [q, Option.bind_some] at e
      refine ⟨v, vs, rfl, asgG_run con r q (hp t (by simp)) fun σ1 G1 H1 fp1 con1 s1 t1 => ?_⟩
      exact asgGs_run con1 (rs.mono s1.sG) e (fun u m => hp u (by simp [m])) fun σ2 G2 H2 fp2 con2 s2 t2 => k σ2 G2 H2 fp2 con2 (s1.trans s2) (t2.trans t1)
  | [], _ :: _, _, _, _, _, _, _, _, _, _, _, e, _, _ => by simp [asgGs] at e
  | _ :: _, [], _, _, _, _, _, _, _, _, _, _, e, _, _ => by simp [asgGs] at e
theorem asgGs_length : ∀ {ts : List Tg} {ds : List D} {env env' : Env}, asgGs ts ds env = some env' → ds.length = ts.length
  | [], [], _, _, _ => rfl
  | t :: ts, d :: ds, env, env', e => by
    simp only [asgGs] at e
    cases q : asgG t d env with
    | none => simp [q] at e
    | some e1 => simp only [q, Option.bind_some] at e; simp [asgGs_length e]
  | [], _ :: _, _, _, e => by simp [asgGs] at e
  | _ :: _, [], _, _, e => by simp [asgGs] at e
/-- one target that is a place -/
def sPut (t : Tg) (m : EM) : SM := fun env => (m env).bind fun (c, e) => (asgG t c.fz e).bind fun e' => some (.nx e')
/-- a, b = a tuple or a list -/
def sUnp (ts : List Tg) (m : EM) : SM := fun env => (m env).bind fun (c, e) => match c.fz with
  | .tup ds => (asgGs ts ds e).bind fun e' => some (.nx e')
  | _ => none
def sUnpL (ts : List Tg) (m : EM) : SM := fun env => (m env).bind fun (c, e) => match c.fz with
  | .lst ds => (asgGs ts ds e).bind fun e' => some (.nx e')
  | _ => none
/-- a, b = x, y of names: no tuple is made -/
def sPar (is : List Nat) (ms : List Arg) : SM := fun env => (evA ms env).bind fun (ds, e) => (asg is ds e).bind fun e' => some (.nx e')
section
variable {X : Cx} {p : Nat} {e : Expr} {pos : Pos} {m : EM}
theorem put_fz {K : Fg} {σ : St} {env' : Env} {G H G1 H1 : Hp} {fp fp1 : Fp} {v : V} {c : C} {fr : List Addr} (con1 : Con K σ env' G1 H1 fp1) (r1 : RepC K G1 H1 v c fr) (n1 : ∀ a ∈ fr, ¬ U fp1 a) (s1 : Step G H (U fp) G1 H1 (fun a => U fp1 a ∨ a ∈ fr)) :
    Con K σ env' (addF G1 H1 fr) H1 fp1 ∧ Step G H (U fp) (addF G1 H1 fr) H1 (U fp1) :=
  ⟨con_fz2 con1 r1 n1, s1.trans ((Step.fz r1).weak (U' := fun _ => False) (W := fun a => U fp1 a ∨ a ∈ fr) (W' := U fp1) (fun a m => .inr m) fun a u => .inr (.inl (.inl u)))⟩
theorem s_put {tg : Expr} {t : Tg} (hp : t.ok p = true) (he : EOk X e m) (hg : PG X tg (gG X.K t)) (hs : swapsWithSole [tg] e pos.line X.env = pure false := by rfl) (hw : swappedStores [tg] e X.env = pure none := by rfl)
    (h1 : (assignEach [tg] X.env).map (·.2) = [assign tg X.env] := by rfl) : SOk X p (.Assign [tg] e pos) (sPut t m) := ps_mono (ps_asg he hg hs hw h1) fun D σ H ⟨env, G, fp, con, o, e1, k⟩ => by
  unfold sPut at e1
  cases q : m env with
  | none => simp [q] at e1
  | some y =>
    obtain ⟨c, e2⟩ := y
    simp only [q, Option.bind_some] at e1
    cases q2 : asgG t c.fz e2 with
    | none => simp [q2] at e1
    | some e3 =>
      simp [q2] at e1; subst e1
      refine ⟨env, G, fp, con, c, e2, q, fun v G' H' fp' fr c' r n s => ?_⟩
      obtain ⟨con2, s2⟩ := put_fz c' r n s
      exact asgG_run con2 r.fz q2 hp fun σ3 G3 H3 fp3 con3 s3 t3 => k σ3 G3 H3 fp3 con3 (s2.trans s3) t3
theorem s_unp {tgs : List Expr} {kk : Nat} {pos' : Pos} {ts : List Tg} (hp : (ts.all fun t => t.ok p) = true) (hc : X.calm = true) (he : EOk X e m) (hg : PGs X tgs (gGs X.K ts)) (hn : (assignEach tgs X.env).length = ts.length := by rfl) (hst : (assignEach tgs X.env).findIdx? (·.1) = none := by rfl)
    (hs : swapsWithSole [.Tuple tgs kk pos'] e pos.line X.env = pure false := by rfl) (hw : swappedStores [.Tuple tgs kk pos'] e X.env = pure none := by rfl)
    (h1 : (assignEach [.Tuple tgs kk pos'] X.env).map (·.2) = [assign (.Tuple tgs kk pos') X.env] := by rfl) : SOk X p (.Assign [.Tuple tgs kk pos'] e pos) (sUnp ts m) := ps_mono (ps_asg he (pg_tup hc hg hn hst) hs hw h1) fun D σ H ⟨env, G, fp, con, o, e1, k⟩ => by
  unfold sUnp at e1
  cases q : m env with
  | none => simp [q] at e1
  | some y =>
    obtain ⟨c, e2⟩ := y
    simp only [q, Option.bind_some] at e1
    split at e1
    · rename_i ds hf
      cases q2 : asgGs ts ds e2 with
      | none => simp [q2] at e1
      | some e3 =>
        simp [q2] at e1; subst e1
        refine ⟨env, G, fp, con, c, e2, q, fun v G' H' fp' fr c' r n s => ?_⟩
        obtain ⟨con2, s2⟩ := put_fz c' r n s
        have rf := r.fz
        rw [hf] at rf
        cases rf with
        | tup h2 rs => exact ⟨_, _, rfl, SqT.of (con2.sub _ _ h2), by rw [rs.length, asgGs_length q2], asgGs_run con2 rs q2 (fun t m => List.all_eq_true.mp hp t m) fun σ3 G3 H3 fp3 con3 s3 t3 => k σ3 G3 H3 fp3 con3 (s2.trans s3) t3⟩
    · cases e1
theorem s_unpL {tgs : List Expr} {kk : Nat} {pos' : Pos} {ts : List Tg} (hp : (ts.all fun t => t.ok p) = true) (hc : X.calm = true) (he : EOk X e m) (hg : PGs X tgs (gGs X.K ts)) (hn : (assignEach tgs X.env).length = ts.length := by rfl) (hst : (assignEach tgs X.env).findIdx? (·.1) = none := by rfl)
    (hs : swapsWithSole [.Tuple tgs kk pos'] e pos.line X.env = pure false := by rfl) (hw : swappedStores [.Tuple tgs kk pos'] e X.env = pure none := by rfl)
    (h1 : (assignEach [.Tuple tgs kk pos'] X.env).map (·.2) = [assign (.Tuple tgs kk pos') X.env] := by rfl) : SOk X p (.Assign [.Tuple tgs kk pos'] e pos) (sUnpL ts m) := ps_mono (ps_asg he (pg_unl hc hg hn hst) hs hw h1) fun D σ H ⟨env, G, fp, con, o, e1, k⟩ => by
  unfold sUnpL at e1
  cases q : m env with
  | none => simp [q] at e1
  | some y =>
    obtain ⟨c, e2⟩ := y
    simp only [q, Option.bind_some] at e1
    split at e1
    · rename_i ds hf
      cases q2 : asgGs ts ds e2 with
      | none => simp [q2] at e1
      | some e3 =>
        simp [q2] at e1; subst e1
        refine ⟨env, G, fp, con, c, e2, q, fun v G' H' fp' fr c' r n s => ?_⟩
        obtain ⟨con2, s2⟩ := put_fz c' r n s
        have rf := r.fz
        rw [hf] at rf
        cases rf with
        | lst h2 rs => exact ⟨_, _, rfl, SqL.of (con2.sub _ _ h2), by rw [rs.length, asgGs_length q2], asgGs_run con2 rs q2 (fun t m => List.all_eq_true.mp hp t m) fun σ3 G3 H3 fp3 con3 s3 t3 => k σ3 G3 H3 fp3 con3 (s2.trans s3) t3⟩
    · cases e1
theorem s_par {i j : Nat} {x y : Str} {a b : Expr} {ms : List Arg} {px py pt : Pos} {kt k2 pt2} (hpi : p ≤ i) (hpj : p ≤ j) (hc : X.calm = true) (hN : X.N.Nodup) (hi : X.N[i]? = some x) (hj : X.N[j]? = some y) (hij : i ≠ j)
    (hx : X.env.scope.names.lookup x = some .local) (hy : X.env.scope.names.lookup y = some .local) (ha : PA X [a, b] (tAr X.K ms)) (hw : swappedStores [.Tuple [.Name x px, .Name y py] kt pt] (.Tuple [a, b] k2 pt2) X.env = pure (some [x, y])) (hs : swapsWithSole [.Tuple [.Name x px, .Name y py] kt pt] (.Tuple [a, b] k2 pt2) pos.line X.env = pure false := by rfl) :
    SOk X p (.Assign [.Tuple [.Name x px, .Name y py] kt pt] (.Tuple [a, b] k2 pt2) pos) (sPar [i, j] ms) := ps_mono (ps_par hc hN hi hj hij hx hy (paa ha) hw hs) fun D σ H ⟨env, G, fp, con, o, e1, k⟩ => by
  unfold sPar at e1
  cases q : evA ms env with
  | none => simp [q] at e1
  | some y =>
    obtain ⟨ds, e2⟩ := y
    simp only [q, Option.bind_some] at e1
    cases q2 : asg [i, j] ds e2 with
    | none => simp [q2] at e1
    | some e3 =>
      simp [q2] at e1; subst e1
      refine ⟨env, G, fp, con, ds, e2, q, fun vs G' H' fp' c' r s => ?_⟩
      have z := asg_run (p := p) (Q := fun σ' H' => D.nx σ' H') c' r q2 (fun t m => by simp at m; rcases m with m | m <;> (subst m; assumption)) fun σ' fp2 con2 u2 t2 _ => k σ' G' H' fp2 con2 (s.weak (fun _ u => u) fun a u => .inl (u2 a u)) t2
      obtain ⟨v, r1, e1, z⟩ := z
      obtain ⟨w, r2, e2, z⟩ := z
      obtain ⟨e3, z⟩ := z
      subst e1 e2 e3
      exact ⟨v, w, rfl, z⟩
theorem s_par3 {i j l : Nat} {x y z : Str} {a b c : Expr} {ms : List Arg} {px py pz pt : Pos} {kt k2 pt2} (hpi : p ≤ i) (hpj : p ≤ j) (hpl : p ≤ l) (hc : X.calm = true) (hN : X.N.Nodup) (hi : X.N[i]? = some x) (hj : X.N[j]? = some y) (hl : X.N[l]? = some z) (hij : i ≠ j) (hil : i ≠ l) (hjl : j ≠ l)
    (hx : X.env.scope.names.lookup x = some .local) (hy : X.env.scope.names.lookup y = some .local) (hz : X.env.scope.names.lookup z = some .local) (ha : PA X [a, b, c] (tAr X.K ms)) (hw : swappedStores [.Tuple [.Name x px, .Name y py, .Name z pz] kt pt] (.Tuple [a, b, c] k2 pt2) X.env = pure (some [x, y, z])) (hs : swapsWithSole [.Tuple [.Name x px, .Name y py, .Name z pz] kt pt] (.Tuple [a, b, c] k2 pt2) pos.line X.env = pure false := by rfl) :
    SOk X p (.Assign [.Tuple [.Name x px, .Name y py, .Name z pz] kt pt] (.Tuple [a, b, c] k2 pt2) pos) (sPar [i, j, l] ms) := ps_mono (ps_par3 hc hN hi hj hl hij hil hjl hx hy hz (paa ha) hw hs) fun D σ H ⟨env, G, fp, con, o, e1, k⟩ => by
  unfold sPar at e1
  cases q : evA ms env with
  | none => simp [q] at e1
  | some y =>
    obtain ⟨ds, e2⟩ := y
    simp only [q, Option.bind_some] at e1
    cases q2 : asg [i, j, l] ds e2 with
    | none => simp [q2] at e1
    | some e3 =>
      simp [q2] at e1; subst e1
      refine ⟨env, G, fp, con, ds, e2, q, fun vs G' H' fp' c' r s => ?_⟩
      have z := asg_run (p := p) (Q := fun σ' H' => D.nx σ' H') c' r q2 (fun t m => by simp at m; rcases m with m | m | m <;> (subst m; assumption)) fun σ' fp2 con2 u2 t2 _ => k σ' G' H' fp2 con2 (s.weak (fun _ u => u) fun a u => .inl (u2 a u)) t2
      obtain ⟨v, r1, e1, z⟩ := z
      obtain ⟨w, r2, e2, z⟩ := z
      obtain ⟨w3, r3, e3, z⟩ := z
      obtain ⟨e4, z⟩ := z
      subst e1 e2 e3 e4
      exact ⟨v, w, w3, rfl, z⟩
theorem gg_nm {i : Nat} {x : Str} (hN : X.N.Nodup) (hi : X.N[i]? = some x) (hx : Loc X.env.scope x) (hf : X.fn x = true ∨ X.env.scope.names.lookup x = some .local := by first | exact .inl rfl | exact .inr rfl | assumption) : PG X (.Name x pos) (gG X.K (.nm i)) := pg_name hN hi hx hf
theorem gg_sb {i : Nat} {o' ix : Expr} {o : Opd} {k : Nat} (hr : Room k X.A) (ho : PE X o' (tVar i)) (hi : OOk X ix o)
    (ha : ∀ v, assign (.Subscript o' ix pos) X.env v = (do
      let ov ← holding [v] (eval o' X.env)
      let iv ← holding [v, ov] (eval ix X.env)
      standAt pos
      holding [v, ov, iv] (setItem ov iv v)
      release [v, ov, iv] []) := by intro _; rfl) : PG X (.Subscript o' ix pos) (gG X.K (.sb i o)) := pg_sub ho hi (set_A hr) ha
theorem ggs_nil : PGs X [] (gGs X.K []) := pgs_nil
theorem ggs_cons {e : Expr} {es : List Expr} {t : Tg} {ts : List Tg} (h1 : PG X e (gG X.K t)) (h2 : PGs X es (gGs X.K ts))
    (hs : (assignEach (e :: es) X.env).map (·.2) = assign e X.env :: (assignEach es X.env).map (·.2) := by rfl) : PGs X (e :: es) (gGs X.K (t :: ts)) := pgs_cons h1 h2 hs
end
end Fx
set_option Elab.async false
set_option linter.all false
set_option maxRecDepth 100000
set_option maxHeartbeats 4000000
noncomputable section
namespace Fx
open PySem L2

/-! ## dicts -/
def eDK : EM := fun env => some (.odk [], env)
def eDT : EM := fun env => some (.odt [], env)
section
variable {X : Cx} {pos : Pos}
theorem ok_dk : EOk X (.Dict [] [] pos) eDK := pe_mono pe_dnewK fun σ H Q ⟨env, G, fp, con, c, env', e1, k⟩ => by
  cases e1
  intro p hp
  exact k.end_ (W := fun _ => False) (fr := [p]) con ((Step.refl ..).weak (fun _ u => u) fun a u => u.elim .inl fun z => z.elim) (fun a z => z.elim) (Step.newH (o := .dK []) hp) (same_newH con.sub hp) (.odk (none_of_same con.sub hp) upd_same .nil)
theorem ok_dt : EOk X (.Dict [] [] pos) eDT := pe_mono pe_dnewT fun σ H Q ⟨env, G, fp, con, c, env', e1, k⟩ => by
  cases e1
  intro p hp
  exact k.end_ (W := fun _ => False) (fr := [p]) con ((Step.refl ..).weak (fun _ u => u) fun a u => u.elim .inl fun z => z.elim) (fun a z => z.elim) (Step.newH (o := .dT []) hp) (same_newH con.sub hp) (.odt (none_of_same con.sub hp) upd_same .nil)
/-- d.get(k, x), d a name -/
def eGet2 (i : Nat) (a b : EM) : EM := fun env => match env[i]? with
  | some (some c00) => (c00.vw.bind isDct).bind fun _ => (evA [.one a, .one b] env).bind fun (ds, e) => match ds, e[i]? with
    | [y, z], some (some c0) => c0.vw.bind fun d => (getK d y).bind fun o => some (.sh (o.getD z), e)
    | _, _ => none
  | _ => none
where isDct : D → Option Unit
  | .dk _ => some () | .dt _ => some () | _ => none
theorem isD_of {K : Fg} {G H : Hp} {x : V} {d : D} (s : Same G H) (r : RepV K G H x d) (h : eGet2.isDct d = some ()) : ∃ a, x = .ref a ∧ IsD H a := by
  cases d with
  | dk kvs => obtain ⟨a, xs, rfl, h1, _⟩ := r.dk_ s; exact ⟨a, rfl, .inl ⟨xs, .inl h1⟩⟩
  | dt kvs => obtain ⟨a, xs, rfl, h1, _⟩ := r.dt_ s; exact ⟨a, rfl, .inr ⟨xs, .inl h1⟩⟩
  | _ => cases h
theorem ok_get2 {o e f : Expr} {apos cpos : Pos} {i k : Nat} {a b : EM} (hr : Room k X.A) (ho : PE X o (tVar i)) (he : EOk X e a) (hf : EOk X f b) (m : M2 X o "get" apos e f cpos) : EOk X (.Call (.Attribute o "get" apos) [e, f] [] cpos) (eGet2 i a b) :=
  pe_mono (pe_dget2 (hu_of hr) ho he hf m) fun σ H Q ⟨env, G, fp, con, c, env', e1, k⟩ => by
    unfold eGet2 at e1
    split at e1
    · rename_i c00 q0
      obtain ⟨v0, hv0, rc0⟩ := con.rep i _ q0
      cases qv : c00.vw.bind eGet2.isDct with
      | none => simp [qv] at e1
      | some u =>
        simp only [qv, Option.bind_some] at e1
        cases qw : c00.vw with
        | none => simp [qw] at qv
        | some d00 =>
          simp only [qw, Option.bind_some] at qv
          obtain ⟨ad, ea, hd⟩ := isD_of con.sub (rc0.vw qw) qv
          cases q : evA [.one a, .one b] env with
          | none => simp [q] at e1
          | some y =>
            obtain ⟨ds, e2⟩ := y
            simp only [q, Option.bind_some] at e1
            split at e1
            · rename_i y z c0 q1
              cases q3 : c0.vw with
              | none => simp [q3] at e1
              | some d =>
                simp only [q3, Option.bind_some] at e1
                cases q4 : getK d y with
                | none => simp [q4] at e1
                | some ov =>
                  simp [q4] at e1
                  obtain ⟨rfl, rfl⟩ := e1
                  subst ea
                  refine ⟨_, hv0, ad, rfl, hd, ?_⟩
                  have w := args_run (Q := fun vs H3 => ∃ yv zv, vs = [yv, zv] ∧ ∃ o, DGet H3 ad yv o ∧ Q (o.getD zv) H3) [.one a, .one b] con q fun vs G1 H1 fp1 con1 r s => by
                    cases r with
                    | cons r1 r =>
                      cases r with
                      | cons r2 r =>
                        cases r
                        obtain ⟨v0', hv0', rc⟩ := con1.rep i _ q1
                        rw [hv0] at hv0'; cases hv0'
                        obtain ⟨a', ea', _, ov', g, h⟩ := getK_of con1.sub (rc.vw q3) (.sh r1) q4
                        cases ea'
                        refine ⟨_, _, rfl, ov', g, ?_⟩
                        rcases h with ⟨v, d', h1, h2, h3⟩ | ⟨h1, h2⟩
                        · subst h1 h2; exact k.sh con1 s h3
                        · subst h1 h2; exact k.sh con1 s r2
                  refine vk_mono_opd (.val a) (fun yv H1 h1 => vk_mono_opd (.val b) (fun zv H2 h2 => ?_) h1) w
                  obtain ⟨yv', zv', e', h⟩ := h2
                  cases e'
                  exact h
            · cases e1
    · cases e1
end

/-! ## lists of lists of one's own -/
section
variable {X : Cx} {pos : Pos}
/-- len of such a name -/
def eLen2 (i : Nat) : EM := fun env => match env[i]? with
  | some (some (.oll dss)) => some (.sh (.int dss.length), env)
  | some (some (.ol ds)) => some (.sh (.int ds.length), env)
  | _ => none
theorem inner_len {K : Fg} {G H : Hp} : ∀ {ls : List Addr} {dss : List (List D)}, Inner K G H ls dss → ls.length = dss.length
  | _, _, .nil => rfl
  | _, _, .cons _ _ _ i => by simp [inner_len i]
theorem ok_len2 {o : Expr} {i : Nat} {p : Pos} (hg : Gl X "len") (hm : X.mg "len" = none) (ho : PE X o (tVar i)) (hs : starEach [o] X.env = (false, eval o X.env) :: starEach [] X.env := by rfl) (hpl : (backTo pos (starEach [] X.env)).any (·.1) = false := by rfl) : EOk X (.Call (.Name "len" p) [o] [] pos) (eLen2 i) :=
  pe_mono (pe_callB call_len_seq hg hm PySem.boot_len (pa_cons ho pa_nil hs) (by decide) (by decide) hs hpl) fun σ H Q ⟨env, G, fp, con, c, env', e1, k⟩ => by
    unfold eLen2 at e1
    split at e1
    · rename_i dss q0
      cases e1
      obtain ⟨v0, hv0, r⟩ := con.rep i _ q0
      generalize fp i = fi at r
      cases r with
      | oll g h inn nd => exact ⟨_, hv0, _, _, rfl, .inl (SqL.of h), by rw [List.length_map, inner_len inn]; exact k.sh con (Step.refl ..) (.int _)⟩
    · rename_i ds q0
      cases e1
      obtain ⟨v0, hv0, r⟩ := con.rep i _ q0
      generalize fp i = fi at r
      cases r with
      | ol g h r => exact ⟨_, hv0, _, _, rfl, .inl (SqL.of h), by rw [r.length]; exact k.sh con (Step.refl ..) (.int _)⟩
    · cases e1
/-- name.append(a new list) -/
def eApp2 (i : Nat) (m : EM) : EM := fun env => match env[i]? with
  | some (some c00) => (seqC c00).bind fun _ => (m env).bind fun (c, e) => match c, e[i]? with
    | .ol ds, some (some c0) => (seqC c0).bind fun dss => if dss.length < lim then some (.sh .non, e.set i (some (.oll (dss ++ [ds])))) else none
    | _, _ => none
  | _ => none
where seqC : C → Option (List (List D))
  | .ol [] => some [] | .oll dss => some dss | _ => none
theorem seqC_of {K : Fg} {G H : Hp} {v : V} {c : C} {f : List Addr} {dss : List (List D)} (r : RepC K G H v c f) (e : eApp2.seqC c = some dss) : ∃ l ls, v = .ref l ∧ f = l :: ls ∧ G l = none ∧ H l = some (.lst (ls.map V.ref)) ∧ Inner K G H ls dss ∧ (l :: ls).Nodup := by
  cases r with
  | ol g h r =>
    rename_i ds
    cases ds with
    | nil => cases e; cases r; exact ⟨_, [], rfl, rfl, g, h, .nil, by simp⟩
    | cons => cases e
  | oll g h i n => cases e; exact ⟨_, _, rfl, rfl, g, h, i, n⟩
  | _ => cases e
theorem inner_snoc {K : Fg} {G H : Hp} {l : Addr} {xs : List V} {ds : List D} (g : G l = none) (h : H l = some (.lst xs)) (r : Reps K G xs ds) : ∀ {ls : List Addr} {dss : List (List D)}, Inner K G H ls dss → Inner K G H (ls ++ [l]) (dss ++ [ds])
  | _, _, .nil => .cons g h r .nil
  | _, _, .cons a b c i => .cons a b c (inner_snoc g h r i)
theorem ok_app2 {o e : Expr} {apos cpos : Pos} {i : Nat} {m : EM} (ho : PE X o (tVar i)) (he : EOk X e m)
    (hbase : attributeBase o "append" X.env (eval o X.env) = eval o X.env := by rfl)
    (hfew : ((backTo cpos (starEach [e] X.env)).all (fun x => !x.1) && (backToKw cpos (keywordEach [] X.env)).all (fun x => x.1.isSome)
      && decide (([e] : List Expr).length + ([] : List Keyword).length + (if ([] : List Keyword).isEmpty then 0 else 1) < 30)) = true := by rfl)
    (hline : (apos.endLine == cpos.line) = true := by rfl) (hs : starEach [e] X.env = (false, eval e X.env) :: starEach [] X.env := by rfl) (hplain : (backTo cpos (starEach [] X.env)).any (·.1) = false := by rfl) :
    EOk X (.Call (.Attribute o "append" apos) [e] [] cpos) (eApp2 i m) :=
  pe_mono (pe_bm PySem.F.plainAttrs_list PySem.F.slot_list_append PySem.F.type_list_append mt_append ho (pa_cons he pa_nil hs) hbase hfew hline hs hplain) fun σ H Q ⟨env, G, fp, con, c, env', e1, k⟩ => by
    unfold eApp2 at e1
    split at e1
    · rename_i c00 q0
      obtain ⟨v0, hv0, rc0⟩ := con.rep i _ q0
      cases qs : eApp2.seqC c00 with
      | none => simp [qs] at e1
      | some dss0 =>
        simp only [qs, Option.bind_some] at e1
        obtain ⟨l0, ls0, rfl, _, _, hl0, _, _⟩ := seqC_of rc0 qs
        cases q : m env with
        | none => simp [q] at e1
        | some y =>
          obtain ⟨c1, e2⟩ := y
          simp only [q, Option.bind_some] at e1
          split at e1
          · rename_i ds c0 q1
            cases qs1 : eApp2.seqC c0 with
            | none => simp [qs1] at e1
            | some dss =>
              simp only [qs1, Option.bind_some] at e1
              split at e1
              · rename_i hlen
                cases e1
                refine ⟨_, hv0, .inl ⟨rfl, _, SqL.of hl0⟩, env, G, fp, con, _, e2, q, fun v G1 H1 fp1 fr con1 r1 n1 s1 => ?_⟩
                obtain ⟨v0', hv0', rc⟩ := con1.rep i _ q1
                rw [hv0] at hv0'; cases hv0'
                obtain ⟨l, ls, ev, ef, g, hl, inn, nd⟩ := seqC_of rc qs1
                cases ev
                cases r1 with
                | @ol t xs _ gt ht rt =>
                  have ht0 : t ∉ l0 :: ls := fun z => n1 t (by simp) ⟨i, by rw [ef]; exact z⟩
                  refine ⟨l0, ls.map V.ref, .ref t, rfl, rfl, hl, by rw [List.length_map, inner_len inn, ← lim_eq]; exact hlen, ?_⟩
                  have el : ls.map V.ref ++ [V.ref t] = (ls ++ [t]).map V.ref := by simp
                  rw [el]
                  have sub : Same G1 (upd H1 l0 (.lst ((ls ++ [t]).map V.ref))) := fun a o e => by rw [upd_ne (fun z => by rw [z, g] at e; cases e)]; exact con1.sub a o e
                  have nl : ∀ a ∈ ls, a ≠ l0 := fun a m z => (List.nodup_cons.mp nd).1 (by rw [← z]; exact m)
                  have inn2 : Inner X.K G1 (upd H1 l0 (.lst ((ls ++ [t]).map V.ref))) (ls ++ [t]) (dss ++ [ds]) := by
                    refine inner_snoc gt (by rw [upd_ne (fun z => ht0 (by simp [z]))]; exact ht) rt ?_
                    exact inn.mono (Same.refl _) (fun a m => (inn.mem a m).1) fun a m o e => by rw [upd_ne (nl a m)]; exact e
                  have rnew : RepC X.K G1 (upd H1 l0 (.lst ((ls ++ [t]).map V.ref))) (.ref l0) (.oll (dss ++ [ds])) (l0 :: (ls ++ [t])) := by
                    refine .oll g upd_same inn2 ?_
                    rw [← List.cons_append]
                    rw [List.nodup_append]
                    refine ⟨nd, by simp, fun a ma b mb => ?_⟩
                    simp at mb
                    subst mb
                    exact fun z => ht0 (by rw [← z]; exact ma)
                  have hi : i < e2.length := (List.getElem?_eq_some_iff.mp q1).1
                  have stp : Step G1 H1 (fun a => a ∈ l0 :: ls ∨ a ∈ [t]) G1 (upd H1 l0 (.lst ((ls ++ [t]).map V.ref))) (fun a => a ∈ l0 :: (ls ++ [t])) :=
                    ⟨fun _ _ e => e, fun a o e n => by rw [upd_ne (fun z => n (.inl (by simp [z])))]; exact e, fun a o e => .inl e, fun a m => .inl (by simp at m ⊢; rcases m with m | m | m <;> simp [m])⟩
                  -- the state: slot i dropped, stepped, put
                  have hd : ∀ a, U (fp1.set i []) a → ¬ (a ∈ l0 :: ls ∨ a ∈ [t]) := fun a u m => by
                    obtain ⟨j, mj⟩ := u
                    by_cases hj : j = i
                    · subst hj; rw [Fp.set_same] at mj; cases mj
                    · rw [Fp.set_ne hj] at mj
                      rcases m with m | m
                      · exact hj (con1.dis j i a mj (by rw [ef]; exact m))
                      · simp at m; subst m; exact n1 a (by simp) ⟨j, mj⟩
                  have con2 := (con1.drop (i := i) (σ' := σ) rfl fun _ _ => rfl).step stp hd sub
                  have con3 := con2.put (i := i) (by simpa using hi) rnew fun a m j hj z => by
                    rw [Fp.set_ne hj] at z
                    have m' : a ∈ l0 :: ls ∨ a ∈ [t] := by simp at m ⊢; rcases m with m | m | m <;> simp [m]
                    exact hd a ⟨j, by rw [Fp.set_ne hj]; exact z⟩ m'
                  have es : σ.set i (some (V.ref l0)) = σ := by
                    apply List.ext_getElem?
                    intro j
                    by_cases q : j = i
                    · subst q; rw [hv0]; exact List.getElem?_set_self (by rw [con1.len]; exact hi)
                    · rw [List.getElem?_set_ne (fun z => q z.symm)]
                  have efp : Fp.set (Fp.set fp1 i []) i (l0 :: (ls ++ [t])) = Fp.set fp1 i (l0 :: (ls ++ [t])) := by funext j; unfold Fp.set; split <;> rfl
                  rw [es, efp, List.set_set] at con3
                  refine k .non _ _ _ [] con3 (.sh .non) (fun a m => by cases m) (s1.trans (stp.weak (fun a m => m.elim (fun z => .inl ⟨i, by rw [ef]; exact z⟩) .inr) fun a u => ?_))
                  rcases u with u | u
                  · rcases U_set u with z | z
                    · exact .inr (.inl (.inl z))
                    · exact .inl z
                  · cases u
              · cases e1
          · cases e1
    · cases e1
/-- name[ix].append(v) -/
def eApp3 (i : Nat) (o : Opd) (m : EM) : EM := fun env => match env[i]? with
  | some (some (.oll _)) => (evI o env).bind fun (n, e) => match e[i]? with
    | some (some (.oll dss)) => (ixN dss.length n).bind fun j => (m (e.set i none)).bind fun (c, e2) => (dss[j]?).bind fun ds => if ds.length < lim then some (.sh .non, e2.set i (some (.oll (dss.set j (ds ++ [c.fz]))))) else none
    | _ => none
  | _ => none
theorem inner_at {K : Fg} {G H : Hp} : ∀ {ls : List Addr} {dss : List (List D)} {j : Nat} {ds : List D}, Inner K G H ls dss → dss[j]? = some ds → ∃ l xs, ls[j]? = some l ∧ G l = none ∧ H l = some (.lst xs) ∧ Reps K G xs ds
  | _, _, _, _, .nil, e => by simp at e
  | _, _, 0, _, .cons g h r _, e => by simp at e; subst e; exact ⟨_, _, rfl, g, h, r⟩
  | _, _, j + 1, _, .cons _ _ _ i, e => by
    obtain ⟨l, xs, a, b⟩ := inner_at (j := j) i (by simpa using e)
    exact ⟨l, xs, by simpa using a, b⟩
theorem inner_set {K : Fg} {G H : Hp} {ys : List V} {es : List D} (ry : Reps K G ys es) : ∀ {ls : List Addr} {dss : List (List D)} {j : Nat} {l : Addr}, Inner K G H ls dss → ls.Nodup → ls[j]? = some l → Inner K G (upd H l (.lst ys)) ls (dss.set j es)
  | _, _, _, _, .nil, _, e => by simp at e
  | _, _, 0, _, .cons g h r i, nd, e => by
    simp at e; subst e
    exact .cons g upd_same ry (i.mono (Same.refl _) (fun a m => (i.mem a m).1) fun a m o q => by rw [upd_ne (fun z => (List.nodup_cons.mp nd).1 (by rw [← z]; exact m))]; exact q)
  | l0 :: ls, _, j + 1, l, .cons g h r i, nd, e => by
    have e' : ls[j]? = some l := by simpa using e
    have hm : l ∈ ls := List.mem_of_getElem? e'
    refine .cons g (by rw [upd_ne (fun z => (List.nodup_cons.mp nd).1 (by rw [z]; exact hm))]; exact h) r (inner_set ry i (List.nodup_cons.mp nd).2 e')
theorem ok_app3 {b ix e : Expr} {spos apos cpos : Pos} {i : Nat} {o : Opd} {m : EM} (ho : PE X b (tVar i)) (hx : OOk X ix o) (he : EOk X e m) (hs0 : PlainIx ix := by intro _ _; rfl)
    (hbase : attributeBase (.Subscript b ix spos) "append" X.env (eval (.Subscript b ix spos) X.env) = eval (.Subscript b ix spos) X.env := by rfl)
    (hfew : ((backTo cpos (starEach [e] X.env)).all (fun x => !x.1) && (backToKw cpos (keywordEach [] X.env)).all (fun x => x.1.isSome)
      && decide (([e] : List Expr).length + ([] : List Keyword).length + (if ([] : List Keyword).isEmpty then 0 else 1) < 30)) = true := by rfl)
    (hline : (apos.endLine == cpos.line) = true := by rfl) (hs : starEach [e] X.env = (false, eval e X.env) :: starEach [] X.env := by rfl) (hplain : (backTo cpos (starEach [] X.env)).any (·.1) = false := by rfl) :
    EOk X (.Call (.Attribute (.Subscript b ix spos) "append" apos) [e] [] cpos) (eApp3 i o m) :=
  pe_mono (pe_bm PySem.F.plainAttrs_list PySem.F.slot_list_append PySem.F.type_list_append mt_append (L2.pe_ix ix_list ho hx hs0) (pa_cons he pa_nil hs) hbase hfew hline hs hplain) fun σ H Q ⟨env, G, fp, con, c, env', e1, k⟩ => by
    unfold eApp3 at e1
    split at e1
    · rename_i dss00 q0
      obtain ⟨v0, hv0, _⟩ := con.rep i _ q0
      cases q : evI o env with
      | none => simp [q] at e1
      | some y =>
        obtain ⟨n, e2⟩ := y
        simp only [q, Option.bind_some] at e1
        split at e1
        · rename_i dss q1
          cases qj : ixN dss.length n with
          | none => simp [qj] at e1
          | some j =>
            simp only [qj, Option.bind_some] at e1
            cases qm : m (e2.set i none) with
            | none => simp [qm] at e1
            | some y =>
              obtain ⟨c1, e3⟩ := y
              simp only [qm, Option.bind_some] at e1
              cases qd : dss[j]? with
              | none => simp [qd] at e1
              | some ds =>
                simp only [qd, Option.bind_some] at e1
                split at e1
                · rename_i hlen
                  cases e1
                  refine ⟨v0, hv0, evI_run con q fun G1 H1 fp1 con1 s1 => ?_⟩
                  obtain ⟨v0', hv0', rc⟩ := con1.rep i _ q1
                  rw [hv0] at hv0'; cases hv0'
                  generalize hf : fp1 i = fi at rc
                  cases rc with
                  | @oll l0 ls _ g hl inn nd =>
                    obtain ⟨lj, xs, elj, glj, hlj, rlj⟩ := inner_at inn qd
                    have hat : atI (ls.map V.ref) n = some (.ref lj) := by
                      unfold atI
                      rw [List.length_map, inner_len inn, qj]
                      show (ls.map V.ref)[j]? = _
                      rw [List.getElem?_map, elj]; rfl
                    refine ⟨l0, _, n, .ref lj, rfl, rfl, SqL.of hl, hat, .inl ⟨rfl, xs, SqL.of hlj⟩, ?_⟩
                    have rc0 : RepC X.K G1 H1 (.ref l0) (.oll dss) (l0 :: ls) := .oll g hl inn nd
                    have hi : i < e2.length := (List.getElem?_eq_some_iff.mp q1).1
                    have con1' := con1.drop (i := i) (σ' := σ) rfl fun _ _ => rfl
                    have nU : ∀ a ∈ l0 :: ls, ¬ U (fp1.set i []) a := fun a m u => by
                      obtain ⟨jj, mj⟩ := u
                      by_cases hj : jj = i
                      · subst hj; rw [Fp.set_same] at mj; cases mj
                      · rw [Fp.set_ne hj] at mj; exact hj (con1.dis jj i a mj (by rw [hf]; exact m))
                    refine ⟨_, G1, _, con1', c1, e3, qm, fun v G2 H2 fp2 fr con2 r2 n2 s2 => ?_⟩
                    have rc2 := rc0.step s2 nU
                    have nU2 := rc0.out s2 nU
                    have con3 := con_fz2 con2 r2 n2
                    have sf := Step.fz r2
                    have rc3 := rc2.step sf fun a m z => nU2 a m (.inr z)
                    have rx := r2.fz
                    -- the inner list at H2 is still lj
                    generalize hfi : l0 :: ls = fi at rc3 nU2
                    cases rc3 with
                    | @oll l0' ls' _ g3 hl3 inn3 nd3 =>
                      cases hfi
                      obtain ⟨lj', xs3, elj', glj', hlj', rlj'⟩ := inner_at inn3 qd
                      rw [elj] at elj'; cases elj'
                      have ry := rlj'.append (.cons rx .nil)
                      have nl : l0 ≠ lj := fun z => (List.nodup_cons.mp nd).1 (by rw [z]; exact List.mem_of_getElem? elj)
                      have sub3 : Same (addF G2 H2 fr) H2 := addF_sub con2.sub
                      have sub : Same (addF G2 H2 fr) (upd H2 lj (.lst (xs3 ++ [v]))) := fun a o e => by rw [upd_ne (fun z => by rw [z, glj'] at e; cases e)]; exact sub3 a o e
                      refine ⟨lj, xs3, v, rfl, rfl, hlj', by rw [rlj'.length, ← lim_eq]; exact hlen, ?_⟩
                      have rnew : RepC X.K (addF G2 H2 fr) (upd H2 lj (.lst (xs3 ++ [v]))) (.ref l0) (.oll (dss.set j (ds ++ [c1.fz]))) (l0 :: ls) :=
                        .oll g3 (by rw [upd_ne nl]; exact hl3) (inner_set ry inn3 (List.nodup_cons.mp nd).2 elj) nd
                      have mlj : lj ∈ l0 :: ls := by simp [List.mem_of_getElem? elj]
                      have stp : Step (addF G2 H2 fr) H2 (fun a => a ∈ l0 :: ls) (addF G2 H2 fr) (upd H2 lj (.lst (xs3 ++ [v]))) (fun a => a ∈ l0 :: ls) :=
                        ⟨fun _ _ e => e, fun a o e n => by rw [upd_ne (fun z => n (by rw [z]; exact mlj))]; exact e, fun a o e => .inl e, fun a m => .inl m⟩
                      have con4 := con3.step stp (fun a u m => nU2 a m (.inl u)) sub
                      have hi3 : i < e3.length := by
                        have a1 := con2.len
                        have a2 := con1'.len
                        rw [← a1, a2]; simpa using hi
                      have con5 := con4.put (i := i) hi3 rnew fun a m jj hj z => nU2 a m (.inl ⟨jj, z⟩)
                      have es : σ.set i (some (V.ref l0)) = σ := by
                        apply List.ext_getElem?
                        intro jj
                        by_cases q : jj = i
                        · subst q; rw [hv0]; exact List.getElem?_set_self (by rw [con1.len]; exact hi)
                        · rw [List.getElem?_set_ne (fun z => q z.symm)]
                      rw [es] at con5
                      refine k .non _ _ _ [] con5 (.sh .non) (fun a m => by cases m) (s1.trans (?_ : Step G1 H1 (U fp1) _ _ _))
                      have b1 : Step G1 H1 (U fp1) G2 H2 (fun a => U fp2 a ∨ a ∈ fr ∨ a ∈ l0 :: ls) := s2.weak (fun a u => by
                        rcases U_set u with z | z
                        · exact z
                        · cases z) fun a u => by
                        rcases u with u | u | u
                        · exact .inl (.inl u)
                        · exact .inl (.inr u)
                        · exact .inr (.inl ⟨i, by rw [hf]; exact u⟩)
                      have b2 : Step G2 H2 (fun a => U fp2 a ∨ a ∈ fr ∨ a ∈ l0 :: ls) (addF G2 H2 fr) H2 (fun a => U fp2 a ∨ a ∈ fr ∨ a ∈ l0 :: ls) := sf.weak (fun _ z => .inr (.inl z)) fun a u => .inr (.inl u)
                      have b3 : Step (addF G2 H2 fr) H2 (fun a => U fp2 a ∨ a ∈ fr ∨ a ∈ l0 :: ls) (addF G2 H2 fr) (upd H2 lj (.lst (xs3 ++ [v]))) (fun a => U (Fp.set fp2 i (l0 :: ls)) a ∨ a ∈ ([] : List Addr)) := stp.weak (fun _ z => .inr (.inr z)) fun a u => by
                        rcases u with u | u
                        · rcases U_set u with z | z
                          · exact .inr (.inl (.inl z))
                          · exact .inl z
                        · cases u
                      exact (b1.trans b2).trans b3
                · cases e1
        · cases e1
    · cases e1
end

/-! ## x op= e -/
def sAug (i : Nat) (g : Int → Int → Int) (m : EM) : SM := fun env => match env[i]? with
  | some (some (.sh (.int a))) => match m env with
    | some (.sh (.int b), e) => if i < e.length then some (.nx (e.set i (some (.sh (.int (g a b)))))) else none
    | _ => none
  | _ => none
/-- name[ix] op= e, the name a list -/
def sAugIx (i : Nat) (o : Opd) (g : Int → Int → Int) (m : EM) : SM := fun env => match env[i]? with
  | some (some (.ol _)) => (evI o env).bind fun (n, e) => match e[i]? with
    | some (some (.ol ds)) => match atI ds n, m e with
      | some (.int a), some (.sh (.int b), e2) => match e2[i]? with
        | some (some (.ol ds2)) => (ixN ds2.length n).bind fun j => some (.nx (e2.set i (some (.ol (ds2.set j (.int (g a b)))))))
        | _ => none
      | _, _ => none
    | _ => none
  | _ => none
section
variable {X : Cx} {p : Nat} {pos : Pos}
theorem s_aug {i : Nat} {x : Str} {e : Expr} {op : Operator} {g : Int → Int → Int} {pos' : Pos} {m : EM} (hp : p ≤ i) (he : EOk X e m) (hN : X.N.Nodup) (hi : X.N[i]? = some x) (hx : Loc X.env.scope x) (ho : PIp X op (ipI g)) (hf : X.fn x = true ∨ X.env.scope.names.lookup x = some .local := by first | exact .inl rfl | exact .inr rfl | assumption) :
    SOk X p (.AugAssign (.Name x pos') op e pos) (sAug i g m) := ps_mono (ps_aug hN hi hx he ho hf) fun D σ H ⟨env, G, fp, con, o, e1, k⟩ => by
  unfold sAug at e1
  split at e1
  · rename_i a q0
    obtain ⟨v0, hv0, r0⟩ := con.rep i _ q0
    split at e1
    · rename_i b e2 q
      split at e1
      · rename_i hl
        cases e1
        have r0 := r0.of_sh.1
        cases r0
        refine ⟨_, hv0, env, G, fp, con, _, e2, q, fun v G' H' fp' fr c' r n s => ?_⟩
        have r := r.of_sh.1
        cases r
        exact ⟨a, b, rfl, rfl, k _ G' H' _ (con_sh c' hl (.int (g a b))) (s.weak (fun _ u => u) fun a u => .inl (.inl (U_set_nil u))) (take_set hp)⟩
      · cases e1
    · cases e1
  · cases e1
def rGetL (K : Fg) : V → V → Hp → VK → Prop := rIxL K
theorem get_list : PGet X (rGetL X.K) := by
  intro pins s σ H o i ov iv Q I ro ri h
  obtain ⟨p, xs, n, z, rfl, rfl, hq, he, q⟩ := h
  cases ro
  obtain ⟨t, rfl⟩ := ri
  obtain ⟨its, r, pl, hz⟩ := I.list hq
  obtain ⟨j, h1, h2, h3, h4, h5⟩ := atI_get he
  obtain ⟨w, ew, rw'⟩ := r.get h2
  have hl := r.length
  have hn := line63
  have fin : EP X pins σ Q w s := ⟨z, H, I, rw', q⟩
  by_cases h0 : 0 ≤ n
  · have hj : n.toNat = j := by
      rw [seqIndex_of h0 h5] at h1
      exact Option.some.inj h1
    exact wpAny_getItem_list pl.isList h0 (by omega) (by rw [hj]; simpa using ew) fin
  · have hj : (n + (its.toArray.size : Int)).toNat = j := by
      rw [seqIndex_neg (by omega) h4] at h1
      rw [List.size_toArray, ← hl]
      exact Option.some.inj h1
    exact wpAny_getItem_list_neg pl.isList (by omega) (by rw [List.size_toArray] <;> omega) (by omega) (by rw [hj]; simpa using ew) fin
theorem s_augIx {i : Nat} {b ix e : Expr} {o : Opd} {op : Operator} {g : Int → Int → Int} {tpos : Pos} {m : EM} (hb : PE X b (tVar i)) (hx : OOk X ix o) (he : EOk X e m) (ho : PIp X op (ipI g))
    (ha : ∀ ov iv new, augStore ix ov iv new = (do holding [new, ov, iv] (setItem ov iv new); release [new, ov, iv] []; pure .next) := by intros; rfl) : SOk X p (.AugAssign (.Subscript b ix tpos) op e pos) (sAugIx i o g m) := ps_mono (ps_augS hb hx get_list he ho set_list ha) fun D σ H ⟨env, G, fp, con, oo, e1, k⟩ => by
  unfold sAugIx at e1
  split at e1
  · rename_i ds0 q0
    obtain ⟨v0, hv0, _⟩ := con.rep i _ q0
    cases q : evI o env with
    | none => simp [q] at e1
    | some y =>
      obtain ⟨n, e2⟩ := y
      simp only [q, Option.bind_some] at e1
      split at e1
      · rename_i ds q1
        split at e1
        · rename_i a bb e3 qa qm
          split at e1
          · rename_i ds2 q2
            cases qj : ixN ds2.length n with
            | none => simp [qj] at e1
            | some j =>
              simp [qj] at e1; subst e1
              refine ⟨v0, hv0, evI_run con q fun G1 H1 fp1 con1 s1 => ?_⟩
              obtain ⟨v0', hv0', rc⟩ := con1.rep i _ q1
              rw [hv0] at hv0'; cases hv0'
              generalize fp1 i = fi at rc
              cases rc with
              | @ol la xs0 _ g1 hl r1 =>
                obtain ⟨v, ev, rv⟩ := r1.at_ qa
                cases rv
                refine ⟨_, _, n, _, rfl, rfl, SqL.of hl, ev, e2, G1, fp1, con1, _, e3, qm, fun w G2 H2 fp2 fr con2 r2 n2 s2 => ?_⟩
                have r2 := r2.of_sh.1
                cases r2
                refine ⟨a, bb, rfl, rfl, ?_⟩
                obtain ⟨v0'', hv0'', rc2⟩ := con2.rep i _ q2
                rw [hv0] at hv0''; cases hv0''
                have h2 : RepC X.K G2 H2 (.ref _) (.ol ds2) (fp2 i) := rc2
                generalize hf : fp2 i = fi at rc2
                cases rc2 with
                | @ol _ xs _ g2 hl2 r3 =>
                  have sub : Same G2 (upd H2 la (.lst (xs.set j (.int (g a bb))))) := fun a o e => by rw [upd_ne (fun z => by rw [z, g2] at e; cases e)]; exact con2.sub a o e
                  have stp : Step G2 H2 (fun a => a ∈ fp2 i) G2 (upd H2 la (.lst (xs.set j (.int (g a bb))))) (fun a => a ∈ [la] ∨ a ∈ ([] : List Addr)) := by
                    rw [hf]
                    exact ⟨fun _ _ e => e, fun a o e n => by rw [upd_ne (fun z => n (by simp [z]))]; exact e, fun a o e => .inl e, fun a m => .inl (by simpa using m)⟩
                  obtain ⟨fp3, con3, _, s3⟩ := con_mut con2 q2 hv0 sub (.ol g2 upd_same (r3.set (.int (g a bb)) j)) (fun a m => by cases m) stp
                  refine ⟨la, xs, n, j, rfl, rfl, hl2, by rw [r3.length]; exact qj, k σ G2 _ fp3 con3 ((s1.trans (weakT s2)).trans (s3.weak (fun _ u => u) fun a u => .inl (.inl u))) rfl⟩
          · cases e1
        · cases e1
      · cases e1
  · cases e1
end
end Fx
set_option Elab.async false
set_option linter.all false
set_option maxRecDepth 100000
set_option maxHeartbeats 4000000
noncomputable section
namespace Fx
open PySem PySem.Spec L2
open PyProof.Rows (boot_zip boot_enumerate boot_list args_cons args_nil Call_)

/-! ## sources of zip and enumerate: lists, tuples, texts -/
inductive Kd where
  | L (a : Addr) | T (a : Addr) | S (x : Str)
def Kd.v : Kd → V
  | .L a => .ref a | .T a => .ref a | .S x => .str x
def signs (x : Str) : List V := x.cps.toList.map fun c => V.str ⟨#[c]⟩
def Kd.src (K : Fg) (H : Hp) (k : Kd) (xs : List V) : Prop := match k with
  | .L a => SqL K H a xs | .T a => SqT K H a xs | .S x => xs = signs x
def Kd.at_ (h : Heap) (j i : Nat) : Kd → Prop
  | .L a => h.IsListIter j a i | .T a => h.IsTupleIter j a i | .S x => ∃ t, h.IsStrIter j (strIterType x) x t i
def Kd.fps (j : Addr) : Kd → List Addr
  | .L a => [j, a] | .T a => [j, a] | .S _ => [j]
def Kd.lt (n : Nat) : Kd → Prop
  | .L a => a < n | .T a => a < n | .S _ => True
theorem Kd.obj {k : Kd} {h : Heap} {j i : Nat} (st : k.at_ h j i) : ∃ o, h.get? j = some o ∧ ∀ v, o.data ≠ .cell v := by
  cases k with
  | L a => obtain ⟨o, e, _, d⟩ := st; exact ⟨o, e, fun v q => by rw [d] at q; cases q⟩
  | T a => obtain ⟨o, e, _, d⟩ := st; exact ⟨o, e, fun v q => by rw [d] at q; cases q⟩
  | S x => obtain ⟨t, o, e, _, d⟩ := st; exact ⟨o, e, fun v q => by rw [d] at q; cases q⟩
theorem Kd.keep {k : Kd} {h h' : Heap} {j i : Nat} (st : k.at_ h j i) (e : ∀ o, h.get? j = some o → h'.get? j = some o) : k.at_ h' j i := by
  cases k with
  | L a => obtain ⟨o, z, r⟩ := st; exact ⟨o, e o z, r⟩
  | T a => obtain ⟨o, z, r⟩ := st; exact ⟨o, e o z, r⟩
  | S x => obtain ⟨t, o, z, r⟩ := st; exact ⟨t, o, e o z, r⟩
theorem valsR : ∀ {xs : List V} {us : List Value} {i : Nat} {u : Value}, Vals xs us → us[i]? = some u → ∃ x, xs[i]? = some x ∧ RelV x u
  | _, _, _, _, .nil, e => by simp at e
  | _, _, 0, _, .cons r _, e => by simp at e; subst e; exact ⟨_, rfl, r⟩
  | _, _, i + 1, u, .cons _ r, e => by
    obtain ⟨x, h1, h2⟩ := valsR (i := i) r (by simpa using e)
    exact ⟨x, by simpa using h1, h2⟩
section
variable {X : Cx} {pins : List (Addr × Obj)} {σ : St} {H : Hp} {s : Shared}
theorem Kd.src_lt {k : Kd} {xs : List V} (I : Inv X pins σ H s) (h : k.src X.K H xs) : k.lt s.heap.objs.size := by
  cases k with
  | L a => obtain ⟨its, rv, p, _⟩ := I.list h; exact p.lt
  | T a => obtain ⟨its, rv, p, _⟩ := I.tuple h; obtain ⟨o, e, _⟩ := p; exact Heap.lt_size e
  | S x => trivial
theorem Kd.src_inj {k : Kd} {xs ys : List V} (I : Inv X pins σ H s) (h : k.src X.K H xs) (h' : k.src X.K H ys) : xs = ys := by
  cases k with
  | L a => exact I.list_inj h h'
  | T a => exact I.tuple_inj h h'
  | S x => exact Eq.trans h (Eq.symm h')
theorem Kd.draws {k : Kd} {xs : List V} {j i : Nat} {w : World} {A : Around} {P : Program} (I : Inv X pins σ H s) (h : k.src X.K H xs) (hj : ∀ a, (k = .L a ∨ k = .T a) → a ≠ j) (hh : A.handled = none) (st : k.at_ s.heap j i) :
    ∃ (Pr : Nat → Value → Prop) (St : Nat → Heap → Prop), Draws P w A j (k.fps j) xs.length Pr St ∧ St i s.heap ∧ (∀ i h, St i h → k.at_ h j i) ∧ ∀ i v, Pr i v → ∃ y, xs[i]? = some y ∧ RelV y v := by
  cases k with
  | L a =>
    obtain ⟨its, rv, p, _⟩ := I.list h
    have hl : its.toArray.size = xs.length := by simp [rv.length]
    refine ⟨_, _, hl ▸ Draws.list hh j a (hj a (.inl rfl)) its.toArray, ⟨st, p.isList⟩, fun i h z => z.1, fun i v z => ?_⟩
    have z : its[i]? = some v := by simpa using z
    exact valsR rv z
  | T a =>
    obtain ⟨its, rv, p, _⟩ := I.tuple h
    have hl : its.toArray.size = xs.length := by simp [rv.length]
    refine ⟨_, _, hl ▸ Draws.tuple hh j a (hj a (.inr rfl)) its.toArray, ⟨st, p⟩, fun i h z => z.1, fun i v z => ?_⟩
    have z : its[i]? = some v := by simpa using z
    exact valsR rv z
  | S x =>
    have h : xs = signs x := h
    subst h
    obtain ⟨t, st⟩ := st
    have hl : x.cps.size = (signs x).length := by simp [signs]
    refine ⟨_, _, hl ▸ Draws.text hh j x t, st, fun i h z => ⟨t, z⟩, fun i v z => ?_⟩
    obtain ⟨c, u, e1, e2⟩ := z
    subst e2
    exact ⟨.str ⟨#[c]⟩, by simp [signs, e1], u, rfl⟩
theorem Kd.begins {k : Kd} {xs : List V} {u : Value} (I : Inv X pins σ H s) (h : k.src X.K H xs) (r : RelV k.v u) : ∃ (o : Obj) (Hc : Heap → Prop), Begins u o Hc ∧ Hc s.heap ∧ ∀ (h' : Heap) (j : Addr), h'.get? j = some o → k.at_ h' j 0 := by
  cases k with
  | L a =>
    obtain ⟨its, rv, p, _⟩ := I.list h
    cases r
    exact ⟨_, _, begins_list a its.toArray, p.isList, fun h' j e => ⟨_, e, rfl, rfl⟩⟩
  | T a =>
    obtain ⟨its, rv, p, _⟩ := I.tuple h
    cases r
    exact ⟨_, _, begins_tuple a its.toArray, p, fun h' j e => ⟨_, e, rfl, rfl⟩⟩
  | S x =>
    obtain ⟨t, rfl⟩ := r
    exact ⟨_, _, begins_text x t, trivial, fun h' j e => ⟨t, _, e, rfl, rfl⟩⟩
end

theorem ne_nat {a b : Addr} (h : @Ne Nat a b) : a ≠ b := h
theorem zip_sep {k1 k2 : Kd} {n : Nat} (h1 : k1.lt n) (h2 : k2.lt n) : ZipSep2 (n + 4) (n + 2) (n + 3) n (n + 1) (k1.fps n) (k2.fps (n + 1)) := by
  have m1 : ∀ c : Nat, @Membership.mem Addr _ _ (k1.fps n) c → @LE.le Nat _ c n := fun c m => by
    cases k1 <;> simp only [Kd.fps, Kd.lt, List.mem_cons, List.not_mem_nil, or_false] at * <;> (try rcases m with m | m) <;> subst_vars <;> first | exact Nat.le_refl _ | exact Nat.le_of_lt h1
  have m2 : ∀ c : Nat, @Membership.mem Addr _ _ (k2.fps (n + 1)) c → @Eq Nat c (n + 1) ∨ @LT.lt Nat _ c n := fun c m => by
    cases k2 <;> simp only [Kd.fps, Kd.lt, List.mem_cons, List.not_mem_nil, or_false] at * <;> (try rcases m with m | m) <;> subst_vars <;> first | exact .inl rfl | exact .inr h2
  have g1 : n ∈ k1.fps n := by cases k1 <;> simp [Kd.fps]
  have g2 : n + 1 ∈ k2.fps (n + 1) := by cases k2 <;> simp [Kd.fps]
  exact ⟨ne_nat (by omega), ne_nat (by omega), ne_nat (by omega), ne_nat (by omega), g1, fun m => absurd (m1 _ m) (by omega), fun m => absurd (m1 _ m) (by omega), ne_nat (by omega), g2,
    fun m => (m2 _ m).elim (fun z : (n + 4 : Nat) = n + 1 => absurd z (by omega)) fun z => absurd z (by omega), fun m => (m2 _ m).elim (fun z : (n + 3 : Nat) = n + 1 => absurd z (by omega)) fun z => absurd z (by omega),
    fun m => (m2 _ m).elim (fun z : (n : Nat) = n + 1 => absurd z (by omega)) fun z => absurd z (Nat.lt_irrefl _), fun m => absurd (m1 _ m) (by omega)⟩
/-- zip of two sources, the items in new pairs -/
def ItG (K : Fg) (k1 k2 : Kd) : It :=
  ⟨fun i H => ∃ (xs ys : List V) (x y : V), k1.src K H xs ∧ k2.src K H ys ∧ xs[i]? = some x ∧ ys[i]? = some y,
    fun i H v H' => ∃ T x y, v = .ref T ∧ H T = none ∧ H' = upd H T (.tup [x, y]) ∧ (∀ xs, k1.src K H xs → xs[i]? = some x) ∧ ∀ ys, k2.src K H ys → ys[i]? = some y,
    fun i H => ∃ xs ys : List V, k1.src K H xs ∧ k2.src K H ys ∧ i ≤ xs.length ∧ i ≤ ys.length ∧ (i = xs.length ∨ i = ys.length)⟩
structure ZAt (k1 k2 : Kd) (n i : Nat) (h : Heap) : Prop where
  lt1 : k1.lt n
  lt2 : k2.lt n
  z : IsZip h (n + 4) (n + 2) (n + 3) .none
  TI : IsTupOf2 h (n + 2) (.ref n) (.ref (n + 1))
  TO : ∃ x y, IsTupOf2 h (n + 3) x y
  a1 : k1.at_ h n i
  a2 : k2.at_ h (n + 1) i
def zfp (n : Nat) : List Addr := [n + 4, n + 2, n + 3, n, n + 1]
theorem mem_zfp {n c : Nat} (h : c ∈ zfp n) : c = n + 4 ∨ c = n + 2 ∨ c = n + 3 ∨ c = n ∨ c = n + 1 := by simpa [zfp] using h
theorem ZAt.lt {k1 k2 : Kd} {n i : Nat} {h : Heap} (Z : ZAt k1 k2 n i h) {c : Addr} (m : c ∈ zfp n) : c < h.objs.size := by
  obtain ⟨x, y, hTO⟩ := Z.TO
  rcases mem_zfp m with q | q | q | q | q
  · rw [q]; exact Heap.lt_size Z.z
  · rw [q]; exact Heap.lt_size Z.TI
  · rw [q]; exact Heap.lt_size hTO
  · rw [q]; obtain ⟨_, e, _⟩ := Kd.obj Z.a1; exact Heap.lt_size e
  · rw [q]; obtain ⟨_, e, _⟩ := Kd.obj Z.a2; exact Heap.lt_size e
theorem apart1 {k : Kd} {n j : Nat} (h : k.lt n) (hj : n ≤ j) : ∀ a, (k = .L a ∨ k = .T a) → a ≠ j := fun a e => by
  rcases e with e | e
  · subst e; exact Nat.ne_of_lt (Nat.lt_of_lt_of_le h hj)
  · subst e; exact Nat.ne_of_lt (Nat.lt_of_lt_of_le h hj)
theorem turn_zipG {P : Program} {w : World} {K : Fg} {elts : List Expr} {kk : Nat} {tpos : Pos} (k1 k2 : Kd) (n : Nat) : Turn P w K (.Tuple elts kk tpos) (ItG K k1 k2) (zfp n) (n + 4) (ZAt k1 k2 n) where
  mem := by simp [zfp]
  obj := fun i h st c hc => by
    obtain ⟨x, y, hTO⟩ := st.TO
    rcases mem_zfp hc with q | q | q | q | q
    · rw [q]; exact ⟨_, st.z, fun v q => nomatch q⟩
    · rw [q]; exact ⟨_, st.TI, fun v q => nomatch q⟩
    · rw [q]; exact ⟨_, hTO, fun v q => nomatch q⟩
    · rw [q]; exact Kd.obj st.a1
    · rw [q]; exact Kd.obj st.a2
  keep := fun i h h' st k => by
    obtain ⟨x, y, hTO⟩ := st.TO
    exact ⟨st.lt1, st.lt2, k _ (by simp [zfp]) _ st.z, k _ (by simp [zfp]) _ st.TI, ⟨x, y, k _ (by simp [zfp]) _ hTO⟩, Kd.keep st.a1 (k _ (by simp [zfp])), Kd.keep st.a2 (k _ (by simp [zfp]))⟩
  item := by
    intro X hP hw hK hc i pins s σ H E I hf st hg
    subst hP hw hK
    obtain ⟨xs, ys, x, y, hqx, hqy, hx, hy⟩ := hg
    obtain ⟨x0, y0, hTO⟩ := st.TO
    have S := zip_sep st.lt1 st.lt2
    have hh : X.A.in1.handled = none := I.ok.hd hc
    obtain ⟨P1, St1, D1, s1, r1, v1⟩ := Kd.draws (w := X.w) (P := X.prog) (A := X.A.in1) I hqx (apart1 st.lt1 (Nat.le_refl _)) hh st.a1
    obtain ⟨P2, St2, D2, s2, r2, v2⟩ := Kd.draws (w := X.w) (P := X.prog) (A := X.A.in1) I hqy (apart1 st.lt2 (Nat.le_succ _)) hh st.a2
    have hi1 : i < xs.length := (List.getElem?_eq_some_iff.mp hx).1
    have hi2 : i < ys.length := (List.getElem?_eq_some_iff.mp hy).1
    refine wpAny_pyNext_zipD2_item S D1 D2 st.z st.TI hTO s1 s2 hi1 hi2 fun u1 u2 h' tk p1 p2 z' TO' t1 t2 hT hsz hk => ?_
    refine ⟨_, rfl, wpAny_letOwnedTupleGo_zip (s := { s with heap := h', toks := tk }) z' fun h'' z'' sb => ?_⟩
    have ru1 : RelV x u1 := by
      obtain ⟨y', e1, e2⟩ := v1 i u1 p1
      rw [hx] at e1; cases e1; exact e2
    have ru2 : RelV y u2 := by
      obtain ⟨y', e1, e2⟩ := v2 i u2 p2
      rw [hy] at e1; cases e1; exact e2
    have hzl : n + 4 < s.heap.objs.size := Heap.lt_size st.z
    have hT2 : h''.get? s.heap.objs.size = some { cls := .type "tuple", data := .seq #[u1, u2] } := (sb.2 _ (Nat.ne_of_gt hzl)).trans hT
    have new : ObjOk X.prog X.w (upd H s.heap.objs.size (.tup [x, y])) h'' s.heap.objs.size (.tup [x, y]) :=
      ⟨by show 2 ≤ sizeLine; decide, [u1, u2], .cons ru1 (.cons ru2 .nil), ⟨_, hT2, rfl, _, rfl⟩⟩
    have I1 : Inv X pins σ (upd H s.heap.objs.size (.tup [x, y])) { s with heap := h'', toks := tk } :=
      I.turnedNew (t' := tk) (ch := zfp n) (fun c o hb q => (sb.2 c (fun q' => hb (by simp [zfp, q']))).trans (hk c o (fun q' => hb (by simp [zfp, q'])) (fun q' => hb (by simp [zfp, q'])) (fun q' => hb (by simp [zfp, q'])) (fun q' => hb (by simp [zfp, q'])) q)) hf (Nat.le_refl _) new
    refine ⟨.ref s.heap.objs.size, _, I1, rfl, ⟨_, x, y, rfl, I.hok.fresh (Nat.le_refl _), rfl, fun l hl => by rw [Kd.src_inj I hl hqx]; exact hx, fun l hl => by rw [Kd.src_inj I hl hqy]; exact hy⟩, ⟨st.lt1, st.lt2, z'', ?_, ⟨u1, u2, ?_⟩, ?_, ?_⟩, fun c hcm => ?_⟩
    · exact (sb.2 _ S.TIz).trans (hk _ _ S.TIz S.TITO S.TIi1 S.TIi2 st.TI)
    · exact (sb.2 _ S.TOz).trans TO'
    · exact Kd.keep (r1 _ _ t1) fun o q => (sb.2 _ S.zi1.symm).trans q
    · exact Kd.keep (r2 _ _ t2) fun o q => (sb.2 _ S.zi2.symm).trans q
    · rw [upd_ne (Nat.ne_of_lt (st.lt hcm))]
      exact (hf c hcm).1
  done := by
    intro X hP hw hK hc i pins s σ H E I hf st hg
    subst hP hw hK
    obtain ⟨xs, ys, hqx, hqy, l1, l2, hend⟩ := hg
    obtain ⟨x0, y0, hTO⟩ := st.TO
    have S := zip_sep st.lt1 st.lt2
    have hh : X.A.in1.handled = none := I.ok.hd hc
    obtain ⟨P1, St1, D1, s1, r1, v1⟩ := Kd.draws (w := X.w) (P := X.prog) (A := X.A.in1) I hqx (apart1 st.lt1 (Nat.le_refl _)) hh st.a1
    obtain ⟨P2, St2, D2, s2, r2, v2⟩ := Kd.draws (w := X.w) (P := X.prog) (A := X.A.in1) I hqy (apart1 st.lt2 (Nat.le_succ _)) hh st.a2
    exact wpAny_pyNext_zipD2_end S D1 D2 st.z st.TI hTO s1 s2 l1 l2 hend fun h' tk hk => ⟨rfl, I.turnedL (t' := tk) (ch := zfp n) (fun c o hb q =>
      hk c o (fun q' => hb (by simp [zfp, q'])) (fun q' => hb (by simp [zfp, q'])) (fun q' => hb (by simp [zfp, q'])) (fun q' => hb (by simp [zfp, q'])) q) hf⟩
  self := fun A i s Q E st h => wpAny_pyIter_zip st.z h
def iZipG (K : Fg) (ta : TA) : TI := fun σ H R => ta σ H fun vs H1 => ∃ k1 k2 xs ys, vs = [Kd.v k1, Kd.v k2] ∧ k1.src K H1 xs ∧ k2.src K H1 ys ∧ R (ItG K k1 k2) H1
theorem ItG_src {K : Fg} {k : Kd} {xs : List V} {H H' : Hp} (s : Same H H') (h : k.src K H xs) : k.src K H' xs := by
  cases k with
  | L a => exact s.seq h
  | T a => exact Same.sqT s h
  | S x => exact h
section
variable {X : Cx}
/-- the call zip(a, b): its cells -/
theorem zip_new {pins : List (Addr × Obj)} {σ : St} {H : Hp} {s : Shared} {k1 k2 : Kd} {xs ys : List V} {u1 u2 : Value} {A : Around} {Q E} (I : Inv X pins σ H s) (hx : k1.src X.K H xs) (hy : k2.src X.K H ys) (r1 : RelV k1.v u1) (r2 : RelV k2.v u2)
    (h : ∀ h', ZAt k1 k2 s.heap.objs.size 0 h' → Inv X pins σ H { s with heap := h' } → (∀ c o, s.heap.get? c = some o → h'.get? c = some o) → h'.objs.size = s.heap.objs.size + 5 → (∀ c ∈ zfp s.heap.objs.size, FpOk X pins H c) → Q (.ref (s.heap.objs.size + 4)) { s with heap := h' }) :
    wpAny (model X.prog X.w) A (call (.type "zip") [u1, u2]) Q E s := by
  obtain ⟨o1, H1, B1, c1, f1⟩ := Kd.begins I hx r1
  obtain ⟨o2, H2, B2, c2, f2⟩ := Kd.begins I hy r2
  refine zip_begins2 B1 B2 c1 c2 fun h' hz hTI hTO g1 g2 hsz hk => h h' ⟨Kd.src_lt I hx, Kd.src_lt I hy, hz, hTI, ⟨_, _, hTO⟩, f1 _ _ g1, f2 _ _ g2⟩ (I.kept (t' := s.toks) hk) hk hsz fun c hcm => ?_
  have hle : s.heap.objs.size ≤ c := by
    rcases mem_zfp hcm with z | z | z | z | z <;> rw [z] <;> omega
  exact I.fpOk hle (I.hok.fresh hle)
theorem pi_zipG {e e2 : Expr} {ta : TA} {p pos tpos : Pos} {elts : List Expr} {kk : Nat} (hg : Gl X "zip") (hm : X.mg "zip" = none) (ha : PA X [e, e2] ta)
    (hs : starEach [e, e2] X.env = (false, eval e X.env) :: starEach [e2] X.env := by rfl) (hpl : (backTo pos (starEach [e2] X.env)).any (·.1) = false := by rfl) :
    PI X (.Tuple elts kk tpos) (.Call (.Name "zip" p) [e, e2] [] pos) (iZipG X.K ta) := by
  refine ⟨fun pins s σ H R I h => ?_⟩
  refine Call_ (ld_blt I hg hm PyProof.Rows.boot_zip (PyProof.Rows.callWith_type1 (thn (ha.run pos pins s σ H _ I h) fun us s1 ⟨vs, H1, I1, r1, q1⟩ => ?_) hs hpl))
  obtain ⟨k1, k2, xs, ys, ex, hqx, hqy, q1⟩ := q1
  subst ex
  cases r1 with
  | cons r rr =>
    cases rr with
    | cons r' rr =>
      cases rr
      refine zip_new I1 hqx hqy r r' fun h' Z I2 hk hsz fp => wpAny_pyIter_zip Z.z ?_
      exact ⟨_, zfp s1.heap.objs.size, _, _, H1, rfl, I2, turn_zipG k1 k2 _, Z, fp, q1⟩
end
end Fx
set_option Elab.async false
set_option linter.all false
set_option maxRecDepth 100000
set_option maxHeartbeats 4000000
noncomputable section
namespace Fx
open PySem PySem.Spec L2
open PyProof.Rows (boot_zip boot_enumerate boot_list args_cons args_nil Call_)

/-! ## tuple targets -/
section
variable {X : Cx}
theorem g_tup {es : List Expr} {k : Nat} {pos : Pos} {is : List Nat} (hc : X.calm = true) (h : PGs X es (gNames is)) (hn : (assignEach es X.env).length = is.length := by rfl) (hst : (assignEach es X.env).findIdx? (·.1) = none := by rfl) : GOk X (.Tuple es k pos) (.tup is) := pg_tup hc h hn hst
theorem gn_nil : PGs X [] (gNames []) := pgs_nil
theorem gn_cons {e : Expr} {es : List Expr} {i : Nat} {is : List Nat} (h1 : GOk X e (.one i)) (h2 : PGs X es (gNames is)) (hs : (assignEach (e :: es) X.env).map (·.2) = assign e X.env :: (assignEach es X.env).map (·.2) := by rfl) : PGs X (e :: es) (gNames (i :: is)) := pgs_cons h1 h2 hs
end

/-! ## zip, enumerate as what is walked -/
def D.zseq : D → Option (List D)
  | .tup ds => some ds | .lst ds => some ds | .str x => some (x.cps.toList.map fun c => .str ⟨#[c]⟩) | _ => none
theorem reps_signs {K : Fg} {G : Hp} (l : List Nat) : Reps K G (l.map fun c => V.str ⟨#[c]⟩) (l.map fun c => D.str ⟨#[c]⟩) := by
  induction l with
  | nil => exact .nil
  | cons c r ih => exact .cons (.str _) ih
theorem Rep.kd {K : Fg} {G : Hp} {v : V} {d : D} {ds : List D} (r : Rep K G v d) (e : d.zseq = some ds) : ∃ k xs, v = Kd.v k ∧ k.src K G xs ∧ Reps K G xs ds := by
  cases r with
  | tup h rs => cases e; exact ⟨.T _, _, rfl, SqT.of h, rs⟩
  | lst h rs => cases e; exact ⟨.L _, _, rfl, SqL.of h, rs⟩
  | str x => cases e; exact ⟨.S x, _, rfl, rfl, reps_signs _⟩
  | _ => cases e
def zipD (xs ys : List D) : List D := (xs.zip ys).map fun p => .tup [p.1, p.2]
theorem wlk_zip {K : Fg} {G : Hp} {k1 k2 : Kd} {xs ys : List V} {ds es : List D} (h1 : k1.src K G xs) (h2 : k2.src K G ys) (r1 : Reps K G xs ds) (r2 : Reps K G ys es) : Wlk K (ItG K k1 k2) (zipD ds es) G := by
  have hl : (zipD ds es).length = min xs.length ys.length := by simp [zipD, r1.length, r2.length]
  refine ⟨fun i G1 H1 hi s1 s2 => ?_, fun G1 H1 s1 s2 => ⟨xs, ys, ItG_src s2 (ItG_src s1 h1), ItG_src s2 (ItG_src s1 h2), by omega, by omega, by omega⟩⟩
  have hx : i < xs.length := by omega
  have hy : i < ys.length := by omega
  have q1 := ItG_src s2 (ItG_src s1 h1)
  have q2 := ItG_src s2 (ItG_src s1 h2)
  refine ⟨⟨xs, ys, xs[i], ys[i], q1, q2, by simp [hx], by simp [hy]⟩, fun v H2 hv => ?_⟩
  obtain ⟨T, x, y, rfl, hT, rfl, f1, f2⟩ := hv
  obtain ⟨d, e1, rd⟩ := r1.get (f1 xs q1)
  obtain ⟨e, e2, re⟩ := r2.get (f2 ys q2)
  have gT : G1 T = none := none_of_same s2 hT
  have sn : Same G1 (upd G1 T (.tup [x, y])) := same_new gT
  refine ⟨upd G1 T (.tup [x, y]), .tup [d, e], ?_, .tup upd_same (.cons (rd.mono (s1.trans sn)) (.cons (re.mono (s1.trans sn)) .nil)), same_upd2 s2 hT, Step.newG s2 hT⟩
  unfold zipD
  rw [List.getElem?_map]
  have : (ds.zip es)[i]? = some (d, e) := by
    rw [List.getElem?_zip_eq_some]; exact ⟨e1, e2⟩
  rw [this]; rfl
def iZip (ms : List Arg) : IM := fun env => (evA ms env).bind fun (ds, e) => match ds with
  | [a, b] => a.zseq.bind fun xs => b.zseq.bind fun ys => some (zipD xs ys, e)
  | _ => none
section
variable {X : Cx} {e e2 : Expr} {p pos tpos : Pos} {elts : List Expr} {kk : Nat}
theorem i_zip {ms : List Arg} (hg : Gl X "zip") (hm : X.mg "zip" = none) (ha : PA X [e, e2] (tAr X.K ms))
    (hs : starEach [e, e2] X.env = (false, eval e X.env) :: starEach [e2] X.env := by rfl) (hpl : (backTo pos (starEach [e2] X.env)).any (·.1) = false := by rfl) :
    IOk X (.Tuple elts kk tpos) (.Call (.Name "zip" p) [e, e2] [] pos) (iZip ms) := pi_mono (pi_zipG hg hm (paa ha) hs hpl) fun σ H R ⟨env, G, fp, con, ds, env', e1, k⟩ => by
  unfold iZip at e1
  cases q : evA ms env with
  | none => simp [q] at e1
  | some y =>
    obtain ⟨as, e3⟩ := y
    simp only [q, Option.bind_some] at e1
    split at e1
    · rename_i a b
      cases q1 : a.zseq with
      | none => simp [q1] at e1
      | some xs =>
        cases q2 : b.zseq with
        | none => simp [q1, q2] at e1
        | some ys =>
          simp [q1, q2] at e1
          obtain ⟨rfl, rfl⟩ := e1
          refine ⟨env, G, fp, con, _, _, q, fun vs G' H' fp' c' rv s => ?_⟩
          cases rv with
          | cons r1 rv =>
            cases rv with
            | cons r2 rv =>
              cases rv
              obtain ⟨k1, us, rfl, s1, t1⟩ := r1.kd q1
              obtain ⟨k2, ws, rfl, s2, t2⟩ := r2.kd q2
              exact ⟨k1, k2, us, ws, rfl, ItG_src c'.sub s1, ItG_src c'.sub s2, k _ G' H' fp' c' s (wlk_zip s1 s2 t1 t2)⟩
    · cases e1

/-! enumerate -/
def ItE (K : Fg) (k : Kd) : It :=
  ⟨fun i H => ∃ (xs : List V) (x : V), k.src K H xs ∧ xs[i]? = some x,
    fun i H v H' => ∃ T x, v = .ref T ∧ H T = none ∧ H' = upd H T (.tup [.int (i : Nat), x]) ∧ ∀ xs, k.src K H xs → xs[i]? = some x,
    fun i H => ∃ xs : List V, k.src K H xs ∧ i = xs.length⟩
structure EAt (k : Kd) (n i : Nat) (h : Heap) : Prop where
  lt1 : k.lt n
  e : ∃ old, IsEnum h (n + 1) n ((i : Nat) : Int) old
  a1 : k.at_ h n i
theorem EAt.lt {k : Kd} {n i : Nat} {h : Heap} (Z : EAt k n i h) {c : Addr} (m : c ∈ [n + 1, n]) : c < h.objs.size := by
  obtain ⟨old, he⟩ := Z.e
  have q : c = n + 1 ∨ c = n := by simpa using m
  rcases q with q | q
  · rw [q]; exact Heap.lt_size he
  · rw [q]; obtain ⟨_, e, _⟩ := Kd.obj Z.a1; exact Heap.lt_size e
theorem fps_ne {k : Kd} {n : Nat} (h1 : k.lt n) : (n + 1 : Nat) ∉ k.fps n := fun m => by
  have m1 : ∀ c : Nat, @Membership.mem Addr _ _ (k.fps n) c → @LE.le Nat _ c n := fun c m => by
    cases k <;> simp only [Kd.fps, Kd.lt, List.mem_cons, List.not_mem_nil, or_false] at * <;> (try rcases m with m | m) <;> subst_vars <;> first | exact Nat.le_refl _ | exact Nat.le_of_lt h1
  exact absurd (m1 _ m) (by omega)
theorem turn_enumG {P : Program} {w : World} {K : Fg} {elts : List Expr} {kk : Nat} {tpos : Pos} (k : Kd) (n : Nat) : Turn P w K (.Tuple elts kk tpos) (ItE K k) [n + 1, n] (n + 1) (EAt k n) where
  mem := by simp
  obj := fun i h st c hc => by
    obtain ⟨old, he⟩ := st.e
    have q : c = n + 1 ∨ c = n := by simpa using hc
    rcases q with q | q
    · rw [q]; exact ⟨_, he, fun v q => nomatch q⟩
    · rw [q]; exact Kd.obj st.a1
  keep := fun i h h' st k => by
    obtain ⟨old, he⟩ := st.e
    exact ⟨st.lt1, ⟨old, k _ (by simp) _ he⟩, Kd.keep st.a1 (k _ (by simp))⟩
  item := by
    intro X hP hw hK hc i pins s σ H E I hf st hg
    subst hP hw hK
    obtain ⟨xs, x, hqx, hx⟩ := hg
    obtain ⟨old, he⟩ := st.e
    have hh : X.A.in1.handled = none := I.ok.hd hc
    obtain ⟨P1, St1, D1, s1, r1, v1⟩ := Kd.draws (w := X.w) (P := X.prog) (A := X.A.in1) I hqx (apart1 st.lt1 (Nat.le_refl _)) hh st.a1
    have hi1 : i < xs.length := (List.getElem?_eq_some_iff.mp hx).1
    have hel : n + 1 < s.heap.objs.size := Heap.lt_size he
    refine wpAny_pyNext_enum_itemC D1 he s1 hi1 (ne_nat (by omega)) (fps_ne st.lt1) fun u h' tk p1 ho t1 hT hsz hk => ?_
    refine ⟨_, rfl, wpAny_letOwnedTupleGo_enum (s := { s with heap := h', toks := tk + 1 }) ho fun h'' he' sb => ?_⟩
    have ru : RelV x u := by
      obtain ⟨y', e1, e2⟩ := v1 i u p1
      rw [hx] at e1; cases e1; exact e2
    have hT2 : h''.get? s.heap.objs.size = some { cls := .type "tuple", data := .seq #[.int i tk, u] } := (sb.2 _ (Nat.ne_of_gt hel)).trans hT
    have new : ObjOk X.prog X.w (upd H s.heap.objs.size (.tup [.int (i : Nat), x])) h'' s.heap.objs.size (.tup [.int (i : Nat), x]) :=
      ⟨by show 2 ≤ sizeLine; decide, [.int i tk, u], .cons ⟨_, rfl⟩ (.cons ru .nil), ⟨_, hT2, rfl, _, rfl⟩⟩
    have I1 : Inv X pins σ (upd H s.heap.objs.size (.tup [.int (i : Nat), x])) { s with heap := h'', toks := tk + 1 } :=
      I.turnedNew (ch := [n + 1, n]) (fun b ob hb q => (sb.2 b (fun z => hb (by simp [z]))).trans (hk b ob (fun z => hb (by simp [z])) (fun z => hb (by simp [z])) q)) hf (Nat.le_refl _) new
    refine ⟨.ref s.heap.objs.size, _, I1, rfl, ⟨_, x, rfl, I.hok.fresh (Nat.le_refl _), rfl, fun l hl => by rw [Kd.src_inj I hl hqx]; exact hx⟩, ⟨st.lt1, ⟨u, ?_⟩, Kd.keep (r1 _ _ t1) fun o q => (sb.2 _ (ne_nat (by omega))).trans q⟩, fun c hcm => ?_⟩
    · have e1 : ((i + 1 : Nat) : Int) = (i : Int) + 1 := by omega
      rw [e1]; exact he'
    · rw [upd_ne (Nat.ne_of_lt (st.lt hcm))]
      exact (hf c hcm).1
  done := by
    intro X hP hw hK hc i pins s σ H E I hf st hg
    subst hP hw hK
    obtain ⟨xs, hqx, hend⟩ := hg
    subst hend
    obtain ⟨old, he⟩ := st.e
    have hh : X.A.in1.handled = none := I.ok.hd hc
    obtain ⟨P1, St1, D1, s1, r1, v1⟩ := Kd.draws (w := X.w) (P := X.prog) (A := X.A.in1) I hqx (apart1 st.lt1 (Nat.le_refl _)) hh st.a1
    exact wpAny_pyNext_enum_endD D1 he s1 fun h' hk => ⟨rfl, I.turnedL (t' := s.toks) (ch := [n + 1, n]) (fun c o hb q => hk c o (fun q' => hb (by simp [q'])) q) hf⟩
  self := fun A i s Q E st h => by obtain ⟨_, he⟩ := st.e; exact wpAny_pyIter_enum he h
theorem meets_enumerate_newG {v : Value} {o : Obj} {H : Heap → Prop} (B : Begins v o H) :
    Meets (Builtin.«enumerate.__new__» ⟨[.type "enumerate", v], []⟩) (fun _ R s => H s.heap ∧
      R (.ok (.ret (.ref (s.heap.push o).objs.size))) { s with heap := (s.heap.push o).push { cls := .type "enumerate", data := .fields #[.none, .bool false, .ref s.heap.objs.size, rawInt 0, .none, .none] } }) :=
  .of_wp fun prog w A R s h => by
    obtain ⟨hp, g, d, tk, os⟩ := s; obtain ⟨h1, h⟩ := h
    have hsub := sub_enumerate
    have q1 : ∀ {A' : Around} {E : Value → Shared → Prop} {Q : Value → Shared → Prop}, Q (.ref hp.objs.size) ⟨hp.push o, g, d, tk, os⟩ → wpAny (model prog w) A' (pyIter v) Q E ⟨hp, g, d, tk, os⟩ :=
      fun q => B.iter prog w _ _ ⟨hp, g, d, tk, os⟩ _ h1 q
    wp_walk
    refine wpAny_stack_any fun st => wpAny_pure ?_
    split
    · rename_i c _ _ _ _ _
      cases (c == Value.type "enumerate")
      · wp_walk using q1
        exact ⟨_, rfl, h⟩
      · wp_walk using q1
        exact ⟨_, rfl, h⟩
    · wp_walk using q1
      exact ⟨_, rfl, h⟩
theorem enum_new {prog : Program} {w : World} {A : Around} {E : Value → Shared → Prop} {s : Shared} {v : Value} {o : Obj} {H : Heap → Prop} {Q : Value → Shared → Prop} (B : Begins v o H) (h1 : H s.heap)
    (h : ∀ h', IsEnum h' (s.heap.objs.size + 1) s.heap.objs.size 0 .none → h'.get? s.heap.objs.size = some o → h'.objs.size = s.heap.objs.size + 2 →
      (∀ b o, s.heap.get? b = some o → h'.get? b = some o) → Q (.ref (s.heap.objs.size + 1)) { s with heap := h' }) :
    wpAny (model prog w) A (call (.type "enumerate") [v]) Q E s := by
  refine callType_new F.called_enumerate (by decide) (F.typeCall_enumerate_1 _) (F.newCall_enumerate_1 _) (fun obj => F.args_object_init_2 obj _) F.entry_enumerate_new
    (meets_enumerate_newG B) ⟨h1, ?_⟩
  have hz : (s.heap.push o).objs.size = s.heap.objs.size + 1 := Heap.size_push ..
  show _ ∧ _
  rw [hz]
  have he : IsEnum ((s.heap.push o).push { cls := .type "enumerate", data := .fields #[.none, .bool false, .ref s.heap.objs.size, rawInt 0, .none, .none] }) (s.heap.objs.size + 1) s.heap.objs.size 0 .none := by
    have := Heap.get?_push_size (s.heap.push o) (o := { cls := .type "enumerate", data := .fields #[.none, .bool false, .ref s.heap.objs.size, rawInt 0, .none, .none] }) rfl
    rw [hz] at this; exact this
  refine ⟨⟨_, he, rfl⟩, h _ he (Heap.get?_push_of_some _ (Heap.get?_push_size _ B.free)) (by rw [Heap.size_push, hz]) fun b o x => Heap.get?_push_of_some _ (Heap.get?_push_of_some _ x)⟩
def iEnumG (K : Fg) (ta : TA) : TI := fun σ H R => ta σ H fun vs H1 => ∃ k xs, vs = [Kd.v k] ∧ k.src K H1 xs ∧ R (ItE K k) H1
theorem pi_enumG {ta : TA} (hg : Gl X "enumerate") (hm : X.mg "enumerate" = none) (ha : PA X [e] ta) (hs : starEach [e] X.env = [(false, eval e X.env)] := by rfl) :
    PI X (.Tuple elts kk tpos) (.Call (.Name "enumerate" p) [e] [] pos) (iEnumG X.K ta) := by
  refine ⟨fun pins s σ H R I h => ?_⟩
  refine Call_ (ld_blt I hg hm boot_enumerate (PyProof.Rows.callWith_type1 (thn (ha.run pos pins s σ H _ I h) fun us s1 ⟨vs, H1, I1, r1, q1⟩ => ?_) hs rfl))
  obtain ⟨k, xs, ex, hq, q⟩ := q1
  subst ex
  cases r1 with
  | cons r rr =>
    cases rr
    obtain ⟨o1, Hc, B1, c1, f1⟩ := Kd.begins I1 hq r
    refine enum_new B1 c1 fun h' he g1 hsz hk => wpAny_pyIter_enum he ?_
    have I2 : Inv X pins σ H1 { s1 with heap := h' } := I1.kept (t' := s1.toks) hk
    refine ⟨s1.heap.objs.size + 1, [s1.heap.objs.size + 1, s1.heap.objs.size], _, _, H1, rfl, I2, turn_enumG k s1.heap.objs.size, ⟨Kd.src_lt I1 hq, ⟨.none, he⟩, f1 _ _ g1⟩, fun b hb => ?_, q⟩
    have e' : b = s1.heap.objs.size + 1 ∨ b = s1.heap.objs.size := by simpa using hb
    have hle : s1.heap.objs.size ≤ b := by
      rcases e' with z | z
      · rw [z]; exact Nat.le_add_right _ _
      · rw [z]; exact Nat.le_refl _
    exact I1.fpOk hle (I1.hok.fresh hle)
def enumD (ds : List D) : List D := zipD ((List.range ds.length).map fun i => .int (i : Nat)) ds
theorem enumD_get {ds : List D} {i : Nat} {d : D} (h : ds[i]? = some d) : (enumD ds)[i]? = some (.tup [.int (i : Nat), d]) := by
  have hl := (List.getElem?_eq_some_iff.mp h).1
  unfold enumD zipD
  rw [List.getElem?_map]
  have : (List.zip ((List.range ds.length).map fun i => D.int (i : Nat)) ds)[i]? = some (.int (i : Nat), d) := by
    rw [List.getElem?_zip_eq_some]; exact ⟨by simp [hl], h⟩
  rw [this]; rfl
theorem wlk_enum {K : Fg} {G : Hp} {k : Kd} {xs : List V} {ds : List D} (h1 : k.src K G xs) (r1 : Reps K G xs ds) : Wlk K (ItE K k) (enumD ds) G := by
  have hl : (enumD ds).length = xs.length := by simp [enumD, zipD, r1.length]
  refine ⟨fun i G1 H1 hi s1 s2 => ?_, fun G1 H1 s1 s2 => ⟨xs, ItG_src s2 (ItG_src s1 h1), hl⟩⟩
  have hx : i < xs.length := by omega
  have q1 := ItG_src s2 (ItG_src s1 h1)
  refine ⟨⟨xs, xs[i], q1, by simp [hx]⟩, fun v H2 hv => ?_⟩
  obtain ⟨T, x, rfl, hT, rfl, f1⟩ := hv
  obtain ⟨d, e1, rd⟩ := r1.get (f1 xs q1)
  have gT : G1 T = none := none_of_same s2 hT
  have sn : Same G1 (upd G1 T (.tup [.int (i : Nat), x])) := same_new gT
  exact ⟨upd G1 T (.tup [.int (i : Nat), x]), .tup [.int (i : Nat), d], enumD_get e1, .tup upd_same (.cons (.int _) (.cons (rd.mono (s1.trans sn)) .nil)), same_upd2 s2 hT, Step.newG s2 hT⟩
def iEnumM (m : EM) : IM := fun env => (m env).bind fun (c, e) => c.fz.zseq.bind fun xs => some (enumD xs, e)
theorem i_enum {m : EM} (hg : Gl X "enumerate") (hm : X.mg "enumerate" = none) (ha : PA X [e] (tAr X.K [.one m])) (hs : starEach [e] X.env = [(false, eval e X.env)] := by rfl) :
    IOk X (.Tuple elts kk tpos) (.Call (.Name "enumerate" p) [e] [] pos) (iEnumM m) := pi_mono (pi_enumG hg hm (paa ha) hs) fun σ H R ⟨env, G, fp, con, ds, env', e1, k⟩ => by
  unfold iEnumM at e1
  cases q : m env with
  | none => simp [q] at e1
  | some y =>
    obtain ⟨c, e3⟩ := y
    simp only [q, Option.bind_some] at e1
    cases q1 : c.fz.zseq with
    | none => simp [q1] at e1
    | some xs =>
      simp [q1] at e1
      obtain ⟨rfl, rfl⟩ := e1
      refine ⟨env, G, fp, con, [c.fz], e3, by simp [evA, q], fun vs G' H' fp' c' rv s => ?_⟩
      cases rv with
      | cons r1 rv =>
        cases rv
        obtain ⟨k1, us, rfl, s1, t1⟩ := r1.kd q1
        exact ⟨k1, us, rfl, ItG_src c'.sub s1, k _ G' H' fp' c' s (wlk_enum s1 t1)⟩
end
end Fx
set_option Elab.async false
set_option linter.all false
set_option maxRecDepth 100000
set_option maxHeartbeats 4000000
noncomputable section
namespace Fx
open PySem PySem.Spec L2
open PyProof.Rows (boot_zip boot_enumerate boot_list args_cons args_nil Call_)

/-! ## list(zip(a, b)) -/
section
variable {prog : Program} {w : World} {A : Around} {E : Value → Shared → Prop} {s : Shared} {z TI TO i1 i2 T : Addr} {f : Bool} {oT : Obj} {fp1 fp2 : List Addr} {n1 n2 i : Nat} {P1 P2 : Nat → Value → Prop} {St1 St2 : Nat → Heap → Prop}
theorem zh_item {Q : Value → Shared → Prop} (S : ZipSep2 z TI TO i1 i2 fp1 fp2) (D1 : Draws prog w A i1 fp1 n1 P1 St1) (D2 : Draws prog w A i2 fp2 n2 P2 St2)
    (hz : IsZipHeld s.heap z TI TO T f) (hT : s.heap.get? T = some oT) (hTI : IsTupOf2 s.heap TI (.ref i1) (.ref i2)) (st1 : St1 i s.heap) (st2 : St2 i s.heap) (hlt1 : i < n1) (hlt2 : i < n2)
    (hQ : ∀ x1 x2 h' tk, P1 i x1 → P2 i x2 → IsZipHeld h' z TI TO T true → St1 (i + 1) h' → St2 (i + 1) h' → IsTupOf2 h' s.heap.objs.size x1 x2 → h'.objs.size = s.heap.objs.size + 1 →
      (∀ c o, c ≠ z → c ≠ i1 → c ≠ i2 → s.heap.get? c = some o → h'.get? c = some o) → Q (.ref s.heap.objs.size) { s with heap := h', toks := tk }) :
    wpAny (model prog w) A (Builtin.«zip.__next__» ⟨[.ref z], []⟩) (fun fin s' => ∃ v, fin = .done (.ret v) ∧ Q v s') E s := by
  obtain ⟨hp, g, d, tk0, os⟩ := s
  show wpAny _ _ (field (.ref z) 2 >>= _) _ _ _
  refine wpAny_bind (wpAny_field hz rfl (x := .bool false) rfl ?_)
  show wpAny _ _ (field (.ref z) 3 >>= _) _ _ _
  refine wpAny_bind (wpAny_field hz rfl (x := .ref TI) rfl ?_)
  refine wpAny_bind (wpAny_seqItems hTI rfl ?_)
  show wpAny _ _ (Builtin.SmallTypes.ownedTupleIsFree (.ref z) >>= _) _ _ _
  refine wpAny_bind (wpAny_tupleHeld_zip hz hT fun h₁ hz₁ hs₁ => ?_)
  replace hs₁ : Heap.SameBut z hp h₁ := hs₁
  simp only [Bool.false_eq_true, if_false]
  refine wpAny_bind ?_
  rw [← Array.forIn_toList]
  simp only [List.forIn_cons, List.forIn_nil]
  refine wpAny_bind (wpAny_bind (wpAny_holding ?_))
  show wpAny _ _ (Builtin.SmallTypes.nextOf (.ref i1) >>= _) _ _ ⟨h₁, g, d, tk0, os⟩
  refine wpAny_bind (D1.item i _ _ _ hlt1 (D1.over st1 hs₁ S.zf1) fun x1 h₂ tk1 hx1 sn1 hs₂ => wpAny_pure ?_)
  replace hs₂ : Heap.SameBut i1 h₁ h₂ := hs₂
  refine wpAny_pure ?_
  refine wpAny_bind (wpAny_bind (wpAny_holding ?_))
  show wpAny _ _ (Builtin.SmallTypes.nextOf (.ref i2) >>= _) _ _ ⟨h₂, g, d, tk1, os⟩
  refine wpAny_bind (D2.item i _ _ _ hlt2 (D2.over (D2.over st2 hs₁ S.zf2) hs₂ S.sep1_2) fun x2 h₃ tk2 hx2 sn2 hs₃ => wpAny_pure ?_)
  replace hs₃ : Heap.SameBut i2 h₂ h₃ := hs₃
  refine wpAny_pure (wpAny_pure ?_)
  show wpAny _ _ (newTuple [x1, x2] >>= _) _ _ ⟨h₃, g, d, tk2, os⟩
  refine wpAny_bind (wpAny_newTuple ?_)
  have hsz : h₃.objs.size = hp.objs.size := by rw [hs₃.1, hs₂.1, hs₁.1]
  have hz₃ : IsZipHeld h₃ z TI TO T true := hs₃.extBut _ _ S.zi2 (hs₂.extBut _ _ S.zi1 hz₁)
  have hk : ∀ c o, c ≠ z → c ≠ i1 → c ≠ i2 → hp.get? c = some o → h₃.get? c = some o := fun c o c1 c2 c3 e => hs₃.extBut _ _ c3 (hs₂.extBut _ _ c2 (hs₁.extBut _ _ c1 e))
  have h1₃ : St1 (i + 1) h₃ := D1.over sn1 hs₃ S.sep2_1
  refine wpAny_pure ⟨_, rfl, ?_⟩
  show Q (.ref h₃.objs.size) ⟨h₃.push { cls := .type "tuple", data := .seq #[x1, x2] }, g, d, tk2, os⟩
  have hp' : IsTupOf2 (h₃.push { cls := .type "tuple", data := .seq #[x1, x2] }) h₃.objs.size x1 x2 := Heap.get?_push_size _ rfl
  have hz4 : (h₃.push { cls := .type "tuple", data := .seq #[x1, x2] }).objs.size = h₃.objs.size + 1 := Heap.size_push ..
  rw [hsz] at hp' hz4 ⊢
  exact hQ x1 x2 _ tk2 hx1 hx2 (Heap.get?_push_of_some _ hz₃) (D1.frame _ _ _ h1₃ fun b hb o e => Heap.get?_push_of_some _ e) (D2.frame _ _ _ sn2 fun b hb o e => Heap.get?_push_of_some _ e) hp' hz4 fun c o c1 c2 c3 e => Heap.get?_push_of_some _ (hk c o c1 c2 c3 e)
theorem zh_end {Q : Fin → Shared → Prop} (S : ZipSep2 z TI TO i1 i2 fp1 fp2) (D1 : Draws prog w A i1 fp1 n1 P1 St1) (D2 : Draws prog w A i2 fp2 n2 P2 St2)
    (hz : IsZipHeld s.heap z TI TO T f) (hT : s.heap.get? T = some oT) (hTI : IsTupOf2 s.heap TI (.ref i1) (.ref i2)) (st1 : St1 i s.heap) (st2 : St2 i s.heap) (hle1 : i ≤ n1) (hle2 : i ≤ n2) (hend : i = n1 ∨ i = n2)
    (hE : ∀ h' tk e, (∀ c o, c ≠ z → c ≠ i1 → c ≠ i2 → s.heap.get? c = some o → h'.get? c = some o) → (∃ o, h'.get? e = some o ∧ o.cls = .type "StopIteration") → E (.ref e) { s with heap := h', toks := tk }) :
    wpAny (model prog w) A (Builtin.«zip.__next__» ⟨[.ref z], []⟩) Q E s := by
  obtain ⟨hp, g, d, tk0, os⟩ := s
  show wpAny _ _ (field (.ref z) 2 >>= _) _ _ _
  refine wpAny_bind (wpAny_field hz rfl (x := .bool false) rfl ?_)
  show wpAny _ _ (field (.ref z) 3 >>= _) _ _ _
  refine wpAny_bind (wpAny_field hz rfl (x := .ref TI) rfl ?_)
  refine wpAny_bind (wpAny_seqItems hTI rfl ?_)
  show wpAny _ _ (Builtin.SmallTypes.ownedTupleIsFree (.ref z) >>= _) _ _ _
  refine wpAny_bind (wpAny_tupleHeld_zip hz hT fun h₁ hz₁ hs₁ => ?_)
  replace hs₁ : Heap.SameBut z hp h₁ := hs₁
  simp only [Bool.false_eq_true, if_false]
  refine wpAny_bind ?_
  rw [← Array.forIn_toList]
  simp only [List.forIn_cons, List.forIn_nil]
  refine wpAny_bind (wpAny_bind (wpAny_holding ?_))
  show wpAny _ _ (Builtin.SmallTypes.nextOf (.ref i1) >>= _) _ _ ⟨h₁, g, d, tk0, os⟩
  by_cases h1 : i = n1
  · subst h1
    refine wpAny_bind (D1.done _ _ _ (D1.over st1 hs₁ S.zf1) fun h₂ e hs₂ he => ?_)
    exact hE h₂ tk0 e (fun c o c1 c2 _ x => hs₂ _ _ c2 (hs₁.extBut _ _ c1 x)) he
  · have h2 : i = n2 := hend.elim (fun z => absurd z h1) id
    refine wpAny_bind (D1.item i _ _ _ (by omega) (D1.over st1 hs₁ S.zf1) fun x1 h₂ tk1 hx1 sn1 hs₂ => wpAny_pure ?_)
    replace hs₂ : Heap.SameBut i1 h₁ h₂ := hs₂
    refine wpAny_pure ?_
    refine wpAny_bind (wpAny_bind (wpAny_holding ?_))
    show wpAny _ _ (Builtin.SmallTypes.nextOf (.ref i2) >>= _) _ _ ⟨h₂, g, d, tk1, os⟩
    subst h2
    refine wpAny_bind (D2.done _ _ _ (D2.over (D2.over st2 hs₁ S.zf2) hs₂ S.sep1_2) fun h₃ e hs₃ he => ?_)
    exact hE h₃ tk1 e (fun c o c1 c2 c3 x => hs₃ _ _ c3 (hs₂.extBut _ _ c2 (hs₁.extBut _ _ c1 x))) he
theorem zhn_item {Q : Option Value → Shared → Prop} (S : ZipSep2 z TI TO i1 i2 fp1 fp2) (D1 : Draws prog w A.in1 i1 fp1 n1 P1 St1) (D2 : Draws prog w A.in1 i2 fp2 n2 P2 St2)
    (hz : IsZipHeld s.heap z TI TO T f) (hT : s.heap.get? T = some oT) (hTI : IsTupOf2 s.heap TI (.ref i1) (.ref i2)) (st1 : St1 i s.heap) (st2 : St2 i s.heap) (hlt1 : i < n1) (hlt2 : i < n2)
    (hQ : ∀ x1 x2 h' tk, P1 i x1 → P2 i x2 → IsZipHeld h' z TI TO T true → St1 (i + 1) h' → St2 (i + 1) h' → IsTupOf2 h' s.heap.objs.size x1 x2 → h'.objs.size = s.heap.objs.size + 1 →
      (∀ c o, c ≠ z → c ≠ i1 → c ≠ i2 → s.heap.get? c = some o → h'.get? c = some o) → Q (some (.ref s.heap.objs.size)) { s with heap := h', toks := tk }) :
    wpAny (model prog w) A (pyNext (.ref z)) Q E s := by
  have hTy : s.TypeIs (.ref z) "zip" := ⟨_, hz, rfl⟩
  unfold pyNext
  exact wpAny_bind (wpAny_attempt (wpAny_callSpecial?_slot (name := Str.ofString "__next__") hTy F.slot_zip_next
    (wpAny_call_entry F.slot_zip_next hTy F.entry_zip_next
      (zh_item S D1 D2 hz hT hTI st1 st2 hlt1 hlt2 fun x1 x2 h' tk a1 a2 a3 a4 a5 a6 a7 a8 => wpAny_pure (hQ x1 x2 h' tk a1 a2 a3 a4 a5 a6 a7 a8)) (F.args_zip_next_1 _))))
theorem zhn_end {Q : Option Value → Shared → Prop} (S : ZipSep2 z TI TO i1 i2 fp1 fp2) (D1 : Draws prog w A.in1 i1 fp1 n1 P1 St1) (D2 : Draws prog w A.in1 i2 fp2 n2 P2 St2)
    (hz : IsZipHeld s.heap z TI TO T f) (hT : s.heap.get? T = some oT) (hTI : IsTupOf2 s.heap TI (.ref i1) (.ref i2)) (st1 : St1 i s.heap) (st2 : St2 i s.heap) (hle1 : i ≤ n1) (hle2 : i ≤ n2) (hend : i = n1 ∨ i = n2)
    (hQ : ∀ h' tk, (∀ c o, c ≠ z → c ≠ i1 → c ≠ i2 → s.heap.get? c = some o → h'.get? c = some o) → Q none { s with heap := h', toks := tk }) : wpAny (model prog w) A (pyNext (.ref z)) Q E s := by
  have hTy : s.TypeIs (.ref z) "zip" := ⟨_, hz, rfl⟩
  unfold pyNext
  refine wpAny_bind (wpAny_attempt (wpAny_callSpecial?_slot (name := Str.ofString "__next__") hTy F.slot_zip_next
    (wpAny_call_entry F.slot_zip_next hTy F.entry_zip_next (zh_end S D1 D2 hz hT hTI st1 st2 hle1 hle2 hend fun h' tk e hk he => ?_) (F.args_zip_next_1 _))))
  obtain ⟨o, ho, hc⟩ := he
  refine wpAny_bind (wpAny_isInstance (T := "StopIteration") (b := true) ⟨o, ho, hc⟩ isSubtype_stop ?_)
  exact wpAny_pure (hQ _ _ hk)
end
/-- the zip whose cells begin at n, at i -/
structure ZH (k1 k2 : Kd) (n i : Nat) (h : Heap) : Prop where
  lt1 : k1.lt n
  lt2 : k2.lt n
  z : (IsZip h (n + 4) (n + 2) (n + 3) .none ∧ ∃ x y, IsTupOf2 h (n + 3) x y) ∨ ∃ T f oT, IsZipHeld h (n + 4) (n + 2) (n + 3) T f ∧ h.get? T = some oT ∧ T ∉ zfp n
  TI : IsTupOf2 h (n + 2) (.ref n) (.ref (n + 1))
  a1 : k1.at_ h n i
  a2 : k2.at_ h (n + 1) i
theorem ZAt.zh {k1 k2 : Kd} {n i : Nat} {h : Heap} (Z : ZAt k1 k2 n i h) : ZH k1 k2 n i h := ⟨Z.lt1, Z.lt2, .inl ⟨Z.z, Z.TO⟩, Z.TI, Z.a1, Z.a2⟩
theorem ZH.keep {k1 k2 : Kd} {n i : Nat} {h h' : Heap} (Z : ZH k1 k2 n i h) (S : Addr) (hS : S ∉ zfp n) (hT : ∀ o, h.get? S = some o → ∃ o', h'.get? S = some o') (k : ∀ b o, b ≠ S → h.get? b = some o → h'.get? b = some o) : ZH k1 k2 n i h' := by
  have kz : ∀ c ∈ zfp n, ∀ o, h.get? c = some o → h'.get? c = some o := fun c m o e => k c o (fun q => hS (q ▸ m)) e
  refine ⟨Z.lt1, Z.lt2, ?_, kz _ (by simp [zfp]) _ Z.TI, Kd.keep Z.a1 (kz _ (by simp [zfp])), Kd.keep Z.a2 (kz _ (by simp [zfp]))⟩
  rcases Z.z with ⟨z, x, y, t⟩ | ⟨T, f, oT, z, t, m⟩
  · exact .inl ⟨kz _ (by simp [zfp]) _ z, x, y, kz _ (by simp [zfp]) _ t⟩
  · right
    by_cases q : T = S
    · subst q
      obtain ⟨o', e⟩ := hT _ t
      exact ⟨T, f, o', kz _ (by simp [zfp]) _ z, e, m⟩
    · exact ⟨T, f, oT, kz _ (by simp [zfp]) _ z, k _ _ q t, m⟩
section
variable {X : Cx} {pins : List (Addr × Obj)} {σ : St}
theorem ZH.item {k1 k2 : Kd} {n i : Nat} {H : Hp} {s : Shared} {xs ys : List V} {x y : V} {A : Around} {E} {Q : Option Value → Shared → Prop} (hh : A.handled = none) (I : Inv X pins σ H s) (hqx : k1.src X.K H xs) (hqy : k2.src X.K H ys) (hx : xs[i]? = some x) (hy : ys[i]? = some y) (Z : ZH k1 k2 n i s.heap)
    (hQ : ∀ u1 u2 h' tk, RelV x u1 → RelV y u2 → ZH k1 k2 n (i + 1) h' → IsTupOf2 h' s.heap.objs.size u1 u2 → (∀ c o, c ∉ zfp n → s.heap.get? c = some o → h'.get? c = some o) → Q (some (.ref s.heap.objs.size)) { s with heap := h', toks := tk }) :
    wpAny (model X.prog X.w) A (pyNext (.ref (n + 4 : Nat))) Q E s := by
  have S := zip_sep Z.lt1 Z.lt2
  obtain ⟨P1, St1, D1, s1, r1, v1⟩ := Kd.draws (w := X.w) (P := X.prog) (A := A.in1) I hqx (apart1 Z.lt1 (Nat.le_refl _)) hh Z.a1
  obtain ⟨P2, St2, D2, s2, r2, v2⟩ := Kd.draws (w := X.w) (P := X.prog) (A := A.in1) I hqy (apart1 Z.lt2 (Nat.le_succ _)) hh Z.a2
  have hi1 : i < xs.length := (List.getElem?_eq_some_iff.mp hx).1
  have hi2 : i < ys.length := (List.getElem?_eq_some_iff.mp hy).1
  have ru1 : ∀ {u1}, P1 i u1 → RelV x u1 := fun p1 => by
    obtain ⟨y', e1, e2⟩ := v1 i _ p1
    rw [hx] at e1; cases e1; exact e2
  have ru2 : ∀ {u2}, P2 i u2 → RelV y u2 := fun p2 => by
    obtain ⟨y', e1, e2⟩ := v2 i _ p2
    rw [hy] at e1; cases e1; exact e2
  have hn : ∀ c ∈ zfp n, c ≠ s.heap.objs.size := fun c m q => by
    have lt : c < s.heap.objs.size := by
      rcases mem_zfp m with q | q | q | q | q
      · rw [q]; rcases Z.z with ⟨z, _⟩ | ⟨_, _, _, z, _⟩ <;> exact Heap.lt_size z
      · rw [q]; exact Heap.lt_size Z.TI
      · rw [q]
        have : (n + 4 : Nat) < s.heap.objs.size := by rcases Z.z with ⟨z, _⟩ | ⟨_, _, _, z, _⟩ <;> exact Heap.lt_size z
        exact Nat.lt_of_succ_lt this
      · rw [q]; obtain ⟨_, e, _⟩ := Kd.obj Z.a1; exact Heap.lt_size e
      · rw [q]; obtain ⟨_, e, _⟩ := Kd.obj Z.a2; exact Heap.lt_size e
    exact absurd lt (by rw [q]; exact Nat.lt_irrefl _)
  rcases Z.z with ⟨z, x0, y0, t⟩ | ⟨T, f, oT, z, t, m⟩
  · refine wpAny_pyNext_zipD2_item S D1 D2 z Z.TI t s1 s2 hi1 hi2 fun u1 u2 h' tk p1 p2 z' TO' t1 t2 hT hsz hk => ?_
    have kk : ∀ c o, c ∉ zfp n → s.heap.get? c = some o → h'.get? c = some o := fun c o hc e => hk c o (fun q => hc (by simp [zfp, q])) (fun q => hc (by simp [zfp, q])) (fun q => hc (by simp [zfp, q])) (fun q => hc (by simp [zfp, q])) e
    exact hQ u1 u2 h' tk (ru1 p1) (ru2 p2) ⟨Z.lt1, Z.lt2, .inr ⟨s.heap.objs.size, false, _, z', hT, fun m => hn _ m rfl⟩, hk _ _ S.TIz S.TITO S.TIi1 S.TIi2 Z.TI, r1 _ _ t1, r2 _ _ t2⟩ hT kk
  · refine zhn_item S D1 D2 z t Z.TI s1 s2 hi1 hi2 fun u1 u2 h' tk p1 p2 z' t1 t2 hT hsz hk => ?_
    have kk : ∀ c o, c ∉ zfp n → s.heap.get? c = some o → h'.get? c = some o := fun c o hc e => hk c o (fun q => hc (by simp [zfp, q])) (fun q => hc (by simp [zfp, q])) (fun q => hc (by simp [zfp, q])) e
    exact hQ u1 u2 h' tk (ru1 p1) (ru2 p2) ⟨Z.lt1, Z.lt2, .inr ⟨T, true, _, z', kk _ _ m t, m⟩, hk _ _ S.TIz S.TIi1 S.TIi2 Z.TI, r1 _ _ t1, r2 _ _ t2⟩ hT kk
theorem ZH.done {k1 k2 : Kd} {n i : Nat} {H : Hp} {s : Shared} {xs ys : List V} {A : Around} {E} {Q : Option Value → Shared → Prop} (hh : A.handled = none) (I : Inv X pins σ H s) (hqx : k1.src X.K H xs) (hqy : k2.src X.K H ys) (hx : i ≤ xs.length) (hy : i ≤ ys.length) (he : i = xs.length ∨ i = ys.length) (Z : ZH k1 k2 n i s.heap)
    (hQ : ∀ h' tk, (∀ c o, c ∉ zfp n → s.heap.get? c = some o → h'.get? c = some o) → Q none { s with heap := h', toks := tk }) :
    wpAny (model X.prog X.w) A (pyNext (.ref (n + 4 : Nat))) Q E s := by
  have S := zip_sep Z.lt1 Z.lt2
  obtain ⟨P1, St1, D1, s1, r1, v1⟩ := Kd.draws (w := X.w) (P := X.prog) (A := A.in1) I hqx (apart1 Z.lt1 (Nat.le_refl _)) hh Z.a1
  obtain ⟨P2, St2, D2, s2, r2, v2⟩ := Kd.draws (w := X.w) (P := X.prog) (A := A.in1) I hqy (apart1 Z.lt2 (Nat.le_succ _)) hh Z.a2
  rcases Z.z with ⟨z, x0, y0, t⟩ | ⟨T, f, oT, z, t, m⟩
  · exact wpAny_pyNext_zipD2_end S D1 D2 z Z.TI t s1 s2 hx hy he fun h' tk hk => hQ h' tk fun c o hc e => hk c o (fun q => hc (by simp [zfp, q])) (fun q => hc (by simp [zfp, q])) (fun q => hc (by simp [zfp, q])) (fun q => hc (by simp [zfp, q])) e
  · exact zhn_end S D1 D2 z t Z.TI s1 s2 hx hy he fun h' tk hk => hQ h' tk fun c o hc e => hk c o (fun q => hc (by simp [zfp, q])) (fun q => hc (by simp [zfp, q])) (fun q => hc (by simp [zfp, q])) e
/-- the pairs that were made: new tuples -/
inductive Prs (H0 H : Hp) (l : Addr) : List V → List (V × V) → Prop
  | nil : Prs H0 H l [] []
  | cons {T : Addr} {x y : V} {ts : List V} {ps : List (V × V)} : H0 T = none → T ≠ l → H T = some (.tup [x, y]) → Prs H0 H l ts ps → Prs H0 H l (.ref T :: ts) ((x, y) :: ps)
theorem Prs.mono {H0 H H' : Hp} {l : Addr} (k : ∀ a o, a ≠ l → H a = some o → H' a = some o) : ∀ {ts : List V} {ps : List (V × V)}, Prs H0 H l ts ps → Prs H0 H' l ts ps
  | _, _, .nil => .nil
  | _, _, .cons a b c r => .cons a b (k _ _ b c) (Prs.mono k r)
theorem Prs.snoc {H0 H : Hp} {l T : Addr} {x y : V} (a : H0 T = none) (b : T ≠ l) (c : H T = some (.tup [x, y])) : ∀ {ts : List V} {ps : List (V × V)}, Prs H0 H l ts ps → Prs H0 H l (ts ++ [.ref T]) (ps ++ [(x, y)])
  | _, _, .nil => .cons a b c .nil
  | _, _, .cons a' b' c' r => .cons a' b' c' (Prs.snoc a b c r)
theorem Prs.length {H0 H : Hp} {l : Addr} : ∀ {ts : List V} {ps : List (V × V)}, Prs H0 H l ts ps → ts.length = ps.length
  | _, _, .nil => rfl
  | _, _, .cons _ _ _ r => by simp [Prs.length r]
theorem zloop {k1 k2 : Kd} {n : Nat} {S : Addr} {xs ys : List V} {H0 : Hp} {A : Around} {res : Value} {R : Result → Shared → Prop} (hh : A.handled = none) (hS : S ∉ zfp n) (hl : min xs.length ys.length ≤ lim) (h0S : H0 S = none) (q1 : k1.src X.K H0 xs) (q2 : k2.src X.K H0 ys)
    (hR : ∀ H' s' ts, Inv X pins σ H' s' → H' S = some (.lst ts) → Same H0 H' → Prs H0 H' S ts (xs.zip ys) → R (.ok (.ret res)) s') :
    ∀ (m i : Nat) (H : Hp) (s : Shared) (ts : List V), min xs.length ys.length - i = m → i ≤ min xs.length ys.length → Inv X pins σ H s → ZH k1 k2 n i s.heap → (∀ c ∈ zfp n, FpOk X pins H c) → H S = some (.lst ts) → Same H0 H → Prs H0 H S ts ((xs.zip ys).take i) →
    codeAny (model X.prog X.w) A (.builtin "list.extend.loop" ⟨[.ref S, .ref (n + 4 : Nat), res], []⟩) R s := by
  intro m
  induction m with
  | zero =>
    intro i H s ts hm hi I Z hf hT sm pr
    refine codeAny_builtin F.entry_extend_loop ?_
    rw [Around.under_plainId F.plain_extend_loop _]
    show wpAny _ A.in1 (pyNext (.ref (n + 4 : Nat)) >>= _) _ _ s
    refine wpAny_bind (ZH.done (A := A.in1) hh I (ItG_src sm q1) (ItG_src sm q2) (by omega) (by omega) (by omega) Z fun h' tk hk => ?_)
    refine wpAny_pure (hR H _ ts (I.turnedL (t' := tk) (ch := zfp n) (fun c o hb q => hk c o hb q) hf) hT sm ?_)
    rwa [List.take_of_length_le (by rw [List.length_zip]; omega)] at pr
  | succ m ih =>
    intro i H s ts hm hi I Z hf hT sm pr
    have hi1 : i < xs.length := by omega
    have hi2 : i < ys.length := by omega
    refine codeAny_builtin F.entry_extend_loop ?_
    rw [Around.under_plainId F.plain_extend_loop _]
    show wpAny _ A.in1 (pyNext (.ref (n + 4 : Nat)) >>= _) _ _ s
    refine wpAny_bind (ZH.item (A := A.in1) hh I (ItG_src sm q1) (ItG_src sm q2) (List.getElem?_eq_getElem hi1) (List.getElem?_eq_getElem hi2) Z fun u1 u2 h' tk r1 r2 Z' hT2 hk => ?_)
    have hTn : H s.heap.objs.size = none := I.hok.fresh (Nat.le_refl _)
    have new : ObjOk X.prog X.w (upd H s.heap.objs.size (.tup [xs[i], ys[i]])) h' s.heap.objs.size (.tup [xs[i], ys[i]]) :=
      ⟨by show 2 ≤ sizeLine; decide, [u1, u2], .cons r1 (.cons r2 .nil), ⟨_, hT2, rfl, _, rfl⟩⟩
    have I1 : Inv X pins σ (upd H s.heap.objs.size (.tup [xs[i], ys[i]])) { s with heap := h', toks := tk } := I.turnedNew (t' := tk) (ch := zfp n) (fun c o hb q => hk c o hb q) hf (Nat.le_refl _) new
    have nST : S ≠ s.heap.objs.size := fun q => by rw [q, hTn] at hT; cases hT
    have hT1 : upd H s.heap.objs.size (.tup [xs[i], ys[i]]) S = some (.lst ts) := by rw [upd_ne nST]; exact hT
    obtain ⟨zl, us, c, rs, hlen, e⟩ := I1.lstM hT1
    have hts : ts.length = i := by rw [pr.length, List.length_take, List.length_zip]; omega
    show wpAny _ A.in1 (updateSeq S (·.push (Value.ref s.heap.objs.size)) >>= _) _ _ _
    refine wpAny_bind ?_
    have I2 : Inv X pins σ (upd (upd H s.heap.objs.size (.tup [xs[i], ys[i]])) S (.lst (ts ++ [.ref s.heap.objs.size]))) { s with heap := h'.update S (Obj.mapSeq (·.push (Value.ref s.heap.objs.size))), toks := tk } :=
      I1.lset (its' := us ++ [Value.ref s.heap.objs.size]) hT1 e (by simp) (rs.append (.cons rfl .nil)) (by rw [List.length_append, List.length_singleton, ← lim_eq]; omega)
    have hnz : ∀ c ∈ zfp n, c ≠ s.heap.objs.size := fun c m q => by
      have := (hf c m)
      have lt : c < s.heap.objs.size := by
        rcases mem_zfp m with q | q | q | q | q
        · rw [q]; rcases Z.z with ⟨z, _⟩ | ⟨_, _, _, z, _⟩ <;> exact Heap.lt_size z
        · rw [q]; exact Heap.lt_size Z.TI
        · rw [q]
          have : (n + 4 : Nat) < s.heap.objs.size := by rcases Z.z with ⟨z, _⟩ | ⟨_, _, _, z, _⟩ <;> exact Heap.lt_size z
          exact Nat.lt_of_succ_lt this
        · rw [q]; obtain ⟨_, e, _⟩ := Kd.obj Z.a1; exact Heap.lt_size e
        · rw [q]; obtain ⟨_, e, _⟩ := Kd.obj Z.a2; exact Heap.lt_size e
      exact absurd lt (by rw [q]; exact Nat.lt_irrefl _)
    have hT0 : H0 s.heap.objs.size = none := sm.free hTn
    refine wpAny_updateSeq (s := { s with heap := h', toks := tk }) e rfl (wpAny_pure ⟨plainId_quiet F.plain_extend_loop _, ih (i + 1) _ _ (ts ++ [.ref s.heap.objs.size]) (by omega) (by omega) I2 ?_ (fun c m => ?_) upd_same ?_ ?_⟩)
      (by rw [List.size_toArray, ← hlen, ← lim_eq]; omega) (by show (us.toArray.push _).size ≤ sizeLine + 1; rw [Array.size_push, List.size_toArray, ← hlen, ← lim_eq]; omega)
    · exact Z'.keep S hS (fun o _ => ⟨_, Heap.get?_update_self _ e rfl⟩) fun b o hb q => (Heap.get?_update_other _ _ (fun h : S = b => hb h.symm)).trans q
    · obtain ⟨f0, f1⟩ := hf c m
      have ncS : c ≠ S := fun q => hS (by rw [← q]; exact m)
      exact ⟨by rw [upd_ne ncS, upd_ne (hnz c m)]; exact f0, f1⟩
    · intro a o ea
      rw [upd_ne (fun q => by rw [q, h0S] at ea; cases ea), upd_ne (fun q => by rw [q, hT0] at ea; cases ea)]
      exact sm a o ea
    · have et : (xs.zip ys).take (i + 1) = (xs.zip ys).take i ++ [(xs[i], ys[i])] := by
        rw [List.take_add_one, List.getElem?_zip_eq_some (z := (xs[i], ys[i])).mpr ⟨List.getElem?_eq_getElem hi1, List.getElem?_eq_getElem hi2⟩]; rfl
      rw [et]
      have hp1 : Prs H0 (upd (upd H s.heap.objs.size (.tup [xs[i], ys[i]])) S (.lst (ts ++ [.ref s.heap.objs.size]))) S ts ((xs.zip ys).take i) := pr.mono fun a o na ea => by
        rw [upd_ne na, upd_ne (fun q => by rw [q, hTn] at ea; cases ea)]; exact ea
      exact hp1.snoc hT0 (fun q => nST q.symm) (by rw [upd_ne (fun q => nST q.symm)]; exact upd_same)
end
theorem zip_no_len0 : typeLookup (.type "zip") "__len__" = pure none := am_miss_of_fast (by decide +kernel)
theorem zip_no_hint0 : typeLookup (.type "zip") "__length_hint__" = pure none := am_miss_of_fast (by decide +kernel)
section
variable {X : Cx} {pins : List (Addr × Obj)} {σ : St}
theorem ext_zip {k1 k2 : Kd} {n : Nat} {S : Addr} {xs ys : List V} {H0 H : Hp} {s : Shared} {A : Around} {res : Value} {R : Result → Shared → Prop} (hh : A.handled = none) (hS : S ∉ zfp n) (hl : min xs.length ys.length ≤ lim) (h0S : H0 S = none) (q1 : k1.src X.K H0 xs) (q2 : k2.src X.K H0 ys)
    (I : Inv X pins σ H s) (Z : ZH k1 k2 n 0 s.heap) (hf : ∀ c ∈ zfp n, FpOk X pins H c) (hT : H S = some (.lst [])) (sm : Same H0 H)
    (hR : ∀ H' s' ts, Inv X pins σ H' s' → H' S = some (.lst ts) → Same H0 H' → Prs H0 H' S ts (xs.zip ys) → R (.ok (.ret res)) s') :
    wpAny (model X.prog X.w) A.in1 (Builtin.List.listExtendWith (.ref S) (.ref (n + 4 : Nat)) res)
      (fun fin s' => match fin with | .done f => R (.ok f) s' | .again c' => c'.quiet = true ∧ codeAny (model X.prog X.w) A c' R s') (fun e s' => R (.error e) s') s := by
  have hzT : ∃ o, s.heap.get? (n + 4 : Nat) = some o ∧ o.cls = .type "zip" := by rcases Z.z with ⟨z, _⟩ | ⟨_, _, _, z, _⟩ <;> exact ⟨_, z, rfl⟩
  obtain ⟨oz, hz, hzc⟩ := hzT
  have hSI : S ≠ (n + 4 : Nat) := fun q => hS (by rw [q]; simp [zfp])
  unfold Builtin.List.listExtendWith
  refine wpAny_bind (wpAny_typeOf (T := "zip") ⟨oz, hz, hzc⟩ ?_)
  have h1 : Builtin.List.listSameRef (.ref S) (.ref (n + 4 : Nat)) = false := by simp [Builtin.List.listSameRef, hSI]
  have h2 : (Value.type "zip" == Value.type "list") = false := by decide
  have h3 : (Value.type "zip" == Value.type "tuple") = false := by decide
  simp only [h1, h2, h3, Bool.or_false, Bool.false_eq_true, if_false]
  have it : ∀ {Q : Value → Shared → Prop} {E}, Q (.ref (n + 4 : Nat)) s → wpAny (model X.prog X.w) A.in1 (pyIter (.ref (n + 4 : Nat))) Q E s := fun q => by
    rcases Z.z with ⟨z, _⟩ | ⟨_, _, _, z, _⟩
    · exact wpAny_pyIter_zip z q
    · have hT' : s.TypeIs (.ref (n + 4 : Nat)) "zip" := ⟨_, z, rfl⟩
      refine wpAny_pyIter_slot hT' F.slot_zip_iter (wpAny_call_entry F.slot_zip_iter hT' F.entry_zip_iter ?_ (F.args_zip_iter_1 _))
      show wpAny _ _ (ret (.ref (n + 4 : Nat))) _ _ s
      exact wpAny_pure ⟨_, rfl, "zip", _, hT', F.slot_zip_next.lookup, q⟩
  refine wpAny_bind (it ?_)
  refine wpAny_bind (wpAny_holding ?_)
  unfold Builtin.List.listLengthHint
  refine wpAny_bind (wpAny_specialOf ⟨oz, hz, hzc⟩ zip_no_len0 ?_)
  show wpAny _ A.in1 (specialOf (Value.ref (n + 4 : Nat)) (Str.ofString "__length_hint__") >>= _) _ _ _
  refine wpAny_bind (wpAny_specialOf ⟨oz, hz, hzc⟩ zip_no_hint0 ?_)
  refine wpAny_pure ?_
  show wpAny _ A.in1 (rule "list.extend.makes-room" >>= fun _ => Builtin.List.listTouch (.ref S) >>= fun _ =>
    again (.builtin "list.extend.loop" ⟨[.ref S, .ref (n + 4 : Nat), res], []⟩)) _ _ _
  refine wpAny_bind (wpAny_rule ?_)
  obtain ⟨zl, us, c, rs, hlen, e⟩ := I.lstM hT
  have hus : us = [] := by cases us with | nil => rfl | cons => simp at hlen
  subst hus
  refine wpAny_bind ?_
  show wpAny _ A.in1 (updateSeq S (·.push .none) >>= fun _ => updateSeq S (·.pop)) _ _ _
  refine wpAny_bind (wpAny_updateSeq e rfl ?_)
  have hS₂ := Heap.get?_update_self (Obj.mapSeq (·.push Value.none)) e rfl
  refine wpAny_updateSeq hS₂ rfl ?_
  have hS₃ := Heap.get?_update_self (Obj.mapSeq (·.pop)) hS₂ rfl
  have oth : ∀ b o, b ≠ S → s.heap.get? b = some o → ((s.heap.update S (Obj.mapSeq (·.push Value.none))).update S (Obj.mapSeq (·.pop))).get? b = some o :=
    fun b o hb e => (Heap.get?_update_other _ _ (Ne.symm hb)).trans ((Heap.get?_update_other _ _ (Ne.symm hb)).trans e)
  have I2 : Inv X pins σ (upd H S (.lst [])) { s with heap := (s.heap.update S (Obj.mapSeq (·.push Value.none))).update S (Obj.mapSeq (·.pop)) } :=
    I.write (x := S) (e := S) (t' := s.toks) (by rw [hT]; exact trivial) (.inl rfl) oth ⟨_, hS₃⟩ ⟨by show 0 ≤ sizeLine; exact Nat.zero_le _, [], _, .nil, hS₃⟩
  refine wpAny_pure ⟨plainId_quiet F.plain_extend_loop _, zloop (H0 := H0) hh hS hl h0S q1 q2 hR _ 0 _ _ [] rfl (Nat.zero_le _) I2 ?_ (fun c m => ?_) upd_same (fun a o ea => ?_) (by rw [List.take_zero]; exact .nil)⟩
  · exact Z.keep S hS (fun o _ => ⟨_, hS₃⟩) oth
  · obtain ⟨f0, f1⟩ := hf c m
    have ncS : c ≠ S := fun q => hS (by rw [← q]; exact m)
    exact ⟨by rw [upd_ne ncS]; exact f0, f1⟩
  · rw [upd_ne (fun q => by rw [q, h0S] at ea; cases ea)]
    exact sm a o ea
end
end Fx
set_option Elab.async false
set_option linter.all false
set_option maxRecDepth 100000
set_option maxHeartbeats 4000000
noncomputable section
namespace Fx
open PySem PySem.Spec L2
open PyProof.Rows (boot_zip boot_enumerate boot_list args_cons args_nil Call_)
section
variable {X : Cx} {pins : List (Addr × Obj)} {σ : St}
theorem call_listZip {k1 k2 : Kd} {n : Nat} {xs ys : List V} {H : Hp} {s : Shared} {A : Around} {Q : Value → Shared → Prop} {E} (hh : A.handled = none) (hn : n + 5 ≤ s.heap.objs.size) (hl : min xs.length ys.length ≤ lim) (q1 : k1.src X.K H xs) (q2 : k2.src X.K H ys)
    (I : Inv X pins σ H s) (Z : ZH k1 k2 n 0 s.heap) (hf : ∀ c ∈ zfp n, FpOk X pins H c)
    (hQ : ∀ H' s' ts, Inv X pins σ H' s' → H s.heap.objs.size = none → H' s.heap.objs.size = some (.lst ts) → Same H H' → Prs H H' s.heap.objs.size ts (xs.zip ys) → Q (.ref s.heap.objs.size) s') :
    wpAny (model X.prog X.w) A (call (.type "list") [.ref (n + 4 : Nat)]) Q E s := by
  have hTn : H s.heap.objs.size = none := I.fresh
  refine callType_codes (Q₁ := fun obj s₁ => obj = .ref s.heap.objs.size ∧ s₁ = { s with heap := s.heap.push { cls := .type "list", data := .seq #[] } }) F.called_list (F.typeCall_list_1 _) F.entry_list_init
    (code_list_new _ ⟨rfl, rfl⟩) fun obj s₁ h₁ => ?_
  obtain ⟨rfl, rfl⟩ := h₁
  have hS : (s.heap.push { cls := .type "list", data := .seq #[] }).get? s.heap.objs.size = some { cls := .type "list", data := .seq #[] } := Heap.get?_push_size _ rfl
  refine ⟨⟨_, hS, rfl⟩, F.args_list_init_2 _ _, ?_⟩
  show wpAny _ A.in1.in1 (do let old ← Builtin.List.listItems (.ref s.heap.objs.size); Builtin.List.listUpdate (.ref s.heap.objs.size) (fun _ => #[]); letGo old.toList.reverse; Builtin.List.listExtendWith (.ref s.heap.objs.size) (.ref (n + 4 : Nat)) .none) _ _ _
  refine wpAny_bind ?_
  unfold Builtin.List.listItems
  refine wpAny_bind (wpAny_seqItems hS rfl (wpAny_pure ?_))
  show wpAny _ _ (updateSeq s.heap.objs.size (fun _ => #[]) >>= fun _ => letGo (#[] : Array Value).toList.reverse >>= fun _ => Builtin.List.listExtendWith (.ref s.heap.objs.size) (.ref (n + 4 : Nat)) .none) _ _ _
  refine wpAny_bind (wpAny_updateSeq hS rfl ?_)
  have hS₂ := Heap.get?_update_self (Obj.mapSeq (fun _ => (#[] : Array Value))) hS rfl
  have oth : ∀ b o, b ≠ s.heap.objs.size → s.heap.get? b = some o → ((s.heap.push { cls := .type "list", data := .seq #[] }).update s.heap.objs.size (Obj.mapSeq (fun _ => (#[] : Array Value)))).get? b = some o :=
    fun b o hb e => (Heap.get?_update_other _ _ (Ne.symm hb)).trans (Heap.get?_push_of_some _ e)
  have oth2 : ∀ b o, s.heap.get? b = some o → ((s.heap.push { cls := .type "list", data := .seq #[] }).update s.heap.objs.size (Obj.mapSeq (fun _ => (#[] : Array Value)))).get? b = some o :=
    fun b o e => oth b o (Nat.ne_of_lt (Heap.lt_size e)) e
  refine wpAny_bind (wpAny_letGo ?_)
  have nS : s.heap.objs.size ∉ zfp n := fun m => by
    rcases mem_zfp m with q | q | q | q | q <;> omega
  have I1 : Inv X pins σ (upd H s.heap.objs.size (.lst [])) { s with heap := (s.heap.push { cls := .type "list", data := .seq #[] }).update s.heap.objs.size (Obj.mapSeq (fun _ => (#[] : Array Value))) } :=
    I.laid (t' := s.toks) oth2 (Nat.le_refl _) ⟨by show 0 ≤ sizeLine; exact Nat.zero_le _, [], _, .nil, hS₂⟩
  refine ext_zip (H0 := H) hh nS hl hTn q1 q2 I1 (Z.keep s.heap.objs.size nS (fun o e => absurd (Heap.lt_size e) (Nat.lt_irrefl _)) oth) (fun c m => ?_) upd_same (same_new hTn) fun H' s' ts I' hT' sm pr => ?_
  · obtain ⟨f0, f1⟩ := hf c m
    have ncS : c ≠ s.heap.objs.size := fun q => nS (by rw [← q]; exact m)
    exact ⟨by rw [upd_ne ncS]; exact f0, f1⟩
  · exact ⟨rfl, hQ H' s' ts I' hTn hT' sm pr⟩
def tLZip (K : Fg) (ta : TA) : TE := fun σ H Q => ta σ H fun vs H1 => ∃ k1 k2 xs ys, vs = [Kd.v k1, Kd.v k2] ∧ k1.src K H1 xs ∧ k2.src K H1 ys ∧ min xs.length ys.length ≤ lim ∧
  ∀ H' l ts, H1 l = none → H' l = some (.lst ts) → Same H1 H' → Prs H1 H' l ts (xs.zip ys) → Q (.ref l) H'
theorem pe_listZip {e e2 : Expr} {ta : TA} {p p2 pos pos2 : Pos} (hc : X.calm = true) (hg : Gl X "list") (hm : X.mg "list" = none) (hg2 : Gl X "zip") (hm2 : X.mg "zip" = none) (ha : PA X [e, e2] ta)
    (hs : starEach [e, e2] X.env = (false, eval e X.env) :: starEach [e2] X.env := by rfl) (hpl : (backTo pos2 (starEach [e2] X.env)).any (·.1) = false := by rfl)
    (na : starEach [.Call (.Name "zip" p2) [e, e2] [] pos2] X.env = (false, eval (.Call (.Name "zip" p2) [e, e2] [] pos2) X.env) :: starEach [] X.env := by rfl) :
    PE X (.Call (.Name "list" p) [.Call (.Name "zip" p2) [e, e2] [] pos2] [] pos) (tLZip X.K ta) := by
  refine ⟨fun pins s σ H Q I h => ?_⟩
  refine Call_ (ld_blt I hg hm boot_list (PyProof.Rows.callWith_type1 (args_cons ?_ na) na))
  refine Call_ (ld_blt I hg2 hm2 boot_zip (PyProof.Rows.callWith_type1 (thn (ha.run pos2 pins s σ H _ I h) fun us s1 ⟨vs, H1, I1, r1, q1⟩ => ?_) hs hpl))
  obtain ⟨k1, k2, xs, ys, ex, hqx, hqy, hl, q1⟩ := q1
  subst ex
  cases r1 with
  | cons r rr =>
    cases rr with
    | cons r' rr =>
      cases rr
      refine zip_new I1 hqx hqy r r' fun h' Z I2 hk hsz fp => args_nil ?_
      exact call_listZip (I1.ok.hd hc) (by show _ ≤ h'.objs.size; omega) hl hqx hqy I2 Z.zh fp fun H' s' ts I' hn hT sm pr => ⟨.ref _, H', I', rfl, q1 H' _ ts hn hT sm pr⟩
def eLZip (ms : List Arg) : EM := fun env => (evA ms env).bind fun (ds, e) => match ds with
  | [a, b] => a.zseq.bind fun xs => b.zseq.bind fun ys => if min xs.length ys.length ≤ lim then some (.ol (zipD xs ys), e) else none
  | _ => none
/-- the addresses of the pairs -/
theorem Prs.reps {K : Fg} {G H0 H : Hp} {l : Addr} (s0 : Same G H0) : ∀ {ts : List V} {xs ys : List V} {ds es : List D}, Prs H0 H l ts (xs.zip ys) → Reps K G xs ds → Reps K G ys es →
    ∃ f : List Addr, (∀ a ∈ f, H0 a = none ∧ a ≠ l ∧ ∃ o, H a = some o) ∧ Reps K (addF G H f) ts (zipD ds es)
  | ts, [], ys, _, es, p, .nil, _ => by
    cases p
    exact ⟨[], (fun a m => by cases m), Reps.nil⟩
  | ts, x :: xs, [], d :: ds, _, p, .cons _ _, .nil => by
    cases p
    exact ⟨[], (fun a m => by cases m), Reps.nil⟩
  | _, x :: xs, y :: ys, d :: ds, e :: es, .cons (T := T) hT nT hh p, .cons rd rs, .cons re res => by
    obtain ⟨f, hf, r⟩ := Prs.reps s0 p rs res
    refine ⟨T :: f, fun a m => ?_, ?_⟩
    · rcases List.mem_cons.mp m with q | m
      · subst q; exact ⟨hT, nT, _, hh⟩
      · exact hf a m
    · have sG : Same G (addF G H (T :: f)) := addF_same fun a m => by
        rcases List.mem_cons.mp m with q | m
        · subst q; exact none_of_same s0 hT
        · exact none_of_same s0 (hf a m).1
      have s2 : Same (addF G H f) (addF G H (T :: f)) := fun a o ea => by
        unfold addF at ea ⊢
        by_cases m : a ∈ f
        · rw [if_pos m] at ea; rw [if_pos (by simp [m])]; exact ea
        · rw [if_neg m] at ea
          have : a ∉ T :: f := fun z => by
            rcases List.mem_cons.mp z with q | z
            · subst q
              rw [none_of_same s0 hT] at ea; cases ea
            · exact m z
          rw [if_neg this]; exact ea
      exact .cons (.tup (by unfold addF; rw [if_pos (by simp)]; exact hh) (.cons (rd.mono sG) (.cons (re.mono sG) .nil))) (r.mono s2)
theorem ok_lzip {e e2 : Expr} {ms : List Arg} {p p2 pos pos2 : Pos} (hc : X.calm = true) (hg : Gl X "list") (hm : X.mg "list" = none) (hg2 : Gl X "zip") (hm2 : X.mg "zip" = none) (ha : PA X [e, e2] (tAr X.K ms))
    (hs : starEach [e, e2] X.env = (false, eval e X.env) :: starEach [e2] X.env := by rfl) (hpl : (backTo pos2 (starEach [e2] X.env)).any (·.1) = false := by rfl)
    (na : starEach [.Call (.Name "zip" p2) [e, e2] [] pos2] X.env = (false, eval (.Call (.Name "zip" p2) [e, e2] [] pos2) X.env) :: starEach [] X.env := by rfl) :
    EOk X (.Call (.Name "list" p) [.Call (.Name "zip" p2) [e, e2] [] pos2] [] pos) (eLZip ms) := pe_mono (pe_listZip hc hg hm hg2 hm2 (paa ha) hs hpl na) fun σ H Q ⟨env, G, fp, con, c, env', e1, k⟩ => by
  unfold eLZip at e1
  cases q : evA ms env with
  | none => simp [q] at e1
  | some y =>
    obtain ⟨as, e3⟩ := y
    simp only [q, Option.bind_some] at e1
    split at e1
    · rename_i a b
      cases q1 : a.zseq with
      | none => simp [q1] at e1
      | some xs =>
        cases q2 : b.zseq with
        | none => simp [q1, q2] at e1
        | some ys =>
          simp only [q1, q2, Option.bind_some] at e1
          split at e1
          · rename_i hl
            cases e1
            refine ⟨env, G, fp, con, _, _, q, fun vs G' H' fp' c' rv s => ?_⟩
            cases rv with
            | cons r1 rv =>
              cases rv with
              | cons r2 rv =>
                cases rv
                obtain ⟨k1, us, rfl, s1, t1⟩ := r1.kd q1
                obtain ⟨k2, ws, rfl, s2, t2⟩ := r2.kd q2
                refine ⟨k1, k2, us, ws, rfl, ItG_src c'.sub s1, ItG_src c'.sub s2, by rw [t1.length, t2.length]; exact hl, fun H2 l ts hn hT sm pr => ?_⟩
                obtain ⟨f, hf, rr⟩ := pr.reps c'.sub t1 t2
                have sub2 : Same (addF G' H2 f) H2 := addF_sub (c'.sub.trans sm)
                have gl : addF G' H2 f l = none := by
                  unfold addF
                  rw [if_neg fun m => (hf l m).2.1 rfl]
                  exact none_of_same c'.sub hn
                refine k.end_ (W := fun _ => False) (fr := [l]) c' (s.weak (fun _ u => u) fun a u => u.elim .inl fun z => z.elim) (fun a z => z.elim) (G2 := addF G' H2 f) ?_ sub2 (.ol gl hT rr)
                refine ⟨addF_same fun a m => none_of_same c'.sub (hf a m).1, fun a o ea _ => sm a o ea, fun a o ea => ?_, fun a m => ?_⟩
                · rcases addF_gr ea with z | z
                  · exact .inl z
                  · exact .inr (.inl (hf a z).1)
                · simp at m; subst m; exact .inr hn
          · cases e1
    · cases e1
end
end Fx
set_option Elab.async false
set_option linter.all false
set_option maxRecDepth 100000
set_option maxHeartbeats 4000000
noncomputable section
namespace Fx
open PySem PySem.Spec L2
open PyProof.Rows (boot_list args_cons args_nil Call_ IntsAre seqObj sortedHeap keyLt' tuples' keyKind' sortedAll)
open SrtO (Swo Srtd Stb SortableO Cmp lt2 iv)

/-! ## insertion sort -/
section
variable {α : Type}
def insr (lt : α → α → Bool) (x : α) : List α → List α
  | [] => [x]
  | y :: r => if lt y x then y :: insr lt x r else x :: y :: r
def isrt (lt : α → α → Bool) : List α → List α
  | [] => []
  | x :: r => insr lt x (isrt lt r)
theorem insr_perm (lt : α → α → Bool) (x : α) : ∀ l : List α, (insr lt x l).Perm (x :: l)
  | [] => .refl _
  | y :: r => by
    unfold insr
    split
    · exact ((insr_perm lt x r).cons y).trans (.swap ..)
    · exact .refl _
theorem isrt_perm (lt : α → α → Bool) : ∀ l : List α, (isrt lt l).Perm l
  | [] => .refl _
  | x :: r => (insr_perm lt x _).trans ((isrt_perm lt r).cons x)
theorem insr_srtd {lt : α → α → Bool} (O : Swo lt) (x : α) : ∀ {l : List α}, Srtd lt l → Srtd lt (insr lt x l)
  | [], _ => List.pairwise_singleton _ _
  | y :: r, h => by
    have hp := List.pairwise_cons.mp h
    unfold insr
    split
    · rename_i q
      refine List.pairwise_cons.mpr ⟨fun z m => ?_, insr_srtd O x hp.2⟩
      rcases List.mem_cons.mp ((insr_perm lt x r).mem_iff.mp m) with e | m
      · subst e; exact O.asym _ _ q
      · exact hp.1 z m
    · rename_i q
      have q : lt y x = false := by simpa using q
      refine List.pairwise_cons.mpr ⟨fun z m => ?_, h⟩
      rcases List.mem_cons.mp m with e | m
      · subst e; exact q
      · exact O.tr x y z q (hp.1 z m)
theorem isrt_srtd {lt : α → α → Bool} (O : Swo lt) : ∀ l : List α, Srtd lt (isrt lt l)
  | [] => List.Pairwise.nil
  | x :: r => insr_srtd O x (isrt_srtd O r)
theorem srt_uniq {lt : α → α → Bool} (O : Swo lt) (anti : ∀ x y, lt x y = false → lt y x = false → x = y) : ∀ {l m : List α}, Srtd lt l → Srtd lt m → l.Perm m → l = m
  | [], m, _, _, h => (List.Perm.eq_nil h.symm).symm
  | x :: l, [], _, _, h => absurd h.length_eq (by simp)
  | x :: l, y :: m, hl, hm, h => by
    have h1 : lt x y = false := by
      rcases List.mem_cons.mp (h.mem_iff.mp (List.mem_cons_self (a := x) (l := l))) with e | hx
      · rw [e]; exact O.refl y
      · exact (List.pairwise_cons.mp hm).1 x hx
    have h2 : lt y x = false := by
      rcases List.mem_cons.mp (h.mem_iff.mpr (List.mem_cons_self (a := y) (l := m))) with e | hy
      · rw [e]; exact O.refl x
      · exact (List.pairwise_cons.mp hl).1 y hy
    have e := anti x y h1 h2
    subst e
    rw [srt_uniq O anti (List.pairwise_cons.mp hl).2 (List.pairwise_cons.mp hm).2 h.cons_inv]
end
/-! ## orders -/
def ltI (i j : Int) : Bool := decide (i < j)
theorem swoI : Swo ltI := ⟨fun x y h => by unfold ltI at *; simp at *; omega, fun x y z a b => by unfold ltI at *; simp at *; omega⟩
theorem antiI (x y : Int) (a : ltI x y = false) (b : ltI y x = false) : x = y := by unfold ltI at *; simp at *; omega
def lexL : List Int → List Int → Bool
  | [], [] => false
  | [], _ :: _ => true
  | _ :: _, [] => false
  | x :: xs, y :: ys => if x = y then lexL xs ys else decide (x < y)
theorem lexL_asym : ∀ x y : List Int, lexL x y = true → lexL y x = false
  | [], [], h => by cases h
  | [], _ :: _, _ => rfl
  | _ :: _, [], h => by cases h
  | x :: xs, y :: ys, h => by
    unfold lexL at h ⊢
    by_cases e : x = y
    · rw [if_pos e] at h; rw [if_pos e.symm]; exact lexL_asym xs ys h
    · rw [if_neg e] at h; rw [if_neg fun z => e z.symm]; simp at h ⊢; omega
theorem lexL_tr : ∀ x y z : List Int, lexL y x = false → lexL z y = false → lexL z x = false
  | [], [], [], _, _ => rfl
  | [], [], _ :: _, _, _ => rfl
  | [], _ :: _, [], _, h => by cases h
  | [], _ :: _, _ :: _, _, _ => rfl
  | _ :: _, [], _, h, _ => by cases h
  | _ :: _, _ :: _, [], _, h => by cases h
  | x :: xs, y :: ys, z :: zs, h1, h2 => by
    unfold lexL at h1 h2 ⊢
    by_cases e1 : y = x
    · rw [if_pos e1] at h1
      by_cases e2 : z = y
      · rw [if_pos e2] at h2
        rw [if_pos (e2.trans e1)]
        exact lexL_tr xs ys zs h1 h2
      · rw [if_neg e2] at h2
        rw [if_neg (fun q => e2 (q.trans e1.symm))]
        simp at h2 ⊢; omega
    · rw [if_neg e1] at h1
      by_cases e2 : z = y
      · rw [if_neg (fun q => e1 (e2.symm.trans q))]
        simp at h1 ⊢; omega
      · rw [if_neg e2] at h2
        simp at h1 h2
        rw [if_neg (by omega)]
        simp; omega
theorem lexL_anti : ∀ x y : List Int, lexL x y = false → lexL y x = false → x = y
  | [], [], _, _ => rfl
  | [], _ :: _, h, _ => by cases h
  | _ :: _, [], _, h => by cases h
  | x :: xs, y :: ys, h1, h2 => by
    unfold lexL at h1 h2
    by_cases e : x = y
    · rw [if_pos e] at h1; rw [if_pos e.symm] at h2
      rw [e, lexL_anti xs ys h1 h2]
    · rw [if_neg e] at h1; rw [if_neg fun z => e z.symm] at h2
      simp at h1 h2; omega
theorem swoL : Swo lexL := ⟨lexL_asym, fun x y z => lexL_tr x y z⟩
theorem swo_on {α β : Type} {lt : β → β → Bool} (O : Swo lt) (f : α → β) : Swo fun x y => lt (f x) (f y) := ⟨fun x y h => O.asym _ _ h, fun x y z a b => O.tr _ _ _ a b⟩

/-! ## tuples of ints compared -/
section
variable {prog : Program} {w : World} {A : Around} {E : Value → Shared → Prop} {s : Shared}
theorem kat_ints {fin : Bool} {Q : Bool → Shared → Prop} : ∀ {us ws : List Value} {ns ms : List Int} (i : Nat), IntsAre us ns → IntsAre ws ms → fin = decide (us.length < ws.length) → Q (lexL ns ms) s → PySem.W.KatLex prog w A true fin Q (us.zip ws) i s
  | _, _, _, _, i, .nil, .nil, hf, h => PySem.W.kat_nil (by rw [hf]; exact h)
  | _, _, _, _, i, .nil, .cons .., hf, h => PySem.W.kat_nil (by rw [hf]; simpa [lexL] using h)
  | _, _, _, _, i, .cons .., .nil, hf, h => PySem.W.kat_nil (by rw [hf]; simpa [lexL] using h)
  | _, _, _, _, i, .cons x t r, .cons y u q, hf, h => by
    rw [List.zip_cons_cons]
    refine PySem.W.kat_cons (SeqAt.EqAt.int_int x t y u prog w _ _ ?_)
    refine PySem.W.kat_go (fun e1 => ?_) (fun e1 => ?_)
    · have ex : x = y := by simpa using e1
      exact PySem.W.kat_yes (kat_ints (i + 1) r q (by rw [hf]; simp) (by unfold lexL at h; rwa [if_pos ex] at h))
    · have ex : ¬ x = y := by simpa using e1
      exact PySem.W.kat_no (TS.oneLt_ints _ (by unfold lexL at h; rwa [if_neg ex] at h))
def IsTI (h : Heap) (v : Value) (ns : List Int) : Prop := ∃ a o xs n, v = .ref a ∧ h.get? a = some o ∧ o.cls = .type "tuple" ∧ o.data = .seq xs n ∧ IntsAre xs.toList ns ∧ ns ≠ []
theorem IsTI.keeps {h h' : Heap} {v : Value} {ns : List Int} (t : IsTI h v ns) (k : ∀ b o, h.get? b = some o → o.cls = .type "tuple" → h'.get? b = some o) : IsTI h' v ns := by
  obtain ⟨a, o, xs, n, e, ho, hc, r⟩ := t
  exact ⟨a, o, xs, n, e, k a o ho hc, hc, r⟩
theorem tup_cmp {vs : List Value} {k : Value → List Int} (hp : ∀ v ∈ vs, IsTI s.heap v (k v)) : Cmp prog w A s (tuples' true) (fun p => p.1 ∈ vs) (lt2 fun v u => lexL (k v) (k u)) := by
  intro p q hm hm'
  have h1 := hp _ hm
  have h2 := hp _ hm'
  show wpAny (model prog w) A (keyLt' (tuples' true) p.1 q.1) (fun r s' => s' = s ∧ r = lexL (k p.1) (k q.1)) (fun _ _ => False) s
  generalize k p.1 = ns at h1 ⊢
  generalize k q.1 = ms at h2 ⊢
  obtain ⟨a, o, xs, n, e, ho, hc, hd, hI, _⟩ := h1
  obtain ⟨a', o', xs', n', e', ho', hc', hd', hI', _⟩ := h2
  rw [e, e']
  refine PySem.W.kat_lt ho hd ho' hd' ?_
  exact kat_ints 0 hI hI' (by simp) ⟨rfl, rfl⟩
theorem tup_firsts : ∀ {vs : List Value} {k : Value → List Int}, (∀ v ∈ vs, IsTI s.heap v (k v)) → ∃ fs, PySem.W.KatTups s.heap vs fs ∧ fs.length = vs.length ∧ ∀ f ∈ fs, ∃ x t, f = Value.int x t
  | [], _, _ => ⟨[], .nil, rfl, fun f m => by cases m⟩
  | v :: vs, k, h => by
    obtain ⟨fs, h1, h2, h3⟩ := tup_firsts (vs := vs) (k := k) fun u m => h u (by simp [m])
    obtain ⟨a, o, xs, n, e, ho, hc, hd, hI, hne⟩ := h v (by simp)
    subst e
    cases hx : xs.toList with
    | nil => rw [hx] at hI; generalize k (.ref a) = z at *; cases hI; exact absurd rfl hne
    | cons f r =>
      rw [hx] at hI
      have hf : xs[0]? = some f := by rw [← Array.getElem?_toList, hx]; rfl
      refine ⟨f :: fs, .cons ho hc hd hf h1, by simp [h2], fun g m => ?_⟩
      rcases List.mem_cons.mp m with e | m
      · subst e
        generalize k (.ref a) = z at *
        cases hI with
        | cons x t _ => exact ⟨x, t, rfl⟩
      · exact h3 g m
theorem tup_sortable {a : Addr} {vs : List Value} {k : Value → List Int} (h0 : 0 < vs.length) (hp : ∀ v ∈ vs, IsTI s.heap v (k v)) (ha : ∀ o, s.heap.get? a = some o → o.cls ≠ .type "tuple") : SortableO prog w A s a vs fun v u => lexL (k v) (k u) := by
  intro h' keep
  have hp' : ∀ v ∈ vs, IsTI h' v (k v) := fun v hm => (hp v hm).keeps fun b o e c => keep b o (fun z => by subst z; exact ha o e c) e
  obtain ⟨fs, h1, h2, h3⟩ := tup_firsts (s := { s with heap := h' }) hp'
  refine ⟨tuples' true, fun Q E hq => ?_, tup_cmp hp'⟩
  refine PySem.W.kat_kind (T := .type "int") h1 (by omega) (fun f hm => ?_) (by rfl) ?_
  · obtain ⟨x, t, rfl⟩ := h3 f hm
    exact PySem.W.Looks.now
  · have e : (Value.type "int" != Value.type "tuple") = true := by first | decide +kernel | rfl | decide
    rw [e]
    exact hq
/-- sorted(l), a list or a tuple -/
theorem sorted_seq {l : Addr} {T : String} {ob : Obj} {vs : List Value} {nn : Nat} {ltv : Value → Value → Bool} {Q : Value → Shared → Prop} (O : Swo ltv) (hT : T = "list" ∨ T = "tuple") (ho : s.heap.get? l = some ob) (hc : ob.cls = .type T) (hd : ob.data = .seq vs.toArray nn) (hz : vs.length ≤ sizeLine)
    (hS : 2 ≤ vs.length → ∀ (h₁ : Heap) (a : Addr), h₁.get? a = some (seqObj "list" vs.toArray 0) → (∀ b o, s.heap.get? b = some o → b ≠ a ∧ h₁.get? b = some o) → SortableO prog w A.in1.in1 { s with heap := h₁ } a vs ltv)
    (h : ∀ (out : List Value) (h1 h' : Heap), Srtd ltv out → Stb ltv out vs → (∀ b o, s.heap.get? b = some o → h1.get? b = some o) → (∀ b o, h1.get? b = some o → h'.get? b = some o) → (∃ n, h'.get? h1.objs.size = some (seqObj "list" out.toArray n)) → Q (.ref h1.objs.size) { s with heap := h' }) :
    wpAny (model prog w) A (call (.builtin "sorted") [.ref l]) Q E s := by
  refine Calls.call_function_entry PyProof.Rows.kind_sorted PyProof.Rows.plain_sorted PyProof.Rows.entry_sorted (PyProof.Rows.args_sorted1 _) ?_
  unfold Builtin.«sorted»
  refine wpAny_bind (m := checkCount "sorted" 1 1 _) (wpAny_pure ?_)
  refine wpAny_bind (wpAny_collect_seq l hT ho hc hd (fun h1 k1 => ?_) (by rw [List.size_toArray]; exact hz))
  rw [List.toList_toArray]
  refine wpAny_bind (wpAny_newList ?_ hz)
  have hoL : (h1.push (seqObj "list" vs.toArray 0)).get? h1.objs.size = some (seqObj "list" vs.toArray 0) := Heap.get?_push_size _ rfl
  have keep : ∀ b o, s.heap.get? b = some o → b ≠ h1.objs.size ∧ (h1.push (seqObj "list" vs.toArray 0)).get? b = some o := fun b o q =>
    ⟨Nat.ne_of_lt (Heap.lt_size (k1 b o q)), Heap.get?_push_of_some _ (k1 b o q)⟩
  show wpAny _ _ _ _ _ { s with heap := h1.push (seqObj "list" vs.toArray 0) }
  refine wpAny_bind (wpAny_holding (wpAny_call_entry PyProof.Rows.slot_list_sort ⟨_, hoL, rfl⟩ PyProof.Rows.entry_list_sort (SrtO.list_sort_ord O hoL hz (fun h2 => hS h2 _ _ hoL keep) fun out hs hb => ⟨_, rfl, ?_⟩) (PyProof.Rows.args_list_sort _)))
  refine wpAny_pure ⟨_, rfl, h out _ _ hs hb k1 (fun b o e => ?_) (PyProof.Rows.sortedHeap_at hoL)⟩
  have e2 : (h1.push (seqObj "list" vs.toArray 0)).get? b = some o := Heap.get?_push_of_some _ e
  exact (PyProof.Rows.sortedHeap_old (Nat.ne_of_lt (Heap.lt_size e)) (Heap.lt_size e2)).trans e2
end

def rSortedA (K : Fg) : List V → Hp → VK → Prop := fun vs H Q => ∃ (a : Addr) (xs : List V), vs = [V.ref a] ∧ (SqL K H a xs ∨ SqT K H a xs) ∧ ((∃ ns : List Int, xs = ns.map V.int ∧ ∀ p, H p = none → Q (.ref p) (upd H p (.lst ((isrt ltI ns).map V.int)))) ∨
  ∃ k : V → List Int, (∀ x ∈ xs, ∃ t, x = V.ref t ∧ H t = some (.tup ((k x).map V.int)) ∧ k x ≠ []) ∧ ∀ ys p, ys.Perm xs → ys.map k = isrt lexL (xs.map k) → H p = none → Q (.ref p) (upd H p (.lst ys)))
section
variable {X : Cx}
theorem intsAre_of : ∀ {ns : List Int} {us : List Value}, Vals (ns.map V.int) us → IntsAre us ns := fun {ns us} h => RZ.intsAre_vals h
theorem cr_sortedA : CallR X (.builtin "sorted") (rSortedA X.K) := by
  intro pins s σ H vs us Q I r h
  obtain ⟨a, xs, rfl, hs, q⟩ := h
  obtain ⟨its, T, ob, nn, rv, hT, ho, hc, hd, hz⟩ : ∃ its T ob nn, Vals xs its ∧ (T = "list" ∨ T = "tuple") ∧ s.heap.get? a = some ob ∧ ob.cls = .type T ∧ ob.data = .seq its.toArray nn ∧ xs.length ≤ sizeLine := by
    rcases hs with hs | hs
    · obtain ⟨its, rv, p, hz⟩ := I.list hs
      obtain ⟨ob, ho, hc, n, hd⟩ := p.isList
      exact ⟨its, "list", ob, n, rv, .inl rfl, ho, hc, hd, hz⟩
    · obtain ⟨its, rv, p, hz⟩ := I.tuple hs
      obtain ⟨ob, ho, hc, n, hd⟩ := p
      exact ⟨its, "tuple", ob, n, rv, .inr rfl, ho, hc, hd, hz⟩
  have hzv : its.length ≤ sizeLine := by rw [← rv.length]; exact hz
  rw [Vals.ref1 r]
  have fin : ∀ {h1 h' : Heap} {out : List Value} {ys : List V}, (∀ b o, s.heap.get? b = some o → h1.get? b = some o) → (∀ b o, h1.get? b = some o → h'.get? b = some o) → (∃ n, h'.get? h1.objs.size = some (PyProof.Rows.seqObj "list" out.toArray n)) →
      Vals ys out → ys.length ≤ sizeLine → (∀ p, H p = none → Q (.ref p) (upd H p (.lst ys))) → EP X pins σ Q (.ref h1.objs.size) { s with heap := h' } := fun {h1 h' out ys} k1 k2 hn rv' hl' q => by
    obtain ⟨n, hn⟩ := hn
    have I1 : Inv X pins σ H { s with heap := h1 } := I.kept (t' := s.toks) k1
    exact ⟨.ref _, upd H h1.objs.size (.lst ys), I1.laid (t' := s.toks) k2 (Nat.le_refl _) ⟨hl', out, n, rv', hn⟩, rfl, q _ (I1.hok.fresh (Nat.le_refl _))⟩
  rcases q with ⟨ns, rfl, q⟩ | ⟨k, hk, q⟩
  · have hi := intsAre_of rv
    refine sorted_seq SrtO.swo_int hT ho hc hd hzv (fun h2 h₁ a' _ _ => SrtO.ints_sortable hi h2) fun out h1 h' hs hb k1 k2 hn => ?_
    obtain ⟨g1, g2, g3⟩ := SrtO.ints_out hi hs hb
    have e : out.map iv = isrt ltI ns := by
      refine srt_uniq swoI antiI ?_ (isrt_srtd swoI ns) (g2.trans (isrt_perm ltI ns).symm)
      exact g3.imp fun {x y} h => by unfold ltI; simp; exact h
    refine fin (ys := (isrt ltI ns).map V.int) k1 k2 hn (by rw [← e]; exact vals_of_ints g1) ?_ q
    rw [List.length_map, (isrt_perm ltI ns).length_eq]
    rwa [List.length_map] at hz
  · obtain ⟨e1, e2⟩ := refs_back rv fun x m => by
      obtain ⟨t, e, _⟩ := hk x m
      exact ⟨t, e⟩
    have hti : ∀ (h : Heap), (∀ b o, s.heap.get? b = some o → h.get? b = some o) → ∀ v ∈ its, IsTI h v (k (backV v)) := fun hh kk v hv => by
      obtain ⟨t, rfl⟩ := e2 v hv
      have hm : V.ref t ∈ xs := by rw [e1]; exact List.mem_map.mpr ⟨_, hv, rfl⟩
      obtain ⟨t', e, ht, hne⟩ := hk _ hm
      cases e
      obtain ⟨_, its2, r2, o, ho2, hc2, n, hd2⟩ := I.hok _ _ ht
      exact ⟨_, o, _, n, rfl, kk _ _ ho2, hc2, hd2, by rw [List.toList_toArray]; exact intsAre_of r2, hne⟩
    refine sorted_seq (swo_on swoL fun v => k (backV v)) hT ho hc hd hzv (fun h2 h₁ a' ha kk => ?_) fun out h1 h' hs hb k1 k2 hn => ?_
    · refine tup_sortable (s := { s with heap := h₁ }) (k := fun v => k (backV v)) (by omega) (hti h₁ fun b o e => (kk b o e).2) fun o e => ?_
      have e' : some o = some (PyProof.Rows.seqObj "list" its.toArray 0) := e.symm.trans ha
      cases e'
      intro c
      exact absurd (Value.type.inj c) (by decide)
    · have h3 : ∀ u ∈ out, ∃ a, u = Value.ref a := fun u hu => e2 u (hb.perm.mem_iff.mp hu)
      have hp : (out.map backV).Perm xs := by rw [e1]; exact hb.perm.map backV
      refine fin (ys := out.map backV) k1 k2 hn (vals_back h3) (by rw [hp.length_eq]; exact hz) fun p hp' => q _ p hp ?_ hp'
      refine srt_uniq swoL lexL_anti ?_ (isrt_srtd swoL _) ((hp.map k).trans (isrt_perm lexL _).symm)
      rw [List.map_map]
      exact List.pairwise_map.mpr hs
end
def intTs : List D → Option (List (List Int))
  | [] => some []
  | .tup ds :: r => (intsOf ds).bind fun ns => if ns.isEmpty then none else (intTs r).bind fun l => some (ns :: l)
  | _ :: _ => none
def dTup (ns : List Int) : D := .tup (ns.map D.int)
theorem intTs_inv : ∀ {ds : List D} {l : List (List Int)}, intTs ds = some l → ds = l.map dTup ∧ ∀ ns ∈ l, ns ≠ []
  | [], _, e => by cases e; exact ⟨rfl, fun _ m => by cases m⟩
  | d :: r, l, e => by
    cases d with
    | tup ds =>
      unfold intTs at e
      cases q : intsOf ds with
      | none => simp [q] at e
      | some ns =>
        simp only [q, Option.bind_some] at e
        split at e
        · cases e
        · rename_i hne
          cases q2 : intTs r with
          | none => simp [q2] at e
          | some l2 =>
            simp [q2] at e
            subst e
            obtain ⟨h1, h2⟩ := intTs_inv q2
            refine ⟨by rw [h1, intsOf_inv q]; rfl, fun ms m => ?_⟩
            rcases List.mem_cons.mp m with z | m
            · subst z; intro z; rw [z] at hne; exact hne rfl
            · exact h2 ms m
    | _ => cases e
/-- sorted(x): ints, or tuples of ints -/
def fSorted : List D → Option C
  | [x] => x.seq.bind fun ds => match intsOf ds with
    | some ns => some (.ol ((isrt ltI ns).map D.int))
    | none => (intTs ds).bind fun l => some (.ol ((isrt lexL l).map dTup))
  | _ => none
theorem s_sorted {K : Fg} : OpS K (rSortedA K) fSorted := fun G H vs ds c Q s rv e k => by
  unfold fSorted at e
  split at e
  · rename_i x
    cases rv with
    | cons rx rv =>
      cases rv
      cases q0 : x.seq with
      | none => simp [q0] at e
      | some es =>
        simp only [q0, Option.bind_some] at e
        obtain ⟨a, xs, rfl, hs, rs⟩ : ∃ a xs, _ = V.ref a ∧ (SqL K H a xs ∨ SqT K H a xs) ∧ Reps K G xs es := by
          cases x with
          | tup zs => cases q0; obtain ⟨a, xs, e, h, r⟩ := rx.tup; exact ⟨a, xs, e, .inr (SqT.of (s _ _ h)), r⟩
          | lst zs => cases q0; obtain ⟨a, xs, e, h, r⟩ := rx.lst s; exact ⟨a, xs, e, .inl (SqL.of h), r⟩
          | _ => cases q0
        refine ⟨a, xs, rfl, hs, ?_⟩
        split at e
        · rename_i ns q1
          cases e
          have h1 := intsOf_inv q1
          subst h1
          left
          exact ⟨ns, rs.ints_inv, fun p hp => k.ol s (reps_ints _) hp⟩
        · cases q2 : intTs es with
          | none => simp [q2] at e
          | some l =>
            simp [q2] at e
            subst e
            obtain ⟨h1, h2⟩ := intTs_inv q2
            subst h1
            right
            -- the key of a tuple, by the heap
            let kf : V → List Int := fun x => match x with
              | .ref t => match H t with
                | some (.tup ys) => ys.map fun y => match y with | .int i => i | _ => 0
                | _ => []
              | _ => []
            have key : ∀ {l : List (List Int)} {xs : List V}, Reps K G xs (l.map dTup) → xs.map kf = l ∧ ∀ x ∈ xs, ∃ t, x = V.ref t ∧ H t = some (.tup ((kf x).map V.int)) ∧ Rep K G x (dTup (kf x)) := by
              intro l
              induction l with
              | nil => intro xs r; cases r; exact ⟨rfl, fun x m => by cases m⟩
              | cons ns l ih =>
                intro xs r
                cases r with
                | cons r1 r =>
                  obtain ⟨i1, i2⟩ := ih r
                  cases r1 with
                  | tup h hr =>
                    rename_i t ys
                    have hy := hr.ints_inv
                    subst hy
                    have hH := s _ _ h
                    have ek : kf (.ref t) = ns := by
                      show (match H t with | some (.tup ys) => _ | _ => _) = ns
                      rw [hH]
                      show ((ns.map V.int).map _) = ns
                      rw [List.map_map]
                      exact List.map_id ns
                    refine ⟨by rw [List.map_cons, ek, i1], fun x m => ?_⟩
                    rcases List.mem_cons.mp m with z | m
                    · subst z
                      rw [ek]
                      exact ⟨t, rfl, hH, .tup h hr⟩
                    · exact i2 x m
            obtain ⟨k1, k2⟩ := key rs
            refine ⟨kf, fun x m => ?_, fun ys p hp hys hn => ?_⟩
            · obtain ⟨t, e1, e2, _⟩ := k2 x m
              refine ⟨t, e1, e2, h2 _ ?_⟩
              rw [← k1]; exact List.mem_map.mpr ⟨x, m, rfl⟩
            · rw [k1] at hys
              refine k.ol s ?_ hn
              rw [← hys]
              have : ∀ zs : List V, (∀ z ∈ zs, Rep K G z (dTup (kf z))) → Reps K G zs ((zs.map kf).map dTup) := by
                intro zs
                induction zs with
                | nil => intro _; exact .nil
                | cons z zs ih => intro h; exact .cons (h z (by simp)) (ih fun w m => h w (by simp [m]))
              refine this ys fun z m => ?_
              obtain ⟨_, _, _, r⟩ := k2 z (hp.mem_iff.mp m)
              exact r
  · cases e
end Fx
set_option Elab.async false
set_option linter.all false
set_option maxRecDepth 100000
set_option maxHeartbeats 4000000
noncomputable section
namespace Fx
open PySem PySem.Spec L2

/-! ## ways in the text, to a comprehension's scope -/
def nX : Expr := .Constant .none 0 ⟨0, 0, 0, 0⟩
def nS0 : Stmt := .Pass ⟨0, 0, 0, 0⟩
def nSc : Expr → Scope
  | .ListComp _ _ s _ => s | .DictComp _ _ _ s _ => s | .SetComp _ _ s _ => s | _ => default
def nElt : Expr → Expr
  | .ListComp e _ _ _ => e | _ => nX
def nIter (i : Nat) : Expr → Expr
  | .ListComp _ gs _ _ => match gs[i]? with | some g => g.iter | none => nX
  | _ => nX
def nIf (i j : Nat) : Expr → Expr
  | .ListComp _ gs _ _ => match gs[i]? with | some g => g.ifs.getD j nX | none => nX
  | _ => nX
def nFun : Expr → Expr
  | .Call f _ _ _ => f | _ => nX
def nArg (i : Nat) : Expr → Expr
  | .Call _ as _ _ => as.getD i nX | .Tuple as _ _ => as.getD i nX | .List as _ => as.getD i nX | .BoolOp _ as _ => as.getD i nX | .Compare _ _ as _ => as.getD i nX | _ => nX
def nA : Expr → Expr
  | .BinOp a _ _ _ => a | .Compare a _ _ _ => a | .UnaryOp _ a _ => a | .Subscript a _ _ => a | .Starred a _ => a | .IfExp _ a _ _ => a | .Attribute a _ _ => a | _ => nX
def nB : Expr → Expr
  | .BinOp _ _ b _ => b | .Subscript _ b _ => b | .IfExp _ _ b _ => b | _ => nX
def nT : Expr → Expr
  | .IfExp c _ _ _ => c | _ => nX
def nSt (i : Nat) (l : List Stmt) : Stmt := l.getD i nS0
def nV : Stmt → Expr
  | .Assign _ v _ => v | .AugAssign _ _ v _ => v | .Return (some v) _ => v | .Expr v _ => v | .If c _ _ _ => c | .While c _ _ _ => c | .For _ i _ _ _ => i | _ => nX
def nBody : Stmt → List Stmt
  | .If _ b _ _ => b | .While _ b _ _ => b | .For _ _ b _ _ => b | .Try b _ _ _ _ => b | _ => []
def nElse : Stmt → List Stmt
  | .If _ _ b _ => b | _ => []

def relZ (sc scope : Scope) : Scope := { scope with names := scope.names.map fun (n, k) => if k == .free && sc.kind == .function && sc.names.lookup n == some .cell then (n, .cell) else (n, k) }

/-! ## a def that is not called at this depth -/
theorem never_P {P : Program} {w : World} {K : Fg} {mg : Str → Option Value} {base : Heap} {k : Nat} {f : Addr} {fd : FuncData} {ps : List Str} : FnOk P w K mg base CX0 k f fd ps (spP K fun _ => none) :=
  ⟨(fun vs H Q E h => by obtain ⟨ds, G, _, _, c, e, _⟩ := h; exact (nomatch e)), fun A outer s H args us vs Q E _ _ _ _ h => by obtain ⟨ds, G, _, _, c, e, _⟩ := h; cases e⟩
theorem never_B {P : Program} {w : World} {K : Fg} {mg : Str → Option Value} {base : Heap} {k : Nat} {f : Addr} {fd : FuncData} {ps : List Str} : FnOk P w K mg base CX0 k f fd ps (spB K fun _ _ => none) :=
  ⟨(fun vs H Q E h => by obtain ⟨v0, vs', c0, f0, ds, G, _, _, _, _, c, c0', e, _⟩ := h; exact (nomatch e)), fun A outer s H args us vs Q E _ _ _ _ h => by obtain ⟨v0, vs', c0, f0, ds, G, _, _, _, _, c, c0', e, _⟩ := h; cases e⟩
theorem spP_law {K : Fg} {F : List D → Option C} {ns : List Int} {a : Addr} {H : Hp} {E : XK} (e : F [.scr ns] = some (.sh (.bl true))) (hS : SqL K H a (ns.map V.int)) : spP K F [.ref a] H (fun v _ => v = .bl true) E :=
  ⟨[.scr ns], H, Same.refl _, .cons (.scr hS) .nil, _, e, fun v G' H' fr _ rc _ => by have := rc.of_sh.1; cases this; rfl⟩

/-! ## a dict of the module with text keys, read -/
section
variable {X : Cx}
theorem ix_kd {d : Addr} {es : Array DictEntry} {n : Nat} (D : KDict X.K X.w d es n) :
    IxR X (fun x y H Q => ∃ (z : Str) (u0 : Value) (v0 : V), x = .ref d ∧ y = .str z ∧ PySem.W.nsIn X.K d z = some (some u0) ∧ RelV v0 u0 ∧ Q v0 H) := by
  intro value slice pins s σ H x y v u Q I rx ry h hs
  obtain ⟨z, u0, v0, rfl, rfl, e, r, q⟩ := h
  have hT : s.TypeIs v "dict" := by cases rx; exact kd_type D I
  exact PyProof.Rows.tail_any hT PySem.F.slot_dict_getitem.lookup (op_item_kd D pins s σ H (.ref d) (.str z) v u Q I rx ry ⟨z, u0, v0, rfl, rfl, e, r, q⟩) hs
theorem tab_all {tab : List (Str × D)} {P : Str → D → Prop} (h : ∀ p ∈ tab, P p.1 p.2) {z : Str} {d : D} (e : tab.lookup z = some d) : P z d := by
  induction tab with
  | nil => cases e
  | cons p r ih =>
    obtain ⟨k, v⟩ := p
    rw [List.lookup_cons] at e
    split at e
    · rename_i q
      have q : z = k := by simpa using q
      subst q
      cases e
      exact h (z, d) (by simp)
    · exact ih (fun p m => h p (by simp [m])) e
def eTab (tab : List (Str × D)) (o : Opd) : EM := fun env => (evO [o] env).bind fun (ds, e) => match ds with
  | [.str z] => (tab.lookup z).bind fun d => some (.sh d, e)
  | _ => none
theorem ok_tab {x : Str} {p pos : Pos} {ix : Expr} {d : Addr} {tab : List (Str × D)} {o : Opd} (hg : Gl X x) (hm : X.mg x = some (.ref d)) (hD : ∃ es n, KDict X.K X.w d es n) (ht : ∀ z d', tab.lookup z = some d' → ∃ u0 v0, PySem.W.nsIn X.K d z = some (some u0) ∧ RelV v0 u0 ∧ ∀ G, Rep X.K G v0 d')
    (ho : OOk X ix o) (hs : PlainIx ix := by intro _ _; rfl) (hd : (x == ("__debug__" : Str)) = false := by decide) : EOk X (.Subscript (.Name x p) ix pos) (eTab tab o) := by
  obtain ⟨es, n, D⟩ := hD
  refine pe_mono (pe_ix (ix_kd D) (pe_glob (v := .ref d) hg hm rfl hd) ho hs) fun σ H Q ⟨env, G, fp, con, c, env', e1, k⟩ => ?_
  unfold eTab at e1
  cases q : evO [o] env with
  | none => simp [q] at e1
  | some y =>
    obtain ⟨ds, e2⟩ := y
    simp only [q, Option.bind_some] at e1
    split at e1
    · rename_i z
      cases q2 : tab.lookup z with
      | none => simp [q2] at e1
      | some d' =>
        simp [q2] at e1
        obtain ⟨rfl, rfl⟩ := e1
        obtain ⟨u0, v0, h1, h2, h3⟩ := ht z d' q2
        have hz : tO X.K [o] σ H (fun vs H1 => ∃ y, vs = [y] ∧ ∃ (z : Str) (u0 : Value) (v0 : V), V.ref d = .ref d ∧ y = .str z ∧ PySem.W.nsIn X.K d z = some (some u0) ∧ RelV v0 u0 ∧ Q v0 H1) := ⟨env, G, fp, con, _, _, q, fun vs G' H' fp' c' rv s => by
          cases rv with
          | cons r1 rv =>
            cases rv; cases r1.str
            refine ⟨_, rfl, z, u0, v0, rfl, rfl, h1, h2, ?_⟩
            exact k.sh c' s (h3 G')⟩
        show (tOpd X.K o) σ H _
        refine vk_mono_opd o (fun y H1 h => ?_) (tOs1 (tO_tOs hz))
        obtain ⟨y', ey, h⟩ := h
        cases ey
        exact h
    · cases e1
end

section
variable {X : Cx} {x : Str} {pos : Pos}
theorem ok_gint {i : Int} (hg : Gl X x) (hm : ∃ t, X.mg x = some (.int i t)) (hd : (x == ("__debug__" : Str)) = false := by decide) : EOk X (.Name x pos) (eC (.int i)) := by
  obtain ⟨t, hm⟩ := hm
  exact ok_c (pe_glob (v := .int i) hg hm ⟨_, rfl⟩ hd) fun _ => .int i
theorem ok_gstr {i : Str} (hg : Gl X x) (hm : ∃ t, X.mg x = some (.str i t)) (hd : (x == ("__debug__" : Str)) = false := by decide) : EOk X (.Name x pos) (eC (.str i)) := by
  obtain ⟨t, hm⟩ := hm
  exact ok_c (pe_glob (v := .str i) hg hm ⟨_, rfl⟩ hd) fun _ => .str i
end
/-! ## x, y = a, b where the parts stay one's own -/
def sPar2c (i j : Nat) (a b : EM) : SM := fun env => (a env).bind fun (c, e) => (b e).bind fun (d, e') => if i < e'.length ∧ j < e'.length then some (.nx ((e'.set i (some c)).set j (some d))) else none
section
variable {X : Cx} {p : Nat} {pos : Pos}
theorem s_par2c {i j : Nat} {x y : Str} {a b : Expr} {ma mb : EM} {px py pt : Pos} {kt k2 pt2} (hpi : p ≤ i) (hpj : p ≤ j) (hc : X.calm = true) (hN : X.N.Nodup) (hi : X.N[i]? = some x) (hj : X.N[j]? = some y) (hij : i ≠ j)
    (hx : X.env.scope.names.lookup x = some .local) (hy : X.env.scope.names.lookup y = some .local) (ha : EOk X a ma) (hb : EOk X b mb) (hw : swappedStores [.Tuple [.Name x px, .Name y py] kt pt] (.Tuple [a, b] k2 pt2) X.env = pure (some [x, y])) (hs : swapsWithSole [.Tuple [.Name x px, .Name y py] kt pt] (.Tuple [a, b] k2 pt2) pos.line X.env = pure false := by rfl)
    (h1 : starEach [a, b] X.env = (false, eval a X.env) :: starEach [b] X.env := by rfl) (h2 : starEach [b] X.env = (false, eval b X.env) :: starEach [] X.env := by rfl) :
    SOk X p (.Assign [.Tuple [.Name x px, .Name y py] kt pt] (.Tuple [a, b] k2 pt2) pos) (sPar2c i j ma mb) := ps_mono (ps_par hc hN hi hj hij hx hy (pa_cons ha (pa_cons hb pa_nil h2) h1) hw hs) fun D σ H ⟨env, G, fp, con, o, e1, k⟩ => by
  unfold sPar2c at e1
  cases q : ma env with
  | none => simp [q] at e1
  | some y =>
    obtain ⟨c, e2⟩ := y
    simp only [q, Option.bind_some] at e1
    cases q2 : mb e2 with
    | none => simp [q2] at e1
    | some y =>
      obtain ⟨d, e3⟩ := y
      simp only [q2, Option.bind_some] at e1
      split at e1
      · rename_i hl
        cases e1
        refine ⟨env, G, fp, con, c, e2, q, fun v G1 H1 fp1 fr con1 r1 n1 s1 => ?_⟩
        refine ⟨e2, G1, fp1, con1, d, e3, q2, fun w G2 H2 fp2 fr2 con2 r2 n2 s2 => ?_⟩
        have r1' : RepC X.K G2 H2 v c fr := r1.step s2 n1
        have o1 := r1.out s2 n1
        have con3 := con2.put (i := i) hl.1 r1' fun a m j' _ z => o1 a m (.inl ⟨j', z⟩)
        have con4 := con3.put (i := j) (by simpa using hl.2) r2 fun a m j' hj z => by
          by_cases e : j' = i
          · subst e; rw [Fp.set_same] at z; exact o1 a z (.inr m)
          · rw [Fp.set_ne e] at z; exact n2 a m ⟨j', z⟩
        refine ⟨v, w, rfl, k _ _ _ _ con4 ?_ ((take_set hpj).trans (take_set hpi))⟩
        have a1 : Step G H (U fp) G2 H2 (fun a => (U fp2 a ∨ a ∈ fr2) ∨ a ∈ fr) := by
          refine s1.trans (s2.weak (fun a u => .inl u) fun a u => ?_)
          rcases u with u | u
          · exact .inl u
          · exact .inr (.inl (.inr u))
        refine a1.weak (fun _ u => u) fun a u => ?_
        rcases U_set u with u | u
        · rcases U_set u with u | u
          · exact .inl (.inl (.inl u))
          · exact .inl (.inr u)
        · exact .inl (.inl (.inr u))
      · cases e1
end
end Fx
set_option Elab.async false
set_option linter.all false
set_option maxRecDepth 100000
set_option maxHeartbeats 4000000
noncomputable section
namespace Fx
open PySem L2

/-! ## reckoning with the functions -/
def getC (env : Env) (i : Nat) : Option C := match env[i]? with
  | some (some c) => some c
  | _ => none
theorem getC_some {env : Env} {i : Nat} {c : C} : getC env i = some c ↔ env[i]? = some (some c) := by
  unfold getC
  cases h : env[i]? with
  | none => simp
  | some x => cases x <;> simp
@[simp] theorem getC_z {c : C} {r : Env} : getC (some c :: r) 0 = some c := rfl
@[simp] theorem getC_zn {r : Env} : getC (none :: r) 0 = none := rfl
@[simp] theorem getC_s {x : Option C} {r : Env} {i : Nat} : getC (x :: r) (i + 1) = getC r i := rfl
section
variable {env : Env} {i : Nat} {d : D} {m m' : EM} {o o' : Opd}
theorem m_getC {α : Type} {f : C → Option α} : (match env[i]? with | some (some c) => f c | _ => none) = (getC env i).bind f := by
  unfold getC
  cases h : env[i]? with
  | none => rfl
  | some x => cases x <;> rfl
@[simp] theorem ev_C : eC d env = some (.sh d, env) := rfl
@[simp] theorem ev_Slot : eSlot i env = (getC env i).bind fun c => some (.sh c.fz, env.set i (some (.sh c.fz))) := m_getC
@[simp] theorem ev_Move : eMove i env = (getC env i).bind fun c => some (c, env.set i none) := m_getC
@[simp] theorem fz_sh : (C.sh d).fz = d := rfl
@[simp] theorem fz_ol {ds : List D} : (C.ol ds).fz = .lst ds := rfl
@[simp] theorem fz_oll {ds : List (List D)} : (C.oll ds).fz = .lst (ds.map D.lst) := rfl
@[simp] theorem vw_sh : (C.sh d).vw = some d := rfl
@[simp] theorem vw_ol {ds : List D} : (C.ol ds).vw = some (.lst ds) := rfl
@[simp] theorem vw_odk {ds} : (C.odk ds).vw = some (.dk ds) := rfl
@[simp] theorem vw_odt {ds} : (C.odt ds).vw = some (.dt ds) := rfl
@[simp] theorem pre_nil : preO [] env = some ([], env) := rfl
@[simp] theorem pre_s {r : List Opd} : preO (.slot i :: r) env = (getC env i).bind fun _ => (preO r env).bind fun (xs, e) => some (.sh .non :: xs, e) := m_getC (f := fun _ => (preO r env).bind fun (xs, e) => some (.sh .non :: xs, e))
@[simp] theorem pre_v {r : List Opd} : preO (.val m :: r) env = (m env).bind fun (c, e) => (preO r e).bind fun (xs, e') => some (c :: xs, e') := rfl
@[simp] theorem fin_nil {xs : List C} : finO env [] xs = some [] := by cases xs <;> rfl
@[simp] theorem fin_s {r : List Opd} {x : C} {xs : List C} : finO env (.slot i :: r) (x :: xs) = (getC env i).bind fun c => c.vw.bind fun d => (finO env r xs).bind fun ds => some (d :: ds) := m_getC (f := fun c => c.vw.bind fun d => (finO env r xs).bind fun ds => some (d :: ds))
@[simp] theorem fin_v {r : List Opd} {x : C} {xs : List C} : finO env (.val m :: r) (x :: xs) = x.vw.bind fun d => (finO env r xs).bind fun ds => some (d :: ds) := rfl
@[simp] theorem ev_Os {os : List Opd} : evO os env = (preO os env).bind fun (cs, e) => (finO e os cs).bind fun ds => some (ds, e) := rfl
@[simp] theorem ev_O {f : List D → Option C} {os : List Opd} : eO f os env = (evO os env).bind fun (ds, e) => (f ds).bind fun c => some (c, e) := rfl
@[simp] theorem evA_nil : evA [] env = some ([], env) := rfl
@[simp] theorem evA_one {r : List Arg} : evA (.one m :: r) env = (m env).bind fun (c, e) => (evA r e).bind fun (ds, e') => some (c.fz :: ds, e') := rfl
@[simp] theorem evA_star {r : List Arg} : evA (.star m :: r) env = (m env).bind fun (c, e) => c.fz.seq.bind fun xs => (evA r e).bind fun (ds, e') => some (xs ++ ds, e') := rfl
@[simp] theorem ev_Tup {ms : List Arg} : eTup ms env = (evA ms env).bind fun (ds, e) => if ds.length ≤ lim then some (.sh (.tup ds), e) else none := rfl
@[simp] theorem ev_Lst {ms : List Arg} : eLst ms env = (evA ms env).bind fun (ds, e) => if ds.length ≤ lim then some (.ol ds, e) else none := rfl
@[simp] theorem ev_If {t : TM} : eIf t m m' env = (t env).bind fun (x, e) => if x then m e else m' e := rfl
@[simp] theorem ev_Call {F : List D → Option C} {ms : List Arg} : eCall F ms env = (evA ms env).bind fun (ds, e) => (F ds).bind fun c => some (c, e) := rfl
@[simp] theorem ev_CallB {F : C → List D → Option (C × C)} {ms : List Arg} : eCallB F i ms env = (getC env i).bind fun _ => (evA ms env).bind fun (ds, e) => (getC e i).bind fun c0 => (F c0 ds).bind fun (c, c0') => some (c, e.set i (some c0')) := by
  refine Eq.trans (m_getC (f := fun _ => (evA ms env).bind fun (ds, e) => match e[i]? with
    | some (some c0) => (F c0 ds).bind fun (c, c0') => some (c, e.set i (some c0'))
    | _ => none)) ?_
  congr 1
  funext _
  congr 1
  funext ⟨ds, e⟩
  exact m_getC
@[simp] theorem ev_MethL {F : List D → List D → Option (C × List D)} {ms : List Arg} : eMethL F i ms env = (getC env i).bind fun c => match c with
  | .ol _ => (evA ms env).bind fun (ds, e) => (getC e i).bind fun c0 => match c0 with
    | .ol zs => (F zs ds).bind fun (c, zs') => some (c, e.set i (some (.ol zs')))
    | _ => none
  | _ => none := by
  unfold eMethL getC
  cases h : env[i]? with
  | none => rfl
  | some x => cases x with
    | none => rfl
    | some c => cases c with
      | ol ds =>
        show eCallB (olOnly F) i ms env = _
        rw [ev_CallB]
        rw [getC_some.mpr h]
        simp only [Option.bind_some]
        congr 1
        funext ⟨ds, e⟩
        unfold getC
        cases h2 : e[i]? with
        | none => rfl
        | some y => cases y with
          | none => rfl
          | some c => cases c with
            | ol zs =>
              show ((F zs ds).bind fun (c, ys) => some (c, C.ol ys)).bind _ = (F zs ds).bind _
              cases F zs ds <;> rfl
            | _ => rfl
      | _ => rfl
@[simp] theorem k_Val : kVal m env = (m env).bind fun (c, e) => match c with | .sh (.bl b) => some (b, e) | _ => none := by
  unfold kVal
  cases m env with
  | none => rfl
  | some x => obtain ⟨c, e⟩ := x; cases c with
    | sh d => cases d <;> rfl
    | _ => rfl
@[simp] theorem k_And {a b : TM} : kAnd a b env = (a env).bind fun (x, e) => if x then b e else some (false, e) := rfl
@[simp] theorem k_Or {a b : TM} : kOr a b env = (a env).bind fun (x, e) => if x then some (true, e) else b e := rfl
@[simp] theorem k_Not {a : TM} : kNot a env = (a env).bind fun (x, e) => some (!x, e) := rfl
@[simp] theorem k_Yes : kYes env = some (true, env) := rfl
@[simp] theorem s_Nx : sNx env = some (.nx env) := rfl
@[simp] theorem s_No : sNo env = none := rfl
@[simp] theorem s_Seq {a b : SM} : sSeq a b env = (a env).bind fun o => match o with | .nx e => b e | .rt c e => some (.rt c e) | .bk e => some (.bk e) | .ct e => some (.ct e) := by
  unfold sSeq
  congr 1
  funext o
  cases o <;> rfl
@[simp] theorem s_If {t : TM} {a b : SM} : sIf t a b env = (t env).bind fun (x, e) => if x then a e else b e := rfl
@[simp] theorem s_Set : sSet i m env = (m env).bind fun (c, e) => if i < e.length then some (.nx (e.set i (some c))) else none := rfl
@[simp] theorem s_Ret : sRet m env = (m env).bind fun (c, e) => some (.rt c e) := rfl
@[simp] theorem s_Drop : sDrop m env = (m env).bind fun (_, e) => some (.nx e) := rfl
@[simp] theorem s_Put {t : Tg} : sPut t m env = (m env).bind fun (c, e) => (asgG t c.fz e).bind fun e' => some (.nx e') := rfl
@[simp] theorem s_For {t : Tgt} {it : IM} {b : SM} : sFor t it b env = (it env).bind fun (ds, e) => forN t b ds e := rfl
@[simp] theorem s_Par2 {j : Nat} : sPar2c i j m m' env = (m env).bind fun (c, e) => (m' e).bind fun (d, e') => if i < e'.length ∧ j < e'.length then some (.nx ((e'.set i (some c)).set j (some d))) else none := rfl
@[simp] theorem s_Par {is : List Nat} {ms : List Arg} : sPar is ms env = (evA ms env).bind fun (ds, e) => (asg is ds e).bind fun e' => some (.nx e') := rfl
@[simp] theorem asg_nil : asg [] [] env = some env := rfl
@[simp] theorem asg_cons {is : List Nat} {ds : List D} : asg (i :: is) (d :: ds) env = if i < env.length then asg is ds (env.set i (some (.sh d))) else none := rfl
@[simp] theorem asgT_one : asgT (.one i) d env = if i < env.length then some (env.set i (some (.sh d))) else none := rfl
@[simp] theorem asgT_tup {is : List Nat} {ds : List D} : asgT (.tup is) (.tup ds) env = asg is ds env := rfl
@[simp] theorem asgG_nm : asgG (.nm i) d env = if i < env.length then some (env.set i (some (.sh d))) else none := rfl
@[simp] theorem asgG_sb : asgG (.sb i o) d env = (getC env i).bind fun _ => (evO [o] env).bind fun (ds, e) => match ds with
    | [y] => (getC e i).bind fun c0 => (putC c0 y d).bind fun c1 => some (e.set i (some c1))
    | _ => none := by
  refine Eq.trans (m_getC (f := fun _ => (evO [o] env).bind fun (ds, e) => match ds, e[i]? with
      | [y], some (some c0) => (putC c0 y d).bind fun c1 => some (e.set i (some c1))
      | _, _ => none)) ?_
  congr 1
  funext _
  congr 1
  funext ⟨ds, e⟩
  rcases ds with _ | ⟨y, _ | ⟨z, r⟩⟩
  · rfl
  · show (match [y], e[i]? with | [y], some (some c0) => (putC c0 y d).bind fun c1 => some (e.set i (some c1)) | _, _ => none) = (getC e i).bind fun c0 => (putC c0 y d).bind fun c1 => some (e.set i (some c1))
    cases h : e[i]? with
    | none => unfold getC; rw [h]; rfl
    | some x => cases x with
      | none => unfold getC; rw [h]; rfl
      | some c => rw [getC_some.mpr h]; rfl
  · rfl
@[simp] theorem asgGs_nil : asgGs [] [] env = some env := rfl
@[simp] theorem asgGs_cons {t : Tg} {ts : List Tg} {ds : List D} : asgGs (t :: ts) (d :: ds) env = (asgG t d env).bind fun e => asgGs ts ds e := rfl
@[simp] theorem s_Unp {ts : List Tg} : sUnp ts m env = (m env).bind fun (c, e) => match c.fz with | .tup ds => (asgGs ts ds e).bind fun e' => some (.nx e') | _ => none := by
  unfold sUnp; rfl
@[simp] theorem s_UnpL {ts : List Tg} : sUnpL ts m env = (m env).bind fun (c, e) => match c.fz with | .lst ds => (asgGs ts ds e).bind fun e' => some (.nx e') | _ => none := by
  unfold sUnpL; rfl
@[simp] theorem evI_v : evI (.val m) env = (m env).bind fun (c, e) => match c with | .sh (.int n) => some (n, e) | _ => none := by
  unfold evI
  show (match m env with | some (.sh (.int n), e) => some (n, e) | _ => none) = _
  cases m env with
  | none => rfl
  | some x => obtain ⟨c, e⟩ := x; cases c with
    | sh d => cases d <;> rfl
    | _ => rfl
@[simp] theorem evI_s : evI (.slot i) env = (getC env i).bind fun c => match c with | .sh (.int n) => some (n, env) | _ => none := by
  unfold evI getC
  show (match env[i]? with | some (some (.sh (.int n))) => some (n, env) | _ => none) = _
  cases env[i]? with
  | none => rfl
  | some x => cases x with
    | none => rfl
    | some c => cases c with
      | sh d => cases d <;> rfl
      | _ => rfl
@[simp] theorem evP_no : evP .no env = some (none, env) := rfl
@[simp] theorem evP_at : evP (.at_ o) env = (evI o env).bind fun (n, e) => some (some n, e) := by unfold evP; rfl
@[simp] theorem ev_Sl {lo hi : Part} : eSl o lo hi env = (preO [o] env).bind fun (cs, e1) => (evP lo e1).bind fun (i, e2) => (evP hi e2).bind fun (j, e3) => (finO e3 [o] cs).bind fun ds => match ds with
  | [d] => (fSl d i j).bind fun c => some (c, e3)
  | _ => none := rfl
@[simp] theorem i_V : iV m env = (m env).bind fun (c, e) => c.fz.seq.bind fun ds => some (ds, e) := rfl
@[simp] theorem seq_lst {ds : List D} : (D.lst ds).seq = some ds := rfl
@[simp] theorem seq_tup {ds : List D} : (D.tup ds).seq = some ds := rfl
@[simp] theorem zseq_lst {ds : List D} : (D.lst ds).zseq = some ds := rfl
@[simp] theorem zseq_tup {ds : List D} : (D.tup ds).zseq = some ds := rfl
@[simp] theorem zseq_str {x : Str} : (D.str x).zseq = some (x.cps.toList.map fun c => .str ⟨#[c]⟩) := rfl
@[simp] theorem i_R1 : iR1 o env = (evO [o] env).bind fun (ds, e) => match ds with
  | [.int n] => if okR n then some (rng 0 n, e) else none
  | _ => none := rfl
@[simp] theorem i_R2 : iR2 o o' env = (evO [o, o'] env).bind fun (ds, e) => match ds with
  | [.int a, .int b] => if okR a && okR b then some (rng a b, e) else none
  | _ => none := rfl
@[simp] theorem ev_LZip {ms : List Arg} : eLZip ms env = (evA ms env).bind fun (ds, e) => match ds with
  | [a, b] => a.zseq.bind fun xs => b.zseq.bind fun ys => if min xs.length ys.length ≤ lim then some (.ol (zipD xs ys), e) else none
  | _ => none := rfl
@[simp] theorem ev_Isi {bs : List String} : eIsi bs o env = (evO [o] env).bind fun (ds, e) => match ds with
  | [d] => if d.noScr then some (.sh (.bl (d.isT bs)), e) else none
  | _ => none := by unfold eIsi; rfl
@[simp] theorem s_Aug {g : Int → Int → Int} : sAug i g m env = (getC env i).bind fun c => match c with
  | .sh (.int a) => (m env).bind fun (c, e) => match c with
    | .sh (.int b) => if i < e.length then some (.nx (e.set i (some (.sh (.int (g a b)))))) else none
    | _ => none
  | _ => none := by
  unfold sAug getC
  cases h : env[i]? with
  | none => rfl
  | some x => cases x with
    | none => rfl
    | some c => cases c with
      | sh d => cases d with
        | int a =>
          show (match m env with | some (.sh (.int b), e) => _ | _ => none) = (m env).bind _
          cases m env with
          | none => rfl
          | some y => obtain ⟨c, e⟩ := y; cases c with
            | sh d => cases d <;> rfl
            | _ => rfl
        | _ => rfl
      | _ => rfl
@[simp] theorem s_AugIx {g : Int → Int → Int} : sAugIx i o g m env = (getC env i).bind fun c => match c with
  | .ol _ => (evI o env).bind fun (n, e) => (getC e i).bind fun c => match c with
    | .ol ds => (atI ds n).bind fun a => match a with
      | .int a => (m e).bind fun (c, e2) => match c with
        | .sh (.int b) => (getC e2 i).bind fun c => match c with
          | .ol ds2 => (ixN ds2.length n).bind fun j => some (.nx (e2.set i (some (.ol (ds2.set j (.int (g a b)))))))
          | _ => none
        | _ => none
      | _ => none
    | _ => none
  | _ => none := by
  unfold sAugIx
  cases h : env[i]? with
  | none => unfold getC; rw [h]; rfl
  | some x => cases x with
    | none => unfold getC; rw [h]; rfl
    | some c =>
      rw [getC_some.mpr h]
      cases c with
      | ol l0 =>
        show ((evI o env).bind _) = ((evI o env).bind _)
        congr 1
        funext ⟨n, e⟩
        show (match e[i]? with | some (some (.ol ds)) => _ | _ => none) = (getC e i).bind _
        cases h2 : e[i]? with
        | none => unfold getC; rw [h2]; rfl
        | some x => cases x with
          | none => unfold getC; rw [h2]; rfl
          | some c =>
            rw [getC_some.mpr h2]
            cases c with
            | ol ds =>
              show (match atI ds n, m e with | some (.int a), some (.sh (.int b), e2) => _ | _, _ => none) = (atI ds n).bind _
              cases atI ds n with
              | none => rfl
              | some a => cases a with
                | int a =>
                  show _ = (m e).bind _
                  cases m e with
                  | none => rfl
                  | some y =>
                    obtain ⟨c, e2⟩ := y
                    cases c with
                    | sh d => cases d with
                      | int b =>
                        show (match e2[i]? with | some (some (.ol ds2)) => _ | _ => none) = (getC e2 i).bind _
                        cases h3 : e2[i]? with
                        | none => unfold getC; rw [h3]; rfl
                        | some x => cases x with
                          | none => unfold getC; rw [h3]; rfl
                          | some c => rw [getC_some.mpr h3]; cases c <;> rfl
                      | _ => rfl
                    | _ => rfl
                | _ => rfl
            | _ => rfl
      | _ => rfl
/-! comprehensions, for -/
theorem forN_nil {t : Tgt} {b : SM} : forN t b [] env = some (.nx env) := rfl
theorem forN_cons {t : Tgt} {b : SM} {ds : List D} : forN t b (d :: ds) env = (asgT t d env).bind fun e => (b e).bind fun o => match o with
    | .nx e => forN t b ds e
    | .ct e => forN t b ds e
    | .bk e => some (.nx e)
    | .rt c e => some (.rt c e) := rfl
/-- a loop with an invariant -/
theorem forN_inv {t : Tgt} {b : SM} (I : Env → Prop) : ∀ {ds : List D} {env : Env}, I env → (∀ d ∈ ds, ∀ env, I env → ∃ e e', asgT t d env = some e ∧ b e = some (.nx e') ∧ I e') → ∃ e, forN t b ds env = some (.nx e) ∧ I e
  | [], env, h, _ => ⟨env, rfl, h⟩
  | d :: ds, env, h, k => by
    obtain ⟨e, e', h1, h2, h3⟩ := k d (by simp) env h
    obtain ⟨e2, h4, h5⟩ := forN_inv I (ds := ds) h3 fun x m => k x (by simp [m])
    exact ⟨e2, by rw [forN_cons, h1]; simp only [Option.bind_some, h2]; exact h4, h5⟩
end
end Fx
set_option Elab.async false
set_option linter.all false
set_option maxRecDepth 100000
set_option maxHeartbeats 4000000
noncomputable section
namespace Fx
open PySem L2

/-! ## the operations, by what they are given -/
section
variable {i j : Int} {x y : Str} {ds es : List D} {d e : D} {a b : Bool}
@[simp] theorem fIx_l : fIx [.lst ds, .int i] = (atI ds i).bind fun d => some (.sh d) := rfl
@[simp] theorem fIx_t : fIx [.tup ds, .int i] = (atI ds i).bind fun d => some (.sh d) := rfl
@[simp] theorem fAdd_i : fAdd [.int i, .int j] = some (.sh (.int (i + j))) := rfl
@[simp] theorem fAdd_t : fAdd [.tup ds, .tup es] = if ds.length + es.length ≤ lim then some (.sh (.tup (ds ++ es))) else none := rfl
@[simp] theorem fAdd_l : fAdd [.lst ds, .lst es] = if ds.length + es.length ≤ lim then some (.ol (ds ++ es)) else none := rfl
@[simp] theorem fMul_i : fMul [.int i, .int j] = if sm i || sm j then some (.sh (.int (i * j))) else none := rfl
@[simp] theorem fII_i {g : Int → Int → Option D} : fII g [.int i, .int j] = (g i j).bind fun d => some (.sh d) := rfl
@[simp] theorem gSub_i : gSub i j = some (.int (i - j)) := rfl
@[simp] theorem gDiv_i : gDiv i j = if 0 < j ∧ j < 1073741824 then some (.int (i / j)) else none := rfl
@[simp] theorem gMod_i : gMod i j = if 0 < j then some (.int (i % j)) else none := rfl
@[simp] theorem gLt_i : gLt i j = some (.bl (decide (i < j))) := rfl
@[simp] theorem gLe_i : gLe i j = some (.bl (decide (i ≤ j))) := rfl
@[simp] theorem gGt_i : gGt i j = some (.bl (decide (j < i))) := rfl
@[simp] theorem gGe_i : gGe i j = some (.bl (decide (j ≤ i))) := rfl
@[simp] theorem gPow_i : gPow i j = if 0 ≤ j ∧ j ≤ 1000000 ∧ sm i then some (.int (i ^ j.toNat)) else none := rfl
@[simp] theorem fEq_i : fEq [.int i, .int j] = some (.sh (.bl (decide (i = j)))) := rfl
@[simp] theorem fNe_i : fNe [.int i, .int j] = some (.sh (.bl (!decide (i = j)))) := rfl
@[simp] theorem fEq_s (hx : (D.str x).okq = true) (hy : (D.str y).okq = true) : fEq [.str x, .str y] = some (.sh (.bl (x == y))) := if_pos (by unfold D.cmpable; rw [hx, hy]; rfl)
@[simp] theorem fNe_s (hx : (D.str x).okq = true) (hy : (D.str y).okq = true) : fNe [.str x, .str y] = some (.sh (.bl (!(x == y)))) := if_pos (by unfold D.cmpable; rw [hx, hy]; rfl)
@[simp] theorem fEq_b : fEq [.bl a, .bl b] = some (.sh (.bl (a == b))) := rfl
@[simp] theorem fNe_b : fNe [.bl a, .bl b] = some (.sh (.bl (!(a == b)))) := rfl
@[simp] theorem fInt_i : fInt [.int i] = some (.sh (.int i)) := rfl
@[simp] theorem fInt_b : fInt [.bl a] = some (.sh (.int (if a then 1 else 0))) := rfl
@[simp] theorem fNeg_i : fNeg [.int i] = some (.sh (.int (-i))) := rfl
@[simp] theorem fAbs_i : fAbs [.int i] = some (.sh (.int (if i < 0 then -i else i))) := rfl
@[simp] theorem fLen_t : fLen [.tup ds] = some (.sh (.int ds.length)) := rfl
@[simp] theorem fLen_l : fLen [.lst ds] = some (.sh (.int ds.length)) := rfl
@[simp] theorem fList_t : fList [.tup ds] = some (.ol ds) := rfl
@[simp] theorem fList_l : fList [.lst ds] = some (.ol ds) := rfl
@[simp] theorem fTuple_t : fTuple [.tup ds] = some (.sh (.tup ds)) := rfl
@[simp] theorem fTuple_l : fTuple [.lst ds] = some (.sh (.tup ds)) := rfl
@[simp] theorem fAppend_l : fAppend ds [d] = if ds.length < lim then some (.sh .non, ds ++ [d]) else none := rfl
@[simp] theorem fExtend_l : fExtend ds [.lst es] = if ds.length + es.length ≤ lim then some (.sh .non, ds ++ es) else none := rfl
@[simp] theorem fSl_l {lo hi : Option Int} : fSl (.lst ds) lo hi = some (.ol (cutD ds lo hi)) := rfl
@[simp] theorem fSl_t {lo hi : Option Int} : fSl (.tup ds) lo hi = some (.sh (.tup (cutD ds lo hi))) := rfl
@[simp] theorem fSl_s {ns : List Int} {lo hi : Option Int} : fSl (.scr ns) lo hi = some (.ol (cutD (ns.map D.int) lo hi)) := rfl
@[simp] theorem putC_l : putC (.ol ds) (.int i) d = (ixN ds.length i).bind fun j => some (.ol (ds.set j d)) := rfl
@[simp] theorem fIn_v : fIn [d, e] = (fInB d e).bind fun b => some (.sh (.bl b)) := rfl
@[simp] theorem fEq_v (h : d.cmpable e = true) : fEq [d, e] = some (.sh (.bl (D.eqv d e))) := if_pos h
@[simp] theorem fNe_v (h : d.cmpable e = true) : fNe [d, e] = some (.sh (.bl (!D.eqv d e))) := if_pos h
theorem l1 (n : Nat) (h : n ≤ 1000000) : n ≤ lim := Nat.le_trans h (by rw [lim_val]; omega)
@[simp] theorem sm_emod {x k : Int} (h : 0 < k) (h2 : k ≤ 9223372036854775808) : sm (x % k) = true := by
  have a := Int.emod_nonneg x (by omega : k ≠ 0)
  have b := Int.emod_lt_of_pos x h
  exact sm_iff.mpr ⟨by omega, by omega⟩
@[simp] theorem sm_of {x : Int} (h : -18446744073709551616 < x) (h2 : x < 18446744073709551616) : sm x = true := sm_iff.mpr ⟨h, h2⟩
@[simp] theorem okR_of {n : Int} (h : -4611686018427387904 ≤ n) (h2 : n < 4611686018427387904) : okR n = true := okR_iff.mpr ⟨h, h2⟩
theorem atI_z {α : Type} {x : α} {r : List α} : atI (x :: r) 0 = some x := by simp [atI, ixN]
theorem atI_nat {α : Type} {l : List α} {n : Nat} : atI l (n : Int) = l[n]? := by
  unfold atI ixN
  by_cases h : n < l.length
  · simp [h]
  · simp [h]
end

/-! ## comprehensions -/
def cStep (vs : List Nat) (t : Tgt) (c : TM) (m : EM) (d : D) (env : Env) : Option (Option D × Env) := (asgT t d env).bind fun e1 => (c e1).bind fun (b, e2) => if b then (m e2).bind fun (x, e3) => if calmE e3 vs then some (some x.fz, wipeE e3 vs) else none
  else if calmE e2 vs then some (none, wipeE e2 vs) else none
section
variable {vs : List Nat} {t : Tgt} {c : TM} {m : EM} {ds : List D} {d : D} {env : Env}
theorem compN_nil : compN vs t c m [] env = some ([], env) := rfl
theorem compN_cons : compN vs t c m (d :: ds) env = (cStep vs t c m d env).bind fun (o, e) => (compN vs t c m ds e).bind fun (rs, e') => some (o.toList ++ rs, e') := by
  unfold cStep
  rw [compN]
  cases asgT t d env with
  | none => rfl
  | some e1 =>
    simp only [Option.bind_some]
    cases c e1 with
    | none => rfl
    | some y =>
      obtain ⟨b, e2⟩ := y
      simp only [Option.bind_some]
      cases b with
      | false =>
        simp only [Bool.false_eq_true, if_false]
        by_cases h : calmE e2 vs = true
        · simp only [h, if_true, Option.bind_some]
          cases compN vs t c m ds (wipeE e2 vs) <;> rfl
        · simp only [h, if_false]; rfl
      | true =>
        simp only [if_true]
        cases m e2 with
        | none => rfl
        | some y =>
          obtain ⟨x, e3⟩ := y
          simp only [Option.bind_some]
          by_cases h : calmE e3 vs = true
          · simp only [h, if_true, Option.bind_some]; rfl
          · simp only [h, if_false]; rfl
theorem compN_pure {g : D → Option D} : ∀ {ds : List D} {env : Env}, (∀ d ∈ ds, cStep vs t c m d env = some (g d, env)) → compN vs t c m ds env = some (ds.filterMap g, env)
  | [], _, _ => rfl
  | d :: ds, env, h => by
    rw [compN_cons, h d (by simp)]
    simp only [Option.bind_some]
    rw [compN_pure fun x hx => h x (by simp [hx])]
    simp only [Option.bind_some]
    cases q : g d with
    | none => rw [List.filterMap_cons_none q]; rfl
    | some y => rw [List.filterMap_cons_some q]; rfl
theorem compN_inv (I : Env → Prop) (R : D → D → Prop) : ∀ {ds : List D} {env : Env}, I env → (∀ d ∈ ds, ∀ e, I e → ∃ x e', cStep vs t c m d e = some (some x, e') ∧ I e' ∧ R d x) →
    ∃ rs e', compN vs t c m ds env = some (rs, e') ∧ I e' ∧ rs.length = ds.length ∧ ∀ r ∈ rs, ∃ d ∈ ds, R d r
  | [], env, h, _ => ⟨[], env, rfl, h, rfl, fun _ m => by cases m⟩
  | d :: ds, env, h, k => by
    obtain ⟨x, e1, h1, h2, h3⟩ := k d (by simp) env h
    obtain ⟨rs, e2, h4, h5, h6, h7⟩ := compN_inv I R (ds := ds) h2 fun y hy => k y (by simp [hy])
    refine ⟨x :: rs, e2, ?_, h5, by simp [h6], fun r hr => ?_⟩
    · rw [compN_cons, h1]
      simp only [Option.bind_some, h4]
      rfl
    · rcases List.mem_cons.mp hr with z | z
      · subst z; exact ⟨d, by simp, h3⟩
      · obtain ⟨d', m1, m2⟩ := h7 r z; exact ⟨d', by simp [m1], m2⟩
@[simp] theorem ev_Comp {i : IM} : eComp vs t i c m env = (i env).bind fun (ds, e1) => if calmE e1 vs then (compN vs t c m ds (wipeE e1 vs)).bind fun (rs, e2) => if rs.length ≤ lim then some (.ol rs, restE e1 vs e2) else none else none := rfl
@[simp] theorem calmE_nil : calmE env [] = true := rfl
@[simp] theorem calmE_cons {v : Nat} : calmE env (v :: vs) = (calm1 env[v]? && calmE env vs) := rfl
@[simp] theorem calm1_n : calm1 (some none) = true := rfl
@[simp] theorem calm1_s : calm1 (some (some (.sh d))) = true := rfl
@[simp] theorem wipeE_nil : wipeE env [] = env := rfl
@[simp] theorem wipeE_cons {v : Nat} : wipeE env (v :: vs) = (wipeE env vs).set v none := rfl
@[simp] theorem restE_nil {e : Env} : restE env [] e = e := rfl
@[simp] theorem restE_cons {v : Nat} {e : Env} : restE env (v :: vs) e = match env[v]? with | some c => restE env vs (e.set v c) | none => restE env vs e := rfl
end
section
variable {env : Env} {ms : List Arg} {m : EM}
@[simp] theorem ev_Tab {tab : List (Str × D)} {o : Opd} : eTab tab o env = (evO [o] env).bind fun (ds, e) => match ds with
  | [.str z] => (tab.lookup z).bind fun d => some (.sh d, e)
  | _ => none := rfl
@[simp] theorem i_Zip : iZip ms env = (evA ms env).bind fun (ds, e) => match ds with
  | [a, b] => a.zseq.bind fun xs => b.zseq.bind fun ys => some (zipD xs ys, e)
  | _ => none := rfl
@[simp] theorem i_Enum : iEnumM m env = (m env).bind fun (c, e) => c.fz.zseq.bind fun xs => some (enumD xs, e) := rfl
theorem zipD_nil {ys : List D} : zipD [] ys = [] := rfl
theorem zipD_cons {x y : D} {xs ys : List D} : zipD (x :: xs) (y :: ys) = .tup [x, y] :: zipD xs ys := rfl
end
end Fx
namespace Fx
open PySem L2
section
variable {α : Type} {vs : List Nat} {t : Tgt} {c : TM} {m : EM} {env : Env}
theorem compN_map {f g : α → D} : ∀ {l : List α}, (∀ a ∈ l, cStep vs t c m (f a) env = some (some (g a), env)) → compN vs t c m (l.map f) env = some (l.map g, env)
  | [], _ => rfl
  | a :: l, h => by
    rw [List.map_cons, compN_cons, h a (by simp)]
    simp only [Option.bind_some]
    rw [compN_map fun x hx => h x (by simp [hx])]
    rfl
theorem compN_fil {f g : α → D} {b : α → Bool} : ∀ {l : List α}, (∀ a ∈ l, cStep vs t c m (f a) env = some (if b a then some (g a) else none, env)) → compN vs t c m (l.map f) env = some ((l.filter b).map g, env)
  | [], _ => rfl
  | a :: l, h => by
    rw [List.map_cons, compN_cons, h a (by simp)]
    simp only [Option.bind_some]
    rw [compN_fil fun x hx => h x (by simp [hx])]
    simp only [Option.bind_some]
    cases q : b a with
    | false => rw [List.filter_cons_of_neg (by simp [q])]; rfl
    | true => rw [List.filter_cons_of_pos q]; rfl
theorem seq_nx {a b : SM} {e : Env} (h : a env = some (.nx e)) : sSeq a b env = b e := by rw [s_Seq, h]; rfl
end
end Fx
set_option Elab.async false
set_option linter.all false
set_option maxRecDepth 100000
set_option maxHeartbeats 4000000
noncomputable section
namespace Fx.L
open PySem L2 Fx

noncomputable def b_u_law_bag : SM :=
  (sRet (eLst [.one (eC (.int 0)), .one (eC (.int 1234567891)), .one (eC (.int 0)), .one (eComp [1] (.one 1) (iV (eSl (.slot 0) .no (.at_ (.val (eC (.int 63)))))) kYes (eO fAbs [(.slot 1)]))]))
noncomputable def F_u_law_bag : List D → Option C := fnP 1 2 b_u_law_bag
noncomputable def b_u_law_take : SM :=
  (sSeq (sIf (kVal (eO fEq [(.val (eO fIx [(.slot 0), (.val (eC (.int 0)))])), (.val (eC (.int 0)))])) (sSeq (sSet 2 (eO fIx [(.val (eO fAdd [(.val (eSl (.val (eO fIx [(.slot 0), (.val (eC (.int 3)))])) (.at_ (.val (eO fIx [(.slot 0), (.val (eC (.int 2)))]))) .no)), (.val (eLst [.one (eC (.int 0))]))])), (.val (eC (.int 0)))]))
    (sSeq (sAugIx 0 (.val (eC (.int 2))) (fun i j => i + j) (eC (.int 1)))
    (sSeq (sIf (kVal (eO (fII gGe) [(.slot 2), (.val (eO (fII gPow) [(.val (eC (.int 10))), (.val (eC (.int 18)))]))])) (sPut (.sb 0 (.val (eC (.int 0)))) (eSlot 2)) sNx)
    (sSeq (sSet 3 (eO fAdd [(.val (eO fAdd [(.val (eO fMul [(.val (eO fIx [(.slot 0), (.val (eC (.int 1)))])), (.val (eC (.int 48271)))])), (.val (eO (fII gMod) [(.val (eO fInt [(.slot 2)])), (.val (eC (.int 2147483647)))]))])), (.val (eO fMul [(.val (eC (.int 7919))), (.val (eO fIx [(.slot 0), (.val (eC (.int 2)))]))]))]))
    (sPut (.sb 0 (.val (eC (.int 1)))) (eO (fII gMod) [(.val (eO fInt [(.slot 3)])), (.val (eC (.int 2147483647)))])))))) sNx)
    (sSeq (sIf (kVal (eO (fII gGt) [(.val (eO fIx [(.slot 0), (.val (eC (.int 0)))])), (.val (eC (.int 0)))])) (sSeq (sSet 4 (eO (fII gMod) [(.val (eO fInt [(.val (eO fIx [(.slot 0), (.val (eC (.int 0)))]))])), (.slot 1)]))
    (sSeq (sPut (.sb 0 (.val (eC (.int 0)))) (eO (fII gDiv) [(.val (eO fInt [(.val (eO fIx [(.slot 0), (.val (eC (.int 0)))]))])), (.slot 1)]))
    (sRet (eMove 4)))) sNx)
    (sSeq (sSet 5 (eO (fII gMod) [(.val (eO fInt [(.val (eO fMul [(.val (eO fAdd [(.val (eO fIx [(.slot 0), (.val (eC (.int 1)))])), (.val (eC (.int 1)))])), (.val (eC (.int 39373)))]))])), (.val (eC (.int 1000000007)))]))
    (sSeq (sSet 6 (eO (fII gMod) [(.val (eO fInt [(.val (eO fMul [(.val (eO (fII gMod) [(.val (eO fInt [(.val (eO fMul [(.slot 5), (.slot 5)]))])), (.val (eC (.int 998244353)))])), (.val (eC (.int 30011)))]))])), (.val (eC (.int 998244353)))]))
    (sRet (eO (fII gMod) [(.val (eO fInt [(.val (eO (fII gDiv) [(.slot 6), (.val (eC (.int 7)))]))])), (.slot 1)]))))))
noncomputable def F_u_law_take : C → List D → Option (C × C) := fnB 2 7 b_u_law_take
noncomputable def b_u_law_some : SM :=
  (sRet (eO fIx [(.slot 1), (.val (eCallB F_u_law_take 0 [.one (eO fLen [(.slot 1)])]))]))
noncomputable def F_u_law_some : C → List D → Option (C × C) := fnB 2 2 b_u_law_some
noncomputable def b_u_law_alike : SM :=
  (sSeq (sPar2c 2 3 (eLst [.one (eTup [.one (eSlot 0), .one (eSlot 1)])]) (eC (.int 0)))
    (sSeq (sWhile (kVal (eO (fII gLt) [(.slot 3), (.val (eO fLen [(.slot 2)]))])) (sSeq (sUnp [(.nm 4), (.nm 5)] (eO fIx [(.slot 2), (.slot 3)]))
    (sSeq (sAug 3 (fun i j => i + j) (eC (.int 1)))
    (sSeq (sIf (kOr (kVal (eO fNe [(.val (eIsi ["bool"] (.slot 4))), (.val (eIsi ["bool"] (.slot 5)))])) (kVal (eO fNe [(.val (eIsi ["str"] (.slot 4))), (.val (eIsi ["str"] (.slot 5)))]))) (sRet (eC (.bl false))) sNx)
    (sSeq (sIf (kVal (eO fNe [(.val (eIsi ["tuple", "list"] (.slot 4))), (.val (eIsi ["tuple", "list"] (.slot 5)))])) (sRet (eC (.bl false))) sNx)
    (sIf (kVal (eIsi ["tuple", "list"] (.slot 4))) (sSeq (sIf (kOr (kVal (eO fNe [(.val (eIsi ["tuple"] (.slot 4))), (.val (eIsi ["tuple"] (.slot 5)))])) (kVal (eO fNe [(.val (eO fLen [(.slot 4)])), (.val (eO fLen [(.slot 5)]))]))) (sRet (eC (.bl false))) sNx)
    (sDrop (eMethL fExtend 2 [.one (eLZip [.one (eSlot 4), .one (eSlot 5)])]))) (sIf (kVal (eO fNe [(.slot 4), (.slot 5)])) (sRet (eC (.bl false))) sNx)))))))
    (sRet (eC (.bl true)))))
noncomputable def F_u_law_alike : List D → Option C := fnP 2 6 b_u_law_alike

/-- a bag as it stands -/
structure BagOk (c : C) : Prop where
  ex : ∃ (a b n : Int) (cells : List Int), c = .ol [.int a, .int b, .int n, .lst (cells.map D.int)] ∧ 0 ≤ a ∧ 0 ≤ b ∧ cells.length ≤ 63 ∧ ∀ x ∈ cells, 0 ≤ x
theorem cut_head {cells : List Int} {n : Int} (hc : ∀ x ∈ cells, 0 ≤ x) : ∃ cell rest, cutD (cells.map D.int) (some n) none ++ [.int 0] = .int cell :: rest ∧ 0 ≤ cell ∧ (cutD (cells.map D.int) (some n) none).length ≤ cells.length := by
  have hl : (cutD (cells.map D.int) (some n) none).length ≤ cells.length := by unfold cutD; simp only [List.length_take, List.length_drop, List.length_map]; omega
  cases q : cutD (cells.map D.int) (some n) none with
  | nil => exact ⟨0, [], rfl, Int.le_refl _, by simp⟩
  | cons x r =>
    have hx : x ∈ cells.map D.int := by
      have : x ∈ cutD (cells.map D.int) (some n) none := by rw [q]; simp
      unfold cutD at this
      exact List.mem_of_mem_drop (List.mem_of_mem_take this)
    obtain ⟨y, hy, rfl⟩ := List.mem_map.mp hx
    exact ⟨y, r ++ [.int 0], rfl, hc y hy, by rw [← q]; exact hl⟩
theorem take_ok {c : C} (h : BagOk c) {m : Int} (h1 : 1 ≤ m) (h2 : m < 1073741824) : ∃ v c', F_u_law_take c [.int m] = some (.sh (.int v), c') ∧ 0 ≤ v ∧ v < m ∧ BagOk c' := by
  obtain ⟨a, b, n, cells, rfl, ha, hb, hl, hc⟩ := h.ex
  obtain ⟨cell, rest, e1, e2, e3⟩ := cut_head (n := n) hc
  have hlen : (cutD (cells.map D.int) (some n) none).length + 1 ≤ 16777216 := by omega
  have m0 : 0 < m := by omega
  have hbag : ∀ a b n : Int, 0 ≤ a → 0 ≤ b → BagOk (.ol [.int a, .int b, .int n, .lst (cells.map D.int)]) := fun a b n ha hb => ⟨⟨a, b, n, cells, rfl, ha, hb, hl, hc⟩⟩
  have s1 : sm 48271 = true := sm_of (by decide) (by decide)
  have s2 : sm 7919 = true := sm_of (by decide) (by decide)
  have s3 : sm 39373 = true := sm_of (by decide) (by decide)
  have s4 : sm 30011 = true := sm_of (by decide) (by decide)
  have s5 : sm 10 = true := sm_of (by decide) (by decide)
  unfold F_u_law_take fnB b_u_law_take
  simp [startE, atI, ixN, lim_val, hlen, e1, s1, s2, s3, s4, s5]
  by_cases h0 : a = 0
  · subst h0
    by_cases h10 : 1000000000000000000 ≤ cell
    · simp [h10, m0, h2, get0, atI, ixN, s1, s2, s3, s4, s5]
      have hp : 0 < cell := by omega
      simp [hp, m0, h2, get0, atI, ixN, s1, s2, s3, s4, s5]
      refine ⟨_, _, ⟨rfl, rfl⟩, Int.emod_nonneg _ (by omega), Int.emod_lt_of_pos _ m0, hbag _ _ _ (Int.ediv_nonneg e2 (by omega)) (Int.emod_nonneg _ (by omega))⟩
    · simp [h10, m0, h2, get0, atI, ixN, s1, s2, s3, s4, s5]
      refine ⟨_, _, ⟨rfl, rfl⟩, Int.emod_nonneg _ (by omega), Int.emod_lt_of_pos _ m0, hbag _ _ _ (Int.le_refl _) (Int.emod_nonneg _ (by omega))⟩
  · have hp : 0 < a := by omega
    simp [h0, hp, m0, h2, get0, atI, ixN, s1, s2, s3, s4, s5]
    refine ⟨_, _, ⟨rfl, rfl⟩, Int.emod_nonneg _ (by omega), Int.emod_lt_of_pos _ m0, hbag _ _ _ (Int.ediv_nonneg ha (by omega)) hb⟩
theorem some_l {c : C} (h : BagOk c) {ds : List D} (hne : ds ≠ []) (hl : ds.length < 1073741824) : ∃ d ∈ ds, ∃ c', F_u_law_some c [.lst ds] = some (.sh d, c') ∧ BagOk c' := by
  have hp : 0 < ds.length := List.length_pos_iff.mpr hne
  obtain ⟨v, c', e, h1, h2, h3⟩ := take_ok h (m := ds.length) (by omega) (by omega)
  obtain ⟨n, rfl⟩ : ∃ n : Nat, v = n := ⟨v.toNat, by omega⟩
  have hn : n < ds.length := by omega
  refine ⟨ds[n], by simp, c', ?_, h3⟩
  unfold F_u_law_some fnB b_u_law_some
  simp [startE, e, atI_nat, hn, get0]
theorem some_t {c : C} (h : BagOk c) {ds : List D} (hne : ds ≠ []) (hl : ds.length < 1073741824) : ∃ d ∈ ds, ∃ c', F_u_law_some c [.tup ds] = some (.sh d, c') ∧ BagOk c' := by
  have hp : 0 < ds.length := List.length_pos_iff.mpr hne
  obtain ⟨v, c', e, h1, h2, h3⟩ := take_ok h (m := ds.length) (by omega) (by omega)
  obtain ⟨n, rfl⟩ : ∃ n : Nat, v = n := ⟨v.toNat, by omega⟩
  have hn : n < ds.length := by omega
  refine ⟨ds[n], by simp, c', ?_, h3⟩
  unfold F_u_law_some fnB b_u_law_some
  simp [startE, e, atI_nat, hn, get0]
theorem bag_ok (ns : List Int) : ∃ c, F_u_law_bag [.scr ns] = some c ∧ BagOk c := by
  let g : D → Option D := fun d => match d with | .int i => some (.int (if i < 0 then -i else i)) | _ => none
  have hc : ∀ e : Env, ∀ d ∈ cutD (ns.map D.int) none (some 63), cStep [1] (.one 1) kYes (eO fAbs [(.slot 1)]) d [some (.sh (.scr ns)), none] = some (g d, [some (.sh (.scr ns)), none]) := by
    intro _ d hd
    unfold cutD at hd
    obtain ⟨i, _, rfl⟩ := List.mem_map.mp (List.mem_of_mem_drop (List.mem_of_mem_take hd))
    simp [cStep, g]
  have hl : (cutD (ns.map D.int) none (some 63)).length ≤ 63 := by
    unfold cutD
    have : HT.sIx (ns.map D.int).length (ns.map D.int).length (some 63) ≤ 63 := by unfold HT.sIx; simp; omega
    simp only [List.length_take, List.length_drop]
    omega
  have hg : ∃ cells : List Int, (cutD (ns.map D.int) none (some 63)).filterMap g = cells.map D.int ∧ cells.length ≤ 63 ∧ ∀ x ∈ cells, 0 ≤ x := by
    have key : ∀ l : List Int, ∃ cells : List Int, (l.map D.int).filterMap g = cells.map D.int ∧ cells.length = l.length ∧ ∀ x ∈ cells, 0 ≤ x := by
      intro l
      induction l with
      | nil => exact ⟨[], rfl, rfl, fun x m => by cases m⟩
      | cons y r ih =>
        obtain ⟨cells, h1, h2, h3⟩ := ih
        refine ⟨(if y < 0 then -y else y) :: cells, ?_, by simp [h2], fun x m => ?_⟩
        · show D.int (if y < 0 then -y else y) :: (r.map D.int).filterMap g = _; rw [h1]; rfl
        · rcases List.mem_cons.mp m with e | m
          · subst e; split <;> omega
          · exact h3 x m
    have hm : cutD (ns.map D.int) none (some 63) = ((ns.drop (HT.sIx (ns.map D.int).length 0 none)).take (HT.sIx (ns.map D.int).length (ns.map D.int).length (some 63) - HT.sIx (ns.map D.int).length 0 none)).map D.int := by
      unfold cutD; rw [List.map_take, List.map_drop]
    obtain ⟨cells, h1, h2, h3⟩ := key ((ns.drop (HT.sIx (ns.map D.int).length 0 none)).take (HT.sIx (ns.map D.int).length (ns.map D.int).length (some 63) - HT.sIx (ns.map D.int).length 0 none))
    rw [← hm] at h1
    refine ⟨cells, h1, ?_, h3⟩
    rw [h2]
    have := congrArg List.length hm
    rw [List.length_map] at this
    omega
  obtain ⟨cells, h1, h2, h3⟩ := hg
  have hlc : cells.length ≤ 16777216 := by omega
  refine ⟨.ol [.int 0, .int 1234567891, .int 0, .lst (cells.map D.int)], ?_, ⟨⟨0, 1234567891, 0, cells, rfl, by decide, by decide, h2, h3⟩⟩⟩
  unfold F_u_law_bag fnP b_u_law_bag
  simp [startE, compN_pure (hc []), h1, hlc, lim_val]

/-! ## what is alike -/
mutual
def cnt : D → Nat
  | .tup ds => cnts ds + 1
  | .lst ds => cnts ds + 1
  | _ => 1
def cnts : List D → Nat
  | [] => 0
  | d :: ds => cnt d + cnts ds
end
mutual
def smp : D → Bool
  | .tup ds | .lst ds => smps ds
  | d => d.okq
def smps : List D → Bool
  | [] => true
  | d :: ds => smp d && smps ds
end
theorem cnt_pos (d : D) : 1 ≤ cnt d := by cases d <;> simp [cnt]
def dbl (d : D) : D := .tup [d, d]
theorem len_cnts : ∀ ds : List D, ds.length ≤ cnts ds
  | [] => Nat.le_refl _
  | d :: ds => by have := cnt_pos d; have := len_cnts ds; simp [cnts]; omega
theorem zip_self : ∀ ds : List D, zipD ds ds = ds.map dbl
  | [] => rfl
  | d :: ds => by have := zip_self ds; unfold zipD at *; simp [dbl] at *; exact this
def seqD : D → List D
  | .tup ds => ds | .lst ds => ds | _ => []
def wt (q : List D) : Nat := cnts q
theorem cnts_app : ∀ a b : List D, cnts (a ++ b) = cnts a + cnts b
  | [], b => by simp [cnts]
  | d :: a, b => by simp [cnts, cnts_app a b]; omega
theorem smps_app : ∀ a b : List D, smps (a ++ b) = (smps a && smps b)
  | [], b => by simp [smps]
  | d :: a, b => by simp [smps, smps_app a b, Bool.and_assoc]
theorem drop_cons {L : List D} {x : D} {r : List D} {n : Nat} (h : L.drop n = x :: r) : L[n]? = some x ∧ L.drop (n + 1) = r ∧ n < L.length := by
  have hn : n < L.length := by
    by_cases q : n < L.length
    · exact q
    · rw [List.drop_eq_nil_of_le (by omega)] at h; cases h
  rw [List.drop_eq_getElem_cons hn] at h
  obtain ⟨h1, h2⟩ := List.cons.inj h
  exact ⟨by rw [List.getElem?_eq_getElem hn, h1], h2, hn⟩
theorem eqv_self : ∀ d : D, d.okq = true → (∀ ds, d ≠ .tup ds ∧ d ≠ .lst ds) → D.eqv d d = true
  | .non, _, _ => rfl
  | .bl b, _, _ => by simp [D.eqv]
  | .int i, _, _ => by simp [D.eqv]
  | .str x, _, _ => by simp [D.eqv]
  | .tup ds, _, h => absurd rfl (h ds).1
  | .lst ds, _, h => absurd rfl (h ds).2
  | .dk _, h, _ => by cases h
  | .dt _, h, _ => by cases h
  | .scr _, h, _ => by cases h
abbrev tA : TM := kVal (eO (fII gLt) [(.slot 3), (.val (eO fLen [(.slot 2)]))])
theorem alike_ok {d : D} (hs : smp d = true) (hc : cnt d ≤ 1000000) : F_u_law_alike [d, d] = some (.sh (.bl true)) := by
  unfold F_u_law_alike fnP b_u_law_alike
  generalize hB : (sSeq (sUnp [(.nm 4), (.nm 5)] (eO fIx [(.slot 2), (.slot 3)])) _ : SM) = B
  have hl : (1 : Nat) ≤ lim := by rw [lim_val]; omega
  -- one turn
  have turn : ∀ (L : List D) (n : Nat) (x : D) (r : List D) (s4 s5 : Option C), L.drop n = (x :: r).map dbl → smp x = true → L.length + cnt x ≤ 2000000 →
      ∃ s4' s5', B [some (.sh d), some (.sh d), some (.ol L), some (.sh (.int (n : Int))), s4, s5] = some (.nx [some (.sh d), some (.sh d), some (.ol (L ++ (seqD x).map dbl)), some (.sh (.int ((n + 1 : Nat) : Int))), s4', s5']) := by
    intro L n x r s4 s5 hd hx hlen
    obtain ⟨g1, g2, g3⟩ := drop_cons hd
    have hix : atI L (n : Int) = some (dbl x) := by rw [atI_nat]; exact g1
    rw [← hB]
    have hn : x.noScr = true := by cases x <;> first | rfl | (simp [smp, D.okq] at hx)
    refine ⟨some (.sh x), some (.sh x), ?_⟩
    cases x with
    | tup ds =>
      have hl2 : ds.length ≤ lim := by have := len_cnts ds; simp [cnt] at hlen; rw [lim_val]; omega
      have hl3 : L.length + ds.length ≤ lim := by have := len_cnts ds; simp [cnt] at hlen; rw [lim_val]; omega
      simp [hix, dbl, D.noScr, D.isT, D.ty, subT, zip_self, seqD, hl2, hl3]
    | lst ds =>
      have hl2 : ds.length ≤ lim := by have := len_cnts ds; simp [cnt] at hlen; rw [lim_val]; omega
      have hl3 : L.length + ds.length ≤ lim := by have := len_cnts ds; simp [cnt] at hlen; rw [lim_val]; omega
      simp [hix, dbl, D.noScr, D.isT, D.ty, subT, zip_self, seqD, hl2, hl3]
    | non => simp [hix, dbl, D.noScr, D.isT, D.ty, subT, seqD, fNe, D.cmpable, D.okq, D.dep, D.eqv]
    | bl b => simp [hix, dbl, D.noScr, D.isT, D.ty, subT, seqD]
    | int i => simp [hix, dbl, D.noScr, D.isT, D.ty, subT, seqD]
    | str y =>
      have hy : (D.str y).okq = true := hx
      simp [hix, dbl, D.noScr, D.isT, D.ty, subT, seqD, hy]
    | _ => simp [smp, D.okq] at hx
  have wx : ∀ x : D, cnt x = cnts (seqD x) + 1 := fun x => by cases x <;> simp [cnt, cnts, seqD]
  have sx : ∀ x : D, smp x = true → smps (seqD x) = true := fun x h => by cases x <;> first | exact h | rfl
  have loop : ∀ (w : Nat) (L : List D) (n : Nat) (rest : List D) (s4 s5 : Option C), L.drop n = rest.map dbl → smps rest = true → cnts rest = w → L.length + w ≤ 1000000 + rest.length →
      ∃ e, whileN (w + 1) tA B [some (.sh d), some (.sh d), some (.ol L), some (.sh (.int (n : Int))), s4, s5] = some (.nx e) := by
    intro w
    induction w with
    | zero =>
      intro L n rest s4 s5 hd hs hw hb
      cases rest with
      | cons x r => have := cnt_pos x; simp [cnts] at hw; omega
      | nil =>
        have hn : ¬ n < L.length := fun q => by
          have := congrArg List.length hd
          simp at this; omega
        refine ⟨[some (.sh d), some (.sh d), some (.ol L), some (.sh (.int (n : Int))), s4, s5], ?_⟩
        unfold whileN
        simp [hn]
    | succ w ih =>
      intro L n rest s4 s5 hd hs hw hb
      cases rest with
      | nil => simp [cnts] at hw
      | cons x r =>
        simp only [smps, Bool.and_eq_true] at hs
        have hw2 : cnts (seqD x) + 1 + cnts r = w + 1 := by rw [← wx]; simpa [cnts] using hw
        have hr := len_cnts r
        obtain ⟨g1, g2, g3⟩ := drop_cons hd
        have hbx : L.length + cnt x ≤ 2000000 := by rw [wx]; simp at hb; omega
        obtain ⟨s4', s5', ht⟩ := turn L n x r s4 s5 hd hs.1 hbx
        obtain ⟨e, he⟩ := ih (L ++ (seqD x).map dbl) (n + 1) (r ++ seqD x) s4' s5' (by rw [List.drop_append_of_le_length (by omega), g2]; simp) (by rw [smps_app, hs.2, sx x hs.1]; rfl) (by rw [cnts_app]; omega) (by simp; simp at hb; omega)
        refine ⟨e, ?_⟩
        rw [whileN]
        have h1 : tA [some (.sh d), some (.sh d), some (.ol L), some (.sh (.int (n : Int))), s4, s5] = some (true, [some (.sh d), some (.sh d), some (.ol L), some (.sh (.int (n : Int))), s4, s5]) := by simp [g3]
        rw [h1]
        simp only [Option.bind_some, if_true, ht]
        exact he
  obtain ⟨e, he⟩ := loop (cnt d) [dbl d] 0 [d] none none (by simp) (by simp [smps, hs]) (by simp [cnts]) (by simp; omega)
  have he' := sWhile_of he
  have he2 : sWhile tA B [some (.sh d), some (.sh d), some (.ol [.tup [d, d]]), some (.sh (.int 0)), none, none] = some (.nx e) := he'
  have hl2 : (2 : Nat) ≤ lim := by rw [lim_val]; omega
  simp [startE, hl, hl2, he2]
end Fx.L
set_option Elab.async false
set_option linter.all false
set_option maxRecDepth 100000
set_option maxHeartbeats 4000000
namespace K07
open PySem L2 Fx

def top (i : Nat) : Stmt := PySem.Challenge.pw_nolooking_k07_words_of_expressions_for_r.main.body.getD i (.Pass ⟨0, 0, 0, 0⟩)
abbrev d_u_law_bag : Stmt := top 19
def N_u_law_bag : List Str := ["script", "cell"]
theorem sc_u_law_bag : FnScope N_u_law_bag ["script"] (defScope d_u_law_bag) := ⟨rfl, rfl, rfl, by decide +kernel, rfl, by decide +kernel, by decide +kernel⟩
def sq_u_law_bag_1 : Scope := nSc (nArg 3 (nV (nSt 0 (defBody d_u_law_bag))))
abbrev d_u_law_take : Stmt := top 20
def N_u_law_take : List Str := ["bag", "many", "cell", "stirred", "value", "begin", "second"]
theorem sc_u_law_take : FnScope N_u_law_take ["bag", "many"] (defScope d_u_law_take) := ⟨rfl, rfl, rfl, by decide +kernel, rfl, by decide +kernel, by decide +kernel⟩
abbrev d_u_law_some : Stmt := top 21
def N_u_law_some : List Str := ["bag", "things"]
theorem sc_u_law_some : FnScope N_u_law_some ["bag", "things"] (defScope d_u_law_some) := ⟨rfl, rfl, rfl, by decide +kernel, rfl, by decide +kernel, by decide +kernel⟩
abbrev d_u_law_expression : Stmt := top 23
def N_u_law_expression : List Str := ["bag", "p", "width", "depth", "way", "part", "word"]
theorem sc_u_law_expression : FnScope N_u_law_expression ["bag", "p", "width", "depth"] (defScope d_u_law_expression) := ⟨rfl, rfl, rfl, by decide +kernel, rfl, by decide +kernel, by decide +kernel⟩
def sq_u_law_expression_1 : Scope := nSc (nArg 0 (nB (nV (nSt 0 (nBody (nSt 2 (defBody d_u_law_expression)))))))
abbrev d_u_law_value : Stmt := top 24
def N_u_law_value : List Str := ["p", "e", "row", "some", "part", "word"]
theorem sc_u_law_value : FnScope N_u_law_value ["p", "e", "row"] (defScope d_u_law_value) := ⟨rfl, rfl, rfl, by decide +kernel, rfl, by decide +kernel, by decide +kernel⟩
def sq_u_law_value_1 : Scope := nSc (nV (nSt 2 (defBody d_u_law_value)))
abbrev d_joined : Stmt := top 5
def N_joined : List Str := ["p", "word", "parts", "one", "other"]
theorem sc_joined : FnScope N_joined ["p", "word", "parts"] (defScope d_joined) := ⟨rfl, rfl, rfl, by decide +kernel, rfl, by decide +kernel, by decide +kernel⟩
abbrev d_parts_of : Stmt := top 3
def N_parts_of : List Str := ["e", "kind", "part"]
theorem sc_parts_of : FnScope N_parts_of ["e"] (defScope d_parts_of) := ⟨rfl, rfl, rfl, by decide +kernel, rfl, by decide +kernel, by decide +kernel⟩
def sq_parts_of_1 : Scope := nSc (nV (nSt 0 (defBody d_parts_of)))
abbrev d_value_of : Stmt := top 7
def N_value_of : List Str := ["p", "e", "row", "part"]
theorem sc_value_of : FnScope N_value_of ["p", "e", "row"] (defScope d_value_of) := ⟨rfl, rfl, rfl, by decide +kernel, rfl, by decide +kernel, by decide +kernel⟩
def sq_value_of_1 : Scope := nSc (nArg 2 (nV (nSt 2 (defBody d_value_of))))
abbrev d_is_kept : Stmt := top 8
def N_is_kept : List Str := ["p", "e", "row"]
theorem sc_is_kept : FnScope N_is_kept ["p", "e", "row"] (defScope d_is_kept) := ⟨rfl, rfl, rfl, by decide +kernel, rfl, by decide +kernel, by decide +kernel⟩
abbrev d_row_of : Stmt := top 9
def N_row_of : List Str := ["p", "es", "row", "e"]
theorem sc_row_of : FnScope N_row_of ["p", "es", "row"] (defScope d_row_of) := ⟨rfl, rfl, rfl, by decide +kernel, rfl, by decide +kernel, by decide +kernel⟩
def sq_row_of_1 : Scope := nSc (nArg 0 (nV (nSt 0 (defBody d_row_of))))
abbrev d_u_law_alike : Stmt := top 22
def N_u_law_alike : List Str := ["found", "due", "pairs", "at", "one", "other"]
theorem sc_u_law_alike : FnScope N_u_law_alike ["found", "due"] (defScope d_u_law_alike) := ⟨rfl, rfl, rfl, by decide +kernel, rfl, by decide +kernel, by decide +kernel⟩
abbrev d_ordered : Stmt := top 16
def N_ordered : List Str := ["table", "columns", "some", "one", "at", "row"]
theorem sc_ordered : FnScope N_ordered ["table", "columns"] (defScope d_ordered) := ⟨rfl, rfl, rfl, by decide +kernel, rfl, by decide +kernel, by decide +kernel⟩
def sq_ordered_1 : Scope := nSc (nArg 0 (nV (nSt 0 (defBody d_ordered))))
def sq_ordered_2 : Scope := nSc (nA (nArg 0 (nElt (nArg 0 (nV (nSt 0 (defBody d_ordered)))))))
def sq_ordered_3 : Scope := nSc (nArg 0 (nV (nSt 1 (defBody d_ordered))))
abbrev d_made_table : Stmt := top 17
def N_made_table : List Str := ["p", "step", "tables", "word", "table", "row", "at"]
theorem sc_made_table : FnScope N_made_table ["p", "step", "tables"] (defScope d_made_table) := ⟨rfl, rfl, rfl, by decide +kernel, rfl, by decide +kernel, by decide +kernel⟩
def sq_made_table_1 : Scope := nSc (nArg 0 (nV (nSt 0 (nBody (nSt 1 (defBody d_made_table))))))
def sq_made_table_2 : Scope := nSc (nArg 0 (nV (nSt 0 (nBody (nSt 2 (defBody d_made_table))))))
abbrev d_law : Stmt := top 25
def N_law : List Str := ["script", "bag", "turn", "p", "width", "es", "part", "rows", "again", "column", "row", "due", "e", "found", "word", "table", "kept", "mapped", "told", "marks", "at"]
theorem sc_law : FnScope N_law ["script"] (defScope d_law) := ⟨rfl, rfl, rfl, by decide +kernel, rfl, by decide +kernel, by decide +kernel⟩
def sq_law_1 : Scope := nSc (nArg 0 (nV (nSt 1 (nBody (nSt 1 (defBody d_law))))))
def sq_law_2 : Scope := nSc (nArg 0 (nArg 0 (nV (nSt 0 (nBody (nSt 3 (nBody (nSt 1 (defBody d_law)))))))))
def sq_law_3 : Scope := nSc (nArg 0 (nV (nSt 0 (nBody (nSt 4 (nBody (nSt 1 (defBody d_law))))))))
def sq_law_4 : Scope := nSc (nArg 2 (nV (nSt 1 (nBody (nSt 4 (nBody (nSt 1 (defBody d_law))))))))
def sq_law_5 : Scope := nSc (nArg 0 (nArg 1 (nV (nSt 1 (nBody (nSt 4 (nBody (nSt 1 (defBody d_law)))))))))
def sq_law_6 : Scope := nSc (nArg 2 (nArg 1 (nA (nV (nSt 2 (nBody (nSt 4 (nBody (nSt 1 (defBody d_law))))))))))
def sq_law_7 : Scope := nSc (nArg 0 (nV (nSt 6 (nBody (nSt 1 (defBody d_law))))))
def sq_law_8 : Scope := nSc (nArg 0 (nV (nSt 7 (nBody (nSt 1 (defBody d_law))))))
def sq_law_9 : Scope := nSc (nArg 0 (nElt (nArg 0 (nV (nSt 7 (nBody (nSt 1 (defBody d_law))))))))
def sq_law_10 : Scope := nSc (nArg 0 (nIter 0 (nArg 0 (nV (nSt 10 (nBody (nSt 1 (defBody d_law))))))))
def sq_law_11 : Scope := nSc (nArg 0 (nIter 0 (nArg 0 (nV (nSt 10 (nBody (nSt 1 (defBody d_law))))))))
def sq_law_12 : Scope := nSc (nArg 0 (nV (nSt 10 (nBody (nSt 1 (defBody d_law))))))
def sq_law_13 : Scope := nSc (nArg 0 (nArg 1 (nA (nV (nSt 11 (nBody (nSt 1 (defBody d_law))))))))
/-! ## what is computed -/
def tab_FORMS : List (Str × D) := [("col", .str "n"), ("num", .str "n"), ("add", .str "ee"), ("sub", .str "ee"), ("mul", .str "ee"), ("less", .str "ee"), ("same", .str "ee"), ("if", .str "eee")]
noncomputable def b_u_law_bag : SM :=
  (sRet (eLst [.one (eC (.int 0)), .one (eC (.int 1234567891)), .one (eC (.int 0)), .one (eComp [1] (.one 1) (iV (eSl (.slot 0) .no (.at_ (.val (eC (.int 63)))))) kYes (eO fAbs [(.slot 1)]))]))
noncomputable def F_u_law_bag : List D → Option C := fnP 1 2 b_u_law_bag
noncomputable def b_u_law_take : SM :=
  (sSeq (sIf (kVal (eO fEq [(.val (eO fIx [(.slot 0), (.val (eC (.int 0)))])), (.val (eC (.int 0)))])) (sSeq (sSet 2 (eO fIx [(.val (eO fAdd [(.val (eSl (.val (eO fIx [(.slot 0), (.val (eC (.int 3)))])) (.at_ (.val (eO fIx [(.slot 0), (.val (eC (.int 2)))]))) .no)), (.val (eLst [.one (eC (.int 0))]))])), (.val (eC (.int 0)))]))
    (sSeq (sAugIx 0 (.val (eC (.int 2))) (fun i j => i + j) (eC (.int 1)))
    (sSeq (sIf (kVal (eO (fII gGe) [(.slot 2), (.val (eO (fII gPow) [(.val (eC (.int 10))), (.val (eC (.int 18)))]))])) (sPut (.sb 0 (.val (eC (.int 0)))) (eSlot 2)) sNx)
    (sSeq (sSet 3 (eO fAdd [(.val (eO fAdd [(.val (eO fMul [(.val (eO fIx [(.slot 0), (.val (eC (.int 1)))])), (.val (eC (.int 48271)))])), (.val (eO (fII gMod) [(.val (eO fInt [(.slot 2)])), (.val (eC (.int 2147483647)))]))])), (.val (eO fMul [(.val (eC (.int 7919))), (.val (eO fIx [(.slot 0), (.val (eC (.int 2)))]))]))]))
    (sPut (.sb 0 (.val (eC (.int 1)))) (eO (fII gMod) [(.val (eO fInt [(.slot 3)])), (.val (eC (.int 2147483647)))])))))) sNx)
    (sSeq (sIf (kVal (eO (fII gGt) [(.val (eO fIx [(.slot 0), (.val (eC (.int 0)))])), (.val (eC (.int 0)))])) (sSeq (sSet 4 (eO (fII gMod) [(.val (eO fInt [(.val (eO fIx [(.slot 0), (.val (eC (.int 0)))]))])), (.slot 1)]))
    (sSeq (sPut (.sb 0 (.val (eC (.int 0)))) (eO (fII gDiv) [(.val (eO fInt [(.val (eO fIx [(.slot 0), (.val (eC (.int 0)))]))])), (.slot 1)]))
    (sRet (eMove 4)))) sNx)
    (sSeq (sSet 5 (eO (fII gMod) [(.val (eO fInt [(.val (eO fMul [(.val (eO fAdd [(.val (eO fIx [(.slot 0), (.val (eC (.int 1)))])), (.val (eC (.int 1)))])), (.val (eC (.int 39373)))]))])), (.val (eC (.int 1000000007)))]))
    (sSeq (sSet 6 (eO (fII gMod) [(.val (eO fInt [(.val (eO fMul [(.val (eO (fII gMod) [(.val (eO fInt [(.val (eO fMul [(.slot 5), (.slot 5)]))])), (.val (eC (.int 998244353)))])), (.val (eC (.int 30011)))]))])), (.val (eC (.int 998244353)))]))
    (sRet (eO (fII gMod) [(.val (eO fInt [(.val (eO (fII gDiv) [(.slot 6), (.val (eC (.int 7)))]))])), (.slot 1)]))))))
noncomputable def F_u_law_take : C → List D → Option (C × C) := fnB 2 7 b_u_law_take
noncomputable def b_u_law_some : SM :=
  (sRet (eO fIx [(.slot 1), (.val (eCallB F_u_law_take 0 [.one (eO fLen [(.slot 1)])]))]))
noncomputable def F_u_law_some : C → List D → Option (C × C) := fnB 2 2 b_u_law_some
noncomputable def b_u_law_expression (Fs : C → List D → Option (C × C)) : SM :=
  (sSeq (sSet 4 (eCallB F_u_law_take 0 [.one (eC (.int 8))]))
    (sSeq (sIf (kOr (kVal (eO fEq [(.slot 3), (.val (eC (.int 0)))])) (kVal (eO (fII gLt) [(.slot 4), (.val (eC (.int 2)))]))) (sRet (eIf (kVal (eO (fII gGt) [(.val (eCallB F_u_law_take 0 [.one (eC (.int 3))])), (.val (eC (.int 0)))])) (eTup [.one (eC (.str "col")), .one (eCallB F_u_law_take 0 [.one (eSlot 2)])]) (eTup [.one (eC (.str "num")), .one (eCallB F_u_law_take 0 [.one (eSlot 1)])]))) sNx)
    (sSeq (sIf (kVal (eO fEq [(.slot 4), (.val (eC (.int 7)))])) (sRet (eO fAdd [(.val (eTup [.one (eC (.str "if"))])), (.val (eO fTuple [(.val (eComp [5] (.one 5) (iR1 (.val (eC (.int 3)))) kYes (eCallB Fs 0 [.one (eSlot 1), .one (eSlot 2), .one (eO (fII gSub) [(.slot 3), (.val (eC (.int 1)))])])))]))])) sNx)
    (sSeq (sSet 6 (eCallB F_u_law_some 0 [.one (eLst [.one (eC (.str "add")), .one (eC (.str "sub")), .one (eC (.str "mul")), .one (eC (.str "less")), .one (eC (.str "same"))])]))
    (sRet (eTup [.one (eSlot 6), .one (eCallB Fs 0 [.one (eSlot 1), .one (eSlot 2), .one (eO (fII gSub) [(.slot 3), (.val (eC (.int 1)))])]), .one (eCallB Fs 0 [.one (eSlot 1), .one (eSlot 2), .one (eO (fII gSub) [(.slot 3), (.val (eC (.int 1)))])])]))))))
noncomputable def F_u_law_expression : Nat → C → List D → Option (C × C)
  | 0 => fun _ _ => none
  | j + 1 => fnB 4 7 (b_u_law_expression (F_u_law_expression j))
noncomputable def b_u_law_value (Fs : List D → Option C) : SM :=
  (sSeq (sIf (kVal (eO fEq [(.val (eO fIx [(.slot 1), (.val (eC (.int 0)))])), (.val (eC (.str "col")))])) (sRet (eO fIx [(.slot 2), (.val (eO fIx [(.slot 1), (.val (eC (.int 1)))]))])) sNx)
    (sSeq (sIf (kVal (eO fEq [(.val (eO fIx [(.slot 1), (.val (eC (.int 0)))])), (.val (eC (.str "num")))])) (sRet (eO fIx [(.slot 1), (.val (eC (.int 1)))])) sNx)
    (sSeq (sSet 3 (eComp [4] (.one 4) (iV (eSl (.slot 1) (.at_ (.val (eC (.int 1)))) .no)) kYes (eCall Fs [.one (eSlot 0), .one (eSlot 4), .one (eSlot 2)])))
    (sSeq (sIf (kVal (eO fEq [(.val (eO fIx [(.slot 1), (.val (eC (.int 0)))])), (.val (eC (.str "if")))])) (sRet (eIf (kVal (eO fNe [(.val (eO fIx [(.slot 3), (.val (eC (.int 0)))])), (.val (eC (.int 0)))])) (eO fIx [(.slot 3), (.val (eC (.int 1)))]) (eO fIx [(.slot 3), (.val (eC (.int 2)))]))) sNx)
    (sSeq (sIf (kVal (eO fIn [(.val (eO fIx [(.slot 1), (.val (eC (.int 0)))])), (.val (eTup [.one (eC (.str "less")), .one (eC (.str "same"))]))])) (sRet (eIf (kVal (eO fEq [(.val (eO fIx [(.slot 1), (.val (eC (.int 0)))])), (.val (eC (.str "less")))])) (eO fInt [(.val (eO (fII gLt) [(.val (eO fIx [(.slot 3), (.val (eC (.int 0)))])), (.val (eO fIx [(.slot 3), (.val (eC (.int 1)))]))]))]) (eO fInt [(.val (eO fEq [(.val (eO fIx [(.slot 3), (.val (eC (.int 0)))])), (.val (eO fIx [(.slot 3), (.val (eC (.int 1)))]))]))]))) sNx)
    (sSeq (sSet 5 (eIf (kVal (eO fEq [(.val (eO fIx [(.slot 1), (.val (eC (.int 0)))])), (.val (eC (.str "add")))])) (eO fAdd [(.val (eO fIx [(.slot 3), (.val (eC (.int 0)))])), (.val (eO fIx [(.slot 3), (.val (eC (.int 1)))]))]) (eIf (kVal (eO fEq [(.val (eO fIx [(.slot 1), (.val (eC (.int 0)))])), (.val (eC (.str "sub")))])) (eO (fII gSub) [(.val (eO fIx [(.slot 3), (.val (eC (.int 0)))])), (.val (eO fIx [(.slot 3), (.val (eC (.int 1)))]))]) (eO fMul [(.val (eO fIx [(.slot 3), (.val (eC (.int 0)))])), (.val (eO fIx [(.slot 3), (.val (eC (.int 1)))]))]))))
    (sRet (eO (fII gMod) [(.val (eO fInt [(.slot 5)])), (.slot 0)]))))))))
noncomputable def F_u_law_value : Nat → List D → Option C
  | 0 => fun _ => none
  | j + 1 => fnP 3 6 (b_u_law_value (F_u_law_value j))
noncomputable def b_joined : SM :=
  (sSeq (sIf (kVal (eO fEq [(.slot 1), (.val (eC (.str "if")))])) (sRet (eIf (kVal (eO fNe [(.val (eO fIx [(.slot 2), (.val (eC (.int 0)))])), (.val (eC (.int 0)))])) (eO fIx [(.slot 2), (.val (eC (.int 1)))]) (eO fIx [(.slot 2), (.val (eC (.int 2)))]))) sNx)
    (sSeq (sUnpL [(.nm 3), (.nm 4)] (eSlot 2))
    (sSeq (sIf (kVal (eO fEq [(.slot 1), (.val (eC (.str "add")))])) (sRet (eO (fII gMod) [(.val (eO fAdd [(.slot 3), (.slot 4)])), (.slot 0)])) sNx)
    (sSeq (sIf (kVal (eO fEq [(.slot 1), (.val (eC (.str "sub")))])) (sRet (eO (fII gMod) [(.val (eO (fII gSub) [(.slot 3), (.slot 4)])), (.slot 0)])) sNx)
    (sSeq (sIf (kVal (eO fEq [(.slot 1), (.val (eC (.str "mul")))])) (sRet (eO (fII gMod) [(.val (eO fMul [(.slot 3), (.slot 4)])), (.slot 0)])) sNx)
    (sRet (eIf (kVal (eO fEq [(.slot 1), (.val (eC (.str "less")))])) (eO fInt [(.val (eO (fII gLt) [(.slot 3), (.slot 4)]))]) (eO fInt [(.val (eO fEq [(.slot 3), (.slot 4)]))]))))))))
noncomputable def F_joined : List D → Option C := fnP 3 5 b_joined
noncomputable def b_parts_of : SM :=
  (sRet (eComp [1, 2] (.tup [1, 2]) (iZip [.one (eTab tab_FORMS (.val (eO fIx [(.slot 0), (.val (eC (.int 0)))]))), .one (eSl (.slot 0) (.at_ (.val (eC (.int 1)))) .no)]) (kVal (eO fEq [(.slot 1), (.val (eC (.str "e")))])) (eSlot 2)))
noncomputable def F_parts_of : List D → Option C := fnP 1 3 b_parts_of
noncomputable def b_value_of (Fs : List D → Option C) : SM :=
  (sSeq (sIf (kVal (eO fEq [(.val (eO fIx [(.slot 1), (.val (eC (.int 0)))])), (.val (eC (.str "col")))])) (sRet (eO fIx [(.slot 2), (.val (eO fIx [(.slot 1), (.val (eC (.int 1)))]))])) sNx)
    (sSeq (sIf (kVal (eO fEq [(.val (eO fIx [(.slot 1), (.val (eC (.int 0)))])), (.val (eC (.str "num")))])) (sRet (eO fIx [(.slot 1), (.val (eC (.int 1)))])) sNx)
    (sRet (eCall F_joined [.one (eSlot 0), .one (eO fIx [(.slot 1), (.val (eC (.int 0)))]), .one (eComp [3] (.one 3) (iV (eCall F_parts_of [.one (eSlot 1)])) kYes (eCall Fs [.one (eSlot 0), .one (eSlot 3), .one (eSlot 2)]))]))))
noncomputable def F_value_of : Nat → List D → Option C
  | 0 => fun _ => none
  | j + 1 => fnP 3 4 (b_value_of (F_value_of j))
noncomputable def b_is_kept : SM :=
  (sRet (eO fNe [(.val (eCall (F_value_of 5) [.one (eSlot 0), .one (eSlot 1), .one (eSlot 2)])), (.val (eC (.int 0)))]))
noncomputable def F_is_kept : List D → Option C := fnP 3 3 b_is_kept
noncomputable def b_row_of : SM :=
  (sRet (eO fTuple [(.val (eComp [3] (.one 3) (iV (eSlot 1)) kYes (eCall (F_value_of 5) [.one (eSlot 0), .one (eSlot 3), .one (eSlot 2)])))]))
noncomputable def F_row_of : List D → Option C := fnP 3 4 b_row_of
noncomputable def l1_u_law_alike : SM :=
  (sSeq (sUnp [(.nm 4), (.nm 5)] (eO fIx [(.slot 2), (.slot 3)]))
    (sSeq (sAug 3 (fun i j => i + j) (eC (.int 1)))
    (sSeq (sIf (kOr (kVal (eO fNe [(.val (eIsi ["bool"] (.slot 4))), (.val (eIsi ["bool"] (.slot 5)))])) (kVal (eO fNe [(.val (eIsi ["str"] (.slot 4))), (.val (eIsi ["str"] (.slot 5)))]))) (sRet (eC (.bl false))) sNx)
    (sSeq (sIf (kVal (eO fNe [(.val (eIsi ["tuple", "list"] (.slot 4))), (.val (eIsi ["tuple", "list"] (.slot 5)))])) (sRet (eC (.bl false))) sNx)
    (sIf (kVal (eIsi ["tuple", "list"] (.slot 4))) (sSeq (sIf (kOr (kVal (eO fNe [(.val (eIsi ["tuple"] (.slot 4))), (.val (eIsi ["tuple"] (.slot 5)))])) (kVal (eO fNe [(.val (eO fLen [(.slot 4)])), (.val (eO fLen [(.slot 5)]))]))) (sRet (eC (.bl false))) sNx)
    (sDrop (eMethL fExtend 2 [.one (eLZip [.one (eSlot 4), .one (eSlot 5)])]))) (sIf (kVal (eO fNe [(.slot 4), (.slot 5)])) (sRet (eC (.bl false))) sNx))))))
noncomputable def b_u_law_alike : SM :=
  (sSeq (sPar2c 2 3 (eLst [.one (eTup [.one (eSlot 0), .one (eSlot 1)])]) (eC (.int 0)))
    (sSeq (sWhile (kVal (eO (fII gLt) [(.slot 3), (.val (eO fLen [(.slot 2)]))])) l1_u_law_alike)
    (sRet (eC (.bl true)))))
noncomputable def F_u_law_alike : List D → Option C := fnP 2 6 b_u_law_alike
noncomputable def b_ordered : SM :=
  (sSeq (sSet 2 (eO fSorted [(.val (eComp [4, 5] (.tup [4, 5]) (iEnumM (eSlot 0)) kYes (eTup [.star (eComp [3] (.one 3) (iV (eSlot 1)) kYes (eO fIx [(.slot 5), (.slot 3)])), .one (eSlot 4)])))]))
    (sRet (eO fTuple [(.val (eComp [3] (.one 3) (iV (eSlot 2)) kYes (eO fIx [(.slot 0), (.val (eO fIx [(.slot 3), (.val (eO fNeg [(.val (eC (.int 1)))]))]))])))])))
noncomputable def F_ordered : List D → Option C := fnP 2 6 b_ordered
noncomputable def b_made_table : SM :=
  (sSeq (sPar [3, 4] [.one (eO fIx [(.slot 1), (.val (eC (.int 0)))]), .one (eO fIx [(.slot 2), (.val (eC (.int 0)))])])
    (sSeq (sIf (kVal (eO fEq [(.slot 3), (.val (eC (.str "keep")))])) (sRet (eO fTuple [(.val (eComp [5] (.one 5) (iV (eSlot 4)) (kVal (eCall F_is_kept [.one (eSlot 0), .one (eO fIx [(.slot 1), (.val (eC (.int 2)))]), .one (eSlot 5)])) (eSlot 5)))])) sNx)
    (sSeq (sIf (kVal (eO fEq [(.slot 3), (.val (eC (.str "map")))])) (sRet (eO fTuple [(.val (eComp [5] (.one 5) (iV (eSlot 4)) kYes (eCall F_row_of [.one (eSlot 0), .one (eO fIx [(.slot 1), (.val (eC (.int 2)))]), .one (eSlot 5)])))])) sNx)
    (sSeq (sIf (kVal (eO fEq [(.slot 3), (.val (eC (.str "order")))])) (sRet (eCall F_ordered [.one (eSlot 4), .one (eO fIx [(.slot 1), (.val (eC (.int 2)))])])) sNx)
    (sSeq sNo
    (sSeq sNo
    (sSeq sNo
    (sSeq sNo
    (sSeq sNo
    (sSeq sNo
    (sSeq sNo
    (sSeq sNo
    sNo))))))))))))
noncomputable def F_made_table : List D → Option C := fnP 3 7 b_made_table
noncomputable def l1_law : SM :=
  (sDrop (eMethL fAppend 7 [.one (eO fTuple [(.val (eComp [9] (.one 9) (iR1 (.slot 4)) kYes (eCallB F_u_law_some 1 [.one (eLst [.one (eC (.int 0)), .one (eC (.int 1)), .one (eC (.int 2)), .one (eO (fII gSub) [(.slot 3), (.val (eC (.int 1)))]), .one (eCallB F_u_law_take 1 [.one (eSlot 3)])])])))])]))
noncomputable def l2_law : SM :=
  (sSeq (sSet 11 (eO fTuple [(.val (eComp [12] (.one 12) (iV (eSlot 5)) kYes (eCall (F_u_law_value 5) [.one (eSlot 3), .one (eSlot 12), .one (eSlot 10)])))]))
    (sSeq (sSet 13 (eLst [.one (eCall F_row_of [.one (eSlot 3), .one (eSlot 5), .one (eSlot 10)]), .one (eO fTuple [(.val (eComp [12] (.one 12) (iV (eSlot 5)) kYes (eCall (F_value_of 5) [.one (eSlot 3), .one (eSlot 12), .one (eSlot 10)])))]), .one (eComp [12] (.one 12) (iV (eSlot 5)) kYes (eCall F_is_kept [.one (eSlot 3), .one (eSlot 12), .one (eSlot 10)]))]))
    (sIf (kNot (kVal (eCall F_u_law_alike [.one (eSlot 13), .one (eLst [.one (eSlot 11), .one (eSlot 11), .one (eComp [14] (.one 14) (iV (eSlot 11)) kYes (eO fNe [(.slot 14), (.val (eC (.int 0)))]))])]))) (sRet (eC (.bl false))) sNx)))
noncomputable def l3_law : SM :=
  (sSeq (sUnp [(.nm 3), (.nm 4)] (eTup [.one (eCallB F_u_law_some 1 [.one (eLst [.one (eC (.int 5)), .one (eC (.int 7)), .one (eC (.int 101)), .one (eC (.int 10007))])]), .one (eO fAdd [(.val (eC (.int 1))), (.val (eCallB F_u_law_take 1 [.one (eC (.int 4))]))])]))
    (sSeq (sSet 5 (eO fTuple [(.val (eComp [6] (.one 6) (iR1 (.val (eO fAdd [(.val (eC (.int 1))), (.val (eCallB F_u_law_take 1 [.one (eC (.int 3))]))]))) kYes (eCallB (F_u_law_expression 5) 1 [.one (eSlot 3), .one (eSlot 4), .one (eC (.int 3))])))]))
    (sSeq (sSet 7 (eLst []))
    (sSeq (sFor (.one 8) (iR1 (.val (eC (.int 6)))) l1_law)
    (sSeq (sFor (.one 10) (iV (eSlot 7)) l2_law)
    (sSeq (sSet 15 (eO fTuple [(.slot 7)]))
    (sSeq (sSet 16 (eO fTuple [(.val (eComp [10] (.one 10) (iV (eSlot 7)) (kVal (eO fNe [(.val (eCall (F_u_law_value 5) [.one (eSlot 3), .one (eO fIx [(.slot 5), (.val (eC (.int 0)))]), .one (eSlot 10)])), (.val (eC (.int 0)))])) (eSlot 10)))]))
    (sSeq (sSet 17 (eO fTuple [(.val (eComp [10] (.one 10) (iV (eSlot 7)) kYes (eO fTuple [(.val (eComp [12] (.one 12) (iV (eSlot 5)) kYes (eCall (F_u_law_value 5) [.one (eSlot 3), .one (eSlot 12), .one (eSlot 10)])))])))]))
    (sSeq (sSet 18 (eLst [.one (eCall F_made_table [.one (eSlot 3), .one (eTup [.one (eC (.str "keep")), .one (eC (.str "a")), .one (eO fIx [(.slot 5), (.val (eC (.int 0)))])]), .one (eTup [.one (eSlot 15)])]), .one (eCall F_made_table [.one (eSlot 3), .one (eTup [.one (eC (.str "map")), .one (eC (.str "a")), .one (eSlot 5)]), .one (eTup [.one (eSlot 15)])])]))
    (sSeq (sIf (kNot (kVal (eCall F_u_law_alike [.one (eSlot 18), .one (eLst [.one (eSlot 16), .one (eSlot 17)])]))) (sRet (eC (.bl false))) sNx)
    (sSeq (sSet 19 (eO fSorted [(.val (eComp [20, 14] (.tup [20, 14]) (iEnumM (eComp [10] (.one 10) (iV (eSlot 17)) kYes (eO fIx [(.slot 10), (.val (eC (.int 0)))]))) kYes (eTup [.one (eSlot 14), .one (eSlot 20)])))]))
    (sSeq (sIf (kNot (kVal (eCall F_u_law_alike [.one (eCall F_made_table [.one (eSlot 3), .one (eTup [.one (eC (.str "order")), .one (eC (.str "a")), .one (eTup [.one (eC (.int 0))])]), .one (eTup [.one (eSlot 17)])]), .one (eO fTuple [(.val (eComp [14, 20] (.tup [14, 20]) (iV (eSlot 19)) kYes (eO fIx [(.slot 17), (.slot 20)])))])]))) (sRet (eC (.bl false))) sNx)
    (sIf (kVal (eO fNe [(.val (eCall F_made_table [.one (eSlot 3), .one (eTup [.one (eC (.str "keep")), .one (eC (.str "a")), .one (eTup [.one (eC (.str "same")), .one (eO fIx [(.slot 5), (.val (eC (.int 0)))]), .one (eO fIx [(.slot 5), (.val (eC (.int 0)))])])]), .one (eTup [.one (eSlot 15)])])), (.slot 15)])) (sRet (eC (.bl false))) sNx)))))))))))))
noncomputable def b_law : SM :=
  (sSeq (sSet 1 (eCall F_u_law_bag [.one (eSlot 0)]))
    (sSeq (sFor (.one 2) (iR1 (.val (eC (.int 6)))) l3_law)
    (sRet (eC (.bl true)))))
noncomputable def F_law : List D → Option C := fnP 1 21 b_law
/-! ## what the top has written -/
structure Ad where
  a_u_law_bag : Addr
  f_u_law_bag : FuncData
  a_u_law_take : Addr
  f_u_law_take : FuncData
  a_u_law_some : Addr
  f_u_law_some : FuncData
  a_u_law_expression : Addr
  f_u_law_expression : FuncData
  a_u_law_value : Addr
  f_u_law_value : FuncData
  a_joined : Addr
  f_joined : FuncData
  a_parts_of : Addr
  f_parts_of : FuncData
  a_value_of : Addr
  f_value_of : FuncData
  a_is_kept : Addr
  f_is_kept : FuncData
  a_row_of : Addr
  f_row_of : FuncData
  a_u_law_alike : Addr
  f_u_law_alike : FuncData
  a_ordered : Addr
  f_ordered : FuncData
  a_made_table : Addr
  f_made_table : FuncData
  a_law : Addr
  f_law : FuncData
  t_FORMS : Addr

structure Txt (w : World) (K : PySem.W.Frag) (mg : Str → Option Value) (a : Ad) : Prop where
  k_u_law_bag : PySem.W.keepIn K (.ref a.a_u_law_bag) = true
  F_u_law_bag : Fun K "_law_bag" "_law_bag" d_u_law_bag a.a_u_law_bag a.f_u_law_bag
  b_u_law_bag : Binds K a.f_u_law_bag ["script"] []
  k_u_law_take : PySem.W.keepIn K (.ref a.a_u_law_take) = true
  F_u_law_take : Fun K "_law_take" "_law_take" d_u_law_take a.a_u_law_take a.f_u_law_take
  b_u_law_take : Binds K a.f_u_law_take ["bag", "many"] []
  k_u_law_some : PySem.W.keepIn K (.ref a.a_u_law_some) = true
  F_u_law_some : Fun K "_law_some" "_law_some" d_u_law_some a.a_u_law_some a.f_u_law_some
  b_u_law_some : Binds K a.f_u_law_some ["bag", "things"] []
  k_u_law_expression : PySem.W.keepIn K (.ref a.a_u_law_expression) = true
  F_u_law_expression : Fun K "_law_expression" "_law_expression" d_u_law_expression a.a_u_law_expression a.f_u_law_expression
  b_u_law_expression : Binds K a.f_u_law_expression ["bag", "p", "width", "depth"] []
  k_u_law_value : PySem.W.keepIn K (.ref a.a_u_law_value) = true
  F_u_law_value : Fun K "_law_value" "_law_value" d_u_law_value a.a_u_law_value a.f_u_law_value
  b_u_law_value : Binds K a.f_u_law_value ["p", "e", "row"] []
  k_joined : PySem.W.keepIn K (.ref a.a_joined) = true
  F_joined : Fun K "joined" "joined" d_joined a.a_joined a.f_joined
  b_joined : Binds K a.f_joined ["p", "word", "parts"] []
  k_parts_of : PySem.W.keepIn K (.ref a.a_parts_of) = true
  F_parts_of : Fun K "parts_of" "parts_of" d_parts_of a.a_parts_of a.f_parts_of
  b_parts_of : Binds K a.f_parts_of ["e"] []
  k_value_of : PySem.W.keepIn K (.ref a.a_value_of) = true
  F_value_of : Fun K "value_of" "value_of" d_value_of a.a_value_of a.f_value_of
  b_value_of : Binds K a.f_value_of ["p", "e", "row"] []
  k_is_kept : PySem.W.keepIn K (.ref a.a_is_kept) = true
  F_is_kept : Fun K "is_kept" "is_kept" d_is_kept a.a_is_kept a.f_is_kept
  b_is_kept : Binds K a.f_is_kept ["p", "e", "row"] []
  k_row_of : PySem.W.keepIn K (.ref a.a_row_of) = true
  F_row_of : Fun K "row_of" "row_of" d_row_of a.a_row_of a.f_row_of
  b_row_of : Binds K a.f_row_of ["p", "es", "row"] []
  k_u_law_alike : PySem.W.keepIn K (.ref a.a_u_law_alike) = true
  F_u_law_alike : Fun K "_law_alike" "_law_alike" d_u_law_alike a.a_u_law_alike a.f_u_law_alike
  b_u_law_alike : Binds K a.f_u_law_alike ["found", "due"] []
  k_ordered : PySem.W.keepIn K (.ref a.a_ordered) = true
  F_ordered : Fun K "ordered" "ordered" d_ordered a.a_ordered a.f_ordered
  b_ordered : Binds K a.f_ordered ["table", "columns"] []
  k_made_table : PySem.W.keepIn K (.ref a.a_made_table) = true
  F_made_table : Fun K "made_table" "made_table" d_made_table a.a_made_table a.f_made_table
  b_made_table : Binds K a.f_made_table ["p", "step", "tables"] []
  k_law : PySem.W.keepIn K (.ref a.a_law) = true
  F_law : Fun K "law" "law" d_law a.a_law a.f_law
  b_law : Binds K a.f_law ["script"] []
  m_u_law_alike : mg "_law_alike" = some (.ref a.a_u_law_alike)
  m_u_law_bag : mg "_law_bag" = some (.ref a.a_u_law_bag)
  m_u_law_expression : mg "_law_expression" = some (.ref a.a_u_law_expression)
  m_u_law_some : mg "_law_some" = some (.ref a.a_u_law_some)
  m_u_law_take : mg "_law_take" = some (.ref a.a_u_law_take)
  m_u_law_value : mg "_law_value" = some (.ref a.a_u_law_value)
  m_is_kept : mg "is_kept" = some (.ref a.a_is_kept)
  m_joined_terms : mg "joined_terms" = some (.ref a.a_joined)
  m_made_table : mg "made_table" = some (.ref a.a_made_table)
  m_ordered : mg "ordered" = some (.ref a.a_ordered)
  m_parts_of : mg "parts_of" = some (.ref a.a_parts_of)
  m_row_of : mg "row_of" = some (.ref a.a_row_of)
  m_value_of : mg "value_of" = some (.ref a.a_value_of)
  z_abs : mg "abs" = none
  z_bool : mg "bool" = none
  z_enumerate : mg "enumerate" = none
  z_int : mg "int" = none
  z_isinstance : mg "isinstance" = none
  z_len : mg "len" = none
  z_list : mg "list" = none
  z_range : mg "range" = none
  z_sorted : mg "sorted" = none
  z_str : mg "str" = none
  z_tuple : mg "tuple" = none
  z_zip : mg "zip" = none
  c_EXPRESSION : ∃ t, mg "EXPRESSION" = some (.str "e" t)
  c_FORMS : mg "FORMS" = some (.ref a.t_FORMS)
  D_FORMS : ∃ es n, KDict K w a.t_FORMS es n
  e_FORMS_col : ∃ t, PySem.W.nsIn K a.t_FORMS "col" = some (some (.str "n" t))
  e_FORMS_num : ∃ t, PySem.W.nsIn K a.t_FORMS "num" = some (some (.str "n" t))
  e_FORMS_add : ∃ t, PySem.W.nsIn K a.t_FORMS "add" = some (some (.str "ee" t))
  e_FORMS_sub : ∃ t, PySem.W.nsIn K a.t_FORMS "sub" = some (some (.str "ee" t))
  e_FORMS_mul : ∃ t, PySem.W.nsIn K a.t_FORMS "mul" = some (some (.str "ee" t))
  e_FORMS_less : ∃ t, PySem.W.nsIn K a.t_FORMS "less" = some (some (.str "ee" t))
  e_FORMS_same : ∃ t, PySem.W.nsIn K a.t_FORMS "same" = some (some (.str "ee" t))
  e_FORMS_if : ∃ t, PySem.W.nsIn K a.t_FORMS "if" = some (some (.str "eee" t))
section
variable {P : Program} {w : World} {K : PySem.W.Frag} {mg : Str → Option Value} {base : Heap} {a : Ad}
theorem tab_FORMS_ok (T : Txt w K mg a) : ∀ z d', tab_FORMS.lookup z = some d' → ∃ u0 v0, PySem.W.nsIn K a.t_FORMS z = some (some u0) ∧ RelV v0 u0 ∧ ∀ G, Rep K G v0 d' := fun z d' e => tab_all (P := fun z d' => ∃ u0 v0, PySem.W.nsIn K a.t_FORMS z = some (some u0) ∧ RelV v0 u0 ∧ ∀ G, Rep K G v0 d') (by
  intro p m; simp only [tab_FORMS, List.mem_cons, List.not_mem_nil, or_false] at m
  rcases m with rfl | rfl | rfl | rfl | rfl | rfl | rfl | rfl
  · obtain ⟨t, h⟩ := T.e_FORMS_col; exact ⟨_, .str _, h, ⟨_, rfl⟩, fun _ => .str _⟩
  · obtain ⟨t, h⟩ := T.e_FORMS_num; exact ⟨_, .str _, h, ⟨_, rfl⟩, fun _ => .str _⟩
  · obtain ⟨t, h⟩ := T.e_FORMS_add; exact ⟨_, .str _, h, ⟨_, rfl⟩, fun _ => .str _⟩
  · obtain ⟨t, h⟩ := T.e_FORMS_sub; exact ⟨_, .str _, h, ⟨_, rfl⟩, fun _ => .str _⟩
  · obtain ⟨t, h⟩ := T.e_FORMS_mul; exact ⟨_, .str _, h, ⟨_, rfl⟩, fun _ => .str _⟩
  · obtain ⟨t, h⟩ := T.e_FORMS_less; exact ⟨_, .str _, h, ⟨_, rfl⟩, fun _ => .str _⟩
  · obtain ⟨t, h⟩ := T.e_FORMS_same; exact ⟨_, .str _, h, ⟨_, rfl⟩, fun _ => .str _⟩
  · obtain ⟨t, h⟩ := T.e_FORMS_if; exact ⟨_, .str _, h, ⟨_, rfl⟩, fun _ => .str _⟩) e
theorem o_u_law_bag (T : Txt w K mg a) : FnOk P w K mg base CX0 1 a.a_u_law_bag a.f_u_law_bag ["script"] (spP K F_u_law_bag) := by
  refine fokP (N := N_u_law_bag) (k := 0) T.F_u_law_bag sc_u_law_bag fun cdv A outer s H E hr => ?_
  exact (ss_one (s_ret (ok_lst (paa_cons ok_int (paa_cons ok_int (paa_cons ok_int (paa_cons (ok_comp [("cell", 1)] rfl sc_u_law_bag.nd (i_seq (ok_sl (pv 0) part_no (part_at ok_int))) (blkOk_by (N := N_u_law_bag) (sc := defScope d_u_law_bag) (by decide +kernel)) (fun _ _ _ _ _ => (g_one sc_u_law_bag.nd rfl (by first | exact .inl rfl | exact .inr rfl))) (fun _ _ _ _ _ => ts_nil) (fun _ _ _ _ _ => (ok_callB call_abs s_abs (by rfl) T.z_abs (by decide +kernel) (pao_cons (pv 1) pao_nil)))) paa_nil)))))))
theorem o_u_law_take (T : Txt w K mg a) : FnOk P w K mg base CX0 1 a.a_u_law_take a.f_u_law_take ["bag", "many"] (spB K F_u_law_take) := by
  refine fokB (N := N_u_law_take) (k := 0) T.F_u_law_take sc_u_law_take fun cdv A outer s H E hr => ?_
  exact (ss_cons (s_if (kVal_cmp (op_eqD hr.units) s_eq (ok_ix ix_seq s_ix (pv 0) ok_int) ok_int) (ss_cons (s_set (i := 2) (by decide) (ok_ix ix_seq s_ix (ok_op op_addAll s_add (ok_sl (ok_ix ix_seq s_ix (pv 0) ok_int) (part_at (ok_ix ix_seq s_ix (pv 0) ok_int)) part_no) (ok_lst (paa_cons ok_int paa_nil))) ok_int) sc_u_law_take.nd rfl (by first | exact .inl rfl | exact .inr rfl)) (ss_cons (s_augIx (pv 0) ok_int ok_int ip_add) (ss_cons (s_if (kVal_cmp op_ge s_ge (pv 2) (ok_op op_pow s_pow ok_int ok_int)) (ss_one (s_put (by decide) (ok_slot (pv 2)) (gg_sb hr (pv 0) ok_int))) ss_nil) (ss_cons (s_set (i := 3) (by decide) (ok_op op_addAll s_add (ok_op op_addAll s_add (ok_op op_mulAll s_mul (ok_ix ix_seq s_ix (pv 0) ok_int) ok_int) (ok_op op_mod s_mod (ok_callTy call_int1 s_int (by rfl) T.z_int (by decide +kernel) (pao_cons (pv 2) pao_nil)) ok_int)) (ok_op op_mulAll s_mul ok_int (ok_ix ix_seq s_ix (pv 0) ok_int))) sc_u_law_take.nd rfl (by first | exact .inl rfl | exact .inr rfl)) (ss_one (s_put (by decide) (ok_op op_mod s_mod (ok_callTy call_int1 s_int (by rfl) T.z_int (by decide +kernel) (pao_cons (pv 3) pao_nil)) ok_int) (gg_sb hr (pv 0) ok_int))))))) ss_nil) (ss_cons (s_if (kVal_cmp op_gt s_gt (ok_ix ix_seq s_ix (pv 0) ok_int) ok_int) (ss_cons (s_set (i := 4) (by decide) (ok_op op_mod s_mod (ok_callTy call_int1 s_int (by rfl) T.z_int (by decide +kernel) (pao_cons (ok_ix ix_seq s_ix (pv 0) ok_int) pao_nil)) (pv 1)) sc_u_law_take.nd rfl (by first | exact .inl rfl | exact .inr rfl)) (ss_cons (s_put (by decide) (ok_op op_fdiv s_div (ok_callTy call_int1 s_int (by rfl) T.z_int (by decide +kernel) (pao_cons (ok_ix ix_seq s_ix (pv 0) ok_int) pao_nil)) (pv 1)) (gg_sb hr (pv 0) ok_int)) (ss_one (s_ret (ok_move (pv 4)))))) ss_nil) (ss_cons (s_set (i := 5) (by decide) (ok_op op_mod s_mod (ok_callTy call_int1 s_int (by rfl) T.z_int (by decide +kernel) (pao_cons (ok_op op_mulAll s_mul (ok_op op_addAll s_add (ok_ix ix_seq s_ix (pv 0) ok_int) ok_int) ok_int) pao_nil)) ok_int) sc_u_law_take.nd rfl (by first | exact .inl rfl | exact .inr rfl)) (ss_cons (s_set (i := 6) (by decide) (ok_op op_mod s_mod (ok_callTy call_int1 s_int (by rfl) T.z_int (by decide +kernel) (pao_cons (ok_op op_mulAll s_mul (ok_op op_mod s_mod (ok_callTy call_int1 s_int (by rfl) T.z_int (by decide +kernel) (pao_cons (ok_op op_mulAll s_mul (pv 5) (pv 5)) pao_nil)) ok_int) ok_int) pao_nil)) ok_int) sc_u_law_take.nd rfl (by first | exact .inl rfl | exact .inr rfl)) (ss_one (s_ret (ok_op op_mod s_mod (ok_callTy call_int1 s_int (by rfl) T.z_int (by decide +kernel) (pao_cons (ok_op op_fdiv s_div (pv 6) ok_int) pao_nil)) (pv 1))))))))
theorem o_u_law_some (T : Txt w K mg a) : FnOk P w K mg base CX0 2 a.a_u_law_some a.f_u_law_some ["bag", "things"] (spB K F_u_law_some) := by
  refine fokB (N := N_u_law_some) (k := 1) T.F_u_law_some sc_u_law_some fun cdv A outer s H E hr => ?_
  exact (ss_one (s_ret (ok_ix ix_seq s_ix (pv 1) (ok_callB' (o_u_law_take T) (hr.mono (by decide)) (by rfl) T.m_u_law_take T.k_u_law_take T.b_u_law_take (pv 0) (paa_cons (ok_callB call_lenA s_len (by rfl) T.z_len (by decide +kernel) (pao_cons (pv 1) pao_nil)) paa_nil)))))
theorem o_u_law_expression (T : Txt w K mg a) : ∀ j, FnOk P w K mg base CX0 (2 + j) a.a_u_law_expression a.f_u_law_expression ["bag", "p", "width", "depth"] (spB K (F_u_law_expression j))
  | 0 => never_B
  | j + 1 => by
    have ih := o_u_law_expression T j
    refine fokB (N := N_u_law_expression) (k := 2 + j) T.F_u_law_expression sc_u_law_expression fun cdv A outer s H E hr => ?_
    exact (ss_cons (s_set (i := 4) (by decide) (ok_callB' (o_u_law_take T) (hr.mono (by omega)) (by rfl) T.m_u_law_take T.k_u_law_take T.b_u_law_take (pv 0) (paa_cons ok_int paa_nil)) sc_u_law_expression.nd rfl (by first | exact .inl rfl | exact .inr rfl)) (ss_cons (s_if (k_w (kw_or (kVal_cmp (op_eqD hr.units) s_eq (pv 3) ok_int) (kw_or1 (kVal_cmp op_lt s_lt (pv 4) ok_int)))) (ss_one (s_ret (ok_if (kVal_cmp op_gt s_gt (ok_callB' (o_u_law_take T) (hr.mono (by omega)) (by rfl) T.m_u_law_take T.k_u_law_take T.b_u_law_take (pv 0) (paa_cons ok_int paa_nil)) ok_int) (ok_tup (paa_cons ok_str (paa_cons (ok_callB' (o_u_law_take T) (hr.mono (by omega)) (by rfl) T.m_u_law_take T.k_u_law_take T.b_u_law_take (pv 0) (paa_cons (ok_slot (pv 2)) paa_nil)) paa_nil))) (ok_tup (paa_cons ok_str (paa_cons (ok_callB' (o_u_law_take T) (hr.mono (by omega)) (by rfl) T.m_u_law_take T.k_u_law_take T.b_u_law_take (pv 0) (paa_cons (ok_slot (pv 1)) paa_nil)) paa_nil)))))) ss_nil) (ss_cons (s_if (kVal_cmp (op_eqD hr.units) s_eq (pv 4) ok_int) (ss_one (s_ret (ok_op op_addAll s_add (ok_tup (paa_cons ok_str paa_nil)) (ok_callTy call_tuple_of s_tuple (by rfl) T.z_tuple (by decide +kernel) (pao_cons (ok_comp [("part", 5)] rfl sc_u_law_expression.nd (i_rng1 (by rfl) T.z_range (pao_cons ok_int pao_nil)) (blkOk_by (N := N_u_law_expression) (sc := defScope d_u_law_expression) (by decide +kernel)) (fun _ _ _ _ _ => (g_one sc_u_law_expression.nd rfl (by first | exact .inl rfl | exact .inr rfl))) (fun _ _ _ _ _ => ts_nil) (fun _ _ _ _ _ => (ok_callB' ih hr (by rfl) T.m_u_law_expression T.k_u_law_expression T.b_u_law_expression (pv 0) (paa_cons (ok_slot (pv 1)) (paa_cons (ok_slot (pv 2)) (paa_cons (ok_op op_sub s_sub (pv 3) ok_int) paa_nil)))))) pao_nil))))) ss_nil) (ss_cons (s_set (i := 6) (by decide) (ok_callB' (o_u_law_some T) (hr.mono (by omega)) (by rfl) T.m_u_law_some T.k_u_law_some T.b_u_law_some (pv 0) (paa_cons (ok_lst (paa_cons ok_str (paa_cons ok_str (paa_cons ok_str (paa_cons ok_str (paa_cons ok_str paa_nil)))))) paa_nil)) sc_u_law_expression.nd rfl (by first | exact .inl rfl | exact .inr rfl)) (ss_one (s_ret (ok_tup (paa_cons (ok_slot (pv 6)) (paa_cons (ok_callB' ih hr (by rfl) T.m_u_law_expression T.k_u_law_expression T.b_u_law_expression (pv 0) (paa_cons (ok_slot (pv 1)) (paa_cons (ok_slot (pv 2)) (paa_cons (ok_op op_sub s_sub (pv 3) ok_int) paa_nil)))) (paa_cons (ok_callB' ih hr (by rfl) T.m_u_law_expression T.k_u_law_expression T.b_u_law_expression (pv 0) (paa_cons (ok_slot (pv 1)) (paa_cons (ok_slot (pv 2)) (paa_cons (ok_op op_sub s_sub (pv 3) ok_int) paa_nil)))) paa_nil))))))))))
theorem o_u_law_value (T : Txt w K mg a) : ∀ j, FnOk P w K mg base CX0 (0 + j) a.a_u_law_value a.f_u_law_value ["p", "e", "row"] (spP K (F_u_law_value j))
  | 0 => never_P
  | j + 1 => by
    have ih := o_u_law_value T j
    refine fokP (N := N_u_law_value) (k := 0 + j) T.F_u_law_value sc_u_law_value fun cdv A outer s H E hr => ?_
    exact (ss_cons (s_if (kVal_cmp (op_eqD hr.units) s_eq (ok_ix ix_seq s_ix (pv 1) ok_int) ok_str) (ss_one (s_ret (ok_ix ix_seq s_ix (pv 2) (ok_ix ix_seq s_ix (pv 1) ok_int)))) ss_nil) (ss_cons (s_if (kVal_cmp (op_eqD hr.units) s_eq (ok_ix ix_seq s_ix (pv 1) ok_int) ok_str) (ss_one (s_ret (ok_ix ix_seq s_ix (pv 1) ok_int))) ss_nil) (ss_cons (s_setc [("part", 4)] (by decide) rfl sc_u_law_value.nd rfl rfl (sw_true rfl rfl rfl (by decide +kernel)) (i_seq (ok_sl (pv 1) (part_at ok_int) part_no)) (blkOk_by (N := N_u_law_value) (sc := defScope d_u_law_value) (by decide +kernel)) (fun _ _ _ _ _ => (g_one sc_u_law_value.nd rfl (by first | exact .inl rfl | exact .inr rfl))) (fun _ _ _ _ _ => ts_nil) (fun _ _ _ _ _ => (ok_call ih hr (by rfl) T.m_u_law_value T.k_u_law_value T.b_u_law_value (paa_cons (ok_slot (pv 0)) (paa_cons (ok_slot (pv 4)) (paa_cons (ok_slot (pv 2)) paa_nil)))))) (ss_cons (s_if (kVal_cmp (op_eqD hr.units) s_eq (ok_ix ix_seq s_ix (pv 1) ok_int) ok_str) (ss_one (s_ret (ok_if (kVal_cmp (op_neD hr.units) s_ne (ok_ix ix_seq s_ix (pv 3) ok_int) ok_int) (ok_ix ix_seq s_ix (pv 3) ok_int) (ok_ix ix_seq s_ix (pv 3) ok_int)))) ss_nil) (ss_cons (s_if (kVal_cmp (op_inA hr) s_in (ok_ix ix_seq s_ix (pv 1) ok_int) (ok_tup (paa_cons ok_str (paa_cons ok_str paa_nil)))) (ss_one (s_ret (ok_if (kVal_cmp (op_eqD hr.units) s_eq (ok_ix ix_seq s_ix (pv 1) ok_int) ok_str) (ok_callTy call_int1 s_int (by rfl) T.z_int (by decide +kernel) (pao_cons (ok_cmp op_lt s_lt (ok_ix ix_seq s_ix (pv 3) ok_int) (ok_ix ix_seq s_ix (pv 3) ok_int)) pao_nil)) (ok_callTy call_int1 s_int (by rfl) T.z_int (by decide +kernel) (pao_cons (ok_cmp (op_eqD hr.units) s_eq (ok_ix ix_seq s_ix (pv 3) ok_int) (ok_ix ix_seq s_ix (pv 3) ok_int)) pao_nil))))) ss_nil) (ss_cons (s_set (i := 5) (by decide) (ok_if (kVal_cmp (op_eqD hr.units) s_eq (ok_ix ix_seq s_ix (pv 1) ok_int) ok_str) (ok_op op_addAll s_add (ok_ix ix_seq s_ix (pv 3) ok_int) (ok_ix ix_seq s_ix (pv 3) ok_int)) (ok_if (kVal_cmp (op_eqD hr.units) s_eq (ok_ix ix_seq s_ix (pv 1) ok_int) ok_str) (ok_op op_sub s_sub (ok_ix ix_seq s_ix (pv 3) ok_int) (ok_ix ix_seq s_ix (pv 3) ok_int)) (ok_op op_mulAll s_mul (ok_ix ix_seq s_ix (pv 3) ok_int) (ok_ix ix_seq s_ix (pv 3) ok_int)))) sc_u_law_value.nd rfl (by first | exact .inl rfl | exact .inr rfl)) (ss_one (s_ret (ok_op op_mod s_mod (ok_callTy call_int1 s_int (by rfl) T.z_int (by decide +kernel) (pao_cons (pv 5) pao_nil)) (pv 0))))))))))
theorem o_joined (T : Txt w K mg a) : FnOk P w K mg base CX0 1 a.a_joined a.f_joined ["p", "word", "parts"] (spP K F_joined) := by
  refine fokP (N := N_joined) (k := 0) T.F_joined sc_joined fun cdv A outer s H E hr => ?_
  exact (ss_cons (s_if (kVal_cmp (op_eqD hr.units) s_eq (pv 1) ok_str) (ss_one (s_ret (ok_if (kVal_cmp (op_neD hr.units) s_ne (ok_ix ix_seq s_ix (pv 2) ok_int) ok_int) (ok_ix ix_seq s_ix (pv 2) ok_int) (ok_ix ix_seq s_ix (pv 2) ok_int)))) ss_nil) (ss_cons (s_unpL (by decide) rfl (ok_slot (pv 2)) (ggs_cons (gg_nm sc_joined.nd rfl (by first | exact .inl rfl | exact .inr rfl)) (ggs_cons (gg_nm sc_joined.nd rfl (by first | exact .inl rfl | exact .inr rfl)) ggs_nil))) (ss_cons (s_if (kVal_cmp (op_eqD hr.units) s_eq (pv 1) ok_str) (ss_one (s_ret (ok_op op_mod s_mod (ok_op op_addAll s_add (pv 3) (pv 4)) (pv 0)))) ss_nil) (ss_cons (s_if (kVal_cmp (op_eqD hr.units) s_eq (pv 1) ok_str) (ss_one (s_ret (ok_op op_mod s_mod (ok_op op_sub s_sub (pv 3) (pv 4)) (pv 0)))) ss_nil) (ss_cons (s_if (kVal_cmp (op_eqD hr.units) s_eq (pv 1) ok_str) (ss_one (s_ret (ok_op op_mod s_mod (ok_op op_mulAll s_mul (pv 3) (pv 4)) (pv 0)))) ss_nil) (ss_one (s_ret (ok_if (kVal_cmp (op_eqD hr.units) s_eq (pv 1) ok_str) (ok_callTy call_int1 s_int (by rfl) T.z_int (by decide +kernel) (pao_cons (ok_cmp op_lt s_lt (pv 3) (pv 4)) pao_nil)) (ok_callTy call_int1 s_int (by rfl) T.z_int (by decide +kernel) (pao_cons (ok_cmp (op_eqD hr.units) s_eq (pv 3) (pv 4)) pao_nil))))))))))
theorem o_parts_of (T : Txt w K mg a) : FnOk P w K mg base CX0 1 a.a_parts_of a.f_parts_of ["e"] (spP K F_parts_of) := by
  refine fokP (N := N_parts_of) (k := 0) T.F_parts_of sc_parts_of fun cdv A outer s H E hr => ?_
  exact (ss_one (s_ret (ok_comp [("kind", 1), ("part", 2)] rfl sc_parts_of.nd (i_zip (by rfl) T.z_zip (paa_cons (ok_tab (by rfl) T.c_FORMS T.D_FORMS (tab_FORMS_ok T) (ok_ix ix_seq s_ix (pv 0) ok_int)) (paa_cons (ok_sl (pv 0) (part_at ok_int) part_no) paa_nil))) (blkOk_by (N := N_parts_of) (sc := defScope d_parts_of) (by decide +kernel)) (fun _ _ _ _ _ => (g_tup rfl (gn_cons (g_one sc_parts_of.nd rfl (by first | exact .inl rfl | exact .inr rfl)) (gn_cons (g_one sc_parts_of.nd rfl (by first | exact .inl rfl | exact .inr rfl)) gn_nil)))) (fun _ _ _ _ _ => (ts_one (kVal_cmp (op_eqD hr.units) s_eq (pv 1) (ok_gstr (by rfl) T.c_EXPRESSION)))) (fun _ _ _ _ _ => (ok_slot (pv 2))))))
theorem o_value_of (T : Txt w K mg a) : ∀ j, FnOk P w K mg base CX0 (1 + j) a.a_value_of a.f_value_of ["p", "e", "row"] (spP K (F_value_of j))
  | 0 => never_P
  | j + 1 => by
    have ih := o_value_of T j
    refine fokP (N := N_value_of) (k := 1 + j) T.F_value_of sc_value_of fun cdv A outer s H E hr => ?_
    exact (ss_cons (s_if (kVal_cmp (op_eqD hr.units) s_eq (ok_ix ix_seq s_ix (pv 1) ok_int) ok_str) (ss_one (s_ret (ok_ix ix_seq s_ix (pv 2) (ok_ix ix_seq s_ix (pv 1) ok_int)))) ss_nil) (ss_cons (s_if (kVal_cmp (op_eqD hr.units) s_eq (ok_ix ix_seq s_ix (pv 1) ok_int) ok_str) (ss_one (s_ret (ok_ix ix_seq s_ix (pv 1) ok_int))) ss_nil) (ss_one (s_ret (ok_call (o_joined T) (hr.mono (by omega)) (by rfl) T.m_joined_terms T.k_joined T.b_joined (paa_cons (ok_slot (pv 0)) (paa_cons (ok_ix ix_seq s_ix (pv 1) ok_int) (paa_cons (ok_comp [("part", 3)] rfl sc_value_of.nd (i_seq (ok_call (o_parts_of T) (hr.mono (by omega)) (by rfl) T.m_parts_of T.k_parts_of T.b_parts_of (paa_cons (ok_slot (pv 1)) paa_nil))) (blkOk_by (N := N_value_of) (sc := defScope d_value_of) (by decide +kernel)) (fun _ _ _ _ _ => (g_one sc_value_of.nd rfl (by first | exact .inl rfl | exact .inr rfl))) (fun _ _ _ _ _ => ts_nil) (fun _ _ _ _ _ => (ok_call ih hr (by rfl) T.m_value_of T.k_value_of T.b_value_of (paa_cons (ok_slot (pv 0)) (paa_cons (ok_slot (pv 3)) (paa_cons (ok_slot (pv 2)) paa_nil)))))) paa_nil))))))))
theorem o_is_kept (T : Txt w K mg a) : FnOk P w K mg base CX0 7 a.a_is_kept a.f_is_kept ["p", "e", "row"] (spP K F_is_kept) := by
  refine fokP (N := N_is_kept) (k := 6) T.F_is_kept sc_is_kept fun cdv A outer s H E hr => ?_
  exact (ss_one (s_ret (ok_cmp (op_neD hr.units) s_ne (ok_call (o_value_of T 5) (hr.mono (by decide)) (by rfl) T.m_value_of T.k_value_of T.b_value_of (paa_cons (ok_slot (pv 0)) (paa_cons (ok_slot (pv 1)) (paa_cons (ok_slot (pv 2)) paa_nil)))) ok_int)))
theorem o_row_of (T : Txt w K mg a) : FnOk P w K mg base CX0 7 a.a_row_of a.f_row_of ["p", "es", "row"] (spP K F_row_of) := by
  refine fokP (N := N_row_of) (k := 6) T.F_row_of sc_row_of fun cdv A outer s H E hr => ?_
  exact (ss_one (s_ret (ok_callTy call_tuple_of s_tuple (by rfl) T.z_tuple (by decide +kernel) (pao_cons (ok_comp [("e", 3)] rfl sc_row_of.nd (i_seq (ok_slot (pv 1))) (blkOk_by (N := N_row_of) (sc := defScope d_row_of) (by decide +kernel)) (fun _ _ _ _ _ => (g_one sc_row_of.nd rfl (by first | exact .inl rfl | exact .inr rfl))) (fun _ _ _ _ _ => ts_nil) (fun _ _ _ _ _ => (ok_call (o_value_of T 5) (hr.mono (by decide)) (by rfl) T.m_value_of T.k_value_of T.b_value_of (paa_cons (ok_slot (pv 0)) (paa_cons (ok_slot (pv 3)) (paa_cons (ok_slot (pv 2)) paa_nil)))))) pao_nil))))
theorem o_u_law_alike (T : Txt w K mg a) : FnOk P w K mg base CX0 1 a.a_u_law_alike a.f_u_law_alike ["found", "due"] (spP K F_u_law_alike) := by
  refine fokP (N := N_u_law_alike) (k := 0) T.F_u_law_alike sc_u_law_alike fun cdv A outer s H E hr => ?_
  exact (ss_cons (s_par2c (by decide) (by decide) rfl sc_u_law_alike.nd rfl rfl (by decide) rfl rfl (ok_lst (paa_cons (ok_tup (paa_cons (ok_slot (pv 0)) (paa_cons (ok_slot (pv 1)) paa_nil))) paa_nil)) ok_int (by rfl)) (ss_cons (s_while PassesOwn.never (kVal_cmp op_lt s_lt (pv 3) (ok_callB call_lenA s_len (by rfl) T.z_len (by decide +kernel) (pao_cons (pv 2) pao_nil))) (ss_cons (s_unp (by decide) rfl (ok_ix ix_seq s_ix (pv 2) (pv 3)) (ggs_cons (gg_nm sc_u_law_alike.nd rfl (by first | exact .inl rfl | exact .inr rfl)) (ggs_cons (gg_nm sc_u_law_alike.nd rfl (by first | exact .inl rfl | exact .inr rfl)) ggs_nil))) (ss_cons (s_aug (i := 3) (by decide) ok_int sc_u_law_alike.nd rfl (by first | exact .inl rfl | exact .inr rfl) ip_add) (ss_cons (s_if (k_w (kw_or (kVal_cmp (op_neD hr.units) s_ne (ok_isi (b := "bool") (by rfl) T.z_isinstance (pv 4) (by rfl) T.z_bool (by decide +kernel) (by decide)) (ok_isi (b := "bool") (by rfl) T.z_isinstance (pv 5) (by rfl) T.z_bool (by decide +kernel) (by decide))) (kw_or1 (kVal_cmp (op_neD hr.units) s_ne (ok_isi (b := "str") (by rfl) T.z_isinstance (pv 4) (by rfl) T.z_str (by decide +kernel) (by decide)) (ok_isi (b := "str") (by rfl) T.z_isinstance (pv 5) (by rfl) T.z_str (by decide +kernel) (by decide)))))) (ss_one (s_ret ok_bl)) ss_nil) (ss_cons (s_if (kVal_cmp (op_neD hr.units) s_ne (ok_isi2 (b := "tuple") (c := "list") (by rfl) T.z_isinstance (pv 4) (by rfl) T.z_tuple (by decide +kernel) (by rfl) T.z_list (by decide +kernel) (by decide) (by decide)) (ok_isi2 (b := "tuple") (c := "list") (by rfl) T.z_isinstance (pv 5) (by rfl) T.z_tuple (by decide +kernel) (by rfl) T.z_list (by decide +kernel) (by decide) (by decide))) (ss_one (s_ret ok_bl)) ss_nil) (ss_one (s_if (kVal_val (ok_isi2 (b := "tuple") (c := "list") (by rfl) T.z_isinstance (pv 4) (by rfl) T.z_tuple (by decide +kernel) (by rfl) T.z_list (by decide +kernel) (by decide) (by decide))) (ss_cons (s_if (k_w (kw_or (kVal_cmp (op_neD hr.units) s_ne (ok_isi (b := "tuple") (by rfl) T.z_isinstance (pv 4) (by rfl) T.z_tuple (by decide +kernel) (by decide)) (ok_isi (b := "tuple") (by rfl) T.z_isinstance (pv 5) (by rfl) T.z_tuple (by decide +kernel) (by decide))) (kw_or1 (kVal_cmp (op_neD hr.units) s_ne (ok_callB call_lenA s_len (by rfl) T.z_len (by decide +kernel) (pao_cons (pv 4) pao_nil)) (ok_callB call_lenA s_len (by rfl) T.z_len (by decide +kernel) (pao_cons (pv 5) pao_nil)))))) (ss_one (s_ret ok_bl)) ss_nil) (ss_one (s_drop (ok_methL PySem.F.slot_list_extend PySem.F.type_list_extend mt_extend m_extend (pv 2) (paa_cons (ok_lzip rfl (by rfl) T.z_list (by rfl) T.z_zip (paa_cons (ok_slot (pv 4)) (paa_cons (ok_slot (pv 5)) paa_nil))) paa_nil))))) (ss_one (s_if (kVal_cmp (op_neD hr.units) s_ne (pv 4) (pv 5)) (ss_one (s_ret ok_bl)) ss_nil))))))))) (ss_one (s_ret ok_bl))))
theorem o_ordered (T : Txt w K mg a) : FnOk P w K mg base CX0 1 a.a_ordered a.f_ordered ["table", "columns"] (spP K F_ordered) := by
  refine fokP (N := N_ordered) (k := 0) T.F_ordered sc_ordered fun cdv A outer s H E hr => ?_
  exact (ss_cons (s_set (i := 2) (by decide) (ok_callB cr_sortedA s_sorted (by rfl) T.z_sorted (by decide +kernel) (pao_cons (ok_comp [("at", 4), ("row", 5)] rfl sc_ordered.nd (i_enum (by rfl) T.z_enumerate (paa_cons (ok_slot (pv 0)) paa_nil)) (blkOk_by (N := N_ordered) (sc := defScope d_ordered) (by decide +kernel)) (fun _ _ _ _ _ => (g_tup rfl (gn_cons (g_one sc_ordered.nd rfl (by first | exact .inl rfl | exact .inr rfl)) (gn_cons (g_one sc_ordered.nd rfl (by first | exact .inl rfl | exact .inr rfl)) gn_nil)))) (fun _ _ _ _ _ => ts_nil) (fun _ _ _ _ _ => (ok_tup (paa_star (ok_comp [("one", 3)] rfl sc_ordered.nd (i_seq (ok_slot (pv 1))) (blkOk_by (N := N_ordered) (sc := (relZ (defScope d_ordered) sq_ordered_1)) (by decide +kernel)) (fun _ _ _ _ _ => (g_one sc_ordered.nd rfl (by first | exact .inl rfl | exact .inr rfl))) (fun _ _ _ _ _ => ts_nil) (fun _ _ _ _ _ => (ok_ix ix_seq s_ix (pv 5) (pv 3)))) (paa_cons (ok_slot (pv 4)) paa_nil))))) pao_nil)) sc_ordered.nd rfl (by first | exact .inl rfl | exact .inr rfl)) (ss_one (s_ret (ok_callTy call_tuple_of s_tuple (by rfl) T.z_tuple (by decide +kernel) (pao_cons (ok_comp [("one", 3)] rfl sc_ordered.nd (i_seq (ok_slot (pv 2))) (blkOk_by (N := N_ordered) (sc := defScope d_ordered) (by decide +kernel)) (fun _ _ _ _ _ => (g_one sc_ordered.nd rfl (by first | exact .inl rfl | exact .inr rfl))) (fun _ _ _ _ _ => ts_nil) (fun _ _ _ _ _ => (ok_ix ix_seq s_ix (pv 0) (ok_ix ix_seq s_ix (pv 3) (ok_un un_neg s_neg ok_int))))) pao_nil)))))
theorem o_made_table (T : Txt w K mg a) : FnOk P w K mg base CX0 8 a.a_made_table a.f_made_table ["p", "step", "tables"] (spP K F_made_table) := by
  refine fokP (N := N_made_table) (k := 7) T.F_made_table sc_made_table fun cdv A outer s H E hr => ?_
  exact (ss_cons (s_par (by decide) (by decide) rfl sc_made_table.nd rfl rfl (by decide) rfl rfl (paa_cons (ok_ix ix_seq s_ix (pv 1) ok_int) (paa_cons (ok_ix ix_seq s_ix (pv 2) ok_int) paa_nil)) (by rfl)) (ss_cons (s_if (kVal_cmp (op_eqD hr.units) s_eq (pv 3) ok_str) (ss_one (s_ret (ok_callTy call_tuple_of s_tuple (by rfl) T.z_tuple (by decide +kernel) (pao_cons (ok_comp [("row", 5)] rfl sc_made_table.nd (i_seq (ok_slot (pv 4))) (blkOk_by (N := N_made_table) (sc := defScope d_made_table) (by decide +kernel)) (fun _ _ _ _ _ => (g_one sc_made_table.nd rfl (by first | exact .inl rfl | exact .inr rfl))) (fun _ _ _ _ _ => (ts_one (kVal_val (ok_call (o_is_kept T) (hr.mono (by decide)) (by rfl) T.m_is_kept T.k_is_kept T.b_is_kept (paa_cons (ok_slot (pv 0)) (paa_cons (ok_ix ix_seq s_ix (pv 1) ok_int) (paa_cons (ok_slot (pv 5)) paa_nil))))))) (fun _ _ _ _ _ => (ok_slot (pv 5)))) pao_nil)))) ss_nil) (ss_cons (s_if (kVal_cmp (op_eqD hr.units) s_eq (pv 3) ok_str) (ss_one (s_ret (ok_callTy call_tuple_of s_tuple (by rfl) T.z_tuple (by decide +kernel) (pao_cons (ok_comp [("row", 5)] rfl sc_made_table.nd (i_seq (ok_slot (pv 4))) (blkOk_by (N := N_made_table) (sc := defScope d_made_table) (by decide +kernel)) (fun _ _ _ _ _ => (g_one sc_made_table.nd rfl (by first | exact .inl rfl | exact .inr rfl))) (fun _ _ _ _ _ => ts_nil) (fun _ _ _ _ _ => (ok_call (o_row_of T) (hr.mono (by decide)) (by rfl) T.m_row_of T.k_row_of T.b_row_of (paa_cons (ok_slot (pv 0)) (paa_cons (ok_ix ix_seq s_ix (pv 1) ok_int) (paa_cons (ok_slot (pv 5)) paa_nil)))))) pao_nil)))) ss_nil) (ss_cons (s_if (kVal_cmp (op_eqD hr.units) s_eq (pv 3) ok_str) (ss_one (s_ret (ok_call (o_ordered T) (hr.mono (by decide)) (by rfl) T.m_ordered T.k_ordered T.b_ordered (paa_cons (ok_slot (pv 4)) (paa_cons (ok_ix ix_seq s_ix (pv 1) ok_int) paa_nil))))) ss_nil) (ss_cons s_no (ss_cons s_no (ss_cons s_no (ss_cons s_no (ss_cons s_no (ss_cons s_no (ss_cons s_no (ss_cons s_no (ss_one s_no)))))))))))))
theorem o_law (T : Txt w K mg a) : FnOk P w K mg base CX0 9 a.a_law a.f_law ["script"] (spP K F_law) := by
  refine fokP (N := N_law) (k := 8) T.F_law sc_law fun cdv A outer s H E hr => ?_
  exact (ss_cons (s_set (i := 1) (by decide) (ok_call (o_u_law_bag T) (hr.mono (by decide)) (by rfl) T.m_u_law_bag T.k_u_law_bag T.b_u_law_bag (paa_cons (ok_slot (pv 0)) paa_nil)) sc_law.nd rfl (by first | exact .inl rfl | exact .inr rfl)) (ss_cons (s_for (by decide) PassesOwn.never rfl (i_rng1 (by rfl) T.z_range (pao_cons ok_int pao_nil)) (g_one sc_law.nd rfl (by first | exact .inl rfl | exact .inr rfl)) (ss_cons (s_unp (by decide) rfl (ok_tup (paa_cons (ok_callB' (o_u_law_some T) (hr.mono (by decide)) (by rfl) T.m_u_law_some T.k_u_law_some T.b_u_law_some (pv 1) (paa_cons (ok_lst (paa_cons ok_int (paa_cons ok_int (paa_cons ok_int (paa_cons ok_int paa_nil))))) paa_nil)) (paa_cons (ok_op op_addAll s_add ok_int (ok_callB' (o_u_law_take T) (hr.mono (by decide)) (by rfl) T.m_u_law_take T.k_u_law_take T.b_u_law_take (pv 1) (paa_cons ok_int paa_nil))) paa_nil))) (ggs_cons (gg_nm sc_law.nd rfl (by first | exact .inl rfl | exact .inr rfl)) (ggs_cons (gg_nm sc_law.nd rfl (by first | exact .inl rfl | exact .inr rfl)) ggs_nil))) (ss_cons (s_set (i := 5) (by decide) (ok_callTy call_tuple_of s_tuple (by rfl) T.z_tuple (by decide +kernel) (pao_cons (ok_comp [("part", 6)] rfl sc_law.nd (i_rng1 (by rfl) T.z_range (pao_cons (ok_op op_addAll s_add ok_int (ok_callB' (o_u_law_take T) (hr.mono (by decide)) (by rfl) T.m_u_law_take T.k_u_law_take T.b_u_law_take (pv 1) (paa_cons ok_int paa_nil))) pao_nil)) (blkOk_by (N := N_law) (sc := defScope d_law) (by decide +kernel)) (fun _ _ _ _ _ => (g_one sc_law.nd rfl (by first | exact .inl rfl | exact .inr rfl))) (fun _ _ _ _ _ => ts_nil) (fun _ _ _ _ _ => (ok_callB' (o_u_law_expression T 5) (hr.mono (by decide)) (by rfl) T.m_u_law_expression T.k_u_law_expression T.b_u_law_expression (pv 1) (paa_cons (ok_slot (pv 3)) (paa_cons (ok_slot (pv 4)) (paa_cons ok_int paa_nil)))))) pao_nil)) sc_law.nd rfl (by first | exact .inl rfl | exact .inr rfl)) (ss_cons (s_set (i := 7) (by decide) (ok_lst paa_nil) sc_law.nd rfl (by first | exact .inl rfl | exact .inr rfl)) (ss_cons (s_for (by decide) PassesOwn.never rfl (i_rng1 (by rfl) T.z_range (pao_cons ok_int pao_nil)) (g_one sc_law.nd rfl (by first | exact .inl rfl | exact .inr rfl)) (ss_one (s_drop (ok_methL PySem.F.slot_list_append PySem.F.type_list_append mt_append m_append (pv 7) (paa_cons (ok_callTy call_tuple_of s_tuple (by rfl) T.z_tuple (by decide +kernel) (pao_cons (ok_comp [("column", 9)] rfl sc_law.nd (i_rng1 (by rfl) T.z_range (pao_cons (pv 4) pao_nil)) (blkOk_by (N := N_law) (sc := defScope d_law) (by decide +kernel)) (fun _ _ _ _ _ => (g_one sc_law.nd rfl (by first | exact .inl rfl | exact .inr rfl))) (fun _ _ _ _ _ => ts_nil) (fun _ _ _ _ _ => (ok_callB' (o_u_law_some T) (hr.mono (by decide)) (by rfl) T.m_u_law_some T.k_u_law_some T.b_u_law_some (pv 1) (paa_cons (ok_lst (paa_cons ok_int (paa_cons ok_int (paa_cons ok_int (paa_cons (ok_op op_sub s_sub (pv 3) ok_int) (paa_cons (ok_callB' (o_u_law_take T) (hr.mono (by decide)) (by rfl) T.m_u_law_take T.k_u_law_take T.b_u_law_take (pv 1) (paa_cons (ok_slot (pv 3)) paa_nil)) paa_nil)))))) paa_nil)))) pao_nil)) paa_nil))))) (ss_cons (s_for (by decide) PassesOwn.never rfl (i_seq (ok_slot (pv 7))) (g_one sc_law.nd rfl (by first | exact .inl rfl | exact .inr rfl)) (ss_cons (s_set (i := 11) (by decide) (ok_callTy call_tuple_of s_tuple (by rfl) T.z_tuple (by decide +kernel) (pao_cons (ok_comp [("e", 12)] rfl sc_law.nd (i_seq (ok_slot (pv 5))) (blkOk_by (N := N_law) (sc := defScope d_law) (by decide +kernel)) (fun _ _ _ _ _ => (g_one sc_law.nd rfl (by first | exact .inl rfl | exact .inr rfl))) (fun _ _ _ _ _ => ts_nil) (fun _ _ _ _ _ => (ok_call (o_u_law_value T 5) (hr.mono (by decide)) (by rfl) T.m_u_law_value T.k_u_law_value T.b_u_law_value (paa_cons (ok_slot (pv 3)) (paa_cons (ok_slot (pv 12)) (paa_cons (ok_slot (pv 10)) paa_nil)))))) pao_nil)) sc_law.nd rfl (by first | exact .inl rfl | exact .inr rfl)) (ss_cons (s_set (i := 13) (by decide) (ok_lst (paa_cons (ok_call (o_row_of T) (hr.mono (by decide)) (by rfl) T.m_row_of T.k_row_of T.b_row_of (paa_cons (ok_slot (pv 3)) (paa_cons (ok_slot (pv 5)) (paa_cons (ok_slot (pv 10)) paa_nil)))) (paa_cons (ok_callTy call_tuple_of s_tuple (by rfl) T.z_tuple (by decide +kernel) (pao_cons (ok_comp [("e", 12)] rfl sc_law.nd (i_seq (ok_slot (pv 5))) (blkOk_by (N := N_law) (sc := defScope d_law) (by decide +kernel)) (fun _ _ _ _ _ => (g_one sc_law.nd rfl (by first | exact .inl rfl | exact .inr rfl))) (fun _ _ _ _ _ => ts_nil) (fun _ _ _ _ _ => (ok_call (o_value_of T 5) (hr.mono (by decide)) (by rfl) T.m_value_of T.k_value_of T.b_value_of (paa_cons (ok_slot (pv 3)) (paa_cons (ok_slot (pv 12)) (paa_cons (ok_slot (pv 10)) paa_nil)))))) pao_nil)) (paa_cons (ok_comp [("e", 12)] rfl sc_law.nd (i_seq (ok_slot (pv 5))) (blkOk_by (N := N_law) (sc := defScope d_law) (by decide +kernel)) (fun _ _ _ _ _ => (g_one sc_law.nd rfl (by first | exact .inl rfl | exact .inr rfl))) (fun _ _ _ _ _ => ts_nil) (fun _ _ _ _ _ => (ok_call (o_is_kept T) (hr.mono (by decide)) (by rfl) T.m_is_kept T.k_is_kept T.b_is_kept (paa_cons (ok_slot (pv 3)) (paa_cons (ok_slot (pv 12)) (paa_cons (ok_slot (pv 10)) paa_nil)))))) paa_nil)))) sc_law.nd rfl (by first | exact .inl rfl | exact .inr rfl)) (ss_one (s_if (k_not (kVal_val (ok_call (o_u_law_alike T) (hr.mono (by decide)) (by rfl) T.m_u_law_alike T.k_u_law_alike T.b_u_law_alike (paa_cons (ok_slot (pv 13)) (paa_cons (ok_lst (paa_cons (ok_slot (pv 11)) (paa_cons (ok_slot (pv 11)) (paa_cons (ok_comp [("word", 14)] rfl sc_law.nd (i_seq (ok_slot (pv 11))) (blkOk_by (N := N_law) (sc := defScope d_law) (by decide +kernel)) (fun _ _ _ _ _ => (g_one sc_law.nd rfl (by first | exact .inl rfl | exact .inr rfl))) (fun _ _ _ _ _ => ts_nil) (fun _ _ _ _ _ => (ok_cmp (op_neD hr.units) s_ne (pv 14) ok_int))) paa_nil)))) paa_nil))))) (ss_one (s_ret ok_bl)) ss_nil))))) (ss_cons (s_set (i := 15) (by decide) (ok_callTy call_tuple_of s_tuple (by rfl) T.z_tuple (by decide +kernel) (pao_cons (pv 7) pao_nil)) sc_law.nd rfl (by first | exact .inl rfl | exact .inr rfl)) (ss_cons (s_set (i := 16) (by decide) (ok_callTy call_tuple_of s_tuple (by rfl) T.z_tuple (by decide +kernel) (pao_cons (ok_comp [("row", 10)] rfl sc_law.nd (i_seq (ok_slot (pv 7))) (blkOk_by (N := N_law) (sc := defScope d_law) (by decide +kernel)) (fun _ _ _ _ _ => (g_one sc_law.nd rfl (by first | exact .inl rfl | exact .inr rfl))) (fun _ _ _ _ _ => (ts_one (kVal_cmp (op_neD hr.units) s_ne (ok_call (o_u_law_value T 5) (hr.mono (by decide)) (by rfl) T.m_u_law_value T.k_u_law_value T.b_u_law_value (paa_cons (ok_slot (pv 3)) (paa_cons (ok_ix ix_seq s_ix (pv 5) ok_int) (paa_cons (ok_slot (pv 10)) paa_nil)))) ok_int))) (fun _ _ _ _ _ => (ok_slot (pv 10)))) pao_nil)) sc_law.nd rfl (by first | exact .inl rfl | exact .inr rfl)) (ss_cons (s_set (i := 17) (by decide) (ok_callTy call_tuple_of s_tuple (by rfl) T.z_tuple (by decide +kernel) (pao_cons (ok_comp [("row", 10)] rfl sc_law.nd (i_seq (ok_slot (pv 7))) (blkOk_by (N := N_law) (sc := defScope d_law) (by decide +kernel)) (fun _ _ _ _ _ => (g_one sc_law.nd rfl (by first | exact .inl rfl | exact .inr rfl))) (fun _ _ _ _ _ => ts_nil) (fun _ _ _ _ _ => (ok_callTy call_tuple_of s_tuple (by rfl) T.z_tuple (by decide +kernel) (pao_cons (ok_comp [("e", 12)] rfl sc_law.nd (i_seq (ok_slot (pv 5))) (blkOk_by (N := N_law) (sc := (relZ (defScope d_law) sq_law_8)) (by decide +kernel)) (fun _ _ _ _ _ => (g_one sc_law.nd rfl (by first | exact .inl rfl | exact .inr rfl))) (fun _ _ _ _ _ => ts_nil) (fun _ _ _ _ _ => (ok_call (o_u_law_value T 5) (hr.mono (by decide)) (by rfl) T.m_u_law_value T.k_u_law_value T.b_u_law_value (paa_cons (ok_slot (pv 3)) (paa_cons (ok_slot (pv 12)) (paa_cons (ok_slot (pv 10)) paa_nil)))))) pao_nil)))) pao_nil)) sc_law.nd rfl (by first | exact .inl rfl | exact .inr rfl)) (ss_cons (s_set (i := 18) (by decide) (ok_lst (paa_cons (ok_call (o_made_table T) (hr.mono (by decide)) (by rfl) T.m_made_table T.k_made_table T.b_made_table (paa_cons (ok_slot (pv 3)) (paa_cons (ok_tup (paa_cons ok_str (paa_cons ok_str (paa_cons (ok_ix ix_seq s_ix (pv 5) ok_int) paa_nil)))) (paa_cons (ok_tup (paa_cons (ok_slot (pv 15)) paa_nil)) paa_nil)))) (paa_cons (ok_call (o_made_table T) (hr.mono (by decide)) (by rfl) T.m_made_table T.k_made_table T.b_made_table (paa_cons (ok_slot (pv 3)) (paa_cons (ok_tup (paa_cons ok_str (paa_cons ok_str (paa_cons (ok_slot (pv 5)) paa_nil)))) (paa_cons (ok_tup (paa_cons (ok_slot (pv 15)) paa_nil)) paa_nil)))) paa_nil))) sc_law.nd rfl (by first | exact .inl rfl | exact .inr rfl)) (ss_cons (s_if (k_not (kVal_val (ok_call (o_u_law_alike T) (hr.mono (by decide)) (by rfl) T.m_u_law_alike T.k_u_law_alike T.b_u_law_alike (paa_cons (ok_slot (pv 18)) (paa_cons (ok_lst (paa_cons (ok_slot (pv 16)) (paa_cons (ok_slot (pv 17)) paa_nil))) paa_nil))))) (ss_one (s_ret ok_bl)) ss_nil) (ss_cons (s_set (i := 19) (by decide) (ok_callB cr_sortedA s_sorted (by rfl) T.z_sorted (by decide +kernel) (pao_cons (ok_comp [("at", 20), ("word", 14)] rfl sc_law.nd (i_enum (by rfl) T.z_enumerate (paa_cons (ok_comp [("row", 10)] rfl sc_law.nd (i_seq (ok_slot (pv 17))) (blkOk_by (N := N_law) (sc := defScope d_law) (by decide +kernel)) (fun _ _ _ _ _ => (g_one sc_law.nd rfl (by first | exact .inl rfl | exact .inr rfl))) (fun _ _ _ _ _ => ts_nil) (fun _ _ _ _ _ => (ok_ix ix_seq s_ix (pv 10) ok_int))) paa_nil)) (blkOk_by (N := N_law) (sc := defScope d_law) (by decide +kernel)) (fun _ _ _ _ _ => (g_tup rfl (gn_cons (g_one sc_law.nd rfl (by first | exact .inl rfl | exact .inr rfl)) (gn_cons (g_one sc_law.nd rfl (by first | exact .inl rfl | exact .inr rfl)) gn_nil)))) (fun _ _ _ _ _ => ts_nil) (fun _ _ _ _ _ => (ok_tup (paa_cons (ok_slot (pv 14)) (paa_cons (ok_slot (pv 20)) paa_nil))))) pao_nil)) sc_law.nd rfl (by first | exact .inl rfl | exact .inr rfl)) (ss_cons (s_if (k_not (kVal_val (ok_call (o_u_law_alike T) (hr.mono (by decide)) (by rfl) T.m_u_law_alike T.k_u_law_alike T.b_u_law_alike (paa_cons (ok_call (o_made_table T) (hr.mono (by decide)) (by rfl) T.m_made_table T.k_made_table T.b_made_table (paa_cons (ok_slot (pv 3)) (paa_cons (ok_tup (paa_cons ok_str (paa_cons ok_str (paa_cons (ok_tup (paa_cons ok_int paa_nil)) paa_nil)))) (paa_cons (ok_tup (paa_cons (ok_slot (pv 17)) paa_nil)) paa_nil)))) (paa_cons (ok_callTy call_tuple_of s_tuple (by rfl) T.z_tuple (by decide +kernel) (pao_cons (ok_comp [("word", 14), ("at", 20)] rfl sc_law.nd (i_seq (ok_slot (pv 19))) (blkOk_by (N := N_law) (sc := defScope d_law) (by decide +kernel)) (fun _ _ _ _ _ => (g_tup rfl (gn_cons (g_one sc_law.nd rfl (by first | exact .inl rfl | exact .inr rfl)) (gn_cons (g_one sc_law.nd rfl (by first | exact .inl rfl | exact .inr rfl)) gn_nil)))) (fun _ _ _ _ _ => ts_nil) (fun _ _ _ _ _ => (ok_ix ix_seq s_ix (pv 17) (pv 20)))) pao_nil)) paa_nil))))) (ss_one (s_ret ok_bl)) ss_nil) (ss_one (s_if (kVal_cmp (op_neD hr.units) s_ne (ok_call (o_made_table T) (hr.mono (by decide)) (by rfl) T.m_made_table T.k_made_table T.b_made_table (paa_cons (ok_slot (pv 3)) (paa_cons (ok_tup (paa_cons ok_str (paa_cons ok_str (paa_cons (ok_tup (paa_cons ok_str (paa_cons (ok_ix ix_seq s_ix (pv 5) ok_int) (paa_cons (ok_ix ix_seq s_ix (pv 5) ok_int) paa_nil)))) paa_nil)))) (paa_cons (ok_tup (paa_cons (ok_slot (pv 15)) paa_nil)) paa_nil)))) (pv 15)) (ss_one (s_ret ok_bl)) ss_nil))))))))))))))) (ss_one (s_ret ok_bl))))
end
theorem all_mk {l : PySem.W.OpenLaw} {w : World} {K : PySem.W.Frag} {h : Heap} {mg : Str → Option Value} {fa : Addr} {f0 f1 f2 f3 f4 f5 f6 f7 f8 f9 f10 f11 f12 f13 t_FORMS : Addr} (X : K.In h) (G : h.Ns mainGlobals mg) (hfa : mg "law" = some (.ref fa))
    {od0 an0 : Option Addr} {sl0 : Array (Option Value)} {oc0 kV0 dc0 pm0 cd0 ct0 : Value}
    {od1 an1 : Option Addr} {sl1 : Array (Option Value)} {oc1 kV1 dc1 pm1 cd1 ct1 : Value}
    {od2 an2 : Option Addr} {sl2 : Array (Option Value)} {oc2 kV2 dc2 pm2 cd2 ct2 : Value}
    {od3 an3 : Option Addr} {sl3 : Array (Option Value)} {oc3 kV3 dc3 pm3 cd3 ct3 : Value}
    {od4 an4 : Option Addr} {sl4 : Array (Option Value)} {oc4 kV4 dc4 pm4 cd4 ct4 : Value}
    {od5 an5 : Option Addr} {sl5 : Array (Option Value)} {oc5 kV5 dc5 pm5 cd5 ct5 : Value}
    {od6 an6 : Option Addr} {sl6 : Array (Option Value)} {oc6 kV6 dc6 pm6 cd6 ct6 : Value}
    {od7 an7 : Option Addr} {sl7 : Array (Option Value)} {oc7 kV7 dc7 pm7 cd7 ct7 : Value}
    {od8 an8 : Option Addr} {sl8 : Array (Option Value)} {oc8 kV8 dc8 pm8 cd8 ct8 : Value}
    {od9 an9 : Option Addr} {sl9 : Array (Option Value)} {oc9 kV9 dc9 pm9 cd9 ct9 : Value}
    {od10 an10 : Option Addr} {sl10 : Array (Option Value)} {oc10 kV10 dc10 pm10 cd10 ct10 : Value}
    {od11 an11 : Option Addr} {sl11 : Array (Option Value)} {oc11 kV11 dc11 pm11 cd11 ct11 : Value}
    {od12 an12 : Option Addr} {sl12 : Array (Option Value)} {oc12 kV12 dc12 pm12 cd12 ct12 : Value}
    {od13 an13 : Option Addr} {sl13 : Array (Option Value)} {oc13 kV13 dc13 pm13 cd13 ct13 : Value}
    (a0 : PySem.W.nsIn K mainGlobals "_law_bag" = some (some (.ref f0))) (l0 : K.lookup f0 = some ⟨oc0, od0, .func (PySem.W.fnOf "_law_bag" "_law_bag" (defArgs d_u_law_bag) (defBody d_u_law_bag) (defScope d_u_law_bag) .none kV0 dc0 pm0 an0 cd0 ct0), sl0⟩) (c0 : PySem.W.codeIn K cd0 "_law_bag" = true) (k0 : PySem.W.keepIn K (.ref f0) = true)
    (a1 : PySem.W.nsIn K mainGlobals "_law_take" = some (some (.ref f1))) (l1 : K.lookup f1 = some ⟨oc1, od1, .func (PySem.W.fnOf "_law_take" "_law_take" (defArgs d_u_law_take) (defBody d_u_law_take) (defScope d_u_law_take) .none kV1 dc1 pm1 an1 cd1 ct1), sl1⟩) (c1 : PySem.W.codeIn K cd1 "_law_take" = true) (k1 : PySem.W.keepIn K (.ref f1) = true)
    (a2 : PySem.W.nsIn K mainGlobals "_law_some" = some (some (.ref f2))) (l2 : K.lookup f2 = some ⟨oc2, od2, .func (PySem.W.fnOf "_law_some" "_law_some" (defArgs d_u_law_some) (defBody d_u_law_some) (defScope d_u_law_some) .none kV2 dc2 pm2 an2 cd2 ct2), sl2⟩) (c2 : PySem.W.codeIn K cd2 "_law_some" = true) (k2 : PySem.W.keepIn K (.ref f2) = true)
    (a3 : PySem.W.nsIn K mainGlobals "_law_expression" = some (some (.ref f3))) (l3 : K.lookup f3 = some ⟨oc3, od3, .func (PySem.W.fnOf "_law_expression" "_law_expression" (defArgs d_u_law_expression) (defBody d_u_law_expression) (defScope d_u_law_expression) .none kV3 dc3 pm3 an3 cd3 ct3), sl3⟩) (c3 : PySem.W.codeIn K cd3 "_law_expression" = true) (k3 : PySem.W.keepIn K (.ref f3) = true)
    (a4 : PySem.W.nsIn K mainGlobals "_law_value" = some (some (.ref f4))) (l4 : K.lookup f4 = some ⟨oc4, od4, .func (PySem.W.fnOf "_law_value" "_law_value" (defArgs d_u_law_value) (defBody d_u_law_value) (defScope d_u_law_value) .none kV4 dc4 pm4 an4 cd4 ct4), sl4⟩) (c4 : PySem.W.codeIn K cd4 "_law_value" = true) (k4 : PySem.W.keepIn K (.ref f4) = true)
    (a5 : PySem.W.nsIn K mainGlobals "joined_terms" = some (some (.ref f5))) (l5 : K.lookup f5 = some ⟨oc5, od5, .func (PySem.W.fnOf "joined" "joined" (defArgs d_joined) (defBody d_joined) (defScope d_joined) .none kV5 dc5 pm5 an5 cd5 ct5), sl5⟩) (c5 : PySem.W.codeIn K cd5 "joined" = true) (k5 : PySem.W.keepIn K (.ref f5) = true)
    (a6 : PySem.W.nsIn K mainGlobals "parts_of" = some (some (.ref f6))) (l6 : K.lookup f6 = some ⟨oc6, od6, .func (PySem.W.fnOf "parts_of" "parts_of" (defArgs d_parts_of) (defBody d_parts_of) (defScope d_parts_of) .none kV6 dc6 pm6 an6 cd6 ct6), sl6⟩) (c6 : PySem.W.codeIn K cd6 "parts_of" = true) (k6 : PySem.W.keepIn K (.ref f6) = true)
    (a7 : PySem.W.nsIn K mainGlobals "value_of" = some (some (.ref f7))) (l7 : K.lookup f7 = some ⟨oc7, od7, .func (PySem.W.fnOf "value_of" "value_of" (defArgs d_value_of) (defBody d_value_of) (defScope d_value_of) .none kV7 dc7 pm7 an7 cd7 ct7), sl7⟩) (c7 : PySem.W.codeIn K cd7 "value_of" = true) (k7 : PySem.W.keepIn K (.ref f7) = true)
    (a8 : PySem.W.nsIn K mainGlobals "is_kept" = some (some (.ref f8))) (l8 : K.lookup f8 = some ⟨oc8, od8, .func (PySem.W.fnOf "is_kept" "is_kept" (defArgs d_is_kept) (defBody d_is_kept) (defScope d_is_kept) .none kV8 dc8 pm8 an8 cd8 ct8), sl8⟩) (c8 : PySem.W.codeIn K cd8 "is_kept" = true) (k8 : PySem.W.keepIn K (.ref f8) = true)
    (a9 : PySem.W.nsIn K mainGlobals "row_of" = some (some (.ref f9))) (l9 : K.lookup f9 = some ⟨oc9, od9, .func (PySem.W.fnOf "row_of" "row_of" (defArgs d_row_of) (defBody d_row_of) (defScope d_row_of) .none kV9 dc9 pm9 an9 cd9 ct9), sl9⟩) (c9 : PySem.W.codeIn K cd9 "row_of" = true) (k9 : PySem.W.keepIn K (.ref f9) = true)
    (a10 : PySem.W.nsIn K mainGlobals "_law_alike" = some (some (.ref f10))) (l10 : K.lookup f10 = some ⟨oc10, od10, .func (PySem.W.fnOf "_law_alike" "_law_alike" (defArgs d_u_law_alike) (defBody d_u_law_alike) (defScope d_u_law_alike) .none kV10 dc10 pm10 an10 cd10 ct10), sl10⟩) (c10 : PySem.W.codeIn K cd10 "_law_alike" = true) (k10 : PySem.W.keepIn K (.ref f10) = true)
    (a11 : PySem.W.nsIn K mainGlobals "ordered" = some (some (.ref f11))) (l11 : K.lookup f11 = some ⟨oc11, od11, .func (PySem.W.fnOf "ordered" "ordered" (defArgs d_ordered) (defBody d_ordered) (defScope d_ordered) .none kV11 dc11 pm11 an11 cd11 ct11), sl11⟩) (c11 : PySem.W.codeIn K cd11 "ordered" = true) (k11 : PySem.W.keepIn K (.ref f11) = true)
    (a12 : PySem.W.nsIn K mainGlobals "made_table" = some (some (.ref f12))) (l12 : K.lookup f12 = some ⟨oc12, od12, .func (PySem.W.fnOf "made_table" "made_table" (defArgs d_made_table) (defBody d_made_table) (defScope d_made_table) .none kV12 dc12 pm12 an12 cd12 ct12), sl12⟩) (c12 : PySem.W.codeIn K cd12 "made_table" = true) (k12 : PySem.W.keepIn K (.ref f12) = true)
    (a13 : PySem.W.nsIn K mainGlobals "law" = some (some (.ref f13))) (l13 : K.lookup f13 = some ⟨oc13, od13, .func (PySem.W.fnOf "law" "law" (defArgs d_law) (defBody d_law) (defScope d_law) .none kV13 dc13 pm13 an13 cd13 ct13), sl13⟩) (c13 : PySem.W.codeIn K cd13 "law" = true) (k13 : PySem.W.keepIn K (.ref f13) = true)
    (z_abs : PySem.W.nsIn K mainGlobals "abs" = some none)
    (z_bool : PySem.W.nsIn K mainGlobals "bool" = some none)
    (z_enumerate : PySem.W.nsIn K mainGlobals "enumerate" = some none)
    (z_int : PySem.W.nsIn K mainGlobals "int" = some none)
    (z_isinstance : PySem.W.nsIn K mainGlobals "isinstance" = some none)
    (z_len : PySem.W.nsIn K mainGlobals "len" = some none)
    (z_list : PySem.W.nsIn K mainGlobals "list" = some none)
    (z_range : PySem.W.nsIn K mainGlobals "range" = some none)
    (z_sorted : PySem.W.nsIn K mainGlobals "sorted" = some none)
    (z_str : PySem.W.nsIn K mainGlobals "str" = some none)
    (z_tuple : PySem.W.nsIn K mainGlobals "tuple" = some none)
    (z_zip : PySem.W.nsIn K mainGlobals "zip" = some none)
    (ye_EXPRESSION : ∃ t, PySem.W.nsIn K mainGlobals "EXPRESSION" = some (some (.str "e" t)))
    {es_FORMS : Array DictEntry} {en_FORMS : Nat} (y_FORMS : PySem.W.nsIn K mainGlobals "FORMS" = some (some (.ref t_FORMS))) (yl_FORMS : K.lookup t_FORMS = some ⟨.type "dict", none, .dict es_FORMS en_FORMS, #[]⟩) (yk_FORMS : PySem.W.KeysLit w.params es_FORMS.toList) (yw_FORMS : (t_FORMS == sysModules) = false)
    (ye_FORMS_col : ∃ t, PySem.W.nsIn K t_FORMS "col" = some (some (.str "n" t)))
    (ye_FORMS_num : ∃ t, PySem.W.nsIn K t_FORMS "num" = some (some (.str "n" t)))
    (ye_FORMS_add : ∃ t, PySem.W.nsIn K t_FORMS "add" = some (some (.str "ee" t)))
    (ye_FORMS_sub : ∃ t, PySem.W.nsIn K t_FORMS "sub" = some (some (.str "ee" t)))
    (ye_FORMS_mul : ∃ t, PySem.W.nsIn K t_FORMS "mul" = some (some (.str "ee" t)))
    (ye_FORMS_less : ∃ t, PySem.W.nsIn K t_FORMS "less" = some (some (.str "ee" t)))
    (ye_FORMS_same : ∃ t, PySem.W.nsIn K t_FORMS "same" = some (some (.str "ee" t)))
    (ye_FORMS_if : ∃ t, PySem.W.nsIn K t_FORMS "if" = some (some (.str "eee" t)))
    : ∃ fd : FuncData, (∀ (s : Shared) (v : Value), BindsTo s fd ⟨[v], []⟩ [("script", v)]) ∧ ∀ base : Heap, K.In base → base.Ns mainGlobals mg → FnOk l.prog w K mg base CX0 9 fa fd ["script"] (spP K F_law) := by
  have e := hfa.symm.trans (PySem.W.mg_of X G a13)
  cases e
  have F0 := fun_mk (st := d_u_law_bag) l0 c0 k0
  have b0 := F0.binds (ps := ["script"]) fun _ _ _ _ _ _ us hl => match us, hl with | [_], _ => rfl
  have F1 := fun_mk (st := d_u_law_take) l1 c1 k1
  have b1 := F1.binds (ps := ["bag", "many"]) fun _ _ _ _ _ _ us hl => match us, hl with | [_, _], _ => rfl
  have F2 := fun_mk (st := d_u_law_some) l2 c2 k2
  have b2 := F2.binds (ps := ["bag", "things"]) fun _ _ _ _ _ _ us hl => match us, hl with | [_, _], _ => rfl
  have F3 := fun_mk (st := d_u_law_expression) l3 c3 k3
  have b3 := F3.binds (ps := ["bag", "p", "width", "depth"]) fun _ _ _ _ _ _ us hl => match us, hl with | [_, _, _, _], _ => rfl
  have F4 := fun_mk (st := d_u_law_value) l4 c4 k4
  have b4 := F4.binds (ps := ["p", "e", "row"]) fun _ _ _ _ _ _ us hl => match us, hl with | [_, _, _], _ => rfl
  have F5 := fun_mk (st := d_joined) l5 c5 k5
  have b5 := F5.binds (ps := ["p", "word", "parts"]) fun _ _ _ _ _ _ us hl => match us, hl with | [_, _, _], _ => rfl
  have F6 := fun_mk (st := d_parts_of) l6 c6 k6
  have b6 := F6.binds (ps := ["e"]) fun _ _ _ _ _ _ us hl => match us, hl with | [_], _ => rfl
  have F7 := fun_mk (st := d_value_of) l7 c7 k7
  have b7 := F7.binds (ps := ["p", "e", "row"]) fun _ _ _ _ _ _ us hl => match us, hl with | [_, _, _], _ => rfl
  have F8 := fun_mk (st := d_is_kept) l8 c8 k8
  have b8 := F8.binds (ps := ["p", "e", "row"]) fun _ _ _ _ _ _ us hl => match us, hl with | [_, _, _], _ => rfl
  have F9 := fun_mk (st := d_row_of) l9 c9 k9
  have b9 := F9.binds (ps := ["p", "es", "row"]) fun _ _ _ _ _ _ us hl => match us, hl with | [_, _, _], _ => rfl
  have F10 := fun_mk (st := d_u_law_alike) l10 c10 k10
  have b10 := F10.binds (ps := ["found", "due"]) fun _ _ _ _ _ _ us hl => match us, hl with | [_, _], _ => rfl
  have F11 := fun_mk (st := d_ordered) l11 c11 k11
  have b11 := F11.binds (ps := ["table", "columns"]) fun _ _ _ _ _ _ us hl => match us, hl with | [_, _], _ => rfl
  have F12 := fun_mk (st := d_made_table) l12 c12 k12
  have b12 := F12.binds (ps := ["p", "step", "tables"]) fun _ _ _ _ _ _ us hl => match us, hl with | [_, _, _], _ => rfl
  have F13 := fun_mk (st := d_law) l13 c13 k13
  have b13 := F13.binds (ps := ["script"]) fun _ _ _ _ _ _ us hl => match us, hl with | [_], _ => rfl
  have T : Txt w K mg ⟨f0, _, f1, _, f2, _, f3, _, f4, _, f5, _, f6, _, f7, _, f8, _, f9, _, f10, _, f11, _, f12, _, fa, _, t_FORMS⟩ := ⟨k0, F0, b0, k1, F1, b1, k2, F2, b2, k3, F3, b3, k4, F4, b4, k5, F5, b5, k6, F6, b6, k7, F7, b7, k8, F8, b8, k9, F9, b9, k10, F10, b10, k11, F11, b11, k12, F12, b12, k13, F13, b13, PySem.W.mg_of X G a10, PySem.W.mg_of X G a0, PySem.W.mg_of X G a3, PySem.W.mg_of X G a2, PySem.W.mg_of X G a1, PySem.W.mg_of X G a4, PySem.W.mg_of X G a8, PySem.W.mg_of X G a5, PySem.W.mg_of X G a12, PySem.W.mg_of X G a11, PySem.W.mg_of X G a6, PySem.W.mg_of X G a9, PySem.W.mg_of X G a7, PySem.W.mg_none_of X G z_abs, PySem.W.mg_none_of X G z_bool, PySem.W.mg_none_of X G z_enumerate, PySem.W.mg_none_of X G z_int, PySem.W.mg_none_of X G z_isinstance, PySem.W.mg_none_of X G z_len, PySem.W.mg_none_of X G z_list, PySem.W.mg_none_of X G z_range, PySem.W.mg_none_of X G z_sorted, PySem.W.mg_none_of X G z_str, PySem.W.mg_none_of X G z_tuple, PySem.W.mg_none_of X G z_zip, (let ⟨t, h⟩ := ye_EXPRESSION; ⟨t, PySem.W.mg_of X G h⟩), PySem.W.mg_of X G y_FORMS, ⟨_, _, yl_FORMS, yk_FORMS, yw_FORMS⟩, ye_FORMS_col, ye_FORMS_num, ye_FORMS_add, ye_FORMS_sub, ye_FORMS_mul, ye_FORMS_less, ye_FORMS_same, ye_FORMS_if⟩
  exact ⟨_, fun s v => .of_eq rfl, fun base _ _ => o_law T⟩
theorem walk {l : PySem.W.OpenLaw} {q : Program} {loose : List Str} {XP : (Str → Option Value) → Heap → Prop} {YP : World → Heap → Prop} {d : DefRec} {K : Params → PySem.W.Frag} (plain : ∀ ns : List Int, ns.length ≤ 63 → F_law [.scr ns] = some (.sh (.bl true))) (hn : l.most = some 63) (hdf : d.params.defaults = [])
    (hY : ∀ (w : World) (h : Heap), YP w h → (K w.params).In h)
    (F : ∀ (w : World) (mg : Str → Option Value) (fa : Addr) (h : Heap), (K w.params).In h → h.Ns mainGlobals mg → mg d.name = some (.ref fa) →
      ∃ fd : FuncData, (∀ (s : Shared) (u : Value), BindsTo s fd ⟨[u], []⟩ [("script", u)]) ∧ ∀ base : Heap, (K w.params).In base → base.Ns mainGlobals mg → FnOk l.prog w (K w.params) mg base CX0 9 fa fd ["script"] (spP (K w.params) F_law)) :
    PySem.W.WalkO q loose XP YP l.row.toRowW d [] (fun f vs => PySem.call f vs) :=
  L2.walk_of (n := 63) (k := 9) (x := "script") (CX := fun _ => CX0) (sp := fun w => spP (K w.params) F_law) hn (by decide) hdf ⟨rfl, by decide, by decide⟩ hY F
    (fun _ _ a ns hl _ hS => spP_law (plain ns hl) hS) fun _ _ _ _ _ z => z
end K07
set_option Elab.async false
set_option linter.all false
set_option maxRecDepth 100000
set_option maxHeartbeats 4000000
namespace K07
open PySem L2 Fx

inductive W5 | add | sub | mul | less | same
def W5.s : W5 → Str
  | .add => "add" | .sub => "sub" | .mul => "mul" | .less => "less" | .same => "same"
inductive Ex where
  | col (i : Nat) | num (z : Int) | iff (a b c : Ex) | bin (w : W5) (a b : Ex)
def Ex.d : Ex → D
  | .col i => .tup [.str "col", .int (i : Nat)]
  | .num z => .tup [.str "num", .int z]
  | .iff a b c => .tup [.str "if", a.d, b.d, c.d]
  | .bin w a b => .tup [.str w.s, a.d, b.d]
def Ex.dep : Ex → Nat
  | .col _ => 0 | .num _ => 0
  | .iff a b c => max a.dep (max b.dep c.dep) + 1
  | .bin _ a b => max a.dep b.dep + 1
def Ex.ok (p : Int) (width : Nat) : Ex → Prop
  | .col i => i < width | .num z => 0 ≤ z ∧ z < p
  | .iff a b c => a.ok p width ∧ b.ok p width ∧ c.ok p width
  | .bin _ a b => a.ok p width ∧ b.ok p width
def W5.f (p x y : Int) : W5 → Int
  | .add => (x + y) % p | .sub => (x - y) % p | .mul => (x * y) % p
  | .less => if x < y then 1 else 0 | .same => if x = y then 1 else 0
def Ex.val (p : Int) (row : List Int) : Ex → Int
  | .col i => row.getD i 0
  | .num z => z
  | .iff a b c => if a.val p row ≠ 0 then b.val p row else c.val p row
  | .bin w a b => w.f p (a.val p row) (b.val p row)
structure RowOk (p : Int) (width : Nat) (row : List Int) : Prop where
  p1 : 2 < p
  p2 : p < 1000000
  len : row.length = width
  lt : ∀ x ∈ row, 0 ≤ x ∧ x < p
theorem val_lt {p : Int} {width : Nat} {row : List Int} (h : RowOk p width row) : ∀ {e : Ex}, e.ok p width → 0 ≤ e.val p row ∧ e.val p row < p
  | .col i, o => by
    have hi : i < row.length := by rw [h.len]; exact o
    have := h.lt row[i] (by simp)
    simpa [Ex.val, hi] using this
  | .num z, o => o
  | .iff a b c, o => by
    unfold Ex.val
    split
    · exact val_lt h o.2.1
    · exact val_lt h o.2.2
  | .bin w a b, o => by
    have hp := h.p1
    unfold Ex.val
    cases w <;> simp only [W5.f]
    · exact ⟨Int.emod_nonneg _ (by omega), Int.emod_lt_of_pos _ (by omega)⟩
    · exact ⟨Int.emod_nonneg _ (by omega), Int.emod_lt_of_pos _ (by omega)⟩
    · exact ⟨Int.emod_nonneg _ (by omega), Int.emod_lt_of_pos _ (by omega)⟩
    · split <;> omega
    · split <;> omega
def R (row : List Int) : D := .tup (row.map D.int)
theorem ok_s : (D.str "col").okq = true ∧ (D.str "num").okq = true ∧ (D.str "if").okq = true ∧ (D.str "less").okq = true ∧ (D.str "add").okq = true ∧ (D.str "sub").okq = true ∧ (D.str "mul").okq = true ∧ (D.str "same").okq = true ∧ (D.str "e").okq = true ∧ (D.str "keep").okq = true ∧ (D.str "map").okq = true ∧ (D.str "order").okq = true := by decide +kernel
theorem ne_s : ("col" : Str) ≠ "num" ∧ ("col" : Str) ≠ "if" ∧ ("col" : Str) ≠ "less" ∧ ("col" : Str) ≠ "add" ∧ ("col" : Str) ≠ "sub" ∧ ("col" : Str) ≠ "mul" ∧ ("col" : Str) ≠ "same" ∧ ("num" : Str) ≠ "col" ∧ ("num" : Str) ≠ "if" ∧ ("num" : Str) ≠ "less" ∧ ("num" : Str) ≠ "add" ∧ ("num" : Str) ≠ "sub" ∧ ("num" : Str) ≠ "mul" ∧ ("num" : Str) ≠ "same" ∧ ("if" : Str) ≠ "col" ∧ ("if" : Str) ≠ "num" ∧ ("if" : Str) ≠ "less" ∧ ("if" : Str) ≠ "add" ∧ ("if" : Str) ≠ "sub" ∧ ("if" : Str) ≠ "mul" ∧ ("if" : Str) ≠ "same" ∧ ("less" : Str) ≠ "col" ∧ ("less" : Str) ≠ "num" ∧ ("less" : Str) ≠ "if" ∧ ("less" : Str) ≠ "add" ∧ ("less" : Str) ≠ "sub" ∧ ("less" : Str) ≠ "mul" ∧ ("less" : Str) ≠ "same" ∧ ("add" : Str) ≠ "col" ∧ ("add" : Str) ≠ "num" ∧ ("add" : Str) ≠ "if" ∧ ("add" : Str) ≠ "less" ∧ ("add" : Str) ≠ "sub" ∧ ("add" : Str) ≠ "mul" ∧ ("add" : Str) ≠ "same" ∧ ("sub" : Str) ≠ "col" ∧ ("sub" : Str) ≠ "num" ∧ ("sub" : Str) ≠ "if" ∧ ("sub" : Str) ≠ "less" ∧ ("sub" : Str) ≠ "add" ∧ ("sub" : Str) ≠ "mul" ∧ ("sub" : Str) ≠ "same" ∧ ("mul" : Str) ≠ "col" ∧ ("mul" : Str) ≠ "num" ∧ ("mul" : Str) ≠ "if" ∧ ("mul" : Str) ≠ "less" ∧ ("mul" : Str) ≠ "add" ∧ ("mul" : Str) ≠ "sub" ∧ ("mul" : Str) ≠ "same" ∧ ("same" : Str) ≠ "col" ∧ ("same" : Str) ≠ "num" ∧ ("same" : Str) ≠ "if" ∧ ("same" : Str) ≠ "less" ∧ ("same" : Str) ≠ "add" ∧ ("same" : Str) ≠ "sub" ∧ ("same" : Str) ≠ "mul" ∧ ("keep" : Str) ≠ "map" ∧ ("map" : Str) ≠ "keep" ∧ ("order" : Str) ≠ "keep" ∧ ("order" : Str) ≠ "map" := by
  repeat' apply And.intro
  all_goals decide +kernel
theorem value1 {p : Int} {width : Nat} {row : List Int} (h : RowOk p width row) : ∀ (e : Ex) (j : Nat), e.ok p width → e.dep < j → F_u_law_value j [.int p, e.d, R row] = some (.sh (.int (e.val p row))) := by
  have hp := h.p1
  have hp0 : 0 < p := by omega
  have l2 : (2 : Nat) ≤ lim := by rw [lim_val]; omega
  have l3 : (3 : Nat) ≤ lim := by rw [lim_val]; omega
  intro e
  induction e with
  | col i =>
    intro j ho hj
    obtain ⟨j, rfl⟩ : ∃ k, j = k + 1 := ⟨j - 1, by omega⟩
    have hi : i < row.length := by rw [h.len]; exact ho
    have hx : atI (row.map D.int) (i : Int) = some (.int row[i]) := by rw [Fx.atI_nat]; simp [hi]
    have h2 : row.getD i 0 = row[i] := by simp [hi]
    simp [F_u_law_value, fnP, b_u_law_value, startE, Ex.d, ok_s, R, hx, Ex.val, atI_z, h2, hi, atI, ixN]
  | num z =>
    intro j ho hj
    obtain ⟨j, rfl⟩ : ∃ k, j = k + 1 := ⟨j - 1, by omega⟩
    simp [F_u_law_value, fnP, b_u_law_value, startE, Ex.d, ok_s, ne_s, R, Ex.val, atI, ixN]
  | iff a b c iha ihb ihc =>
    intro j ho hj
    obtain ⟨j, rfl⟩ : ∃ k, j = k + 1 := ⟨j - 1, by omega⟩
    have hj : max a.dep (max b.dep c.dep) + 1 < j + 1 := hj
    have ea := iha j ho.1 (by omega)
    have eb := ihb j ho.2.1 (by omega)
    have ec := ihc j ho.2.2 (by omega)
    by_cases q : a.val p row = 0
    · simp [F_u_law_value, fnP, b_u_law_value, startE, Ex.d, ok_s, ne_s, Ex.val, atI, ixN, cutD, HT.sIx, compN_cons, compN_nil, cStep, ea, eb, ec, l3, q]
    · simp [F_u_law_value, fnP, b_u_law_value, startE, Ex.d, ok_s, ne_s, Ex.val, atI, ixN, cutD, HT.sIx, compN_cons, compN_nil, cStep, ea, eb, ec, l3, q]
  | bin w a b iha ihb =>
    intro j ho hj
    obtain ⟨j, rfl⟩ : ∃ k, j = k + 1 := ⟨j - 1, by omega⟩
    have hj : max a.dep b.dep + 1 < j + 1 := hj
    have ea := iha j ho.1 (by omega)
    have eb := ihb j ho.2 (by omega)
    have va := val_lt h ho.1
    have sa : sm (a.val p row) = true := sm_of (by omega) (by have := h.p2; omega)
    cases w with
    | less =>
      by_cases q : a.val p row < b.val p row
      · simp [F_u_law_value, fnP, b_u_law_value, startE, Ex.d, ok_s, ne_s, Ex.val, atI, ixN, cutD, HT.sIx, compN_cons, compN_nil, cStep, ea, eb, l2, q, W5.s, W5.f, fInB, D.flat, memD, D.eqv]
      · simp [F_u_law_value, fnP, b_u_law_value, startE, Ex.d, ok_s, ne_s, Ex.val, atI, ixN, cutD, HT.sIx, compN_cons, compN_nil, cStep, ea, eb, l2, q, W5.s, W5.f, fInB, D.flat, memD, D.eqv]
    | same =>
      by_cases q : a.val p row = b.val p row
      · simp [F_u_law_value, fnP, b_u_law_value, startE, Ex.d, ok_s, ne_s, Ex.val, atI, ixN, cutD, HT.sIx, compN_cons, compN_nil, cStep, ea, eb, l2, q, W5.s, W5.f, fInB, D.flat, memD, D.eqv]
      · simp [F_u_law_value, fnP, b_u_law_value, startE, Ex.d, ok_s, ne_s, Ex.val, atI, ixN, cutD, HT.sIx, compN_cons, compN_nil, cStep, ea, eb, l2, q, W5.s, W5.f, fInB, D.flat, memD, D.eqv]
    | _ => simp [F_u_law_value, fnP, b_u_law_value, startE, Ex.d, ok_s, ne_s, Ex.val, atI, ixN, cutD, HT.sIx, compN_cons, compN_nil, cStep, ea, eb, l2, W5.s, W5.f, fInB, D.flat, memD, D.eqv, hp0, sa]

theorem look : tab_FORMS.lookup (Str.ofString "if") = some (.str "eee") ∧ tab_FORMS.lookup (Str.ofString "add") = some (.str "ee") ∧ tab_FORMS.lookup (Str.ofString "sub") = some (.str "ee") ∧ tab_FORMS.lookup (Str.ofString "mul") = some (.str "ee") ∧ tab_FORMS.lookup (Str.ofString "less") = some (.str "ee") ∧ tab_FORMS.lookup (Str.ofString "same") = some (.str "ee") := ⟨rfl, rfl, rfl, rfl, rfl, rfl⟩
theorem e3 : (D.str "eee").zseq = some [.str "e", .str "e", .str "e"] := rfl
theorem e2 : (D.str "ee").zseq = some [.str "e", .str "e"] := rfl
theorem parts3 (a b c : D) : F_parts_of [.tup [.str "if", a, b, c]] = some (.ol [a, b, c]) := by
  have l3 : (3 : Nat) ≤ lim := by rw [lim_val]; omega
  simp [-zseq_str, F_parts_of, fnP, b_parts_of, startE, atI, ixN, look, e3, cutD, HT.sIx, zipD_cons, zipD_nil, compN_cons, compN_nil, cStep, ok_s, l3]
theorem parts2 (w : W5) (a b : D) : F_parts_of [.tup [.str w.s, a, b]] = some (.ol [a, b]) := by
  have l2 : (2 : Nat) ≤ lim := by rw [lim_val]; omega
  cases w <;> simp [-zseq_str, F_parts_of, fnP, b_parts_of, startE, atI, ixN, look, e2, cutD, HT.sIx, zipD_cons, zipD_nil, compN_cons, compN_nil, cStep, ok_s, l2, W5.s]
theorem joined3 (p x y z : Int) : F_joined [.int p, .str "if", .lst [.int x, .int y, .int z]] = some (.sh (.int (if x ≠ 0 then y else z))) := by
  by_cases q : x = 0
  · simp [F_joined, fnP, b_joined, startE, atI, ixN, ok_s, ne_s, q]
  · simp [F_joined, fnP, b_joined, startE, atI, ixN, ok_s, ne_s, q]
theorem joined2 {p : Int} (hp : 0 < p) (w : W5) (x y : Int) (hx : sm x = true) : F_joined [.int p, .str w.s, .lst [.int x, .int y]] = some (.sh (.int (w.f p x y))) := by
  cases w with
  | less => by_cases q : x < y <;> simp [F_joined, fnP, b_joined, startE, atI, ixN, ok_s, ne_s, W5.s, W5.f, q]
  | same => by_cases q : x = y <;> simp [F_joined, fnP, b_joined, startE, atI, ixN, ok_s, ne_s, W5.s, W5.f, q]
  | _ => simp [F_joined, fnP, b_joined, startE, atI, ixN, ok_s, ne_s, W5.s, W5.f, hp, hx]
theorem value2 {p : Int} {width : Nat} {row : List Int} (h : RowOk p width row) : ∀ (e : Ex) (j : Nat), e.ok p width → e.dep < j → F_value_of j [.int p, e.d, R row] = some (.sh (.int (e.val p row))) := by
  have hp := h.p1
  have hp0 : 0 < p := by omega
  have l2 : (2 : Nat) ≤ lim := by rw [lim_val]; omega
  have l3 : (3 : Nat) ≤ lim := by rw [lim_val]; omega
  intro e
  induction e with
  | col i =>
    intro j ho hj
    obtain ⟨j, rfl⟩ : ∃ k, j = k + 1 := ⟨j - 1, by omega⟩
    have hi : i < row.length := by rw [h.len]; exact ho
    have hx : atI (row.map D.int) (i : Int) = some (.int row[i]) := by rw [Fx.atI_nat]; simp [hi]
    have h2 : row.getD i 0 = row[i] := by simp [hi]
    simp [F_value_of, fnP, b_value_of, startE, Ex.d, ok_s, R, hx, Ex.val, atI_z, h2, hi, atI, ixN]
  | num z =>
    intro j ho hj
    obtain ⟨j, rfl⟩ : ∃ k, j = k + 1 := ⟨j - 1, by omega⟩
    simp [F_value_of, fnP, b_value_of, startE, Ex.d, ok_s, ne_s, R, Ex.val, atI, ixN]
  | iff a b c iha ihb ihc =>
    intro j ho hj
    obtain ⟨j, rfl⟩ : ∃ k, j = k + 1 := ⟨j - 1, by omega⟩
    have hj : max a.dep (max b.dep c.dep) + 1 < j + 1 := hj
    have ea := iha j ho.1 (by omega)
    have eb := ihb j ho.2.1 (by omega)
    have ec := ihc j ho.2.2 (by omega)
    simp [F_value_of, fnP, b_value_of, startE, Ex.d, ok_s, ne_s, Ex.val, atI, ixN, parts3, joined3, compN_cons, compN_nil, cStep, ea, eb, ec, l3]
  | bin w a b iha ihb =>
    intro j ho hj
    obtain ⟨j, rfl⟩ : ∃ k, j = k + 1 := ⟨j - 1, by omega⟩
    have hj : max a.dep b.dep + 1 < j + 1 := hj
    have ea := iha j ho.1 (by omega)
    have eb := ihb j ho.2 (by omega)
    have va := val_lt h ho.1
    have sa : sm (a.val p row) = true := sm_of (by omega) (by have := h.p2; omega)
    have o1 : (D.str w.s).okq = true := by cases w <;> simp [W5.s, ok_s]
    have n1 : w.s ≠ "col" := by cases w <;> simp [W5.s, ne_s]
    have n2 : w.s ≠ "num" := by cases w <;> simp [W5.s, ne_s]
    simp [F_value_of, fnP, b_value_of, startE, Ex.d, ok_s, ne_s, Ex.val, atI, ixN, parts2, joined2 hp0, sa, compN_cons, compN_nil, cStep, ea, eb, l2, o1, n1, n2]
end K07
set_option Elab.async false
set_option linter.all false
set_option maxRecDepth 100000
set_option maxHeartbeats 4000000
namespace K07
open PySem L2 Fx
abbrev BagOk := Fx.L.BagOk
theorem take_ok {c : C} (h : BagOk c) {m : Int} (h1 : 1 ≤ m) (h2 : m < 1073741824) : ∃ v c', F_u_law_take c [.int m] = some (.sh (.int v), c') ∧ 0 ≤ v ∧ v < m ∧ BagOk c' := Fx.L.take_ok h h1 h2
theorem some_l {c : C} (h : BagOk c) {ds : List D} (hne : ds ≠ []) (hl : ds.length < 1073741824) : ∃ d ∈ ds, ∃ c', F_u_law_some c [.lst ds] = some (.sh d, c') ∧ BagOk c' := Fx.L.some_l h hne hl
theorem alike_ok {d : D} (hs : Fx.L.smp d = true) (hc : Fx.L.cnt d ≤ 1000000) : F_u_law_alike [d, d] = some (.sh (.bl true)) := Fx.L.alike_ok hs hc
theorem rng3 : rng 0 3 = [.int 0, .int 1, .int 2] := rfl
theorem okr {n : Int} (h : 0 ≤ n) (h2 : n ≤ 1000000) : okR n = true := okR_iff.mpr ⟨by omega, by omega⟩
theorem draw {p : Int} {width : Nat} (hp : 2 < p ∧ p < 1000000) (hw : 1 ≤ width ∧ width ≤ 100) : ∀ (n j : Nat) (c : C), n < j → BagOk c →
    ∃ (e : Ex) (c' : C), F_u_law_expression j c [.int p, .int (width : Int), .int (n : Int)] = some (.sh e.d, c') ∧ BagOk c' ∧ e.ok p width ∧ e.dep ≤ n := by
  have l2 : (2 : Nat) ≤ lim := by rw [lim_val]; omega
  have l3 : (3 : Nat) ≤ lim := by rw [lim_val]; omega
  have l4 : (4 : Nat) ≤ lim := by rw [lim_val]; omega
  have l5 : (5 : Nat) ≤ lim := by rw [lim_val]; omega
  have l1 : (1 : Nat) ≤ lim := by rw [lim_val]; omega
  have ok3 := okr (n := 3) (by decide) (by decide)
  intro n
  induction n with
  | zero =>
    intro j c hj hb
    obtain ⟨j, rfl⟩ : ∃ k, j = k + 1 := ⟨j - 1, by omega⟩
    obtain ⟨v, c1, e1, h1, h2, b1⟩ := take_ok hb (m := 8) (by decide) (by decide)
    obtain ⟨t, c2, e2, h3, h4, b2⟩ := take_ok b1 (m := 3) (by decide) (by decide)
    by_cases q : 0 < t
    · obtain ⟨i, c3, e3, h5, h6, b3⟩ := take_ok b2 (m := width) (by omega) (by omega)
      obtain ⟨k, rfl⟩ : ∃ k : Nat, i = k := ⟨i.toNat, by omega⟩
      refine ⟨.col k, c3, ?_, b3, (by show k < width; omega), Nat.le_refl _⟩
      simp [F_u_law_expression, fnB, b_u_law_expression, startE, e1, e2, q, e3, get0, Ex.d, l2]
    · obtain ⟨i, c3, e3, h5, h6, b3⟩ := take_ok b2 (m := p) (by omega) (by omega)
      refine ⟨.num i, c3, ?_, b3, ⟨h5, h6⟩, Nat.le_refl _⟩
      simp [F_u_law_expression, fnB, b_u_law_expression, startE, e1, e2, q, e3, get0, Ex.d, l2]
  | succ n ih =>
    intro j c hj hb
    obtain ⟨j, rfl⟩ : ∃ k, j = k + 1 := ⟨j - 1, by omega⟩
    obtain ⟨v, c1, e1, h1, h2, b1⟩ := take_ok hb (m := 8) (by decide) (by decide)
    have hn : ¬ ((n : Int) + 1 = 0) := by omega
    by_cases qv : v < 2
    · obtain ⟨t, c2, e2, h3, h4, b2⟩ := take_ok b1 (m := 3) (by decide) (by decide)
      by_cases q : 0 < t
      · obtain ⟨i, c3, e3, h5, h6, b3⟩ := take_ok b2 (m := width) (by omega) (by omega)
        obtain ⟨k, rfl⟩ : ∃ k : Nat, i = k := ⟨i.toNat, by omega⟩
        refine ⟨.col k, c3, ?_, b3, (by show k < width; omega), Nat.zero_le _⟩
        simp [F_u_law_expression, fnB, b_u_law_expression, startE, e1, e2, q, qv, hn, e3, get0, Ex.d, l2]
      · obtain ⟨i, c3, e3, h5, h6, b3⟩ := take_ok b2 (m := p) (by omega) (by omega)
        refine ⟨.num i, c3, ?_, b3, ⟨h5, h6⟩, Nat.zero_le _⟩
        simp [F_u_law_expression, fnB, b_u_law_expression, startE, e1, e2, q, qv, hn, e3, get0, Ex.d, l2]
    · by_cases q7 : v = 7
      · subst q7
        obtain ⟨ea, c2, e2, b2, oa, da⟩ := ih j c1 (by omega) b1
        obtain ⟨eb, c3, e3, b3, ob, db⟩ := ih j c2 (by omega) b2
        obtain ⟨ec, c4, e4, b4, oc, dc⟩ := ih j c3 (by omega) b3
        refine ⟨.iff ea eb ec, c4, ?_, b4, ⟨oa, ob, oc⟩, (by show max ea.dep (max eb.dep ec.dep) + 1 ≤ n + 1; omega)⟩
        simp [F_u_law_expression, fnB, b_u_law_expression, startE, e1, hn, get0, Ex.d, l1, l3, l4, ok3, rng3, compN_cons, compN_nil, cStep, Int.add_sub_cancel, e2, e3, e4]
      · obtain ⟨d, hd, c2, e2, b2⟩ := some_l b1 (ds := [.str "add", .str "sub", .str "mul", .str "less", .str "same"]) (by simp) (by decide)
        obtain ⟨w, rfl⟩ : ∃ w : W5, d = .str w.s := by
          simp only [List.mem_cons, List.not_mem_nil, or_false] at hd
          rcases hd with h | h | h | h | h
          · exact ⟨.add, h⟩
          · exact ⟨.sub, h⟩
          · exact ⟨.mul, h⟩
          · exact ⟨.less, h⟩
          · exact ⟨.same, h⟩
        obtain ⟨ea, c3, e3, b3, oa, da⟩ := ih j c2 (by omega) b2
        obtain ⟨eb, c4, e4, b4, ob, db⟩ := ih j c3 (by omega) b3
        refine ⟨.bin w ea eb, c4, ?_, b4, ⟨oa, ob⟩, (by show max ea.dep eb.dep + 1 ≤ n + 1; omega)⟩
        simp [F_u_law_expression, fnB, b_u_law_expression, startE, e1, hn, qv, q7, get0, Ex.d, l3, l5, Int.add_sub_cancel, e2, e3, e4]
end K07
set_option Elab.async false
set_option linter.all false
set_option maxRecDepth 100000
set_option maxHeartbeats 4000000
namespace K07
open PySem L2 Fx
def vals (p : Int) (es : List Ex) (row : List Int) : List Int := es.map fun e => e.val p row
theorem is_kept_ok {p : Int} {width : Nat} {row : List Int} (h : RowOk p width row) {e : Ex} (o : e.ok p width) (hd : e.dep < 5) : F_is_kept [.int p, e.d, R row] = some (.sh (.bl (!decide (e.val p row = 0)))) := by
  simp [F_is_kept, fnP, b_is_kept, startE, value2 h e 5 o hd]
theorem row_of_ok {p : Int} {width : Nat} {row : List Int} (h : RowOk p width row) {es : List Ex} (o : ∀ e ∈ es, e.ok p width ∧ e.dep < 5) (hl : es.length ≤ 1000) : F_row_of [.int p, .tup (es.map Ex.d), R row] = some (.sh (R (vals p es row))) := by
  have hc : compN [3] (.one 3) kYes (eCall (F_value_of 5) [.one (eSlot 0), .one (eSlot 3), .one (eSlot 2)]) (es.map Ex.d) [some (.sh (.int p)), some (.sh (.tup (es.map Ex.d))), some (.sh (R row)), none] = some (es.map fun e => D.int (e.val p row), [some (.sh (.int p)), some (.sh (.tup (es.map Ex.d))), some (.sh (R row)), none]) := by
    refine compN_map (f := Ex.d) fun e he => ?_
    simp [cStep, value2 h e 5 (o e he).1 (o e he).2]
  have hl2 : es.length ≤ lim := by rw [lim_val]; omega
  simp [F_row_of, fnP, b_row_of, startE, hc, hl2]
  simp [R, vals]
theorem sorted_T {l : List (List Int)} (h : ∀ ns ∈ l, ns ≠ []) : fSorted [.lst (l.map dTup)] = some (.ol ((isrt lexL l).map dTup)) := by
  have intsX : ∀ ns : List Int, intsOf (ns.map D.int) = some ns := by
    intro ns
    induction ns with
    | nil => rfl
    | cons x r ih => simp [intsOf, ih]
  have hT : ∀ l : List (List Int), (∀ ns ∈ l, ns ≠ []) → intTs (l.map dTup) = some l := by
    intro l
    induction l with
    | nil => intro _; rfl
    | cons x r ih =>
      intro h
      have hx := h x (by simp)
      have hx : x.isEmpty = false := by cases x with | nil => exact absurd rfl hx | cons => rfl
      have := ih fun y hy => h y (by simp [hy])
      show ((intsOf (x.map D.int)).bind fun ns => if ns.isEmpty then none else (intTs (r.map dTup)).bind fun l => some (ns :: l)) = _
      rw [intsX, this]; simp [h x (by simp)]
  cases l with
  | nil => rfl
  | cons x r =>
    have h1 : intsOf ((x :: r).map dTup) = none := rfl
    show (match intsOf ((x :: r).map dTup) with | some ns => some (C.ol ((isrt ltI ns).map D.int)) | none => (intTs ((x :: r).map dTup)).bind fun l => some (C.ol ((isrt lexL l).map dTup))) = _
    rw [h1, hT _ h]
    rfl
theorem enumD_map {α : Type} {l : List α} {f : α → D} : enumD (l.map f) = l.zipIdx.map fun q => .tup [.int (q.2 : Nat), f q.1] := by
  apply List.ext_getElem?
  intro i
  cases h : l[i]? with
  | none =>
    have hi : l.length ≤ i := by simpa using h
    rw [List.getElem?_eq_none (by simp [enumD, zipD]; omega), List.getElem?_eq_none (by simp; omega)]
  | some x =>
    rw [enumD_get (d := f x) (by simp [h])]
    simp [h]
def hd0 (l : List Int) : Int := l.getD 0 0
def ix1 (q : List Int) : Nat := (q.getD 1 0).toNat
def prs (t : List (List Int)) : List (List Int) := t.zipIdx.map fun q => [hd0 q.1, (q.2 : Nat)]
theorem prs_ne (t : List (List Int)) : ∀ ns ∈ prs t, ns ≠ [] := fun ns m => by
  unfold prs at m
  obtain ⟨q, _, rfl⟩ := List.mem_map.mp m
  simp
theorem prs_mem {t : List (List Int)} {q : List Int} (m : q ∈ isrt lexL (prs t)) : ∃ (w : Int) (i : Nat) (row : List Int), q = [w, (i : Int)] ∧ t[i]? = some row := by
  have m := (isrt_perm lexL (prs t)).mem_iff.mp m
  unfold prs at m
  obtain ⟨⟨row, i⟩, hm, rfl⟩ := List.mem_map.mp m
  have := List.mem_zipIdx hm
  refine ⟨_, i, row, rfl, ?_⟩
  have h2 := this.2.2
  have h1 : i < t.length := by omega
  rw [List.getElem?_eq_getElem h1, h2]; simp
def byP (t : List (List Int)) : List (List Int) := (isrt lexL (prs t)).map fun q => t.getD (ix1 q) []
theorem ordered_ok {t : List (List Int)} (hne : ∀ row ∈ t, row ≠ []) (hl : t.length ≤ 1000) : F_ordered [.tup (t.map R), .tup [.int 0]] = some (.sh (.tup ((byP t).map R))) := by
  have hl2 : t.length ≤ lim := by rw [lim_val]; omega
  have l1 : (1 : Nat) ≤ lim := by rw [lim_val]; omega
  have l2 : (2 : Nat) ≤ lim := by rw [lim_val]; omega
  have hc : compN [4, 5] (.tup [4, 5]) kYes (eTup [.star (eComp [3] (.one 3) (iV (eSlot 1)) kYes (eO fIx [(.slot 5), (.slot 3)])), .one (eSlot 4)]) (t.zipIdx.map fun q => .tup [.int (q.2 : Nat), R q.1]) [some (.sh (.tup (t.map R))), some (.sh (.tup [.int 0])), none, none, none, none]
      = some ((t.zipIdx.map fun q => dTup [hd0 q.1, (q.2 : Nat)]), [some (.sh (.tup (t.map R))), some (.sh (.tup [.int 0])), none, none, none, none]) := by
    refine compN_map (f := fun q : List Int × Nat => .tup [.int (q.2 : Nat), R q.1]) fun q hq => ?_
    have hr : q.1 ≠ [] := by
      obtain ⟨row, i⟩ := q
      have := (List.mem_zipIdx hq).2.2
      rw [this]
      exact hne _ (by simp)
    obtain ⟨x, r, hx⟩ : ∃ x r, q.1 = x :: r := by cases h : q.1 with | nil => exact absurd h hr | cons x r => exact ⟨x, r, rfl⟩
    simp [cStep, hx, R, dTup, hd0, compN_cons, compN_nil, atI_z, l1, l2]
  have he : (t.zipIdx.map fun q => dTup [hd0 q.1, (q.2 : Nat)]) = (prs t).map dTup := by simp [prs]
  have hs := sorted_T (prs_ne t)
  have hc2 : compN [3] (.one 3) kYes (eO fIx [(.slot 0), (.val (eO fIx [(.slot 3), (.val (eO fNeg [(.val (eC (.int 1)))]))]))]) ((isrt lexL (prs t)).map dTup) [some (.sh (.tup (t.map R))), some (.sh (.tup [.int 0])), some (.sh (.lst ((isrt lexL (prs t)).map dTup))), none, none, none]
      = some ((isrt lexL (prs t)).map fun q => R (t.getD (ix1 q) []), [some (.sh (.tup (t.map R))), some (.sh (.tup [.int 0])), some (.sh (.lst ((isrt lexL (prs t)).map dTup))), none, none, none]) := by
    refine compN_map (f := dTup) fun q hq => ?_
    obtain ⟨w, i, row, rfl, hi⟩ := prs_mem hq
    have hix : atI (t.map R) (i : Int) = some (R row) := by rw [Fx.atI_nat]; simp [hi]
    have h1 : atI [D.int w, D.int (i : Int)] (-1) = some (.int i) := by simp [atI, ixN]
    simp [cStep, dTup, h1, hix, hi, ix1]
  have hlp : (prs t).length ≤ lim := by simp [prs]; exact hl2
  have hlen : (isrt lexL (prs t)).length ≤ lim := by rw [(isrt_perm lexL (prs t)).length_eq]; simp [prs]; exact hl2
  simp [F_ordered, fnP, b_ordered, startE, enumD_map, hc, hl2, he, hs, hc2, hlen, hlp, byP]
theorem made_keep {p : Int} {width : Nat} {t : List (List Int)} (h : ∀ row ∈ t, RowOk p width row) {e : Ex} (o : e.ok p width) (hd : e.dep < 5) (hl : t.length ≤ 1000) :
    F_made_table [.int p, .tup [.str "keep", .str "a", e.d], .tup [.tup (t.map R)]] = some (.sh (.tup ((t.filter fun row => !decide (e.val p row = 0)).map R))) := by
  have hc : compN [5] (.one 5) (kVal (eCall F_is_kept [.one (eSlot 0), .one (eO fIx [(.slot 1), (.val (eC (.int 2)))]), .one (eSlot 5)])) (eSlot 5) (t.map R) [some (.sh (.int p)), some (.sh (.tup [.str "keep", .str "a", e.d])), some (.sh (.tup [.tup (t.map R)])), some (.sh (.str "keep")), some (.sh (.tup (t.map R))), none, none]
      = some ((t.filter fun row => !decide (e.val p row = 0)).map R, [some (.sh (.int p)), some (.sh (.tup [.str "keep", .str "a", e.d])), some (.sh (.tup [.tup (t.map R)])), some (.sh (.str "keep")), some (.sh (.tup (t.map R))), none, none]) := by
    refine compN_fil (f := R) (b := fun row => !decide (e.val p row = 0)) fun row hr => ?_
    by_cases q : e.val p row = 0 <;> simp [cStep, atI, ixN, is_kept_ok (h row hr) o hd, q]
  have hl2 : (t.filter fun row => !decide (e.val p row = 0)).length ≤ lim := Nat.le_trans (List.length_filter_le ..) (by rw [lim_val]; omega)
  simp [F_made_table, fnP, b_made_table, startE, ok_s, atI, ixN, hc, hl2]
theorem made_map {p : Int} {width : Nat} {t : List (List Int)} (h : ∀ row ∈ t, RowOk p width row) {es : List Ex} (o : ∀ e ∈ es, e.ok p width ∧ e.dep < 5) (he : es.length ≤ 1000) (hl : t.length ≤ 1000) :
    F_made_table [.int p, .tup [.str "map", .str "a", .tup (es.map Ex.d)], .tup [.tup (t.map R)]] = some (.sh (.tup (t.map fun row => R (vals p es row)))) := by
  have hc : compN [5] (.one 5) kYes (eCall F_row_of [.one (eSlot 0), .one (eO fIx [(.slot 1), (.val (eC (.int 2)))]), .one (eSlot 5)]) (t.map R) [some (.sh (.int p)), some (.sh (.tup [.str "map", .str "a", .tup (es.map Ex.d)])), some (.sh (.tup [.tup (t.map R)])), some (.sh (.str "map")), some (.sh (.tup (t.map R))), none, none]
      = some (t.map fun row => R (vals p es row), [some (.sh (.int p)), some (.sh (.tup [.str "map", .str "a", .tup (es.map Ex.d)])), some (.sh (.tup [.tup (t.map R)])), some (.sh (.str "map")), some (.sh (.tup (t.map R))), none, none]) := by
    refine compN_map (f := R) fun row hr => ?_
    simp [cStep, atI, ixN, row_of_ok (h row hr) o he]
  have hl2 : t.length ≤ lim := by rw [lim_val]; omega
  simp [F_made_table, fnP, b_made_table, startE, ok_s, ne_s, atI, ixN, hc, hl2]
theorem made_order {p : Int} {t : List (List Int)} (hne : ∀ row ∈ t, row ≠ []) (hl : t.length ≤ 1000) :
    F_made_table [.int p, .tup [.str "order", .str "a", .tup [.int 0]], .tup [.tup (t.map R)]] = some (.sh (.tup ((byP t).map R))) := by
  simp [F_made_table, fnP, b_made_table, startE, ok_s, ne_s, atI, ixN, ordered_ok hne hl]
end K07
set_option Elab.async false
set_option linter.all false
set_option maxRecDepth 100000
set_option maxHeartbeats 4000000
namespace K07
open PySem L2 Fx
theorem ints_of {P : Int → Prop} : ∀ {rs : List D}, (∀ r ∈ rs, ∃ z, r = .int z ∧ P z) → ∃ row : List Int, rs = row.map D.int ∧ row.length = rs.length ∧ ∀ x ∈ row, P x
  | [], _ => ⟨[], rfl, rfl, fun _ m => by cases m⟩
  | d :: rs, h => by
    obtain ⟨row, h1, h2, h3⟩ := ints_of (rs := rs) fun r m => h r (by simp [m])
    obtain ⟨z, rfl, hz⟩ := h d (by simp)
    refine ⟨z :: row, by rw [h1]; rfl, by simp [h2], fun x m => ?_⟩
    rcases List.mem_cons.mp m with e | m
    · subst e; exact hz
    · exact h3 x m
theorem exs_of {P : Ex → Prop} : ∀ {rs : List D}, (∀ r ∈ rs, ∃ z : Ex, r = z.d ∧ P z) → ∃ row : List Ex, rs = row.map Ex.d ∧ row.length = rs.length ∧ ∀ x ∈ row, P x
  | [], _ => ⟨[], rfl, rfl, fun _ m => by cases m⟩
  | d :: rs, h => by
    obtain ⟨row, h1, h2, h3⟩ := exs_of (rs := rs) fun r m => h r (by simp [m])
    obtain ⟨z, rfl, hz⟩ := h d (by simp)
    refine ⟨z :: row, by rw [h1]; rfl, by simp [h2], fun x m => ?_⟩
    rcases List.mem_cons.mp m with e | m
    · subst e; exact hz
    · exact h3 x m
/-- one more row is drawn -/
theorem l1_ok {p : Int} {width : Nat} (hp : 2 < p ∧ p < 1000000) (hw : 1 ≤ width ∧ width ≤ 100) {bag : C} (hb : BagOk bag) {L : List D} (hL : L.length ≤ 1000) {x0 x2 x5 x6 x8 x9 x10 x11 x12 x13 x14 x15 x16 x17 x18 x19 x20 : Option C} (h9 : calm1 (some x9) = true) :
    ∃ row bag', l1_law [x0, some bag, x2, some (.sh (.int p)), some (.sh (.int (width : Int))), x5, x6, some (.ol L), x8, x9, x10, x11, x12, x13, x14, x15, x16, x17, x18, x19, x20]
      = some (.nx [x0, some bag', x2, some (.sh (.int p)), some (.sh (.int (width : Int))), x5, x6, some (.ol (L ++ [R row])), x8, x9, x10, x11, x12, x13, x14, x15, x16, x17, x18, x19, x20]) ∧ BagOk bag' ∧ RowOk p width row := by
  have l5 : (5 : Nat) ≤ lim := by rw [lim_val]; omega
  obtain ⟨rs, e, hc, ⟨bag', rfl, hb'⟩, hlen, hr⟩ := compN_inv (vs := [9]) (t := .one 9) (c := kYes) (m := (eCallB F_u_law_some 1 [.one (eLst [.one (eC (.int 0)), .one (eC (.int 1)), .one (eC (.int 2)), .one (eO (fII gSub) [(.slot 3), (.val (eC (.int 1)))]), .one (eCallB F_u_law_take 1 [.one (eSlot 3)])])]))
    (I := fun e => ∃ b, e = [x0, some b, x2, some (.sh (.int p)), some (.sh (.int (width : Int))), x5, x6, some (.ol L), x8, none, x10, x11, x12, x13, x14, x15, x16, x17, x18, x19, x20] ∧ BagOk b) (R := fun _ r => ∃ z, r = .int z ∧ 0 ≤ z ∧ z < p) (ds := rng 0 (width : Int)) ⟨bag, rfl, hb⟩ (by
      rintro d hd e ⟨b, rfl, hb⟩
      obtain ⟨t, b1, e1, h1, h2, hb1⟩ := take_ok hb (m := p) (by omega) (by omega)
      obtain ⟨z, hz, b2, e2, hb2⟩ := some_l hb1 (ds := [.int 0, .int 1, .int 2, .int (p - 1), .int t]) (by simp) (by simp)
      refine ⟨z, _, ?_, ⟨b2, rfl, hb2⟩, ?_⟩
      · simp only [List.mem_cons, List.not_mem_nil, or_false] at hz
        rcases hz with h | h | h | h | h <;> subst h <;> simp [cStep, e1, e2, l5]
      · simp only [List.mem_cons, List.not_mem_nil, or_false] at hz
        rcases hz with h | h | h | h | h
        · exact ⟨_, h, by omega, by omega⟩
        · exact ⟨_, h, by omega, by omega⟩
        · exact ⟨_, h, by omega, by omega⟩
        · exact ⟨_, h, by omega, by omega⟩
        · exact ⟨_, h, by omega, by omega⟩)
  obtain ⟨row, rfl, hl, hrow⟩ := ints_of (P := fun z => 0 ≤ z ∧ z < p) (rs := rs) fun r m => by
    obtain ⟨d, _, z, h⟩ := hr r m
    exact ⟨z, h⟩
  have hlw : row.length = width := by rw [hl, hlen, rng_length]; omega
  refine ⟨row, bag', ?_, hb', ⟨hp.1, hp.2, hlw, hrow⟩⟩
  have ok := okr (n := (width : Int)) (by omega) (by omega)
  have hl1 : row.length ≤ lim := by rw [lim_val]; omega
  have hl2 : L.length < lim := by rw [lim_val]; omega
  simp [l1_law, ok, h9, hc, hl1, hl2, R]
end K07
set_option Elab.async false
set_option linter.all false
set_option maxRecDepth 100000
set_option maxHeartbeats 4000000
namespace K07
open PySem L2 Fx
open Fx.L (smp smps cnt cnts)
theorem smps_map {α : Type} {f : α → D} {l : List α} (h : ∀ a ∈ l, smp (f a) = true) : smps (l.map f) = true := by
  induction l with
  | nil => rfl
  | cons a l ih => simp [smps, h a (by simp), ih fun x m => h x (by simp [m])]
theorem cnts_map {α : Type} {f : α → D} {l : List α} {k : Nat} (h : ∀ a ∈ l, cnt (f a) ≤ k) : cnts (l.map f) ≤ l.length * k := by
  induction l with
  | nil => simp [cnts]
  | cons a l ih =>
    have h1 := h a (by simp)
    have h2 := ih fun x m => h x (by simp [m])
    simp only [List.map_cons, cnts, List.length_cons, Nat.add_mul, Nat.one_mul]
    omega
theorem smp_R (row : List Int) : smp (R row) = true := smps_map fun _ _ => rfl
theorem cnt_R (row : List Int) : cnt (R row) ≤ row.length + 1 := by
  have := cnts_map (f := D.int) (l := row) (k := 1) fun _ _ => Nat.le_refl _
  simp only [R, cnt]; omega
theorem l2_ok {p : Int} {width : Nat} {row : List Int} (h : RowOk p width row) {es : List Ex} (o : ∀ e ∈ es, e.ok p width ∧ e.dep < 5) (he : es.length ≤ 1000) {x0 x1 x2 x4 x6 x7 x8 x9 x11 x12 x13 x14 x15 x16 x17 x18 x19 x20 : Option C} (h12 : calm1 (some x12) = true) (h14 : calm1 (some x14) = true) :
    ∃ x11' x13', l2_law [x0, x1, x2, some (.sh (.int p)), x4, some (.sh (.tup (es.map Ex.d))), x6, x7, x8, x9, some (.sh (R row)), x11, x12, x13, x14, x15, x16, x17, x18, x19, x20]
      = some (.nx [x0, x1, x2, some (.sh (.int p)), x4, some (.sh (.tup (es.map Ex.d))), x6, x7, x8, x9, some (.sh (R row)), x11', x12, x13', x14, x15, x16, x17, x18, x19, x20]) := by
  have l3 : (3 : Nat) ≤ lim := by rw [lim_val]; omega
  have lv : (vals p es row).length = es.length := by simp [vals]
  have hl : es.length ≤ lim := by rw [lim_val]; omega
  have hc1 : compN [12] (.one 12) kYes (eCall (F_u_law_value 5) [.one (eSlot 3), .one (eSlot 12), .one (eSlot 10)]) (es.map Ex.d) [x0, x1, x2, some (.sh (.int p)), x4, some (.sh (.tup (es.map Ex.d))), x6, x7, x8, x9, some (.sh (R row)), x11, none, x13, x14, x15, x16, x17, x18, x19, x20]
      = some (es.map fun e => D.int (e.val p row), [x0, x1, x2, some (.sh (.int p)), x4, some (.sh (.tup (es.map Ex.d))), x6, x7, x8, x9, some (.sh (R row)), x11, none, x13, x14, x15, x16, x17, x18, x19, x20]) := by
    refine compN_map (f := Ex.d) fun e hm => ?_
    simp [cStep, value1 h e 5 (o e hm).1 (o e hm).2]
  have hev : (es.map fun e => D.int (e.val p row)) = (vals p es row).map D.int := by simp [vals]
  have hc2 : compN [12] (.one 12) kYes (eCall (F_value_of 5) [.one (eSlot 3), .one (eSlot 12), .one (eSlot 10)]) (es.map Ex.d) [x0, x1, x2, some (.sh (.int p)), x4, some (.sh (.tup (es.map Ex.d))), x6, x7, x8, x9, some (.sh (R row)), some (.sh (R (vals p es row))), none, x13, x14, x15, x16, x17, x18, x19, x20]
      = some (es.map fun e => D.int (e.val p row), [x0, x1, x2, some (.sh (.int p)), x4, some (.sh (.tup (es.map Ex.d))), x6, x7, x8, x9, some (.sh (R row)), some (.sh (R (vals p es row))), none, x13, x14, x15, x16, x17, x18, x19, x20]) := by
    refine compN_map (f := Ex.d) fun e hm => ?_
    simp [cStep, value2 h e 5 (o e hm).1 (o e hm).2]
  have hc3 : compN [12] (.one 12) kYes (eCall F_is_kept [.one (eSlot 3), .one (eSlot 12), .one (eSlot 10)]) (es.map Ex.d) [x0, x1, x2, some (.sh (.int p)), x4, some (.sh (.tup (es.map Ex.d))), x6, x7, x8, x9, some (.sh (R row)), some (.sh (R (vals p es row))), none, x13, x14, x15, x16, x17, x18, x19, x20]
      = some (es.map fun e => D.bl (!decide (e.val p row = 0)), [x0, x1, x2, some (.sh (.int p)), x4, some (.sh (.tup (es.map Ex.d))), x6, x7, x8, x9, some (.sh (R row)), some (.sh (R (vals p es row))), none, x13, x14, x15, x16, x17, x18, x19, x20]) := by
    refine compN_map (f := Ex.d) fun e hm => ?_
    simp [cStep, is_kept_ok h (o e hm).1 (o e hm).2]
  have hc4 : ∀ y, compN [14] (.one 14) kYes (eO fNe [(.slot 14), (.val (eC (.int 0)))]) ((vals p es row).map D.int) [x0, x1, x2, some (.sh (.int p)), x4, some (.sh (.tup (es.map Ex.d))), x6, x7, x8, x9, some (.sh (R row)), some (.sh (R (vals p es row))), x12, y, none, x15, x16, x17, x18, x19, x20]
      = some ((vals p es row).map fun v => D.bl (!decide (v = 0)), [x0, x1, x2, some (.sh (.int p)), x4, some (.sh (.tup (es.map Ex.d))), x6, x7, x8, x9, some (.sh (R row)), some (.sh (R (vals p es row))), x12, y, none, x15, x16, x17, x18, x19, x20]) := fun y => by
    refine compN_map (f := D.int) fun v hm => ?_
    simp [cStep]
  have heb : ((vals p es row).map fun v => D.bl (!decide (v = 0))) = es.map fun e => D.bl (!decide (e.val p row = 0)) := by simp [vals]
  have ha : F_u_law_alike [.lst [R (vals p es row), R (vals p es row), .lst (es.map fun e => D.bl (!decide (e.val p row = 0)))], .lst [R (vals p es row), R (vals p es row), .lst (es.map fun e => D.bl (!decide (e.val p row = 0)))]] = some (.sh (.bl true)) := by
    refine alike_ok ?_ ?_
    · simp [smp, smps, smp_R, smps_map]; exact smps_map fun _ _ => rfl
    · have a := cnt_R (vals p es row)
      have b := cnts_map (f := fun e : Ex => D.bl (!decide (e.val p row = 0))) (l := es) (k := 1) fun _ _ => Nat.le_refl _
      simp only [cnt, cnts]; omega
  refine ⟨some (.sh (R (vals p es row))), some (.sh (.lst [R (vals p es row), R (vals p es row), .lst (es.map fun e => D.bl (!decide (e.val p row = 0)))])), ?_⟩
  have r1 : D.tup ((vals p es row).map D.int) = R (vals p es row) := rfl
  have r2 : (R (vals p es row)).seq = some ((vals p es row).map D.int) := rfl
  unfold l2_law
  rw [seq_nx (e := [x0, x1, x2, some (.sh (.int p)), x4, some (.sh (.tup (es.map Ex.d))), x6, x7, x8, x9, some (.sh (R row)), some (.sh (R (vals p es row))), x12, x13, x14, x15, x16, x17, x18, x19, x20]) (by simp [h12, hc1, hl, hev, lv, r1])]
  rw [seq_nx (e := [x0, x1, x2, some (.sh (.int p)), x4, some (.sh (.tup (es.map Ex.d))), x6, x7, x8, x9, some (.sh (R row)), some (.sh (R (vals p es row))), x12, some (.ol [R (vals p es row), R (vals p es row), .lst (es.map fun e => D.bl (!decide (e.val p row = 0)))]), x14, x15, x16, x17, x18, x19, x20]) (by simp [h12, hc2, hc3, hl, hev, lv, r1, row_of_ok h o he, l3])]
  simp [h14, hc4, heb, ha, lv, hl, l3, r2]
end K07
set_option Elab.async false
set_option linter.all false
set_option maxRecDepth 100000
set_option maxHeartbeats 4000000
namespace K07
open PySem L2 Fx
open Fx.L (smp smps cnt cnts)
theorem forN_cnt {t : Tgt} {b : SM} (I : Nat → Fx.Env → Prop) {N : Nat} : ∀ {ds : List D} {env : Fx.Env} {k : Nat}, k + ds.length ≤ N → I k env → (∀ d ∈ ds, ∀ k env, k < N → I k env → ∃ e e', asgT t d env = some e ∧ b e = some (.nx e') ∧ I (k + 1) e') → ∃ e, forN t b ds env = some (.nx e) ∧ I (k + ds.length) e
  | [], env, k, _, h, _ => ⟨env, rfl, h⟩
  | d :: ds, env, k, hN, h, s => by
    rw [List.length_cons] at hN
    obtain ⟨e, e', h1, h2, h3⟩ := s d (by simp) k env (by omega) h
    obtain ⟨e2, h4, h5⟩ := forN_cnt I (ds := ds) (k := k + 1) (by omega) h3 fun x m => s x (by simp [m])
    refine ⟨e2, by rw [forN_cons, h1]; simp only [Option.bind_some, h2]; exact h4, ?_⟩
    rw [List.length_cons, show k + (ds.length + 1) = k + 1 + ds.length by omega]; exact h5
theorem rng6 : rng 0 6 = [.int 0, .int 1, .int 2, .int 3, .int 4, .int 5] := rfl
/-- the expressions are drawn -/
theorem es_ok {p : Int} {width : Nat} (hp : 2 < p ∧ p < 1000000) (hw : 1 ≤ width ∧ width ≤ 100) {bag : C} (hb : BagOk bag) {x0 x2 x5 x6 x7 x8 x9 x10 x11 x12 x13 x14 x15 x16 x17 x18 x19 x20 : Option C} (h6 : calm1 (some x6) = true) :
    ∃ e0 es bag', (sSet 5 (eO fTuple [(.val (eComp [6] (.one 6) (iR1 (.val (eO fAdd [(.val (eC (.int 1))), (.val (eCallB F_u_law_take 1 [.one (eC (.int 3))]))]))) kYes (eCallB (F_u_law_expression 5) 1 [.one (eSlot 3), .one (eSlot 4), .one (eC (.int 3))])))])) [x0, some bag, x2, some (.sh (.int p)), some (.sh (.int (width : Int))), x5, x6, x7, x8, x9, x10, x11, x12, x13, x14, x15, x16, x17, x18, x19, x20]
      = some (.nx [x0, some bag', x2, some (.sh (.int p)), some (.sh (.int (width : Int))), some (.sh (.tup ((e0 :: es).map Ex.d))), x6, x7, x8, x9, x10, x11, x12, x13, x14, x15, x16, x17, x18, x19, x20]) ∧ BagOk bag' ∧ (∀ e ∈ e0 :: es, e.ok p width ∧ e.dep < 4) ∧ (e0 :: es).length ≤ 10 := by
  obtain ⟨n, b1, e1, h1, h2, hb1⟩ := take_ok hb (m := 3) (by decide) (by decide)
  obtain ⟨m, rfl⟩ : ∃ m : Nat, n = m := ⟨n.toNat, by omega⟩
  obtain ⟨rs, e, hc, ⟨bag', rfl, hb'⟩, hlen, hr⟩ := compN_inv (vs := [6]) (t := .one 6) (c := kYes) (m := (eCallB (F_u_law_expression 5) 1 [.one (eSlot 3), .one (eSlot 4), .one (eC (.int 3))]))
    (I := fun e => ∃ b, e = [x0, some b, x2, some (.sh (.int p)), some (.sh (.int (width : Int))), x5, none, x7, x8, x9, x10, x11, x12, x13, x14, x15, x16, x17, x18, x19, x20] ∧ BagOk b) (R := fun _ r => ∃ z : Ex, r = z.d ∧ (z.ok p width ∧ z.dep < 4)) (ds := rng 0 (1 + (m : Int))) ⟨b1, rfl, hb1⟩ (by
      rintro d hd e ⟨b, rfl, hb⟩
      obtain ⟨z, b2, e2, hb2, o1, o2⟩ := draw hp hw 3 5 b (by decide) hb
      refine ⟨z.d, _, ?_, ⟨b2, rfl, hb2⟩, ⟨z, rfl, o1, by omega⟩⟩
      have e2' : F_u_law_expression 5 b [.int p, .int (width : Int), .int 3] = some (.sh z.d, b2) := e2
      unfold rng at hd
      obtain ⟨q, _, rfl⟩ := List.mem_map.mp hd
      simp [cStep, e2'])
  obtain ⟨row, rfl, hl, hrow⟩ := exs_of (P := fun z => z.ok p width ∧ z.dep < 4) (rs := rs) fun r m => by
    obtain ⟨d, _, z, h⟩ := hr r m
    exact ⟨z, h⟩
  have hlw : row.length = m + 1 := by rw [hl, hlen, rng_length]; omega
  cases row with
  | nil => simp at hlw
  | cons e0 es =>
    have ok : okR (1 + (m : Int)) = true := okR_iff.mpr ⟨by omega, by omega⟩
    have hl1 : es.length + 1 ≤ lim := by rw [lim_val]; simp at hlw; omega
    refine ⟨e0, es, bag', ?_, hb', hrow, by omega⟩
    simp only [List.map_cons] at hc
    simp [e1, ok, h6, hc, hl1]
theorem eqvs_map {α : Type} {f : α → D} {l : List α} (h : ∀ a ∈ l, D.eqv (f a) (f a) = true) : D.eqvs (l.map f) (l.map f) = true := by
  induction l with
  | nil => rfl
  | cons a l ih => simp [D.eqvs, h a (by simp), ih fun x m => h x (by simp [m])]
theorem okqs_map {α : Type} {f : α → D} {l : List α} (h : ∀ a ∈ l, D.okq (f a) = true) : D.okqs (l.map f) = true := by
  induction l with
  | nil => rfl
  | cons a l ih => simp [D.okqs, h a (by simp), ih fun x m => h x (by simp [m])]
theorem deps_map {α : Type} {f : α → D} {l : List α} {k : Nat} (h : ∀ a ∈ l, D.dep (f a) ≤ k) : D.deps (l.map f) ≤ k := by
  induction l with
  | nil => simp [D.deps]
  | cons a l ih => have h1 := h a (by simp); have h2 := ih fun x m => h x (by simp [m]); simp only [List.map_cons, D.deps]; omega
theorem ne_self (t : List (List Int)) : fNe [.tup (t.map R), .tup (t.map R)] = some (.sh (.bl false)) := by
  have e1 : ∀ row : List Int, D.eqv (R row) (R row) = true := fun row => by simp only [R, D.eqv]; exact eqvs_map fun a _ => by simp [D.eqv]
  have e2 : D.eqv (.tup (t.map R)) (.tup (t.map R)) = true := by simp only [D.eqv]; exact eqvs_map fun a _ => e1 a
  have o1 : ∀ row : List Int, D.okq (R row) = true := fun row => by simp only [R, D.okq]; exact okqs_map fun a _ => rfl
  have o2 : D.okq (.tup (t.map R)) = true := by simp only [D.okq]; exact okqs_map fun a _ => o1 a
  have d1 : ∀ row : List Int, D.dep (R row) ≤ 1 := fun row => by simp only [R, D.dep]; have := deps_map (f := D.int) (l := row) (k := 0) fun a _ => Nat.le_refl _; omega
  have d2 : D.dep (.tup (t.map R)) ≤ 63 := by simp only [D.dep]; have := deps_map (f := R) (l := t) (k := 1) fun a _ => d1 a; omega
  rw [fNe_v (by unfold D.cmpable; simp [o2, d2]), e2]; rfl
theorem l3_ok {bag : C} (hb : BagOk bag) {x0 x2 x3 x4 x5 x6 x7 x8 x9 x10 x11 x12 x13 x14 x15 x16 x17 x18 x19 x20 : Option C} (h6 : calm1 (some x6) = true) (h9 : calm1 (some x9) = true) (h10 : calm1 (some x10) = true) (h12 : calm1 (some x12) = true) (h14 : calm1 (some x14) = true) (h20 : calm1 (some x20) = true) :
    ∃ bag' y3 y4 y5 y7 y8 y10 y11 y13 y15 y16 y17 y18 y19, l3_law [x0, some bag, x2, x3, x4, x5, x6, x7, x8, x9, x10, x11, x12, x13, x14, x15, x16, x17, x18, x19, x20]
      = some (.nx [x0, some bag', x2, y3, y4, y5, x6, y7, y8, x9, y10, y11, x12, y13, x14, y15, y16, y17, y18, y19, x20]) ∧ BagOk bag' ∧ calm1 (some y10) = true := by
  have l2 : (2 : Nat) ≤ lim := by rw [lim_val]; omega
  have l3 : (3 : Nat) ≤ lim := by rw [lim_val]; omega
  have l4 : (4 : Nat) ≤ lim := by rw [lim_val]; omega
  have l1 : (1 : Nat) ≤ lim := by rw [lim_val]; omega
  obtain ⟨d, hd, b1, e1, hb1⟩ := some_l hb (ds := [.int 5, .int 7, .int 101, .int 10007]) (by simp) (by simp)
  obtain ⟨p, rfl, hp⟩ : ∃ p : Int, d = .int p ∧ 2 < p ∧ p < 1000000 := by
    simp only [List.mem_cons, List.not_mem_nil, or_false] at hd
    rcases hd with h | h | h | h
    · exact ⟨5, h, by decide, by decide⟩
    · exact ⟨7, h, by decide, by decide⟩
    · exact ⟨101, h, by decide, by decide⟩
    · exact ⟨10007, h, by decide, by decide⟩
  obtain ⟨w, b2, e2, w1, w2, hb2⟩ := take_ok hb1 (m := 4) (by decide) (by decide)
  obtain ⟨width, hwd, hw⟩ : ∃ width : Nat, 1 + w = (width : Int) ∧ 1 ≤ width ∧ width ≤ 100 := ⟨(1 + w).toNat, by omega, by omega, by omega⟩
  obtain ⟨ee, es, b3, e3, hb3, oe4, le⟩ := es_ok (x0 := x0) (x2 := x2) (x5 := x5) (x6 := x6) (x7 := x7) (x8 := x8) (x9 := x9) (x10 := x10) (x11 := x11) (x12 := x12) (x13 := x13) (x14 := x14) (x15 := x15) (x16 := x16) (x17 := x17) (x18 := x18) (x19 := x19) (x20 := x20) hp hw hb2 h6
  have oe : ∀ e ∈ ee :: es, e.ok p width ∧ e.dep < 5 := fun e m => ⟨(oe4 e m).1, by have := (oe4 e m).2; omega⟩
  -- the rows
  obtain ⟨f, hf, rows, b4, y8, rfl, hb4, hrows, hlr⟩ := forN_cnt (t := .one 8) (b := l1_law) (I := fun k e => ∃ rows b y8, e = [x0, some b, x2, some (.sh (.int p)), some (.sh (.int (width : Int))), some (.sh (.tup ((ee :: es).map Ex.d))), x6, some (.ol (rows.map R)), y8, x9, x10, x11, x12, x13, x14, x15, x16, x17, x18, x19, x20] ∧ BagOk b ∧ (∀ row ∈ rows, RowOk p width row) ∧ rows.length = k)
    (ds := rng 0 6) (k := 0) (N := 6) (by simp [rng6]) ⟨[], b3, x8, rfl, hb3, (fun _ m => by cases m), rfl⟩ (by
      rintro d hd k e hk6 ⟨rows, b, y8, rfl, hb, hr, hk⟩
      obtain ⟨row, b', hl, hb', hrow⟩ := l1_ok (x0 := x0) (x2 := x2) (x5 := some (.sh (.tup ((ee :: es).map Ex.d)))) (x6 := x6) (x8 := some (.sh d)) (x9 := x9) (x10 := x10) (x11 := x11) (x12 := x12) (x13 := x13) (x14 := x14) (x15 := x15) (x16 := x16) (x17 := x17) (x18 := x18) (x19 := x19) (x20 := x20) hp hw hb (L := rows.map R) (by simp; omega) h9
      refine ⟨_, _, rfl, hl, rows ++ [row], b', some (.sh d), by simp, hb', fun r m => ?_, by simp [hk]⟩
      rcases List.mem_append.mp m with m | m
      · exact hr r m
      · simp at m; subst m; exact hrow)
  have hlen6 : rows.length ≤ 1000 := by rw [hlr]; simp [rng6]
  -- each row is looked at
  obtain ⟨g, hg, y10, y11, y13, rfl, hy10⟩ := forN_inv (t := .one 10) (b := l2_law) (I := fun e => ∃ y10 y11 y13, e = [x0, some b4, x2, some (.sh (.int p)), some (.sh (.int (width : Int))), some (.sh (.tup ((ee :: es).map Ex.d))), x6, some (.sh (.lst (rows.map R))), y8, x9, y10, y11, x12, y13, x14, x15, x16, x17, x18, x19, x20] ∧ calm1 (some y10) = true)
    (ds := rows.map R) ⟨x10, x11, x13, rfl, h10⟩ (by
      rintro d hd e ⟨y10, y11, y13, rfl, hy⟩
      obtain ⟨row, hr, rfl⟩ := List.mem_map.mp hd
      obtain ⟨z11, z13, hz⟩ := l2_ok (hrows row hr) oe (by omega) (x0 := x0) (x1 := some b4) (x2 := x2) (x4 := some (.sh (.int (width : Int)))) (x6 := x6) (x7 := some (.sh (.lst (rows.map R)))) (x8 := y8) (x9 := x9) (x11 := y11) (x12 := x12) (x13 := y13) (x14 := x14) (x15 := x15) (x16 := x16) (x17 := x17) (x18 := x18) (x19 := x19) (x20 := x20) h12 h14
      exact ⟨_, _, rfl, hz, some (.sh (R row)), z11, z13, rfl, rfl⟩)
  have e2' : F_u_law_take b1 [.int 4] = some (.sh (.int w), b2) := e2
  unfold l3_law
  rw [seq_nx (e := [x0, some b2, x2, some (.sh (.int p)), some (.sh (.int (width : Int))), x5, x6, x7, x8, x9, x10, x11, x12, x13, x14, x15, x16, x17, x18, x19, x20]) (by simp [e1, e2', l2, l4, hwd])]
  rw [seq_nx e3]
  rw [seq_nx (e := [x0, some b3, x2, some (.sh (.int p)), some (.sh (.int (width : Int))), some (.sh (.tup ((ee :: es).map Ex.d))), x6, some (.ol []), x8, x9, x10, x11, x12, x13, x14, x15, x16, x17, x18, x19, x20]) (by simp)]
  rw [seq_nx (e := [x0, some b4, x2, some (.sh (.int p)), some (.sh (.int (width : Int))), some (.sh (.tup ((ee :: es).map Ex.d))), x6, some (.ol (rows.map R)), y8, x9, x10, x11, x12, x13, x14, x15, x16, x17, x18, x19, x20]) (by simp only [List.map_nil] at hf; simp [-List.map_cons, hf])]
  rw [seq_nx (e := [x0, some b4, x2, some (.sh (.int p)), some (.sh (.int (width : Int))), some (.sh (.tup ((ee :: es).map Ex.d))), x6, some (.sh (.lst (rows.map R))), y8, x9, y10, y11, x12, y13, x14, x15, x16, x17, x18, x19, x20]) (by simp [-List.map_cons, hg])]
  rw [seq_nx (e := [x0, some b4, x2, some (.sh (.int p)), some (.sh (.int (width : Int))), some (.sh (.tup ((ee :: es).map Ex.d))), x6, some (.sh (.lst (rows.map R))), y8, x9, y10, y11, x12, y13, x14, some (.sh (.tup (rows.map R))), x16, x17, x18, x19, x20]) (by simp)]
  -- the tables
  have hi0 : atI ((ee :: es).map Ex.d) 0 = some ee.d := by simp [atI_z]
  have o0 := oe ee (by simp)
  generalize hkept : (rows.filter fun row => !decide (ee.val p row = 0)) = kept
  have lkept : kept.length ≤ 1000 := by rw [← hkept]; exact Nat.le_trans (List.length_filter_le ..) hlen6
  generalize hmapped : (rows.map fun row => vals p (ee :: es) row) = mapped
  have lmapped : mapped.length ≤ 1000 := by rw [← hmapped]; simpa using hlen6
  have hml : ∀ row ∈ mapped, row.length ≤ 10 ∧ row ≠ [] := by
    intro row m
    rw [← hmapped] at m
    obtain ⟨r, _, rfl⟩ := List.mem_map.mp m
    exact ⟨by simpa [vals] using le, by simp [vals]⟩
  have limk : kept.length ≤ lim := by rw [lim_val]; omega
  have limm : mapped.length ≤ lim := by rw [lim_val]; omega
  have hk : compN [10] (.one 10) (kVal (eO fNe [(.val (eCall (F_u_law_value 5) [.one (eSlot 3), .one (eO fIx [(.slot 5), (.val (eC (.int 0)))]), .one (eSlot 10)])), (.val (eC (.int 0)))])) (eSlot 10) (rows.map R) [x0, some b4, x2, some (.sh (.int p)), some (.sh (.int (width : Int))), some (.sh (.tup ((ee :: es).map Ex.d))), x6, some (.sh (.lst (rows.map R))), y8, x9, none, y11, x12, y13, x14, some (.sh (.tup (rows.map R))), x16, x17, x18, x19, x20]
      = some (kept.map R, [x0, some b4, x2, some (.sh (.int p)), some (.sh (.int (width : Int))), some (.sh (.tup ((ee :: es).map Ex.d))), x6, some (.sh (.lst (rows.map R))), y8, x9, none, y11, x12, y13, x14, some (.sh (.tup (rows.map R))), x16, x17, x18, x19, x20]) := by
    rw [← hkept]
    refine compN_fil (f := R) (b := fun row => !decide (ee.val p row = 0)) fun row hr => ?_
    by_cases q : ee.val p row = 0 <;> simp [-List.map_cons, cStep, hi0, value1 (hrows row hr) ee 5 o0.1 o0.2, q]
  rw [seq_nx (e := [x0, some b4, x2, some (.sh (.int p)), some (.sh (.int (width : Int))), some (.sh (.tup ((ee :: es).map Ex.d))), x6, some (.sh (.lst (rows.map R))), y8, x9, y10, y11, x12, y13, x14, some (.sh (.tup (rows.map R))), some (.sh (.tup (kept.map R))), x17, x18, x19, x20]) (by simp [-List.map_cons, hy10, hk, limk])]
  have hin : ∀ row ∈ rows, compN [12] (.one 12) kYes (eCall (F_u_law_value 5) [.one (eSlot 3), .one (eSlot 12), .one (eSlot 10)]) ((ee :: es).map Ex.d) [x0, some b4, x2, some (.sh (.int p)), some (.sh (.int (width : Int))), some (.sh (.tup ((ee :: es).map Ex.d))), x6, some (.sh (.lst (rows.map R))), y8, x9, some (.sh (R row)), y11, none, y13, x14, some (.sh (.tup (rows.map R))), some (.sh (.tup (kept.map R))), x17, x18, x19, x20]
      = some ((vals p (ee :: es) row).map D.int, [x0, some b4, x2, some (.sh (.int p)), some (.sh (.int (width : Int))), some (.sh (.tup ((ee :: es).map Ex.d))), x6, some (.sh (.lst (rows.map R))), y8, x9, some (.sh (R row)), y11, none, y13, x14, some (.sh (.tup (rows.map R))), some (.sh (.tup (kept.map R))), x17, x18, x19, x20]) := fun row hr => by
    have : (vals p (ee :: es) row).map D.int = (ee :: es).map fun e => D.int (e.val p row) := by simp [vals]
    rw [this]
    refine compN_map (f := Ex.d) fun e hm => ?_
    simp [-List.map_cons, cStep, value1 (hrows row hr) e 5 (oe e hm).1 (oe e hm).2]
  have hvl : ∀ row, (vals p (ee :: es) row).length ≤ lim := fun row => by rw [lim_val]; simp [vals] at *; omega
  have hm : compN [10] (.one 10) kYes (eO fTuple [(.val (eComp [12] (.one 12) (iV (eSlot 5)) kYes (eCall (F_u_law_value 5) [.one (eSlot 3), .one (eSlot 12), .one (eSlot 10)])))]) (rows.map R) [x0, some b4, x2, some (.sh (.int p)), some (.sh (.int (width : Int))), some (.sh (.tup ((ee :: es).map Ex.d))), x6, some (.sh (.lst (rows.map R))), y8, x9, none, y11, x12, y13, x14, some (.sh (.tup (rows.map R))), some (.sh (.tup (kept.map R))), x17, x18, x19, x20]
      = some (mapped.map R, [x0, some b4, x2, some (.sh (.int p)), some (.sh (.int (width : Int))), some (.sh (.tup ((ee :: es).map Ex.d))), x6, some (.sh (.lst (rows.map R))), y8, x9, none, y11, x12, y13, x14, some (.sh (.tup (rows.map R))), some (.sh (.tup (kept.map R))), x17, x18, x19, x20]) := by
    have : mapped.map R = rows.map fun row => R (vals p (ee :: es) row) := by rw [← hmapped]; simp
    rw [this]
    refine compN_map (f := R) fun row hr => ?_
    simp [-List.map_cons, cStep, h12, hin row hr, hvl row]
    rfl
  rw [seq_nx (e := [x0, some b4, x2, some (.sh (.int p)), some (.sh (.int (width : Int))), some (.sh (.tup ((ee :: es).map Ex.d))), x6, some (.sh (.lst (rows.map R))), y8, x9, y10, y11, x12, y13, x14, some (.sh (.tup (rows.map R))), some (.sh (.tup (kept.map R))), some (.sh (.tup (mapped.map R))), x18, x19, x20]) (by simp [-List.map_cons, hy10, hm, limm])]
  have mk := made_keep hrows o0.1 o0.2 hlen6
  rw [hkept] at mk
  have mm := made_map hrows oe (by omega) hlen6
  have : (rows.map fun row => R (vals p (ee :: es) row)) = mapped.map R := by rw [← hmapped]; simp
  rw [this] at mm
  rw [seq_nx (e := [x0, some b4, x2, some (.sh (.int p)), some (.sh (.int (width : Int))), some (.sh (.tup ((ee :: es).map Ex.d))), x6, some (.sh (.lst (rows.map R))), y8, x9, y10, y11, x12, y13, x14, some (.sh (.tup (rows.map R))), some (.sh (.tup (kept.map R))), some (.sh (.tup (mapped.map R))), some (.ol [.tup (kept.map R), .tup (mapped.map R)]), x19, x20]) (by simp [-List.map_cons, hi0, mk, mm, l3, l1, l2])]
  have ckept : cnts (kept.map R) ≤ 101000 := by
    have h1 : ∀ a ∈ kept, cnt (R a) ≤ 101 := fun a m => by
      have := cnt_R a
      rw [← hkept] at m
      have hr := (hrows a (List.mem_filter.mp m).1).len
      omega
    have := cnts_map h1
    have : kept.length * 101 ≤ 1000 * 101 := Nat.mul_le_mul_right _ lkept
    omega
  have cmapped : cnts (mapped.map R) ≤ 11000 := by
    have h1 : ∀ a ∈ mapped, cnt (R a) ≤ 11 := fun a m => by
      have := cnt_R a
      have := (hml a m).1
      omega
    have := cnts_map h1
    have : mapped.length * 11 ≤ 1000 * 11 := Nat.mul_le_mul_right _ lmapped
    omega
  have ha : F_u_law_alike [.lst [.tup (kept.map R), .tup (mapped.map R)], .lst [.tup (kept.map R), .tup (mapped.map R)]] = some (.sh (.bl true)) := by
    refine alike_ok ?_ ?_
    · have h1 := smps_map (f := R) (l := kept) fun a _ => smp_R a
      have h2 := smps_map (f := R) (l := mapped) fun a _ => smp_R a
      simp [smp, smps, h1, h2]
    · simp only [cnt, cnts]; omega
  rw [seq_nx (e := [x0, some b4, x2, some (.sh (.int p)), some (.sh (.int (width : Int))), some (.sh (.tup ((ee :: es).map Ex.d))), x6, some (.sh (.lst (rows.map R))), y8, x9, y10, y11, x12, y13, x14, some (.sh (.tup (rows.map R))), some (.sh (.tup (kept.map R))), some (.sh (.tup (mapped.map R))), some (.sh (.lst [.tup (kept.map R), .tup (mapped.map R)])), x19, x20]) (by simp [-List.map_cons, ha, l2])]
  have lp : (isrt lexL (prs mapped)).length ≤ lim := by rw [(isrt_perm lexL (prs mapped)).length_eq]; simp [prs]; exact limm
  have lq : (prs mapped).length ≤ lim := by simp [prs]; exact limm
  have hn1 : compN [10] (.one 10) kYes (eO fIx [(.slot 10), (.val (eC (.int 0)))]) (mapped.map R) [x0, some b4, x2, some (.sh (.int p)), some (.sh (.int (width : Int))), some (.sh (.tup ((ee :: es).map Ex.d))), x6, some (.sh (.lst (rows.map R))), y8, x9, none, y11, x12, y13, x14, some (.sh (.tup (rows.map R))), some (.sh (.tup (kept.map R))), some (.sh (.tup (mapped.map R))), some (.sh (.lst [.tup (kept.map R), .tup (mapped.map R)])), x19, x20] = some (mapped.map fun row => D.int (hd0 row), [x0, some b4, x2, some (.sh (.int p)), some (.sh (.int (width : Int))), some (.sh (.tup ((ee :: es).map Ex.d))), x6, some (.sh (.lst (rows.map R))), y8, x9, none, y11, x12, y13, x14, some (.sh (.tup (rows.map R))), some (.sh (.tup (kept.map R))), some (.sh (.tup (mapped.map R))), some (.sh (.lst [.tup (kept.map R), .tup (mapped.map R)])), x19, x20]) := by
    refine compN_map (f := R) fun row hr => ?_
    obtain ⟨x, r, rfl⟩ : ∃ x r, row = x :: r := by cases row with | nil => exact absurd rfl (hml _ hr).2 | cons x r => exact ⟨x, r, rfl⟩
    simp [cStep, R, atI_z, hd0]
  have hn2 : compN [20, 14] (.tup [20, 14]) kYes (eTup [.one (eSlot 14), .one (eSlot 20)]) (mapped.zipIdx.map fun q => D.tup [.int (q.2 : Nat), .int (hd0 q.1)]) [x0, some b4, x2, some (.sh (.int p)), some (.sh (.int (width : Int))), some (.sh (.tup ((ee :: es).map Ex.d))), x6, some (.sh (.lst (rows.map R))), y8, x9, y10, y11, x12, y13, none, some (.sh (.tup (rows.map R))), some (.sh (.tup (kept.map R))), some (.sh (.tup (mapped.map R))), some (.sh (.lst [.tup (kept.map R), .tup (mapped.map R)])), x19, none] = some ((prs mapped).map dTup, [x0, some b4, x2, some (.sh (.int p)), some (.sh (.int (width : Int))), some (.sh (.tup ((ee :: es).map Ex.d))), x6, some (.sh (.lst (rows.map R))), y8, x9, y10, y11, x12, y13, none, some (.sh (.tup (rows.map R))), some (.sh (.tup (kept.map R))), some (.sh (.tup (mapped.map R))), some (.sh (.lst [.tup (kept.map R), .tup (mapped.map R)])), x19, none]) := by
    have : (prs mapped).map dTup = mapped.zipIdx.map fun q => dTup [hd0 q.1, (q.2 : Nat)] := by simp [prs]
    rw [this]
    refine compN_map (f := fun q : List Int × Nat => D.tup [.int (q.2 : Nat), .int (hd0 q.1)]) fun q hq => ?_
    simp [cStep, dTup, l2]
  have hsr := sorted_T (prs_ne mapped)
  rw [seq_nx (e := [x0, some b4, x2, some (.sh (.int p)), some (.sh (.int (width : Int))), some (.sh (.tup ((ee :: es).map Ex.d))), x6, some (.sh (.lst (rows.map R))), y8, x9, y10, y11, x12, y13, x14, some (.sh (.tup (rows.map R))), some (.sh (.tup (kept.map R))), some (.sh (.tup (mapped.map R))), some (.sh (.lst [.tup (kept.map R), .tup (mapped.map R)])), some (.ol ((isrt lexL (prs mapped)).map dTup)), x20]) (by simp [-List.map_cons, hy10, hn1, limm, enumD_map, h14, h20, hn2, hsr, lq])]
  have mo := made_order (p := p) (fun row m => (hml row m).2) lmapped
  have hn3 : compN [14, 20] (.tup [14, 20]) kYes (eO fIx [(.slot 17), (.slot 20)]) ((isrt lexL (prs mapped)).map dTup) [x0, some b4, x2, some (.sh (.int p)), some (.sh (.int (width : Int))), some (.sh (.tup ((ee :: es).map Ex.d))), x6, some (.sh (.lst (rows.map R))), y8, x9, y10, y11, x12, y13, none, some (.sh (.tup (rows.map R))), some (.sh (.tup (kept.map R))), some (.sh (.tup (mapped.map R))), some (.sh (.lst [.tup (kept.map R), .tup (mapped.map R)])), some (.sh (.lst ((isrt lexL (prs mapped)).map dTup))), none] = some ((byP mapped).map R, [x0, some b4, x2, some (.sh (.int p)), some (.sh (.int (width : Int))), some (.sh (.tup ((ee :: es).map Ex.d))), x6, some (.sh (.lst (rows.map R))), y8, x9, y10, y11, x12, y13, none, some (.sh (.tup (rows.map R))), some (.sh (.tup (kept.map R))), some (.sh (.tup (mapped.map R))), some (.sh (.lst [.tup (kept.map R), .tup (mapped.map R)])), some (.sh (.lst ((isrt lexL (prs mapped)).map dTup))), none]) := by
    have : (byP mapped).map R = (isrt lexL (prs mapped)).map fun q => R (mapped.getD (ix1 q) []) := by simp [byP]
    rw [this]
    refine compN_map (f := dTup) fun q hq => ?_
    obtain ⟨w, i, row, rfl, hi⟩ := prs_mem hq
    have hix : atI (mapped.map R) (i : Int) = some (R row) := by rw [Fx.atI_nat]; simp [hi]
    simp [cStep, dTup, hix, hi, ix1]
  have lby : (byP mapped).length ≤ lim := by simp [byP]; exact lp
  have cby : cnts ((byP mapped).map R) ≤ 11000 := by
    have h1 : ∀ a ∈ byP mapped, cnt (R a) ≤ 11 := fun a m => by
      have := cnt_R a
      unfold byP at m
      obtain ⟨q, hq, rfl⟩ := List.mem_map.mp m
      obtain ⟨w, i, row, rfl, hi⟩ := prs_mem hq
      have hmem : row ∈ mapped := List.mem_of_getElem? hi
      have h2 := (hml row hmem).1
      have : mapped.getD (ix1 [w, (i : Int)]) [] = row := by simp [ix1, hi]
      rw [this]
      have := cnt_R row
      omega
    have := cnts_map h1
    have hl : (byP mapped).length ≤ 1000 := by simp [byP]; rw [(isrt_perm lexL (prs mapped)).length_eq]; simp [prs]; exact lmapped
    have : (byP mapped).length * 11 ≤ 1000 * 11 := Nat.mul_le_mul_right _ hl
    omega
  have ha2 : F_u_law_alike [.tup ((byP mapped).map R), .tup ((byP mapped).map R)] = some (.sh (.bl true)) := by
    refine alike_ok ?_ ?_
    · have h1 := smps_map (f := R) (l := byP mapped) fun a _ => smp_R a
      simp [smp, h1]
    · simp only [cnt]; omega
  rw [seq_nx (e := [x0, some b4, x2, some (.sh (.int p)), some (.sh (.int (width : Int))), some (.sh (.tup ((ee :: es).map Ex.d))), x6, some (.sh (.lst (rows.map R))), y8, x9, y10, y11, x12, y13, x14, some (.sh (.tup (rows.map R))), some (.sh (.tup (kept.map R))), some (.sh (.tup (mapped.map R))), some (.sh (.lst [.tup (kept.map R), .tup (mapped.map R)])), some (.sh (.lst ((isrt lexL (prs mapped)).map dTup))), x20]) (by simp [-List.map_cons, mo, l1, l3, h14, h20, hn3, lby, ha2])]
  have mk2 := made_keep (e := .bin .same ee ee) hrows ⟨o0.1, o0.1⟩ (by have := (oe4 ee (by simp)).2; show max ee.dep ee.dep + 1 < 5; omega) hlen6
  have hfil : (rows.filter fun row => !decide ((Ex.bin .same ee ee).val p row = 0)) = rows := by
    refine List.filter_eq_self.mpr fun row _ => ?_
    simp [Ex.val, W5.f]
  rw [hfil] at mk2
  have mk3 : F_made_table [.int p, .tup [.str "keep", .str "a", .tup [.str "same", ee.d, ee.d]], .tup [.tup (rows.map R)]] = some (.sh (.tup (rows.map R))) := mk2
  refine ⟨b4, some (.sh (.int p)), some (.sh (.int (width : Int))), some (.sh (.tup ((ee :: es).map Ex.d))), some (.sh (.lst (rows.map R))), y8, y10, y11, y13, some (.sh (.tup (rows.map R))), some (.sh (.tup (kept.map R))), some (.sh (.tup (mapped.map R))), some (.sh (.lst [.tup (kept.map R), .tup (mapped.map R)])), some (.sh (.lst ((isrt lexL (prs mapped)).map dTup))), ?_, hb4, hy10⟩
  simp [-List.map_cons, hi0, mk3, l1, l3, ne_self]
end K07
set_option Elab.async false
set_option linter.all false
set_option maxRecDepth 100000
set_option maxHeartbeats 4000000
namespace K07
open PySem L2 Fx
theorem bag_ok (ns : List Int) : ∃ c, F_u_law_bag [.scr ns] = some c ∧ BagOk c := Fx.L.bag_ok ns
theorem plain (ns : List Int) (_ : ns.length ≤ 63) : F_law [.scr ns] = some (.sh (.bl true)) := by
  obtain ⟨c, hc, hb⟩ := bag_ok ns
  obtain ⟨e, he, bag, x2, x3, x4, x5, x6, x7, x8, x9, x10, x11, x12, x13, x14, x15, x16, x17, x18, x19, x20, rfl, hb', _⟩ := forN_inv (t := .one 2) (b := l3_law)
    (I := fun e => ∃ bag x2 x3 x4 x5 x6 x7 x8 x9 x10 x11 x12 x13 x14 x15 x16 x17 x18 x19 x20, e = [some (.sh (.scr ns)), some bag, x2, x3, x4, x5, x6, x7, x8, x9, x10, x11, x12, x13, x14, x15, x16, x17, x18, x19, x20] ∧ BagOk bag ∧ calm1 (some x6) = true ∧ calm1 (some x9) = true ∧ calm1 (some x10) = true ∧ calm1 (some x12) = true ∧ calm1 (some x14) = true ∧ calm1 (some x20) = true)
    (ds := rng 0 6) (env := [some (.sh (.scr ns)), some c, none, none, none, none, none, none, none, none, none, none, none, none, none, none, none, none, none, none, none])
    ⟨c, none, none, none, none, none, none, none, none, none, none, none, none, none, none, none, none, none, none, none, rfl, hb, rfl, rfl, rfl, rfl, rfl, rfl⟩ (by
      rintro d hd e ⟨bag, x2, x3, x4, x5, x6, x7, x8, x9, x10, x11, x12, x13, x14, x15, x16, x17, x18, x19, x20, rfl, hb, h6, h9, h10, h12, h14, h20⟩
      obtain ⟨bag', y3, y4, y5, y7, y8, y10, y11, y13, y15, y16, y17, y18, y19, hl, hb', h10'⟩ := l3_ok hb (x0 := some (.sh (.scr ns))) (x2 := some (.sh d)) (x3 := x3) (x4 := x4) (x5 := x5) (x7 := x7) (x8 := x8) (x11 := x11) (x13 := x13) (x15 := x15) (x16 := x16) (x17 := x17) (x18 := x18) (x19 := x19) h6 h9 h10 h12 h14 h20
      exact ⟨_, _, rfl, hl, bag', _, y3, y4, y5, x6, y7, y8, x9, y10, y11, x12, y13, x14, y15, y16, y17, y18, y19, x20, rfl, hb', h6, h9, h10', h12, h14, h20⟩)
  unfold F_law fnP b_law
  simp [startE, hc, he, List.replicate]
end K07
open PySem PySem.W PyProof.Rows in
set_option maxRecDepth 100000 in
set_option maxHeartbeats 0 in
theorem PySem.Challenge.cw_nolooking_k07_words_of_expressions_for_r_holds : PySem.Challenge.rw_nolooking_k07_words_of_expressions_for_r.Holds := by
  w_on; o_law; k_head; (case hw => w_witness2)
  k_fill
  refine K07.walk (l := PySem.Challenge.rw_nolooking_k07_words_of_expressions_for_r) K07.plain rfl rfl (fun w h Y => PySem.W.kIn_of Y) ?F
  case F =>
    intro w mg fa h KX G hmg
    refine' K07.all_mk KX G hmg ?a0 ?l0 ?c0 ?k0 ?a1 ?l1 ?c1 ?k1 ?a2 ?l2 ?c2 ?k2 ?a3 ?l3 ?c3 ?k3 ?a4 ?l4 ?c4 ?k4 ?a5 ?l5 ?c5 ?k5 ?a6 ?l6 ?c6 ?k6 ?a7 ?l7 ?c7 ?k7 ?a8 ?l8 ?c8 ?k8 ?a9 ?l9 ?c9 ?k9 ?a10 ?l10 ?c10 ?k10 ?a11 ?l11 ?c11 ?k11 ?a12 ?l12 ?c12 ?k12 ?a13 ?l13 ?c13 ?k13 ?z_abs ?z_bool ?z_enumerate ?z_int ?z_isinstance ?z_len ?z_list ?z_range ?z_sorted ?z_str ?z_tuple ?z_zip ?ye_EXPRESSION ?y_FORMS ?yl_FORMS ?yk_FORMS ?yw_FORMS ?ye_FORMS_col ?ye_FORMS_num ?ye_FORMS_add ?ye_FORMS_sub ?ye_FORMS_mul ?ye_FORMS_less ?ye_FORMS_same ?ye_FORMS_if
    (case a0 => k_is)
    (case l0 => k_is)
    (case c0 => k_is)
    (case k0 => k_is)
    (case a1 => k_is)
    (case l1 => k_is)
    (case c1 => k_is)
    (case k1 => k_is)
    (case a2 => k_is)
    (case l2 => k_is)
    (case c2 => k_is)
    (case k2 => k_is)
    (case a3 => k_is)
    (case l3 => k_is)
    (case c3 => k_is)
    (case k3 => k_is)
    (case a4 => k_is)
    (case l4 => k_is)
    (case c4 => k_is)
    (case k4 => k_is)
    (case a5 => k_is)
    (case l5 => k_is)
    (case c5 => k_is)
    (case k5 => k_is)
    (case a6 => k_is)
    (case l6 => k_is)
    (case c6 => k_is)
    (case k6 => k_is)
    (case a7 => k_is)
    (case l7 => k_is)
    (case c7 => k_is)
    (case k7 => k_is)
    (case a8 => k_is)
    (case l8 => k_is)
    (case c8 => k_is)
    (case k8 => k_is)
    (case a9 => k_is)
    (case l9 => k_is)
    (case c9 => k_is)
    (case k9 => k_is)
    (case a10 => k_is)
    (case l10 => k_is)
    (case c10 => k_is)
    (case k10 => k_is)
    (case a11 => k_is)
    (case l11 => k_is)
    (case c11 => k_is)
    (case k11 => k_is)
    (case a12 => k_is)
    (case l12 => k_is)
    (case c12 => k_is)
    (case k12 => k_is)
    (case a13 => k_is)
    (case l13 => k_is)
    (case c13 => k_is)
    (case k13 => k_is)
    (case z_abs => k_is)
    (case z_bool => k_is)
    (case z_enumerate => k_is)
    (case z_int => k_is)
    (case z_isinstance => k_is)
    (case z_len => k_is)
    (case z_list => k_is)
    (case z_range => k_is)
    (case z_sorted => k_is)
    (case z_str => k_is)
    (case z_tuple => k_is)
    (case z_zip => k_is)
    (case ye_EXPRESSION => exact ⟨_, by k_is⟩)
    (case y_FORMS => k_is)
    (case yl_FORMS => k_is)
    (case yk_FORMS => k_keys)
    (case yw_FORMS => first | decide | rfl)
    (case ye_FORMS_col => exact ⟨_, by k_is⟩)
    (case ye_FORMS_num => exact ⟨_, by k_is⟩)
    (case ye_FORMS_add => exact ⟨_, by k_is⟩)
    (case ye_FORMS_sub => exact ⟨_, by k_is⟩)
    (case ye_FORMS_mul => exact ⟨_, by k_is⟩)
    (case ye_FORMS_less => exact ⟨_, by k_is⟩)
    (case ye_FORMS_same => exact ⟨_, by k_is⟩)
    (case ye_FORMS_if => exact ⟨_, by k_is⟩)
#print axioms PySem.Challenge.cw_nolooking_k07_words_of_expressions_for_r_holds
