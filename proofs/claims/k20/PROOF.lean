import PyProof.Rows.All
import Wide.All
import OpenK.AllK
import Wide.FinOn
import HandS.ForMost
import HandS.IsInst
import HandS.Conv
import HandS.Flow
import HandS.Zip
import HandS.SortInts
import HandS.TupAny
import HandS.Style
import HandS.Star
import HandS.NoneIn
import KE.GoesMore
import KE.GoesEnum
import KE.KDictZip
import HandS.More
import HandS.Proxy
import HandS.HeadHook3
import HandS.DictComp
import HandS.Deep
import KE.BitLaws
import HandS.SetFor
import HandS.Strs
import KE.DataMinMax
import KE.SortData
import PySem.Challenge.RW_nolooking_k20_networks_level_by_level
set_option Elab.async false
set_option linter.all false
set_option maxRecDepth 100000
set_option maxHeartbeats 4000000
noncomputable section
namespace Fx
open PySem L2
abbrev Fg := PySem.W.Frag

/-! ## data -/
inductive D where
  | non | bl (b : Bool) | int (i : Int) | str (x : Str)
  | tup (ds : List D) | lst (ds : List D)
  | dk (kvs : List (Key × D)) | dt (kvs : List (List Key × D))
  | scr (ns : List Int)
instance : Inhabited D := ⟨.non⟩

/- value v stands for d, in what never changes -/
mutual
inductive Rep (K : Fg) (G : Hp) : V → D → Prop
  | non : Rep K G .non .non
  | bl (b : Bool) : Rep K G (.bl b) (.bl b)
  | int (i : Int) : Rep K G (.int i) (.int i)
  | str (x : Str) : Rep K G (.str x) (.str x)
  | tup {a : Addr} {xs : List V} {ds : List D} : G a = some (.tup xs) → Reps K G xs ds → Rep K G (.ref a) (.tup ds)
  | lst {a : Addr} {xs : List V} {ds : List D} : G a = some (.lst xs) → Reps K G xs ds → Rep K G (.ref a) (.lst ds)
  | dk {a : Addr} {xs : List (Key × V)} {ds : List (Key × D)} : G a = some (.dK xs) → RepK K G xs ds → Rep K G (.ref a) (.dk ds)
  | dt {a : Addr} {xs : List (List Key × V)} {ds : List (List Key × D)} : G a = some (.dT xs) → RepT K G xs ds → Rep K G (.ref a) (.dt ds)
  | scr {a : Addr} {ns : List Int} : SqL K G a (ns.map V.int) → Rep K G (.ref a) (.scr ns)
inductive Reps (K : Fg) (G : Hp) : List V → List D → Prop
  | nil : Reps K G [] []
  | cons {v : V} {vs : List V} {d : D} {ds : List D} : Rep K G v d → Reps K G vs ds → Reps K G (v :: vs) (d :: ds)
inductive RepK (K : Fg) (G : Hp) : List (Key × V) → List (Key × D) → Prop
  | nil : RepK K G [] []
  | cons {k : Key} {v : V} {vs : List (Key × V)} {d : D} {ds : List (Key × D)} : Rep K G v d → RepK K G vs ds → RepK K G ((k, v) :: vs) ((k, d) :: ds)
inductive RepT (K : Fg) (G : Hp) : List (List Key × V) → List (List Key × D) → Prop
  | nil : RepT K G [] []
  | cons {k : List Key} {v : V} {vs : List (List Key × V)} {d : D} {ds : List (List Key × D)} : Rep K G v d → RepT K G vs ds → RepT K G ((k, v) :: vs) ((k, d) :: ds)
end

theorem Same.sqT {K : Fg} {G G' : Hp} {a : Addr} {xs : List V} (e : Same G G') (h : SqT K G a xs) : SqT K G' a xs := by
  rcases h with (h | ⟨o, h⟩) | h
  · exact .inl (.inl (e _ _ h))
  · exact .inl (.inr ⟨o, e _ _ h⟩)
  · exact .inr h

section
variable {K : Fg} {G G' : Hp}
mutual
theorem Rep.mono (e : Same G G') : ∀ {d : D} {v : V}, Rep K G v d → Rep K G' v d
  | _, _, .non => .non
  | _, _, .bl b => .bl b
  | _, _, .int i => .int i
  | _, _, .str x => .str x
  | _, _, .tup h r => .tup (e _ _ h) (Reps.mono e r)
  | _, _, .lst h r => .lst (e _ _ h) (Reps.mono e r)
  | _, _, .dk h r => .dk (e _ _ h) (RepK.mono e r)
  | _, _, .dt h r => .dt (e _ _ h) (RepT.mono e r)
  | _, _, .scr h => .scr (e.seq h)
theorem Reps.mono (e : Same G G') : ∀ {ds : List D} {vs : List V}, Reps K G vs ds → Reps K G' vs ds
  | _, _, .nil => .nil
  | _, _, .cons h r => .cons (Rep.mono e h) (Reps.mono e r)
theorem RepK.mono (e : Same G G') : ∀ {ds : List (Key × D)} {vs : List (Key × V)}, RepK K G vs ds → RepK K G' vs ds
  | _, _, .nil => .nil
  | _, _, .cons h r => .cons (Rep.mono e h) (RepK.mono e r)
theorem RepT.mono (e : Same G G') : ∀ {ds : List (List Key × D)} {vs : List (List Key × V)}, RepT K G vs ds → RepT K G' vs ds
  | _, _, .nil => .nil
  | _, _, .cons h r => .cons (Rep.mono e h) (RepT.mono e r)
end
theorem Reps.length : ∀ {ds : List D} {vs : List V}, Reps K G vs ds → vs.length = ds.length
  | _, _, .nil => rfl
  | _, _, .cons _ r => by simp [Reps.length r]
theorem Reps.get : ∀ {ds : List D} {vs : List V} {i : Nat} {v : V}, Reps K G vs ds → vs[i]? = some v → ∃ d, ds[i]? = some d ∧ Rep K G v d
  | _, _, _, _, .nil, h => by simp at h
  | _, _, 0, _, .cons h _, e => by simp at e; subst e; exact ⟨_, rfl, h⟩
  | _, _, i + 1, v, .cons _ r, e => by
    obtain ⟨d, h1, h2⟩ := Reps.get (i := i) r (by simpa using e)
    exact ⟨d, by simpa using h1, h2⟩
theorem Reps.getD : ∀ {ds : List D} {vs : List V} {i : Nat} {d : D}, Reps K G vs ds → ds[i]? = some d → ∃ v, vs[i]? = some v ∧ Rep K G v d
  | _, _, _, _, .nil, h => by simp at h
  | _, _, 0, _, .cons h _, e => by simp at e; subst e; exact ⟨_, rfl, h⟩
  | _, _, i + 1, v, .cons _ r, e => by
    obtain ⟨d, h1, h2⟩ := Reps.getD (i := i) r (by simpa using e)
    exact ⟨d, by simpa using h1, h2⟩
theorem Reps.append : ∀ {ds es : List D} {vs ws : List V}, Reps K G vs ds → Reps K G ws es → Reps K G (vs ++ ws) (ds ++ es)
  | _, _, _, _, .nil, s => s
  | _, _, _, _, .cons h r, s => .cons h (Reps.append r s)
theorem Reps.take : ∀ {ds : List D} {vs : List V} (n : Nat), Reps K G vs ds → Reps K G (vs.take n) (ds.take n)
  | _, _, 0, _ => by simp; exact .nil
  | _, _, _ + 1, .nil => .nil
  | _, _, n + 1, .cons h r => .cons h (Reps.take n r)
theorem Reps.drop : ∀ {ds : List D} {vs : List V} (n : Nat), Reps K G vs ds → Reps K G (vs.drop n) (ds.drop n)
  | _, _, 0, r => by simpa using r
  | _, _, _ + 1, .nil => .nil
  | _, _, n + 1, .cons h r => Reps.drop n r
theorem Reps.set {v : V} {d : D} (h : Rep K G v d) : ∀ {ds : List D} {vs : List V} (i : Nat), Reps K G vs ds → Reps K G (vs.set i v) (ds.set i d)
  | _, _, _, .nil => .nil
  | _, _, 0, .cons _ r => .cons h r
  | _, _, i + 1, .cons q r => .cons q (Reps.set h i r)
theorem Reps.rev : ∀ {ds : List D} {vs : List V}, Reps K G vs ds → Reps K G vs.reverse ds.reverse
  | _, _, .nil => .nil
  | _, _, .cons h r => by rw [List.reverse_cons, List.reverse_cons]; exact (Reps.rev r).append (.cons h .nil)
theorem reps_ints (ns : List Int) : Reps K G (ns.map V.int) (ns.map D.int) := by
  induction ns with
  | nil => exact .nil
  | cons n r ih => exact .cons (.int n) ih
theorem Reps.ints_inv {vs : List V} : ∀ {ns : List Int}, Reps K G vs (ns.map D.int) → vs = ns.map V.int := by
  intro ns
  induction ns generalizing vs with
  | nil => intro h; cases h; rfl
  | cons n r ih =>
    intro h
    cases h with
    | cons a b => cases a; rw [ih b]; rfl
end

/-! ## cells: shared data; a list, a dict of one's own -/
inductive C where
  | sh (d : D) | ol (ds : List D) | oll (dss : List (List D)) | odk (kvs : List (Key × D)) | odt (kvs : List (List Key × D))
instance : Inhabited C := ⟨.sh .non⟩

/-- lists at the places ls -/
inductive Inner (K : Fg) (G H : Hp) : List Addr → List (List D) → Prop
  | nil : Inner K G H [] []
  | cons {l : Addr} {ls : List Addr} {xs : List V} {ds : List D} {dss : List (List D)} : G l = none → H l = some (.lst xs) → Reps K G xs ds → Inner K G H ls dss → Inner K G H (l :: ls) (ds :: dss)

inductive RepC (K : Fg) (G H : Hp) : V → C → List Addr → Prop
  | sh {v : V} {d : D} : Rep K G v d → RepC K G H v (.sh d) []
  | ol {l : Addr} {xs : List V} {ds : List D} : G l = none → H l = some (.lst xs) → Reps K G xs ds → RepC K G H (.ref l) (.ol ds) [l]
  | oll {l : Addr} {ls : List Addr} {dss : List (List D)} : G l = none → H l = some (.lst (ls.map V.ref)) → Inner K G H ls dss → (l :: ls).Nodup → RepC K G H (.ref l) (.oll dss) (l :: ls)
  | odk {l : Addr} {xs : List (Key × V)} {ds : List (Key × D)} : G l = none → H l = some (.dK xs) → RepK K G xs ds → RepC K G H (.ref l) (.odk ds) [l]
  | odt {l : Addr} {xs : List (List Key × V)} {ds : List (List Key × D)} : G l = none → H l = some (.dT xs) → RepT K G xs ds → RepC K G H (.ref l) (.odt ds) [l]

def C.fz : C → D
  | .sh d => d | .ol ds => .lst ds | .oll dss => .lst (dss.map D.lst) | .odk kvs => .dk kvs | .odt kvs => .dt kvs

theorem Inner.mem {K : Fg} {G H : Hp} : ∀ {ls : List Addr} {dss : List (List D)}, Inner K G H ls dss → ∀ a ∈ ls, G a = none ∧ ∃ o, H a = some o
  | _, _, .nil, a, h => by cases h
  | _, _, .cons g h r i, a, m => by
    rcases List.mem_cons.mp m with e | m
    · subst e; exact ⟨g, _, h⟩
    · exact Inner.mem i a m
theorem Inner.mono {K : Fg} {G H G' H' : Hp} (e : Same G G') : ∀ {ls : List Addr} {dss : List (List D)}, Inner K G H ls dss → (∀ a ∈ ls, G' a = none) → (∀ a ∈ ls, ∀ o, H a = some o → H' a = some o) → Inner K G' H' ls dss
  | _, _, .nil, _, _ => .nil
  | _, _, .cons g h r i, k1, k2 => .cons (k1 _ (by simp)) (k2 _ (by simp) _ h) (r.mono e) (Inner.mono e i (fun a m => k1 a (by simp [m])) fun a m => k2 a (by simp [m]))
theorem RepC.mem {K : Fg} {G H : Hp} {v : V} {c : C} {f : List Addr} (h : RepC K G H v c f) : ∀ a ∈ f, G a = none ∧ ∃ o, H a = some o := by
  intro a m
  cases h with
  | sh => cases m
  | ol g h r => simp at m; subst m; exact ⟨g, _, h⟩
  | oll g h i n =>
    rcases List.mem_cons.mp m with e | m
    · subst e; exact ⟨g, _, h⟩
    · exact i.mem a m
  | odk g h r => simp at m; subst m; exact ⟨g, _, h⟩
  | odt g h r => simp at m; subst m; exact ⟨g, _, h⟩
theorem RepC.mono {K : Fg} {G H G' H' : Hp} {v : V} {c : C} {f : List Addr} (h : RepC K G H v c f) (e : Same G G') (k1 : ∀ a ∈ f, G' a = none) (k2 : ∀ a ∈ f, ∀ o, H a = some o → H' a = some o) : RepC K G' H' v c f := by
  cases h with
  | sh r => exact .sh (r.mono e)
  | ol g h r => exact .ol (k1 _ (by simp)) (k2 _ (by simp) _ h) (r.mono e)
  | oll g h i n => exact .oll (k1 _ (by simp)) (k2 _ (by simp) _ h) (i.mono e (fun a m => k1 a (by simp [m])) fun a m => k2 a (by simp [m])) n
  | odk g h r => exact .odk (k1 _ (by simp)) (k2 _ (by simp) _ h) (r.mono e)
  | odt g h r => exact .odt (k1 _ (by simp)) (k2 _ (by simp) _ h) (r.mono e)

/-- G with what H has at f -/
def addF (G H : Hp) (f : List Addr) : Hp := fun a => if a ∈ f then H a else G a
theorem addF_same {G H : Hp} {f : List Addr} (n : ∀ a ∈ f, G a = none) : Same G (addF G H f) := fun a o e => by
  unfold addF
  by_cases m : a ∈ f
  · rw [n a m] at e; cases e
  · rw [if_neg m]; exact e
theorem addF_sub {G H : Hp} {f : List Addr} (s : Same G H) : Same (addF G H f) H := fun a o e => by
  unfold addF at e
  by_cases m : a ∈ f
  · rw [if_pos m] at e; exact e
  · rw [if_neg m] at e; exact s a o e
theorem addF_gr {G H : Hp} {f : List Addr} {a : Addr} {o : HO} (e : addF G H f a = some o) : G a = some o ∨ a ∈ f := by
  unfold addF at e
  by_cases m : a ∈ f
  · exact .inr m
  · rw [if_neg m] at e; exact .inl e
theorem Inner.fz {K : Fg} {G H G' : Hp} (e : Same G G') : ∀ {ls : List Addr} {dss : List (List D)}, Inner K G H ls dss → (∀ a ∈ ls, ∀ o, H a = some o → G' a = some o) → Reps K G' (ls.map V.ref) (dss.map D.lst)
  | _, _, .nil, _ => .nil
  | _, _, .cons g h r i, k => .cons (.lst (k _ (by simp) _ h) (r.mono e)) (Inner.fz e i fun a m => k a (by simp [m]))
theorem RepC.fz {K : Fg} {G H : Hp} {v : V} {c : C} {f : List Addr} (h : RepC K G H v c f) : Rep K (addF G H f) v c.fz := by
  have s : Same G (addF G H f) := addF_same fun a m => (h.mem a m).1
  cases h with
  | sh r => exact r.mono s
  | ol g h r => exact .lst (by unfold addF; rw [if_pos (by simp)]; exact h) (r.mono s)
  | oll g h i n => exact .lst (by unfold addF; rw [if_pos (by simp)]; exact h) (i.fz s fun a m o e => by unfold addF; rw [if_pos (by simp [m])]; exact e)
  | odk g h r => exact .dk (by unfold addF; rw [if_pos (by simp)]; exact h) (r.mono s)
  | odt g h r => exact .dt (by unfold addF; rw [if_pos (by simp)]; exact h) (r.mono s)

/-! ## steps -/
structure Step (G H : Hp) (U : Addr → Prop) (G' H' : Hp) (U' : Addr → Prop) : Prop where
  sG : Same G G'
  keep : ∀ a o, H a = some o → ¬ U a → H' a = some o
  gr : ∀ a o, G' a = some o → G a = some o ∨ H a = none ∨ U a
  fr : ∀ a, U' a → U a ∨ H a = none
theorem Step.refl (G H : Hp) (U : Addr → Prop) : Step G H U G H U := ⟨fun _ _ h => h, fun _ _ h _ => h, fun _ _ h => .inl h, fun _ h => .inl h⟩
theorem Step.trans {G H G1 H1 G2 H2 : Hp} {U U1 U2 : Addr → Prop} (s : Step G H U G1 H1 U1) (t : Step G1 H1 U1 G2 H2 U2) : Step G H U G2 H2 U2 := by
  have back : ∀ a, H1 a = none → U a ∨ H a = none := fun a e => by
    by_cases u : U a
    · exact .inl u
    · cases q : H a with
      | none => exact .inr rfl
      | some o => rw [s.keep a o q u] at e; cases e
  have nu : ∀ a o, H a = some o → ¬ U a → ¬ U1 a := fun a o e u u1 => by
    rcases s.fr a u1 with z | z
    · exact u z
    · rw [e] at z; cases z
  refine ⟨fun a o e => t.sG a o (s.sG a o e), fun a o e u => t.keep a o (s.keep a o e u) (nu a o e u), fun a o e => ?_, fun a u => ?_⟩
  · rcases t.gr a o e with z | z | z
    · exact s.gr a o z
    · rcases back a z with z | z
      · exact .inr (.inr z)
      · exact .inr (.inl z)
    · rcases s.fr a z with z | z
      · exact .inr (.inr z)
      · exact .inr (.inl z)
  · rcases t.fr a u with z | z
    · exact s.fr a z
    · exact back a z
theorem Step.weak {G H G' H' : Hp} {U U' W W' : Addr → Prop} (s : Step G H U G' H' U') (h1 : ∀ a, U a → W a) (h2 : ∀ a, W' a → U' a ∨ W a ∨ H a = none) : Step G H W G' H' W' := by
  refine ⟨s.sG, fun a o e u => s.keep a o e fun z => u (h1 a z), fun a o e => ?_, fun a u => ?_⟩
  · rcases s.gr a o e with z | z | z
    · exact .inl z
    · exact .inr (.inl z)
    · exact .inr (.inr (h1 a z))
  · rcases h2 a u with z | z | z
    · rcases s.fr a z with z | z
      · exact .inl (h1 a z)
      · exact .inr z
    · exact .inl z
    · exact .inr z
/-- a cell that is not in U stays -/
theorem RepC.step {K : Fg} {G H G' H' : Hp} {U U' : Addr → Prop} {v : V} {c : C} {f : List Addr} (h : RepC K G H v c f) (s : Step G H U G' H' U') (n : ∀ a ∈ f, ¬ U a) : RepC K G' H' v c f := by
  refine h.mono s.sG (fun a m => ?_) fun a m o e => s.keep a o e (n a m)
  obtain ⟨g, o, e⟩ := h.mem a m
  cases q : G' a with
  | none => rfl
  | some o' =>
    rcases s.gr a o' q with z | z | z
    · rw [g] at z; cases z
    · rw [e] at z; cases z
    · exact absurd z (n a m)
theorem RepC.out {K : Fg} {G H G' H' : Hp} {U U' : Addr → Prop} {v : V} {c : C} {f : List Addr} (h : RepC K G H v c f) (s : Step G H U G' H' U') (n : ∀ a ∈ f, ¬ U a) : ∀ a ∈ f, ¬ U' a := fun a m u => by
  obtain ⟨g, o, e⟩ := h.mem a m
  rcases s.fr a u with z | z
  · exact n a m z
  · rw [e] at z; cases z

/-! ## the state -/
abbrev Env := List (Option C)
abbrev Fp := Nat → List Addr
def U (fp : Fp) : Addr → Prop := fun a => ∃ i, a ∈ fp i
structure Con (K : Fg) (σ : St) (env : Env) (G H : Hp) (fp : Fp) : Prop where
  sub : Same G H
  len : σ.length = env.length
  rep : ∀ i c, env[i]? = some (some c) → ∃ v, σ[i]? = some (some v) ∧ RepC K G H v c (fp i)
  nil : ∀ i, (∀ c, env[i]? ≠ some (some c)) → fp i = []
  dis : ∀ i j a, a ∈ fp i → a ∈ fp j → i = j
def Fp.set (fp : Fp) (i : Nat) (f : List Addr) : Fp := fun j => if j = i then f else fp j
theorem Fp.set_same {fp : Fp} {i : Nat} {f : List Addr} : (fp.set i f) i = f := if_pos rfl
theorem Fp.set_ne {fp : Fp} {i j : Nat} {f : List Addr} (h : j ≠ i) : (fp.set i f) j = fp j := if_neg h

/-- the state elsewhere: what is outside of what changed -/
theorem Con.step {K : Fg} {σ : St} {env : Env} {G H G' H' : Hp} {fp : Fp} {W W' : Addr → Prop} (c : Con K σ env G H fp) (s : Step G H W G' H' W') (n : ∀ a, U fp a → ¬ W a) (sub : Same G' H') : Con K σ env G' H' fp :=
  ⟨sub, c.len, fun i x e => by
    obtain ⟨v, e1, r⟩ := c.rep i x e
    exact ⟨v, e1, r.step s fun a m => n a ⟨i, m⟩⟩, c.nil, c.dis⟩
/-- slot i gets a cell -/
theorem Con.put {K : Fg} {σ : St} {env : Env} {G H : Hp} {fp : Fp} {i : Nat} {v : V} {x : C} {f : List Addr} (c : Con K σ env G H fp) (hi : i < env.length) (r : RepC K G H v x f) (n : ∀ a ∈ f, ∀ j, j ≠ i → a ∉ fp j) :
    Con K (σ.set i (some v)) (env.set i (some x)) G H (fp.set i f) := by
  refine ⟨c.sub, by simp [c.len], fun j y e => ?_, fun j h => ?_, fun j k a h1 h2 => ?_⟩
  · by_cases h : j = i
    · subst h
      rw [List.getElem?_set_self hi] at e
      cases e
      rw [Fp.set_same]
      exact ⟨v, List.getElem?_set_self (by rw [c.len]; exact hi), r⟩
    · rw [List.getElem?_set_ne (fun z => h z.symm)] at e
      rw [Fp.set_ne h, List.getElem?_set_ne (fun z => h z.symm)]
      exact c.rep j y e
  · by_cases q : j = i
    · subst q
      exact absurd (List.getElem?_set_self hi) (h x)
    · rw [Fp.set_ne q]
      exact c.nil j fun y e => h y (by rw [List.getElem?_set_ne (fun z => q z.symm)]; exact e)
  · by_cases hj : j = i
    · by_cases hk : k = i
      · rw [hj, hk]
      · subst hj
        rw [Fp.set_same] at h1
        rw [Fp.set_ne hk] at h2
        exact absurd h2 (n a h1 k hk)
    · by_cases hk : k = i
      · subst hk
        rw [Fp.set_same] at h2
        rw [Fp.set_ne hj] at h1
        exact absurd h1 (n a h2 j hj)
      · rw [Fp.set_ne hj] at h1
        rw [Fp.set_ne hk] at h2
        exact c.dis j k a h1 h2
/-- slot i is forgotten -/
theorem Con.drop {K : Fg} {σ σ' : St} {env : Env} {G H : Hp} {fp : Fp} {i : Nat} (c : Con K σ env G H fp) (hl : σ'.length = σ.length) (hs : ∀ j, j ≠ i → σ'[j]? = σ[j]?) :
    Con K σ' (env.set i none) G H (fp.set i []) := by
  refine ⟨c.sub, by simp [c.len, hl], fun j y e => ?_, fun j h => ?_, fun j k a h1 h2 => ?_⟩
  · by_cases h : j = i
    · subst h
      by_cases hi : j < env.length
      · rw [List.getElem?_set_self hi] at e; cases e
      · rw [List.getElem?_eq_none (by simpa using hi)] at e; cases e
    · rw [List.getElem?_set_ne (fun z => h z.symm)] at e
      rw [Fp.set_ne h, hs j h]
      exact c.rep j y e
  · by_cases q : j = i
    · subst q; exact Fp.set_same
    · rw [Fp.set_ne q]
      exact c.nil j fun y e => h y (by rw [List.getElem?_set_ne (fun z => q z.symm)]; exact e)
  · by_cases hj : j = i
    · subst hj; rw [Fp.set_same] at h1; cases h1
    · by_cases hk : k = i
      · subst hk; rw [Fp.set_same] at h2; cases h2
      · rw [Fp.set_ne hj] at h1
        rw [Fp.set_ne hk] at h2
        exact c.dis j k a h1 h2
theorem U_set {fp : Fp} {i : Nat} {f : List Addr} {a : Addr} (h : U (fp.set i f) a) : U fp a ∨ a ∈ f := by
  obtain ⟨j, m⟩ := h
  by_cases q : j = i
  · subst q; rw [Fp.set_same] at m; exact .inr m
  · rw [Fp.set_ne q] at m; exact .inl ⟨j, m⟩
end Fx
set_option Elab.async false
set_option linter.all false
set_option maxRecDepth 100000
set_option maxHeartbeats 4000000
noncomputable section
namespace Fx
open PySem L2

/-! ## readings -/
abbrev EM := Env → Option (C × Env)
abbrev TM := Env → Option (Bool × Env)
inductive Out where
  | nx (e : Env) | rt (c : C) (e : Env) | bk (e : Env) | ct (e : Env)
abbrev SM := Env → Option Out

/-- behind an expression -/
def EndE (K : Fg) (σ : St) (env' : Env) (c : C) (G H : Hp) (fp : Fp) (Q : VK) : Prop :=
  ∀ v G' H' fp' fr, Con K σ env' G' H' fp' → RepC K G' H' v c fr → (∀ a ∈ fr, ¬ U fp' a) → Step G H (U fp) G' H' (fun a => U fp' a ∨ a ∈ fr) → Q v H'
def tE (K : Fg) (m : EM) : TE := fun σ H Q => ∃ env G fp, Con K σ env G H fp ∧ ∃ c env', m env = some (c, env') ∧ EndE K σ env' c G H fp Q
def tT (K : Fg) (m : TM) : TT := fun σ H Q => ∃ env G fp, Con K σ env G H fp ∧ ∃ b env', m env = some (b, env') ∧
  ∀ G' H' fp', Con K σ env' G' H' fp' → Step G H (U fp) G' H' (U fp') → Q b H'
def EndS (K : Fg) (p : Nat) (σ : St) (G H : Hp) (fp : Fp) (D : Ends) : Out → Prop
  | .nx e => ∀ σ' G' H' fp', Con K σ' e G' H' fp' → Step G H (U fp) G' H' (U fp') → σ'.take p = σ.take p → D.nx σ' H'
  | .bk e => ∀ σ' G' H' fp', Con K σ' e G' H' fp' → Step G H (U fp) G' H' (U fp') → σ'.take p = σ.take p → D.bk σ' H'
  | .ct e => ∀ σ' G' H' fp', Con K σ' e G' H' fp' → Step G H (U fp) G' H' (U fp') → σ'.take p = σ.take p → D.ct σ' H'
  | .rt c e => ∀ v σ' G' H' fp' fr, Con K σ' e G' H' fp' → RepC K G' H' v c fr → (∀ a ∈ fr, ¬ U fp' a) → Step G H (U fp) G' H' (fun a => U fp' a ∨ a ∈ fr) → σ'.take p = σ.take p → D.rt v H'
def tS (K : Fg) (p : Nat) (m : SM) : TS := fun D σ H => ∃ env G fp, Con K σ env G H fp ∧ ∃ o, m env = some o ∧ EndS K p σ G H fp D o

def EOk (X : Cx) (e : Expr) (m : EM) : Prop := PE X e (tE X.K m)
def TOk (X : Cx) (e : Expr) (m : TM) : Prop := PT X e (tT X.K m)
def SOk (X : Cx) (p : Nat) (s : Stmt) (m : SM) : Prop := PS X s (tS X.K p m)
def SsOk (X : Cx) (p : Nat) (s : List Stmt) (m : SM) : Prop := PSs X s (tS X.K p m)

theorem pe_mono {X : Cx} {e : Expr} {t t' : TE} (h : PE X e t) (k : ∀ σ H Q, t' σ H Q → t σ H Q) : PE X e t' := ⟨fun pins s σ H Q I q => h.run pins s σ H Q I (k σ H Q q)⟩
theorem pt_mono {X : Cx} {e : Expr} {t t' : TT} (h : PT X e t) (k : ∀ σ H Q, t' σ H Q → t σ H Q) : PT X e t' := ⟨fun pins s σ H Q I q => h.run pins s σ H Q I (k σ H Q q)⟩
theorem ps_mono {X : Cx} {e : Stmt} {t t' : TS} (h : PS X e t) (k : ∀ D σ H, t' D σ H → t D σ H) : PS X e t' := ⟨fun pins s σ H D I q => h.run pins s σ H D I (k D σ H q)⟩
theorem pss_mono {X : Cx} {e : List Stmt} {t t' : TS} (h : PSs X e t) (k : ∀ D σ H, t' D σ H → t D σ H) : PSs X e t' := ⟨fun pins s σ H D I q => h.run pins s σ H D I (k D σ H q)⟩
theorem pa_mono {X : Cx} {e : List Expr} {t t' : TA} (h : PA X e t) (k : ∀ σ H Q, t' σ H Q → t σ H Q) : PA X e t' := ⟨fun pos pins s σ H Q I q => h.run pos pins s σ H Q I (k σ H Q q)⟩

/-! ## no change, a new object -/
theorem none_of_same {G H : Hp} {p : Addr} (s : Same G H) (h : H p = none) : G p = none := s.free h
theorem same_new {H : Hp} {p : Addr} {o : HO} (h : H p = none) : Same H (upd H p o) := fun a u e => by rw [upd_ne (ne_of_none e h)]; exact e
theorem same_upd2 {G H : Hp} {p : Addr} {o : HO} (s : Same G H) (h : H p = none) : Same (upd G p o) (upd H p o) := fun a u e => by
  by_cases q : a = p
  · subst q; rw [upd_same] at e ⊢; exact e
  · rw [upd_ne q] at e ⊢; exact s a u e
/-- a new object that is shared at once -/
theorem Step.newG {G H : Hp} {p : Addr} {o : HO} (s : Same G H) (h : H p = none) : Step G H (fun _ => False) (upd G p o) (upd H p o) (fun _ => False) :=
  ⟨same_new (none_of_same s h), fun a u e _ => by rw [upd_ne (ne_of_none e h)]; exact e, fun a u e => by
    by_cases q : a = p
    · subst q; exact .inr (.inl h)
    · rw [upd_ne q] at e; exact .inl e, fun a f => f.elim⟩
/-- a new object of one's own -/
theorem Step.newH {G H : Hp} {p : Addr} {o : HO} (h : H p = none) : Step G H (fun _ => False) G (upd H p o) (fun a => a ∈ [p]) :=
  ⟨fun _ _ e => e, fun a u e _ => by rw [upd_ne (ne_of_none e h)]; exact e, fun a u e => .inl e, fun a f => by simp at f; subst f; exact .inr h⟩
theorem same_newH {G H : Hp} {p : Addr} {o : HO} (s : Same G H) (h : H p = none) : Same G (upd H p o) := fun a u e => by rw [upd_ne (ne_of_none (s a u e) h)]; exact s a u e
/-- freezing -/
theorem Step.fz {K : Fg} {G H : Hp} {v : V} {c : C} {f : List Addr} (r : RepC K G H v c f) : Step G H (fun a => a ∈ f) (addF G H f) H (fun _ => False) :=
  ⟨addF_same fun a m => (r.mem a m).1, fun a o e _ => e, fun a o e => (addF_gr e).elim .inl fun z => .inr (.inr z), fun a z => z.elim⟩

/-- W is free of the state: what EndE asks behind a further step -/
theorem EndE.end_ {K : Fg} {σ : St} {env : Env} {c : C} {G H G1 H1 G2 H2 : Hp} {fp fp1 : Fp} {Q : VK} {v : V} {fr : List Addr} {W : Addr → Prop}
    (k : EndE K σ env c G H fp Q) (con : Con K σ env G1 H1 fp1) (s1 : Step G H (U fp) G1 H1 (fun a => U fp1 a ∨ W a)) (hw : ∀ a, W a → ¬ U fp1 a)
    (s2 : Step G1 H1 W G2 H2 (fun a => a ∈ fr)) (sub : Same G2 H2) (r : RepC K G2 H2 v c fr) : Q v H2 := by
  have con2 : Con K σ env G2 H2 fp1 := con.step s2 (fun a u w => hw a w u) sub
  have nu : ∀ a ∈ fr, ¬ U fp1 a := fun a m u => by
    rcases s2.fr a m with z | z
    · exact hw a z u
    · obtain ⟨i, hi⟩ := u
      have : ∃ x, env[i]? = some (some x) := by
        refine Classical.byContradiction fun no => ?_
        have e := con.nil i fun x e => no ⟨x, e⟩
        rw [e] at hi; cases hi
      obtain ⟨x, e⟩ := this
      obtain ⟨v', _, rx⟩ := con.rep i x e
      obtain ⟨_, o, eo⟩ := rx.mem a hi
      rw [eo] at z; cases z
  refine k v G2 H2 fp1 fr con2 r nu (s1.trans ?_)
  refine s2.weak (fun a w => .inr w) fun a z => ?_
  rcases z with z | z
  · exact .inr (.inl (.inl z))
  · exact .inl z

/-! ## names, constants -/
def eC (d : D) : EM := fun env => some (.sh d, env)
theorem ok_c {X : Cx} {e : Expr} {v : V} {d : D} (h : PE X e (tC v)) (r : ∀ G, Rep X.K G v d) : EOk X e (eC d) := pe_mono h fun σ H Q ⟨env, G, fp, con, c, env', e1, k⟩ => by
  cases e1
  exact k v G H fp [] con (.sh (r G)) (fun a m => by cases m) ((Step.refl G H (U fp)).weak (fun a u => u) fun a u => u.elim .inl fun z => by cases z)
theorem ok_int {X : Cx} {i : Int} {j pos} : EOk X (.Constant (.int i) j pos) (eC (.int i)) := ok_c pe_int fun _ => .int i
theorem ok_bl {X : Cx} {i : Bool} {j pos} : EOk X (.Constant (.bool i) j pos) (eC (.bl i)) := ok_c pe_bl fun _ => .bl i
theorem ok_non {X : Cx} {j pos} : EOk X (.Constant .none j pos) (eC .non) := ok_c pe_non fun _ => .non
theorem ok_str {X : Cx} {i : Str} {j pos} : EOk X (.Constant (.str i) j pos) (eC (.str i)) := ok_c pe_str fun _ => .str i

/-- a name's value, from now on shared -/
def eSlot (i : Nat) : EM := fun env => match env[i]? with
  | some (some c) => some (.sh c.fz, env.set i (some (.sh c.fz)))
  | _ => none
/-- a name's value, given away -/
def eMove (i : Nat) : EM := fun env => match env[i]? with
  | some (some c) => some (c, env.set i none)
  | _ => none
theorem con_fz {K : Fg} {σ : St} {env : Env} {G H : Hp} {fp : Fp} {i : Nat} {c : C} (con : Con K σ env G H fp) (e : env[i]? = some (some c)) :
    ∃ v, σ[i]? = some (some v) ∧ Rep K (addF G H (fp i)) v c.fz ∧ Con K σ (env.set i (some (.sh c.fz))) (addF G H (fp i)) H (fp.set i []) ∧ Step G H (U fp) (addF G H (fp i)) H (U (fp.set i [])) := by
  obtain ⟨v, e1, r⟩ := con.rep i c e
  have hi : i < env.length := (List.getElem?_eq_some_iff.mp e).1
  have s := Step.fz r
  have sub : Same (addF G H (fp i)) H := addF_sub con.sub
  have con0 := con.drop (i := i) (σ' := σ) rfl fun _ _ => rfl
  have con1 := con0.step s (fun a u w => by
    obtain ⟨j, m⟩ := u
    by_cases q : j = i
    · subst q; rw [Fp.set_same] at m; cases m
    · rw [Fp.set_ne q] at m; exact q (con.dis j i a m w)) sub
  have con2 := con1.put (i := i) (v := v) (x := .sh c.fz) (f := []) (by simpa using hi) (.sh r.fz) (fun a m => by cases m)
  have es : σ.set i (some v) = σ := by
    apply List.ext_getElem?
    intro j
    by_cases q : j = i
    · subst q
      rw [e1]
      exact List.getElem?_set_self (by rw [con.len]; exact hi)
    · rw [List.getElem?_set_ne (fun z => q z.symm)]
  have ef : Fp.set (Fp.set fp i []) i [] = Fp.set fp i [] := by funext j; unfold Fp.set; split <;> rfl
  rw [es, ef, List.set_set] at con2
  refine ⟨v, e1, r.fz, con2, s.weak (fun a m => ⟨i, m⟩) fun a u => ?_⟩
  rcases U_set u with z | z
  · exact .inr (.inl z)
  · cases z
theorem ok_slot {X : Cx} {e : Expr} {i : Nat} (h : PE X e (tVar i)) : EOk X e (eSlot i) := pe_mono h fun σ H Q ⟨env, G, fp, con, c, env', e1, k⟩ => by
  unfold eSlot at e1
  split at e1
  · rename_i c0 e0
    cases e1
    obtain ⟨v, ev, r, con1, s1⟩ := con_fz con e0
    refine ⟨v, ev, k v _ H _ [] con1 (.sh r) (fun a m => by cases m) (s1.weak (fun a u => u) fun a u => u.elim .inl fun z => by cases z)⟩
  · cases e1
theorem ok_move {X : Cx} {e : Expr} {i : Nat} (h : PE X e (tVar i)) : EOk X e (eMove i) := pe_mono h fun σ H Q ⟨env, G, fp, con, c, env', e1, k⟩ => by
  unfold eMove at e1
  split at e1
  · rename_i c0 e0
    cases e1
    obtain ⟨v, ev, r⟩ := con.rep i c e0
    have con1 := con.drop (i := i) (σ' := σ) rfl fun _ _ => rfl
    refine ⟨v, ev, k v G H _ (fp i) con1 r (fun a m u => ?_) ((Step.refl G H (U fp)).weak (fun a u => u) fun a u => ?_)⟩
    · obtain ⟨j, mj⟩ := u
      by_cases q : j = i
      · subst q; rw [Fp.set_same] at mj; cases mj
      · rw [Fp.set_ne q] at mj; exact q (con.dis j i a mj m)
    · rcases u with u | u
      · rcases U_set u with z | z
        · exact .inl z
        · cases z
      · exact .inl ⟨i, u⟩
  · cases e1

/-! ## operands: a name is looked at, not given away -/
inductive Opd where
  | slot (i : Nat) | val (m : EM)
def tOpd (K : Fg) : Opd → TE
  | .slot i => tVar i
  | .val m => tE K m
def OOk (X : Cx) (e : Expr) (o : Opd) : Prop := PE X e (tOpd X.K o)
def C.vw : C → Option D
  | .sh d => some d | .ol ds => some (.lst ds) | .oll _ => none | .odk kvs => some (.dk kvs) | .odt kvs => some (.dt kvs)
/-- x stands for d as H is now; its parts for ever -/
inductive RepV (K : Fg) (G H : Hp) : V → D → Prop
  | sh {v : V} {d : D} : Rep K G v d → RepV K G H v d
  | ol {l : Addr} {xs : List V} {ds : List D} : H l = some (.lst xs) → Reps K G xs ds → RepV K G H (.ref l) (.lst ds)
  | dk {l : Addr} {xs : List (Key × V)} {ds : List (Key × D)} : H l = some (.dK xs) → RepK K G xs ds → RepV K G H (.ref l) (.dk ds)
  | dt {l : Addr} {xs : List (List Key × V)} {ds : List (List Key × D)} : H l = some (.dT xs) → RepT K G xs ds → RepV K G H (.ref l) (.dt ds)
theorem RepC.vw {K : Fg} {G H : Hp} {v : V} {c : C} {f : List Addr} {d : D} (r : RepC K G H v c f) (e : c.vw = some d) : RepV K G H v d := by
  cases r with
  | sh r => cases e; exact .sh r
  | ol g h r => cases e; exact .ol h r
  | oll g h i n => cases e
  | odk g h r => cases e; exact .dk h r
  | odt g h r => cases e; exact .dt h r
theorem RepV.all {K : Fg} {G H : Hp} {v : V} {d : D} (s : Same G H) (r : RepV K G H v d) : Rep K H v d := by
  cases r with
  | sh r => exact r.mono s
  | ol h r => exact .lst h (r.mono s)
  | dk h r => exact .dk h (r.mono s)
  | dt h r => exact .dt h (r.mono s)
inductive RepVs (K : Fg) (G H : Hp) : List V → List D → Prop
  | nil : RepVs K G H [] []
  | cons {v : V} {vs : List V} {d : D} {ds : List D} : RepV K G H v d → RepVs K G H vs ds → RepVs K G H (v :: vs) (d :: ds)

def preO : List Opd → Env → Option (List C × Env)
  | [], env => some ([], env)
  | .slot i :: r, env => match env[i]? with
    | some (some _) => (preO r env).bind fun (xs, e) => some (.sh .non :: xs, e)
    | _ => none
  | .val m :: r, env => (m env).bind fun (c, e) => (preO r e).bind fun (xs, e') => some (c :: xs, e')
def finO (env : Env) : List Opd → List C → Option (List D)
  | [], _ => some []
  | .slot i :: r, _ :: xs => match env[i]? with
    | some (some c) => c.vw.bind fun d => (finO env r xs).bind fun ds => some (d :: ds)
    | _ => none
  | .val _ :: r, c :: xs => c.vw.bind fun d => (finO env r xs).bind fun ds => some (d :: ds)
  | _, [] => none
def evO (os : List Opd) (env : Env) : Option (List D × Env) := (preO os env).bind fun (cs, e) => (finO e os cs).bind fun ds => some (ds, e)

/-- what came of the operands -/
inductive Pre (K : Fg) (σ : St) (G H : Hp) (fp : Fp) : List Opd → List C → List V → Prop
  | nil {xs : List C} : Pre K σ G H fp [] xs []
  | slot {i : Nat} {v : V} {c : C} {os : List Opd} {cs : List C} {vs : List V} : σ[i]? = some (some v) → Pre K σ G H fp os cs vs → Pre K σ G H fp (.slot i :: os) (c :: cs) (v :: vs)
  | val {m : EM} {v : V} {c : C} {f : List Addr} {os : List Opd} {cs : List C} {vs : List V} : RepC K G H v c f → (∀ a ∈ f, ¬ U fp a) → Pre K σ G H fp os cs vs → Pre K σ G H fp (.val m :: os) (c :: cs) (v :: vs)
theorem Pre.fin {K : Fg} {σ : St} {env : Env} {G H : Hp} {fp : Fp} (con : Con K σ env G H fp) : ∀ {os : List Opd} {cs : List C} {vs : List V} {ds : List D}, Pre K σ G H fp os cs vs → finO env os cs = some ds → RepVs K G H vs ds
  | _, _, _, _, .nil, e => by cases e; exact .nil
  | _, _, _, _, .slot (i := i) (cs := cs) (os := os) hv r, e => by
    unfold finO at e
    split at e
    · rename_i c e0
      obtain ⟨v', e1, rc⟩ := con.rep i c e0
      rw [hv] at e1; cases e1
      cases q : c.vw with
      | none => rw [q] at e; cases e
      | some d =>
        rw [q] at e
        cases q2 : finO env os cs with
        | none => simp [q2] at e
        | some ds => simp [q2] at e; subst e; exact .cons (rc.vw q) (Pre.fin con r q2)
    · cases e
  | _, _, _, _, .val (c := c) (cs := cs) (os := os) rc hn r, e => by
    unfold finO at e
    cases q : c.vw with
    | none => rw [q] at e; cases e
    | some d =>
      rw [q] at e
      cases q2 : finO env os cs with
      | none => simp [q2] at e
      | some ds => simp [q2] at e; subst e; exact .cons (rc.vw q) (Pre.fin con r q2)
def tOs (K : Fg) : List Opd → TA
  | [] => tNil
  | o :: r => tCons (tOpd K o) (tOs K r)
theorem pre_run {K : Fg} {σ : St} : ∀ (os : List Opd) {env env' : Env} {G H : Hp} {fp : Fp} {cs : List C} {Q : List V → Hp → Prop}, Con K σ env G H fp → preO os env = some (cs, env') →
    (∀ vs G' H' fp', Con K σ env' G' H' fp' → Pre K σ G' H' fp' os cs vs → Step G H (U fp) G' H' (U fp') → Q vs H') → tOs K os σ H Q
  | [], env, env', G, H, fp, cs, Q, con, e, k => by
    cases e
    exact k [] G H fp con .nil (Step.refl ..)
  | .slot i :: r, env, env', G, H, fp, cs, Q, con, e, k => by
    unfold preO at e
    split at e
    · rename_i c0 e0
      obtain ⟨v, hv, _⟩ := con.rep i c0 e0
      cases q : preO r env with
      | none => simp [q] at e
      | some y =>
        simp [q] at e
        obtain ⟨rfl, rfl⟩ := e
        refine ⟨v, hv, ?_⟩
        exact pre_run r con q fun vs G' H' fp' c' p' s' => k (v :: vs) G' H' fp' c' (.slot hv p') s'
    · cases e
  | .val m :: r, env, env', G, H, fp, cs, Q, con, e, k => by
    unfold preO at e
    cases q : m env with
    | none => simp [q] at e
    | some y =>
      obtain ⟨c, e1⟩ := y
      simp only [q, Option.bind_some] at e
      cases q2 : preO r e1 with
      | none => simp [q2] at e
      | some y =>
        obtain ⟨xs, e2⟩ := y
        simp [q2] at e
        obtain ⟨rfl, rfl⟩ := e
        refine ⟨env, G, fp, con, c, e1, q, fun v G1 H1 fp1 fr con1 r1 n1 s1 => ?_⟩
        refine pre_run r con1 q2 fun vs G' H' fp' c' p' s' => ?_
        refine k (v :: vs) G' H' fp' c' (.val (r1.step s' n1) (fun a ma => r1.out s' n1 a ma) p') ?_
        have s1' : Step G H (U fp) G1 H1 (U fp1) := s1.weak (fun _ u => u) fun a u => .inl (.inl u)
        exact s1'.trans s'
/-- args read as operands -/
def tO (K : Fg) (os : List Opd) : TA := fun σ H Q => ∃ env G fp, Con K σ env G H fp ∧ ∃ ds env', evO os env = some (ds, env') ∧
  ∀ vs G' H' fp', Con K σ env' G' H' fp' → RepVs K G' H' vs ds → Step G H (U fp) G' H' (U fp') → Q vs H'
theorem tO_tOs {K : Fg} {os : List Opd} {σ : St} {H : Hp} {Q : List V → Hp → Prop} (h : tO K os σ H Q) : tOs K os σ H Q := by
  obtain ⟨env, G, fp, con, ds, env', e, k⟩ := h
  unfold evO at e
  cases q : preO os env with
  | none => simp [q] at e
  | some y =>
    obtain ⟨cs, e1⟩ := y
    simp only [q, Option.bind_some] at e
    cases q2 : finO e1 os cs with
    | none => simp [q2] at e
    | some y =>
      simp [q2] at e
      obtain ⟨rfl, rfl⟩ := e
      exact pre_run os con q fun vs G' H' fp' c' p' s' => k vs G' H' fp' c' (p'.fin c' q2) s'
theorem pao_nil {X : Cx} : PA X [] (tOs X.K []) := pa_nil
theorem pao_cons {X : Cx} {e : Expr} {es : List Expr} {o : Opd} {os : List Opd} (h : OOk X e o) (r : PA X es (tOs X.K os)) (hs : starEach (e :: es) X.env = (false, eval e X.env) :: starEach es X.env := by rfl) : PA X (e :: es) (tOs X.K (o :: os)) := pa_cons h r hs
theorem pao {X : Cx} {es : List Expr} {os : List Opd} (h : PA X es (tOs X.K os)) : PA X es (tO X.K os) := pa_mono h fun _ _ _ q => tO_tOs q

/-! ## what is given away: shared from now on; with stars -/
inductive Arg where
  | one (m : EM) | star (m : EM)
def D.seq : D → Option (List D)
  | .tup ds => some ds | .lst ds => some ds | _ => none
def evA : List Arg → Env → Option (List D × Env)
  | [], env => some ([], env)
  | .one m :: r, env => (m env).bind fun (c, e) => (evA r e).bind fun (ds, e') => some (c.fz :: ds, e')
  | .star m :: r, env => (m env).bind fun (c, e) => c.fz.seq.bind fun xs => (evA r e).bind fun (ds, e') => some (xs ++ ds, e')
def tAr (K : Fg) : List Arg → TA
  | [] => tNil
  | .one m :: r => tCons (tE K m) (tAr K r)
  | .star m :: r => StX.tStar K (tE K m) (tAr K r)
theorem con_fz2 {K : Fg} {σ : St} {env : Env} {G H : Hp} {fp : Fp} {v : V} {c : C} {f : List Addr} (con : Con K σ env G H fp) (r : RepC K G H v c f) (n : ∀ a ∈ f, ¬ U fp a) :
    Con K σ env (addF G H f) H fp := con.step (Step.fz r) (fun a u w => n a w u) (addF_sub con.sub)
theorem args_run {K : Fg} {σ : St} : ∀ (ms : List Arg) {env env' : Env} {G H : Hp} {fp : Fp} {ds : List D} {Q : List V → Hp → Prop}, Con K σ env G H fp → evA ms env = some (ds, env') →
    (∀ vs G' H' fp', Con K σ env' G' H' fp' → Reps K G' vs ds → Step G H (U fp) G' H' (U fp') → Q vs H') → tAr K ms σ H Q
  | [], env, env', G, H, fp, ds, Q, con, e, k => by
    cases e
    exact k [] G H fp con .nil (Step.refl ..)
  | .one m :: r, env, env', G, H, fp, ds, Q, con, e, k => by
    unfold evA at e
    cases q : m env with
    | none => simp [q] at e
    | some y =>
      obtain ⟨c, e1⟩ := y
      simp only [q, Option.bind_some] at e
      cases q2 : evA r e1 with
      | none => simp [q2] at e
      | some y =>
        obtain ⟨xs, e2⟩ := y
        simp [q2] at e
        obtain ⟨rfl, rfl⟩ := e
        refine ⟨env, G, fp, con, c, e1, q, fun v G1 H1 fp1 fr con1 r1 n1 s1 => ?_⟩
        refine args_run r (con_fz2 con1 r1 n1) q2 fun vs G' H' fp' c' p' s' => ?_
        refine k (v :: vs) G' H' fp' c' (.cons (r1.fz.mono s'.sG) p') ?_
        refine (s1.trans ((Step.fz r1).weak (U' := fun _ => False) (W := fun a => U fp1 a ∨ a ∈ fr) (W' := U fp1) (fun a m => .inr m) fun a u => .inr (.inl (.inl u)))).trans s'
  | .star m :: r, env, env', G, H, fp, ds, Q, con, e, k => by
    unfold evA at e
    cases q : m env with
    | none => simp [q] at e
    | some y =>
      obtain ⟨c, e1⟩ := y
      simp only [q, Option.bind_some] at e
      cases q3 : c.fz.seq with
      | none => simp [q3] at e
      | some ys =>
        simp only [q3, Option.bind_some] at e
        cases q2 : evA r e1 with
        | none => simp [q2] at e
        | some y =>
          obtain ⟨xs, e2⟩ := y
          simp [q2] at e
          obtain ⟨rfl, rfl⟩ := e
          refine ⟨env, G, fp, con, c, e1, q, fun v G1 H1 fp1 fr con1 r1 n1 s1 => ?_⟩
          have s2 : Step G H (U fp) (addF G1 H1 fr) H1 (U fp1) := s1.trans ((Step.fz r1).weak (U' := fun _ => False) (W := fun a => U fp1 a ∨ a ∈ fr) (W' := U fp1) (fun a m => .inr m) fun a u => .inr (.inl (.inl u)))
          have rv := r1.fz
          have fin : ∀ (us : List V), Reps K (addF G1 H1 fr) us ys → tAr K r σ H1 fun vs H2 => Q (us ++ vs) H2 := fun us ru =>
            args_run r (con_fz2 con1 r1 n1) q2 fun vs G' H' fp' c' p' s' => k (us ++ vs) G' H' fp' c' ((ru.mono s'.sG).append p') (s2.trans s')
          have hsub : Same (addF G1 H1 fr) H1 := addF_sub con1.sub
          cases hf : c.fz with
          | tup zs =>
            rw [hf] at q3 rv; cases q3
            cases rv with
            | tup h1 h2 => exact ⟨_, _, rfl, .inl (SqT.of (hsub _ _ h1)), fin _ h2⟩
          | lst zs =>
            rw [hf] at q3 rv; cases q3
            cases rv with
            | lst h1 h2 => exact ⟨_, _, rfl, .inr (SqL.of (hsub _ _ h1)), fin _ h2⟩
          | _ => rw [hf] at q3; cases q3
def tA (K : Fg) (ms : List Arg) : TA := fun σ H Q => ∃ env G fp, Con K σ env G H fp ∧ ∃ ds env', evA ms env = some (ds, env') ∧
  ∀ vs G' H' fp', Con K σ env' G' H' fp' → Reps K G' vs ds → Step G H (U fp) G' H' (U fp') → Q vs H'
theorem paa_nil {X : Cx} : PA X [] (tAr X.K []) := pa_nil
theorem paa_cons {X : Cx} {e : Expr} {es : List Expr} {o : EM} {os : List Arg} (h : EOk X e o) (r : PA X es (tAr X.K os)) (hs : starEach (e :: es) X.env = (false, eval e X.env) :: starEach es X.env := by rfl) : PA X (e :: es) (tAr X.K (.one o :: os)) := pa_cons h r hs
theorem paa_star {X : Cx} {e : Expr} {es : List Expr} {o : EM} {os : List Arg} {p : Pos} (h : EOk X e o) (r : PA X es (tAr X.K os)) (hs : starEach (.Starred e p :: es) X.env = (true, eval e X.env) :: starEach es X.env := by rfl) : PA X (.Starred e p :: es) (tAr X.K (.star o :: os)) := StX.pa_star h r hs
theorem paa {X : Cx} {es : List Expr} {os : List Arg} (h : PA X es (tAr X.K os)) : PA X es (tA X.K os) := pa_mono h fun _ _ _ ⟨env, G, fp, con, ds, env', e, k⟩ => args_run os con e k

/-! ## displays -/
theorem lim_ex : ∃ n : Nat, n = 16777216 := ⟨_, rfl⟩
noncomputable def lim : Nat := Classical.choose lim_ex
theorem lim_val : lim = 16777216 := Classical.choose_spec lim_ex
theorem lim_eq : lim = sizeLine := by rw [sizeLine_eq, lim_val]
def eTup (ms : List Arg) : EM := fun env => (evA ms env).bind fun (ds, e) => if ds.length ≤ lim then some (.sh (.tup ds), e) else none
def eLst (ms : List Arg) : EM := fun env => (evA ms env).bind fun (ds, e) => if ds.length ≤ lim then some (.ol ds, e) else none
theorem ok_tup {X : Cx} {es : List Expr} {ms : List Arg} {x1 pos} (h : PA X es (tAr X.K ms)) : EOk X (.Tuple es x1 pos) (eTup ms) := pe_mono (pe_tup (paa h)) fun σ H Q ⟨env, G, fp, con, c, env', e1, k⟩ => by
  unfold eTup at e1
  cases q : evA ms env with
  | none => simp [q] at e1
  | some y =>
    obtain ⟨ds, e2⟩ := y
    simp only [q, Option.bind_some] at e1
    split at e1
    · rename_i hl
      cases e1
      refine ⟨env, G, fp, con, ds, env', q, fun vs G' H' fp' c' r s => ⟨by rw [r.length, ← lim_eq]; exact hl, fun p hp => ?_⟩⟩
      refine k.end_ (W := fun _ => False) (fr := []) c' (s.weak (fun _ u => u) fun a u => u.elim .inl fun z => z.elim) (fun a z => z.elim) ((Step.newG (o := .tup vs) c'.sub hp).weak (fun _ z => z.elim) fun a z => by cases z) (same_upd2 c'.sub hp) ?_
      exact .sh (.tup upd_same (r.mono (same_new (none_of_same c'.sub hp))))
    · cases e1
theorem ok_lst {X : Cx} {es : List Expr} {ms : List Arg} {pos} (h : PA X es (tAr X.K ms)) : EOk X (.List es pos) (eLst ms) := pe_mono (pe_lst (paa h)) fun σ H Q ⟨env, G, fp, con, c, env', e1, k⟩ => by
  unfold eLst at e1
  cases q : evA ms env with
  | none => simp [q] at e1
  | some y =>
    obtain ⟨ds, e2⟩ := y
    simp only [q, Option.bind_some] at e1
    split at e1
    · rename_i hl
      cases e1
      refine ⟨env, G, fp, con, ds, env', q, fun vs G' H' fp' c' r s => ⟨by rw [r.length, ← lim_eq]; exact hl, fun p hp => ?_⟩⟩
      refine k.end_ (W := fun _ => False) (fr := [p]) c' (s.weak (fun _ u => u) fun a u => u.elim .inl fun z => z.elim) (fun a z => z.elim) (Step.newH (o := .lst vs) hp) (same_newH c'.sub hp) ?_
      exact .ol (none_of_same c'.sub hp) upd_same r
    · cases e1

/-! ## operations by values -/
abbrev Kont (K : Fg) (G H : Hp) (c : C) (Q : VK) : Prop := ∀ v G' H' fr, Same G' H' → RepC K G' H' v c fr → Step G H (fun _ => False) G' H' (fun a => a ∈ fr) → Q v H'
/-- an operation on values says what the function says -/
def OpS (K : Fg) (r : List V → Hp → VK → Prop) (op : List D → Option C) : Prop :=
  ∀ (G H : Hp) (vs : List V) (ds : List D) (c : C) (Q : VK), Same G H → RepVs K G H vs ds → op ds = some c → Kont K G H c Q → r vs H Q
def eO (op : List D → Option C) (os : List Opd) : EM := fun env => (evO os env).bind fun (ds, e) => (op ds).bind fun c => some (c, e)
theorem eO_run {K : Fg} {r : List V → Hp → VK → Prop} {op : List D → Option C} {os : List Opd} (h : OpS K r op) {σ : St} {H : Hp} {Q : VK} (q : tE K (eO op os) σ H Q) : tO K os σ H (fun vs H1 => r vs H1 Q) := by
  obtain ⟨env, G, fp, con, c, env', e1, k⟩ := q
  unfold eO at e1
  cases q : evO os env with
  | none => simp [q] at e1
  | some y =>
    obtain ⟨ds, e2⟩ := y
    simp only [q, Option.bind_some] at e1
    cases q2 : op ds with
    | none => simp [q2] at e1
    | some c0 =>
      simp [q2] at e1
      obtain ⟨rfl, rfl⟩ := e1
      refine ⟨env, G, fp, con, ds, e2, q, fun vs G' H' fp' c' rv s => h G' H' vs ds c0 Q c'.sub rv q2 fun v G2 H2 fr sub rc s2 => ?_⟩
      exact k.end_ (W := fun _ => False) c' (s.weak (fun _ u => u) fun a u => u.elim .inl fun z => z.elim) (fun a z => z.elim) s2 sub rc
/-- two operands -/
def op2r (r : R2) : List V → Hp → VK → Prop := fun vs H Q => ∃ x y, vs = [x, y] ∧ r x y H Q
def op1r (r : V → Hp → VK → Prop) : List V → Hp → VK → Prop := fun vs H Q => ∃ x, vs = [x] ∧ r x H Q
theorem tOs2 {K : Fg} {a b : Opd} {σ : St} {H : Hp} {R : List V → Hp → Prop} (h : tOs K [a, b] σ H R) : tOpd K a σ H fun x H1 => tOpd K b σ H1 fun y H2 => R [x, y] H2 := h
theorem tOs1 {K : Fg} {a : Opd} {σ : St} {H : Hp} {R : List V → Hp → Prop} (h : tOs K [a] σ H R) : tOpd K a σ H fun x H1 => R [x] H1 := h
theorem vk_mono_opd {K : Fg} (o : Opd) {σ : St} {H : Hp} {Q Q' : VK} (k : ∀ v H, Q v H → Q' v H) (h : tOpd K o σ H Q) : tOpd K o σ H Q' := by
  cases o with
  | slot i => obtain ⟨v, e, q⟩ := h; exact ⟨v, e, k v H q⟩
  | val m =>
    obtain ⟨env, G, fp, con, c, env', e, q⟩ := h
    exact ⟨env, G, fp, con, c, env', e, fun v G' H' fp' fr a b c d => k v H' (q v G' H' fp' fr a b c d)⟩
theorem ok_op {X : Cx} {a b : Expr} {oa ob : Opd} {op : Operator} {r : R2} {f : List D → Option C} {pos : Pos} (hr : OpR X (binaryOp op) r) (hf : OpS X.K (op2r r) f) (ha : OOk X a oa) (hb : OOk X b ob) : EOk X (.BinOp a op b pos) (eO f [oa, ob]) :=
  pe_mono (L2.pe_op hr ha hb) fun σ H Q q => by
    refine vk_mono_opd oa (fun x H1 h1 => vk_mono_opd ob (fun y H2 h2 => ?_) h1) (tOs2 (tO_tOs (eO_run hf q)))
    obtain ⟨x', y', e, h⟩ := h2
    cases e
    exact h
theorem ok_cmp {X : Cx} {a b : Expr} {oa ob : Opd} {op : CmpOp} {r : R2} {f : List D → Option C} {pos : Pos} (hr : OpR X (compareOp op) r) (hf : OpS X.K (op2r r) f) (ha : OOk X a oa) (hb : OOk X b ob) (hm : behindInMarks op b = false := by first | exact nomark _ | rfl) : EOk X (.Compare a [op] [b] pos) (eO f [oa, ob]) :=
  pe_mono (pe_cmpR hr ha hb hm) fun σ H Q q => by
    refine vk_mono_opd oa (fun x H1 h1 => vk_mono_opd ob (fun y H2 h2 => ?_) h1) (tOs2 (tO_tOs (eO_run hf q)))
    obtain ⟨x', y', e, h⟩ := h2
    cases e
    exact h
theorem ok_ix {X : Cx} {a b : Expr} {oa ob : Opd} {r : R2} {f : List D → Option C} {pos : Pos} (hr : IxR X r) (hf : OpS X.K (op2r r) f) (ha : OOk X a oa) (hb : OOk X b ob) (hs : PlainIx b := by intro _ _; rfl) : EOk X (.Subscript a b pos) (eO f [oa, ob]) :=
  pe_mono (pe_ix hr ha hb hs) fun σ H Q q => by
    refine vk_mono_opd oa (fun x H1 h1 => vk_mono_opd ob (fun y H2 h2 => ?_) h1) (tOs2 (tO_tOs (eO_run hf q)))
    obtain ⟨x', y', e, h⟩ := h2
    cases e
    exact h
theorem ok_un {X : Cx} {a : Expr} {oa : Opd} {op : UnaryOp} {r : V → Hp → VK → Prop} {f : List D → Option C} {pos : Pos} (hr : UnR X (unaryOp op) r) (hf : OpS X.K (op1r r) f) (ha : OOk X a oa) : EOk X (.UnaryOp op a pos) (eO f [oa]) :=
  pe_mono (pe_un hr ha) fun σ H Q q => by
    refine vk_mono_opd oa (fun x H1 h1 => ?_) (tOs1 (tO_tOs (eO_run hf q)))
    obtain ⟨x', e, h⟩ := h1
    cases e
    exact h
theorem ok_callB {X : Cx} {e : Expr} {es : List Expr} {os : List Opd} {x : Str} {id : String} {r : List V → Hp → VK → Prop} {f : List D → Option C} {p pos : Pos} (hc : CallR X (.builtin id) r) (hf : OpS X.K r f) (hg : Gl X x) (hm : X.mg x = none) (hv : bootBuiltins x = some (.builtin id)) (ha : PA X (e :: es) (tOs X.K os)) (hn : x ≠ "__name__" := by decide) (hdb : (x == ("__debug__" : Str)) = false := by decide)
    (he : starEach (e :: es) X.env = (false, eval e X.env) :: starEach es X.env := by rfl) (hpl : (backTo pos (starEach es X.env)).any (·.1) = false := by rfl) : EOk X (.Call (.Name x p) (e :: es) [] pos) (eO f os) :=
  pe_mono (pe_callB hc hg hm hv (pao ha) hn hdb he hpl) fun σ H Q q => eO_run hf q
theorem ok_callTy {X : Cx} {e : Expr} {es : List Expr} {os : List Opd} {x : Str} {id : String} {r : List V → Hp → VK → Prop} {f : List D → Option C} {p pos : Pos} (hc : CallR X (.type id) r) (hf : OpS X.K r f) (hg : Gl X x) (hm : X.mg x = none) (hv : bootBuiltins x = some (.type id)) (ha : PA X (e :: es) (tOs X.K os)) (hn : x ≠ "__name__" := by decide) (hdb : (x == ("__debug__" : Str)) = false := by decide)
    (he : starEach (e :: es) X.env = (false, eval e X.env) :: starEach es X.env := by rfl) (hpl : (backTo pos (starEach es X.env)).any (·.1) = false := by rfl) : EOk X (.Call (.Name x p) (e :: es) [] pos) (eO f os) :=
  pe_mono (pe_callTy hc hg hm hv (pao ha) hn hdb he hpl) fun σ H Q q => eO_run hf q
theorem OpS.or {K : Fg} {r r' : List V → Hp → VK → Prop} {f f' : List D → Option C} (h : OpS K r f) (h' : OpS K r' f') : OpS K (fun vs H Q => r vs H Q ∨ r' vs H Q) (fun ds => (f ds).or (f' ds)) := fun G H vs ds c Q s rv e k => by
  have e : (f ds).or (f' ds) = some c := e
  cases q : f ds with
  | some c0 =>
    rw [q] at e
    exact .inl (h G H vs ds c Q s rv (by rw [q]; exact e) k)
  | none =>
    rw [q] at e
    exact .inr (h' G H vs ds c Q s rv e k)
theorem OpS.imp {K : Fg} {r r' : List V → Hp → VK → Prop} {f : List D → Option C} (h : OpS K r f) (i : ∀ vs H Q, r vs H Q → r' vs H Q) : OpS K r' f := fun G H vs ds c Q s rv e k => i vs H Q (h G H vs ds c Q s rv e k)
end Fx
set_option Elab.async false
set_option linter.all false
set_option maxRecDepth 100000
set_option maxHeartbeats 4000000
noncomputable section
namespace Fx
open PySem L2

/-! ## ends of operations -/
theorem OpR.or {X : Cx} {f : Value → Value → Sem Value} {r r' : R2} (h : OpR X f r) (h' : OpR X f r') : OpR X f (fun x y H Q => r x y H Q ∨ r' x y H Q) := by
  intro pins s σ H x y v u Q I rx ry q
  rcases q with q | q
  · exact h pins s σ H x y v u Q I rx ry q
  · exact h' pins s σ H x y v u Q I rx ry q
theorem CallR.or {X : Cx} {f : Value} {r r' : List V → Hp → VK → Prop} (h : CallR X f r) (h' : CallR X f r') : CallR X f (fun x H Q => r x H Q ∨ r' x H Q) := by
  intro pins s σ H xs us Q I rx q
  rcases q with q | q
  · exact h pins s σ H xs us Q I rx q
  · exact h' pins s σ H xs us Q I rx q
section
variable {K : Fg} {G H : Hp} {Q : VK}
theorem Kont.sh {d : D} {v : V} (k : Kont K G H (.sh d) Q) (s : Same G H) (r : Rep K G v d) : Q v H :=
  k v G H [] s (.sh r) ((Step.refl G H (fun _ => False)).weak (fun _ z => z.elim) fun a z => by cases z)
theorem Kont.tup {ds : List D} {xs : List V} {p : Addr} (k : Kont K G H (.sh (.tup ds)) Q) (s : Same G H) (r : Reps K G xs ds) (hp : H p = none) : Q (.ref p) (upd H p (.tup xs)) :=
  k _ (upd G p (.tup xs)) _ [] (same_upd2 s hp) (.sh (.tup upd_same (r.mono (same_new (none_of_same s hp))))) ((Step.newG s hp).weak (fun _ z => z.elim) fun a z => by cases z)
theorem Kont.ol {ds : List D} {xs : List V} {p : Addr} (k : Kont K G H (.ol ds) Q) (s : Same G H) (r : Reps K G xs ds) (hp : H p = none) : Q (.ref p) (upd H p (.lst xs)) :=
  k _ G _ [p] (same_newH s hp) (.ol (none_of_same s hp) upd_same r) (Step.newH hp)
theorem RepV.int {x : V} {i : Int} (r : RepV K G H x (.int i)) : x = .int i := by cases r with | sh r => cases r; rfl
theorem RepV.bl {x : V} {i : Bool} (r : RepV K G H x (.bl i)) : x = .bl i := by cases r with | sh r => cases r; rfl
theorem RepV.str {x : V} {i : Str} (r : RepV K G H x (.str i)) : x = .str i := by cases r with | sh r => cases r; rfl
theorem RepV.non {x : V} (r : RepV K G H x .non) : x = .non := by cases r with | sh r => cases r; rfl
theorem RepV.tup {x : V} {ds : List D} (r : RepV K G H x (.tup ds)) : ∃ a xs, x = .ref a ∧ G a = some (.tup xs) ∧ Reps K G xs ds := by
  cases r with | sh r => cases r with | tup h r => exact ⟨_, _, rfl, h, r⟩
theorem RepV.lst {x : V} {ds : List D} (s : Same G H) (r : RepV K G H x (.lst ds)) : ∃ a xs, x = .ref a ∧ H a = some (.lst xs) ∧ Reps K G xs ds := by
  cases r with
  | sh r => cases r with | lst h r => exact ⟨_, _, rfl, s _ _ h, r⟩
  | ol h r => exact ⟨_, _, rfl, h, r⟩
theorem RepV.scr {x : V} {ns : List Int} (s : Same G H) (r : RepV K G H x (.scr ns)) : ∃ a, x = .ref a ∧ SqL K H a (ns.map V.int) := by
  cases r with | sh r => cases r with | scr h => exact ⟨_, rfl, s.seq h⟩
theorem RepV.dk_ {x : V} {ds : List (Key × D)} (s : Same G H) (r : RepV K G H x (.dk ds)) : ∃ a xs, x = .ref a ∧ H a = some (.dK xs) ∧ RepK K G xs ds := by
  cases r with
  | sh r => cases r with | dk h r => exact ⟨_, _, rfl, s _ _ h, r⟩
  | dk h r => exact ⟨_, _, rfl, h, r⟩
theorem RepV.dt_ {x : V} {ds : List (List Key × D)} (s : Same G H) (r : RepV K G H x (.dt ds)) : ∃ a xs, x = .ref a ∧ H a = some (.dT xs) ∧ RepT K G xs ds := by
  cases r with
  | sh r => cases r with | dt h r => exact ⟨_, _, rfl, s _ _ h, r⟩
  | dt h r => exact ⟨_, _, rfl, h, r⟩
end

/-! ## ints -/
def fII (g : Int → Int → Option D) : List D → Option C
  | [.int i, .int j] => (g i j).bind fun d => some (.sh d)
  | _ => none
theorem opS_rI {K : Fg} {P : Int → Int → Prop} {g : Int → Int → V} {f : Int → Int → Option D} (h : ∀ i j d, f i j = some d → P i j ∧ ∀ G, Rep K G (g i j) d) : OpS K (op2r (rI P g)) (fII f) := fun G H vs ds c Q s rv e k => by
  unfold fII at e
  split at e
  · rename_i i j
    cases q : f i j with
    | none => simp [q] at e
    | some d =>
      simp [q] at e; subst e
      cases rv with
      | cons r1 rv =>
        cases rv with
        | cons r2 rv =>
          cases rv
          cases r1.int; cases r2.int
          exact ⟨_, _, rfl, i, j, rfl, rfl, (h i j d q).1, k.sh s ((h i j d q).2 G)⟩
  · cases e
theorem opS_rI0 {K : Fg} {g : Int → Int → V} {f : Int → Int → Option D} (h : ∀ i j d, f i j = some d → ∀ G, Rep K G (g i j) d) : OpS K (op2r (rI0 g)) (fII f) := fun G H vs ds c Q s rv e k => by
  unfold fII at e
  split at e
  · rename_i i j
    cases q : f i j with
    | none => simp [q] at e
    | some d =>
      simp [q] at e; subst e
      cases rv with
      | cons r1 rv =>
        cases rv with
        | cons r2 rv =>
          cases rv
          cases r1.int; cases r2.int
          exact ⟨_, _, rfl, i, j, rfl, rfl, k.sh s ((h i j d q) G)⟩
  · cases e
/-- below 2 ^ 64 in size -/
def sm (i : Int) : Bool := @decide (-18446744073709551616 < i ∧ i < 18446744073709551616) (Classical.propDecidable _)
theorem sm_iff {i : Int} : sm i = true ↔ -18446744073709551616 < i ∧ i < 18446744073709551616 := @decide_eq_true_iff _ (Classical.propDecidable _)
def gAdd (i j : Int) : Option D := some (.int (i + j))
def gSub (i j : Int) : Option D := some (.int (i - j))
def gMul (i j : Int) : Option D := if sm i || sm j then some (.int (i * j)) else none
def gDiv (i j : Int) : Option D := if 0 < j ∧ j < 1073741824 then some (.int (i / j)) else none
def gMod (i j : Int) : Option D := if 0 < j then some (.int (i % j)) else none
def gPow (i j : Int) : Option D := if 0 ≤ j ∧ j ≤ 1000000 ∧ sm i then some (.int (i ^ j.toNat)) else none
def gShl (i j : Int) : Option D := if 0 ≤ j ∧ j ≤ 1000000 ∧ sm i then some (.int (i * 2 ^ j.toNat)) else none
def gShr (i j : Int) : Option D := if 0 ≤ j then some (.int (i / 2 ^ j.toNat)) else none
def gAnd (i j : Int) : Option D := some (.int (Builtin.bitAnd i j))
def gLt (i j : Int) : Option D := some (.bl (decide (i < j)))
def gLe (i j : Int) : Option D := some (.bl (decide (i ≤ j)))
def gGt (i j : Int) : Option D := some (.bl (decide (j < i)))
def gGe (i j : Int) : Option D := some (.bl (decide (j ≤ i)))
section
variable {K : Fg}
theorem sI (i : Int) : ∀ G, Rep K G (.int i) (.int i) := fun _ => .int i
theorem natAbs64 {i : Int} (h : sm i = true) : i.natAbs < 2 ^ 64 := by
  have := sm_iff.mp h
  have e : (2 : Nat) ^ 64 = 18446744073709551616 := by decide
  rw [e]; omega
theorem s_addI : OpS K (op2r (rI0 fun i j => .int (i + j))) (fII gAdd) := opS_rI0 fun i j d e => by cases e; exact sI _
theorem s_sub : OpS K (op2r (rI0 fun i j => .int (i - j))) (fII gSub) := opS_rI0 fun i j d e => by cases e; exact sI _
theorem s_mulI : OpS K (op2r (rI CMul fun i j => .int (i * j))) (fII gMul) := opS_rI fun i j d e => by
  unfold gMul at e
  split at e
  · rename_i h
    cases e
    refine ⟨?_, sI _⟩
    have e64 : (2 : Int) ^ 64 = 18446744073709551616 := by decide
    simp only [Bool.or_eq_true] at h
    rcases h with h | h
    · have := sm_iff.mp h
      exact .inl (by rw [e64]; exact this)
    · have := sm_iff.mp h
      exact .inr (by rw [e64]; exact this)
  · cases e
theorem s_div : OpS K (op2r (rI CDiv fun i j => .int (i / j))) (fII gDiv) := opS_rI fun i j d e => by
  unfold gDiv at e
  split at e
  · rename_i h; cases e; exact ⟨h, sI _⟩
  · cases e
theorem s_mod : OpS K (op2r (rI (fun _ j => 0 < j) fun i j => .int (i % j))) (fII gMod) := opS_rI fun i j d e => by
  unfold gMod at e
  split at e
  · rename_i h; cases e; exact ⟨h, sI _⟩
  · cases e
theorem s_pow : OpS K (op2r (rI CPow fun i j => .int (i ^ j.toNat))) (fII gPow) := opS_rI fun i j d e => by
  unfold gPow at e
  split at e
  · rename_i h; cases e; exact ⟨⟨h.1, h.2.1, natAbs64 h.2.2⟩, sI _⟩
  · cases e
theorem s_shl : OpS K (op2r (rI CPow fun i j => .int (i * 2 ^ j.toNat))) (fII gShl) := opS_rI fun i j d e => by
  unfold gShl at e
  split at e
  · rename_i h; cases e; exact ⟨⟨h.1, h.2.1, natAbs64 h.2.2⟩, sI _⟩
  · cases e
theorem s_shr : OpS K (op2r (rI (fun _ j => 0 ≤ j) fun i j => .int (i / 2 ^ j.toNat))) (fII gShr) := opS_rI fun i j d e => by
  unfold gShr at e
  split at e
  · rename_i h; cases e; exact ⟨h, sI _⟩
  · cases e
theorem s_and : OpS K (op2r (rI0 fun i j => .int (Builtin.bitAnd i j))) (fII gAnd) := opS_rI0 fun i j d e => by cases e; exact sI _
theorem s_lt : OpS K (op2r (rI0 fun i j => .bl (decide (i < j)))) (fII gLt) := opS_rI0 fun i j d e => by cases e; exact fun _ => .bl _
theorem s_le : OpS K (op2r (rI0 fun i j => .bl (decide (i ≤ j)))) (fII gLe) := opS_rI0 fun i j d e => by cases e; exact fun _ => .bl _
theorem s_gt : OpS K (op2r (rI0 fun i j => .bl (decide (j < i)))) (fII gGt) := opS_rI0 fun i j d e => by cases e; exact fun _ => .bl _
theorem s_ge : OpS K (op2r (rI0 fun i j => .bl (decide (j ≤ i)))) (fII gGe) := opS_rI0 fun i j d e => by cases e; exact fun _ => .bl _
def fNeg : List D → Option C
  | [.int i] => some (.sh (.int (-i)))
  | _ => none
theorem s_neg : OpS K (op1r (rU fun i => .int (-i))) fNeg := fun G H vs ds c Q s rv e k => by
  unfold fNeg at e
  split at e
  · rename_i i
    cases e
    cases rv with
    | cons r1 rv => cases rv; cases r1.int; exact ⟨_, rfl, i, rfl, k.sh s (.int _)⟩
  · cases e

/-! ## + of ints, texts, tuples, lists -/
def fAdd : List D → Option C
  | [.int i, .int j] => some (.sh (.int (i + j)))
  | [.str x, .str y] => if x.length + y.length ≤ lim then some (.sh (.str (x ++ y))) else none
  | [.tup x, .tup y] => if x.length + y.length ≤ lim then some (.sh (.tup (x ++ y))) else none
  | [.lst x, .lst y] => if x.length + y.length ≤ lim then some (.ol (x ++ y)) else none
  | _ => none
def rAddAll (K : Fg) : R2 := fun x y H Q => (rI0 (fun i j => .int (i + j)) x y H Q) ∨ ((∃ i j, x = .str i ∧ y = .str j ∧ i.length + j.length ≤ sizeLine ∧ Q (.str (i ++ j)) H) ∨ (rCatA K x y H Q ∨ rCat x y H Q))
theorem op_addAll {X : Cx} : OpR X (binaryOp .Add) (rAddAll X.K) := OpR.or op_add (OpR.or op_add_str (OpR.or op_catA op_cat))
theorem s_add : OpS K (op2r (rAddAll K)) fAdd := fun G H vs ds c Q s rv e k => by
  unfold fAdd at e
  split at e
  · rename_i i j
    cases e
    cases rv with
    | cons r1 rv => cases rv with | cons r2 rv => cases rv; cases r1.int; cases r2.int; exact ⟨_, _, rfl, .inl ⟨i, j, rfl, rfl, k.sh s (.int _)⟩⟩
  · rename_i x y
    split at e
    · rename_i hl
      cases e
      cases rv with
      | cons r1 rv => cases rv with | cons r2 rv => cases rv; cases r1.str; cases r2.str; exact ⟨_, _, rfl, .inr (.inl ⟨x, y, rfl, rfl, by rw [← lim_eq]; exact hl, k.sh s (.str _)⟩)⟩
    · cases e
  · rename_i x y
    split at e
    · rename_i hl
      cases e
      cases rv with
      | cons r1 rv =>
        cases rv with
        | cons r2 rv =>
          cases rv
          obtain ⟨a, xs, rfl, h1, q1⟩ := r1.tup
          obtain ⟨b, ys, rfl, h2, q2⟩ := r2.tup
          refine ⟨_, _, rfl, .inr (.inr (.inl ⟨a, b, xs, ys, rfl, rfl, SqT.of (s _ _ h1), SqT.of (s _ _ h2), by rw [q1.length, q2.length, ← lim_eq]; exact hl, fun z => ?_, fun _ z => ?_, fun _ _ p hp => k.tup s (q1.append q2) hp⟩))⟩
          · subst z
            cases q1
            exact k.sh s (.tup h2 q2)
          · subst z
            cases q2
            exact k.sh s (.tup h1 (by simpa using q1))
    · cases e
  · rename_i x y
    split at e
    · rename_i hl
      cases e
      cases rv with
      | cons r1 rv =>
        cases rv with
        | cons r2 rv =>
          cases rv
          obtain ⟨a, xs, rfl, h1, q1⟩ := r1.lst s
          obtain ⟨b, ys, rfl, h2, q2⟩ := r2.lst s
          exact ⟨_, _, rfl, .inr (.inr (.inr ⟨a, b, xs, ys, rfl, rfl, h1, h2, by rw [q1.length, q2.length, ← lim_eq]; exact hl, fun p hp => k.ol s (q1.append q2) hp⟩))⟩
    · cases e
  · cases e
/-! ## * of ints; a list so many times -/
def fMul : List D → Option C
  | [.int i, .int j] => if sm i || sm j then some (.sh (.int (i * j))) else none
  | [.lst x, .int n] => if sm n ∧ -9223372036854775808 ≤ n ∧ n < 9223372036854775808 ∧ x.length * n.toNat ≤ lim then some (.ol (List.replicate n.toNat x).flatten) else none
  | _ => none
theorem reps_rep {G : Hp} {xs : List V} {ds : List D} (r : Reps K G xs ds) : ∀ n : Nat, Reps K G (List.replicate n xs).flatten (List.replicate n ds).flatten
  | 0 => .nil
  | n + 1 => by rw [List.replicate_succ, List.replicate_succ, List.flatten_cons, List.flatten_cons]; exact r.append (reps_rep r n)
def rMulAll : R2 := fun x y H Q => (rI CMul (fun i j => .int (i * j)) x y H Q) ∨ rRep x y H Q
theorem op_mulAll {X : Cx} : OpR X (binaryOp .Mult) rMulAll := OpR.or op_mul op_rep
theorem s_mul : OpS K (op2r rMulAll) fMul := fun G H vs ds c Q s rv e k => by
  unfold fMul at e
  split at e
  · rename_i i j
    split at e
    · rename_i h
      cases e
      cases rv with
      | cons r1 rv =>
        cases rv with
        | cons r2 rv =>
          cases rv; cases r1.int; cases r2.int
          refine ⟨_, _, rfl, .inl ⟨i, j, rfl, rfl, ?_, k.sh s (.int _)⟩⟩
          have e64 : (2 : Int) ^ 64 = 18446744073709551616 := by decide
          simp only [Bool.or_eq_true] at h
          rcases h with h | h
          · have := sm_iff.mp h
            exact .inl (by rw [e64]; exact this)
          · have := sm_iff.mp h
            exact .inr (by rw [e64]; exact this)
    · cases e
  · rename_i x n
    split at e
    · rename_i h
      cases e
      cases rv with
      | cons r1 rv =>
        cases rv with
        | cons r2 rv =>
          cases rv; cases r2.int
          obtain ⟨a, xs, rfl, h1, q1⟩ := r1.lst s
          have e63 : (2 : Int) ^ 63 = 9223372036854775808 := by decide
          exact ⟨_, _, rfl, .inr ⟨a, n, xs, rfl, rfl, h1, by rw [e63]; exact h.2.1, by rw [e63]; exact h.2.2.1, by rw [q1.length, ← lim_eq]; exact h.2.2.2, fun p hp => k.ol s (reps_rep q1 _) hp⟩⟩
    · cases e
  · cases e

/-! ## a[i], a[i:j] -/
def atD (ds : List D) (i : Int) : Option D := atI ds i
theorem Reps.at_ {G : Hp} {xs : List V} {ds : List D} {i : Int} {d : D} (r : Reps K G xs ds) (e : atI ds i = some d) : ∃ v, atI xs i = some v ∧ Rep K G v d := by
  unfold atI at e ⊢
  rw [r.length]
  cases q : ixN ds.length i with
  | none => rw [q] at e; cases e
  | some j =>
    rw [q] at e
    exact r.getD (i := j) e
def fIx : List D → Option C
  | [.lst ds, .int i] => (atI ds i).bind fun d => some (.sh d)
  | [.tup ds, .int i] => (atI ds i).bind fun d => some (.sh d)
  | [.str z, .int i] => if z.length ≤ lim then (atI z.cps.toList i).bind fun c => some (.sh (.str ⟨#[c]⟩)) else none
  | _ => none
theorem s_ix : OpS K (op2r (rIx K)) fIx := fun G H vs ds c Q s rv e k => by
  unfold fIx at e
  split at e
  · rename_i ds i
    cases q : atI ds i with
    | none => simp [q] at e
    | some d =>
      simp [q] at e; subst e
      cases rv with
      | cons r1 rv =>
        cases rv with
        | cons r2 rv =>
          cases rv; cases r2.int
          obtain ⟨a, xs, rfl, h1, q1⟩ := r1.lst s
          obtain ⟨v, e1, rd⟩ := q1.at_ q
          exact ⟨_, _, rfl, .inl ⟨a, xs, i, v, rfl, rfl, SqL.of h1, e1, k.sh s rd⟩⟩
  · rename_i ds i
    cases q : atI ds i with
    | none => simp [q] at e
    | some d =>
      simp [q] at e; subst e
      cases rv with
      | cons r1 rv =>
        cases rv with
        | cons r2 rv =>
          cases rv; cases r2.int
          obtain ⟨a, xs, rfl, h1, q1⟩ := r1.tup
          obtain ⟨v, e1, rd⟩ := q1.at_ q
          exact ⟨_, _, rfl, .inr (.inl ⟨a, xs, i, v, rfl, rfl, SqT.of (s _ _ h1), e1, k.sh s rd⟩)⟩
  · rename_i z i
    split at e
    · rename_i hz
      cases q : atI z.cps.toList i with
      | none => simp [q] at e
      | some d =>
        simp [q] at e; subst e
        cases rv with
        | cons r1 rv =>
          cases rv with
          | cons r2 rv =>
            cases rv; cases r2.int; cases r1.str
            exact ⟨_, _, rfl, .inr (.inr ⟨z, i, d, rfl, rfl, by rw [← lim_eq]; exact hz, q, k.sh s (.str _)⟩)⟩
    · cases e
  · cases e
/-- the items of xs[lo:hi] -/
def cutD {α : Type} (xs : List α) (lo hi : Option Int) : List α := (xs.drop (HT.sIx xs.length 0 lo)).take (HT.sIx xs.length xs.length hi - HT.sIx xs.length 0 lo)
theorem Reps.cut {G : Hp} {xs : List V} {ds : List D} (r : Reps K G xs ds) (lo hi : Option Int) : Reps K G (cutV xs lo hi) (cutD ds lo hi) := by
  unfold cutV cutD
  rw [r.length]
  exact (r.drop _).take _
def fSl (x : D) (lo hi : Option Int) : Option C := match x with
  | .lst ds => some (.ol (cutD ds lo hi))
  | .tup ds => some (.sh (.tup (cutD ds lo hi)))
  | .scr ns => some (.ol (cutD (ns.map D.int) lo hi))
  | .str z => if z.length ≤ lim then some (.sh (.str (cutS z lo hi))) else none
  | _ => none
end
end Fx
set_option Elab.async false
set_option linter.all false
set_option maxRecDepth 100000
set_option maxHeartbeats 4000000
noncomputable section
namespace Fx
open PySem L2

/-! ## slices -/
def rSlAll (K : Fg) : V → Option Int → Option Int → Hp → VK → Prop := fun x lo hi H Q => rSlL K x lo hi H Q ∨ (rSlA K x lo hi H Q ∨ rSlS x lo hi H Q)
theorem sl_all {X : Cx} : SlR X (rSlAll X.K) := SlR.or sl_list (SlR.or sl_tupA sl_str)
theorem cut_whole {α : Type} {xs : List α} {lo hi : Option Int} (h : HT.sIx xs.length 0 lo = 0 ∧ HT.sIx xs.length xs.length hi = xs.length) : cutD xs lo hi = xs := by
  unfold cutD
  rw [h.1, h.2]
  simp
theorem s_sl {K : Fg} {G H : Hp} {x : V} {d : D} {lo hi : Option Int} {c : C} {Q : VK} (s : Same G H) (rv : RepV K G H x d) (e : fSl d lo hi = some c) (k : Kont K G H c Q) : rSlAll K x lo hi H Q := by
  unfold fSl at e
  split at e
  · cases e
    obtain ⟨a, xs, rfl, h1, q1⟩ := rv.lst s
    exact .inl ⟨a, xs, rfl, SqL.of h1, fun p hp => k.ol s (q1.cut lo hi) hp⟩
  · cases e
    obtain ⟨a, xs, rfl, h1, q1⟩ := rv.tup
    refine .inr (.inl ⟨a, xs, rfl, SqT.of (s _ _ h1), fun w => ?_, fun _ p hp => k.tup s (q1.cut lo hi) hp⟩)
    rw [q1.length] at w
    rw [cut_whole w] at k
    exact k.sh s (.tup h1 q1)
  · rename_i ns
    cases e
    obtain ⟨a, rfl, h1⟩ := rv.scr s
    exact .inl ⟨a, _, rfl, h1, fun p hp => k.ol s ((reps_ints ns).cut lo hi) hp⟩
  · split at e
    · rename_i hz
      cases e
      cases rv.str
      exact .inr (.inr ⟨_, rfl, by rw [← lim_eq]; exact hz, k.sh s (.str _)⟩)
    · cases e
  · cases e

theorem Pre.step {K : Fg} {σ : St} {G H G' H' : Hp} {fp fp' : Fp} (s : Step G H (U fp) G' H' (U fp')) : ∀ {os : List Opd} {cs : List C} {vs : List V}, Pre K σ G H fp os cs vs → Pre K σ G' H' fp' os cs vs
  | _, _, _, .nil => .nil
  | _, _, _, .slot h r => .slot h (Pre.step s r)
  | _, _, _, .val rc n r => .val (rc.step s n) (fun a m => rc.out s n a m) (Pre.step s r)
theorem RepC.of_sh {K : Fg} {G H : Hp} {v : V} {d : D} {f : List Addr} (h : RepC K G H v (.sh d) f) : Rep K G v d ∧ f = [] := by
  cases h with
  | sh r => exact ⟨r, rfl⟩
/-- an operand that is an int -/
def evI : Opd → Env → Option (Int × Env)
  | .slot i, env => match env[i]? with
    | some (some (.sh (.int n))) => some (n, env)
    | _ => none
  | .val m, env => match m env with
    | some (.sh (.int n), e) => some (n, e)
    | _ => none
theorem evI_run {K : Fg} {o : Opd} {σ : St} {env env' : Env} {G H : Hp} {fp : Fp} {n : Int} {R : V → Hp → Prop} (con : Con K σ env G H fp) (e : evI o env = some (n, env'))
    (k : ∀ G' H' fp', Con K σ env' G' H' fp' → Step G H (U fp) G' H' (U fp') → R (.int n) H') : tOpd K o σ H R := by
  cases o with
  | slot i =>
    simp only [evI] at e
    split at e
    · rename_i m e0
      cases e
      obtain ⟨v, hv, r⟩ := con.rep i _ e0
      have r := r.of_sh.1
      cases r
      exact ⟨_, hv, k G H fp con (Step.refl ..)⟩
    · cases e
  | val m =>
    simp only [evI] at e
    split at e
    · rename_i i e1 q
      cases e
      refine ⟨env, G, fp, con, _, env', q, fun v G' H' fp' fr c' r n s => ?_⟩
      cases r with
      | sh r => cases r; exact k G' H' fp' c' (s.weak (fun _ u => u) fun a u => .inl (.inl u))
    · cases e
inductive Part where
  | no | at_ (o : Opd)
def evP : Part → Env → Option (Option Int × Env)
  | .no, env => some (none, env)
  | .at_ o, env => (evI o env).bind fun (i, e) => some (some i, e)
def tPart' (K : Fg) : Part → TO
  | .no => tNoPart
  | .at_ o => tPart (tOpd K o)
theorem evP_run {K : Fg} {o : Part} {σ : St} {env env' : Env} {G H : Hp} {fp : Fp} {n : Option Int} {R : Option Int → Hp → Prop} (con : Con K σ env G H fp) (e : evP o env = some (n, env'))
    (k : ∀ G' H' fp', Con K σ env' G' H' fp' → Step G H (U fp) G' H' (U fp') → R n H') : tPart' K o σ H R := by
  cases o with
  | no => cases e; exact k G H fp con (Step.refl ..)
  | at_ o =>
    unfold evP at e
    cases q : evI o env with
    | none => simp [q] at e
    | some y =>
      obtain ⟨i, e1⟩ := y
      simp [q] at e
      obtain ⟨rfl, rfl⟩ := e
      exact evI_run con q fun G' H' fp' c' s' => ⟨i, rfl, k G' H' fp' c' s'⟩
def eSl (o : Opd) (lo hi : Part) : EM := fun env => (preO [o] env).bind fun (cs, e1) => (evP lo e1).bind fun (i, e2) => (evP hi e2).bind fun (j, e3) => (finO e3 [o] cs).bind fun ds => match ds with
  | [d] => (fSl d i j).bind fun c => some (c, e3)
  | _ => none
def POk (X : Cx) (e : Option Expr) (p : Part) : Prop := PO X e (tPart' X.K p)
theorem part_no {X : Cx} : POk X none .no := po_none
theorem part_at {X : Cx} {e : Expr} {o : Opd} (h : OOk X e o) : POk X (some e) (.at_ o) := po_some h
theorem ok_sl {X : Cx} {e : Expr} {o : Opd} {lo hi : Option Expr} {pl ph : Part} {p2 pos : Pos} (h : OOk X e o) (hl : POk X lo pl) (hh : POk X hi ph) : EOk X (.Subscript e (.Slice lo hi none p2) pos) (eSl o pl ph) :=
  pe_mono (pe_slice sl_all h hl hh) fun σ H Q ⟨env, G, fp, con, c, env', e1, k⟩ => by
    unfold eSl at e1
    cases q1 : preO [o] env with
    | none => simp [q1] at e1
    | some y1 =>
      obtain ⟨cs, v1⟩ := y1
      simp only [q1, Option.bind_some] at e1
      cases q2 : evP pl v1 with
      | none => simp [q2] at e1
      | some y2 =>
        obtain ⟨i, v2⟩ := y2
        simp only [q2, Option.bind_some] at e1
        cases q3 : evP ph v2 with
        | none => simp [q3] at e1
        | some y3 =>
          obtain ⟨j, v3⟩ := y3
          simp only [q3, Option.bind_some] at e1
          cases q4 : finO v3 [o] cs with
          | none => simp [q4] at e1
          | some ds =>
            simp only [q4, Option.bind_some] at e1
            split at e1
            · rename_i d
              cases q5 : fSl d i j with
              | none => simp [q5] at e1
              | some c0 =>
                simp [q5] at e1
                obtain ⟨rfl, rfl⟩ := e1
                have z := pre_run (K := X.K) (Q := fun vs H1 => ∃ x, vs = [x] ∧ tPart' X.K pl σ H1 fun l H2 => tPart' X.K ph σ H2 fun u H3 => rSlAll X.K x l u H3 Q) [o] con q1 fun vs G1 H1 fp1 c1 p1 s1 => by
                  have : ∃ x, vs = [x] := by
                    cases p1 with
                    | slot h r => cases r; exact ⟨_, rfl⟩
                    | val a b r => cases r; exact ⟨_, rfl⟩
                  obtain ⟨x, rfl⟩ := this
                  refine ⟨x, rfl, evP_run c1 q2 fun G2 H2 fp2 c2 s2 => evP_run c2 q3 fun G3 H3 fp3 c3 s3 => ?_⟩
                  have rv := ((p1.step s2).step s3).fin c3 q4
                  cases rv with
                  | cons r1 rv =>
                    cases rv
                    refine s_sl c3.sub r1 q5 fun v G4 H4 fr sub rc s4 => ?_
                    exact k.end_ (W := fun _ => False) c3 (((s1.trans s2).trans s3).weak (fun _ u => u) fun a u => u.elim .inl fun z => z.elim) (fun a z => z.elim) s4 sub rc
                have z1 := tOs1 z
                refine vk_mono_opd o (fun x H1 h1 => ?_) z1
                obtain ⟨x', ex, h1⟩ := h1
                cases ex
                exact h1
            · cases e1

/-! ## == -/
mutual
def D.py : D → PyData
  | .non => .none | .bl b => .bool b | .int i => .int i | .str x => .str x
  | .tup ds => .tuple (D.pys ds) | .lst ds => .list (D.pys ds)
  | .dk _ => .dict [] | .dt _ => .dict [] | .scr ns => .dict []
def D.pys : List D → List PyData
  | [] => [] | d :: ds => D.py d :: D.pys ds
end
mutual
/-- may be compared by == -/
def D.okq : D → Bool
  | .non | .bl _ | .int _ => true
  | .str x => PyData.strOk x
  | .tup ds | .lst ds => D.okqs ds
  | .dk _ | .dt _ | .scr _ => false
def D.okqs : List D → Bool
  | [] => true | d :: ds => D.okq d && D.okqs ds
end
mutual
def D.dep : D → Nat
  | .tup ds | .lst ds => D.deps ds + 1
  | _ => 0
def D.deps : List D → Nat
  | [] => 0 | d :: ds => max (D.dep d) (D.deps ds)
end
mutual
def D.eqv : D → D → Bool
  | .non, .non => true
  | .bl a, .bl b => a == b
  | .bl a, .int j => (if a then 1 else 0) == j
  | .int i, .bl b => i == (if b then 1 else 0)
  | .int i, .int j => i == j
  | .str x, .str y => x == y
  | .lst xs, .lst ys => D.eqvs xs ys
  | .tup xs, .tup ys => D.eqvs xs ys
  | _, _ => false
def D.eqvs : List D → List D → Bool
  | [], [] => true
  | x :: xs, y :: ys => D.eqv x y && D.eqvs xs ys
  | _, _ => false
end
mutual
theorem D.lay : ∀ d : D, d.okq = true → d.py.canLay0 = true
  | .non, _ => rfl
  | .bl _, _ => rfl
  | .int _, _ => rfl
  | .str x, h => by simpa [D.py, PyData.canLay0, D.okq] using h
  | .tup ds, h => by simp only [D.py, PyData.canLay0]; exact D.lays ds (by simpa [D.okq] using h)
  | .lst ds, h => by simp only [D.py, PyData.canLay0]; exact D.lays ds (by simpa [D.okq] using h)
  | .dk _, h => by simp [D.okq] at h
  | .dt _, h => by simp [D.okq] at h
  | .scr _, h => by simp [D.okq] at h
theorem D.lays : ∀ ds : List D, D.okqs ds = true → PyData.canLayAll0 (D.pys ds) = true
  | [], _ => by simp [D.pys, PyData.canLayAll0]
  | d :: ds, h => by
    simp only [D.okqs, Bool.and_eq_true] at h
    simp only [D.pys, PyData.canLayAll0, D.lay d h.1, D.lays ds h.2, Bool.and_self]
end
mutual
theorem D.py_dep : ∀ d : D, d.py.depth ≤ d.dep + 1
  | .non | .bl _ | .int _ | .str _ => by simp [D.py, PyData.depth, D.dep]
  | .tup ds => by have := D.pys_dep ds; simp only [D.py, PyData.depth, D.dep]; omega
  | .lst ds => by have := D.pys_dep ds; simp only [D.py, PyData.depth, D.dep]; omega
  | .dk _ | .dt _ | .scr _ => by simp [D.py, PyData.depth, PyData.depthKv, D.dep]
theorem D.pys_dep : ∀ ds : List D, PyData.depthAll (D.pys ds) ≤ D.deps ds + 1
  | [] => by simp [D.pys, PyData.depthAll, D.deps]
  | d :: ds => by have := D.py_dep d; have := D.pys_dep ds; simp only [D.pys, PyData.depthAll, D.deps]; omega
end
mutual
theorem Rep.dp {K : Fg} {H : Hp} : ∀ {d : D} {v : V}, Rep K H v d → d.okq = true → Dp K H v d.py
  | _, _, .non, _ => .non
  | _, _, .bl b, _ => .bl b
  | _, _, .int i, _ => .int i
  | _, _, .str x, _ => .str x
  | _, _, .tup h r, e => .tup (SqT.of h) (Reps.dp r (by simpa [D.okq] using e))
  | _, _, .lst h r, e => .lst (SqL.of h) (Reps.dp r (by simpa [D.okq] using e))
  | _, _, .dk h r, e => by simp [D.okq] at e
  | _, _, .dt h r, e => by simp [D.okq] at e
  | _, _, .scr h, e => by simp [D.okq] at e
theorem Reps.dp {K : Fg} {H : Hp} : ∀ {ds : List D} {vs : List V}, Reps K H vs ds → D.okqs ds = true → DpAll K H vs (D.pys ds)
  | _, _, .nil, _ => .nil
  | _, _, .cons h r, e => by
    simp only [D.okqs, Bool.and_eq_true] at e
    exact .cons (Rep.dp h e.1) (Reps.dp r e.2)
end
mutual
theorem D.eqv_py : ∀ d e : D, d.okq = true → e.okq = true → PyData.eqv d.py e.py = D.eqv d e
  | .non, e, _, h => by cases e <;> simp_all [D.py, D.eqv, PyData.eqv, D.okq]
  | .bl _, e, _, h => by cases e <;> simp_all [D.py, D.eqv, PyData.eqv, D.okq]
  | .int _, e, _, h => by cases e <;> simp_all [D.py, D.eqv, PyData.eqv, D.okq]
  | .str _, e, _, h => by cases e <;> simp_all [D.py, D.eqv, PyData.eqv, D.okq]
  | .tup ds, e, g, h => by
    cases e with
    | tup es => simp only [D.py, D.eqv, PyData.eqv]; exact D.eqvs_py ds es (by simpa [D.okq] using g) (by simpa [D.okq] using h)
    | _ => simp [D.py, D.eqv, PyData.eqv]
  | .lst ds, e, g, h => by
    cases e with
    | lst es => simp only [D.py, D.eqv, PyData.eqv]; exact D.eqvs_py ds es (by simpa [D.okq] using g) (by simpa [D.okq] using h)
    | _ => simp [D.py, D.eqv, PyData.eqv]
  | .dk _, e, h, _ => by simp [D.okq] at h
  | .dt _, e, h, _ => by simp [D.okq] at h
  | .scr _, e, h, _ => by simp [D.okq] at h
theorem D.eqvs_py : ∀ ds es : List D, D.okqs ds = true → D.okqs es = true → PyData.eqvAll (D.pys ds) (D.pys es) = D.eqvs ds es
  | [], [], _, _ => by simp [D.pys, PyData.eqvAll, D.eqvs]
  | [], _ :: _, _, _ => by simp [D.pys, PyData.eqvAll, D.eqvs]
  | _ :: _, [], _, _ => by simp [D.pys, PyData.eqvAll, D.eqvs]
  | d :: ds, e :: es, g, h => by
    simp only [D.okqs, Bool.and_eq_true] at g h
    simp only [D.pys, PyData.eqvAll, D.eqvs, D.eqv_py d e g.1 h.1, D.eqvs_py ds es g.2 h.2]
end
/-- both may be compared -/
def D.cmpable (d e : D) : Bool := d.okq && e.okq && decide (d.dep ≤ 63) && decide (e.dep ≤ 63)
def fEq : List D → Option C
  | [d, e] => if d.cmpable e then some (.sh (.bl (D.eqv d e))) else none
  | _ => none
def fNe : List D → Option C
  | [d, e] => if d.cmpable e then some (.sh (.bl (!D.eqv d e))) else none
  | _ => none
theorem D.shaped {d : D} (h : d.okq = true) (l : d.dep ≤ 63) : SeqAt.shaped d.py = true := by
  have := D.py_dep d
  unfold SeqAt.shaped
  rw [D.lay d h, Bool.true_and, decide_eq_true_eq]
  omega
section
variable {K : Fg}
theorem s_eq : OpS K (op2r (rEqD K)) fEq := fun G H vs ds c Q s rv e k => by
  unfold fEq at e
  split at e
  · rename_i d f
    split at e
    · rename_i h
      cases e
      simp only [D.cmpable, Bool.and_eq_true, decide_eq_true_eq] at h
      obtain ⟨⟨⟨h1, h2⟩, h3⟩, h4⟩ := h
      cases rv with
      | cons r1 rv =>
        cases rv with
        | cons r2 rv =>
          cases rv
          exact ⟨_, _, rfl, d.py, f.py, (r1.all s).dp h1, (r2.all s).dp h2, D.shaped h1 h3, D.shaped h2 h4, by rw [D.eqv_py d f h1 h2]; exact k.sh s (.bl _)⟩
    · cases e
  · cases e
theorem s_ne : OpS K (op2r (rNeD K)) fNe := fun G H vs ds c Q s rv e k => by
  unfold fNe at e
  split at e
  · rename_i d f
    split at e
    · rename_i h
      cases e
      simp only [D.cmpable, Bool.and_eq_true, decide_eq_true_eq] at h
      obtain ⟨⟨⟨h1, h2⟩, h3⟩, h4⟩ := h
      cases rv with
      | cons r1 rv =>
        cases rv with
        | cons r2 rv =>
          cases rv
          exact ⟨_, _, rfl, d.py, f.py, (r1.all s).dp h1, (r2.all s).dp h2, D.shaped h1 h3, D.shaped h2 h4, by rw [D.eqv_py d f h1 h2]; exact k.sh s (.bl _)⟩
    · cases e
  · cases e
/-! ## is None -/
def D.isN : D → Bool
  | .non => true | _ => false
def fIsN : List D → Option C
  | [d, .non] => some (.sh (.bl d.isN))
  | _ => none
def fNotN : List D → Option C
  | [d, .non] => some (.sh (.bl (!d.isN)))
  | _ => none
theorem isN_of {G H : Hp} {x : V} {d : D} (r : RepV K G H x d) : decide (x = .non) = d.isN := by
  cases r with
  | sh r => cases r <;> simp [D.isN]
  | _ => simp [D.isN]
theorem s_isN : OpS K (op2r (fun x y H Q => y = .non ∧ Q (.bl (decide (x = .non))) H)) fIsN := fun G H vs ds c Q s rv e k => by
  unfold fIsN at e
  split at e
  · rename_i d
    cases e
    cases rv with
    | cons r1 rv =>
      cases rv with
      | cons r2 rv =>
        cases rv; cases r2.non
        exact ⟨_, _, rfl, rfl, by rw [isN_of r1]; exact k.sh s (.bl _)⟩
  · cases e
theorem s_notN : OpS K (op2r (fun x y H Q => y = .non ∧ Q (.bl (!decide (x = .non))) H)) fNotN := fun G H vs ds c Q s rv e k => by
  unfold fNotN at e
  split at e
  · rename_i d
    cases e
    cases rv with
    | cons r1 rv =>
      cases rv with
      | cons r2 rv =>
        cases rv; cases r2.non
        exact ⟨_, _, rfl, rfl, by rw [isN_of r1]; exact k.sh s (.bl _)⟩
  · cases e
end
end Fx
set_option Elab.async false
set_option linter.all false
set_option maxRecDepth 100000
set_option maxHeartbeats 4000000
noncomputable section
namespace Fx
open PySem L2

/-! ## tests -/
def kVal (m : EM) : TM := fun env => match m env with
  | some (.sh (.bl b), e) => some (b, e)
  | _ => none
section
variable {X : Cx} {a b c e : Expr} {pos : Pos}
theorem weakT {fp fp' : Fp} {G H G' H' : Hp} {fr : List Addr} (s : Step G H (U fp) G' H' (fun a => U fp' a ∨ a ∈ fr)) : Step G H (U fp) G' H' (U fp') := s.weak (fun _ u => u) fun a u => .inl (.inl u)
theorem kVal_val {m : EM} (h : EOk X e m) (he : ∀ whole, isTrue e X.env whole = (do let v ← whole; standAt e.pos; holding [v] (truthy v)) := by intro _; rfl) : TOk X e (kVal m) := pt_mono (pt_val h he) fun σ H Q ⟨env, G, fp, con, b, env', e1, k⟩ => by
  unfold kVal at e1
  split at e1
  · rename_i b0 e0 q
    cases e1
    exact ⟨env, G, fp, con, _, _, q, fun v G' H' fp' fr c' r n s => by
      have r := r.of_sh.1
      cases r
      exact ⟨_, rfl, k G' H' fp' c' (weakT s)⟩⟩
  · cases e1
theorem kVal_cmp {oa ob : Opd} {op : CmpOp} {r : R2} {f : List D → Option C} (hr : OpR X (compareOp op) r) (hf : OpS X.K (op2r r) f) (ha : OOk X a oa) (hb : OOk X b ob) (hm : behindInMarks op b = false := by first | exact nomark _ | rfl) : TOk X (.Compare a [op] [b] pos) (kVal (eO f [oa, ob])) :=
  pt_mono (pt_cmpR hr ha hb hm) fun σ H Q ⟨env, G, fp, con, b, env', e1, k⟩ => by
    unfold kVal at e1
    split at e1
    · rename_i b0 e0 q
      cases e1
      have q1 : tE X.K (eO f [oa, ob]) σ H (fun x H' => ∃ k, x = .bl k ∧ Q k H') := ⟨env, G, fp, con, _, _, q, fun v G' H' fp' fr c' r n s => by
        have r := r.of_sh.1
        cases r
        exact ⟨_, rfl, k G' H' fp' c' (weakT s)⟩⟩
      refine vk_mono_opd oa (fun x H1 h1 => vk_mono_opd ob (fun y H2 h2 => ?_) h1) (tOs2 (tO_tOs (eO_run hf q1)))
      obtain ⟨x', y', e, h⟩ := h2
      cases e
      exact h
    · cases e1
def fTru : D → Option Bool
  | .non => some false | .bl b => some b | .int i => some (i != 0)
  | .str x => if x.length ≤ lim then some ((x.length : Int) != 0) else none
  | .tup ds => some (!ds.isEmpty) | .lst ds => some (!ds.isEmpty) | .dk kvs => some (!kvs.isEmpty)
  | _ => none
def kTru (o : Opd) : TM := fun env => (evO [o] env).bind fun (ds, e) => match ds with
  | [d] => (fTru d).bind fun b => some (b, e)
  | _ => none
theorem reps_emp {K : Fg} {G : Hp} {xs : List V} {ds : List D} (r : Reps K G xs ds) : xs.isEmpty = ds.isEmpty := by cases r <;> rfl
theorem repK_emp {K : Fg} {G : Hp} {xs : List (Key × V)} {ds : List (Key × D)} (r : RepK K G xs ds) : xs.isEmpty = ds.isEmpty := by cases r <;> rfl
theorem tru_of {K : Fg} {G H : Hp} {x : V} {d : D} {b : Bool} (s : Same G H) (r : RepV K G H x d) (e : fTru d = some b) : TruV K x H b := by
  unfold fTru at e
  split at e
  · cases e; cases r.non; rfl
  · cases e; cases r.bl; rfl
  · cases e; cases r.int; rfl
  · split at e
    · rename_i hz; cases e; cases r.str; exact ⟨by rw [← lim_eq]; exact hz, rfl⟩
    · cases e
  · cases e; obtain ⟨a, xs, rfl, h1, q1⟩ := r.tup; exact .inr (.inl ⟨xs, SqT.of (s _ _ h1), by rw [reps_emp q1]⟩)
  · cases e; obtain ⟨a, xs, rfl, h1, q1⟩ := r.lst s; exact .inl ⟨xs, SqL.of h1, by rw [reps_emp q1]⟩
  · cases e; obtain ⟨a, xs, rfl, h1, q1⟩ := r.dk_ s; exact .inr (.inr ⟨xs, h1, by rw [repK_emp q1]⟩)
  · cases e
theorem kTru_ok {o : Opd} (h : OOk X e o) (he : ∀ whole, isTrue e X.env whole = (do let v ← whole; standAt e.pos; holding [v] (truthy v)) := by intro _; rfl) : TOk X e (kTru o) := pt_mono (pt_truth h he) fun σ H Q ⟨env, G, fp, con, b, env', e1, k⟩ => by
  unfold kTru at e1
  cases q : evO [o] env with
  | none => simp [q] at e1
  | some y =>
    obtain ⟨ds, e2⟩ := y
    simp only [q, Option.bind_some] at e1
    split at e1
    · rename_i d
      cases q2 : fTru d with
      | none => simp [q2] at e1
      | some b0 =>
        simp [q2] at e1
        obtain ⟨rfl, rfl⟩ := e1
        have z : tO X.K [o] σ H (fun vs H1 => ∃ x, vs = [x] ∧ ∃ k, TruV X.K x H1 k ∧ Q k H1) := ⟨env, G, fp, con, _, _, q, fun vs G' H' fp' c' rv s => by
          cases rv with | cons r1 rv => cases rv; exact ⟨_, rfl, b0, tru_of c'.sub r1 q2, k G' H' fp' c' s⟩⟩
        refine vk_mono_opd o (fun x H1 h1 => ?_) (tOs1 (tO_tOs z))
        obtain ⟨x', ex, h1⟩ := h1
        cases ex
        exact h1
    · cases e1
def kAnd (a b : TM) : TM := fun env => (a env).bind fun (x, e) => if x then b e else some (false, e)
def kOr (a b : TM) : TM := fun env => (a env).bind fun (x, e) => if x then some (true, e) else b e
def kNot (a : TM) : TM := fun env => (a env).bind fun (x, e) => some (!x, e)
def WOk (X : Cx) (e : Expr) (m : TM) : Prop := PW X e (tT X.K m)
theorem pw_mono {e : Expr} {t t' : TT} (h : PW X e t) (k : ∀ σ H Q, t' σ H Q → t σ H Q) : PW X e t' := ⟨fun wh pins s σ H Q I q => h.run wh pins s σ H Q I (k σ H Q q)⟩
theorem kAnd_run {K : Fg} {ma mb : TM} {σ : St} {H : Hp} {Q : Bool → Hp → Prop} (q : tT K (kAnd ma mb) σ H Q) : tAnd (tT K ma) (tT K mb) σ H Q := by
  obtain ⟨env, G, fp, con, b, env', e1, k⟩ := q
  unfold kAnd at e1
  cases q : ma env with
  | none => simp [q] at e1
  | some y =>
    obtain ⟨x, e2⟩ := y
    simp only [q, Option.bind_some] at e1
    refine ⟨env, G, fp, con, x, e2, q, fun G' H' fp' c' s => ?_⟩
    cases x with
    | true =>
      rw [if_pos rfl] at e1 ⊢
      exact ⟨e2, G', fp', c', b, env', e1, fun G2 H2 fp2 c2 s2 => k G2 H2 fp2 c2 (s.trans s2)⟩
    | false =>
      rw [if_neg Bool.false_ne_true] at e1 ⊢
      cases e1
      exact k G' H' fp' c' s
theorem kOr_run {K : Fg} {ma mb : TM} {σ : St} {H : Hp} {Q : Bool → Hp → Prop} (q : tT K (kOr ma mb) σ H Q) : tOr (tT K ma) (tT K mb) σ H Q := by
  obtain ⟨env, G, fp, con, b, env', e1, k⟩ := q
  unfold kOr at e1
  cases q : ma env with
  | none => simp [q] at e1
  | some y =>
    obtain ⟨x, e2⟩ := y
    simp only [q, Option.bind_some] at e1
    refine ⟨env, G, fp, con, x, e2, q, fun G' H' fp' c' s => ?_⟩
    cases x with
    | false =>
      rw [if_neg Bool.false_ne_true] at e1 ⊢
      exact ⟨e2, G', fp', c', b, env', e1, fun G2 H2 fp2 c2 s2 => k G2 H2 fp2 c2 (s.trans s2)⟩
    | true =>
      rw [if_pos rfl] at e1 ⊢
      cases e1
      exact k G' H' fp' c' s
theorem kNot_run {K : Fg} {ma : TM} {σ : St} {H : Hp} {Q : Bool → Hp → Prop} (q : tT K (kNot ma) σ H Q) : tNot (tT K ma) σ H Q := by
  obtain ⟨env, G, fp, con, b, env', e1, k⟩ := q
  unfold kNot at e1
  cases q : ma env with
  | none => simp [q] at e1
  | some y =>
    obtain ⟨x, e2⟩ := y
    simp only [q, Option.bind_some] at e1
    cases e1
    exact ⟨env, G, fp, con, x, env', q, fun G' H' fp' c' s => k G' H' fp' c' s⟩
theorem kw_and1 {ma : TM} (h : TOk X a ma) : WOk X (.BoolOp .And [a] pos) ma := pw_and1 h
theorem kw_or1 {ma : TM} (h : TOk X a ma) : WOk X (.BoolOp .Or [a] pos) ma := pw_or1 h
theorem kw_and {ma mb : TM} {rest : List Expr} (h : TOk X a ma) (r : WOk X (.BoolOp .And (b :: rest) pos) mb) : WOk X (.BoolOp .And (a :: b :: rest) pos) (kAnd ma mb) := pw_mono (pw_and h r) fun _ _ _ q => kAnd_run q
theorem kw_or {ma mb : TM} {rest : List Expr} (h : TOk X a ma) (r : WOk X (.BoolOp .Or (b :: rest) pos) mb) : WOk X (.BoolOp .Or (a :: b :: rest) pos) (kOr ma mb) := pw_mono (pw_or h r) fun _ _ _ q => kOr_run q
theorem k_w {m : TM} (h : WOk X e m) : TOk X e m := h.pt
theorem k_not {ma : TM} (h : TOk X a ma) : TOk X (.UnaryOp .Not a pos) (kNot ma) := pt_mono (pt_not h) fun _ _ _ q => kNot_run q

/-! ## and, or, not of truths as values; a if c else b -/
def eAnd (a b : EM) : EM := fun env => match a env with
  | some (.sh (.bl x), e) => if x then b e else some (.sh (.bl false), e)
  | _ => none
def eOr (a b : EM) : EM := fun env => match a env with
  | some (.sh (.bl x), e) => if x then some (.sh (.bl true), e) else b e
  | _ => none
def eNot (a : EM) : EM := fun env => match a env with
  | some (.sh (.bl x), e) => some (.sh (.bl (!x)), e)
  | _ => none
def eIf (t : TM) (a b : EM) : EM := fun env => (t env).bind fun (x, e) => if x then a e else b e
theorem EndE.step {K : Fg} {σ : St} {env' : Env} {c : C} {G H G1 H1 : Hp} {fp fp1 : Fp} {Q : VK} (k : EndE K σ env' c G H fp Q) (s : Step G H (U fp) G1 H1 (U fp1)) : EndE K σ env' c G1 H1 fp1 Q :=
  fun v G' H' fp' fr c' r n s' => k v G' H' fp' fr c' r n (s.trans s')
theorem EndE.sh {K : Fg} {σ : St} {env' : Env} {d : D} {v : V} {G H G1 H1 : Hp} {fp fp1 : Fp} {Q : VK} (k : EndE K σ env' (.sh d) G H fp Q) (c : Con K σ env' G1 H1 fp1) (s : Step G H (U fp) G1 H1 (U fp1)) (r : Rep K G1 v d) : Q v H1 :=
  k v G1 H1 fp1 [] c (.sh r) (fun a m => by cases m) (s.weak (fun _ u => u) fun a u => u.elim .inl fun z => by cases z)
theorem ok_one {m : EM} {op} (h : EOk X a m) : EOk X (.BoolOp op [a] pos) m := pe_one h
theorem ok_and {ma mb : EM} {rest : List Expr} (h : EOk X a ma) (r : EOk X (.BoolOp .And (b :: rest) pos) mb) : EOk X (.BoolOp .And (a :: b :: rest) pos) (eAnd ma mb) := pe_mono (pe_and h r) fun σ H Q ⟨env, G, fp, con, c, env', e1, k⟩ => by
  unfold eAnd at e1
  split at e1
  · rename_i x e2 q
    refine ⟨env, G, fp, con, _, _, q, fun v G' H' fp' fr c' r n s => ?_⟩
    have r := r.of_sh.1
    cases r
    refine ⟨x, rfl, ?_⟩
    cases x with
    | true =>
      rw [if_pos rfl] at e1 ⊢
      exact ⟨e2, G', fp', c', c, env', e1, k.step (weakT s)⟩
    | false =>
      rw [if_neg Bool.false_ne_true] at e1 ⊢
      cases e1
      exact k.sh c' (weakT s) (.bl _)
  · cases e1
theorem ok_or {ma mb : EM} {rest : List Expr} (h : EOk X a ma) (r : EOk X (.BoolOp .Or (b :: rest) pos) mb) : EOk X (.BoolOp .Or (a :: b :: rest) pos) (eOr ma mb) := pe_mono (pe_or h r) fun σ H Q ⟨env, G, fp, con, c, env', e1, k⟩ => by
  unfold eOr at e1
  split at e1
  · rename_i x e2 q
    refine ⟨env, G, fp, con, _, _, q, fun v G' H' fp' fr c' r n s => ?_⟩
    have r := r.of_sh.1
    cases r
    refine ⟨x, rfl, ?_⟩
    cases x with
    | false =>
      rw [if_neg Bool.false_ne_true] at e1 ⊢
      exact ⟨e2, G', fp', c', c, env', e1, k.step (weakT s)⟩
    | true =>
      rw [if_pos rfl] at e1 ⊢
      cases e1
      exact k.sh c' (weakT s) (.bl _)
  · cases e1
theorem ok_not {ma : EM} (h : EOk X a ma) : EOk X (.UnaryOp .Not a pos) (eNot ma) := pe_mono (pe_not h) fun σ H Q ⟨env, G, fp, con, c, env', e1, k⟩ => by
  unfold eNot at e1
  split at e1
  · rename_i x e2 q
    cases e1
    refine ⟨env, G, fp, con, _, _, q, fun v G' H' fp' fr c' r n s => ?_⟩
    have r := r.of_sh.1
    cases r
    exact ⟨x, rfl, k.sh c' (weakT s) (.bl _)⟩
  · cases e1
theorem ok_if {t : TM} {ma mb : EM} (ht : TOk X c t) (ha : EOk X a ma) (hb : EOk X b mb) : EOk X (.IfExp c a b pos) (eIf t ma mb) := pe_mono (pe_ifExp ht ha hb) fun σ H Q ⟨env, G, fp, con, c, env', e1, k⟩ => by
  unfold eIf at e1
  cases q : t env with
  | none => simp [q] at e1
  | some y =>
    obtain ⟨x, e2⟩ := y
    simp only [q, Option.bind_some] at e1
    refine ⟨env, G, fp, con, x, e2, q, fun G' H' fp' c' s => ?_⟩
    cases x with
    | true =>
      rw [if_pos rfl] at e1 ⊢
      exact ⟨e2, G', fp', c', c, env', e1, k.step s⟩
    | false =>
      rw [if_neg Bool.false_ne_true] at e1 ⊢
      exact ⟨e2, G', fp', c', c, env', e1, k.step s⟩
end

/-! ## statements -/
def sNx : SM := fun env => some (.nx env)
def sSeq (a b : SM) : SM := fun env => (a env).bind fun o => match o with
  | .nx e => b e
  | o => some o
def sIf (t : TM) (a b : SM) : SM := fun env => (t env).bind fun (x, e) => if x then a e else b e
def sSet (i : Nat) (m : EM) : SM := fun env => (m env).bind fun (c, e) => if i < e.length then some (.nx (e.set i (some c))) else none
def sRet (m : EM) : SM := fun env => (m env).bind fun (c, e) => some (.rt c e)
def sRetN : SM := fun env => some (.rt (.sh .non) env)
def sBk : SM := fun env => some (.bk env)
def sCt : SM := fun env => some (.ct env)
def sDrop (m : EM) : SM := fun env => (m env).bind fun (_, e) => some (.nx e)
def sNo : SM := fun _ => none
section
variable {X : Cx} {p : Nat} {st : Stmt} {rest : List Stmt}
theorem EndS.step {K : Fg} {σ σ1 : St} {G H G1 H1 : Hp} {fp fp1 : Fp} {D : Ends} {o : Out} (k : EndS K p σ G H fp D o) (s : Step G H (U fp) G1 H1 (U fp1)) (hp : σ1.take p = σ.take p) : EndS K p σ1 G1 H1 fp1 D o := by
  cases o with
  | nx e => exact fun σ' G' H' fp' c' s' z => k σ' G' H' fp' c' (s.trans s') (z.trans hp)
  | bk e => exact fun σ' G' H' fp' c' s' z => k σ' G' H' fp' c' (s.trans s') (z.trans hp)
  | ct e => exact fun σ' G' H' fp' c' s' z => k σ' G' H' fp' c' (s.trans s') (z.trans hp)
  | rt c e => exact fun v σ' G' H' fp' fr c' r n s' z => k v σ' G' H' fp' fr c' r n (s.trans s') (z.trans hp)
theorem ss_nil : SsOk X p [] sNx := pss_mono pss_nil fun D σ H ⟨env, G, fp, con, o, e1, k⟩ => by
  cases e1
  exact k σ G H fp con (Step.refl ..) rfl
theorem ss_cons {ma mb : SM} (h : SOk X p st ma) (r : SsOk X p rest mb) : SsOk X p (st :: rest) (sSeq ma mb) := pss_mono (pss_cons h r) fun D σ H ⟨env, G, fp, con, o, e1, k⟩ => by
  unfold sSeq at e1
  cases q : ma env with
  | none => simp [q] at e1
  | some o1 =>
    simp only [q, Option.bind_some] at e1
    refine ⟨env, G, fp, con, o1, q, ?_⟩
    cases o1 with
    | nx e => exact fun σ' G' H' fp' c' s' z => ⟨e, G', fp', c', o, e1, k.step s' z⟩
    | bk e => cases e1; exact k
    | ct e => cases e1; exact k
    | rt c e => cases e1; exact k
theorem ss_one {ma : SM} (h : SOk X p st ma) : SsOk X p [st] ma := pss_one h
theorem s_if {c : Expr} {a b : List Stmt} {pos : Pos} {t : TM} {ma mb : SM} (ht : TOk X c t) (ha : SsOk X p a ma) (hb : SsOk X p b mb) : SOk X p (.If c a b pos) (sIf t ma mb) := ps_mono (ps_if ht ha hb) fun D σ H ⟨env, G, fp, con, o, e1, k⟩ => by
  unfold sIf at e1
  cases q : t env with
  | none => simp [q] at e1
  | some y =>
    obtain ⟨x, e2⟩ := y
    simp only [q, Option.bind_some] at e1
    refine ⟨env, G, fp, con, x, e2, q, fun G' H' fp' c' s => ?_⟩
    cases x with
    | true =>
      rw [if_pos rfl] at e1 ⊢
      exact ⟨e2, G', fp', c', o, e1, k.step s rfl⟩
    | false =>
      rw [if_neg Bool.false_ne_true] at e1 ⊢
      exact ⟨e2, G', fp', c', o, e1, k.step s rfl⟩
theorem take_set {σ : St} {i p : Nat} {v : Option V} (h : p ≤ i) : (σ.set i v).take p = σ.take p := by
  rw [List.take_set_of_le h]
/-- a value goes into a slot -/
theorem set_run {K : Fg} {σ : St} {env' : Env} {c : C} {i : Nat} {G H : Hp} {fp : Fp} {D : Ends} (hp : p ≤ i) (hi : i < env'.length) (k : EndS K p σ G H fp D (.nx (env'.set i (some c)))) : EndE K σ env' c G H fp (fun v H' => D.nx (σ.set i (some v)) H') :=
  fun v G' H' fp' fr c' r n s => k _ G' H' _ (c'.put hi r fun a m j hj z => n a m ⟨j, z⟩) (s.weak (fun _ u => u) fun a u => (U_set u).elim (fun z => .inl (.inl z)) fun z => .inl (.inr z)) (take_set hp)
theorem sSet_run {K : Fg} {m : EM} {i : Nat} {σ : St} {H : Hp} {D : Ends} (hp : p ≤ i) (q : tS K p (sSet i m) D σ H) : tE K m σ H (fun v H' => D.nx (σ.set i (some v)) H') := by
  obtain ⟨env, G, fp, con, o, e1, k⟩ := q
  unfold sSet at e1
  cases q : m env with
  | none => simp [q] at e1
  | some y =>
    obtain ⟨c, e2⟩ := y
    simp only [q, Option.bind_some] at e1
    split at e1
    · rename_i hi
      cases e1
      exact ⟨env, G, fp, con, c, e2, q, set_run hp hi k⟩
    · cases e1
theorem s_set {i : Nat} {x : Str} {e : Expr} {pos pos' : Pos} {m : EM} (hp : p ≤ i) (he : EOk X e m) (hN : X.N.Nodup) (hi : X.N[i]? = some x) (hx : Loc X.env.scope x) (hs : swapsWith e (some (.Name x pos')) pos.line X.env = pure false := by rfl) (hf : X.fn x = true ∨ X.env.scope.names.lookup x = some .local := by first | exact .inl rfl | exact .inr rfl | assumption) :
    SOk X p (.Assign [.Name x pos'] e pos) (sSet i m) := ps_mono (ps_set hN hi hx he hs hf) fun D σ H q => sSet_run hp q
theorem s_ret {e : Expr} {pos : Pos} {m : EM} (h : EOk X e m) : SOk X p (.Return (some e) pos) (sRet m) := ps_mono (ps_ret h) fun D σ H ⟨env, G, fp, con, o, e1, k⟩ => by
  unfold sRet at e1
  cases q : m env with
  | none => simp [q] at e1
  | some y =>
    obtain ⟨c, e2⟩ := y
    simp [q] at e1
    subst e1
    exact ⟨env, G, fp, con, c, e2, q, fun v G' H' fp' fr c' r n s => k v σ G' H' fp' fr c' r n s rfl⟩
theorem s_retN {pos : Pos} : SOk X p (.Return none pos) sRetN := ps_mono ps_retN fun D σ H ⟨env, G, fp, con, o, e1, k⟩ => by
  cases e1
  exact k .non σ G H fp [] con (.sh .non) (fun a m => by cases m) ((Step.refl G H (U fp)).weak (fun _ u => u) fun a u => u.elim .inl fun z => by cases z) rfl
theorem s_bk {pos : Pos} : SOk X p (.Break pos) sBk := ps_mono ps_break fun D σ H ⟨env, G, fp, con, o, e1, k⟩ => by
  cases e1
  exact k σ G H fp con (Step.refl ..) rfl
theorem s_ct {pos : Pos} : SOk X p (.Continue pos) sCt := ps_mono ps_continue fun D σ H ⟨env, G, fp, con, o, e1, k⟩ => by
  cases e1
  exact k σ G H fp con (Step.refl ..) rfl
theorem s_pass {pos : Pos} : SOk X p (.Pass pos) sNx := ps_mono ps_pass fun D σ H ⟨env, G, fp, con, o, e1, k⟩ => by
  cases e1
  exact k σ G H fp con (Step.refl ..) rfl
theorem s_no {st : Stmt} : SOk X p st sNo := ps_mono ps_never fun D σ H ⟨env, G, fp, con, o, e1, k⟩ => by cases e1
theorem s_drop {e : Expr} {pos : Pos} {m : EM} (h : EOk X e m) (hs : swapsWith e none pos.line X.env = pure false := by rfl) : SOk X p (.Expr e pos) (sDrop m) := ps_mono (ps_expr h hs) fun D σ H ⟨env, G, fp, con, o, e1, k⟩ => by
  unfold sDrop at e1
  cases q : m env with
  | none => simp [q] at e1
  | some y =>
    obtain ⟨c, e2⟩ := y
    simp [q] at e1
    subst e1
    exact ⟨env, G, fp, con, c, e2, q, fun v G' H' fp' fr c' r n s => k σ G' H' fp' c' (weakT s) rfl⟩
end

/-! ## while -/
def whileN : Nat → TM → SM → Env → Option Out
  | 0, _, _, _ => none
  | n + 1, t, b, env => (t env).bind fun (x, e) => if x then (b e).bind fun o => match o with
      | .nx e => whileN n t b e
      | .ct e => whileN n t b e
      | .bk e => some (.nx e)
      | .rt c e => some (.rt c e)
    else some (.nx e)
theorem whileN_mono {t : TM} {b : SM} : ∀ {n m : Nat} {env : Env} {o : Out}, n ≤ m → whileN n t b env = some o → whileN m t b env = some o
  | 0, _, _, _, _, h => by cases h
  | n + 1, 0, _, _, hl, _ => by omega
  | n + 1, m + 1, env, o, hl, h => by
    unfold whileN at h ⊢
    cases q : t env with
    | none => simp [q] at h
    | some y =>
      obtain ⟨x, e⟩ := y
      simp only [q, Option.bind_some] at h ⊢
      cases x with
      | false => exact h
      | true =>
        rw [if_pos rfl] at h ⊢
        cases q2 : b e with
        | none => simp [q2] at h
        | some o2 =>
          simp only [q2, Option.bind_some] at h ⊢
          cases o2 with
          | nx e => exact whileN_mono (by omega) h
          | ct e => exact whileN_mono (by omega) h
          | bk e => exact h
          | rt c e => exact h
open Classical in
noncomputable def sWhile (t : TM) (b : SM) : SM := fun env => if h : ∃ o, ∃ n, whileN n t b env = some o then some h.choose else none
theorem sWhile_of {t : TM} {b : SM} {env : Env} {o : Out} {n : Nat} (h : whileN n t b env = some o) : sWhile t b env = some o := by
  unfold sWhile
  have hx : ∃ o, ∃ n, whileN n t b env = some o := ⟨o, n, h⟩
  rw [dif_pos hx]
  obtain ⟨m, hm⟩ := hx.choose_spec
  have a := whileN_mono (Nat.le_max_left n m) h
  have c := whileN_mono (Nat.le_max_right n m) hm
  rw [a] at c
  exact c.symm
theorem sWhile_inv {t : TM} {b : SM} {env : Env} {o : Out} (h : sWhile t b env = some o) : ∃ n, whileN n t b env = some o := by
  unfold sWhile at h
  split at h
  · rename_i hx
    cases h
    exact hx.choose_spec
  · cases h
theorem s_while {X : Cx} {p : Nat} {c : Expr} {body : List Stmt} {pos : Pos} {t : TM} {b : SM} (hp : PassesOwn (model X.prog X.w) X.A X.env X.xe) (hc : TOk X c t) (hb : SsOk X p body b) : SOk X p (.While c body [] pos) (sWhile t b) := ps_mono (ps_while hp hc hb) fun D σ H ⟨env, G, fp, con, o, e1, k⟩ => by
  obtain ⟨n, hn⟩ := sWhile_inv e1
  refine ⟨fun m σ1 H1 => ∃ env1 G1 fp1, Con X.K σ1 env1 G1 H1 fp1 ∧ whileN m t b env1 = some o ∧ EndS X.K p σ1 G1 H1 fp1 D o, ⟨n, env, G, fp, con, hn, k⟩, ?_⟩
  rintro m σ1 H1 ⟨env1, G1, fp1, con1, h1, k1⟩
  cases m with
  | zero => cases h1
  | succ m =>
    unfold whileN at h1
    cases q : t env1 with
    | none => simp [q] at h1
    | some y =>
      obtain ⟨x, e⟩ := y
      simp only [q, Option.bind_some] at h1
      refine ⟨env1, G1, fp1, con1, x, e, q, fun G' H' fp' c' s => ?_⟩
      cases x with
      | false =>
        rw [if_neg Bool.false_ne_true] at h1 ⊢
        cases h1
        exact k1 σ1 G' H' fp' c' s rfl
      | true =>
        rw [if_pos rfl] at h1 ⊢
        cases q2 : b e with
        | none => simp [q2] at h1
        | some o2 =>
          simp only [q2, Option.bind_some] at h1
          refine ⟨fun σ2 H2 => ∃ env1 G1 fp1, Con X.K σ2 env1 G1 H2 fp1 ∧ whileN m t b env1 = some o ∧ EndS X.K p σ2 G1 H2 fp1 D o, fun σ' H' w => ⟨m, Nat.lt_succ_self m, w⟩, e, G', fp', c', o2, q2, ?_⟩
          cases o2 with
          | nx e2 => exact fun σ2 G2 H2 fp2 c2 s2 z => ⟨e2, G2, fp2, c2, h1, k1.step (s.trans s2) z⟩
          | ct e2 => exact fun σ2 G2 H2 fp2 c2 s2 z => ⟨e2, G2, fp2, c2, h1, k1.step (s.trans s2) z⟩
          | bk e2 => cases h1; exact fun σ2 G2 H2 fp2 c2 s2 z => k1 σ2 G2 H2 fp2 c2 (s.trans s2) z
          | rt c e2 => cases h1; exact fun v σ2 G2 H2 fp2 fr c2 r n s2 z => k1 v σ2 G2 H2 fp2 fr c2 r n (s.trans s2) z
end Fx
set_option Elab.async false
set_option linter.all false
set_option maxRecDepth 100000
set_option maxHeartbeats 4000000
noncomputable section
namespace Fx
open PySem L2

/-! ## what is walked -/
abbrev IM := Env → Option (List D × Env)
structure Wlk (K : Fg) (J : It) (ds : List D) (G : Hp) : Prop where
  go : ∀ i G1 H1, i < ds.length → Same G G1 → Same G1 H1 → J.go i H1 ∧ ∀ x H2, J.yld i H1 x H2 → ∃ G2 d, ds[i]? = some d ∧ Rep K G2 x d ∧ Same G2 H2 ∧ Step G1 H1 (fun _ => False) G2 H2 (fun _ => False)
  stop : ∀ G1 H1, Same G G1 → Same G1 H1 → J.stop ds.length H1
theorem Wlk.mono {K : Fg} {J : It} {ds : List D} {G G' : Hp} (w : Wlk K J ds G) (s : Same G G') : Wlk K J ds G' := ⟨fun i G1 H1 hi a b => w.go i G1 H1 hi (s.trans a) b, fun G1 H1 a b => w.stop G1 H1 (s.trans a) b⟩
def tI (K : Fg) (m : IM) : TI := fun σ H R => ∃ env G fp, Con K σ env G H fp ∧ ∃ ds env', m env = some (ds, env') ∧
  ∀ J G' H' fp', Con K σ env' G' H' fp' → Step G H (U fp) G' H' (U fp') → Wlk K J ds G' → R J H'
def IOk (X : Cx) (tg iter : Expr) (m : IM) : Prop := PI X tg iter (tI X.K m)
theorem pi_mono {X : Cx} {tg iter : Expr} {t t' : TI} (h : PI X tg iter t) (k : ∀ σ H R, t' σ H R → t σ H R) : PI X tg iter t' := ⟨fun pins s σ H R I q => h.run pins s σ H R I (k σ H R q)⟩

/-- a list or a tuple that stands still -/
def iSeq (K : Fg) (tl : TE) : TI := fun σ H R => tl σ H fun x H1 => ∃ a, x = .ref a ∧ (((∃ xs, SqL K H1 a xs) ∧ R (Itl K a) H1) ∨ ((∃ xs, SqT K H1 a xs) ∧ R (Itt K a) H1))
theorem pi_seq {X : Cx} {tg l : Expr} {tl : TE} (hl : PE X l tl) : PI X tg l (iSeq X.K tl) := by
  refine ⟨fun pins s σ H R I h => ?_⟩
  refine thn (hl.run pins s σ H _ I h) fun v s1 ⟨x, H1, I1, r1, q1⟩ => ?_
  obtain ⟨a, e, q⟩ := q1
  subst e
  cases r1
  rcases q with ⟨⟨xs, hq⟩, q⟩ | ⟨⟨xs, hq⟩, q⟩
  · obtain ⟨its, rv, p, hz⟩ := I1.list hq
    refine wpAny_pyIter_list p.isList ?_
    refine ⟨s1.heap.objs.size, [s1.heap.objs.size], _, _, H1, rfl, I1.kept (t' := s1.toks) fun b o e => Heap.get?_push_of_some _ e, turn_list a _, ⟨_, Heap.get?_push_size _ rfl, rfl, rfl⟩, fun b hb => ?_, q⟩
    have e : b = s1.heap.objs.size := by simpa using hb
    subst e
    exact I1.fpOk (Nat.le_refl _) (I1.hok.fresh (Nat.le_refl _))
  · obtain ⟨its, rv, p, hz⟩ := I1.tuple hq
    refine wpAny_pyIter_tuple (show s1.heap.IsTuple a its.toArray from p) ?_
    refine ⟨s1.heap.objs.size, [s1.heap.objs.size], _, _, H1, rfl, I1.kept (t' := s1.toks) fun b o e => Heap.get?_push_of_some _ e, turn_tuple a _, ⟨_, Heap.get?_push_size _ rfl, rfl, rfl⟩, fun b hb => ?_, q⟩
    have e : b = s1.heap.objs.size := by simpa using hb
    subst e
    exact I1.fpOk (Nat.le_refl _) (I1.hok.fresh (Nat.le_refl _))
theorem wlk_list {K : Fg} {G : Hp} {a : Addr} {xs : List V} {ds : List D} (h : G a = some (.lst xs)) (r : Reps K G xs ds) : Wlk K (Itl K a) ds G := by
  refine ⟨fun i G1 H1 hi s1 s2 => ?_, fun G1 H1 s1 s2 => ⟨xs, SqL.of (s2 _ _ (s1 _ _ h)), Nat.le_of_eq r.length⟩⟩
  have hq : SqL K H1 a xs := SqL.of (s2 _ _ (s1 _ _ h))
  have hl : i < xs.length := by rw [r.length]; exact hi
  refine ⟨⟨xs, xs[i], hq, by simp [hl]⟩, fun x H2 hy => ?_⟩
  obtain ⟨e, hy⟩ := hy
  subst e
  obtain ⟨d, e1, rd⟩ := r.get (hy xs hq)
  exact ⟨G1, d, e1, rd.mono s1, s2, Step.refl ..⟩
theorem wlk_tup {K : Fg} {G : Hp} {a : Addr} {xs : List V} {ds : List D} (h : SqT K G a xs) (r : Reps K G xs ds) : Wlk K (Itt K a) ds G := by
  refine ⟨fun i G1 H1 hi s1 s2 => ?_, fun G1 H1 s1 s2 => ⟨xs, Same.sqT s2 (Same.sqT s1 h), Nat.le_of_eq r.length⟩⟩
  have hq : SqT K H1 a xs := Same.sqT s2 (Same.sqT s1 h)
  have hl : i < xs.length := by rw [r.length]; exact hi
  refine ⟨⟨xs, xs[i], hq, by simp [hl]⟩, fun x H2 hy => ?_⟩
  obtain ⟨e, hy⟩ := hy
  subst e
  obtain ⟨d, e1, rd⟩ := r.get (hy xs hq)
  exact ⟨G1, d, e1, rd.mono s1, s2, Step.refl ..⟩
/-- the items of a value: a list or a tuple -/
def iV (m : EM) : IM := fun env => (m env).bind fun (c, e) => c.fz.seq.bind fun ds => some (ds, e)
theorem i_seq {X : Cx} {tg l : Expr} {m : EM} (h : EOk X l m) : IOk X tg l (iV m) := pi_mono (pi_seq h) fun σ H R ⟨env, G, fp, con, ds, env', e1, k⟩ => by
  unfold iV at e1
  cases q : m env with
  | none => simp [q] at e1
  | some y =>
    obtain ⟨c, e2⟩ := y
    simp only [q, Option.bind_some] at e1
    cases q2 : c.fz.seq with
    | none => simp [q2] at e1
    | some ds0 =>
      simp [q2] at e1
      obtain ⟨rfl, rfl⟩ := e1
      refine ⟨env, G, fp, con, c, e2, q, fun v G1 H1 fp1 fr con1 r1 n1 s1 => ?_⟩
      have con2 := con_fz2 con1 r1 n1
      have s2 : Step G H (U fp) (addF G1 H1 fr) H1 (U fp1) := s1.trans ((Step.fz r1).weak (U' := fun _ => False) (W := fun a => U fp1 a ∨ a ∈ fr) (W' := U fp1) (fun a m => .inr m) fun a u => .inr (.inl (.inl u)))
      have rv := r1.fz
      cases hf : c.fz with
      | tup zs =>
        rw [hf] at q2 rv; cases q2
        cases rv with
        | tup h1 h2 => exact ⟨_, rfl, .inr ⟨⟨_, SqT.of (con2.sub _ _ h1)⟩, k _ _ _ _ con2 s2 (wlk_tup (SqT.of h1) h2)⟩⟩
      | lst zs =>
        rw [hf] at q2 rv; cases q2
        cases rv with
        | lst h1 h2 => exact ⟨_, rfl, .inl ⟨⟨_, SqL.of (con2.sub _ _ h1)⟩, k _ _ _ _ con2 s2 (wlk_list h1 h2)⟩⟩
      | _ => rw [hf] at q2; cases q2
/-- range(n), range(a, b) -/
def rng (a b : Int) : List D := (List.range (b - a).toNat).map fun i => D.int (a + (i : Nat))
theorem rng_length (a b : Int) : (rng a b).length = (b - a).toNat := by unfold rng; simp
theorem wlk_rng {K : Fg} {G : Hp} (a b : Int) : Wlk K (Itr a (b - a).toNat) (rng a b) G := by
  refine ⟨fun i G1 H1 hi s1 s2 => ?_, fun G1 H1 s1 s2 => ?_⟩
  · rw [rng_length] at hi
    refine ⟨hi, fun x H2 hy => ?_⟩
    obtain ⟨e, ex⟩ := hy
    subst e ex
    exact ⟨G1, .int (a + (i : Nat)), by unfold rng; simp [hi], .int _, s2, Step.refl ..⟩
  · show (b - a).toNat ≤ _
    rw [rng_length]
    exact Nat.le_refl _
def okR (i : Int) : Bool := @decide (-(2 ^ 62) ≤ i ∧ i < 2 ^ 62) (Classical.propDecidable _)
theorem okR_iff {i : Int} : okR i = true ↔ -(2 ^ 62) ≤ i ∧ i < 2 ^ 62 := @decide_eq_true_iff _ (Classical.propDecidable _)
def iR1 (o : Opd) : IM := fun env => (evO [o] env).bind fun (ds, e) => match ds with
  | [.int n] => if okR n then some (rng 0 n, e) else none
  | _ => none
def iR2 (o o' : Opd) : IM := fun env => (evO [o, o'] env).bind fun (ds, e) => match ds with
  | [.int a, .int b] => if okR a && okR b then some (rng a b, e) else none
  | _ => none
theorem i_rng1 {X : Cx} {tg a : Expr} {o : Opd} {p pos : Pos} (hg : Gl X "range") (hm : X.mg "range" = none) (ha : PA X [a] (tOs X.K [o])) (hs : starEach [a] X.env = [(false, eval a X.env)] := by rfl) : IOk X tg (.Call (.Name "range" p) [a] [] pos) (iR1 o) :=
  pi_mono (pi_range1 hg hm (pao ha) hs) fun σ H R ⟨env, G, fp, con, ds, env', e1, k⟩ => by
    unfold iR1 at e1
    cases q : evO [o] env with
    | none => simp [q] at e1
    | some y =>
      obtain ⟨ds0, e2⟩ := y
      simp only [q, Option.bind_some] at e1
      split at e1
      · rename_i n
        split at e1
        · rename_i hn
          cases e1
          refine ⟨env, G, fp, con, _, _, q, fun vs G' H' fp' c' rv s => ?_⟩
          cases rv with
          | cons r1 rv =>
            cases rv; cases r1.int
            have hn := okR_iff.mp hn
            refine ⟨n, rfl, hn.1, hn.2, k _ G' H' fp' c' s ?_⟩
            have := wlk_rng (K := X.K) (G := G') 0 n
            rwa [show (n - 0).toNat = n.toNat by rw [Int.sub_zero]] at this
        · cases e1
      · cases e1
theorem i_rng2 {X : Cx} {tg a b : Expr} {o o' : Opd} {p pos : Pos} (hg : Gl X "range") (hm : X.mg "range" = none) (ha : PA X [a, b] (tOs X.K [o, o'])) (hs : starEach [a, b] X.env = [(false, eval a X.env), (false, eval b X.env)] := by rfl) (hs2 : starEach [b] X.env = [(false, eval b X.env)] := by rfl) : IOk X tg (.Call (.Name "range" p) [a, b] [] pos) (iR2 o o') :=
  pi_mono (pi_range2 hg hm (pao ha) hs hs2) fun σ H R ⟨env, G, fp, con, ds, env', e1, k⟩ => by
    unfold iR2 at e1
    cases q : evO [o, o'] env with
    | none => simp [q] at e1
    | some y =>
      obtain ⟨ds0, e2⟩ := y
      simp only [q, Option.bind_some] at e1
      split at e1
      · rename_i a b
        split at e1
        · rename_i hn
          cases e1
          refine ⟨env, G, fp, con, _, _, q, fun vs G' H' fp' c' rv s => ?_⟩
          cases rv with
          | cons r1 rv =>
            cases rv with
            | cons r2 rv =>
              cases rv; cases r1.int; cases r2.int
              simp only [Bool.and_eq_true] at hn
              have h1 := okR_iff.mp hn.1
              have h2 := okR_iff.mp hn.2
              exact ⟨a, b, rfl, ⟨h1.1, h1.2, h2.1, h2.2⟩, k _ G' H' fp' c' s (wlk_rng a b)⟩
        · cases e1
      · cases e1

/-! ## targets -/
/-- where the items of a value go -/
def asg : List Nat → List D → Env → Option Env
  | [], [], env => some env
  | i :: is, d :: ds, env => if i < env.length then asg is ds (env.set i (some (.sh d))) else none
  | _, _, _ => none
inductive Tgt where
  | one (i : Nat) | tup (is : List Nat)
def Tgt.is : Tgt → List Nat
  | .one i => [i] | .tup is => is
def asgT : Tgt → D → Env → Option Env
  | .one i, d, env => if i < env.length then some (env.set i (some (.sh d))) else none
  | .tup is, .tup ds, env => asg is ds env
  | _, _, _ => none
def gNames : List Nat → TGs
  | [] => gNil
  | i :: is => gCons (gName i) (gNames is)
def gT (K : Fg) : Tgt → TG
  | .one i => gName i
  | .tup is => gTup K is.length (gNames is)
def GOk (X : Cx) (tg : Expr) (t : Tgt) : Prop := PG X tg (gT X.K t)
theorem con_sh {K : Fg} {σ : St} {env : Env} {G H : Hp} {fp : Fp} {i : Nat} {v : V} {d : D} (c : Con K σ env G H fp) (hi : i < env.length) (r : Rep K G v d) :
    Con K (σ.set i (some v)) (env.set i (some (.sh d))) G H (fp.set i []) := c.put hi (.sh r) fun a m => by cases m
theorem U_set_nil {fp : Fp} {i : Nat} {a : Addr} (h : U (fp.set i []) a) : U fp a := (U_set h).elim id fun z => by cases z
theorem asg_run {K : Fg} {p : Nat} : ∀ {is : List Nat} {ds : List D} {vs : List V} {σ : St} {env env' : Env} {G H : Hp} {fp : Fp} {Q : St → Hp → Prop}, Con K σ env G H fp → Reps K G vs ds → asg is ds env = some env' → (∀ i ∈ is, p ≤ i) →
    (∀ σ' fp', Con K σ' env' G H fp' → (∀ a, U fp' a → U fp a) → σ'.take p = σ.take p → (∀ j, j ∉ is → σ'[j]? = σ[j]?) → Q σ' H) → gNames is vs σ H Q
  | [], [], _, σ, env, env', G, H, fp, Q, con, .nil, e, hp, k => by
    cases e
    exact ⟨rfl, k σ fp con (fun _ u => u) rfl fun _ _ => rfl⟩
  | i :: is, d :: ds, _, σ, env, env', G, H, fp, Q, con, .cons (v := v) (vs := vs) r rs, e, hp, k => by
    unfold asg at e
    split at e
    · rename_i hi
      refine ⟨v, vs, rfl, ?_⟩
      refine asg_run (con_sh con hi r) rs e (fun j m => hp j (by simp [m])) fun σ' fp' c' u' t' st' => ?_
      refine k σ' fp' c' (fun a u => U_set_nil (u' a u)) (t'.trans (take_set (hp i (by simp)))) fun j hj => ?_
      rw [st' j fun m => hj (by simp [m]), List.getElem?_set_ne (fun z => hj (by simp [z]))]
    · cases e
  | [], _ :: _, _, _, _, _, _, _, _, _, _, _, e, _, _ => by cases e
  | _ :: _, [], _, _, _, _, _, _, _, _, _, _, e, _, _ => by cases e
theorem asg_length : ∀ {is : List Nat} {ds : List D} {env env' : Env}, asg is ds env = some env' → ds.length = is.length
  | [], [], _, _, _ => rfl
  | i :: is, d :: ds, env, env', e => by
    simp only [asg] at e
    split at e
    · simp [asg_length e]
    · cases e
  | [], _ :: _, _, _, e => by simp [asg] at e
  | _ :: _, [], _, _, e => by simp [asg] at e
theorem asgT_run {K : Fg} {p : Nat} {t : Tgt} {d : D} {v : V} {σ : St} {env env' : Env} {G H : Hp} {fp : Fp} {Q : St → Hp → Prop} (con : Con K σ env G H fp) (r : Rep K G v d) (e : asgT t d env = some env') (hp : ∀ i ∈ t.is, p ≤ i)
    (k : ∀ σ' fp', Con K σ' env' G H fp' → (∀ a, U fp' a → U fp a) → σ'.take p = σ.take p → (∀ j, j ∉ t.is → σ'[j]? = σ[j]?) → Q σ' H) : gT K t v σ H Q := by
  cases t with
  | one i =>
    simp only [asgT] at e
    split at e
    · rename_i hi
      cases e
      exact k _ _ (con_sh con hi r) (fun a u => U_set_nil u) (take_set (hp i (by simp [Tgt.is]))) fun j hj => List.getElem?_set_ne (fun z => hj (by simp [Tgt.is, z]))
    · cases e
  | tup is =>
    cases d with
    | tup ds =>
      have e : asg is ds env = some env' := e
      cases r with
      | tup h rs => exact ⟨_, _, rfl, SqT.of (con.sub _ _ h), by rw [rs.length, asg_length e], asg_run con rs e hp k⟩
    | _ => simp [asgT] at e
theorem g_one {X : Cx} {i : Nat} {x : Str} {pos : Pos} (hN : X.N.Nodup) (hi : X.N[i]? = some x) (hx : Loc X.env.scope x) (hf : X.fn x = true ∨ X.env.scope.names.lookup x = some .local := by first | exact .inl rfl | exact .inr rfl | assumption) : GOk X (.Name x pos) (.one i) := pg_name hN hi hx hf

/-! ## for -/
def forN (t : Tgt) (b : SM) : List D → Env → Option Out
  | [], env => some (.nx env)
  | d :: ds, env => (asgT t d env).bind fun e => (b e).bind fun o => match o with
    | .nx e => forN t b ds e
    | .ct e => forN t b ds e
    | .bk e => some (.nx e)
    | .rt c e => some (.rt c e)
def sFor (t : Tgt) (i : IM) (b : SM) : SM := fun env => (i env).bind fun (ds, e) => forN t b ds e
theorem s_for {X : Cx} {p : Nat} {tg iter : Expr} {body : List Stmt} {pos : Pos} {t : Tgt} {i : IM} {b : SM} (hpt : ∀ i ∈ t.is, p ≤ i) (hp : PassesOwn (model X.prog X.w) X.A X.env X.xe) (hc : X.calm = true) (hi : IOk X tg iter i) (hg : GOk X tg t) (hb : SsOk X p body b)
    (hs : ∀ x, foldedSetIterable iter X.env x = pure x := by intro _; rfl) : SOk X p (.For tg iter body [] pos) (sFor t i b) := ps_mono (ps_for hp hc hi hg hb hs) fun D σ H ⟨env, G, fp, con, o, e1, k⟩ => by
  unfold sFor at e1
  cases q : i env with
  | none => simp [q] at e1
  | some y =>
    obtain ⟨ds, e2⟩ := y
    simp only [q, Option.bind_some] at e1
    refine ⟨env, G, fp, con, ds, e2, q, fun J G' H' fp' c' s w => ?_⟩
    refine ⟨fun n m σ1 H1 => n + m = ds.length ∧ ∃ env1 G1 fp1, Con X.K σ1 env1 G1 H1 fp1 ∧ Same G' G1 ∧ forN t b (ds.drop n) env1 = some o ∧ EndS X.K p σ1 G1 H1 fp1 D o, ⟨ds.length, by simp, e2, G', fp', c', Same.refl _, by simpa using e1, k.step s rfl⟩, ?_⟩
    rintro n m σ1 H1 ⟨hnm, env1, G1, fp1, con1, sG, h1, k1⟩
    by_cases hn : n < ds.length
    · right
      obtain ⟨hgo, hy⟩ := w.go n G1 H1 hn sG con1.sub
      have hd : ds.drop n = ds[n] :: ds.drop (n + 1) := List.drop_eq_getElem_cons hn
      rw [hd] at h1
      refine ⟨hgo, fun σ2 H2 => ∃ env1 G1 fp1, Con X.K σ2 env1 G1 H2 fp1 ∧ Same G' G1 ∧ forN t b (ds.drop (n + 1)) env1 = some o ∧ EndS X.K p σ2 G1 H2 fp1 D o, fun σ' H' w => ⟨m - 1, by omega, by omega, w⟩, fun x H2 hx => ?_⟩
      obtain ⟨G2, d, ed, rd, sub2, s2⟩ := hy x H2 hx
      have ed' : ds[n] = d := by
        rw [List.getElem?_eq_getElem hn] at ed
        exact Option.some.inj ed
      rw [ed'] at h1
      unfold forN at h1
      cases q1 : asgT t d env1 with
      | none => simp [q1] at h1
      | some e3 =>
        simp only [q1, Option.bind_some] at h1
        cases q2 : b e3 with
        | none => simp [q2] at h1
        | some o2 =>
          simp only [q2, Option.bind_some] at h1
          have con2 : Con X.K σ1 env1 G2 H2 fp1 := con1.step s2 (fun a u w => w) sub2
          have s12 : Step G1 H1 (U fp1) G2 H2 (U fp1) := s2.weak (fun _ z => z.elim) fun a u => .inr (.inl u)
          refine asgT_run con2 rd q1 hpt fun σ3 fp3 c3 u3 t3 _ => ?_
          have s13 : Step G1 H1 (U fp1) G2 H2 (U fp3) := s12.weak (fun _ u => u) fun a u => .inl (u3 a u)
          refine ⟨e3, G2, fp3, c3, o2, q2, ?_⟩
          cases o2 with
          | nx e4 => exact fun σ4 G4 H4 fp4 c4 s4 z => ⟨e4, G4, fp4, c4, (sG.trans s2.sG).trans s4.sG, h1, k1.step (s13.trans s4) (z.trans t3)⟩
          | ct e4 => exact fun σ4 G4 H4 fp4 c4 s4 z => ⟨e4, G4, fp4, c4, (sG.trans s2.sG).trans s4.sG, h1, k1.step (s13.trans s4) (z.trans t3)⟩
          | bk e4 => cases h1; exact fun σ4 G4 H4 fp4 c4 s4 z => k1 σ4 G4 H4 fp4 c4 (s13.trans s4) (z.trans t3)
          | rt c e4 => cases h1; exact fun v σ4 G4 H4 fp4 fr c4 r n s4 z => k1 v σ4 G4 H4 fp4 fr c4 r n (s13.trans s4) (z.trans t3)
    · left
      have e : n = ds.length := by omega
      subst e
      rw [List.drop_length] at h1
      cases h1
      exact ⟨w.stop G1 H1 sG con1.sub, k1 σ1 G1 H1 fp1 con1 (Step.refl ..) rfl⟩
end Fx
set_option Elab.async false
set_option linter.all false
set_option maxRecDepth 100000
set_option maxHeartbeats 4000000
noncomputable section
namespace Fx
open PySem L2

/-! ## comprehensions -/
def wipeE (env : Env) : List Nat → Env
  | [] => env
  | v :: vs => (wipeE env vs).set v none
def calm1 : Option (Option C) → Bool
  | some none => true | some (some (.sh _)) => true | none => true | _ => false
/-- no list of one's own at these places -/
def calmE (env : Env) (vs : List Nat) : Bool := vs.all fun v => calm1 env[v]?
def restE (e0 : Env) : List Nat → Env → Env
  | [], e => e
  | v :: vs, e => match e0[v]? with
    | some c => restE e0 vs (e.set v c)
    | none => restE e0 vs e
theorem wipeE_length (env : Env) : ∀ vs, (wipeE env vs).length = env.length
  | [] => rfl
  | v :: vs => by unfold wipeE; rw [List.length_set, wipeE_length env vs]
theorem fp_calm {K : Fg} {σ : St} {env : Env} {G H : Hp} {fp : Fp} {v : Nat} (con : Con K σ env G H fp) (h : calm1 env[v]? = true) : fp v = [] := by
  cases q : env[v]? with
  | none => exact con.nil v fun c e => by rw [q] at e; cases e
  | some o =>
    cases o with
    | none => exact con.nil v fun c e => by rw [q] at e; cases e
    | some c =>
      cases c with
      | sh d =>
        obtain ⟨x, _, r⟩ := con.rep v _ q
        exact r.of_sh.2
      | _ => rw [q] at h; cases h
theorem set_nil {fp : Fp} {v : Nat} (h : fp v = []) : Fp.set fp v [] = fp := by
  funext j
  unfold Fp.set
  split
  · rename_i e; rw [e, h]
  · rfl
theorem con_wipe {K : Fg} {σ : St} {env : Env} {G H : Hp} {fp : Fp} : ∀ {vs : List Nat}, Con K σ env G H fp → calmE env vs = true → Con K (wipe σ vs) (wipeE env vs) G H fp
  | [], con, _ => con
  | v :: vs, con, h => by
    unfold calmE at h
    rw [List.all_cons, Bool.and_eq_true] at h
    have c1 := con_wipe (vs := vs) con h.2
    have hv : fp v = [] := fp_calm con h.1
    have c2 := c1.drop (i := v) (σ' := (wipe σ vs).set v none) (by simp) fun j hj => List.getElem?_set_ne (fun z => hj z.symm)
    rw [set_nil hv] at c2
    exact c2
theorem con_rest {K : Fg} {σ : St} {e0 : Env} {G0 H0 : Hp} {fp0 : Fp} (c0 : Con K σ e0 G0 H0 fp0) : ∀ {vs : List Nat} {e : Env} {G H : Hp} {fp : Fp}, vs.Nodup → calmE e0 vs = true → Same G0 G → (∀ v ∈ vs, fp v = []) → Con K (wipe σ vs) e G H fp → Con K σ (restE e0 vs e) G H fp
  | [], e, G, H, fp, _, _, _, _, con => con
  | v :: vs, e, G, H, fp, nd, h, s, hf, con => by
    have h' := h
    unfold calmE at h
    rw [List.all_cons, Bool.and_eq_true] at h
    have nv : v ∉ vs := (List.nodup_cons.mp nd).1
    have hl : (wipe σ vs).length = e0.length := by rw [wipe_length, c0.len]
    have hle : e.length = e0.length := by
      have := con.len
      rw [← this]
      show ((wipe σ vs).set v none).length = _
      rw [List.length_set, hl]
    have hfv : fp v = [] := hf v (by simp)
    have hfs : ∀ w ∈ vs, fp w = [] := fun w m => hf w (by simp [m])
    unfold restE
    cases q : e0[v]? with
    | none =>
      refine con_rest c0 (List.nodup_cons.mp nd).2 h.2 s hfs ?_
      have hv : e0.length ≤ v := List.getElem?_eq_none_iff.mp q
      have es : (wipe σ vs).set v none = wipe σ vs := List.set_eq_of_length_le (by rw [hl]; exact hv)
      have con' : Con K ((wipe σ vs).set v none) e G H fp := con
      rw [es] at con'
      exact con'
    | some o =>
      have hv : v < e0.length := (List.getElem?_eq_some_iff.mp q).1
      refine con_rest c0 (List.nodup_cons.mp nd).2 h.2 s hfs ?_
      have con' : Con K ((wipe σ vs).set v none) e G H fp := con
      have hw : (wipe σ vs)[v]? = σ[v]? := wipe_out nv
      cases o with
      | none =>
        have c2 := con'.drop (i := v) (σ' := wipe σ vs) (by simp) fun j hj => (List.getElem?_set_ne (fun z => hj z.symm)).symm
        rw [set_nil hfv] at c2
        exact c2
      | some c =>
        cases c with
        | sh d =>
          obtain ⟨x, ex, r⟩ := c0.rep v _ q
          have c2 := con_sh (i := v) (v := x) (d := d) con' (by rw [hle]; exact hv) (r.of_sh.1.mono s)
          rw [set_nil hfv, List.set_set] at c2
          have es : (wipe σ vs).set v (some x) = wipe σ vs := by
            apply List.ext_getElem?
            intro j
            by_cases hj : j = v
            · subst hj
              rw [List.getElem?_set_self (by rw [hl]; exact hv), hw, ex]
            · rw [List.getElem?_set_ne (fun z => hj z.symm)]
          rw [es] at c2
          exact c2
        | _ =>
          have := h.1
          rw [q] at this
          cases this
theorem wipe_eq : ∀ {vs : List Nat} {σ σ' : St}, σ'.length = σ.length → (∀ j, j ∉ vs → σ'[j]? = σ[j]?) → wipe σ' vs = wipe σ vs
  | vs, σ, σ', hl, h => by
    apply List.ext_getElem?
    intro j
    by_cases hj : j ∈ vs
    · have key : ∀ (ws : List Nat) (τ : St), j ∈ ws → (wipe τ ws)[j]? = if j < τ.length then some none else none := by
        intro ws
        induction ws with
        | nil => intro τ m; cases m
        | cons w ws ih =>
          intro τ m
          show ((wipe τ ws).set w none)[j]? = _
          by_cases e : w = j
          · subst e
            by_cases hw : w < τ.length
            · rw [if_pos hw]; exact List.getElem?_set_self (by rw [wipe_length]; exact hw)
            · rw [if_neg hw]; exact List.getElem?_eq_none (by rw [List.length_set, wipe_length]; omega)
          · rw [List.getElem?_set_ne e]
            rcases List.mem_cons.mp m with m | m
            · exact absurd m.symm e
            · exact ih τ m
      rw [key vs σ hj, key vs σ' hj, hl]
    · rw [wipe_out hj, wipe_out hj]; exact h j hj

def kYes : TM := fun env => some (true, env)
def compN (vs : List Nat) (t : Tgt) (c : TM) (m : EM) : List D → Env → Option (List D × Env)
  | [], env => some ([], env)
  | d :: ds, env => (asgT t d env).bind fun e1 => (c e1).bind fun (b, e2) => if b then (m e2).bind fun (x, e3) => if calmE e3 vs then (compN vs t c m ds (wipeE e3 vs)).bind fun (rs, e4) => some (x.fz :: rs, e4) else none
      else if calmE e2 vs then compN vs t c m ds (wipeE e2 vs) else none
def eComp (vs : List Nat) (t : Tgt) (i : IM) (c : TM) (m : EM) : EM := fun env => (i env).bind fun (ds, e1) => if calmE e1 vs then (compN vs t c m ds (wipeE e1 vs)).bind fun (rs, e2) => if rs.length ≤ lim then some (.ol rs, restE e1 vs e2) else none else none
def PTsOk (X : Cx) (ifs : List Expr) (c : TM) : Prop := PTs X ifs (tT X.K c)
theorem ts_nil {X : Cx} : PTsOk X [] kYes := ⟨fun pins s σ H Q I ⟨env, G, fp, con, b, env', e1, k⟩ => pts_nil.run pins s σ H Q I (by cases e1; exact k G H fp con (Step.refl ..))⟩
theorem ts_one {X : Cx} {c : Expr} {t : TM} (h : TOk X c t) : PTsOk X [c] t := pts_one h
theorem compN_len {vs : List Nat} {t : Tgt} {c : TM} {m : EM} : ∀ {ds : List D} {env env' : Env} {rs : List D}, compN vs t c m ds env = some (rs, env') → rs.length ≤ ds.length
  | [], env, env', rs, e => by cases e; exact Nat.le_refl _
  | d :: ds, env, env', rs, e => by
    unfold compN at e
    cases q1 : asgT t d env with
    | none => simp [q1] at e
    | some e1 =>
      simp only [q1, Option.bind_some] at e
      cases q2 : c e1 with
      | none => simp [q2] at e
      | some y =>
        obtain ⟨b, e2⟩ := y
        simp only [q2, Option.bind_some] at e
        cases b with
        | true =>
          rw [if_pos rfl] at e
          cases q3 : m e2 with
          | none => simp [q3] at e
          | some y =>
            obtain ⟨x, e3⟩ := y
            simp only [q3, Option.bind_some] at e
            split at e
            · cases q4 : compN vs t c m ds (wipeE e3 vs) with
              | none => simp [q4] at e
              | some y =>
                obtain ⟨r, e4⟩ := y
                simp [q4] at e
                obtain ⟨rfl, rfl⟩ := e
                have := compN_len q4
                simp; omega
            · cases e
        | false =>
          rw [if_neg Bool.false_ne_true] at e
          split at e
          · have := compN_len e
            simp; omega
          · cases e
theorem nofp {K : Fg} {σ : St} {env : Env} {G H : Hp} {fp : Fp} {vs : List Nat} (con : Con K σ (wipeE env vs) G H fp) : ∀ v ∈ vs, fp v = [] := fun v m => con.nil v fun c e => by
  have key : ∀ (ws : List Nat), v ∈ ws → ∀ c, (wipeE env ws)[v]? ≠ some (some c) := by
    intro ws
    induction ws with
    | nil => intro m; cases m
    | cons w ws ih =>
      intro m c e
      unfold wipeE at e
      by_cases z : w = v
      · subst z
        by_cases hw : w < (wipeE env ws).length
        · rw [List.getElem?_set_self hw] at e; cases e
        · rw [List.getElem?_eq_none (by simpa using hw)] at e; cases e
      · rw [List.getElem?_set_ne z] at e
        rcases List.mem_cons.mp m with m | m
        · exact z m.symm
        · exact ih m c e
  exact key vs m c e
theorem comp_run {K : Fg} {vs : List Nat} {t : Tgt} {i : IM} {c : TM} {m : EM} {σ : St} {H : Hp} {Q : VK} (hn : vs.Nodup) (hsub : ∀ i ∈ t.is, i ∈ vs) (q : tE K (eComp vs t i c m) σ H Q) : tLc (tI K i) (gT K t) (tT K c) (tE K m) vs σ H Q := by
  obtain ⟨env, G, fp, con, c0, env', e1, k⟩ := q
  unfold eComp at e1
  cases q : i env with
  | none => simp [q] at e1
  | some y =>
    obtain ⟨ds, e2⟩ := y
    simp only [q, Option.bind_some] at e1
    split at e1
    · rename_i hcalm
      cases q2 : compN vs t c m ds (wipeE e2 vs) with
      | none => simp [q2] at e1
      | some y =>
        obtain ⟨rs, e3⟩ := y
        simp only [q2, Option.bind_some] at e1
        split at e1
        · rename_i hlen
          cases e1
          refine ⟨env, G, fp, con, ds, e2, q, fun J G1 H1 fp1 con1 s1 w => fun Dl hD => ?_⟩
          have GD : G1 Dl = none := none_of_same con1.sub hD
          refine ⟨fun n mm H2 => n + mm = ds.length ∧ ∃ e G2 fp2 acc rest, Con K (wipe σ vs) e G2 H2 fp2 ∧ (∀ v ∈ vs, fp2 v = []) ∧ Same G1 G2 ∧ RepC K G2 H2 (.ref Dl) (.ol acc) [Dl] ∧ ¬ U fp2 Dl ∧ compN vs t c m (ds.drop n) e = some (rest, e3) ∧ acc ++ rest = rs ∧ Step G1 (upd H1 Dl (.lst [])) (fun a => U fp1 a ∨ a ∈ [Dl]) G2 H2 (fun a => U fp2 a ∨ a ∈ [Dl]), ?_, ?_⟩
          · refine ⟨ds.length, by simp, wipeE e2 vs, G1, fp1, [], rs, ?_, ?_, Same.refl _, .ol GD upd_same .nil, ?_, by simpa using q2, rfl, Step.refl ..⟩
            · exact (con_wipe con1 hcalm).step (Step.newH (o := .lst []) hD) (fun a u z => z) (same_newH con1.sub hD)
            · exact nofp (con_wipe con1 hcalm)
            · intro u
              obtain ⟨j, mj⟩ := u
              have : ∃ x, e2[j]? = some (some x) := by
                refine Classical.byContradiction fun no => ?_
                have e := con1.nil j fun x e => no ⟨x, e⟩
                rw [e] at mj; cases mj
              obtain ⟨x, ex⟩ := this
              obtain ⟨_, _, rx⟩ := con1.rep j x ex
              obtain ⟨_, o, eo⟩ := rx.mem Dl mj
              rw [eo] at hD; cases hD
          · rintro n mm H2 ⟨hnm, e, G2, fp2, acc, rest, con2, nf2, sG, rD, nD, hcomp, hacc, st⟩
            by_cases hnl : n < ds.length
            · right
              obtain ⟨hgo, hy⟩ := w.go n G2 H2 hnl sG con2.sub
              have hd : ds.drop n = ds[n] :: ds.drop (n + 1) := List.drop_eq_getElem_cons hnl
              rw [hd] at hcomp
              refine ⟨hgo, fun H3 => ∃ e G2 fp2 acc rest, Con K (wipe σ vs) e G2 H3 fp2 ∧ (∀ v ∈ vs, fp2 v = []) ∧ Same G1 G2 ∧ RepC K G2 H3 (.ref Dl) (.ol acc) [Dl] ∧ ¬ U fp2 Dl ∧ compN vs t c m (ds.drop (n + 1)) e = some (rest, e3) ∧ acc ++ rest = rs ∧ Step G1 (upd H1 Dl (.lst [])) (fun a => U fp1 a ∨ a ∈ [Dl]) G2 H3 (fun a => U fp2 a ∨ a ∈ [Dl]), fun H' w => ⟨mm - 1, by omega, by omega, w⟩, fun x H3 hx => ?_⟩
              obtain ⟨G3, d, ed, rd, sub3, s3⟩ := hy x H3 hx
              have ed' : ds[n] = d := by
                rw [List.getElem?_eq_getElem hnl] at ed
                exact Option.some.inj ed
              rw [ed'] at hcomp
              unfold compN at hcomp
              cases q1 : asgT t d e with
              | none => simp [q1] at hcomp
              | some e4 =>
                simp only [q1, Option.bind_some] at hcomp
                have ew : wipe (wipe σ vs) vs = wipe σ vs := by
                  apply List.ext_getElem?
                  intro j
                  by_cases hj : j ∈ vs
                  · have key : ∀ (ws : List Nat) (τ : St), j ∈ ws → (wipe τ ws)[j]? = if j < τ.length then some none else none := by
                      intro ws
                      induction ws with
                      | nil => intro τ m; cases m
                      | cons w ws ih =>
                        intro τ m
                        show ((wipe τ ws).set w none)[j]? = _
                        by_cases e : w = j
                        · subst e
                          by_cases hw : w < τ.length
                          · rw [if_pos hw]; exact List.getElem?_set_self (by rw [wipe_length]; exact hw)
                          · rw [if_neg hw]; exact List.getElem?_eq_none (by rw [List.length_set, wipe_length]; omega)
                        · rw [List.getElem?_set_ne e]
                          rcases List.mem_cons.mp m with m | m
                          · exact absurd m.symm e
                          · exact ih τ m
                    rw [key vs _ hj, key vs _ hj, wipe_length]
                  · rw [wipe_out hj]
                have con3 : Con K (wipe σ vs) e G3 H3 fp2 := con2.step s3 (fun a u z => z) sub3
                have rD3 : RepC K G3 H3 (.ref Dl) (.ol acc) [Dl] := rD.step s3 fun a m z => z
                refine asgT_run (p := 0) con3 rd q1 (fun _ _ => Nat.zero_le _) fun σ4 fp4 con4 u4 _ st4 => ?_
                have hl4 : σ4.length = (wipe σ vs).length := by
                  have a := con4.len
                  have b := con3.len
                  rw [a, b]
                  have key : ∀ {t : Tgt} {d : D} {e e' : Env}, asgT t d e = some e' → e'.length = e.length := by
                    intro t d e e' h
                    have k2 : ∀ {is : List Nat} {ds : List D} {e e' : Env}, asg is ds e = some e' → e'.length = e.length := by
                      intro is
                      induction is with
                      | nil => intro ds e e' h; cases ds with | nil => cases h; rfl | cons => simp [asg] at h
                      | cons i is ih => intro ds e e' h; cases ds with
                        | nil => simp [asg] at h
                        | cons d ds =>
                          simp only [asg] at h
                          split at h
                          · rw [ih h, List.length_set]
                          · cases h
                    cases t with
                    | one i =>
                      simp only [asgT] at h
                      split at h
                      · cases h; simp
                      · cases h
                    | tup is => cases d with
                      | tup ds => exact k2 (show asg is ds e = some e' from h)
                      | _ => simp [asgT] at h
                  exact key q1
                refine ⟨(wipe_eq hl4 fun j hj => st4 j fun z => hj (hsub j z)).trans ew, ?_⟩
                have eq4 : wipe σ4 vs = wipe σ vs := (wipe_eq hl4 fun j hj => st4 j fun z => hj (hsub j z)).trans ew
                have nD4 : ¬ U fp4 Dl := fun z => nD (u4 _ z)
                have st4' : Step G1 (upd H1 Dl (.lst [])) (fun a => U fp1 a ∨ a ∈ [Dl]) G3 H3 (fun a => U fp4 a ∨ a ∈ [Dl]) := st.trans (s3.weak (fun _ z => z.elim) fun a u => .inr (.inl (u.elim (fun z => .inl (u4 a z)) .inr)))
                cases q2' : c e4 with
                | none => simp [q2'] at hcomp
                | some y =>
                  obtain ⟨b, e5⟩ := y
                  simp only [q2', Option.bind_some] at hcomp
                  refine ⟨e4, G3, fp4, con4, b, e5, q2', fun G5 H5 fp5 con5 s5 => ?_⟩
                  have rD5 : RepC K G5 H5 (.ref Dl) (.ol acc) [Dl] := rD3.step s5 fun a m z => by simp at m; subst m; exact nD4 z
                  have nD5 : ¬ U fp5 Dl := rD3.out s5 (fun a m z => by simp at m; subst m; exact nD4 z) Dl (by simp)
                  have st5 : Step G1 (upd H1 Dl (.lst [])) (fun a => U fp1 a ∨ a ∈ [Dl]) G5 H5 (fun a => U fp5 a ∨ a ∈ [Dl]) := st4'.trans (s5.weak (fun _ z => .inl z) fun a u => u.elim .inl fun z => .inr (.inl (.inr z)))
                  cases b with
                  | false =>
                    rw [if_neg Bool.false_ne_true] at hcomp
                    refine iteF ?_
                    split at hcomp
                    · rename_i hc5
                      refine ⟨wipeE e5 vs, G5, fp5, acc, rest, by rw [← eq4]; exact con_wipe con5 hc5, nofp (con_wipe con5 hc5), (sG.trans s3.sG).trans s5.sG, rD5, nD5, hcomp, hacc, st5⟩
                    · cases hcomp
                  | true =>
                    rw [if_pos rfl] at hcomp
                    refine iteT ?_
                    cases q3 : m e5 with
                    | none => simp [q3] at hcomp
                    | some y =>
                      obtain ⟨cx, e6⟩ := y
                      simp only [q3, Option.bind_some] at hcomp
                      split at hcomp
                      · rename_i hc6
                        cases q4 : compN vs t c m (ds.drop (n + 1)) (wipeE e6 vs) with
                        | none => simp [q4] at hcomp
                        | some y =>
                          obtain ⟨r', e7⟩ := y
                          simp [q4] at hcomp
                          obtain ⟨rfl, rfl⟩ := hcomp
                          refine ⟨e5, G5, fp5, con5, cx, e6, q3, fun v G6 H6 fp6 fr con6 r6 n6 s6 => ?_⟩
                          have nm : ∀ a ∈ [Dl], ¬ U fp5 a := fun a m z => by simp at m; subst m; exact nD5 z
                          have rD6 := rD5.step s6 nm
                          have nD6 := rD5.out s6 nm Dl (by simp)
                          have con7 := con_fz2 con6 r6 n6
                          have sf := Step.fz r6
                          have rD7 : RepC K (addF G6 H6 fr) H6 (.ref Dl) (.ol acc) [Dl] := rD6.step sf fun a m z => by simp at m; subst m; exact nD6 (.inr z)
                          have rx := r6.fz
                          cases rD7 with
                          | @ol _ xsD _ gD hD7 rsD =>
                            refine ⟨_, hD7, ?_, ?_⟩
                            · rw [rsD.length]
                              have := compN_len q4
                              have hrl : acc.length < rs.length := by rw [← hacc]; simp
                              rw [← lim_eq]
                              omega
                            · have hsub7 : Same (addF G6 H6 fr) H6 := addF_sub con6.sub
                              have sW : Step (addF G6 H6 fr) H6 (fun a => a ∈ [Dl]) (addF G6 H6 fr) (upd H6 Dl (.lst (xsD ++ [v]))) (fun a => a ∈ [Dl]) := ⟨fun _ _ h => h, fun a o e z => by rw [upd_ne (fun q => z (by simp [q]))]; exact e, fun a o e => .inl e, fun a z => .inl z⟩
                              have con8 : Con K (wipe σ vs) (wipeE e6 vs) (addF G6 H6 fr) (upd H6 Dl (.lst (xsD ++ [v]))) fp6 := by
                                rw [← eq4]
                                exact (con_wipe con7 hc6).step sW (fun a u z => by simp at z; subst z; exact nD6 (.inl u)) fun a o e => by
                                  rw [upd_ne (fun q => by rw [q, gD] at e; cases e)]; exact hsub7 a o e
                              refine ⟨wipeE e6 vs, addF G6 H6 fr, fp6, acc ++ [cx.fz], r', con8, nofp (con_wipe con7 hc6), ((sG.trans s3.sG).trans s5.sG).trans (s6.sG.trans sf.sG), .ol gD upd_same (rsD.append (.cons rx .nil)), fun z => nD6 (.inl z), q4, by simpa using hacc, ?_⟩
                              refine st5.trans (?_ : Step G5 H5 (fun a => U fp5 a ∨ a ∈ [Dl]) _ _ (fun a => U fp6 a ∨ a ∈ [Dl]))
                              have a1 : Step G5 H5 (fun a => U fp5 a ∨ a ∈ [Dl]) G6 H6 (fun a => U fp6 a ∨ a ∈ fr ∨ a ∈ [Dl]) := s6.weak (fun _ z => .inl z) fun a u => by
                                rcases u with u | u | u
                                · exact .inl (.inl u)
                                · exact .inl (.inr u)
                                · exact .inr (.inl (.inr u))
                              have a2 : Step G6 H6 (fun a => U fp6 a ∨ a ∈ fr ∨ a ∈ [Dl]) (addF G6 H6 fr) H6 (fun a => U fp6 a ∨ a ∈ [Dl]) := sf.weak (fun _ z => .inr (.inl z)) fun a u => u.elim (fun z => .inr (.inl (.inl z))) fun z => .inr (.inl (.inr (.inr z)))
                              have a3 : Step (addF G6 H6 fr) H6 (fun a => U fp6 a ∨ a ∈ [Dl]) (addF G6 H6 fr) (upd H6 Dl (.lst (xsD ++ [v]))) (fun a => U fp6 a ∨ a ∈ [Dl]) := sW.weak (fun _ z => .inr z) fun a u => .inr (.inl u)
                              exact (a1.trans a2).trans a3
                      · cases hcomp
            · left
              have e0 : n = ds.length := by omega
              subst e0
              rw [List.drop_length] at hcomp
              cases hcomp
              rw [List.append_nil] at hacc
              subst hacc
              refine ⟨w.stop G2 H2 sG con2.sub, ?_⟩
              refine k (.ref Dl) G2 H2 fp2 [Dl] (con_rest con1 hn hcalm sG nf2 con2) rD (fun a m z => by simp at m; subst m; exact nD z) ?_
              refine s1.trans (?_ : Step G1 H1 (U fp1) G2 H2 (fun a => U fp2 a ∨ a ∈ [Dl]))
              have a1 : Step G1 H1 (U fp1) G1 (upd H1 Dl (.lst [])) (fun a => U fp1 a ∨ a ∈ [Dl]) := (Step.newH (o := .lst []) hD).weak (fun _ z => z.elim) fun a u => u.elim (fun z => .inr (.inl z)) .inl
              exact a1.trans st
        · cases e1
    · cases e1
section
variable {X : Cx} {p : Nat} {elt tg iter : Expr} {ifs : List Expr} {scope : Scope} {own : List (Str × Nat)} {pos spos : Pos} {t : Tgt} {i : IM} {c : TM} {m : EM}
abbrev Blk (X : Cx) (scope : Scope) (P : Cx → Prop) : Prop := ∀ (s : Shared) (H : Hp) (C : Addr) (cl : List (Str × Addr)) (fp : List Addr), P (X.blk s H scope (compEnvC scope cl C X.env) fp)
theorem ok_comp (own : List (Str × Nat)) (hc : X.calm = true) (hN : X.N.Nodup) (hi : IOk X tg iter i) (ok : BlkOk X.N X.env.scope scope own) (hg : Blk X scope fun Y => GOk Y tg t) (ht : Blk X scope fun Y => PTsOk Y ifs c) (he : Blk X scope fun Y => EOk Y elt m)
    (hn : (own.map (·.2)).Nodup := by decide) (hsub : ∀ i ∈ t.is, i ∈ own.map (·.2) := by decide) (hs : ∀ x, foldedSetIterable iter X.env x = pure x := by intro _; rfl) :
    EOk X (.ListComp elt [⟨tg, iter, ifs, 0⟩] scope pos) (eComp (own.map (·.2)) t i c m) := pe_mono (pe_lc (g := gT X.K t) (tt := tT X.K c) (te := tE X.K m) hc hN hi ok hg ht he hs) fun σ H Q q => comp_run hn hsub q
theorem s_setc (own : List (Str × Nat)) {j : Nat} {y : Str} {py : Pos} (hp : p ≤ j) (hc : X.calm = true) (hN : X.N.Nodup) (hy : X.N[j]? = some y) (hyl : X.env.scope.names.lookup y = some .local)
    (hsw : swapsWith (.ListComp elt [⟨tg, iter, ifs, 0⟩] scope pos) (some (.Name y py)) spos.line X.env = pure true) (hi : IOk X tg iter i) (ok : BlkOk X.N X.env.scope scope own) (hg : Blk X scope fun Y => GOk Y tg t) (ht : Blk X scope fun Y => PTsOk Y ifs c) (he : Blk X scope fun Y => EOk Y elt m)
    (hn : (own.map (·.2)).Nodup := by decide) (hsub : ∀ i ∈ t.is, i ∈ own.map (·.2) := by decide) (hs : ∀ x, foldedSetIterable iter X.env x = pure x := by intro _; rfl) :
    SOk X p (.Assign [.Name y py] (.ListComp elt [⟨tg, iter, ifs, 0⟩] scope pos) spos) (sSet j (eComp (own.map (·.2)) t i c m)) :=
  ps_mono (ps_setLc (g := gT X.K t) (tt := tT X.K c) (te := tE X.K m) hc hN hy hyl hsw hi ok hg ht he hs) fun D σ H q => comp_run hn hsub (sSet_run hp q)
end
end Fx
set_option Elab.async false
set_option linter.all false
set_option maxRecDepth 100000
set_option maxHeartbeats 4000000
noncomputable section
namespace Fx
open PySem L2

/-! ## defs: data in, a cell out -/
def spP (K : Fg) (F : List D → Option C) : Sp := fun vs H Q _ => ∃ ds G, Same G H ∧ Reps K G vs ds ∧ ∃ c, F ds = some c ∧ Kont K G H c Q
def startE (n : Nat) (cs : List C) : Env := cs.map some ++ List.replicate (n - cs.length) none
/-- the def's function: k parameters, n slots, its body -/
def fnP (k n : Nat) (m : SM) : List D → Option C := fun ds => if ds.length = k then match m (startE n (ds.map C.sh)) with
    | some (.rt c _) => some c
    | some (.nx _) => some (.sh .non)
    | _ => none
  else none
theorem start_get {N : List Str} {vs : List V} {i : Nat} (h : i < vs.length) : (L2.start N vs)[i]? = some (some vs[i]) := by
  unfold L2.start
  rw [List.getElem?_append_left (by simpa using h)]
  simp [h]
theorem con_start {K : Fg} {G H : Hp} {N : List Str} {vs : List V} {ds : List D} (s : Same G H) (r : Reps K G vs ds) : Con K (L2.start N vs) (startE N.length (ds.map C.sh)) G H (fun _ => []) := by
  have hl := r.length
  refine ⟨s, by unfold L2.start startE; simp [hl], fun i c e => ?_, fun _ _ => rfl, fun i j a m => by cases m⟩
  unfold startE at e
  by_cases hi : i < ds.length
  · rw [List.getElem?_append_left (by simpa using hi)] at e
    simp [hi] at e
    subst e
    obtain ⟨v, h1, h2⟩ := r.getD (i := i) (d := ds[i]) (by simp [hi])
    have hv : i < vs.length := by omega
    have ev : vs[i] = v := by simpa [hv] using h1
    exact ⟨vs[i], start_get hv, by rw [ev]; exact .sh h2⟩
  · rw [List.getElem?_append_right (by simpa using hi)] at e
    rw [List.getElem?_replicate] at e
    split at e <;> cases e
theorem fokP {P : Program} {w : World} {K : Fg} {mg : Str → Option Value} {base : Heap} {x qual : Str} {st : Stmt} {f : Addr} {fd : FuncData} {N ps : List Str} {k : Nat} {m : SM} (F : Fun K x qual st f fd) (S : FnScope N ps (defScope st))
    (hbody : ∀ (cdv : Value) (A : Around) (outer : List PySem.Env) (s : Shared) (H : Hp) (E : XK), Room k (A.deeper (PyProof.Rows.envOfC qual (defScope st) s.heap.objs.size f cdv)) → SsOk (cxOf CX0 P w K mg base N qual (defScope st) f cdv A outer s H E).nox 0 (defBody st) m) :
    FnOk P w K mg base CX0 (k + 1) f fd ps (spP K (fnP ps.length N.length m)) := by
  refine F.ok S (fun vs H Q E h => ?_) (fun cdv A outer s H vs Q E hr h => ?_)
  · obtain ⟨ds, G, hs, r, c, e, _⟩ := h
    unfold fnP at e
    split at e
    · rename_i hl; rw [r.length]; exact hl
    · cases e
  · obtain ⟨ds, G, hs, r, c, e, kk⟩ := h
    refine ⟨_, hbody cdv A outer s H E hr, ?_⟩
    unfold fnP at e
    split at e
    · split at e
      · rename_i c0 e0 hm
        cases e
        refine ⟨_, G, _, con_start hs r, _, hm, fun v σ' G' H' fp' fr c' r' n' s' _ => ?_⟩
        exact kk v G' H' fr c'.sub r' (s'.weak (fun a u => by obtain ⟨i, z⟩ := u; cases z) fun a m => .inl (.inr m))
      · rename_i e0 hm
        cases e
        refine ⟨_, G, _, con_start hs r, _, hm, fun σ' G' H' fp' c' s' _ => ?_⟩
        exact kk .non G' H' [] c'.sub (.sh .non) (s'.weak (fun a u => by obtain ⟨i, z⟩ := u; cases z) fun a m => by cases m)
      · cases e
    · cases e
def eCall (F : List D → Option C) (ms : List Arg) : EM := fun env => (evA ms env).bind fun (ds, e) => (F ds).bind fun c => some (c, e)
section
variable {X : Cx} {e : Expr} {es : List Expr} {f : Addr} {fd : FuncData} {ps : List Str} {x : Str} {p pos : Pos} {ms : List Arg} {k : Nat}
theorem ok_call {F : List D → Option C} (hF : FnOk X.prog X.w X.K X.mg X.base CX0 k f fd ps (spP X.K F)) (hr : Room k X.A) (hg : Gl X x) (hm : X.mg x = some (.ref f)) (hk : PySem.W.keepIn X.K (.ref f) = true) (hb : Binds X.K fd ps []) (ha : PA X (e :: es) (tAr X.K ms))
    (hdb : (x == ("__debug__" : Str)) = false := by decide) (he : starEach (e :: es) X.env = (false, eval e X.env) :: starEach es X.env := by rfl) (hpl : (backTo pos (starEach es X.env)).any (·.1) = false := by rfl) : EOk X (.Call (.Name x p) (e :: es) [] pos) (eCall F ms) :=
  pe_mono (pe_call hF hr hg hm hk hb .nil pass0 (paa ha) hdb he hpl) fun σ H Q ⟨env, G, fp, con, c, env', e1, k⟩ => by
    unfold eCall at e1
    cases q : evA ms env with
    | none => simp [q] at e1
    | some y =>
      obtain ⟨ds, e2⟩ := y
      simp only [q, Option.bind_some] at e1
      cases q2 : F ds with
      | none => simp [q2] at e1
      | some c0 =>
        simp [q2] at e1
        obtain ⟨rfl, rfl⟩ := e1
        refine ⟨env, G, fp, con, ds, e2, q, fun vs G' H' fp' c' r s => ?_⟩
        refine ⟨ds, G', c'.sub, (by rw [List.append_nil]; exact r), c0, q2, fun v G2 H2 fr sub rc s2 => ?_⟩
        exact k.end_ (W := fun _ => False) c' (s.weak (fun _ u => u) fun a u => u.elim .inl fun z => z.elim) (fun a z => z.elim) s2 sub rc
end

/-! ## defs that change their first argument, a list of one's own -/
def spB (K : Fg) (F : C → List D → Option (C × C)) : Sp := fun vs H Q _ => ∃ v0 vs' c0 f0 ds G, vs = v0 :: vs' ∧ Same G H ∧ RepC K G H v0 c0 f0 ∧ Reps K G vs' ds ∧ ∃ c c0', F c0 ds = some (c, c0') ∧
  ∀ v G' H' f0' fr, Same G' H' → RepC K G' H' v0 c0' f0' → RepC K G' H' v c fr → (∀ a ∈ fr, a ∉ f0') → Step G H (fun a => a ∈ f0) G' H' (fun a => a ∈ f0' ∨ a ∈ fr) → Q v H'
def get0 (e : Env) : Option C := match e[0]? with
  | some (some c) => some c
  | _ => none
def fnB (k n : Nat) (m : SM) : C → List D → Option (C × C) := fun c0 ds => if ds.length + 1 = k then match m (startE n (c0 :: ds.map C.sh)) with
    | some (.rt c e) => (get0 e).bind fun c0' => some (c, c0')
    | some (.nx e) => (get0 e).bind fun c0' => some (.sh .non, c0')
    | _ => none
  else none
theorem con_startB {K : Fg} {G H : Hp} {N : List Str} {v0 : V} {vs : List V} {c0 : C} {f0 : List Addr} {ds : List D} (s : Same G H) (r0 : RepC K G H v0 c0 f0) (r : Reps K G vs ds) : Con K (L2.start N (v0 :: vs)) (startE N.length (c0 :: ds.map C.sh)) G H (Fp.set (fun _ => []) 0 f0) := by
  have hl := r.length
  refine ⟨s, by unfold L2.start startE; simp [hl], fun i c e => ?_, fun i h => ?_, fun i j a m1 m2 => ?_⟩
  · cases i with
    | zero =>
      unfold startE at e
      simp at e
      subst e
      exact ⟨v0, by unfold L2.start; simp, by rw [Fp.set_same]; exact r0⟩
    | succ i =>
      rw [Fp.set_ne (by omega)]
      unfold startE at e
      simp only [List.map_cons, List.cons_append, List.getElem?_cons_succ] at e
      by_cases hi : i < ds.length
      · rw [List.getElem?_append_left (by simpa using hi)] at e
        simp [hi] at e
        subst e
        obtain ⟨v, h1, h2⟩ := r.getD (i := i) (d := ds[i]) (by simp [hi])
        have hv : i < vs.length := by omega
        have ev : vs[i] = v := by simpa [hv] using h1
        refine ⟨vs[i], ?_, by rw [ev]; exact .sh h2⟩
        have := start_get (N := N) (vs := v0 :: vs) (i := i + 1) (by simp; omega)
        simpa using this
      · rw [List.getElem?_append_right (by simpa using hi)] at e
        rw [List.getElem?_replicate] at e
        split at e <;> cases e
  · cases i with
    | zero => exact absurd (by unfold startE; simp) (h c0)
    | succ i => rw [Fp.set_ne (by omega)]
  · have k1 : ∀ j, a ∈ (Fp.set (fun _ => []) 0 f0) j → j = 0 := fun j m => by
      by_cases hj : j = 0
      · exact hj
      · rw [Fp.set_ne hj] at m; cases m
    rw [k1 i m1, k1 j m2]
theorem fokB {P : Program} {w : World} {K : Fg} {mg : Str → Option Value} {base : Heap} {x qual : Str} {st : Stmt} {f : Addr} {fd : FuncData} {N ps : List Str} {k : Nat} {m : SM} (F : Fun K x qual st f fd) (S : FnScope N ps (defScope st))
    (hbody : ∀ (cdv : Value) (A : Around) (outer : List PySem.Env) (s : Shared) (H : Hp) (E : XK), Room k (A.deeper (PyProof.Rows.envOfC qual (defScope st) s.heap.objs.size f cdv)) → SsOk (cxOf CX0 P w K mg base N qual (defScope st) f cdv A outer s H E).nox 1 (defBody st) m) :
    FnOk P w K mg base CX0 (k + 1) f fd ps (spB K (fnB ps.length N.length m)) := by
  refine F.ok S (fun vs H Q E h => ?_) (fun cdv A outer s H vs Q E hr h => ?_)
  · obtain ⟨v0, vs', c0, f0, ds, G, rfl, hs, r0, r, c, c0', e, _⟩ := h
    unfold fnB at e
    split at e
    · rename_i hl; rw [List.length_cons, r.length]; exact hl
    · cases e
  · obtain ⟨v0, vs', c0, f0, ds, G, rfl, hs, r0, r, c, c0', e, kk⟩ := h
    refine ⟨_, hbody cdv A outer s H E hr, ?_⟩
    have hU : ∀ a, U (Fp.set (fun _ => []) 0 f0) a → a ∈ f0 := fun a u => (U_set u).elim (fun ⟨i, z⟩ => by cases z) id
    have h0 : ∀ {σ' : St}, σ'.take 1 = (L2.start N (v0 :: vs')).take 1 → σ'[0]? = some (some v0) := fun {σ'} h => by
      have := congrArg (fun l => l[0]?) h
      simp only [List.getElem?_take] at this
      have e0 : (L2.start N (v0 :: vs'))[0]? = some (some v0) := start_get (N := N) (vs := v0 :: vs') (i := 0) (by simp)
      rw [e0] at this
      simpa using this
    unfold fnB at e
    split at e
    · split at e
      · rename_i cc e0 hm
        cases q : get0 e0 with
        | none => simp [q] at e
        | some c1 =>
          simp [q] at e
          obtain ⟨rfl, rfl⟩ := e
          refine ⟨_, G, _, con_startB hs r0 r, _, hm, fun v σ' G' H' fp' fr c' r' n' s' t' => ?_⟩
          have eg : e0[0]? = some (some c1) := by
            unfold get0 at q
            split at q
            · rename_i c2 h2; cases q; exact h2
            · cases q
          obtain ⟨v1, ev, rc⟩ := c'.rep 0 _ eg
          rw [h0 t'] at ev
          cases ev
          exact kk v G' H' (fp' 0) fr c'.sub rc r' (fun a m z => n' a m ⟨0, z⟩) (s'.weak hU fun a m => m.elim (fun z => .inl (.inl ⟨0, z⟩)) fun z => .inl (.inr z))
      · rename_i e0 hm
        cases q : get0 e0 with
        | none => simp [q] at e
        | some c1 =>
          simp [q] at e
          obtain ⟨rfl, rfl⟩ := e
          refine ⟨_, G, _, con_startB hs r0 r, _, hm, fun σ' G' H' fp' c' s' t' => ?_⟩
          have eg : e0[0]? = some (some c1) := by
            unfold get0 at q
            split at q
            · rename_i c2 h2; cases q; exact h2
            · cases q
          obtain ⟨v1, ev, rc⟩ := c'.rep 0 _ eg
          rw [h0 t'] at ev
          cases ev
          exact kk .non G' H' (fp' 0) [] c'.sub rc (.sh .non) (fun a m => by cases m) (s'.weak hU fun a m => m.elim (fun z => .inl ⟨0, z⟩) fun z => by cases z)
      · cases e
    · cases e
def eCallB (F : C → List D → Option (C × C)) (i : Nat) (ms : List Arg) : EM := fun env => match env[i]? with
  | some (some _) => (evA ms env).bind fun (ds, e) => match e[i]? with
    | some (some c0) => (F c0 ds).bind fun (c, c0') => some (c, e.set i (some c0'))
    | _ => none
  | _ => none
section
variable {X : Cx} {e0 : Expr} {es : List Expr} {f : Addr} {fd : FuncData} {ps : List Str} {x : Str} {p pos : Pos} {ms : List Arg} {k i : Nat}
theorem ok_callB' {F : C → List D → Option (C × C)} (hF : FnOk X.prog X.w X.K X.mg X.base CX0 k f fd ps (spB X.K F)) (hr : Room k X.A) (hg : Gl X x) (hm : X.mg x = some (.ref f)) (hk : PySem.W.keepIn X.K (.ref f) = true) (hb : Binds X.K fd ps []) (h0 : PE X e0 (tVar i)) (ha : PA X es (tAr X.K ms))
    (hdb : (x == ("__debug__" : Str)) = false := by decide) (he : starEach (e0 :: es) X.env = (false, eval e0 X.env) :: starEach es X.env := by rfl) (hpl : (backTo pos (starEach es X.env)).any (·.1) = false := by rfl) : EOk X (.Call (.Name x p) (e0 :: es) [] pos) (eCallB F i ms) :=
  pe_mono (pe_call hF hr hg hm hk hb .nil pass0 (pa_cons h0 ha he) hdb he hpl) fun σ H Q ⟨env, G, fp, con, c, env', e1, k⟩ => by
    unfold eCallB at e1
    split at e1
    · rename_i cc q0
      obtain ⟨v0, hv0, _⟩ := con.rep i _ q0
      cases q : evA ms env with
      | none => simp [q] at e1
      | some y =>
        obtain ⟨ds, e2⟩ := y
        simp only [q, Option.bind_some] at e1
        split at e1
        · rename_i c0 q1
          cases q2 : F c0 ds with
          | none => simp [q2] at e1
          | some y =>
            obtain ⟨c1, c0'⟩ := y
            simp [q2] at e1
            obtain ⟨rfl, rfl⟩ := e1
            refine ⟨v0, hv0, args_run ms con q fun vs G1 H1 fp1 con1 r s => ?_⟩
            obtain ⟨v0', hv0', r0⟩ := con1.rep i _ q1
            rw [hv0] at hv0'
            cases hv0'
            have hi : i < e2.length := (List.getElem?_eq_some_iff.mp q1).1
            refine ⟨v0, vs ++ [], c0, fp1 i, ds, G1, rfl, con1.sub, r0, by rw [List.append_nil]; exact r, c1, c0', q2, fun v G' H' f0' fr sub r0' rc n s' => ?_⟩
            have hd : ∀ a, U (fp1.set i []) a → ¬ a ∈ fp1 i := fun a u m => by
              obtain ⟨j, mj⟩ := u
              by_cases hj : j = i
              · subst hj; rw [Fp.set_same] at mj; cases mj
              · rw [Fp.set_ne hj] at mj; exact hj (con1.dis j i a mj m)
            have there : ∀ j a, a ∈ fp1 j → ∃ o, H1 a = some o := fun j a m => by
              have : ∃ x, e2[j]? = some (some x) := by
                refine Classical.byContradiction fun no => ?_
                have e := con1.nil j fun x e => no ⟨x, e⟩
                rw [e] at m; cases m
              obtain ⟨x, ex⟩ := this
              obtain ⟨_, _, rx⟩ := con1.rep j x ex
              exact (rx.mem a m).2
            have con2 := (con1.drop (i := i) (σ' := σ) rfl fun _ _ => rfl).step s' hd sub
            have con3 := con2.put (i := i) (by simpa using hi) r0' fun a m j hj z => by
              rw [Fp.set_ne hj] at z
              rcases s'.fr a (.inl m) with w | w
              · exact hj (con1.dis j i a z w)
              · obtain ⟨o, eo⟩ := there j a z
                rw [eo] at w; cases w
            have es : σ.set i (some v0) = σ := by
              apply List.ext_getElem?
              intro j
              by_cases q : j = i
              · subst q; rw [hv0]; exact List.getElem?_set_self (by rw [con1.len]; exact hi)
              · rw [List.getElem?_set_ne (fun z => q z.symm)]
            have ef : Fp.set (Fp.set fp1 i []) i f0' = Fp.set fp1 i f0' := by funext j; unfold Fp.set; split <;> rfl
            rw [es, ef, List.set_set] at con3
            refine k v G' H' _ fr con3 rc (fun a m u => ?_) (s.trans (s'.weak (fun a m => ⟨i, m⟩) fun a u => ?_))
            · obtain ⟨j, mj⟩ := u
              by_cases hj : j = i
              · subst hj; rw [Fp.set_same] at mj; exact n a m mj
              · rw [Fp.set_ne hj] at mj
                rcases s'.fr a (.inr m) with w | w
                · exact hj (con1.dis j i a mj w)
                · obtain ⟨o, eo⟩ := there j a mj
                  rw [eo] at w; cases w
            · rcases u with u | u
              · obtain ⟨j, mj⟩ := u
                by_cases hj : j = i
                · subst hj; rw [Fp.set_same] at mj; exact .inl (.inl mj)
                · rw [Fp.set_ne hj] at mj; exact .inr (.inl ⟨j, mj⟩)
              · exact .inl (.inr u)
        · cases e1
    · cases e1
end
end Fx
set_option Elab.async false
set_option linter.all false
set_option maxRecDepth 100000
set_option maxHeartbeats 4000000
noncomputable section
namespace Fx
open PySem L2
section
variable {K : Fg}
/-! ## built-ins -/
def fLen : List D → Option C
  | [.str x] => if x.length ≤ lim then some (.sh (.int x.length)) else none
  | [.tup ds] => some (.sh (.int ds.length)) | [.lst ds] => some (.sh (.int ds.length)) | [.scr ns] => some (.sh (.int ns.length))
  | [.dk kvs] => some (.sh (.int kvs.length))
  | _ => none
theorem repK_len {G : Hp} : ∀ {xs : List (Key × V)} {ds : List (Key × D)}, RepK K G xs ds → xs.length = ds.length
  | _, _, .nil => rfl
  | _, _, .cons _ r => by simp [repK_len r]
def rLenA (K : Fg) : List V → Hp → VK → Prop := fun xs H Q => (∃ p ys, xs = [.ref p] ∧ (SqL K H p ys ∨ SqT K H p ys) ∧ Q (.int ys.length) H) ∨ ((∃ z, xs = [.str z] ∧ z.length ≤ sizeLine ∧ Q (.int z.length) H) ∨ (∃ a kvs, xs = [V.ref a] ∧ H a = some (.dK kvs) ∧ Q (.int kvs.length) H))
theorem call_lenA {X : Cx} : CallR X (.builtin "len") (rLenA X.K) := CallR.or call_len_seq (CallR.or call_len_str call_lenD)
theorem s_len : OpS K (rLenA K) fLen := fun G H vs ds c Q s rv e k => by
  unfold fLen at e
  split at e
  · split at e
    · rename_i x hl
      cases e
      cases rv with | cons r1 rv => cases rv; cases r1.str; exact .inr (.inl ⟨x, rfl, by rw [← lim_eq]; exact hl, k.sh s (.int _)⟩)
    · cases e
  · rename_i ds
    cases e
    cases rv with | cons r1 rv => cases rv; obtain ⟨a, xs, rfl, h1, q1⟩ := r1.tup; exact .inl ⟨a, xs, rfl, .inr (SqT.of (s _ _ h1)), by rw [q1.length]; exact k.sh s (.int _)⟩
  · rename_i ds
    cases e
    cases rv with | cons r1 rv => cases rv; obtain ⟨a, xs, rfl, h1, q1⟩ := r1.lst s; exact .inl ⟨a, xs, rfl, .inl (SqL.of h1), by rw [q1.length]; exact k.sh s (.int _)⟩
  · rename_i ns
    cases e
    cases rv with | cons r1 rv => cases rv; obtain ⟨a, rfl, h1⟩ := r1.scr s; exact .inl ⟨a, _, rfl, .inl h1, by rw [List.length_map]; exact k.sh s (.int _)⟩
  · rename_i kvs
    cases e
    cases rv with | cons r1 rv => cases rv; obtain ⟨a, xs, rfl, h1, q1⟩ := r1.dk_ s; exact .inr (.inr ⟨a, xs, rfl, h1, by rw [repK_len q1]; exact k.sh s (.int _)⟩)
  · cases e
def fInt : List D → Option C
  | [.int i] => some (.sh (.int i)) | [.bl b] => some (.sh (.int (if b then 1 else 0)))
  | _ => none
theorem s_int : OpS K (fun xs H Q => (∃ i, xs = [.int i] ∧ Q (.int i) H) ∨ ∃ k, xs = [.bl k] ∧ Q (.int (if k then 1 else 0)) H) fInt := fun G H vs ds c Q s rv e k => by
  unfold fInt at e
  split at e
  · cases e; cases rv with | cons r1 rv => cases rv; cases r1.int; exact .inl ⟨_, rfl, k.sh s (.int _)⟩
  · cases e; cases rv with | cons r1 rv => cases rv; cases r1.bl; exact .inr ⟨_, rfl, k.sh s (.int _)⟩
  · cases e
def fAbs : List D → Option C
  | [.int i] => some (.sh (.int (if i < 0 then -i else i)))
  | _ => none
theorem s_abs : OpS K (fun xs H Q => ∃ i, xs = [.int i] ∧ Q (.int (if i < 0 then -i else i)) H) fAbs := fun G H vs ds c Q s rv e k => by
  unfold fAbs at e
  split at e
  · cases e; cases rv with | cons r1 rv => cases rv; cases r1.int; exact ⟨_, rfl, k.sh s (.int _)⟩
  · cases e
def intsOf : List D → Option (List Int)
  | [] => some []
  | .int i :: r => (intsOf r).bind fun is => some (i :: is)
  | _ => none
theorem intsOf_inv : ∀ {ds : List D} {ns : List Int}, intsOf ds = some ns → ds = ns.map D.int
  | [], ns, e => by cases e; rfl
  | .int i :: r, ns, e => by
    simp only [intsOf] at e
    cases q : intsOf r with
    | none => simp [q] at e
    | some is => simp [q] at e; subst e; rw [intsOf_inv q]; rfl
  | .non :: _, _, e => by cases e
  | .bl _ :: _, _, e => by cases e
  | .str _ :: _, _, e => by cases e
  | .tup _ :: _, _, e => by cases e
  | .lst _ :: _, _, e => by cases e
  | .dk _ :: _, _, e => by cases e
  | .dt _ :: _, _, e => by cases e
  | .scr _ :: _, _, e => by cases e
@[simp] theorem intsOf_map : ∀ ns : List Int, intsOf (ns.map D.int) = some ns
  | [] => rfl
  | n :: r => by simp [intsOf, intsOf_map r]
def mx2 (i j : Int) : Int := if j > i then j else i
def mn2 (i j : Int) : Int := if j < i then j else i
def maxL : List Int → Int
  | [] => 0 | a :: r => r.foldl mx2 a
def minL : List Int → Int
  | [] => 0 | a :: r => r.foldl mn2 a
theorem mxF (r : List Int) : ∀ a : Int, a ≤ r.foldl mx2 a ∧ (∀ y ∈ r, y ≤ r.foldl mx2 a) ∧ (r.foldl mx2 a = a ∨ r.foldl mx2 a ∈ r) := by
  induction r with
  | nil => intro a; simp
  | cons b r ih =>
    intro a
    obtain ⟨h1, h2, h3⟩ := ih (mx2 a b)
    have ha : a ≤ mx2 a b := by unfold mx2; split <;> omega
    have hb : b ≤ mx2 a b := by unfold mx2; split <;> omega
    refine ⟨by rw [List.foldl_cons]; omega, fun y m => ?_, ?_⟩
    · rw [List.foldl_cons]
      rcases List.mem_cons.mp m with e | m
      · subst e; omega
      · exact h2 y m
    · rw [List.foldl_cons]
      rcases h3 with h3 | h3
      · rw [h3]; unfold mx2; split <;> simp
      · exact .inr (by simp [h3])
theorem mnF (r : List Int) : ∀ a : Int, r.foldl mn2 a ≤ a ∧ (∀ y ∈ r, r.foldl mn2 a ≤ y) ∧ (r.foldl mn2 a = a ∨ r.foldl mn2 a ∈ r) := by
  induction r with
  | nil => intro a; simp
  | cons b r ih =>
    intro a
    obtain ⟨h1, h2, h3⟩ := ih (mn2 a b)
    have ha : mn2 a b ≤ a := by unfold mn2; split <;> omega
    have hb : mn2 a b ≤ b := by unfold mn2; split <;> omega
    refine ⟨by rw [List.foldl_cons]; omega, fun y m => ?_, ?_⟩
    · rw [List.foldl_cons]
      rcases List.mem_cons.mp m with e | m
      · subst e; omega
      · exact h2 y m
    · rw [List.foldl_cons]
      rcases h3 with h3 | h3
      · rw [h3]; unfold mn2; split <;> simp
      · exact .inr (by simp [h3])
theorem maxL_ge (l : List Int) : ∀ y ∈ l, y ≤ maxL l := fun y m => by
  cases l with
  | nil => cases m
  | cons a r =>
    rcases List.mem_cons.mp m with e | m
    · subst e; exact (mxF r y).1
    · exact (mxF r a).2.1 y m
theorem maxL_mem (l : List Int) (h : l ≠ []) : maxL l ∈ l := by
  cases l with
  | nil => exact absurd rfl h
  | cons a r =>
    rcases (mxF r a).2.2 with e | e
    · show r.foldl mx2 a ∈ _; rw [e]; simp
    · exact List.mem_cons_of_mem _ e
theorem minL_le (l : List Int) : ∀ y ∈ l, minL l ≤ y := fun y m => by
  cases l with
  | nil => cases m
  | cons a r =>
    rcases List.mem_cons.mp m with e | m
    · subst e; exact (mnF r y).1
    · exact (mnF r a).2.1 y m
theorem minL_mem (l : List Int) (h : l ≠ []) : minL l ∈ l := by
  cases l with
  | nil => exact absurd rfl h
  | cons a r =>
    rcases (mnF r a).2.2 with e | e
    · show r.foldl mn2 a ∈ _; rw [e]; simp
    · exact List.mem_cons_of_mem _ e
def fMax : List D → Option C
  | [.int i, .int j] => some (.sh (.int (mx2 i j)))
  | [.lst ds] => (intsOf ds).bind fun ns => if ns = [] then none else some (.sh (.int (maxL ns)))
  | _ => none
def fMin : List D → Option C
  | [.int i, .int j] => some (.sh (.int (mn2 i j)))
  | [.lst ds] => (intsOf ds).bind fun ns => if ns = [] then none else some (.sh (.int (minL ns)))
  | _ => none
def rMaxA (K : Fg) : List V → Hp → VK → Prop := fun xs H Q => (∃ i j, xs = [.int i, .int j] ∧ Q (.int (if j > i then j else i)) H) ∨ rMax K xs H Q
def rMinA (K : Fg) : List V → Hp → VK → Prop := fun xs H Q => (∃ i j, xs = [.int i, .int j] ∧ Q (.int (if j < i then j else i)) H) ∨ rMin K xs H Q
theorem call_maxA {X : Cx} (hc : X.calm = true) : CallR X (.builtin "max") (rMaxA X.K) := CallR.or (call_max2 hc) (cr_max hc)
theorem call_minA {X : Cx} (hc : X.calm = true) : CallR X (.builtin "min") (rMinA X.K) := CallR.or (call_min2 hc) (cr_min hc)
theorem s_max : OpS K (rMaxA K) fMax := fun G H vs ds c Q s rv e k => by
  unfold fMax at e
  split at e
  · cases e; cases rv with | cons r1 rv => cases rv with | cons r2 rv => cases rv; cases r1.int; cases r2.int; exact .inl ⟨_, _, rfl, k.sh s (.int _)⟩
  · rename_i ds
    cases q : intsOf ds with
    | none => simp [q] at e
    | some ns =>
      simp only [q, Option.bind_some] at e
      split at e
      · cases e
      · rename_i hne
        cases e
        have := intsOf_inv q; subst this
        cases rv with
        | cons r1 rv =>
          cases rv
          obtain ⟨a, xs, rfl, h1, q1⟩ := r1.lst s
          cases q1.ints_inv
          refine .inr ⟨a, ns, rfl, SqL.of h1, List.length_pos_iff.mpr hne, fun m hm hle => ?_⟩
          have : m = maxL ns := Int.le_antisymm (maxL_ge ns m hm) (hle _ (maxL_mem ns hne))
          rw [this]; exact k.sh s (.int _)
  · cases e
theorem s_min : OpS K (rMinA K) fMin := fun G H vs ds c Q s rv e k => by
  unfold fMin at e
  split at e
  · cases e; cases rv with | cons r1 rv => cases rv with | cons r2 rv => cases rv; cases r1.int; cases r2.int; exact .inl ⟨_, _, rfl, k.sh s (.int _)⟩
  · rename_i ds
    cases q : intsOf ds with
    | none => simp [q] at e
    | some ns =>
      simp only [q, Option.bind_some] at e
      split at e
      · cases e
      · rename_i hne
        cases e
        have := intsOf_inv q; subst this
        cases rv with
        | cons r1 rv =>
          cases rv
          obtain ⟨a, xs, rfl, h1, q1⟩ := r1.lst s
          cases q1.ints_inv
          refine .inr ⟨a, ns, rfl, SqL.of h1, List.length_pos_iff.mpr hne, fun m hm hle => ?_⟩
          have : m = minL ns := Int.le_antisymm (hle _ (minL_mem ns hne)) (minL_le ns m hm)
          rw [this]; exact k.sh s (.int _)
  · cases e
def fSum : List D → Option C
  | [.lst ds] => (intsOf ds).bind fun ns => some (.sh (.int ns.sum))
  | _ => none
theorem s_sum : OpS K (rSum K) fSum := fun G H vs ds c Q s rv e k => by
  unfold fSum at e
  split at e
  · rename_i ds
    cases q : intsOf ds with
    | none => simp [q] at e
    | some ns =>
      simp [q] at e; subst e
      have := intsOf_inv q; subst this
      cases rv with
      | cons r1 rv =>
        cases rv
        obtain ⟨a, xs, rfl, h1, q1⟩ := r1.lst s
        cases q1.ints_inv
        exact ⟨a, ns, rfl, SqL.of h1, k.sh s (.int _)⟩
  · cases e
def blsOf : List D → Option (List Bool)
  | [] => some []
  | .bl i :: r => (blsOf r).bind fun is => some (i :: is)
  | _ => none
theorem blsOf_inv : ∀ {ds : List D} {ns : List Bool}, blsOf ds = some ns → ds = ns.map D.bl
  | [], ns, e => by cases e; rfl
  | .bl i :: r, ns, e => by
    simp only [blsOf] at e
    cases q : blsOf r with
    | none => simp [q] at e
    | some is => simp [q] at e; subst e; rw [blsOf_inv q]; rfl
  | .non :: _, _, e => by cases e
  | .int _ :: _, _, e => by cases e
  | .str _ :: _, _, e => by cases e
  | .tup _ :: _, _, e => by cases e
  | .lst _ :: _, _, e => by cases e
  | .dk _ :: _, _, e => by cases e
  | .dt _ :: _, _, e => by cases e
  | .scr _ :: _, _, e => by cases e
@[simp] theorem blsOf_map : ∀ ns : List Bool, blsOf (ns.map D.bl) = some ns
  | [] => rfl
  | n :: r => by simp [blsOf, blsOf_map r]
theorem Reps.bls_inv {G : Hp} {vs : List V} : ∀ {ns : List Bool}, Reps K G vs (ns.map D.bl) → vs = ns.map V.bl := by
  intro ns
  induction ns generalizing vs with
  | nil => intro h; cases h; rfl
  | cons n r ih =>
    intro h
    cases h with
    | cons a b => cases a; rw [ih b]; rfl
def fAll : List D → Option C
  | [.lst ds] => (blsOf ds).bind fun ns => some (.sh (.bl (ns.all id)))
  | _ => none
def fAny : List D → Option C
  | [.lst ds] => (blsOf ds).bind fun ns => some (.sh (.bl (ns.any id)))
  | _ => none
theorem s_all : OpS K (rAll K) fAll := fun G H vs ds c Q s rv e k => by
  unfold fAll at e
  split at e
  · rename_i ds
    cases q : blsOf ds with
    | none => simp [q] at e
    | some ns =>
      simp [q] at e; subst e
      have := blsOf_inv q; subst this
      cases rv with
      | cons r1 rv =>
        cases rv
        obtain ⟨a, xs, rfl, h1, q1⟩ := r1.lst s
        cases q1.bls_inv
        exact ⟨a, ns, rfl, SqL.of h1, k.sh s (.bl _)⟩
  · cases e
theorem s_any : OpS K (rAny K) fAny := fun G H vs ds c Q s rv e k => by
  unfold fAny at e
  split at e
  · rename_i ds
    cases q : blsOf ds with
    | none => simp [q] at e
    | some ns =>
      simp [q] at e; subst e
      have := blsOf_inv q; subst this
      cases rv with
      | cons r1 rv =>
        cases rv
        obtain ⟨a, xs, rfl, h1, q1⟩ := r1.lst s
        cases q1.bls_inv
        exact ⟨a, ns, rfl, SqL.of h1, k.sh s (.bl _)⟩
  · cases e
def fList : List D → Option C
  | [.lst ds] => some (.ol ds) | [.tup ds] => some (.ol ds)
  | _ => none
theorem s_list : OpS K (fun xs H Q => ∃ p ys, xs = [.ref p] ∧ (SqL K H p ys ∨ SqT K H p ys) ∧ ∀ l, H l = none → Q (.ref l) (upd H l (.lst ys))) fList := fun G H vs ds c Q s rv e k => by
  unfold fList at e
  split at e
  · cases e
    cases rv with | cons r1 rv => cases rv; obtain ⟨a, xs, rfl, h1, q1⟩ := r1.lst s; exact ⟨a, xs, rfl, .inl (SqL.of h1), fun l hl => k.ol s q1 hl⟩
  · cases e
    cases rv with | cons r1 rv => cases rv; obtain ⟨a, xs, rfl, h1, q1⟩ := r1.tup; exact ⟨a, xs, rfl, .inr (SqT.of (s _ _ h1)), fun l hl => k.ol s q1 hl⟩
  · cases e
def fTuple : List D → Option C
  | [.lst ds] => some (.sh (.tup ds)) | [.tup ds] => some (.sh (.tup ds))
  | _ => none
theorem s_tuple : OpS K (fun xs H Q => ∃ p ys, xs = [.ref p] ∧ ((SqL K H p ys ∧ ∀ l, H l = none → Q (.ref l) (upd H l (.tup ys))) ∨ (SqT K H p ys ∧ Q (.ref p) H))) fTuple := fun G H vs ds c Q s rv e k => by
  unfold fTuple at e
  split at e
  · cases e
    cases rv with | cons r1 rv => cases rv; obtain ⟨a, xs, rfl, h1, q1⟩ := r1.lst s; exact ⟨a, xs, rfl, .inl ⟨SqL.of h1, fun l hl => k.tup s q1 hl⟩⟩
  · cases e
    cases rv with | cons r1 rv => cases rv; obtain ⟨a, xs, rfl, h1, q1⟩ := r1.tup; exact ⟨a, xs, rfl, .inr ⟨SqT.of (s _ _ h1), k.sh s (.tup h1 q1)⟩⟩
  · cases e
end

/-! ## list(range(..)) -/
def eLRg (m : IM) : EM := fun env => (m env).bind fun (ds, e) => if ds.length ≤ lim then some (.ol ds, e) else none
section
variable {X : Cx} {a b : Expr}
def rgOk (i j : Int) : Bool := okR i && okR j && decide ((j - i).toNat ≤ lim)
theorem rgOk_iff {i j : Int} (h : rgOk i j = true) : RgOk i j := by
  unfold rgOk at h
  simp only [Bool.and_eq_true, decide_eq_true_eq] at h
  have h1 := okR_iff.mp h.1.1
  have h2 := okR_iff.mp h.1.2
  exact ⟨h1.1, h1.2, h2.1, h2.2, by have := h.2; rw [lim_val] at this; exact this⟩
theorem reps_rg {K : Fg} {G : Hp} (i j : Int) : Reps K G (rgV i j) (rng i j) := by
  unfold rgV rng
  generalize List.range (j - i).toNat = l
  induction l with
  | nil => exact .nil
  | cons x r ih => exact .cons (.int _) ih
def eLR1 (o : Opd) : EM := fun env => (evO [o] env).bind fun (ds, e) => match ds with
  | [.int n] => if rgOk 0 n then some (.ol (rng 0 n), e) else none
  | _ => none
theorem ok_lrg1 {o : Opd} {p p2 pos pos2 : Pos} (hc : X.calm = true) (hg : Gl X "list") (hm : X.mg "list" = none) (hg2 : Gl X "range") (hm2 : X.mg "range" = none) (ha : OOk X a o) (na : starEach [a] X.env = (false, eval a X.env) :: starEach [] X.env := by rfl)
    (na2 : starEach [.Call (.Name "range" p2) [a] [] pos2] X.env = (false, eval (.Call (.Name "range" p2) [a] [] pos2) X.env) :: starEach [] X.env := by rfl) : EOk X (.Call (.Name "list" p) [.Call (.Name "range" p2) [a] [] pos2] [] pos) (eLR1 o) :=
  pe_mono (pe_listRg hc hg hm (prg_1 hg2 hm2 ha na) na2) fun σ H Q ⟨env, G, fp, con, c, env', e1, k⟩ => by
    unfold eLR1 at e1
    cases q : evO [o] env with
    | none => simp [q] at e1
    | some y =>
      obtain ⟨ds, e2⟩ := y
      simp only [q, Option.bind_some] at e1
      split at e1
      · rename_i n
        split at e1
        · rename_i hn
          cases e1
          have z : tO X.K [o] σ H (fun vs H1 => ∃ x, vs = [x] ∧ ∃ n, x = .int n ∧ RgOk 0 n ∧ ∀ q, H1 q = none → Q (.ref q) (upd H1 q (.lst (rgV 0 n)))) := ⟨env, G, fp, con, _, _, q, fun vs G' H' fp' c' rv s => by
            cases rv with
            | cons r1 rv =>
              cases rv; cases r1.int
              refine ⟨_, rfl, n, rfl, rgOk_iff hn, fun l hl => ?_⟩
              exact k.end_ (W := fun _ => False) (fr := [l]) c' (s.weak (fun _ u => u) fun a u => u.elim .inl fun z => z.elim) (fun a z => z.elim) (Step.newH (o := .lst (rgV 0 n)) hl) (same_newH c'.sub hl) (.ol (none_of_same c'.sub hl) upd_same (reps_rg 0 n))⟩
          refine vk_mono_opd o (fun x H1 h1 => ?_) (tOs1 (tO_tOs z))
          obtain ⟨x', ex, h1⟩ := h1
          cases ex
          obtain ⟨n', en, h1⟩ := h1
          exact ⟨n', en, h1⟩
        · cases e1
      · cases e1
end
end Fx
set_option Elab.async false
set_option linter.all false
set_option maxRecDepth 100000
set_option maxHeartbeats 4000000
noncomputable section
namespace Fx
open PySem L2

/-! ## isinstance against built-in types -/
def D.ty : D → String
  | .non => "NoneType" | .bl _ => "bool" | .int _ => "int" | .str _ => "str" | .tup _ => "tuple" | .lst _ => "list" | .dk _ => "dict" | .dt _ => "dict" | .scr _ => "list"
/-- whether a value of type a is of type b -/
def subT (a b : String) : Bool := a == b || (a == "bool" && b == "int")
def tyNames : List String := ["int", "bool", "str", "tuple", "list"]
def tyAll : List String := ["NoneType", "bool", "int", "str", "tuple", "list", "dict"]
theorem kit_all : (tyAll.all fun a => tyNames.all fun b => kitB a b == some (subT a b)) = true := by decide +kernel
theorem ty_mem (d : D) : d.ty ∈ tyAll := by cases d <;> simp [D.ty, tyAll]
theorem kit_sub {K : Fg} {b : String} (d : D) (h : b ∈ tyNames) : PySem.W.kitOne K (.type d.ty) (.type b) = some (subT d.ty b) := by
  have := kit_all
  rw [List.all_eq_true] at this
  have := this _ (ty_mem d)
  rw [List.all_eq_true] at this
  have := this _ h
  exact kit_ty (by simpa using this)
def D.isT (d : D) (bs : List String) : Bool := bs.any fun b => subT d.ty b
theorem kit_any {K : Fg} (d : D) : ∀ (bs : List String), (∀ b ∈ bs, b ∈ tyNames) → PySem.W.kitAny K (.type d.ty) (bs.map Value.type) = some (d.isT bs)
  | [], _ => rfl
  | b :: bs, h => by
    have h1 := kit_sub (K := K) d (h b (by simp))
    have h2 := kit_any (K := K) d bs fun c m => h c (by simp [m])
    show PySem.W.kitAny K (.type d.ty) (.type b :: bs.map Value.type) = some (d.isT (b :: bs))
    unfold D.isT at h2 ⊢
    rw [List.any_cons]
    cases e : subT d.ty b with
    | true => exact kitAny_cons (h1.trans (by rw [e])) (fun z => by cases z) (fun _ => rfl)
    | false => exact kitAny_cons (h1.trans (by rw [e])) (fun _ => by simpa using h2) (fun z => by cases z)
theorem tyX_of {K : Fg} {G H : Hp} {x : V} {d : D} (s : Same G H) (r : RepV K G H x d) (h : ∀ ns, d ≠ .scr ns) : TyX K H x (.type d.ty) := by
  cases r with
  | sh r =>
    cases r with
    | non => exact .base .non
    | bl b => exact .base (.bl b)
    | int i => exact .base (.int i)
    | str x => exact .base (.str x)
    | tup h1 r => exact .base (.tup (s _ _ h1))
    | lst h1 r => exact .base (.lst (s _ _ h1))
    | dk h1 r => exact .base (.dK (s _ _ h1))
    | dt h1 r => exact .base (.dT (s _ _ h1))
    | scr h1 => exact absurd rfl (h _)
  | ol h1 r => exact .base (.lst h1)
  | dk h1 r => exact .base (.dK h1)
  | dt h1 r => exact .base (.dT h1)
def D.noScr : D → Bool
  | .scr _ => false | _ => true
def eIsi (bs : List String) (o : Opd) : EM := fun env => (evO [o] env).bind fun (ds, e) => match ds with
  | [d] => if d.noScr then some (.sh (.bl (d.isT bs)), e) else none
  | _ => none
section
variable {X : Cx} {a : Expr} {o : Opd} {p pos : Pos}
theorem eIsi_run {bs : List String} {σ : St} {H : Hp} {Q : VK} (q : tE X.K (eIsi bs o) σ H Q) : tOpd X.K o σ H fun x H1 => ∃ d, TyX X.K H1 x (.type d.ty) ∧ Q (.bl (D.isT d bs)) H1 ∧ ∃ G fp env' σ' , Con X.K σ' env' G H1 fp ∧ (∀ p o, H1 p = none → Q (.bl (D.isT d bs)) (upd H1 p o)) := by
  obtain ⟨env, G, fp, con, c, env', e1, k⟩ := q
  unfold eIsi at e1
  cases q : evO [o] env with
  | none => simp [q] at e1
  | some y =>
    obtain ⟨ds, e2⟩ := y
    simp only [q, Option.bind_some] at e1
    split at e1
    · rename_i d
      split at e1
      · rename_i hn
        cases e1
        have z : tO X.K [o] σ H (fun vs H1 => ∃ x, vs = [x] ∧ ∃ d, TyX X.K H1 x (.type d.ty) ∧ Q (.bl (D.isT d bs)) H1 ∧ ∃ G fp env' σ', Con X.K σ' env' G H1 fp ∧ (∀ p o, H1 p = none → Q (.bl (D.isT d bs)) (upd H1 p o))) := ⟨env, G, fp, con, _, _, q, fun vs G' H' fp' c' rv s => by
          cases rv with
          | cons r1 rv =>
            cases rv
            refine ⟨_, rfl, d, tyX_of c'.sub r1 (fun ns e => by subst e; simp [D.noScr] at hn), k.sh c' s (.bl _), G', fp', _, σ, c', fun p o hp => ?_⟩
            exact k.end_ (W := fun _ => False) (fr := []) c' (s.weak (fun _ u => u) fun a u => u.elim .inl fun z => z.elim) (fun a z => z.elim)
              (⟨fun _ _ e => e, fun a u e _ => by rw [upd_ne (ne_of_none e hp)]; exact e, fun a u e => .inl e, fun a f => by cases f⟩) (same_newH c'.sub hp) (.sh (.bl _))⟩
        refine vk_mono_opd o (fun x H1 h1 => ?_) (tOs1 (tO_tOs z))
        obtain ⟨x', ex, h1⟩ := h1
        cases ex
        exact h1
      · cases e1
    · cases e1
theorem ok_isi {x : Str} {b : String} {p2 : Pos} (hg : Gl X "isinstance") (hm : X.mg "isinstance" = none) (ha : OOk X a o) (hg2 : Gl X x) (hm2 : X.mg x = none) (hb : bootBuiltins x = some (.type b)) (hmem : b ∈ tyNames)
    (hn2 : x ≠ "__name__" := by decide) (hd2 : (x == ("__debug__" : Str)) = false := by decide)
    (h1 : starEach [a, .Name x p2] X.env = (false, eval a X.env) :: starEach [.Name x p2] X.env := by rfl) (h2 : starEach [.Name x p2] X.env = (false, eval (.Name x p2) X.env) :: starEach [] X.env := by rfl) (hpl : (backTo pos (starEach [.Name x p2] X.env)).any (·.1) = false := by rfl) :
    EOk X (.Call (.Name "isinstance" p) [a, .Name x p2] [] pos) (eIsi [b] o) :=
  pe_mono (pe_callB call_isi hg hm (by decide +kernel) (pa_cons ha (pa_cons (pe_bltn (v := .ty b) hg2 hm2 hb rfl hn2 hd2) pa_nil h2) h1) (by decide) (by decide) h1 hpl) fun σ H Q q => by
    refine vk_mono_opd o (fun x H1 h => ?_) (eIsi_run q)
    obtain ⟨d, ty, q1, _⟩ := h
    refine ⟨x, .ty b, _, .type b, _, rfl, .ty b, ty, kit_sub d hmem, ?_⟩
    have e : d.isT [b] = subT d.ty b := by simp [D.isT]
    rw [← e]
    exact q1
theorem ok_isi2 {x y : Str} {b c : String} {p2 p3 tp : Pos} {kk} (hg : Gl X "isinstance") (hm : X.mg "isinstance" = none) (ha : OOk X a o) (hg2 : Gl X x) (hm2 : X.mg x = none) (hb : bootBuiltins x = some (.type b)) (hg3 : Gl X y) (hm3 : X.mg y = none) (hc : bootBuiltins y = some (.type c)) (hmem : b ∈ tyNames) (hmem2 : c ∈ tyNames)
    (hn2 : x ≠ "__name__" := by decide) (hd2 : (x == ("__debug__" : Str)) = false := by decide) (hn3 : y ≠ "__name__" := by decide) (hd3 : (y == ("__debug__" : Str)) = false := by decide)
    (h1 : starEach [a, .Tuple [.Name x p2, .Name y p3] kk tp] X.env = (false, eval a X.env) :: starEach [.Tuple [.Name x p2, .Name y p3] kk tp] X.env := by rfl) (h2 : starEach [.Tuple [.Name x p2, .Name y p3] kk tp] X.env = (false, eval (.Tuple [.Name x p2, .Name y p3] kk tp) X.env) :: starEach [] X.env := by rfl)
    (h3 : starEach [.Name x p2, .Name y p3] X.env = (false, eval (.Name x p2) X.env) :: starEach [.Name y p3] X.env := by rfl) (h4 : starEach [.Name y p3] X.env = (false, eval (.Name y p3) X.env) :: starEach [] X.env := by rfl)
    (hpl : (backTo pos (starEach [.Tuple [.Name x p2, .Name y p3] kk tp] X.env)).any (·.1) = false := by rfl) :
    EOk X (.Call (.Name "isinstance" p) [a, .Tuple [.Name x p2, .Name y p3] kk tp] [] pos) (eIsi [b, c] o) :=
  pe_mono (pe_callB call_isiT hg hm (by decide +kernel) (pa_cons ha (pa_cons (pe_tup (pa_cons (pe_bltn (v := .ty b) hg2 hm2 hb rfl hn2 hd2) (pa_cons (pe_bltn (v := .ty c) hg3 hm3 hc rfl hn3 hd3) pa_nil h4) h3)) pa_nil h2) h1) (by decide) (by decide) h1 hpl) fun σ H Q q => by
    refine vk_mono_opd o (fun x H1 h => ?_) (eIsi_run q)
    obtain ⟨d, ty, _, G, fp, env', σ', con, q2⟩ := h
    refine ⟨by show 2 ≤ sizeLine; decide, fun tp hp => ?_⟩
    have ty' : TyX X.K (upd H1 tp (.tup [.ty b, .ty c])) x (.type d.ty) := by
      have up : ∀ {a u}, H1 a = some u → (upd H1 tp (.tup [.ty b, .ty c])) a = some u := fun e => by rw [upd_ne (ne_of_none e hp)]; exact e
      generalize hq : Value.type d.ty = tv at ty
      cases ty with
      | base b0 =>
        cases b0 with
        | non => exact .base .non
        | bl b => exact .base (.bl b)
        | int i => exact .base (.int i)
        | str x => exact .base (.str x)
        | flt x => exact .base (.flt x)
        | lst e => exact .base (.lst (up e))
        | frz e => exact .base (.frz (up e))
        | tup e => exact .base (.tup (up e))
        | dK e => exact .base (.dK (up e))
        | dT e => exact .base (.dT (up e))
        | ins e => cases hq
      | byt b => exact .byt b
      | set e => exact .set (up e)
      | kList e c => exact .kList e c
      | kTuple e c => exact .kTuple e c
      | kDict e c => exact .kDict e c
      | fTuple e => exact .fTuple (up e)
      | fDict e => exact .fDict (up e)
    exact ⟨x, tp, [.ty b, .ty c], _, [.type b, .type c], _, rfl, upd_same, .cons (.ty b) (.cons (.ty c) .nil), ty', kit_any d [b, c] (fun z m => by simp at m; rcases m with m | m <;> (subst m; assumption)), q2 tp _ hp⟩
end

/-! ## in -/
def D.flat : D → Bool
  | .non | .bl _ | .int _ | .str _ => true | _ => false
def memD (x : D) (ds : List D) : Bool := ds.any fun y => D.eqv y x
theorem flat_of {K : Fg} {G : Hp} {v : V} {d : D} (r : Rep K G v d) (h : d.flat = true) : flatV v = true := by cases r <;> first | rfl | cases h
theorem eqV_of {K : Fg} {G : Hp} {v w : V} {d e : D} (r : Rep K G v d) (q : Rep K G w e) (h : d.flat = true) (h' : e.flat = true) : eqV v w = D.eqv d e := by
  cases r <;> cases q <;> first | rfl | cases h | cases h'
theorem flats_of {K : Fg} {G : Hp} : ∀ {ds : List D} {vs : List V}, Reps K G vs ds → ds.all D.flat = true → vs.all flatV = true
  | _, _, .nil, _ => rfl
  | _, _, .cons h r, e => by
    rw [List.all_cons, Bool.and_eq_true] at e ⊢
    exact ⟨flat_of h e.1, flats_of r e.2⟩
theorem inV_of {K : Fg} {G : Hp} {x : V} {d : D} (rx : Rep K G x d) (hx : d.flat = true) : ∀ {ds : List D} {vs : List V}, Reps K G vs ds → ds.all D.flat = true → inV x vs = memD d ds
  | _, _, .nil, _ => rfl
  | _, _, .cons h r, e => by
    rw [List.all_cons, Bool.and_eq_true] at e
    unfold inV memD
    rw [List.any_cons, List.any_cons, eqV_of h rx e.1 hx]
    have := inV_of rx hx r e.2
    unfold inV memD at this
    rw [this]
def keyD : D → Option Key
  | .int i => some (.inl i) | .str x => some (.inr x) | _ => none
def keysD : List D → Option (List Key)
  | [] => some []
  | d :: r => (keyD d).bind fun k => (keysD r).bind fun ks => some (k :: ks)
def valD {κ : Type} [DecidableEq κ] (kvs : List (κ × D)) (k : κ) : Option D := (kvs.find? fun kv => decide (kv.1 = k)).map (·.2)
def putD {κ : Type} [DecidableEq κ] (kvs : List (κ × D)) (k : κ) (v : D) : List (κ × D) :=
  if (kvs.any fun kv => decide (kv.1 = k)) = true then kvs.map (fun kv => if kv.1 = k then (kv.1, v) else kv) else kvs ++ [(k, v)]
def dropD {κ : Type} [DecidableEq κ] (kvs : List (κ × D)) (k : κ) : List (κ × D) := kvs.filter fun kv => decide (kv.1 ≠ k)
theorem keyD_of {K : Fg} {G : Hp} {v : V} {d : D} {k : Key} (r : Rep K G v d) (e : keyD d = some k) : v = kV k := by
  cases r <;> first | (cases e; rfl) | cases e
theorem keysD_of {K : Fg} {G : Hp} : ∀ {ds : List D} {vs : List V} {ks : List Key}, Reps K G vs ds → keysD ds = some ks → vs = ks.map kV
  | [], vs, ks, r, e => by cases r; cases e; rfl
  | d :: ds, vs, ks, r, e => by
    cases r with
    | cons h r =>
      unfold keysD at e
      cases q : keyD d with
      | none => simp [q] at e
      | some k =>
        cases q2 : keysD ds with
        | none => simp [q, q2] at e
        | some ks => simp [q, q2] at e; subst e; rw [keyD_of h q, keysD_of r q2]; rfl
theorem valK_of {K : Fg} {G : Hp} {k : Key} : ∀ {ds : List (Key × D)} {vs : List (Key × V)}, RepK K G vs ds → (∃ v d, valV vs k = some v ∧ valD ds k = some d ∧ Rep K G v d) ∨ (valV vs k = none ∧ valD ds k = none)
  | _, _, .nil => .inr ⟨rfl, rfl⟩
  | _, _, .cons (k := j) (v := v) (d := d) (vs := vs) (ds := ds) h r => by
    by_cases e : j = k
    · exact .inl ⟨v, d, by simp [valV, e], by simp [valD, e], h⟩
    · have ih := valK_of (k := k) r
      have e1 : valV ((j, v) :: vs) k = valV vs k := by simp [valV, List.find?_cons, e]
      have e2 : valD ((j, d) :: ds) k = valD ds k := by simp [valD, List.find?_cons, e]
      rw [e1, e2]; exact ih
theorem valT_of {K : Fg} {G : Hp} {k : List Key} : ∀ {ds : List (List Key × D)} {vs : List (List Key × V)}, RepT K G vs ds → (∃ v d, valV vs k = some v ∧ valD ds k = some d ∧ Rep K G v d) ∨ (valV vs k = none ∧ valD ds k = none)
  | _, _, .nil => .inr ⟨rfl, rfl⟩
  | _, _, .cons (k := j) (v := v) (d := d) (vs := vs) (ds := ds) h r => by
    by_cases e : j = k
    · exact .inl ⟨v, d, by simp [valV, e], by simp [valD, e], h⟩
    · have ih := valT_of (k := k) r
      have e1 : valV ((j, v) :: vs) k = valV vs k := by simp [valV, List.find?_cons, e]
      have e2 : valD ((j, d) :: ds) k = valD ds k := by simp [valD, List.find?_cons, e]
      rw [e1, e2]; exact ih
theorem anyK_of {K : Fg} {G : Hp} {k : Key} : ∀ {ds : List (Key × D)} {vs : List (Key × V)}, RepK K G vs ds → (vs.any fun kv => decide (kv.1 = k)) = (ds.any fun kv => decide (kv.1 = k))
  | _, _, .nil => rfl
  | _, _, .cons h r => by rw [List.any_cons, List.any_cons, anyK_of r]
theorem anyT_of {K : Fg} {G : Hp} {k : List Key} : ∀ {ds : List (List Key × D)} {vs : List (List Key × V)}, RepT K G vs ds → (vs.any fun kv => decide (kv.1 = k)) = (ds.any fun kv => decide (kv.1 = k))
  | _, _, .nil => rfl
  | _, _, .cons h r => by rw [List.any_cons, List.any_cons, anyT_of r]
theorem mapK_of {K : Fg} {G : Hp} {k : Key} {v : V} {d : D} (hv : Rep K G v d) : ∀ {ds : List (Key × D)} {vs : List (Key × V)}, RepK K G vs ds → RepK K G (vs.map fun kv => if kv.1 = k then (kv.1, v) else kv) (ds.map fun kv => if kv.1 = k then (kv.1, d) else kv)
  | _, _, .nil => .nil
  | _, _, .cons (k := j) h r => by
    rw [List.map_cons, List.map_cons]
    by_cases e : j = k
    · simp only [e, if_true]
      exact .cons hv (mapK_of hv r)
    · simp only [e, if_false]
      exact .cons h (mapK_of hv r)
theorem snocK_of {K : Fg} {G : Hp} {k : Key} {v : V} {d : D} (hv : Rep K G v d) : ∀ {ds : List (Key × D)} {vs : List (Key × V)}, RepK K G vs ds → RepK K G (vs ++ [(k, v)]) (ds ++ [(k, d)])
  | _, _, .nil => .cons hv .nil
  | _, _, .cons h r => .cons h (snocK_of hv r)
theorem putK_of {K : Fg} {G : Hp} {k : Key} {v : V} {d : D} (hv : Rep K G v d) {ds : List (Key × D)} {vs : List (Key × V)} (r : RepK K G vs ds) : RepK K G (putK vs k v) (putD ds k d) := by
  unfold putK putD
  rw [anyK_of r]
  split
  · exact mapK_of hv r
  · exact snocK_of hv r
theorem dropK_of {K : Fg} {G : Hp} {k : Key} : ∀ {ds : List (Key × D)} {vs : List (Key × V)}, RepK K G vs ds → RepK K G (dropK vs k) (dropD ds k)
  | _, _, .nil => .nil
  | _, _, .cons (k := j) (v := v) (d := d) (vs := vs) (ds := ds) h r => by
    have ih := dropK_of (k := k) r
    unfold dropK dropD at ih ⊢
    by_cases e : j = k
    · rw [List.filter_cons_of_neg (by simp [e]), List.filter_cons_of_neg (by simp [e])]
      exact ih
    · rw [List.filter_cons_of_pos (by simp [e]), List.filter_cons_of_pos (by simp [e])]
      exact .cons h ih
theorem mapT_of {K : Fg} {G : Hp} {k : List Key} {v : V} {d : D} (hv : Rep K G v d) : ∀ {ds : List (List Key × D)} {vs : List (List Key × V)}, RepT K G vs ds → RepT K G (vs.map fun kv => if kv.1 = k then (kv.1, v) else kv) (ds.map fun kv => if kv.1 = k then (kv.1, d) else kv)
  | _, _, .nil => .nil
  | _, _, .cons (k := j) h r => by
    rw [List.map_cons, List.map_cons]
    by_cases e : j = k
    · simp only [e, if_true]
      exact .cons hv (mapT_of hv r)
    · simp only [e, if_false]
      exact .cons h (mapT_of hv r)
theorem snocT_of {K : Fg} {G : Hp} {k : List Key} {v : V} {d : D} (hv : Rep K G v d) : ∀ {ds : List (List Key × D)} {vs : List (List Key × V)}, RepT K G vs ds → RepT K G (vs ++ [(k, v)]) (ds ++ [(k, d)])
  | _, _, .nil => .cons hv .nil
  | _, _, .cons h r => .cons h (snocT_of hv r)
theorem putT_of {K : Fg} {G : Hp} {k : List Key} {v : V} {d : D} (hv : Rep K G v d) {ds : List (List Key × D)} {vs : List (List Key × V)} (r : RepT K G vs ds) : RepT K G (putK vs k v) (putD ds k d) := by
  unfold putK putD
  rw [anyT_of r]
  split
  · exact mapT_of hv r
  · exact snocT_of hv r
theorem dropT_of {K : Fg} {G : Hp} {k : List Key} : ∀ {ds : List (List Key × D)} {vs : List (List Key × V)}, RepT K G vs ds → RepT K G (dropK vs k) (dropD ds k)
  | _, _, .nil => .nil
  | _, _, .cons (k := j) (v := v) (d := d) (vs := vs) (ds := ds) h r => by
    have ih := dropT_of (k := k) r
    unfold dropK dropD at ih ⊢
    by_cases e : j = k
    · rw [List.filter_cons_of_neg (by simp [e]), List.filter_cons_of_neg (by simp [e])]
      exact ih
    · rw [List.filter_cons_of_pos (by simp [e]), List.filter_cons_of_pos (by simp [e])]
      exact .cons h ih
/-- what a dict holds at a key -/
def getK : D → D → Option (Option D)
  | .dk kvs, d => (keyD d).bind fun k => some (valD kvs k)
  | .dt kvs, .tup ds => (keysD ds).bind fun k => some (valD kvs k)
  | _, _ => none
theorem getK_of {K : Fg} {G H : Hp} {x y : V} {dx dy : D} {o : Option D} (s : Same G H) (rx : RepV K G H x dx) (ry : RepV K G H y dy) (e : getK dx dy = some o) :
    ∃ a, x = .ref a ∧ IsD H a ∧ ∃ ov, DGet H a y ov ∧ ((∃ v d, ov = some v ∧ o = some d ∧ Rep K G v d) ∨ (ov = none ∧ o = none)) := by
  unfold getK at e
  split at e
  · rename_i kvs
    cases q : keyD dy with
    | none => simp [q] at e
    | some k =>
      simp [q] at e; subst e
      obtain ⟨a, xs, rfl, h1, q1⟩ := rx.dk_ s
      have ey : y = kV k := by
        cases ry with
        | sh r => exact keyD_of r q
        | _ => cases q
      exact ⟨a, rfl, .inl ⟨xs, .inl h1⟩, _, by rw [ey]; exact DGet.k h1, by
        rcases valK_of (k := k) q1 with ⟨v, d, a, b, c⟩ | ⟨a, b⟩
        · exact .inl ⟨v, d, a, b, c⟩
        · exact .inr ⟨a, b⟩⟩
  · rename_i kvs ds
    cases q : keysD ds with
    | none => simp [q] at e
    | some k =>
      simp [q] at e; subst e
      obtain ⟨a, xs, rfl, h1, q1⟩ := rx.dt_ s
      obtain ⟨b, ys, rfl, h2, q2⟩ := ry.tup
      have ey := keysD_of q2 q
      subst ey
      exact ⟨a, rfl, .inr ⟨xs, .inl h1⟩, _, DGet.t h1 (s _ _ h2), by
        rcases valT_of (k := k) q1 with ⟨v, d, a, b, c⟩ | ⟨a, b⟩
        · exact .inl ⟨v, d, a, b, c⟩
        · exact .inr ⟨a, b⟩⟩
  · cases e
def fInB (x y : D) : Option Bool := match y with
  | .lst ds => if x.flat && ds.all D.flat then some (memD x ds) else none
  | .tup ds => if x.flat && ds.all D.flat then some (memD x ds) else none
  | .str z => match x with
    | .str c => match c.cps.toList with
      | [n] => some (decide (n ∈ z.cps.toList))
      | _ => none
    | _ => none
  | .dk kvs => (getK (.dk kvs) x).bind fun o => some o.isSome
  | .dt kvs => (getK (.dt kvs) x).bind fun o => some o.isSome
  | _ => none
def fIn : List D → Option C
  | [x, y] => (fInB x y).bind fun b => some (.sh (.bl b))
  | _ => none
def fNotIn : List D → Option C
  | [x, y] => (fInB x y).bind fun b => some (.sh (.bl (!b)))
  | _ => none
def rInA (K : Fg) : R2 := fun x y H Q => rIn K false x y H Q ∨ ((∃ (c : Nat) (z : Str), x = .str ⟨#[c]⟩ ∧ y = .str z ∧ Q (.bl (decide (c ∈ z.cps.toList))) H) ∨ ∃ a o, y = .ref a ∧ DGet H a x o ∧ Q (.bl o.isSome) H)
def rNotInA (K : Fg) : R2 := fun x y H Q => rIn K true x y H Q ∨ ((∃ (c : Nat) (z : Str), x = .str ⟨#[c]⟩ ∧ y = .str z ∧ Q (.bl (!decide (c ∈ z.cps.toList))) H) ∨ ∃ a o, y = .ref a ∧ DGet H a x o ∧ Q (.bl (!o.isSome)) H)
theorem op_inD {X : Cx} (hu : X.A.units + 1 < cLine) : OpR X (compareOp .In) (fun x y H Q => ∃ a o, y = .ref a ∧ DGet H a x o ∧ Q (.bl o.isSome) H) := by
  intro pins s σ H x y v u Q I rx ry h
  obtain ⟨a, o, rfl, g, q⟩ := h
  obtain rfl : u = Value.ref a := ry
  exact d_in hu I g rx fun s1 I1 => ⟨.bl o.isSome, H, I1, rfl, q⟩
theorem op_notInD {X : Cx} (hu : X.A.units + 1 < cLine) : OpR X (compareOp .NotIn) (fun x y H Q => ∃ a o, y = .ref a ∧ DGet H a x o ∧ Q (.bl (!o.isSome)) H) := by
  intro pins s σ H x y v u Q I rx ry h
  obtain ⟨a, o, rfl, g, q⟩ := h
  obtain rfl : u = Value.ref a := ry
  exact d_notIn hu I g rx fun s1 I1 => ⟨.bl (!o.isSome), H, I1, rfl, q⟩
theorem op_inA {X : Cx} {k : Nat} (hr : Room k X.A) : OpR X (compareOp .In) (rInA X.K) := OpR.or op_in_seq (OpR.or op_in_sign (op_inD (hu_of hr)))
theorem op_notInA {X : Cx} {k : Nat} (hr : Room k X.A) : OpR X (compareOp .NotIn) (rNotInA X.K) := OpR.or op_notIn_seq (OpR.or op_notIn_sign (op_notInD (hu_of hr)))
section
variable {K : Fg}
theorem flat_sh {G H : Hp} {x : V} {d : D} (r : RepV K G H x d) (h : d.flat = true) : Rep K G x d := by
  cases r with
  | sh r => exact r
  | _ => cases h
theorem str_one {c : Str} {n : Nat} (h : c.cps.toList = [n]) : c = ⟨#[n]⟩ := by
  cases c with
  | mk a =>
    have : a = #[n] := by
      apply Array.ext'
      simpa using h
    rw [this]
theorem inB_run {G H : Hp} {x y : V} {dx dy : D} {b : Bool} (s : Same G H) (rx : RepV K G H x dx) (ry : RepV K G H y dy) (e : fInB dx dy = some b) :
    (∃ p xs, y = .ref p ∧ (SqL K H p xs ∨ SqT K H p xs) ∧ flatV x = true ∧ xs.all flatV = true ∧ inV x xs = b) ∨ ((∃ (c : Nat) (z : Str), x = .str ⟨#[c]⟩ ∧ y = .str z ∧ decide (c ∈ z.cps.toList) = b) ∨ ∃ a o, y = .ref a ∧ DGet H a x o ∧ o.isSome = b) := by
  have dict : ∀ {d : D}, RepV K G H y d → ((getK d dx).bind fun o => some o.isSome) = some b → ∃ a o, y = .ref a ∧ DGet H a x o ∧ o.isSome = b := fun {d} ry e => by
    cases q : getK d dx with
    | none => simp [q] at e
    | some o =>
      simp [q] at e; subst e
      obtain ⟨a, ea, _, ov, g, h⟩ := getK_of s ry rx q
      refine ⟨a, ov, ea, g, ?_⟩
      rcases h with ⟨v, d, h1, h2, _⟩ | ⟨h1, h2⟩
      · rw [h1, h2]; rfl
      · rw [h1, h2]; rfl
  cases dy with
  | lst ds =>
    simp only [fInB] at e
    split at e
    · rename_i h
      cases e
      rw [Bool.and_eq_true] at h
      obtain ⟨a, xs, rfl, h1, q1⟩ := ry.lst s
      have r := flat_sh rx h.1
      exact .inl ⟨a, xs, rfl, .inl (SqL.of h1), flat_of r h.1, flats_of q1 h.2, inV_of r h.1 q1 h.2⟩
    · cases e
  | tup ds =>
    simp only [fInB] at e
    split at e
    · rename_i h
      cases e
      rw [Bool.and_eq_true] at h
      obtain ⟨a, xs, rfl, h1, q1⟩ := ry.tup
      have r := flat_sh rx h.1
      exact .inl ⟨a, xs, rfl, .inr (SqT.of (s _ _ h1)), flat_of r h.1, flats_of q1 h.2, inV_of r h.1 q1 h.2⟩
    · cases e
  | str z =>
    cases dx with
    | str c =>
      simp only [fInB] at e
      split at e
      · rename_i n h
        cases e
        cases rx.str
        cases ry.str
        exact .inr (.inl ⟨_, _, by rw [str_one h], rfl, rfl⟩)
      · cases e
    | _ => simp [fInB] at e
  | dk kvs => exact .inr (.inr (dict ry e))
  | dt kvs => exact .inr (.inr (dict ry e))
  | _ => simp [fInB] at e
theorem s_in : OpS K (op2r (rInA K)) fIn := fun G H vs ds c Q s rv e k => by
  unfold fIn at e
  split at e
  · rename_i x y
    cases q : fInB x y with
    | none => simp [q] at e
    | some b =>
      simp [q] at e; subst e
      cases rv with
      | cons r1 rv =>
        cases rv with
        | cons r2 rv =>
          cases rv
          refine ⟨_, _, rfl, ?_⟩
          have fin := k.sh s (.bl b)
          rcases inB_run s r1 r2 q with ⟨p, xs, h1, h2, h3, h4, h5⟩ | ⟨c, z, h1, h2, h3⟩ | ⟨a, o, h1, h2, h3⟩
          · exact .inl ⟨p, xs, h1, h2, h3, h4, by rw [if_neg Bool.false_ne_true, h5]; exact fin⟩
          · exact .inr (.inl ⟨c, z, h1, h2, by rw [h3]; exact fin⟩)
          · exact .inr (.inr ⟨a, o, h1, h2, by rw [h3]; exact fin⟩)
  · cases e
theorem s_notIn : OpS K (op2r (rNotInA K)) fNotIn := fun G H vs ds c Q s rv e k => by
  unfold fNotIn at e
  split at e
  · rename_i x y
    cases q : fInB x y with
    | none => simp [q] at e
    | some b =>
      simp only [q, Option.bind_some] at e; cases e
      cases rv with
      | cons r1 rv =>
        cases rv with
        | cons r2 rv =>
          cases rv
          refine ⟨_, _, rfl, ?_⟩
          have fin := k.sh s (.bl (!b))
          rcases inB_run s r1 r2 q with ⟨p, xs, h1, h2, h3, h4, h5⟩ | ⟨c, z, h1, h2, h3⟩ | ⟨a, o, h1, h2, h3⟩
          · exact .inl ⟨p, xs, h1, h2, h3, h4, by rw [if_pos rfl, h5]; exact fin⟩
          · exact .inr (.inl ⟨c, z, h1, h2, by rw [h3]; exact fin⟩)
          · exact .inr (.inr ⟨a, o, h1, h2, by rw [h3]; exact fin⟩)
  · cases e
end
end Fx
set_option Elab.async false
set_option linter.all false
set_option maxRecDepth 100000
set_option maxHeartbeats 4000000
noncomputable section
namespace Fx
open PySem L2

/-! ## what changes a slot's cell -/
/-- the first value's cell is changed by an operation -/
def Mt (K : Fg) (F : C → List D → Option (C × C)) (v0 : V) (vs : List V) (H : Hp) (Q : VK) : Prop := ∃ c0 f0 ds G, Same G H ∧ RepC K G H v0 c0 f0 ∧ Reps K G vs ds ∧ ∃ c c0', F c0 ds = some (c, c0') ∧
  ∀ v G' H' f0' fr, Same G' H' → RepC K G' H' v0 c0' f0' → RepC K G' H' v c fr → (∀ a ∈ fr, a ∉ f0') → Step G H (fun a => a ∈ f0) G' H' (fun a => a ∈ f0' ∨ a ∈ fr) → Q v H'
theorem con_there {K : Fg} {σ : St} {e : Env} {G H : Hp} {fp : Fp} (con : Con K σ e G H fp) {j : Nat} {a : Addr} (m : a ∈ fp j) : ∃ o, H a = some o := by
  have : ∃ x, e[j]? = some (some x) := by
    refine Classical.byContradiction fun no => ?_
    have e := con.nil j fun x e => no ⟨x, e⟩
    rw [e] at m; cases m
  obtain ⟨x, ex⟩ := this
  obtain ⟨_, _, rx⟩ := con.rep j x ex
  exact (rx.mem a m).2
/-- slot i's cell goes from c0 to c0' while H goes to H' -/
theorem con_mut {K : Fg} {σ : St} {e : Env} {G H G' H' : Hp} {fp : Fp} {i : Nat} {v0 : V} {c0 c0' : C} {f0' fr : List Addr} (con : Con K σ e G H fp) (q1 : e[i]? = some (some c0)) (hv0 : σ[i]? = some (some v0)) (sub : Same G' H') (r0' : RepC K G' H' v0 c0' f0') (n : ∀ a ∈ fr, a ∉ f0')
    (s' : Step G H (fun a => a ∈ fp i) G' H' (fun a => a ∈ f0' ∨ a ∈ fr)) :
    ∃ fp', Con K σ (e.set i (some c0')) G' H' fp' ∧ (∀ a ∈ fr, ¬ U fp' a) ∧ Step G H (U fp) G' H' (fun a => U fp' a ∨ a ∈ fr) := by
  have hi : i < e.length := (List.getElem?_eq_some_iff.mp q1).1
  have hd : ∀ a, U (fp.set i []) a → ¬ a ∈ fp i := fun a u m => by
    obtain ⟨j, mj⟩ := u
    by_cases hj : j = i
    · subst hj; rw [Fp.set_same] at mj; cases mj
    · rw [Fp.set_ne hj] at mj; exact hj (con.dis j i a mj m)
  have con2 := (con.drop (i := i) (σ' := σ) rfl fun _ _ => rfl).step s' hd sub
  have con3 := con2.put (i := i) (by simpa using hi) r0' fun a m j hj z => by
    rw [Fp.set_ne hj] at z
    rcases s'.fr a (.inl m) with w | w
    · exact hj (con.dis j i a z w)
    · obtain ⟨o, eo⟩ := con_there con z
      rw [eo] at w; cases w
  have es : σ.set i (some v0) = σ := by
    apply List.ext_getElem?
    intro j
    by_cases q : j = i
    · subst q; rw [hv0]; exact List.getElem?_set_self (by rw [con.len]; exact hi)
    · rw [List.getElem?_set_ne (fun z => q z.symm)]
  have ef : Fp.set (Fp.set fp i []) i f0' = Fp.set fp i f0' := by funext j; unfold Fp.set; split <;> rfl
  rw [es, ef, List.set_set] at con3
  refine ⟨_, con3, fun a m u => ?_, s'.weak (fun a m => ⟨i, m⟩) fun a u => ?_⟩
  · obtain ⟨j, mj⟩ := u
    by_cases hj : j = i
    · subst hj; rw [Fp.set_same] at mj; exact n a m mj
    · rw [Fp.set_ne hj] at mj
      rcases s'.fr a (.inr m) with w | w
      · exact hj (con.dis j i a mj w)
      · obtain ⟨o, eo⟩ := con_there con mj
        rw [eo] at w; cases w
  · rcases u with u | u
    · obtain ⟨j, mj⟩ := u
      by_cases hj : j = i
      · subst hj; rw [Fp.set_same] at mj; exact .inl (.inl mj)
      · rw [Fp.set_ne hj] at mj; exact .inr (.inl ⟨j, mj⟩)
    · exact .inl (.inr u)
theorem mut_run {K : Fg} {F : C → List D → Option (C × C)} {i : Nat} {ms : List Arg} {σ : St} {H : Hp} {Q : VK} (q : tE K (eCallB F i ms) σ H Q) :
    ∃ v0 cc f0 G, σ[i]? = some (some v0) ∧ RepC K G H v0 cc f0 ∧ (∃ env, env[i]? = some (some cc) ∧ ∃ r, eCallB F i ms env = some r) ∧ tAr K ms σ H fun vs H1 => Mt K F v0 vs H1 Q := by
  obtain ⟨env, G, fp, con, c, env', e1, k⟩ := q
  have e1' := e1
  unfold eCallB at e1
  split at e1
  · rename_i cc q0
    obtain ⟨v0, hv0, rc0⟩ := con.rep i _ q0
    refine ⟨v0, cc, _, G, hv0, rc0, ⟨env, q0, _, e1'⟩, ?_⟩
    cases q : evA ms env with
    | none => simp [q] at e1
    | some y =>
      obtain ⟨ds, e2⟩ := y
      simp only [q, Option.bind_some] at e1
      split at e1
      · rename_i c0 q1
        cases q2 : F c0 ds with
        | none => simp [q2] at e1
        | some y =>
          obtain ⟨c1, c0'⟩ := y
          simp [q2] at e1
          obtain ⟨rfl, rfl⟩ := e1
          refine args_run ms con q fun vs G1 H1 fp1 con1 r s => ?_
          obtain ⟨v0', hv0', r0⟩ := con1.rep i _ q1
          rw [hv0] at hv0'
          cases hv0'
          refine ⟨c0, fp1 i, ds, G1, con1.sub, r0, r, c1, c0', q2, fun v G' H' f0' fr sub r0' rc n s' => ?_⟩
          obtain ⟨fp2, con2, n2, s2⟩ := con_mut con1 q1 hv0 sub r0' n s'
          exact k v G' H' fp2 fr con2 rc n2 (s.trans s2)
      · cases e1
  · cases e1

/-! ## methods of lists -/
/-- the operation on values does what F says -/
def MutS (K : Fg) (r : V → List V → Hp → VK → Prop) (F : C → List D → Option (C × C)) : Prop := ∀ (v0 : V) (vs : List V) (H : Hp) (Q : VK), Mt K F v0 vs H Q → r v0 vs H Q
section
variable {X : Cx} {o e : Expr} {es : List Expr} {name : Str} {apos cpos : Pos} {id : String} {r : V → List V → Hp → VK → Prop} {F : C → List D → Option (C × C)} {i : Nat} {ms : List Arg}
/-- only a list of one's own is let by -/
def olOnly (F : List D → List D → Option (C × List D)) : C → List D → Option (C × C)
  | .ol xs, ds => (F xs ds).bind fun (c, ys) => some (c, .ol ys)
  | _, _ => none
def eMethL (F : List D → List D → Option (C × List D)) (i : Nat) (ms : List Arg) : EM := fun env => match env[i]? with
  | some (some (.ol _)) => eCallB (olOnly F) i ms env
  | _ => none
theorem methL_run {K : Fg} {F : List D → List D → Option (C × List D)} {σ : St} {H : Hp} {Q : VK} (q : tE K (eMethL F i ms) σ H Q) :
    ∃ l xs, σ[i]? = some (some (.ref l)) ∧ H l = some (.lst xs) ∧ tAr K ms σ H fun vs H1 => Mt K (olOnly F) (.ref l) vs H1 Q := by
  obtain ⟨env, G, fp, con, c, env', e1, k⟩ := q
  unfold eMethL at e1
  split at e1
  · rename_i ds q0
    obtain ⟨v0, hv0, r0⟩ := con.rep i _ q0
    obtain ⟨v1, cc, f0, G1, h1, h2, h3, h4⟩ := mut_run (F := olOnly F) ⟨env, G, fp, con, c, env', e1, k⟩
    rw [hv0] at h1; cases h1
    generalize hf : fp i = fi at r0
    cases r0 with
    | ol g h r => exact ⟨_, _, hv0, h, h4⟩
  · cases e1
theorem ok_methL {F : List D → List D → Option (C × List D)} (slot : Slot "list" name id) (hty : typeOf (.builtin id) = pure (.type "method_descriptor")) (hm : MtR X id r) (hF : MutS X.K r (olOnly F)) (ho : PE X o (tVar i)) (ha : PA X (e :: es) (tAr X.K ms))
    (hbase : attributeBase o name X.env (eval o X.env) = eval o X.env := by rfl)
    (hfew : ((backTo cpos (starEach (e :: es) X.env)).all (fun x => !x.1) && (backToKw cpos (keywordEach [] X.env)).all (fun x => x.1.isSome)
      && decide ((e :: es).length + ([] : List Keyword).length + (if ([] : List Keyword).isEmpty then 0 else 1) < 30)) = true := by rfl)
    (hline : (apos.endLine == cpos.line) = true := by rfl) (hs : starEach (e :: es) X.env = (false, eval e X.env) :: starEach es X.env := by rfl) (hplain : (backTo cpos (starEach es X.env)).any (·.1) = false := by rfl) :
    EOk X (.Call (.Attribute o name apos) (e :: es) [] cpos) (eMethL F i ms) :=
  pe_mono (pe_bm PySem.F.plainAttrs_list slot hty hm ho ha hbase hfew hline hs hplain) fun σ H Q q => by
    obtain ⟨l, xs, hv, hl, z⟩ := methL_run q
    exact ⟨_, hv, .inl ⟨rfl, xs, SqL.of hl⟩, ta_mono ms z fun vs H1 h => hF _ _ _ _ h⟩
where
  ta_mono {K : Fg} : ∀ (ms : List Arg) {σ : St} {H : Hp} {R R' : List V → Hp → Prop}, tAr K ms σ H R → (∀ vs H, R vs H → R' vs H) → tAr K ms σ H R'
    | [], _, _, _, _, h, k => k _ _ h
    | .one m :: r, σ, H, R, R', h, k => by
      refine vk_mono_opd (.val m) (fun v H1 h1 => ?_) h
      exact ta_mono r h1 fun vs H2 h2 => k _ _ h2
    | .star m :: r, σ, H, R, R', h, k => by
      refine vk_mono_opd (.val m) (fun v H1 h1 => ?_) h
      obtain ⟨p, xs, e, hx, h1⟩ := h1
      exact ⟨p, xs, e, hx, ta_mono r h1 fun vs H2 h2 => k _ _ h2⟩
end
section
variable {K : Fg}
/-- a list of one's own is written -/
theorem Mt.put {F : List D → List D → Option (C × List D)} {v0 : V} {vs : List V} {H : Hp} {Q : VK} (h : Mt K (olOnly F) v0 vs H Q) : ∃ l xs ds zs c zs' G, v0 = .ref l ∧ H l = some (.lst xs) ∧ Same G H ∧ G l = none ∧ Reps K G xs zs ∧ Reps K G vs ds ∧ F zs ds = some (c, zs') ∧
    ∀ v ys d, c = .sh d → Reps K G ys zs' → Rep K G v d → Q v (upd H l (.lst ys)) := by
  obtain ⟨c0, f0, ds, G, s, r0, r, c, c0', e, k⟩ := h
  cases r0 with
  | @ol l xs zs g h r0 =>
    simp only [olOnly] at e
    cases q : F zs ds with
    | none => simp [q] at e
    | some y =>
      obtain ⟨c1, zs'⟩ := y
      simp [q] at e
      obtain ⟨rfl, rfl⟩ := e
      refine ⟨l, xs, ds, zs, c1, zs', G, rfl, h, s, g, r0, r, q, fun v ys d ec ry rv => ?_⟩
      subst ec
      have sub : Same G (upd H l (.lst ys)) := fun a o e => by rw [upd_ne (fun z => by rw [z, g] at e; cases e)]; exact s a o e
      refine k v G _ [l] [] sub (.ol g upd_same ry) (.sh rv) (fun a m => by cases m) ⟨fun _ _ e => e, fun a o e n => by rw [upd_ne (fun z => n (by simp [z]))]; exact e, fun a o e => .inl e, fun a m => m.elim .inl fun z => by cases z⟩
  | _ => simp [olOnly] at e
def fAppend : List D → List D → Option (C × List D)
  | xs, [d] => if xs.length < lim then some (.sh .non, xs ++ [d]) else none
  | _, _ => none
theorem m_append : MutS K rAppend (olOnly fAppend) := fun v0 vs H Q h => by
  obtain ⟨l, xs, ds, zs, c, zs', G, rfl, hl, s, g, r0, r, e, k⟩ := h.put
  cases r with
  | nil => cases e
  | cons hv r =>
    cases r with
    | cons => cases e
    | nil =>
      unfold fAppend at e
      simp only at e
      split at e
      · rename_i hlen
        cases e
        exact ⟨l, xs, _, rfl, rfl, hl, by rw [r0.length, ← lim_eq]; exact hlen, k _ _ _ rfl (r0.append (.cons hv .nil)) .non⟩
      · cases e
def fExtend : List D → List D → Option (C × List D)
  | xs, [.lst zs] => if xs.length + zs.length ≤ lim then some (.sh .non, xs ++ zs) else none
  | _, _ => none
theorem m_extend : MutS K rExtend (olOnly fExtend) := fun v0 vs H Q h => by
  obtain ⟨l, xs, ds, zs, c, zs', G, rfl, hl, s, g, r0, r, e, k⟩ := h.put
  unfold fExtend at e
  split at e
  · split at e
    · rename_i hlen
      cases e
      cases r with
      | cons hv r =>
        cases r
        cases hv with
        | lst hb rb => exact ⟨l, _, xs, _, rfl, rfl, hl, s _ _ hb, by rw [r0.length, rb.length, ← lim_eq]; exact hlen, k _ _ _ rfl (r0.append rb) .non⟩
    · cases e
  · cases e
/-- xs.pop(i) -/
def fPopAt : List D → List D → Option (C × List D)
  | xs, [.int n] => if okR n then if 0 ≤ n then (xs[n.toNat]?).bind fun d => some (.sh d, xs.eraseIdx n.toNat) else none else none
  | _, _ => none
theorem Reps.eraseIdx {G : Hp} : ∀ {ds : List D} {vs : List V} (n : Nat), Reps K G vs ds → Reps K G (vs.eraseIdx n) (ds.eraseIdx n)
  | _, _, _, .nil => .nil
  | _, _, 0, .cons _ r => r
  | _, _, n + 1, .cons h r => .cons h (Reps.eraseIdx n r)
theorem m_popAt : MutS K rPopAt (olOnly fPopAt) := fun v0 vs H Q h => by
  obtain ⟨l, xs, ds, zs, c, zs', G, rfl, hl, s, g, r0, r, e, k⟩ := h.put
  unfold fPopAt at e
  split at e
  · rename_i n
    split at e
    · rename_i hok
      split at e
      · rename_i hn
        cases q : zs[n.toNat]? with
        | none => simp [q] at e
        | some d =>
          simp [q] at e
          obtain ⟨rfl, rfl⟩ := e
          cases r with
          | cons hv r =>
            cases r
            cases hv
            obtain ⟨v, e1, rv⟩ := r0.getD q
            have e63 : (2 : Int) ^ 63 = 9223372036854775808 := by decide
            have e62 : (2 : Int) ^ 62 = 4611686018427387904 := by decide
            have hlt : n < xs.length := by
              have := (List.getElem?_eq_some_iff.mp e1).1
              omega
            have hok := okR_iff.mp hok
            rw [e62] at hok
            exact ⟨l, xs, n, n.toNat, v, rfl, rfl, hl, by rw [e63]; omega, by rw [e63]; omega, seqIndex_of hn hlt, e1, k _ _ _ rfl (r0.eraseIdx _) rv⟩
      · cases e
    · cases e
  · cases e
end

/-! ## stores -/
/-- a key's place gets a value -/
def putC : C → D → D → Option C
  | .ol ds, .int k, d => (ixN ds.length k).bind fun j => some (.ol (ds.set j d))
  | .odk kvs, y, d => (keyD y).bind fun k => if kvs.length < lim then some (.odk (putD kvs k d)) else none
  | .odt kvs, .tup ks, d => (keysD ks).bind fun k => if kvs.length < lim then some (.odt (putD kvs k d)) else none
  | _, _, _ => none
def rPutA : TSet := fun o i v H Q => rSetL o i v H Q ∨ ∃ a H', o = .ref a ∧ DPut H a i v H' ∧ Q H'
theorem set_A {X : Cx} {k : Nat} (hr : Room k X.A) : PSet X rPutA := by
  intro pins s σ H o i v ov iv u Q I ro ri rv h
  rcases h with h | ⟨a, H', rfl, g, q⟩
  · exact set_list pins s σ H o i v ov iv u Q I ro ri rv h
  · obtain rfl : ov = Value.ref a := ro
    exact d_setItem (hu_of hr) I g ri rv fun s1 I1 => ⟨H', I1, q⟩
theorem putC_run {K : Fg} {G H : Hp} {v0 y v : V} {c0 c1 : C} {f0 : List Addr} {dy d : D} {Q : Hp → Prop} (s : Same G H) (r0 : RepC K G H v0 c0 f0) (ry : RepV K G H y dy) (rv : Rep K G v d) (e : putC c0 dy d = some c1)
    (k : ∀ H', Same G H' → RepC K G H' v0 c1 f0 → Step G H (fun a => a ∈ f0) G H' (fun a => a ∈ f0) → Q H') : rPutA v0 y v H Q := by
  have fin : ∀ {l : Addr} {o : HO}, G l = none → Same G (upd H l o) ∧ Step G H (fun a => a ∈ [l]) G (upd H l o) (fun a => a ∈ [l]) := fun {l o} g =>
    ⟨fun a u e => by rw [upd_ne (fun z => by rw [z, g] at e; cases e)]; exact s a u e, ⟨fun _ _ e => e, fun a u e n => by rw [upd_ne (fun z => n (by simp [z]))]; exact e, fun a u e => .inl e, fun a m => .inl m⟩⟩
  cases r0 with
  | @ol l xs zs g h r =>
    cases dy with
    | int n =>
      simp only [putC] at e
      cases q : ixN zs.length n with
      | none => simp [q] at e
      | some j =>
        simp [q] at e; subst e
        cases ry.int
        obtain ⟨a, b⟩ := fin (o := .lst (xs.set j v)) g
        exact .inl ⟨l, xs, n, j, rfl, rfl, h, by rw [r.length]; exact q, k _ a (.ol g upd_same (r.set rv j)) b⟩
    | _ => simp [putC] at e
  | @odk l xs zs g h r =>
    have e' : (keyD dy).bind (fun k => if zs.length < lim then some (C.odk (putD zs k d)) else none) = some c1 := by cases dy <;> exact e
    cases q : keyD dy with
    | none => simp [q] at e'
    | some kk =>
      simp only [q, Option.bind_some] at e'
      split at e'
      · rename_i hl
        cases e'
        have ey : y = kV kk := keyD_of (flat_sh ry (by cases dy <;> first | rfl | cases q)) q
        obtain ⟨a, b⟩ := fin (o := .dK (putK xs kk v)) g
        exact .inr ⟨l, _, rfl, by rw [ey]; exact DPut.k h (by rw [repK_len r, ← lim_eq]; exact hl), k _ a (.odk g upd_same (putK_of rv r)) b⟩
      · cases e'
  | @odt l xs zs g h r =>
    cases dy with
    | tup ks =>
      simp only [putC] at e
      cases q : keysD ks with
      | none => simp [q] at e
      | some kk =>
        simp only [q, Option.bind_some] at e
        split at e
        · rename_i hl
          cases e
          obtain ⟨b, ys, rfl, h2, q2⟩ := ry.tup
          have ey := keysD_of q2 q
          subst ey
          obtain ⟨a, b'⟩ := fin (o := .dT (putK xs kk v)) g
          have hlen : ∀ {ds : List (List Key × D)} {vs : List (List Key × V)}, RepT K G vs ds → vs.length = ds.length := by
            intro ds
            induction ds with
            | nil => intro vs r; cases r; rfl
            | cons d ds ih => intro vs r; cases r with | cons h r => simp [ih r]
          exact .inr ⟨l, _, rfl, DPut.t h (s _ _ h2) (by rw [hlen r, ← lim_eq]; exact hl), k _ a (.odt g upd_same (putT_of rv r)) b'⟩
        · cases e
    | _ => simp [putC] at e
  | _ => cases dy <;> simp [putC] at e
/-- targets of an assignment -/
inductive Tg where
  | nm (i : Nat) | sb (i : Nat) (o : Opd)
def asgG : Tg → D → Env → Option Env
  | .nm i, d, env => if i < env.length then some (env.set i (some (.sh d))) else none
  | .sb i o, d, env => match env[i]? with
    | some (some _) => (evO [o] env).bind fun (ds, e) => match ds, e[i]? with
      | [y], some (some c0) => (putC c0 y d).bind fun c1 => some (e.set i (some c1))
      | _, _ => none
    | _ => none
def gG (K : Fg) : Tg → TG
  | .nm i => gName i
  | .sb i o => L2.gSub (tVar i) (tOpd K o) rPutA
def Tg.ok (p : Nat) : Tg → Bool
  | .nm i => decide (p ≤ i) | .sb _ _ => true
theorem asgG_run {K : Fg} {p : Nat} {t : Tg} {d : D} {v : V} {σ : St} {env env' : Env} {G H : Hp} {fp : Fp} {Q : St → Hp → Prop} (con : Con K σ env G H fp) (r : Rep K G v d) (e : asgG t d env = some env') (hp : t.ok p = true)
    (k : ∀ σ' G' H' fp', Con K σ' env' G' H' fp' → Step G H (U fp) G' H' (U fp') → σ'.take p = σ.take p → Q σ' H') : gG K t v σ H Q := by
  cases t with
  | nm i =>
    simp only [asgG] at e
    split at e
    · rename_i hi
      cases e
      exact k _ G H _ (con_sh con hi r) ((Step.refl ..).weak (fun _ u => u) fun a u => .inr (.inl (U_set_nil u))) (take_set (by simpa [Tg.ok] using hp))
    · cases e
  | sb i o =>
    simp only [asgG] at e
    split at e
    · rename_i c00 q00
      obtain ⟨v0, hv0, _⟩ := con.rep i _ q00
      cases q : evO [o] env with
      | none => simp [q] at e
      | some y =>
        obtain ⟨ds, e2⟩ := y
        simp only [q, Option.bind_some] at e
        split at e
        · rename_i dy c0 q1
          cases q2 : putC c0 dy d with
          | none => simp [q2] at e
          | some c1 =>
            simp [q2] at e; subst e
            have z : tO K [o] σ H (fun vs H1 => ∃ y, vs = [y] ∧ rPutA v0 y v H1 fun H3 => Q σ H3) := ⟨env, G, fp, con, _, _, q, fun vs G1 H1 fp1 con1 rv s1 => by
              cases rv with
              | cons r1 rv =>
                cases rv
                obtain ⟨v0', hv0', r0⟩ := con1.rep i _ q1
                rw [hv0] at hv0'; cases hv0'
                refine ⟨_, rfl, putC_run con1.sub r0 r1 (r.mono s1.sG) q2 fun H' sub r0' s' => ?_⟩
                obtain ⟨fp2, con2, _, s2⟩ := con_mut (fr := []) con1 q1 hv0 sub r0' (fun a m => by cases m) (s'.weak (fun _ m => m) fun a m => m.elim .inl fun z => by cases z)
                exact k σ G1 H' fp2 con2 (s1.trans (s2.weak (fun _ u => u) fun a u => .inl (.inl u))) rfl⟩
            refine ⟨v0, hv0, vk_mono_opd o (fun x H1 h1 => ?_) (tOs1 (tO_tOs z))⟩
            obtain ⟨x', ex, h1⟩ := h1
            cases ex
            exact h1
        · cases e
    · cases e
def asgGs : List Tg → List D → Env → Option Env
  | [], [], env => some env
  | t :: ts, d :: ds, env => (asgG t d env).bind fun e => asgGs ts ds e
  | _, _, _ => none
def gGs (K : Fg) : List Tg → TGs
  | [] => gNil
  | t :: ts => gCons (gG K t) (gGs K ts)
theorem asgGs_run {K : Fg} {p : Nat} : ∀ {ts : List Tg} {ds : List D} {vs : List V} {σ : St} {env env' : Env} {G H : Hp} {fp : Fp} {Q : St → Hp → Prop}, Con K σ env G H fp → Reps K G vs ds → asgGs ts ds env = some env' → (∀ t ∈ ts, t.ok p = true) →
    (∀ σ' G' H' fp', Con K σ' env' G' H' fp' → Step G H (U fp) G' H' (U fp') → σ'.take p = σ.take p → Q σ' H') → gGs K ts vs σ H Q
  | [], [], _, σ, env, env', G, H, fp, Q, con, .nil, e, hp, k => by
    cases e
    exact ⟨rfl, k σ G H fp con (Step.refl ..) rfl⟩
  | t :: ts, d :: ds, _, σ, env, env', G, H, fp, Q, con, .cons (v := v) (vs := vs) r rs, e, hp, k => by
    simp only [asgGs] at e
    cases q : asgG t d env with
    | none => simp [q] at e
    | some e1 =>
      simp only [q, Option.bind_some] at e
      refine ⟨v, vs, rfl, asgG_run con r q (hp t (by simp)) fun σ1 G1 H1 fp1 con1 s1 t1 => ?_⟩
      exact asgGs_run con1 (rs.mono s1.sG) e (fun u m => hp u (by simp [m])) fun σ2 G2 H2 fp2 con2 s2 t2 => k σ2 G2 H2 fp2 con2 (s1.trans s2) (t2.trans t1)
  | [], _ :: _, _, _, _, _, _, _, _, _, _, _, e, _, _ => by simp [asgGs] at e
  | _ :: _, [], _, _, _, _, _, _, _, _, _, _, e, _, _ => by simp [asgGs] at e
theorem asgGs_length : ∀ {ts : List Tg} {ds : List D} {env env' : Env}, asgGs ts ds env = some env' → ds.length = ts.length
  | [], [], _, _, _ => rfl
  | t :: ts, d :: ds, env, env', e => by
    simp only [asgGs] at e
    cases q : asgG t d env with
    | none => simp [q] at e
    | some e1 => simp only [q, Option.bind_some] at e; simp [asgGs_length e]
  | [], _ :: _, _, _, e => by simp [asgGs] at e
  | _ :: _, [], _, _, e => by simp [asgGs] at e
/-- one target that is a place -/
def sPut (t : Tg) (m : EM) : SM := fun env => (m env).bind fun (c, e) => (asgG t c.fz e).bind fun e' => some (.nx e')
/-- a, b = a tuple or a list -/
def sUnp (ts : List Tg) (m : EM) : SM := fun env => (m env).bind fun (c, e) => match c.fz with
  | .tup ds => (asgGs ts ds e).bind fun e' => some (.nx e')
  | _ => none
def sUnpL (ts : List Tg) (m : EM) : SM := fun env => (m env).bind fun (c, e) => match c.fz with
  | .lst ds => (asgGs ts ds e).bind fun e' => some (.nx e')
  | _ => none
/-- a, b = x, y of names: no tuple is made -/
def sPar (is : List Nat) (ms : List Arg) : SM := fun env => (evA ms env).bind fun (ds, e) => (asg is ds e).bind fun e' => some (.nx e')
section
variable {X : Cx} {p : Nat} {e : Expr} {pos : Pos} {m : EM}
theorem put_fz {K : Fg} {σ : St} {env' : Env} {G H G1 H1 : Hp} {fp fp1 : Fp} {v : V} {c : C} {fr : List Addr} (con1 : Con K σ env' G1 H1 fp1) (r1 : RepC K G1 H1 v c fr) (n1 : ∀ a ∈ fr, ¬ U fp1 a) (s1 : Step G H (U fp) G1 H1 (fun a => U fp1 a ∨ a ∈ fr)) :
    Con K σ env' (addF G1 H1 fr) H1 fp1 ∧ Step G H (U fp) (addF G1 H1 fr) H1 (U fp1) :=
  ⟨con_fz2 con1 r1 n1, s1.trans ((Step.fz r1).weak (U' := fun _ => False) (W := fun a => U fp1 a ∨ a ∈ fr) (W' := U fp1) (fun a m => .inr m) fun a u => .inr (.inl (.inl u)))⟩
theorem s_put {tg : Expr} {t : Tg} (hp : t.ok p = true) (he : EOk X e m) (hg : PG X tg (gG X.K t)) (hs : swapsWithSole [tg] e pos.line X.env = pure false := by rfl) (hw : swappedStores [tg] e X.env = pure none := by rfl)
    (h1 : (assignEach [tg] X.env).map (·.2) = [assign tg X.env] := by rfl) : SOk X p (.Assign [tg] e pos) (sPut t m) := ps_mono (ps_asg he hg hs hw h1) fun D σ H ⟨env, G, fp, con, o, e1, k⟩ => by
  unfold sPut at e1
  cases q : m env with
  | none => simp [q] at e1
  | some y =>
    obtain ⟨c, e2⟩ := y
    simp only [q, Option.bind_some] at e1
    cases q2 : asgG t c.fz e2 with
    | none => simp [q2] at e1
    | some e3 =>
      simp [q2] at e1; subst e1
      refine ⟨env, G, fp, con, c, e2, q, fun v G' H' fp' fr c' r n s => ?_⟩
      obtain ⟨con2, s2⟩ := put_fz c' r n s
      exact asgG_run con2 r.fz q2 hp fun σ3 G3 H3 fp3 con3 s3 t3 => k σ3 G3 H3 fp3 con3 (s2.trans s3) t3
theorem s_unp {tgs : List Expr} {kk : Nat} {pos' : Pos} {ts : List Tg} (hp : (ts.all fun t => t.ok p) = true) (hc : X.calm = true) (he : EOk X e m) (hg : PGs X tgs (gGs X.K ts)) (hn : (assignEach tgs X.env).length = ts.length := by rfl) (hst : (assignEach tgs X.env).findIdx? (·.1) = none := by rfl)
    (hs : swapsWithSole [.Tuple tgs kk pos'] e pos.line X.env = pure false := by rfl) (hw : swappedStores [.Tuple tgs kk pos'] e X.env = pure none := by rfl)
    (h1 : (assignEach [.Tuple tgs kk pos'] X.env).map (·.2) = [assign (.Tuple tgs kk pos') X.env] := by rfl) : SOk X p (.Assign [.Tuple tgs kk pos'] e pos) (sUnp ts m) := ps_mono (ps_asg he (pg_tup hc hg hn hst) hs hw h1) fun D σ H ⟨env, G, fp, con, o, e1, k⟩ => by
  unfold sUnp at e1
  cases q : m env with
  | none => simp [q] at e1
  | some y =>
    obtain ⟨c, e2⟩ := y
    simp only [q, Option.bind_some] at e1
    split at e1
    · rename_i ds hf
      cases q2 : asgGs ts ds e2 with
      | none => simp [q2] at e1
      | some e3 =>
        simp [q2] at e1; subst e1
        refine ⟨env, G, fp, con, c, e2, q, fun v G' H' fp' fr c' r n s => ?_⟩
        obtain ⟨con2, s2⟩ := put_fz c' r n s
        have rf := r.fz
        rw [hf] at rf
        cases rf with
        | tup h2 rs => exact ⟨_, _, rfl, SqT.of (con2.sub _ _ h2), by rw [rs.length, asgGs_length q2], asgGs_run con2 rs q2 (fun t m => List.all_eq_true.mp hp t m) fun σ3 G3 H3 fp3 con3 s3 t3 => k σ3 G3 H3 fp3 con3 (s2.trans s3) t3⟩
    · cases e1
theorem s_unpL {tgs : List Expr} {kk : Nat} {pos' : Pos} {ts : List Tg} (hp : (ts.all fun t => t.ok p) = true) (hc : X.calm = true) (he : EOk X e m) (hg : PGs X tgs (gGs X.K ts)) (hn : (assignEach tgs X.env).length = ts.length := by rfl) (hst : (assignEach tgs X.env).findIdx? (·.1) = none := by rfl)
    (hs : swapsWithSole [.Tuple tgs kk pos'] e pos.line X.env = pure false := by rfl) (hw : swappedStores [.Tuple tgs kk pos'] e X.env = pure none := by rfl)
    (h1 : (assignEach [.Tuple tgs kk pos'] X.env).map (·.2) = [assign (.Tuple tgs kk pos') X.env] := by rfl) : SOk X p (.Assign [.Tuple tgs kk pos'] e pos) (sUnpL ts m) := ps_mono (ps_asg he (pg_unl hc hg hn hst) hs hw h1) fun D σ H ⟨env, G, fp, con, o, e1, k⟩ => by
  unfold sUnpL at e1
  cases q : m env with
  | none => simp [q] at e1
  | some y =>
    obtain ⟨c, e2⟩ := y
    simp only [q, Option.bind_some] at e1
    split at e1
    · rename_i ds hf
      cases q2 : asgGs ts ds e2 with
      | none => simp [q2] at e1
      | some e3 =>
        simp [q2] at e1; subst e1
        refine ⟨env, G, fp, con, c, e2, q, fun v G' H' fp' fr c' r n s => ?_⟩
        obtain ⟨con2, s2⟩ := put_fz c' r n s
        have rf := r.fz
        rw [hf] at rf
        cases rf with
        | lst h2 rs => exact ⟨_, _, rfl, SqL.of (con2.sub _ _ h2), by rw [rs.length, asgGs_length q2], asgGs_run con2 rs q2 (fun t m => List.all_eq_true.mp hp t m) fun σ3 G3 H3 fp3 con3 s3 t3 => k σ3 G3 H3 fp3 con3 (s2.trans s3) t3⟩
    · cases e1
theorem s_par {i j : Nat} {x y : Str} {a b : Expr} {ms : List Arg} {px py pt : Pos} {kt k2 pt2} (hpi : p ≤ i) (hpj : p ≤ j) (hc : X.calm = true) (hN : X.N.Nodup) (hi : X.N[i]? = some x) (hj : X.N[j]? = some y) (hij : i ≠ j)
    (hx : X.env.scope.names.lookup x = some .local) (hy : X.env.scope.names.lookup y = some .local) (ha : PA X [a, b] (tAr X.K ms)) (hw : swappedStores [.Tuple [.Name x px, .Name y py] kt pt] (.Tuple [a, b] k2 pt2) X.env = pure (some [x, y])) (hs : swapsWithSole [.Tuple [.Name x px, .Name y py] kt pt] (.Tuple [a, b] k2 pt2) pos.line X.env = pure false := by rfl) :
    SOk X p (.Assign [.Tuple [.Name x px, .Name y py] kt pt] (.Tuple [a, b] k2 pt2) pos) (sPar [i, j] ms) := ps_mono (ps_par hc hN hi hj hij hx hy (paa ha) hw hs) fun D σ H ⟨env, G, fp, con, o, e1, k⟩ => by
  unfold sPar at e1
  cases q : evA ms env with
  | none => simp [q] at e1
  | some y =>
    obtain ⟨ds, e2⟩ := y
    simp only [q, Option.bind_some] at e1
    cases q2 : asg [i, j] ds e2 with
    | none => simp [q2] at e1
    | some e3 =>
      simp [q2] at e1; subst e1
      refine ⟨env, G, fp, con, ds, e2, q, fun vs G' H' fp' c' r s => ?_⟩
      have z := asg_run (p := p) (Q := fun σ' H' => D.nx σ' H') c' r q2 (fun t m => by simp at m; rcases m with m | m <;> (subst m; assumption)) fun σ' fp2 con2 u2 t2 _ => k σ' G' H' fp2 con2 (s.weak (fun _ u => u) fun a u => .inl (u2 a u)) t2
      obtain ⟨v, r1, e1, z⟩ := z
      obtain ⟨w, r2, e2, z⟩ := z
      obtain ⟨e3, z⟩ := z
      subst e1 e2 e3
      exact ⟨v, w, rfl, z⟩
theorem s_par3 {i j l : Nat} {x y z : Str} {a b c : Expr} {ms : List Arg} {px py pz pt : Pos} {kt k2 pt2} (hpi : p ≤ i) (hpj : p ≤ j) (hpl : p ≤ l) (hc : X.calm = true) (hN : X.N.Nodup) (hi : X.N[i]? = some x) (hj : X.N[j]? = some y) (hl : X.N[l]? = some z) (hij : i ≠ j) (hil : i ≠ l) (hjl : j ≠ l)
    (hx : X.env.scope.names.lookup x = some .local) (hy : X.env.scope.names.lookup y = some .local) (hz : X.env.scope.names.lookup z = some .local) (ha : PA X [a, b, c] (tAr X.K ms)) (hw : swappedStores [.Tuple [.Name x px, .Name y py, .Name z pz] kt pt] (.Tuple [a, b, c] k2 pt2) X.env = pure (some [x, y, z])) (hs : swapsWithSole [.Tuple [.Name x px, .Name y py, .Name z pz] kt pt] (.Tuple [a, b, c] k2 pt2) pos.line X.env = pure false := by rfl) :
    SOk X p (.Assign [.Tuple [.Name x px, .Name y py, .Name z pz] kt pt] (.Tuple [a, b, c] k2 pt2) pos) (sPar [i, j, l] ms) := ps_mono (ps_par3 hc hN hi hj hl hij hil hjl hx hy hz (paa ha) hw hs) fun D σ H ⟨env, G, fp, con, o, e1, k⟩ => by
  unfold sPar at e1
  cases q : evA ms env with
  | none => simp [q] at e1
  | some y =>
    obtain ⟨ds, e2⟩ := y
    simp only [q, Option.bind_some] at e1
    cases q2 : asg [i, j, l] ds e2 with
    | none => simp [q2] at e1
    | some e3 =>
      simp [q2] at e1; subst e1
      refine ⟨env, G, fp, con, ds, e2, q, fun vs G' H' fp' c' r s => ?_⟩
      have z := asg_run (p := p) (Q := fun σ' H' => D.nx σ' H') c' r q2 (fun t m => by simp at m; rcases m with m | m | m <;> (subst m; assumption)) fun σ' fp2 con2 u2 t2 _ => k σ' G' H' fp2 con2 (s.weak (fun _ u => u) fun a u => .inl (u2 a u)) t2
      obtain ⟨v, r1, e1, z⟩ := z
      obtain ⟨w, r2, e2, z⟩ := z
      obtain ⟨w3, r3, e3, z⟩ := z
      obtain ⟨e4, z⟩ := z
      subst e1 e2 e3 e4
      exact ⟨v, w, w3, rfl, z⟩
theorem gg_nm {i : Nat} {x : Str} (hN : X.N.Nodup) (hi : X.N[i]? = some x) (hx : Loc X.env.scope x) (hf : X.fn x = true ∨ X.env.scope.names.lookup x = some .local := by first | exact .inl rfl | exact .inr rfl | assumption) : PG X (.Name x pos) (gG X.K (.nm i)) := pg_name hN hi hx hf
theorem gg_sb {i : Nat} {o' ix : Expr} {o : Opd} {k : Nat} (hr : Room k X.A) (ho : PE X o' (tVar i)) (hi : OOk X ix o)
    (ha : ∀ v, assign (.Subscript o' ix pos) X.env v = (do
      let ov ← holding [v] (eval o' X.env)
      let iv ← holding [v, ov] (eval ix X.env)
      standAt pos
      holding [v, ov, iv] (setItem ov iv v)
      release [v, ov, iv] []) := by intro _; rfl) : PG X (.Subscript o' ix pos) (gG X.K (.sb i o)) := pg_sub ho hi (set_A hr) ha
theorem ggs_nil : PGs X [] (gGs X.K []) := pgs_nil
theorem ggs_cons {e : Expr} {es : List Expr} {t : Tg} {ts : List Tg} (h1 : PG X e (gG X.K t)) (h2 : PGs X es (gGs X.K ts))
    (hs : (assignEach (e :: es) X.env).map (·.2) = assign e X.env :: (assignEach es X.env).map (·.2) := by rfl) : PGs X (e :: es) (gGs X.K (t :: ts)) := pgs_cons h1 h2 hs
end
end Fx
set_option Elab.async false
set_option linter.all false
set_option maxRecDepth 100000
set_option maxHeartbeats 4000000
noncomputable section
namespace Fx
open PySem L2

/-! ## dicts -/
def eDK : EM := fun env => some (.odk [], env)
def eDT : EM := fun env => some (.odt [], env)
section
variable {X : Cx} {pos : Pos}
theorem ok_dk : EOk X (.Dict [] [] pos) eDK := pe_mono pe_dnewK fun σ H Q ⟨env, G, fp, con, c, env', e1, k⟩ => by
  cases e1
  intro p hp
  exact k.end_ (W := fun _ => False) (fr := [p]) con ((Step.refl ..).weak (fun _ u => u) fun a u => u.elim .inl fun z => z.elim) (fun a z => z.elim) (Step.newH (o := .dK []) hp) (same_newH con.sub hp) (.odk (none_of_same con.sub hp) upd_same .nil)
theorem ok_dt : EOk X (.Dict [] [] pos) eDT := pe_mono pe_dnewT fun σ H Q ⟨env, G, fp, con, c, env', e1, k⟩ => by
  cases e1
  intro p hp
  exact k.end_ (W := fun _ => False) (fr := [p]) con ((Step.refl ..).weak (fun _ u => u) fun a u => u.elim .inl fun z => z.elim) (fun a z => z.elim) (Step.newH (o := .dT []) hp) (same_newH con.sub hp) (.odt (none_of_same con.sub hp) upd_same .nil)
/-- d.get(k, x), d a name -/
def eGet2 (i : Nat) (a b : EM) : EM := fun env => match env[i]? with
  | some (some c00) => (c00.vw.bind isDct).bind fun _ => (evA [.one a, .one b] env).bind fun (ds, e) => match ds, e[i]? with
    | [y, z], some (some c0) => c0.vw.bind fun d => (getK d y).bind fun o => some (.sh (o.getD z), e)
    | _, _ => none
  | _ => none
where isDct : D → Option Unit
  | .dk _ => some () | .dt _ => some () | _ => none
theorem isD_of {K : Fg} {G H : Hp} {x : V} {d : D} (s : Same G H) (r : RepV K G H x d) (h : eGet2.isDct d = some ()) : ∃ a, x = .ref a ∧ IsD H a := by
  cases d with
  | dk kvs => obtain ⟨a, xs, rfl, h1, _⟩ := r.dk_ s; exact ⟨a, rfl, .inl ⟨xs, .inl h1⟩⟩
  | dt kvs => obtain ⟨a, xs, rfl, h1, _⟩ := r.dt_ s; exact ⟨a, rfl, .inr ⟨xs, .inl h1⟩⟩
  | _ => cases h
theorem ok_get2 {o e f : Expr} {apos cpos : Pos} {i k : Nat} {a b : EM} (hr : Room k X.A) (ho : PE X o (tVar i)) (he : EOk X e a) (hf : EOk X f b) (m : M2 X o "get" apos e f cpos) : EOk X (.Call (.Attribute o "get" apos) [e, f] [] cpos) (eGet2 i a b) :=
  pe_mono (pe_dget2 (hu_of hr) ho he hf m) fun σ H Q ⟨env, G, fp, con, c, env', e1, k⟩ => by
    unfold eGet2 at e1
    split at e1
    · rename_i c00 q0
      obtain ⟨v0, hv0, rc0⟩ := con.rep i _ q0
      cases qv : c00.vw.bind eGet2.isDct with
      | none => simp [qv] at e1
      | some u =>
        simp only [qv, Option.bind_some] at e1
        cases qw : c00.vw with
        | none => simp [qw] at qv
        | some d00 =>
          simp only [qw, Option.bind_some] at qv
          obtain ⟨ad, ea, hd⟩ := isD_of con.sub (rc0.vw qw) qv
          cases q : evA [.one a, .one b] env with
          | none => simp [q] at e1
          | some y =>
            obtain ⟨ds, e2⟩ := y
            simp only [q, Option.bind_some] at e1
            split at e1
            · rename_i y z c0 q1
              cases q3 : c0.vw with
              | none => simp [q3] at e1
              | some d =>
                simp only [q3, Option.bind_some] at e1
                cases q4 : getK d y with
                | none => simp [q4] at e1
                | some ov =>
                  simp [q4] at e1
                  obtain ⟨rfl, rfl⟩ := e1
                  subst ea
                  refine ⟨_, hv0, ad, rfl, hd, ?_⟩
                  have w := args_run (Q := fun vs H3 => ∃ yv zv, vs = [yv, zv] ∧ ∃ o, DGet H3 ad yv o ∧ Q (o.getD zv) H3) [.one a, .one b] con q fun vs G1 H1 fp1 con1 r s => by
                    cases r with
                    | cons r1 r =>
                      cases r with
                      | cons r2 r =>
                        cases r
                        obtain ⟨v0', hv0', rc⟩ := con1.rep i _ q1
                        rw [hv0] at hv0'; cases hv0'
                        obtain ⟨a', ea', _, ov', g, h⟩ := getK_of con1.sub (rc.vw q3) (.sh r1) q4
                        cases ea'
                        refine ⟨_, _, rfl, ov', g, ?_⟩
                        rcases h with ⟨v, d', h1, h2, h3⟩ | ⟨h1, h2⟩
                        · subst h1 h2; exact k.sh con1 s h3
                        · subst h1 h2; exact k.sh con1 s r2
                  refine vk_mono_opd (.val a) (fun yv H1 h1 => vk_mono_opd (.val b) (fun zv H2 h2 => ?_) h1) w
                  obtain ⟨yv', zv', e', h⟩ := h2
                  cases e'
                  exact h
            · cases e1
    · cases e1
end

/-! ## lists of lists of one's own -/
section
variable {X : Cx} {pos : Pos}
/-- len of such a name -/
def eLen2 (i : Nat) : EM := fun env => match env[i]? with
  | some (some (.oll dss)) => some (.sh (.int dss.length), env)
  | some (some (.ol ds)) => some (.sh (.int ds.length), env)
  | _ => none
theorem inner_len {K : Fg} {G H : Hp} : ∀ {ls : List Addr} {dss : List (List D)}, Inner K G H ls dss → ls.length = dss.length
  | _, _, .nil => rfl
  | _, _, .cons _ _ _ i => by simp [inner_len i]
theorem ok_len2 {o : Expr} {i : Nat} {p : Pos} (hg : Gl X "len") (hm : X.mg "len" = none) (ho : PE X o (tVar i)) (hs : starEach [o] X.env = (false, eval o X.env) :: starEach [] X.env := by rfl) (hpl : (backTo pos (starEach [] X.env)).any (·.1) = false := by rfl) : EOk X (.Call (.Name "len" p) [o] [] pos) (eLen2 i) :=
  pe_mono (pe_callB call_len_seq hg hm PySem.boot_len (pa_cons ho pa_nil hs) (by decide) (by decide) hs hpl) fun σ H Q ⟨env, G, fp, con, c, env', e1, k⟩ => by
    unfold eLen2 at e1
    split at e1
    · rename_i dss q0
      cases e1
      obtain ⟨v0, hv0, r⟩ := con.rep i _ q0
      generalize fp i = fi at r
      cases r with
      | oll g h inn nd => exact ⟨_, hv0, _, _, rfl, .inl (SqL.of h), by rw [List.length_map, inner_len inn]; exact k.sh con (Step.refl ..) (.int _)⟩
    · rename_i ds q0
      cases e1
      obtain ⟨v0, hv0, r⟩ := con.rep i _ q0
      generalize fp i = fi at r
      cases r with
      | ol g h r => exact ⟨_, hv0, _, _, rfl, .inl (SqL.of h), by rw [r.length]; exact k.sh con (Step.refl ..) (.int _)⟩
    · cases e1
/-- name.append(a new list) -/
def eApp2 (i : Nat) (m : EM) : EM := fun env => match env[i]? with
  | some (some c00) => (seqC c00).bind fun _ => (m env).bind fun (c, e) => match c, e[i]? with
    | .ol ds, some (some c0) => (seqC c0).bind fun dss => if dss.length < lim then some (.sh .non, e.set i (some (.oll (dss ++ [ds])))) else none
    | _, _ => none
  | _ => none
where seqC : C → Option (List (List D))
  | .ol [] => some [] | .oll dss => some dss | _ => none
theorem seqC_of {K : Fg} {G H : Hp} {v : V} {c : C} {f : List Addr} {dss : List (List D)} (r : RepC K G H v c f) (e : eApp2.seqC c = some dss) : ∃ l ls, v = .ref l ∧ f = l :: ls ∧ G l = none ∧ H l = some (.lst (ls.map V.ref)) ∧ Inner K G H ls dss ∧ (l :: ls).Nodup := by
  cases r with
  | ol g h r =>
    rename_i ds
    cases ds with
    | nil => cases e; cases r; exact ⟨_, [], rfl, rfl, g, h, .nil, by simp⟩
    | cons => cases e
  | oll g h i n => cases e; exact ⟨_, _, rfl, rfl, g, h, i, n⟩
  | _ => cases e
theorem inner_snoc {K : Fg} {G H : Hp} {l : Addr} {xs : List V} {ds : List D} (g : G l = none) (h : H l = some (.lst xs)) (r : Reps K G xs ds) : ∀ {ls : List Addr} {dss : List (List D)}, Inner K G H ls dss → Inner K G H (ls ++ [l]) (dss ++ [ds])
  | _, _, .nil => .cons g h r .nil
  | _, _, .cons a b c i => .cons a b c (inner_snoc g h r i)
theorem ok_app2 {o e : Expr} {apos cpos : Pos} {i : Nat} {m : EM} (ho : PE X o (tVar i)) (he : EOk X e m)
    (hbase : attributeBase o "append" X.env (eval o X.env) = eval o X.env := by rfl)
    (hfew : ((backTo cpos (starEach [e] X.env)).all (fun x => !x.1) && (backToKw cpos (keywordEach [] X.env)).all (fun x => x.1.isSome)
      && decide (([e] : List Expr).length + ([] : List Keyword).length + (if ([] : List Keyword).isEmpty then 0 else 1) < 30)) = true := by rfl)
    (hline : (apos.endLine == cpos.line) = true := by rfl) (hs : starEach [e] X.env = (false, eval e X.env) :: starEach [] X.env := by rfl) (hplain : (backTo cpos (starEach [] X.env)).any (·.1) = false := by rfl) :
    EOk X (.Call (.Attribute o "append" apos) [e] [] cpos) (eApp2 i m) :=
  pe_mono (pe_bm PySem.F.plainAttrs_list PySem.F.slot_list_append PySem.F.type_list_append mt_append ho (pa_cons he pa_nil hs) hbase hfew hline hs hplain) fun σ H Q ⟨env, G, fp, con, c, env', e1, k⟩ => by
    unfold eApp2 at e1
    split at e1
    · rename_i c00 q0
      obtain ⟨v0, hv0, rc0⟩ := con.rep i _ q0
      cases qs : eApp2.seqC c00 with
      | none => simp [qs] at e1
      | some dss0 =>
        simp only [qs, Option.bind_some] at e1
        obtain ⟨l0, ls0, rfl, _, _, hl0, _, _⟩ := seqC_of rc0 qs
        cases q : m env with
        | none => simp [q] at e1
        | some y =>
          obtain ⟨c1, e2⟩ := y
          simp only [q, Option.bind_some] at e1
          split at e1
          · rename_i ds c0 q1
            cases qs1 : eApp2.seqC c0 with
            | none => simp [qs1] at e1
            | some dss =>
              simp only [qs1, Option.bind_some] at e1
              split at e1
              · rename_i hlen
                cases e1
                refine ⟨_, hv0, .inl ⟨rfl, _, SqL.of hl0⟩, env, G, fp, con, _, e2, q, fun v G1 H1 fp1 fr con1 r1 n1 s1 => ?_⟩
                obtain ⟨v0', hv0', rc⟩ := con1.rep i _ q1
                rw [hv0] at hv0'; cases hv0'
                obtain ⟨l, ls, ev, ef, g, hl, inn, nd⟩ := seqC_of rc qs1
                cases ev
                cases r1 with
                | @ol t xs _ gt ht rt =>
                  have ht0 : t ∉ l0 :: ls := fun z => n1 t (by simp) ⟨i, by rw [ef]; exact z⟩
                  refine ⟨l0, ls.map V.ref, .ref t, rfl, rfl, hl, by rw [List.length_map, inner_len inn, ← lim_eq]; exact hlen, ?_⟩
                  have el : ls.map V.ref ++ [V.ref t] = (ls ++ [t]).map V.ref := by simp
                  rw [el]
                  have sub : Same G1 (upd H1 l0 (.lst ((ls ++ [t]).map V.ref))) := fun a o e => by rw [upd_ne (fun z => by rw [z, g] at e; cases e)]; exact con1.sub a o e
                  have nl : ∀ a ∈ ls, a ≠ l0 := fun a m z => (List.nodup_cons.mp nd).1 (by rw [← z]; exact m)
                  have inn2 : Inner X.K G1 (upd H1 l0 (.lst ((ls ++ [t]).map V.ref))) (ls ++ [t]) (dss ++ [ds]) := by
                    refine inner_snoc gt (by rw [upd_ne (fun z => ht0 (by simp [z]))]; exact ht) rt ?_
                    exact inn.mono (Same.refl _) (fun a m => (inn.mem a m).1) fun a m o e => by rw [upd_ne (nl a m)]; exact e
                  have rnew : RepC X.K G1 (upd H1 l0 (.lst ((ls ++ [t]).map V.ref))) (.ref l0) (.oll (dss ++ [ds])) (l0 :: (ls ++ [t])) := by
                    refine .oll g upd_same inn2 ?_
                    rw [← List.cons_append]
                    rw [List.nodup_append]
                    refine ⟨nd, by simp, fun a ma b mb => ?_⟩
                    simp at mb
                    subst mb
                    exact fun z => ht0 (by rw [← z]; exact ma)
                  have hi : i < e2.length := (List.getElem?_eq_some_iff.mp q1).1
                  have stp : Step G1 H1 (fun a => a ∈ l0 :: ls ∨ a ∈ [t]) G1 (upd H1 l0 (.lst ((ls ++ [t]).map V.ref))) (fun a => a ∈ l0 :: (ls ++ [t])) :=
                    ⟨fun _ _ e => e, fun a o e n => by rw [upd_ne (fun z => n (.inl (by simp [z])))]; exact e, fun a o e => .inl e, fun a m => .inl (by simp at m ⊢; rcases m with m | m | m <;> simp [m])⟩
                  -- the state: slot i dropped, stepped, put
                  have hd : ∀ a, U (fp1.set i []) a → ¬ (a ∈ l0 :: ls ∨ a ∈ [t]) := fun a u m => by
                    obtain ⟨j, mj⟩ := u
                    by_cases hj : j = i
                    · subst hj; rw [Fp.set_same] at mj; cases mj
                    · rw [Fp.set_ne hj] at mj
                      rcases m with m | m
                      · exact hj (con1.dis j i a mj (by rw [ef]; exact m))
                      · simp at m; subst m; exact n1 a (by simp) ⟨j, mj⟩
                  have con2 := (con1.drop (i := i) (σ' := σ) rfl fun _ _ => rfl).step stp hd sub
                  have con3 := con2.put (i := i) (by simpa using hi) rnew fun a m j hj z => by
                    rw [Fp.set_ne hj] at z
                    have m' : a ∈ l0 :: ls ∨ a ∈ [t] := by simp at m ⊢; rcases m with m | m | m <;> simp [m]
                    exact hd a ⟨j, by rw [Fp.set_ne hj]; exact z⟩ m'
                  have es : σ.set i (some (V.ref l0)) = σ := by
                    apply List.ext_getElem?
                    intro j
                    by_cases q : j = i
                    · subst q; rw [hv0]; exact List.getElem?_set_self (by rw [con1.len]; exact hi)
                    · rw [List.getElem?_set_ne (fun z => q z.symm)]
                  have efp : Fp.set (Fp.set fp1 i []) i (l0 :: (ls ++ [t])) = Fp.set fp1 i (l0 :: (ls ++ [t])) := by funext j; unfold Fp.set; split <;> rfl
                  rw [es, efp, List.set_set] at con3
                  refine k .non _ _ _ [] con3 (.sh .non) (fun a m => by cases m) (s1.trans (stp.weak (fun a m => m.elim (fun z => .inl ⟨i, by rw [ef]; exact z⟩) .inr) fun a u => ?_))
                  rcases u with u | u
                  · rcases U_set u with z | z
                    · exact .inr (.inl (.inl z))
                    · exact .inl z
                  · cases u
              · cases e1
          · cases e1
    · cases e1
/-- name[ix].append(v) -/
def eApp3 (i : Nat) (o : Opd) (m : EM) : EM := fun env => match env[i]? with
  | some (some (.oll _)) => (evI o env).bind fun (n, e) => match e[i]? with
    | some (some (.oll dss)) => (ixN dss.length n).bind fun j => (m (e.set i none)).bind fun (c, e2) => (dss[j]?).bind fun ds => if ds.length < lim then some (.sh .non, e2.set i (some (.oll (dss.set j (ds ++ [c.fz]))))) else none
    | _ => none
  | _ => none
theorem inner_at {K : Fg} {G H : Hp} : ∀ {ls : List Addr} {dss : List (List D)} {j : Nat} {ds : List D}, Inner K G H ls dss → dss[j]? = some ds → ∃ l xs, ls[j]? = some l ∧ G l = none ∧ H l = some (.lst xs) ∧ Reps K G xs ds
  | _, _, _, _, .nil, e => by simp at e
  | _, _, 0, _, .cons g h r _, e => by simp at e; subst e; exact ⟨_, _, rfl, g, h, r⟩
  | _, _, j + 1, _, .cons _ _ _ i, e => by
    obtain ⟨l, xs, a, b⟩ := inner_at (j := j) i (by simpa using e)
    exact ⟨l, xs, by simpa using a, b⟩
theorem inner_set {K : Fg} {G H : Hp} {ys : List V} {es : List D} (ry : Reps K G ys es) : ∀ {ls : List Addr} {dss : List (List D)} {j : Nat} {l : Addr}, Inner K G H ls dss → ls.Nodup → ls[j]? = some l → Inner K G (upd H l (.lst ys)) ls (dss.set j es)
  | _, _, _, _, .nil, _, e => by simp at e
  | _, _, 0, _, .cons g h r i, nd, e => by
    simp at e; subst e
    exact .cons g upd_same ry (i.mono (Same.refl _) (fun a m => (i.mem a m).1) fun a m o q => by rw [upd_ne (fun z => (List.nodup_cons.mp nd).1 (by rw [← z]; exact m))]; exact q)
  | l0 :: ls, _, j + 1, l, .cons g h r i, nd, e => by
    have e' : ls[j]? = some l := by simpa using e
    have hm : l ∈ ls := List.mem_of_getElem? e'
    refine .cons g (by rw [upd_ne (fun z => (List.nodup_cons.mp nd).1 (by rw [z]; exact hm))]; exact h) r (inner_set ry i (List.nodup_cons.mp nd).2 e')
theorem ok_app3 {b ix e : Expr} {spos apos cpos : Pos} {i : Nat} {o : Opd} {m : EM} (ho : PE X b (tVar i)) (hx : OOk X ix o) (he : EOk X e m) (hs0 : PlainIx ix := by intro _ _; rfl)
    (hbase : attributeBase (.Subscript b ix spos) "append" X.env (eval (.Subscript b ix spos) X.env) = eval (.Subscript b ix spos) X.env := by rfl)
    (hfew : ((backTo cpos (starEach [e] X.env)).all (fun x => !x.1) && (backToKw cpos (keywordEach [] X.env)).all (fun x => x.1.isSome)
      && decide (([e] : List Expr).length + ([] : List Keyword).length + (if ([] : List Keyword).isEmpty then 0 else 1) < 30)) = true := by rfl)
    (hline : (apos.endLine == cpos.line) = true := by rfl) (hs : starEach [e] X.env = (false, eval e X.env) :: starEach [] X.env := by rfl) (hplain : (backTo cpos (starEach [] X.env)).any (·.1) = false := by rfl) :
    EOk X (.Call (.Attribute (.Subscript b ix spos) "append" apos) [e] [] cpos) (eApp3 i o m) :=
  pe_mono (pe_bm PySem.F.plainAttrs_list PySem.F.slot_list_append PySem.F.type_list_append mt_append (L2.pe_ix ix_list ho hx hs0) (pa_cons he pa_nil hs) hbase hfew hline hs hplain) fun σ H Q ⟨env, G, fp, con, c, env', e1, k⟩ => by
    unfold eApp3 at e1
    split at e1
    · rename_i dss00 q0
      obtain ⟨v0, hv0, _⟩ := con.rep i _ q0
      cases q : evI o env with
      | none => simp [q] at e1
      | some y =>
        obtain ⟨n, e2⟩ := y
        simp only [q, Option.bind_some] at e1
        split at e1
        · rename_i dss q1
          cases qj : ixN dss.length n with
          | none => simp [qj] at e1
          | some j =>
            simp only [qj, Option.bind_some] at e1
            cases qm : m (e2.set i none) with
            | none => simp [qm] at e1
            | some y =>
              obtain ⟨c1, e3⟩ := y
              simp only [qm, Option.bind_some] at e1
              cases qd : dss[j]? with
              | none => simp [qd] at e1
              | some ds =>
                simp only [qd, Option.bind_some] at e1
                split at e1
                · rename_i hlen
                  cases e1
                  refine ⟨v0, hv0, evI_run con q fun G1 H1 fp1 con1 s1 => ?_⟩
                  obtain ⟨v0', hv0', rc⟩ := con1.rep i _ q1
                  rw [hv0] at hv0'; cases hv0'
                  generalize hf : fp1 i = fi at rc
                  cases rc with
                  | @oll l0 ls _ g hl inn nd =>
                    obtain ⟨lj, xs, elj, glj, hlj, rlj⟩ := inner_at inn qd
                    have hat : atI (ls.map V.ref) n = some (.ref lj) := by
                      unfold atI
                      rw [List.length_map, inner_len inn, qj]
                      show (ls.map V.ref)[j]? = _
                      rw [List.getElem?_map, elj]; rfl
                    refine ⟨l0, _, n, .ref lj, rfl, rfl, SqL.of hl, hat, .inl ⟨rfl, xs, SqL.of hlj⟩, ?_⟩
                    have rc0 : RepC X.K G1 H1 (.ref l0) (.oll dss) (l0 :: ls) := .oll g hl inn nd
                    have hi : i < e2.length := (List.getElem?_eq_some_iff.mp q1).1
                    have con1' := con1.drop (i := i) (σ' := σ) rfl fun _ _ => rfl
                    have nU : ∀ a ∈ l0 :: ls, ¬ U (fp1.set i []) a := fun a m u => by
                      obtain ⟨jj, mj⟩ := u
                      by_cases hj : jj = i
                      · subst hj; rw [Fp.set_same] at mj; cases mj
                      · rw [Fp.set_ne hj] at mj; exact hj (con1.dis jj i a mj (by rw [hf]; exact m))
                    refine ⟨_, G1, _, con1', c1, e3, qm, fun v G2 H2 fp2 fr con2 r2 n2 s2 => ?_⟩
                    have rc2 := rc0.step s2 nU
                    have nU2 := rc0.out s2 nU
                    have con3 := con_fz2 con2 r2 n2
                    have sf := Step.fz r2
                    have rc3 := rc2.step sf fun a m z => nU2 a m (.inr z)
                    have rx := r2.fz
                    -- the inner list at H2 is still lj
                    generalize hfi : l0 :: ls = fi at rc3 nU2
                    cases rc3 with
                    | @oll l0' ls' _ g3 hl3 inn3 nd3 =>
                      cases hfi
                      obtain ⟨lj', xs3, elj', glj', hlj', rlj'⟩ := inner_at inn3 qd
                      rw [elj] at elj'; cases elj'
                      have ry := rlj'.append (.cons rx .nil)
                      have nl : l0 ≠ lj := fun z => (List.nodup_cons.mp nd).1 (by rw [z]; exact List.mem_of_getElem? elj)
                      have sub3 : Same (addF G2 H2 fr) H2 := addF_sub con2.sub
                      have sub : Same (addF G2 H2 fr) (upd H2 lj (.lst (xs3 ++ [v]))) := fun a o e => by rw [upd_ne (fun z => by rw [z, glj'] at e; cases e)]; exact sub3 a o e
                      refine ⟨lj, xs3, v, rfl, rfl, hlj', by rw [rlj'.length, ← lim_eq]; exact hlen, ?_⟩
                      have rnew : RepC X.K (addF G2 H2 fr) (upd H2 lj (.lst (xs3 ++ [v]))) (.ref l0) (.oll (dss.set j (ds ++ [c1.fz]))) (l0 :: ls) :=
                        .oll g3 (by rw [upd_ne nl]; exact hl3) (inner_set ry inn3 (List.nodup_cons.mp nd).2 elj) nd
                      have mlj : lj ∈ l0 :: ls := by simp [List.mem_of_getElem? elj]
                      have stp : Step (addF G2 H2 fr) H2 (fun a => a ∈ l0 :: ls) (addF G2 H2 fr) (upd H2 lj (.lst (xs3 ++ [v]))) (fun a => a ∈ l0 :: ls) :=
                        ⟨fun _ _ e => e, fun a o e n => by rw [upd_ne (fun z => n (by rw [z]; exact mlj))]; exact e, fun a o e => .inl e, fun a m => .inl m⟩
                      have con4 := con3.step stp (fun a u m => nU2 a m (.inl u)) sub
                      have hi3 : i < e3.length := by
                        have a1 := con2.len
                        have a2 := con1'.len
                        rw [← a1, a2]; simpa using hi
                      have con5 := con4.put (i := i) hi3 rnew fun a m jj hj z => nU2 a m (.inl ⟨jj, z⟩)
                      have es : σ.set i (some (V.ref l0)) = σ := by
                        apply List.ext_getElem?
                        intro jj
                        by_cases q : jj = i
                        · subst q; rw [hv0]; exact List.getElem?_set_self (by rw [con1.len]; exact hi)
                        · rw [List.getElem?_set_ne (fun z => q z.symm)]
                      rw [es] at con5
                      refine k .non _ _ _ [] con5 (.sh .non) (fun a m => by cases m) (s1.trans (?_ : Step G1 H1 (U fp1) _ _ _))
                      have b1 : Step G1 H1 (U fp1) G2 H2 (fun a => U fp2 a ∨ a ∈ fr ∨ a ∈ l0 :: ls) := s2.weak (fun a u => by
                        rcases U_set u with z | z
                        · exact z
                        · cases z) fun a u => by
                        rcases u with u | u | u
                        · exact .inl (.inl u)
                        · exact .inl (.inr u)
                        · exact .inr (.inl ⟨i, by rw [hf]; exact u⟩)
                      have b2 : Step G2 H2 (fun a => U fp2 a ∨ a ∈ fr ∨ a ∈ l0 :: ls) (addF G2 H2 fr) H2 (fun a => U fp2 a ∨ a ∈ fr ∨ a ∈ l0 :: ls) := sf.weak (fun _ z => .inr (.inl z)) fun a u => .inr (.inl u)
                      have b3 : Step (addF G2 H2 fr) H2 (fun a => U fp2 a ∨ a ∈ fr ∨ a ∈ l0 :: ls) (addF G2 H2 fr) (upd H2 lj (.lst (xs3 ++ [v]))) (fun a => U (Fp.set fp2 i (l0 :: ls)) a ∨ a ∈ ([] : List Addr)) := stp.weak (fun _ z => .inr (.inr z)) fun a u => by
                        rcases u with u | u
                        · rcases U_set u with z | z
                          · exact .inr (.inl (.inl z))
                          · exact .inl z
                        · cases u
                      exact (b1.trans b2).trans b3
                · cases e1
        · cases e1
    · cases e1
end

/-! ## x op= e -/
def sAug (i : Nat) (g : Int → Int → Int) (m : EM) : SM := fun env => match env[i]? with
  | some (some (.sh (.int a))) => match m env with
    | some (.sh (.int b), e) => if i < e.length then some (.nx (e.set i (some (.sh (.int (g a b)))))) else none
    | _ => none
  | _ => none
/-- name[ix] op= e, the name a list -/
def sAugIx (i : Nat) (o : Opd) (g : Int → Int → Int) (m : EM) : SM := fun env => match env[i]? with
  | some (some (.ol _)) => (evI o env).bind fun (n, e) => match e[i]? with
    | some (some (.ol ds)) => match atI ds n, m e with
      | some (.int a), some (.sh (.int b), e2) => match e2[i]? with
        | some (some (.ol ds2)) => (ixN ds2.length n).bind fun j => some (.nx (e2.set i (some (.ol (ds2.set j (.int (g a b)))))))
        | _ => none
      | _, _ => none
    | _ => none
  | _ => none
section
variable {X : Cx} {p : Nat} {pos : Pos}
theorem s_aug {i : Nat} {x : Str} {e : Expr} {op : Operator} {g : Int → Int → Int} {pos' : Pos} {m : EM} (hp : p ≤ i) (he : EOk X e m) (hN : X.N.Nodup) (hi : X.N[i]? = some x) (hx : Loc X.env.scope x) (ho : PIp X op (ipI g)) (hf : X.fn x = true ∨ X.env.scope.names.lookup x = some .local := by first | exact .inl rfl | exact .inr rfl | assumption) :
    SOk X p (.AugAssign (.Name x pos') op e pos) (sAug i g m) := ps_mono (ps_aug hN hi hx he ho hf) fun D σ H ⟨env, G, fp, con, o, e1, k⟩ => by
  unfold sAug at e1
  split at e1
  · rename_i a q0
    obtain ⟨v0, hv0, r0⟩ := con.rep i _ q0
    split at e1
    · rename_i b e2 q
      split at e1
      · rename_i hl
        cases e1
        have r0 := r0.of_sh.1
        cases r0
        refine ⟨_, hv0, env, G, fp, con, _, e2, q, fun v G' H' fp' fr c' r n s => ?_⟩
        have r := r.of_sh.1
        cases r
        exact ⟨a, b, rfl, rfl, k _ G' H' _ (con_sh c' hl (.int (g a b))) (s.weak (fun _ u => u) fun a u => .inl (.inl (U_set_nil u))) (take_set hp)⟩
      · cases e1
    · cases e1
  · cases e1
def rGetL (K : Fg) : V → V → Hp → VK → Prop := rIxL K
theorem get_list : PGet X (rGetL X.K) := by
  intro pins s σ H o i ov iv Q I ro ri h
  obtain ⟨p, xs, n, z, rfl, rfl, hq, he, q⟩ := h
  cases ro
  obtain ⟨t, rfl⟩ := ri
  obtain ⟨its, r, pl, hz⟩ := I.list hq
  obtain ⟨j, h1, h2, h3, h4, h5⟩ := atI_get he
  obtain ⟨w, ew, rw'⟩ := r.get h2
  have hl := r.length
  have hn := line63
  have fin : EP X pins σ Q w s := ⟨z, H, I, rw', q⟩
  by_cases h0 : 0 ≤ n
  · have hj : n.toNat = j := by
      rw [seqIndex_of h0 h5] at h1
      exact Option.some.inj h1
    exact wpAny_getItem_list pl.isList h0 (by omega) (by rw [hj]; simpa using ew) fin
  · have hj : (n + (its.toArray.size : Int)).toNat = j := by
      rw [seqIndex_neg (by omega) h4] at h1
      rw [List.size_toArray, ← hl]
      exact Option.some.inj h1
    exact wpAny_getItem_list_neg pl.isList (by omega) (by rw [List.size_toArray] <;> omega) (by omega) (by rw [hj]; simpa using ew) fin
theorem s_augIx {i : Nat} {b ix e : Expr} {o : Opd} {op : Operator} {g : Int → Int → Int} {tpos : Pos} {m : EM} (hb : PE X b (tVar i)) (hx : OOk X ix o) (he : EOk X e m) (ho : PIp X op (ipI g))
    (ha : ∀ ov iv new, augStore ix ov iv new = (do holding [new, ov, iv] (setItem ov iv new); release [new, ov, iv] []; pure .next) := by intros; rfl) : SOk X p (.AugAssign (.Subscript b ix tpos) op e pos) (sAugIx i o g m) := ps_mono (ps_augS hb hx get_list he ho set_list ha) fun D σ H ⟨env, G, fp, con, oo, e1, k⟩ => by
  unfold sAugIx at e1
  split at e1
  · rename_i ds0 q0
    obtain ⟨v0, hv0, _⟩ := con.rep i _ q0
    cases q : evI o env with
    | none => simp [q] at e1
    | some y =>
      obtain ⟨n, e2⟩ := y
      simp only [q, Option.bind_some] at e1
      split at e1
      · rename_i ds q1
        split at e1
        · rename_i a bb e3 qa qm
          split at e1
          · rename_i ds2 q2
            cases qj : ixN ds2.length n with
            | none => simp [qj] at e1
            | some j =>
              simp [qj] at e1; subst e1
              refine ⟨v0, hv0, evI_run con q fun G1 H1 fp1 con1 s1 => ?_⟩
              obtain ⟨v0', hv0', rc⟩ := con1.rep i _ q1
              rw [hv0] at hv0'; cases hv0'
              generalize fp1 i = fi at rc
              cases rc with
              | @ol la xs0 _ g1 hl r1 =>
                obtain ⟨v, ev, rv⟩ := r1.at_ qa
                cases rv
                refine ⟨_, _, n, _, rfl, rfl, SqL.of hl, ev, e2, G1, fp1, con1, _, e3, qm, fun w G2 H2 fp2 fr con2 r2 n2 s2 => ?_⟩
                have r2 := r2.of_sh.1
                cases r2
                refine ⟨a, bb, rfl, rfl, ?_⟩
                obtain ⟨v0'', hv0'', rc2⟩ := con2.rep i _ q2
                rw [hv0] at hv0''; cases hv0''
                have h2 : RepC X.K G2 H2 (.ref _) (.ol ds2) (fp2 i) := rc2
                generalize hf : fp2 i = fi at rc2
                cases rc2 with
                | @ol _ xs _ g2 hl2 r3 =>
                  have sub : Same G2 (upd H2 la (.lst (xs.set j (.int (g a bb))))) := fun a o e => by rw [upd_ne (fun z => by rw [z, g2] at e; cases e)]; exact con2.sub a o e
                  have stp : Step G2 H2 (fun a => a ∈ fp2 i) G2 (upd H2 la (.lst (xs.set j (.int (g a bb))))) (fun a => a ∈ [la] ∨ a ∈ ([] : List Addr)) := by
                    rw [hf]
                    exact ⟨fun _ _ e => e, fun a o e n => by rw [upd_ne (fun z => n (by simp [z]))]; exact e, fun a o e => .inl e, fun a m => .inl (by simpa using m)⟩
                  obtain ⟨fp3, con3, _, s3⟩ := con_mut con2 q2 hv0 sub (.ol g2 upd_same (r3.set (.int (g a bb)) j)) (fun a m => by cases m) stp
                  refine ⟨la, xs, n, j, rfl, rfl, hl2, by rw [r3.length]; exact qj, k σ G2 _ fp3 con3 ((s1.trans (weakT s2)).trans (s3.weak (fun _ u => u) fun a u => .inl (.inl u))) rfl⟩
          · cases e1
        · cases e1
      · cases e1
  · cases e1
end
end Fx
set_option Elab.async false
set_option linter.all false
set_option maxRecDepth 100000
set_option maxHeartbeats 4000000
noncomputable section
namespace Fx
open PySem PySem.Spec L2
open PyProof.Rows (boot_zip boot_enumerate boot_list args_cons args_nil Call_)

/-! ## sources of zip and enumerate: lists, tuples, texts -/
inductive Kd where
  | L (a : Addr) | T (a : Addr) | S (x : Str)
def Kd.v : Kd → V
  | .L a => .ref a | .T a => .ref a | .S x => .str x
def signs (x : Str) : List V := x.cps.toList.map fun c => V.str ⟨#[c]⟩
def Kd.src (K : Fg) (H : Hp) (k : Kd) (xs : List V) : Prop := match k with
  | .L a => SqL K H a xs | .T a => SqT K H a xs | .S x => xs = signs x
def Kd.at_ (h : Heap) (j i : Nat) : Kd → Prop
  | .L a => h.IsListIter j a i | .T a => h.IsTupleIter j a i | .S x => ∃ t, h.IsStrIter j (strIterType x) x t i
def Kd.fps (j : Addr) : Kd → List Addr
  | .L a => [j, a] | .T a => [j, a] | .S _ => [j]
def Kd.lt (n : Nat) : Kd → Prop
  | .L a => a < n | .T a => a < n | .S _ => True
theorem Kd.obj {k : Kd} {h : Heap} {j i : Nat} (st : k.at_ h j i) : ∃ o, h.get? j = some o ∧ ∀ v, o.data ≠ .cell v := by
  cases k with
  | L a => obtain ⟨o, e, _, d⟩ := st; exact ⟨o, e, fun v q => by rw [d] at q; cases q⟩
  | T a => obtain ⟨o, e, _, d⟩ := st; exact ⟨o, e, fun v q => by rw [d] at q; cases q⟩
  | S x => obtain ⟨t, o, e, _, d⟩ := st; exact ⟨o, e, fun v q => by rw [d] at q; cases q⟩
theorem Kd.keep {k : Kd} {h h' : Heap} {j i : Nat} (st : k.at_ h j i) (e : ∀ o, h.get? j = some o → h'.get? j = some o) : k.at_ h' j i := by
  cases k with
  | L a => obtain ⟨o, z, r⟩ := st; exact ⟨o, e o z, r⟩
  | T a => obtain ⟨o, z, r⟩ := st; exact ⟨o, e o z, r⟩
  | S x => obtain ⟨t, o, z, r⟩ := st; exact ⟨t, o, e o z, r⟩
theorem valsR : ∀ {xs : List V} {us : List Value} {i : Nat} {u : Value}, Vals xs us → us[i]? = some u → ∃ x, xs[i]? = some x ∧ RelV x u
  | _, _, _, _, .nil, e => by simp at e
  | _, _, 0, _, .cons r _, e => by simp at e; subst e; exact ⟨_, rfl, r⟩
  | _, _, i + 1, u, .cons _ r, e => by
    obtain ⟨x, h1, h2⟩ := valsR (i := i) r (by simpa using e)
    exact ⟨x, by simpa using h1, h2⟩
section
variable {X : Cx} {pins : List (Addr × Obj)} {σ : St} {H : Hp} {s : Shared}
theorem Kd.src_lt {k : Kd} {xs : List V} (I : Inv X pins σ H s) (h : k.src X.K H xs) : k.lt s.heap.objs.size := by
  cases k with
  | L a => obtain ⟨its, rv, p, _⟩ := I.list h; exact p.lt
  | T a => obtain ⟨its, rv, p, _⟩ := I.tuple h; obtain ⟨o, e, _⟩ := p; exact Heap.lt_size e
  | S x => trivial
theorem Kd.src_inj {k : Kd} {xs ys : List V} (I : Inv X pins σ H s) (h : k.src X.K H xs) (h' : k.src X.K H ys) : xs = ys := by
  cases k with
  | L a => exact I.list_inj h h'
  | T a => exact I.tuple_inj h h'
  | S x => exact Eq.trans h (Eq.symm h')
theorem Kd.draws {k : Kd} {xs : List V} {j i : Nat} {w : World} {A : Around} {P : Program} (I : Inv X pins σ H s) (h : k.src X.K H xs) (hj : ∀ a, (k = .L a ∨ k = .T a) → a ≠ j) (hh : A.handled = none) (st : k.at_ s.heap j i) :
    ∃ (Pr : Nat → Value → Prop) (St : Nat → Heap → Prop), Draws P w A j (k.fps j) xs.length Pr St ∧ St i s.heap ∧ (∀ i h, St i h → k.at_ h j i) ∧ ∀ i v, Pr i v → ∃ y, xs[i]? = some y ∧ RelV y v := by
  cases k with
  | L a =>
    obtain ⟨its, rv, p, _⟩ := I.list h
    have hl : its.toArray.size = xs.length := by simp [rv.length]
    refine ⟨_, _, hl ▸ Draws.list hh j a (hj a (.inl rfl)) its.toArray, ⟨st, p.isList⟩, fun i h z => z.1, fun i v z => ?_⟩
    have z : its[i]? = some v := by simpa using z
    exact valsR rv z
  | T a =>
    obtain ⟨its, rv, p, _⟩ := I.tuple h
    have hl : its.toArray.size = xs.length := by simp [rv.length]
    refine ⟨_, _, hl ▸ Draws.tuple hh j a (hj a (.inr rfl)) its.toArray, ⟨st, p⟩, fun i h z => z.1, fun i v z => ?_⟩
    have z : its[i]? = some v := by simpa using z
    exact valsR rv z
  | S x =>
    have h : xs = signs x := h
    subst h
    obtain ⟨t, st⟩ := st
    have hl : x.cps.size = (signs x).length := by simp [signs]
    refine ⟨_, _, hl ▸ Draws.text hh j x t, st, fun i h z => ⟨t, z⟩, fun i v z => ?_⟩
    obtain ⟨c, u, e1, e2⟩ := z
    subst e2
    exact ⟨.str ⟨#[c]⟩, by simp [signs, e1], u, rfl⟩
theorem Kd.begins {k : Kd} {xs : List V} {u : Value} (I : Inv X pins σ H s) (h : k.src X.K H xs) (r : RelV k.v u) : ∃ (o : Obj) (Hc : Heap → Prop), Begins u o Hc ∧ Hc s.heap ∧ ∀ (h' : Heap) (j : Addr), h'.get? j = some o → k.at_ h' j 0 := by
  cases k with
  | L a =>
    obtain ⟨its, rv, p, _⟩ := I.list h
    cases r
    exact ⟨_, _, begins_list a its.toArray, p.isList, fun h' j e => ⟨_, e, rfl, rfl⟩⟩
  | T a =>
    obtain ⟨its, rv, p, _⟩ := I.tuple h
    cases r
    exact ⟨_, _, begins_tuple a its.toArray, p, fun h' j e => ⟨_, e, rfl, rfl⟩⟩
  | S x =>
    obtain ⟨t, rfl⟩ := r
    exact ⟨_, _, begins_text x t, trivial, fun h' j e => ⟨t, _, e, rfl, rfl⟩⟩
end

theorem ne_nat {a b : Addr} (h : @Ne Nat a b) : a ≠ b := h
theorem zip_sep {k1 k2 : Kd} {n : Nat} (h1 : k1.lt n) (h2 : k2.lt n) : ZipSep2 (n + 4) (n + 2) (n + 3) n (n + 1) (k1.fps n) (k2.fps (n + 1)) := by
  have m1 : ∀ c : Nat, @Membership.mem Addr _ _ (k1.fps n) c → @LE.le Nat _ c n := fun c m => by
    cases k1 <;> simp only [Kd.fps, Kd.lt, List.mem_cons, List.not_mem_nil, or_false] at * <;> (try rcases m with m | m) <;> subst_vars <;> first | exact Nat.le_refl _ | exact Nat.le_of_lt h1
  have m2 : ∀ c : Nat, @Membership.mem Addr _ _ (k2.fps (n + 1)) c → @Eq Nat c (n + 1) ∨ @LT.lt Nat _ c n := fun c m => by
    cases k2 <;> simp only [Kd.fps, Kd.lt, List.mem_cons, List.not_mem_nil, or_false] at * <;> (try rcases m with m | m) <;> subst_vars <;> first | exact .inl rfl | exact .inr h2
  have g1 : n ∈ k1.fps n := by cases k1 <;> simp [Kd.fps]
  have g2 : n + 1 ∈ k2.fps (n + 1) := by cases k2 <;> simp [Kd.fps]
  exact ⟨ne_nat (by omega), ne_nat (by omega), ne_nat (by omega), ne_nat (by omega), g1, fun m => absurd (m1 _ m) (by omega), fun m => absurd (m1 _ m) (by omega), ne_nat (by omega), g2,
    fun m => (m2 _ m).elim (fun z : (n + 4 : Nat) = n + 1 => absurd z (by omega)) fun z => absurd z (by omega), fun m => (m2 _ m).elim (fun z : (n + 3 : Nat) = n + 1 => absurd z (by omega)) fun z => absurd z (by omega),
    fun m => (m2 _ m).elim (fun z : (n : Nat) = n + 1 => absurd z (by omega)) fun z => absurd z (Nat.lt_irrefl _), fun m => absurd (m1 _ m) (by omega)⟩
/-- zip of two sources, the items in new pairs -/
def ItG (K : Fg) (k1 k2 : Kd) : It :=
  ⟨fun i H => ∃ (xs ys : List V) (x y : V), k1.src K H xs ∧ k2.src K H ys ∧ xs[i]? = some x ∧ ys[i]? = some y,
    fun i H v H' => ∃ T x y, v = .ref T ∧ H T = none ∧ H' = upd H T (.tup [x, y]) ∧ (∀ xs, k1.src K H xs → xs[i]? = some x) ∧ ∀ ys, k2.src K H ys → ys[i]? = some y,
    fun i H => ∃ xs ys : List V, k1.src K H xs ∧ k2.src K H ys ∧ i ≤ xs.length ∧ i ≤ ys.length ∧ (i = xs.length ∨ i = ys.length)⟩
structure ZAt (k1 k2 : Kd) (n i : Nat) (h : Heap) : Prop where
  lt1 : k1.lt n
  lt2 : k2.lt n
  z : IsZip h (n + 4) (n + 2) (n + 3) .none
  TI : IsTupOf2 h (n + 2) (.ref n) (.ref (n + 1))
  TO : ∃ x y, IsTupOf2 h (n + 3) x y
  a1 : k1.at_ h n i
  a2 : k2.at_ h (n + 1) i
def zfp (n : Nat) : List Addr := [n + 4, n + 2, n + 3, n, n + 1]
theorem mem_zfp {n c : Nat} (h : c ∈ zfp n) : c = n + 4 ∨ c = n + 2 ∨ c = n + 3 ∨ c = n ∨ c = n + 1 := by simpa [zfp] using h
theorem ZAt.lt {k1 k2 : Kd} {n i : Nat} {h : Heap} (Z : ZAt k1 k2 n i h) {c : Addr} (m : c ∈ zfp n) : c < h.objs.size := by
  obtain ⟨x, y, hTO⟩ := Z.TO
  rcases mem_zfp m with q | q | q | q | q
  · rw [q]; exact Heap.lt_size Z.z
  · rw [q]; exact Heap.lt_size Z.TI
  · rw [q]; exact Heap.lt_size hTO
  · rw [q]; obtain ⟨_, e, _⟩ := Kd.obj Z.a1; exact Heap.lt_size e
  · rw [q]; obtain ⟨_, e, _⟩ := Kd.obj Z.a2; exact Heap.lt_size e
theorem apart1 {k : Kd} {n j : Nat} (h : k.lt n) (hj : n ≤ j) : ∀ a, (k = .L a ∨ k = .T a) → a ≠ j := fun a e => by
  rcases e with e | e
  · subst e; exact Nat.ne_of_lt (Nat.lt_of_lt_of_le h hj)
  · subst e; exact Nat.ne_of_lt (Nat.lt_of_lt_of_le h hj)
theorem turn_zipG {P : Program} {w : World} {K : Fg} {elts : List Expr} {kk : Nat} {tpos : Pos} (k1 k2 : Kd) (n : Nat) : Turn P w K (.Tuple elts kk tpos) (ItG K k1 k2) (zfp n) (n + 4) (ZAt k1 k2 n) where
  mem := by simp [zfp]
  obj := fun i h st c hc => by
    obtain ⟨x, y, hTO⟩ := st.TO
    rcases mem_zfp hc with q | q | q | q | q
    · rw [q]; exact ⟨_, st.z, fun v q => nomatch q⟩
    · rw [q]; exact ⟨_, st.TI, fun v q => nomatch q⟩
    · rw [q]; exact ⟨_, hTO, fun v q => nomatch q⟩
    · rw [q]; exact Kd.obj st.a1
    · rw [q]; exact Kd.obj st.a2
  keep := fun i h h' st k => by
    obtain ⟨x, y, hTO⟩ := st.TO
    exact ⟨st.lt1, st.lt2, k _ (by simp [zfp]) _ st.z, k _ (by simp [zfp]) _ st.TI, ⟨x, y, k _ (by simp [zfp]) _ hTO⟩, Kd.keep st.a1 (k _ (by simp [zfp])), Kd.keep st.a2 (k _ (by simp [zfp]))⟩
  item := by
    intro X hP hw hK hc i pins s σ H E I hf st hg
    subst hP hw hK
    obtain ⟨xs, ys, x, y, hqx, hqy, hx, hy⟩ := hg
    obtain ⟨x0, y0, hTO⟩ := st.TO
    have S := zip_sep st.lt1 st.lt2
    have hh : X.A.in1.handled = none := I.ok.hd hc
    obtain ⟨P1, St1, D1, s1, r1, v1⟩ := Kd.draws (w := X.w) (P := X.prog) (A := X.A.in1) I hqx (apart1 st.lt1 (Nat.le_refl _)) hh st.a1
    obtain ⟨P2, St2, D2, s2, r2, v2⟩ := Kd.draws (w := X.w) (P := X.prog) (A := X.A.in1) I hqy (apart1 st.lt2 (Nat.le_succ _)) hh st.a2
    have hi1 : i < xs.length := (List.getElem?_eq_some_iff.mp hx).1
    have hi2 : i < ys.length := (List.getElem?_eq_some_iff.mp hy).1
    refine wpAny_pyNext_zipD2_item S D1 D2 st.z st.TI hTO s1 s2 hi1 hi2 fun u1 u2 h' tk p1 p2 z' TO' t1 t2 hT hsz hk => ?_
    refine ⟨_, rfl, wpAny_letOwnedTupleGo_zip (s := { s with heap := h', toks := tk }) z' fun h'' z'' sb => ?_⟩
    have ru1 : RelV x u1 := by
      obtain ⟨y', e1, e2⟩ := v1 i u1 p1
      rw [hx] at e1; cases e1; exact e2
    have ru2 : RelV y u2 := by
      obtain ⟨y', e1, e2⟩ := v2 i u2 p2
      rw [hy] at e1; cases e1; exact e2
    have hzl : n + 4 < s.heap.objs.size := Heap.lt_size st.z
    have hT2 : h''.get? s.heap.objs.size = some { cls := .type "tuple", data := .seq #[u1, u2] } := (sb.2 _ (Nat.ne_of_gt hzl)).trans hT
    have new : ObjOk X.prog X.w (upd H s.heap.objs.size (.tup [x, y])) h'' s.heap.objs.size (.tup [x, y]) :=
      ⟨by show 2 ≤ sizeLine; decide, [u1, u2], .cons ru1 (.cons ru2 .nil), ⟨_, hT2, rfl, _, rfl⟩⟩
    have I1 : Inv X pins σ (upd H s.heap.objs.size (.tup [x, y])) { s with heap := h'', toks := tk } :=
      I.turnedNew (t' := tk) (ch := zfp n) (fun c o hb q => (sb.2 c (fun q' => hb (by simp [zfp, q']))).trans (hk c o (fun q' => hb (by simp [zfp, q'])) (fun q' => hb (by simp [zfp, q'])) (fun q' => hb (by simp [zfp, q'])) (fun q' => hb (by simp [zfp, q'])) q)) hf (Nat.le_refl _) new
    refine ⟨.ref s.heap.objs.size, _, I1, rfl, ⟨_, x, y, rfl, I.hok.fresh (Nat.le_refl _), rfl, fun l hl => by rw [Kd.src_inj I hl hqx]; exact hx, fun l hl => by rw [Kd.src_inj I hl hqy]; exact hy⟩, ⟨st.lt1, st.lt2, z'', ?_, ⟨u1, u2, ?_⟩, ?_, ?_⟩, fun c hcm => ?_⟩
    · exact (sb.2 _ S.TIz).trans (hk _ _ S.TIz S.TITO S.TIi1 S.TIi2 st.TI)
    · exact (sb.2 _ S.TOz).trans TO'
    · exact Kd.keep (r1 _ _ t1) fun o q => (sb.2 _ S.zi1.symm).trans q
    · exact Kd.keep (r2 _ _ t2) fun o q => (sb.2 _ S.zi2.symm).trans q
    · rw [upd_ne (Nat.ne_of_lt (st.lt hcm))]
      exact (hf c hcm).1
  done := by
    intro X hP hw hK hc i pins s σ H E I hf st hg
    subst hP hw hK
    obtain ⟨xs, ys, hqx, hqy, l1, l2, hend⟩ := hg
    obtain ⟨x0, y0, hTO⟩ := st.TO
    have S := zip_sep st.lt1 st.lt2
    have hh : X.A.in1.handled = none := I.ok.hd hc
    obtain ⟨P1, St1, D1, s1, r1, v1⟩ := Kd.draws (w := X.w) (P := X.prog) (A := X.A.in1) I hqx (apart1 st.lt1 (Nat.le_refl _)) hh st.a1
    obtain ⟨P2, St2, D2, s2, r2, v2⟩ := Kd.draws (w := X.w) (P := X.prog) (A := X.A.in1) I hqy (apart1 st.lt2 (Nat.le_succ _)) hh st.a2
    exact wpAny_pyNext_zipD2_end S D1 D2 st.z st.TI hTO s1 s2 l1 l2 hend fun h' tk hk => ⟨rfl, I.turnedL (t' := tk) (ch := zfp n) (fun c o hb q =>
      hk c o (fun q' => hb (by simp [zfp, q'])) (fun q' => hb (by simp [zfp, q'])) (fun q' => hb (by simp [zfp, q'])) (fun q' => hb (by simp [zfp, q'])) q) hf⟩
  self := fun A i s Q E st h => wpAny_pyIter_zip st.z h
def iZipG (K : Fg) (ta : TA) : TI := fun σ H R => ta σ H fun vs H1 => ∃ k1 k2 xs ys, vs = [Kd.v k1, Kd.v k2] ∧ k1.src K H1 xs ∧ k2.src K H1 ys ∧ R (ItG K k1 k2) H1
theorem ItG_src {K : Fg} {k : Kd} {xs : List V} {H H' : Hp} (s : Same H H') (h : k.src K H xs) : k.src K H' xs := by
  cases k with
  | L a => exact s.seq h
  | T a => exact Same.sqT s h
  | S x => exact h
section
variable {X : Cx}
/-- the call zip(a, b): its cells -/
theorem zip_new {pins : List (Addr × Obj)} {σ : St} {H : Hp} {s : Shared} {k1 k2 : Kd} {xs ys : List V} {u1 u2 : Value} {A : Around} {Q E} (I : Inv X pins σ H s) (hx : k1.src X.K H xs) (hy : k2.src X.K H ys) (r1 : RelV k1.v u1) (r2 : RelV k2.v u2)
    (h : ∀ h', ZAt k1 k2 s.heap.objs.size 0 h' → Inv X pins σ H { s with heap := h' } → (∀ c o, s.heap.get? c = some o → h'.get? c = some o) → h'.objs.size = s.heap.objs.size + 5 → (∀ c ∈ zfp s.heap.objs.size, FpOk X pins H c) → Q (.ref (s.heap.objs.size + 4)) { s with heap := h' }) :
    wpAny (model X.prog X.w) A (call (.type "zip") [u1, u2]) Q E s := by
  obtain ⟨o1, H1, B1, c1, f1⟩ := Kd.begins I hx r1
  obtain ⟨o2, H2, B2, c2, f2⟩ := Kd.begins I hy r2
  refine zip_begins2 B1 B2 c1 c2 fun h' hz hTI hTO g1 g2 hsz hk => h h' ⟨Kd.src_lt I hx, Kd.src_lt I hy, hz, hTI, ⟨_, _, hTO⟩, f1 _ _ g1, f2 _ _ g2⟩ (I.kept (t' := s.toks) hk) hk hsz fun c hcm => ?_
  have hle : s.heap.objs.size ≤ c := by
    rcases mem_zfp hcm with z | z | z | z | z <;> rw [z] <;> omega
  exact I.fpOk hle (I.hok.fresh hle)
theorem pi_zipG {e e2 : Expr} {ta : TA} {p pos tpos : Pos} {elts : List Expr} {kk : Nat} (hg : Gl X "zip") (hm : X.mg "zip" = none) (ha : PA X [e, e2] ta)
    (hs : starEach [e, e2] X.env = (false, eval e X.env) :: starEach [e2] X.env := by rfl) (hpl : (backTo pos (starEach [e2] X.env)).any (·.1) = false := by rfl) :
    PI X (.Tuple elts kk tpos) (.Call (.Name "zip" p) [e, e2] [] pos) (iZipG X.K ta) := by
  refine ⟨fun pins s σ H R I h => ?_⟩
  refine Call_ (ld_blt I hg hm PyProof.Rows.boot_zip (PyProof.Rows.callWith_type1 (thn (ha.run pos pins s σ H _ I h) fun us s1 ⟨vs, H1, I1, r1, q1⟩ => ?_) hs hpl))
  obtain ⟨k1, k2, xs, ys, ex, hqx, hqy, q1⟩ := q1
  subst ex
  cases r1 with
  | cons r rr =>
    cases rr with
    | cons r' rr =>
      cases rr
      refine zip_new I1 hqx hqy r r' fun h' Z I2 hk hsz fp => wpAny_pyIter_zip Z.z ?_
      exact ⟨_, zfp s1.heap.objs.size, _, _, H1, rfl, I2, turn_zipG k1 k2 _, Z, fp, q1⟩
end
end Fx
set_option Elab.async false
set_option linter.all false
set_option maxRecDepth 100000
set_option maxHeartbeats 4000000
noncomputable section
namespace Fx
open PySem PySem.Spec L2
open PyProof.Rows (boot_zip boot_enumerate boot_list args_cons args_nil Call_)

/-! ## tuple targets -/
section
variable {X : Cx}
theorem g_tup {es : List Expr} {k : Nat} {pos : Pos} {is : List Nat} (hc : X.calm = true) (h : PGs X es (gNames is)) (hn : (assignEach es X.env).length = is.length := by rfl) (hst : (assignEach es X.env).findIdx? (·.1) = none := by rfl) : GOk X (.Tuple es k pos) (.tup is) := pg_tup hc h hn hst
theorem gn_nil : PGs X [] (gNames []) := pgs_nil
theorem gn_cons {e : Expr} {es : List Expr} {i : Nat} {is : List Nat} (h1 : GOk X e (.one i)) (h2 : PGs X es (gNames is)) (hs : (assignEach (e :: es) X.env).map (·.2) = assign e X.env :: (assignEach es X.env).map (·.2) := by rfl) : PGs X (e :: es) (gNames (i :: is)) := pgs_cons h1 h2 hs
end

/-! ## zip, enumerate as what is walked -/
def D.zseq : D → Option (List D)
  | .tup ds => some ds | .lst ds => some ds | .str x => some (x.cps.toList.map fun c => .str ⟨#[c]⟩) | _ => none
theorem reps_signs {K : Fg} {G : Hp} (l : List Nat) : Reps K G (l.map fun c => V.str ⟨#[c]⟩) (l.map fun c => D.str ⟨#[c]⟩) := by
  induction l with
  | nil => exact .nil
  | cons c r ih => exact .cons (.str _) ih
theorem Rep.kd {K : Fg} {G : Hp} {v : V} {d : D} {ds : List D} (r : Rep K G v d) (e : d.zseq = some ds) : ∃ k xs, v = Kd.v k ∧ k.src K G xs ∧ Reps K G xs ds := by
  cases r with
  | tup h rs => cases e; exact ⟨.T _, _, rfl, SqT.of h, rs⟩
  | lst h rs => cases e; exact ⟨.L _, _, rfl, SqL.of h, rs⟩
  | str x => cases e; exact ⟨.S x, _, rfl, rfl, reps_signs _⟩
  | _ => cases e
def zipD (xs ys : List D) : List D := (xs.zip ys).map fun p => .tup [p.1, p.2]
theorem wlk_zip {K : Fg} {G : Hp} {k1 k2 : Kd} {xs ys : List V} {ds es : List D} (h1 : k1.src K G xs) (h2 : k2.src K G ys) (r1 : Reps K G xs ds) (r2 : Reps K G ys es) : Wlk K (ItG K k1 k2) (zipD ds es) G := by
  have hl : (zipD ds es).length = min xs.length ys.length := by simp [zipD, r1.length, r2.length]
  refine ⟨fun i G1 H1 hi s1 s2 => ?_, fun G1 H1 s1 s2 => ⟨xs, ys, ItG_src s2 (ItG_src s1 h1), ItG_src s2 (ItG_src s1 h2), by omega, by omega, by omega⟩⟩
  have hx : i < xs.length := by omega
  have hy : i < ys.length := by omega
  have q1 := ItG_src s2 (ItG_src s1 h1)
  have q2 := ItG_src s2 (ItG_src s1 h2)
  refine ⟨⟨xs, ys, xs[i], ys[i], q1, q2, by simp [hx], by simp [hy]⟩, fun v H2 hv => ?_⟩
  obtain ⟨T, x, y, rfl, hT, rfl, f1, f2⟩ := hv
  obtain ⟨d, e1, rd⟩ := r1.get (f1 xs q1)
  obtain ⟨e, e2, re⟩ := r2.get (f2 ys q2)
  have gT : G1 T = none := none_of_same s2 hT
  have sn : Same G1 (upd G1 T (.tup [x, y])) := same_new gT
  refine ⟨upd G1 T (.tup [x, y]), .tup [d, e], ?_, .tup upd_same (.cons (rd.mono (s1.trans sn)) (.cons (re.mono (s1.trans sn)) .nil)), same_upd2 s2 hT, Step.newG s2 hT⟩
  unfold zipD
  rw [List.getElem?_map]
  have : (ds.zip es)[i]? = some (d, e) := by
    rw [List.getElem?_zip_eq_some]; exact ⟨e1, e2⟩
  rw [this]; rfl
def iZip (ms : List Arg) : IM := fun env => (evA ms env).bind fun (ds, e) => match ds with
  | [a, b] => a.zseq.bind fun xs => b.zseq.bind fun ys => some (zipD xs ys, e)
  | _ => none
section
variable {X : Cx} {e e2 : Expr} {p pos tpos : Pos} {elts : List Expr} {kk : Nat}
theorem i_zip {ms : List Arg} (hg : Gl X "zip") (hm : X.mg "zip" = none) (ha : PA X [e, e2] (tAr X.K ms))
    (hs : starEach [e, e2] X.env = (false, eval e X.env) :: starEach [e2] X.env := by rfl) (hpl : (backTo pos (starEach [e2] X.env)).any (·.1) = false := by rfl) :
    IOk X (.Tuple elts kk tpos) (.Call (.Name "zip" p) [e, e2] [] pos) (iZip ms) := pi_mono (pi_zipG hg hm (paa ha) hs hpl) fun σ H R ⟨env, G, fp, con, ds, env', e1, k⟩ => by
  unfold iZip at e1
  cases q : evA ms env with
  | none => simp [q] at e1
  | some y =>
    obtain ⟨as, e3⟩ := y
    simp only [q, Option.bind_some] at e1
    split at e1
    · rename_i a b
      cases q1 : a.zseq with
      | none => simp [q1] at e1
      | some xs =>
        cases q2 : b.zseq with
        | none => simp [q1, q2] at e1
        | some ys =>
          simp [q1, q2] at e1
          obtain ⟨rfl, rfl⟩ := e1
          refine ⟨env, G, fp, con, _, _, q, fun vs G' H' fp' c' rv s => ?_⟩
          cases rv with
          | cons r1 rv =>
            cases rv with
            | cons r2 rv =>
              cases rv
              obtain ⟨k1, us, rfl, s1, t1⟩ := r1.kd q1
              obtain ⟨k2, ws, rfl, s2, t2⟩ := r2.kd q2
              exact ⟨k1, k2, us, ws, rfl, ItG_src c'.sub s1, ItG_src c'.sub s2, k _ G' H' fp' c' s (wlk_zip s1 s2 t1 t2)⟩
    · cases e1

/-! enumerate -/
def ItE (K : Fg) (k : Kd) : It :=
  ⟨fun i H => ∃ (xs : List V) (x : V), k.src K H xs ∧ xs[i]? = some x,
    fun i H v H' => ∃ T x, v = .ref T ∧ H T = none ∧ H' = upd H T (.tup [.int (i : Nat), x]) ∧ ∀ xs, k.src K H xs → xs[i]? = some x,
    fun i H => ∃ xs : List V, k.src K H xs ∧ i = xs.length⟩
structure EAt (k : Kd) (n i : Nat) (h : Heap) : Prop where
  lt1 : k.lt n
  e : ∃ old, IsEnum h (n + 1) n ((i : Nat) : Int) old
  a1 : k.at_ h n i
theorem EAt.lt {k : Kd} {n i : Nat} {h : Heap} (Z : EAt k n i h) {c : Addr} (m : c ∈ [n + 1, n]) : c < h.objs.size := by
  obtain ⟨old, he⟩ := Z.e
  have q : c = n + 1 ∨ c = n := by simpa using m
  rcases q with q | q
  · rw [q]; exact Heap.lt_size he
  · rw [q]; obtain ⟨_, e, _⟩ := Kd.obj Z.a1; exact Heap.lt_size e
theorem fps_ne {k : Kd} {n : Nat} (h1 : k.lt n) : (n + 1 : Nat) ∉ k.fps n := fun m => by
  have m1 : ∀ c : Nat, @Membership.mem Addr _ _ (k.fps n) c → @LE.le Nat _ c n := fun c m => by
    cases k <;> simp only [Kd.fps, Kd.lt, List.mem_cons, List.not_mem_nil, or_false] at * <;> (try rcases m with m | m) <;> subst_vars <;> first | exact Nat.le_refl _ | exact Nat.le_of_lt h1
  exact absurd (m1 _ m) (by omega)
theorem turn_enumG {P : Program} {w : World} {K : Fg} {elts : List Expr} {kk : Nat} {tpos : Pos} (k : Kd) (n : Nat) : Turn P w K (.Tuple elts kk tpos) (ItE K k) [n + 1, n] (n + 1) (EAt k n) where
  mem := by simp
  obj := fun i h st c hc => by
    obtain ⟨old, he⟩ := st.e
    have q : c = n + 1 ∨ c = n := by simpa using hc
    rcases q with q | q
    · rw [q]; exact ⟨_, he, fun v q => nomatch q⟩
    · rw [q]; exact Kd.obj st.a1
  keep := fun i h h' st k => by
    obtain ⟨old, he⟩ := st.e
    exact ⟨st.lt1, ⟨old, k _ (by simp) _ he⟩, Kd.keep st.a1 (k _ (by simp))⟩
  item := by
    intro X hP hw hK hc i pins s σ H E I hf st hg
    subst hP hw hK
    obtain ⟨xs, x, hqx, hx⟩ := hg
    obtain ⟨old, he⟩ := st.e
    have hh : X.A.in1.handled = none := I.ok.hd hc
    obtain ⟨P1, St1, D1, s1, r1, v1⟩ := Kd.draws (w := X.w) (P := X.prog) (A := X.A.in1) I hqx (apart1 st.lt1 (Nat.le_refl _)) hh st.a1
    have hi1 : i < xs.length := (List.getElem?_eq_some_iff.mp hx).1
    have hel : n + 1 < s.heap.objs.size := Heap.lt_size he
    refine wpAny_pyNext_enum_itemC D1 he s1 hi1 (ne_nat (by omega)) (fps_ne st.lt1) fun u h' tk p1 ho t1 hT hsz hk => ?_
    refine ⟨_, rfl, wpAny_letOwnedTupleGo_enum (s := { s with heap := h', toks := tk + 1 }) ho fun h'' he' sb => ?_⟩
    have ru : RelV x u := by
      obtain ⟨y', e1, e2⟩ := v1 i u p1
      rw [hx] at e1; cases e1; exact e2
    have hT2 : h''.get? s.heap.objs.size = some { cls := .type "tuple", data := .seq #[.int i tk, u] } := (sb.2 _ (Nat.ne_of_gt hel)).trans hT
    have new : ObjOk X.prog X.w (upd H s.heap.objs.size (.tup [.int (i : Nat), x])) h'' s.heap.objs.size (.tup [.int (i : Nat), x]) :=
      ⟨by show 2 ≤ sizeLine; decide, [.int i tk, u], .cons ⟨_, rfl⟩ (.cons ru .nil), ⟨_, hT2, rfl, _, rfl⟩⟩
    have I1 : Inv X pins σ (upd H s.heap.objs.size (.tup [.int (i : Nat), x])) { s with heap := h'', toks := tk + 1 } :=
      I.turnedNew (ch := [n + 1, n]) (fun b ob hb q => (sb.2 b (fun z => hb (by simp [z]))).trans (hk b ob (fun z => hb (by simp [z])) (fun z => hb (by simp [z])) q)) hf (Nat.le_refl _) new
    refine ⟨.ref s.heap.objs.size, _, I1, rfl, ⟨_, x, rfl, I.hok.fresh (Nat.le_refl _), rfl, fun l hl => by rw [Kd.src_inj I hl hqx]; exact hx⟩, ⟨st.lt1, ⟨u, ?_⟩, Kd.keep (r1 _ _ t1) fun o q => (sb.2 _ (ne_nat (by omega))).trans q⟩, fun c hcm => ?_⟩
    · have e1 : ((i + 1 : Nat) : Int) = (i : Int) + 1 := by omega
      rw [e1]; exact he'
    · rw [upd_ne (Nat.ne_of_lt (st.lt hcm))]
      exact (hf c hcm).1
  done := by
    intro X hP hw hK hc i pins s σ H E I hf st hg
    subst hP hw hK
    obtain ⟨xs, hqx, hend⟩ := hg
    subst hend
    obtain ⟨old, he⟩ := st.e
    have hh : X.A.in1.handled = none := I.ok.hd hc
    obtain ⟨P1, St1, D1, s1, r1, v1⟩ := Kd.draws (w := X.w) (P := X.prog) (A := X.A.in1) I hqx (apart1 st.lt1 (Nat.le_refl _)) hh st.a1
    exact wpAny_pyNext_enum_endD D1 he s1 fun h' hk => ⟨rfl, I.turnedL (t' := s.toks) (ch := [n + 1, n]) (fun c o hb q => hk c o (fun q' => hb (by simp [q'])) q) hf⟩
  self := fun A i s Q E st h => by obtain ⟨_, he⟩ := st.e; exact wpAny_pyIter_enum he h
theorem meets_enumerate_newG {v : Value} {o : Obj} {H : Heap → Prop} (B : Begins v o H) :
    Meets (Builtin.«enumerate.__new__» ⟨[.type "enumerate", v], []⟩) (fun _ R s => H s.heap ∧
      R (.ok (.ret (.ref (s.heap.push o).objs.size))) { s with heap := (s.heap.push o).push { cls := .type "enumerate", data := .fields #[.none, .bool false, .ref s.heap.objs.size, rawInt 0, .none, .none] } }) :=
  .of_wp fun prog w A R s h => by
    obtain ⟨hp, g, d, tk, os⟩ := s; obtain ⟨h1, h⟩ := h
    have hsub := sub_enumerate
    have q1 : ∀ {A' : Around} {E : Value → Shared → Prop} {Q : Value → Shared → Prop}, Q (.ref hp.objs.size) ⟨hp.push o, g, d, tk, os⟩ → wpAny (model prog w) A' (pyIter v) Q E ⟨hp, g, d, tk, os⟩ :=
      fun q => B.iter prog w _ _ ⟨hp, g, d, tk, os⟩ _ h1 q
    wp_walk
    refine wpAny_stack_any fun st => wpAny_pure ?_
    split
    · rename_i c _ _ _ _ _
      cases (c == Value.type "enumerate")
      · wp_walk using q1
        exact ⟨_, rfl, h⟩
      · wp_walk using q1
        exact ⟨_, rfl, h⟩
    · wp_walk using q1
      exact ⟨_, rfl, h⟩
theorem enum_new {prog : Program} {w : World} {A : Around} {E : Value → Shared → Prop} {s : Shared} {v : Value} {o : Obj} {H : Heap → Prop} {Q : Value → Shared → Prop} (B : Begins v o H) (h1 : H s.heap)
    (h : ∀ h', IsEnum h' (s.heap.objs.size + 1) s.heap.objs.size 0 .none → h'.get? s.heap.objs.size = some o → h'.objs.size = s.heap.objs.size + 2 →
      (∀ b o, s.heap.get? b = some o → h'.get? b = some o) → Q (.ref (s.heap.objs.size + 1)) { s with heap := h' }) :
    wpAny (model prog w) A (call (.type "enumerate") [v]) Q E s := by
  refine callType_new F.called_enumerate (by decide) (F.typeCall_enumerate_1 _) (F.newCall_enumerate_1 _) (fun obj => F.args_object_init_2 obj _) F.entry_enumerate_new
    (meets_enumerate_newG B) ⟨h1, ?_⟩
  have hz : (s.heap.push o).objs.size = s.heap.objs.size + 1 := Heap.size_push ..
  show _ ∧ _
  rw [hz]
  have he : IsEnum ((s.heap.push o).push { cls := .type "enumerate", data := .fields #[.none, .bool false, .ref s.heap.objs.size, rawInt 0, .none, .none] }) (s.heap.objs.size + 1) s.heap.objs.size 0 .none := by
    have := Heap.get?_push_size (s.heap.push o) (o := { cls := .type "enumerate", data := .fields #[.none, .bool false, .ref s.heap.objs.size, rawInt 0, .none, .none] }) rfl
    rw [hz] at this; exact this
  refine ⟨⟨_, he, rfl⟩, h _ he (Heap.get?_push_of_some _ (Heap.get?_push_size _ B.free)) (by rw [Heap.size_push, hz]) fun b o x => Heap.get?_push_of_some _ (Heap.get?_push_of_some _ x)⟩
def iEnumG (K : Fg) (ta : TA) : TI := fun σ H R => ta σ H fun vs H1 => ∃ k xs, vs = [Kd.v k] ∧ k.src K H1 xs ∧ R (ItE K k) H1
theorem pi_enumG {ta : TA} (hg : Gl X "enumerate") (hm : X.mg "enumerate" = none) (ha : PA X [e] ta) (hs : starEach [e] X.env = [(false, eval e X.env)] := by rfl) :
    PI X (.Tuple elts kk tpos) (.Call (.Name "enumerate" p) [e] [] pos) (iEnumG X.K ta) := by
  refine ⟨fun pins s σ H R I h => ?_⟩
  refine Call_ (ld_blt I hg hm boot_enumerate (PyProof.Rows.callWith_type1 (thn (ha.run pos pins s σ H _ I h) fun us s1 ⟨vs, H1, I1, r1, q1⟩ => ?_) hs rfl))
  obtain ⟨k, xs, ex, hq, q⟩ := q1
  subst ex
  cases r1 with
  | cons r rr =>
    cases rr
    obtain ⟨o1, Hc, B1, c1, f1⟩ := Kd.begins I1 hq r
    refine enum_new B1 c1 fun h' he g1 hsz hk => wpAny_pyIter_enum he ?_
    have I2 : Inv X pins σ H1 { s1 with heap := h' } := I1.kept (t' := s1.toks) hk
    refine ⟨s1.heap.objs.size + 1, [s1.heap.objs.size + 1, s1.heap.objs.size], _, _, H1, rfl, I2, turn_enumG k s1.heap.objs.size, ⟨Kd.src_lt I1 hq, ⟨.none, he⟩, f1 _ _ g1⟩, fun b hb => ?_, q⟩
    have e' : b = s1.heap.objs.size + 1 ∨ b = s1.heap.objs.size := by simpa using hb
    have hle : s1.heap.objs.size ≤ b := by
      rcases e' with z | z
      · rw [z]; exact Nat.le_add_right _ _
      · rw [z]; exact Nat.le_refl _
    exact I1.fpOk hle (I1.hok.fresh hle)
def enumD (ds : List D) : List D := zipD ((List.range ds.length).map fun i => .int (i : Nat)) ds
theorem enumD_get {ds : List D} {i : Nat} {d : D} (h : ds[i]? = some d) : (enumD ds)[i]? = some (.tup [.int (i : Nat), d]) := by
  have hl := (List.getElem?_eq_some_iff.mp h).1
  unfold enumD zipD
  rw [List.getElem?_map]
  have : (List.zip ((List.range ds.length).map fun i => D.int (i : Nat)) ds)[i]? = some (.int (i : Nat), d) := by
    rw [List.getElem?_zip_eq_some]; exact ⟨by simp [hl], h⟩
  rw [this]; rfl
theorem wlk_enum {K : Fg} {G : Hp} {k : Kd} {xs : List V} {ds : List D} (h1 : k.src K G xs) (r1 : Reps K G xs ds) : Wlk K (ItE K k) (enumD ds) G := by
  have hl : (enumD ds).length = xs.length := by simp [enumD, zipD, r1.length]
  refine ⟨fun i G1 H1 hi s1 s2 => ?_, fun G1 H1 s1 s2 => ⟨xs, ItG_src s2 (ItG_src s1 h1), hl⟩⟩
  have hx : i < xs.length := by omega
  have q1 := ItG_src s2 (ItG_src s1 h1)
  refine ⟨⟨xs, xs[i], q1, by simp [hx]⟩, fun v H2 hv => ?_⟩
  obtain ⟨T, x, rfl, hT, rfl, f1⟩ := hv
  obtain ⟨d, e1, rd⟩ := r1.get (f1 xs q1)
  have gT : G1 T = none := none_of_same s2 hT
  have sn : Same G1 (upd G1 T (.tup [.int (i : Nat), x])) := same_new gT
  exact ⟨upd G1 T (.tup [.int (i : Nat), x]), .tup [.int (i : Nat), d], enumD_get e1, .tup upd_same (.cons (.int _) (.cons (rd.mono (s1.trans sn)) .nil)), same_upd2 s2 hT, Step.newG s2 hT⟩
def iEnumM (m : EM) : IM := fun env => (m env).bind fun (c, e) => c.fz.zseq.bind fun xs => some (enumD xs, e)
theorem i_enum {m : EM} (hg : Gl X "enumerate") (hm : X.mg "enumerate" = none) (ha : PA X [e] (tAr X.K [.one m])) (hs : starEach [e] X.env = [(false, eval e X.env)] := by rfl) :
    IOk X (.Tuple elts kk tpos) (.Call (.Name "enumerate" p) [e] [] pos) (iEnumM m) := pi_mono (pi_enumG hg hm (paa ha) hs) fun σ H R ⟨env, G, fp, con, ds, env', e1, k⟩ => by
  unfold iEnumM at e1
  cases q : m env with
  | none => simp [q] at e1
  | some y =>
    obtain ⟨c, e3⟩ := y
    simp only [q, Option.bind_some] at e1
    cases q1 : c.fz.zseq with
    | none => simp [q1] at e1
    | some xs =>
      simp [q1] at e1
      obtain ⟨rfl, rfl⟩ := e1
      refine ⟨env, G, fp, con, [c.fz], e3, by simp [evA, q], fun vs G' H' fp' c' rv s => ?_⟩
      cases rv with
      | cons r1 rv =>
        cases rv
        obtain ⟨k1, us, rfl, s1, t1⟩ := r1.kd q1
        exact ⟨k1, us, rfl, ItG_src c'.sub s1, k _ G' H' fp' c' s (wlk_enum s1 t1)⟩
end
end Fx
set_option Elab.async false
set_option linter.all false
set_option maxRecDepth 100000
set_option maxHeartbeats 4000000
noncomputable section
namespace Fx
open PySem PySem.Spec L2
open PyProof.Rows (boot_zip boot_enumerate boot_list args_cons args_nil Call_)

/-! ## list(zip(a, b)) -/
section
variable {prog : Program} {w : World} {A : Around} {E : Value → Shared → Prop} {s : Shared} {z TI TO i1 i2 T : Addr} {f : Bool} {oT : Obj} {fp1 fp2 : List Addr} {n1 n2 i : Nat} {P1 P2 : Nat → Value → Prop} {St1 St2 : Nat → Heap → Prop}
theorem zh_item {Q : Value → Shared → Prop} (S : ZipSep2 z TI TO i1 i2 fp1 fp2) (D1 : Draws prog w A i1 fp1 n1 P1 St1) (D2 : Draws prog w A i2 fp2 n2 P2 St2)
    (hz : IsZipHeld s.heap z TI TO T f) (hT : s.heap.get? T = some oT) (hTI : IsTupOf2 s.heap TI (.ref i1) (.ref i2)) (st1 : St1 i s.heap) (st2 : St2 i s.heap) (hlt1 : i < n1) (hlt2 : i < n2)
    (hQ : ∀ x1 x2 h' tk, P1 i x1 → P2 i x2 → IsZipHeld h' z TI TO T true → St1 (i + 1) h' → St2 (i + 1) h' → IsTupOf2 h' s.heap.objs.size x1 x2 → h'.objs.size = s.heap.objs.size + 1 →
      (∀ c o, c ≠ z → c ≠ i1 → c ≠ i2 → s.heap.get? c = some o → h'.get? c = some o) → Q (.ref s.heap.objs.size) { s with heap := h', toks := tk }) :
    wpAny (model prog w) A (Builtin.«zip.__next__» ⟨[.ref z], []⟩) (fun fin s' => ∃ v, fin = .done (.ret v) ∧ Q v s') E s := by
  obtain ⟨hp, g, d, tk0, os⟩ := s
  show wpAny _ _ (field (.ref z) 2 >>= _) _ _ _
  refine wpAny_bind (wpAny_field hz rfl (x := .bool false) rfl ?_)
  show wpAny _ _ (field (.ref z) 3 >>= _) _ _ _
  refine wpAny_bind (wpAny_field hz rfl (x := .ref TI) rfl ?_)
  refine wpAny_bind (wpAny_seqItems hTI rfl ?_)
  show wpAny _ _ (Builtin.SmallTypes.ownedTupleIsFree (.ref z) >>= _) _ _ _
  refine wpAny_bind (wpAny_tupleHeld_zip hz hT fun h₁ hz₁ hs₁ => ?_)
  replace hs₁ : Heap.SameBut z hp h₁ := hs₁
  simp only [Bool.false_eq_true, if_false]
  refine wpAny_bind ?_
  rw [← Array.forIn_toList]
  simp only [List.forIn_cons, List.forIn_nil]
  refine wpAny_bind (wpAny_bind (wpAny_holding ?_))
  show wpAny _ _ (Builtin.SmallTypes.nextOf (.ref i1) >>= _) _ _ ⟨h₁, g, d, tk0, os⟩
  refine wpAny_bind (D1.item i _ _ _ hlt1 (D1.over st1 hs₁ S.zf1) fun x1 h₂ tk1 hx1 sn1 hs₂ => wpAny_pure ?_)
  replace hs₂ : Heap.SameBut i1 h₁ h₂ := hs₂
  refine wpAny_pure ?_
  refine wpAny_bind (wpAny_bind (wpAny_holding ?_))
  show wpAny _ _ (Builtin.SmallTypes.nextOf (.ref i2) >>= _) _ _ ⟨h₂, g, d, tk1, os⟩
  refine wpAny_bind (D2.item i _ _ _ hlt2 (D2.over (D2.over st2 hs₁ S.zf2) hs₂ S.sep1_2) fun x2 h₃ tk2 hx2 sn2 hs₃ => wpAny_pure ?_)
  replace hs₃ : Heap.SameBut i2 h₂ h₃ := hs₃
  refine wpAny_pure (wpAny_pure ?_)
  show wpAny _ _ (newTuple [x1, x2] >>= _) _ _ ⟨h₃, g, d, tk2, os⟩
  refine wpAny_bind (wpAny_newTuple ?_)
  have hsz : h₃.objs.size = hp.objs.size := by rw [hs₃.1, hs₂.1, hs₁.1]
  have hz₃ : IsZipHeld h₃ z TI TO T true := hs₃.extBut _ _ S.zi2 (hs₂.extBut _ _ S.zi1 hz₁)
  have hk : ∀ c o, c ≠ z → c ≠ i1 → c ≠ i2 → hp.get? c = some o → h₃.get? c = some o := fun c o c1 c2 c3 e => hs₃.extBut _ _ c3 (hs₂.extBut _ _ c2 (hs₁.extBut _ _ c1 e))
  have h1₃ : St1 (i + 1) h₃ := D1.over sn1 hs₃ S.sep2_1
  refine wpAny_pure ⟨_, rfl, ?_⟩
  show Q (.ref h₃.objs.size) ⟨h₃.push { cls := .type "tuple", data := .seq #[x1, x2] }, g, d, tk2, os⟩
  have hp' : IsTupOf2 (h₃.push { cls := .type "tuple", data := .seq #[x1, x2] }) h₃.objs.size x1 x2 := Heap.get?_push_size _ rfl
  have hz4 : (h₃.push { cls := .type "tuple", data := .seq #[x1, x2] }).objs.size = h₃.objs.size + 1 := Heap.size_push ..
  rw [hsz] at hp' hz4 ⊢
  exact hQ x1 x2 _ tk2 hx1 hx2 (Heap.get?_push_of_some _ hz₃) (D1.frame _ _ _ h1₃ fun b hb o e => Heap.get?_push_of_some _ e) (D2.frame _ _ _ sn2 fun b hb o e => Heap.get?_push_of_some _ e) hp' hz4 fun c o c1 c2 c3 e => Heap.get?_push_of_some _ (hk c o c1 c2 c3 e)
theorem zh_end {Q : Fin → Shared → Prop} (S : ZipSep2 z TI TO i1 i2 fp1 fp2) (D1 : Draws prog w A i1 fp1 n1 P1 St1) (D2 : Draws prog w A i2 fp2 n2 P2 St2)
    (hz : IsZipHeld s.heap z TI TO T f) (hT : s.heap.get? T = some oT) (hTI : IsTupOf2 s.heap TI (.ref i1) (.ref i2)) (st1 : St1 i s.heap) (st2 : St2 i s.heap) (hle1 : i ≤ n1) (hle2 : i ≤ n2) (hend : i = n1 ∨ i = n2)
    (hE : ∀ h' tk e, (∀ c o, c ≠ z → c ≠ i1 → c ≠ i2 → s.heap.get? c = some o → h'.get? c = some o) → (∃ o, h'.get? e = some o ∧ o.cls = .type "StopIteration") → E (.ref e) { s with heap := h', toks := tk }) :
    wpAny (model prog w) A (Builtin.«zip.__next__» ⟨[.ref z], []⟩) Q E s := by
  obtain ⟨hp, g, d, tk0, os⟩ := s
  show wpAny _ _ (field (.ref z) 2 >>= _) _ _ _
  refine wpAny_bind (wpAny_field hz rfl (x := .bool false) rfl ?_)
  show wpAny _ _ (field (.ref z) 3 >>= _) _ _ _
  refine wpAny_bind (wpAny_field hz rfl (x := .ref TI) rfl ?_)
  refine wpAny_bind (wpAny_seqItems hTI rfl ?_)
  show wpAny _ _ (Builtin.SmallTypes.ownedTupleIsFree (.ref z) >>= _) _ _ _
  refine wpAny_bind (wpAny_tupleHeld_zip hz hT fun h₁ hz₁ hs₁ => ?_)
  replace hs₁ : Heap.SameBut z hp h₁ := hs₁
  simp only [Bool.false_eq_true, if_false]
  refine wpAny_bind ?_
  rw [← Array.forIn_toList]
  simp only [List.forIn_cons, List.forIn_nil]
  refine wpAny_bind (wpAny_bind (wpAny_holding ?_))
  show wpAny _ _ (Builtin.SmallTypes.nextOf (.ref i1) >>= _) _ _ ⟨h₁, g, d, tk0, os⟩
  by_cases h1 : i = n1
  · subst h1
    refine wpAny_bind (D1.done _ _ _ (D1.over st1 hs₁ S.zf1) fun h₂ e hs₂ he => ?_)
    exact hE h₂ tk0 e (fun c o c1 c2 _ x => hs₂ _ _ c2 (hs₁.extBut _ _ c1 x)) he
  · have h2 : i = n2 := hend.elim (fun z => absurd z h1) id
    refine wpAny_bind (D1.item i _ _ _ (by omega) (D1.over st1 hs₁ S.zf1) fun x1 h₂ tk1 hx1 sn1 hs₂ => wpAny_pure ?_)
    replace hs₂ : Heap.SameBut i1 h₁ h₂ := hs₂
    refine wpAny_pure ?_
    refine wpAny_bind (wpAny_bind (wpAny_holding ?_))
    show wpAny _ _ (Builtin.SmallTypes.nextOf (.ref i2) >>= _) _ _ ⟨h₂, g, d, tk1, os⟩
    subst h2
    refine wpAny_bind (D2.done _ _ _ (D2.over (D2.over st2 hs₁ S.zf2) hs₂ S.sep1_2) fun h₃ e hs₃ he => ?_)
    exact hE h₃ tk1 e (fun c o c1 c2 c3 x => hs₃ _ _ c3 (hs₂.extBut _ _ c2 (hs₁.extBut _ _ c1 x))) he
theorem zhn_item {Q : Option Value → Shared → Prop} (S : ZipSep2 z TI TO i1 i2 fp1 fp2) (D1 : Draws prog w A.in1 i1 fp1 n1 P1 St1) (D2 : Draws prog w A.in1 i2 fp2 n2 P2 St2)
    (hz : IsZipHeld s.heap z TI TO T f) (hT : s.heap.get? T = some oT) (hTI : IsTupOf2 s.heap TI (.ref i1) (.ref i2)) (st1 : St1 i s.heap) (st2 : St2 i s.heap) (hlt1 : i < n1) (hlt2 : i < n2)
    (hQ : ∀ x1 x2 h' tk, P1 i x1 → P2 i x2 → IsZipHeld h' z TI TO T true → St1 (i + 1) h' → St2 (i + 1) h' → IsTupOf2 h' s.heap.objs.size x1 x2 → h'.objs.size = s.heap.objs.size + 1 →
      (∀ c o, c ≠ z → c ≠ i1 → c ≠ i2 → s.heap.get? c = some o → h'.get? c = some o) → Q (some (.ref s.heap.objs.size)) { s with heap := h', toks := tk }) :
    wpAny (model prog w) A (pyNext (.ref z)) Q E s := by
  have hTy : s.TypeIs (.ref z) "zip" := ⟨_, hz, rfl⟩
  unfold pyNext
  exact wpAny_bind (wpAny_attempt (wpAny_callSpecial?_slot (name := Str.ofString "__next__") hTy F.slot_zip_next
    (wpAny_call_entry F.slot_zip_next hTy F.entry_zip_next
      (zh_item S D1 D2 hz hT hTI st1 st2 hlt1 hlt2 fun x1 x2 h' tk a1 a2 a3 a4 a5 a6 a7 a8 => wpAny_pure (hQ x1 x2 h' tk a1 a2 a3 a4 a5 a6 a7 a8)) (F.args_zip_next_1 _))))
theorem zhn_end {Q : Option Value → Shared → Prop} (S : ZipSep2 z TI TO i1 i2 fp1 fp2) (D1 : Draws prog w A.in1 i1 fp1 n1 P1 St1) (D2 : Draws prog w A.in1 i2 fp2 n2 P2 St2)
    (hz : IsZipHeld s.heap z TI TO T f) (hT : s.heap.get? T = some oT) (hTI : IsTupOf2 s.heap TI (.ref i1) (.ref i2)) (st1 : St1 i s.heap) (st2 : St2 i s.heap) (hle1 : i ≤ n1) (hle2 : i ≤ n2) (hend : i = n1 ∨ i = n2)
    (hQ : ∀ h' tk, (∀ c o, c ≠ z → c ≠ i1 → c ≠ i2 → s.heap.get? c = some o → h'.get? c = some o) → Q none { s with heap := h', toks := tk }) : wpAny (model prog w) A (pyNext (.ref z)) Q E s := by
  have hTy : s.TypeIs (.ref z) "zip" := ⟨_, hz, rfl⟩
  unfold pyNext
  refine wpAny_bind (wpAny_attempt (wpAny_callSpecial?_slot (name := Str.ofString "__next__") hTy F.slot_zip_next
    (wpAny_call_entry F.slot_zip_next hTy F.entry_zip_next (zh_end S D1 D2 hz hT hTI st1 st2 hle1 hle2 hend fun h' tk e hk he => ?_) (F.args_zip_next_1 _))))
  obtain ⟨o, ho, hc⟩ := he
  refine wpAny_bind (wpAny_isInstance (T := "StopIteration") (b := true) ⟨o, ho, hc⟩ isSubtype_stop ?_)
  exact wpAny_pure (hQ _ _ hk)
end
/-- the zip whose cells begin at n, at i -/
structure ZH (k1 k2 : Kd) (n i : Nat) (h : Heap) : Prop where
  lt1 : k1.lt n
  lt2 : k2.lt n
  z : (IsZip h (n + 4) (n + 2) (n + 3) .none ∧ ∃ x y, IsTupOf2 h (n + 3) x y) ∨ ∃ T f oT, IsZipHeld h (n + 4) (n + 2) (n + 3) T f ∧ h.get? T = some oT ∧ T ∉ zfp n
  TI : IsTupOf2 h (n + 2) (.ref n) (.ref (n + 1))
  a1 : k1.at_ h n i
  a2 : k2.at_ h (n + 1) i
theorem ZAt.zh {k1 k2 : Kd} {n i : Nat} {h : Heap} (Z : ZAt k1 k2 n i h) : ZH k1 k2 n i h := ⟨Z.lt1, Z.lt2, .inl ⟨Z.z, Z.TO⟩, Z.TI, Z.a1, Z.a2⟩
theorem ZH.keep {k1 k2 : Kd} {n i : Nat} {h h' : Heap} (Z : ZH k1 k2 n i h) (S : Addr) (hS : S ∉ zfp n) (hT : ∀ o, h.get? S = some o → ∃ o', h'.get? S = some o') (k : ∀ b o, b ≠ S → h.get? b = some o → h'.get? b = some o) : ZH k1 k2 n i h' := by
  have kz : ∀ c ∈ zfp n, ∀ o, h.get? c = some o → h'.get? c = some o := fun c m o e => k c o (fun q => hS (q ▸ m)) e
  refine ⟨Z.lt1, Z.lt2, ?_, kz _ (by simp [zfp]) _ Z.TI, Kd.keep Z.a1 (kz _ (by simp [zfp])), Kd.keep Z.a2 (kz _ (by simp [zfp]))⟩
  rcases Z.z with ⟨z, x, y, t⟩ | ⟨T, f, oT, z, t, m⟩
  · exact .inl ⟨kz _ (by simp [zfp]) _ z, x, y, kz _ (by simp [zfp]) _ t⟩
  · right
    by_cases q : T = S
    · subst q
      obtain ⟨o', e⟩ := hT _ t
      exact ⟨T, f, o', kz _ (by simp [zfp]) _ z, e, m⟩
    · exact ⟨T, f, oT, kz _ (by simp [zfp]) _ z, k _ _ q t, m⟩
section
variable {X : Cx} {pins : List (Addr × Obj)} {σ : St}
theorem ZH.item {k1 k2 : Kd} {n i : Nat} {H : Hp} {s : Shared} {xs ys : List V} {x y : V} {A : Around} {E} {Q : Option Value → Shared → Prop} (hh : A.handled = none) (I : Inv X pins σ H s) (hqx : k1.src X.K H xs) (hqy : k2.src X.K H ys) (hx : xs[i]? = some x) (hy : ys[i]? = some y) (Z : ZH k1 k2 n i s.heap)
    (hQ : ∀ u1 u2 h' tk, RelV x u1 → RelV y u2 → ZH k1 k2 n (i + 1) h' → IsTupOf2 h' s.heap.objs.size u1 u2 → (∀ c o, c ∉ zfp n → s.heap.get? c = some o → h'.get? c = some o) → Q (some (.ref s.heap.objs.size)) { s with heap := h', toks := tk }) :
    wpAny (model X.prog X.w) A (pyNext (.ref (n + 4 : Nat))) Q E s := by
  have S := zip_sep Z.lt1 Z.lt2
  obtain ⟨P1, St1, D1, s1, r1, v1⟩ := Kd.draws (w := X.w) (P := X.prog) (A := A.in1) I hqx (apart1 Z.lt1 (Nat.le_refl _)) hh Z.a1
  obtain ⟨P2, St2, D2, s2, r2, v2⟩ := Kd.draws (w := X.w) (P := X.prog) (A := A.in1) I hqy (apart1 Z.lt2 (Nat.le_succ _)) hh Z.a2
  have hi1 : i < xs.length := (List.getElem?_eq_some_iff.mp hx).1
  have hi2 : i < ys.length := (List.getElem?_eq_some_iff.mp hy).1
  have ru1 : ∀ {u1}, P1 i u1 → RelV x u1 := fun p1 => by
    obtain ⟨y', e1, e2⟩ := v1 i _ p1
    rw [hx] at e1; cases e1; exact e2
  have ru2 : ∀ {u2}, P2 i u2 → RelV y u2 := fun p2 => by
    obtain ⟨y', e1, e2⟩ := v2 i _ p2
    rw [hy] at e1; cases e1; exact e2
  have hn : ∀ c ∈ zfp n, c ≠ s.heap.objs.size := fun c m q => by
    have lt : c < s.heap.objs.size := by
      rcases mem_zfp m with q | q | q | q | q
      · rw [q]; rcases Z.z with ⟨z, _⟩ | ⟨_, _, _, z, _⟩ <;> exact Heap.lt_size z
      · rw [q]; exact Heap.lt_size Z.TI
      · rw [q]
        have : (n + 4 : Nat) < s.heap.objs.size := by rcases Z.z with ⟨z, _⟩ | ⟨_, _, _, z, _⟩ <;> exact Heap.lt_size z
        exact Nat.lt_of_succ_lt this
      · rw [q]; obtain ⟨_, e, _⟩ := Kd.obj Z.a1; exact Heap.lt_size e
      · rw [q]; obtain ⟨_, e, _⟩ := Kd.obj Z.a2; exact Heap.lt_size e
    exact absurd lt (by rw [q]; exact Nat.lt_irrefl _)
  rcases Z.z with ⟨z, x0, y0, t⟩ | ⟨T, f, oT, z, t, m⟩
  · refine wpAny_pyNext_zipD2_item S D1 D2 z Z.TI t s1 s2 hi1 hi2 fun u1 u2 h' tk p1 p2 z' TO' t1 t2 hT hsz hk => ?_
    have kk : ∀ c o, c ∉ zfp n → s.heap.get? c = some o → h'.get? c = some o := fun c o hc e => hk c o (fun q => hc (by simp [zfp, q])) (fun q => hc (by simp [zfp, q])) (fun q => hc (by simp [zfp, q])) (fun q => hc (by simp [zfp, q])) e
    exact hQ u1 u2 h' tk (ru1 p1) (ru2 p2) ⟨Z.lt1, Z.lt2, .inr ⟨s.heap.objs.size, false, _, z', hT, fun m => hn _ m rfl⟩, hk _ _ S.TIz S.TITO S.TIi1 S.TIi2 Z.TI, r1 _ _ t1, r2 _ _ t2⟩ hT kk
  · refine zhn_item S D1 D2 z t Z.TI s1 s2 hi1 hi2 fun u1 u2 h' tk p1 p2 z' t1 t2 hT hsz hk => ?_
    have kk : ∀ c o, c ∉ zfp n → s.heap.get? c = some o → h'.get? c = some o := fun c o hc e => hk c o (fun q => hc (by simp [zfp, q])) (fun q => hc (by simp [zfp, q])) (fun q => hc (by simp [zfp, q])) e
    exact hQ u1 u2 h' tk (ru1 p1) (ru2 p2) ⟨Z.lt1, Z.lt2, .inr ⟨T, true, _, z', kk _ _ m t, m⟩, hk _ _ S.TIz S.TIi1 S.TIi2 Z.TI, r1 _ _ t1, r2 _ _ t2⟩ hT kk
theorem ZH.done {k1 k2 : Kd} {n i : Nat} {H : Hp} {s : Shared} {xs ys : List V} {A : Around} {E} {Q : Option Value → Shared → Prop} (hh : A.handled = none) (I : Inv X pins σ H s) (hqx : k1.src X.K H xs) (hqy : k2.src X.K H ys) (hx : i ≤ xs.length) (hy : i ≤ ys.length) (he : i = xs.length ∨ i = ys.length) (Z : ZH k1 k2 n i s.heap)
    (hQ : ∀ h' tk, (∀ c o, c ∉ zfp n → s.heap.get? c = some o → h'.get? c = some o) → Q none { s with heap := h', toks := tk }) :
    wpAny (model X.prog X.w) A (pyNext (.ref (n + 4 : Nat))) Q E s := by
  have S := zip_sep Z.lt1 Z.lt2
  obtain ⟨P1, St1, D1, s1, r1, v1⟩ := Kd.draws (w := X.w) (P := X.prog) (A := A.in1) I hqx (apart1 Z.lt1 (Nat.le_refl _)) hh Z.a1
  obtain ⟨P2, St2, D2, s2, r2, v2⟩ := Kd.draws (w := X.w) (P := X.prog) (A := A.in1) I hqy (apart1 Z.lt2 (Nat.le_succ _)) hh Z.a2
  rcases Z.z with ⟨z, x0, y0, t⟩ | ⟨T, f, oT, z, t, m⟩
  · exact wpAny_pyNext_zipD2_end S D1 D2 z Z.TI t s1 s2 hx hy he fun h' tk hk => hQ h' tk fun c o hc e => hk c o (fun q => hc (by simp [zfp, q])) (fun q => hc (by simp [zfp, q])) (fun q => hc (by simp [zfp, q])) (fun q => hc (by simp [zfp, q])) e
  · exact zhn_end S D1 D2 z t Z.TI s1 s2 hx hy he fun h' tk hk => hQ h' tk fun c o hc e => hk c o (fun q => hc (by simp [zfp, q])) (fun q => hc (by simp [zfp, q])) (fun q => hc (by simp [zfp, q])) e
/-- the pairs that were made: new tuples -/
inductive Prs (H0 H : Hp) (l : Addr) : List V → List (V × V) → Prop
  | nil : Prs H0 H l [] []
  | cons {T : Addr} {x y : V} {ts : List V} {ps : List (V × V)} : H0 T = none → T ≠ l → H T = some (.tup [x, y]) → Prs H0 H l ts ps → Prs H0 H l (.ref T :: ts) ((x, y) :: ps)
theorem Prs.mono {H0 H H' : Hp} {l : Addr} (k : ∀ a o, a ≠ l → H a = some o → H' a = some o) : ∀ {ts : List V} {ps : List (V × V)}, Prs H0 H l ts ps → Prs H0 H' l ts ps
  | _, _, .nil => .nil
  | _, _, .cons a b c r => .cons a b (k _ _ b c) (Prs.mono k r)
theorem Prs.snoc {H0 H : Hp} {l T : Addr} {x y : V} (a : H0 T = none) (b : T ≠ l) (c : H T = some (.tup [x, y])) : ∀ {ts : List V} {ps : List (V × V)}, Prs H0 H l ts ps → Prs H0 H l (ts ++ [.ref T]) (ps ++ [(x, y)])
  | _, _, .nil => .cons a b c .nil
  | _, _, .cons a' b' c' r => .cons a' b' c' (Prs.snoc a b c r)
theorem Prs.length {H0 H : Hp} {l : Addr} : ∀ {ts : List V} {ps : List (V × V)}, Prs H0 H l ts ps → ts.length = ps.length
  | _, _, .nil => rfl
  | _, _, .cons _ _ _ r => by simp [Prs.length r]
theorem zloop {k1 k2 : Kd} {n : Nat} {S : Addr} {xs ys : List V} {H0 : Hp} {A : Around} {res : Value} {R : Result → Shared → Prop} (hh : A.handled = none) (hS : S ∉ zfp n) (hl : min xs.length ys.length ≤ lim) (h0S : H0 S = none) (q1 : k1.src X.K H0 xs) (q2 : k2.src X.K H0 ys)
    (hR : ∀ H' s' ts, Inv X pins σ H' s' → H' S = some (.lst ts) → Same H0 H' → Prs H0 H' S ts (xs.zip ys) → R (.ok (.ret res)) s') :
    ∀ (m i : Nat) (H : Hp) (s : Shared) (ts : List V), min xs.length ys.length - i = m → i ≤ min xs.length ys.length → Inv X pins σ H s → ZH k1 k2 n i s.heap → (∀ c ∈ zfp n, FpOk X pins H c) → H S = some (.lst ts) → Same H0 H → Prs H0 H S ts ((xs.zip ys).take i) →
    codeAny (model X.prog X.w) A (.builtin "list.extend.loop" ⟨[.ref S, .ref (n + 4 : Nat), res], []⟩) R s := by
  intro m
  induction m with
  | zero =>
    intro i H s ts hm hi I Z hf hT sm pr
    refine codeAny_builtin F.entry_extend_loop ?_
    rw [Around.under_plainId F.plain_extend_loop _]
    show wpAny _ A.in1 (pyNext (.ref (n + 4 : Nat)) >>= _) _ _ s
    refine wpAny_bind (ZH.done (A := A.in1) hh I (ItG_src sm q1) (ItG_src sm q2) (by omega) (by omega) (by omega) Z fun h' tk hk => ?_)
    refine wpAny_pure (hR H _ ts (I.turnedL (t' := tk) (ch := zfp n) (fun c o hb q => hk c o hb q) hf) hT sm ?_)
    rwa [List.take_of_length_le (by rw [List.length_zip]; omega)] at pr
  | succ m ih =>
    intro i H s ts hm hi I Z hf hT sm pr
    have hi1 : i < xs.length := by omega
    have hi2 : i < ys.length := by omega
    refine codeAny_builtin F.entry_extend_loop ?_
    rw [Around.under_plainId F.plain_extend_loop _]
    show wpAny _ A.in1 (pyNext (.ref (n + 4 : Nat)) >>= _) _ _ s
    refine wpAny_bind (ZH.item (A := A.in1) hh I (ItG_src sm q1) (ItG_src sm q2) (List.getElem?_eq_getElem hi1) (List.getElem?_eq_getElem hi2) Z fun u1 u2 h' tk r1 r2 Z' hT2 hk => ?_)
    have hTn : H s.heap.objs.size = none := I.hok.fresh (Nat.le_refl _)
    have new : ObjOk X.prog X.w (upd H s.heap.objs.size (.tup [xs[i], ys[i]])) h' s.heap.objs.size (.tup [xs[i], ys[i]]) :=
      ⟨by show 2 ≤ sizeLine; decide, [u1, u2], .cons r1 (.cons r2 .nil), ⟨_, hT2, rfl, _, rfl⟩⟩
    have I1 : Inv X pins σ (upd H s.heap.objs.size (.tup [xs[i], ys[i]])) { s with heap := h', toks := tk } := I.turnedNew (t' := tk) (ch := zfp n) (fun c o hb q => hk c o hb q) hf (Nat.le_refl _) new
    have nST : S ≠ s.heap.objs.size := fun q => by rw [q, hTn] at hT; cases hT
    have hT1 : upd H s.heap.objs.size (.tup [xs[i], ys[i]]) S = some (.lst ts) := by rw [upd_ne nST]; exact hT
    obtain ⟨zl, us, c, rs, hlen, e⟩ := I1.lstM hT1
    have hts : ts.length = i := by rw [pr.length, List.length_take, List.length_zip]; omega
    show wpAny _ A.in1 (updateSeq S (·.push (Value.ref s.heap.objs.size)) >>= _) _ _ _
    refine wpAny_bind ?_
    have I2 : Inv X pins σ (upd (upd H s.heap.objs.size (.tup [xs[i], ys[i]])) S (.lst (ts ++ [.ref s.heap.objs.size]))) { s with heap := h'.update S (Obj.mapSeq (·.push (Value.ref s.heap.objs.size))), toks := tk } :=
      I1.lset (its' := us ++ [Value.ref s.heap.objs.size]) hT1 e (by simp) (rs.append (.cons rfl .nil)) (by rw [List.length_append, List.length_singleton, ← lim_eq]; omega)
    have hnz : ∀ c ∈ zfp n, c ≠ s.heap.objs.size := fun c m q => by
      have := (hf c m)
      have lt : c < s.heap.objs.size := by
        rcases mem_zfp m with q | q | q | q | q
        · rw [q]; rcases Z.z with ⟨z, _⟩ | ⟨_, _, _, z, _⟩ <;> exact Heap.lt_size z
        · rw [q]; exact Heap.lt_size Z.TI
        · rw [q]
          have : (n + 4 : Nat) < s.heap.objs.size := by rcases Z.z with ⟨z, _⟩ | ⟨_, _, _, z, _⟩ <;> exact Heap.lt_size z
          exact Nat.lt_of_succ_lt this
        · rw [q]; obtain ⟨_, e, _⟩ := Kd.obj Z.a1; exact Heap.lt_size e
        · rw [q]; obtain ⟨_, e, _⟩ := Kd.obj Z.a2; exact Heap.lt_size e
      exact absurd lt (by rw [q]; exact Nat.lt_irrefl _)
    have hT0 : H0 s.heap.objs.size = none := sm.free hTn
    refine wpAny_updateSeq (s := { s with heap := h', toks := tk }) e rfl (wpAny_pure ⟨plainId_quiet F.plain_extend_loop _, ih (i + 1) _ _ (ts ++ [.ref s.heap.objs.size]) (by omega) (by omega) I2 ?_ (fun c m => ?_) upd_same ?_ ?_⟩)
      (by rw [List.size_toArray, ← hlen, ← lim_eq]; omega) (by show (us.toArray.push _).size ≤ sizeLine + 1; rw [Array.size_push, List.size_toArray, ← hlen, ← lim_eq]; omega)
    · exact Z'.keep S hS (fun o _ => ⟨_, Heap.get?_update_self _ e rfl⟩) fun b o hb q => (Heap.get?_update_other _ _ (fun h : S = b => hb h.symm)).trans q
    · obtain ⟨f0, f1⟩ := hf c m
      have ncS : c ≠ S := fun q => hS (by rw [← q]; exact m)
      exact ⟨by rw [upd_ne ncS, upd_ne (hnz c m)]; exact f0, f1⟩
    · intro a o ea
      rw [upd_ne (fun q => by rw [q, h0S] at ea; cases ea), upd_ne (fun q => by rw [q, hT0] at ea; cases ea)]
      exact sm a o ea
    · have et : (xs.zip ys).take (i + 1) = (xs.zip ys).take i ++ [(xs[i], ys[i])] := by
        rw [List.take_add_one, List.getElem?_zip_eq_some (z := (xs[i], ys[i])).mpr ⟨List.getElem?_eq_getElem hi1, List.getElem?_eq_getElem hi2⟩]; rfl
      rw [et]
      have hp1 : Prs H0 (upd (upd H s.heap.objs.size (.tup [xs[i], ys[i]])) S (.lst (ts ++ [.ref s.heap.objs.size]))) S ts ((xs.zip ys).take i) := pr.mono fun a o na ea => by
        rw [upd_ne na, upd_ne (fun q => by rw [q, hTn] at ea; cases ea)]; exact ea
      exact hp1.snoc hT0 (fun q => nST q.symm) (by rw [upd_ne (fun q => nST q.symm)]; exact upd_same)
end
theorem zip_no_len0 : typeLookup (.type "zip") "__len__" = pure none := am_miss_of_fast (by decide +kernel)
theorem zip_no_hint0 : typeLookup (.type "zip") "__length_hint__" = pure none := am_miss_of_fast (by decide +kernel)
section
variable {X : Cx} {pins : List (Addr × Obj)} {σ : St}
theorem ext_zip {k1 k2 : Kd} {n : Nat} {S : Addr} {xs ys : List V} {H0 H : Hp} {s : Shared} {A : Around} {res : Value} {R : Result → Shared → Prop} (hh : A.handled = none) (hS : S ∉ zfp n) (hl : min xs.length ys.length ≤ lim) (h0S : H0 S = none) (q1 : k1.src X.K H0 xs) (q2 : k2.src X.K H0 ys)
    (I : Inv X pins σ H s) (Z : ZH k1 k2 n 0 s.heap) (hf : ∀ c ∈ zfp n, FpOk X pins H c) (hT : H S = some (.lst [])) (sm : Same H0 H)
    (hR : ∀ H' s' ts, Inv X pins σ H' s' → H' S = some (.lst ts) → Same H0 H' → Prs H0 H' S ts (xs.zip ys) → R (.ok (.ret res)) s') :
    wpAny (model X.prog X.w) A.in1 (Builtin.List.listExtendWith (.ref S) (.ref (n + 4 : Nat)) res)
      (fun fin s' => match fin with | .done f => R (.ok f) s' | .again c' => c'.quiet = true ∧ codeAny (model X.prog X.w) A c' R s') (fun e s' => R (.error e) s') s := by
  have hzT : ∃ o, s.heap.get? (n + 4 : Nat) = some o ∧ o.cls = .type "zip" := by rcases Z.z with ⟨z, _⟩ | ⟨_, _, _, z, _⟩ <;> exact ⟨_, z, rfl⟩
  obtain ⟨oz, hz, hzc⟩ := hzT
  have hSI : S ≠ (n + 4 : Nat) := fun q => hS (by rw [q]; simp [zfp])
  unfold Builtin.List.listExtendWith
  refine wpAny_bind (wpAny_typeOf (T := "zip") ⟨oz, hz, hzc⟩ ?_)
  have h1 : Builtin.List.listSameRef (.ref S) (.ref (n + 4 : Nat)) = false := by simp [Builtin.List.listSameRef, hSI]
  have h2 : (Value.type "zip" == Value.type "list") = false := by decide
  have h3 : (Value.type "zip" == Value.type "tuple") = false := by decide
  simp only [h1, h2, h3, Bool.or_false, Bool.false_eq_true, if_false]
  have it : ∀ {Q : Value → Shared → Prop} {E}, Q (.ref (n + 4 : Nat)) s → wpAny (model X.prog X.w) A.in1 (pyIter (.ref (n + 4 : Nat))) Q E s := fun q => by
    rcases Z.z with ⟨z, _⟩ | ⟨_, _, _, z, _⟩
    · exact wpAny_pyIter_zip z q
    · have hT' : s.TypeIs (.ref (n + 4 : Nat)) "zip" := ⟨_, z, rfl⟩
      refine wpAny_pyIter_slot hT' F.slot_zip_iter (wpAny_call_entry F.slot_zip_iter hT' F.entry_zip_iter ?_ (F.args_zip_iter_1 _))
      show wpAny _ _ (ret (.ref (n + 4 : Nat))) _ _ s
      exact wpAny_pure ⟨_, rfl, "zip", _, hT', F.slot_zip_next.lookup, q⟩
  refine wpAny_bind (it ?_)
  refine wpAny_bind (wpAny_holding ?_)
  unfold Builtin.List.listLengthHint
  refine wpAny_bind (wpAny_specialOf ⟨oz, hz, hzc⟩ zip_no_len0 ?_)
  show wpAny _ A.in1 (specialOf (Value.ref (n + 4 : Nat)) (Str.ofString "__length_hint__") >>= _) _ _ _
  refine wpAny_bind (wpAny_specialOf ⟨oz, hz, hzc⟩ zip_no_hint0 ?_)
  refine wpAny_pure ?_
  show wpAny _ A.in1 (rule "list.extend.makes-room" >>= fun _ => Builtin.List.listTouch (.ref S) >>= fun _ =>
    again (.builtin "list.extend.loop" ⟨[.ref S, .ref (n + 4 : Nat), res], []⟩)) _ _ _
  refine wpAny_bind (wpAny_rule ?_)
  obtain ⟨zl, us, c, rs, hlen, e⟩ := I.lstM hT
  have hus : us = [] := by cases us with | nil => rfl | cons => simp at hlen
  subst hus
  refine wpAny_bind ?_
  show wpAny _ A.in1 (updateSeq S (·.push .none) >>= fun _ => updateSeq S (·.pop)) _ _ _
  refine wpAny_bind (wpAny_updateSeq e rfl ?_)
  have hS₂ := Heap.get?_update_self (Obj.mapSeq (·.push Value.none)) e rfl
  refine wpAny_updateSeq hS₂ rfl ?_
  have hS₃ := Heap.get?_update_self (Obj.mapSeq (·.pop)) hS₂ rfl
  have oth : ∀ b o, b ≠ S → s.heap.get? b = some o → ((s.heap.update S (Obj.mapSeq (·.push Value.none))).update S (Obj.mapSeq (·.pop))).get? b = some o :=
    fun b o hb e => (Heap.get?_update_other _ _ (Ne.symm hb)).trans ((Heap.get?_update_other _ _ (Ne.symm hb)).trans e)
  have I2 : Inv X pins σ (upd H S (.lst [])) { s with heap := (s.heap.update S (Obj.mapSeq (·.push Value.none))).update S (Obj.mapSeq (·.pop)) } :=
    I.write (x := S) (e := S) (t' := s.toks) (by rw [hT]; exact trivial) (.inl rfl) oth ⟨_, hS₃⟩ ⟨by show 0 ≤ sizeLine; exact Nat.zero_le _, [], _, .nil, hS₃⟩
  refine wpAny_pure ⟨plainId_quiet F.plain_extend_loop _, zloop (H0 := H0) hh hS hl h0S q1 q2 hR _ 0 _ _ [] rfl (Nat.zero_le _) I2 ?_ (fun c m => ?_) upd_same (fun a o ea => ?_) (by rw [List.take_zero]; exact .nil)⟩
  · exact Z.keep S hS (fun o _ => ⟨_, hS₃⟩) oth
  · obtain ⟨f0, f1⟩ := hf c m
    have ncS : c ≠ S := fun q => hS (by rw [← q]; exact m)
    exact ⟨by rw [upd_ne ncS]; exact f0, f1⟩
  · rw [upd_ne (fun q => by rw [q, h0S] at ea; cases ea)]
    exact sm a o ea
end
end Fx
set_option Elab.async false
set_option linter.all false
set_option maxRecDepth 100000
set_option maxHeartbeats 4000000
noncomputable section
namespace Fx
open PySem PySem.Spec L2
open PyProof.Rows (boot_zip boot_enumerate boot_list args_cons args_nil Call_)
section
variable {X : Cx} {pins : List (Addr × Obj)} {σ : St}
theorem call_listZip {k1 k2 : Kd} {n : Nat} {xs ys : List V} {H : Hp} {s : Shared} {A : Around} {Q : Value → Shared → Prop} {E} (hh : A.handled = none) (hn : n + 5 ≤ s.heap.objs.size) (hl : min xs.length ys.length ≤ lim) (q1 : k1.src X.K H xs) (q2 : k2.src X.K H ys)
    (I : Inv X pins σ H s) (Z : ZH k1 k2 n 0 s.heap) (hf : ∀ c ∈ zfp n, FpOk X pins H c)
    (hQ : ∀ H' s' ts, Inv X pins σ H' s' → H s.heap.objs.size = none → H' s.heap.objs.size = some (.lst ts) → Same H H' → Prs H H' s.heap.objs.size ts (xs.zip ys) → Q (.ref s.heap.objs.size) s') :
    wpAny (model X.prog X.w) A (call (.type "list") [.ref (n + 4 : Nat)]) Q E s := by
  have hTn : H s.heap.objs.size = none := I.fresh
  refine callType_codes (Q₁ := fun obj s₁ => obj = .ref s.heap.objs.size ∧ s₁ = { s with heap := s.heap.push { cls := .type "list", data := .seq #[] } }) F.called_list (F.typeCall_list_1 _) F.entry_list_init
    (code_list_new _ ⟨rfl, rfl⟩) fun obj s₁ h₁ => ?_
  obtain ⟨rfl, rfl⟩ := h₁
  have hS : (s.heap.push { cls := .type "list", data := .seq #[] }).get? s.heap.objs.size = some { cls := .type "list", data := .seq #[] } := Heap.get?_push_size _ rfl
  refine ⟨⟨_, hS, rfl⟩, F.args_list_init_2 _ _, ?_⟩
  show wpAny _ A.in1.in1 (do let old ← Builtin.List.listItems (.ref s.heap.objs.size); Builtin.List.listUpdate (.ref s.heap.objs.size) (fun _ => #[]); letGo old.toList.reverse; Builtin.List.listExtendWith (.ref s.heap.objs.size) (.ref (n + 4 : Nat)) .none) _ _ _
  refine wpAny_bind ?_
  unfold Builtin.List.listItems
  refine wpAny_bind (wpAny_seqItems hS rfl (wpAny_pure ?_))
  show wpAny _ _ (updateSeq s.heap.objs.size (fun _ => #[]) >>= fun _ => letGo (#[] : Array Value).toList.reverse >>= fun _ => Builtin.List.listExtendWith (.ref s.heap.objs.size) (.ref (n + 4 : Nat)) .none) _ _ _
  refine wpAny_bind (wpAny_updateSeq hS rfl ?_)
  have hS₂ := Heap.get?_update_self (Obj.mapSeq (fun _ => (#[] : Array Value))) hS rfl
  have oth : ∀ b o, b ≠ s.heap.objs.size → s.heap.get? b = some o → ((s.heap.push { cls := .type "list", data := .seq #[] }).update s.heap.objs.size (Obj.mapSeq (fun _ => (#[] : Array Value)))).get? b = some o :=
    fun b o hb e => (Heap.get?_update_other _ _ (Ne.symm hb)).trans (Heap.get?_push_of_some _ e)
  have oth2 : ∀ b o, s.heap.get? b = some o → ((s.heap.push { cls := .type "list", data := .seq #[] }).update s.heap.objs.size (Obj.mapSeq (fun _ => (#[] : Array Value)))).get? b = some o :=
    fun b o e => oth b o (Nat.ne_of_lt (Heap.lt_size e)) e
  refine wpAny_bind (wpAny_letGo ?_)
  have nS : s.heap.objs.size ∉ zfp n := fun m => by
    rcases mem_zfp m with q | q | q | q | q <;> omega
  have I1 : Inv X pins σ (upd H s.heap.objs.size (.lst [])) { s with heap := (s.heap.push { cls := .type "list", data := .seq #[] }).update s.heap.objs.size (Obj.mapSeq (fun _ => (#[] : Array Value))) } :=
    I.laid (t' := s.toks) oth2 (Nat.le_refl _) ⟨by show 0 ≤ sizeLine; exact Nat.zero_le _, [], _, .nil, hS₂⟩
  refine ext_zip (H0 := H) hh nS hl hTn q1 q2 I1 (Z.keep s.heap.objs.size nS (fun o e => absurd (Heap.lt_size e) (Nat.lt_irrefl _)) oth) (fun c m => ?_) upd_same (same_new hTn) fun H' s' ts I' hT' sm pr => ?_
  · obtain ⟨f0, f1⟩ := hf c m
    have ncS : c ≠ s.heap.objs.size := fun q => nS (by rw [← q]; exact m)
    exact ⟨by rw [upd_ne ncS]; exact f0, f1⟩
  · exact ⟨rfl, hQ H' s' ts I' hTn hT' sm pr⟩
def tLZip (K : Fg) (ta : TA) : TE := fun σ H Q => ta σ H fun vs H1 => ∃ k1 k2 xs ys, vs = [Kd.v k1, Kd.v k2] ∧ k1.src K H1 xs ∧ k2.src K H1 ys ∧ min xs.length ys.length ≤ lim ∧
  ∀ H' l ts, H1 l = none → H' l = some (.lst ts) → Same H1 H' → Prs H1 H' l ts (xs.zip ys) → Q (.ref l) H'
theorem pe_listZip {e e2 : Expr} {ta : TA} {p p2 pos pos2 : Pos} (hc : X.calm = true) (hg : Gl X "list") (hm : X.mg "list" = none) (hg2 : Gl X "zip") (hm2 : X.mg "zip" = none) (ha : PA X [e, e2] ta)
    (hs : starEach [e, e2] X.env = (false, eval e X.env) :: starEach [e2] X.env := by rfl) (hpl : (backTo pos2 (starEach [e2] X.env)).any (·.1) = false := by rfl)
    (na : starEach [.Call (.Name "zip" p2) [e, e2] [] pos2] X.env = (false, eval (.Call (.Name "zip" p2) [e, e2] [] pos2) X.env) :: starEach [] X.env := by rfl) :
    PE X (.Call (.Name "list" p) [.Call (.Name "zip" p2) [e, e2] [] pos2] [] pos) (tLZip X.K ta) := by
  refine ⟨fun pins s σ H Q I h => ?_⟩
  refine Call_ (ld_blt I hg hm boot_list (PyProof.Rows.callWith_type1 (args_cons ?_ na) na))
  refine Call_ (ld_blt I hg2 hm2 boot_zip (PyProof.Rows.callWith_type1 (thn (ha.run pos2 pins s σ H _ I h) fun us s1 ⟨vs, H1, I1, r1, q1⟩ => ?_) hs hpl))
  obtain ⟨k1, k2, xs, ys, ex, hqx, hqy, hl, q1⟩ := q1
  subst ex
  cases r1 with
  | cons r rr =>
    cases rr with
    | cons r' rr =>
      cases rr
      refine zip_new I1 hqx hqy r r' fun h' Z I2 hk hsz fp => args_nil ?_
      exact call_listZip (I1.ok.hd hc) (by show _ ≤ h'.objs.size; omega) hl hqx hqy I2 Z.zh fp fun H' s' ts I' hn hT sm pr => ⟨.ref _, H', I', rfl, q1 H' _ ts hn hT sm pr⟩
def eLZip (ms : List Arg) : EM := fun env => (evA ms env).bind fun (ds, e) => match ds with
  | [a, b] => a.zseq.bind fun xs => b.zseq.bind fun ys => if min xs.length ys.length ≤ lim then some (.ol (zipD xs ys), e) else none
  | _ => none
/-- the addresses of the pairs -/
theorem Prs.reps {K : Fg} {G H0 H : Hp} {l : Addr} (s0 : Same G H0) : ∀ {ts : List V} {xs ys : List V} {ds es : List D}, Prs H0 H l ts (xs.zip ys) → Reps K G xs ds → Reps K G ys es →
    ∃ f : List Addr, (∀ a ∈ f, H0 a = none ∧ a ≠ l ∧ ∃ o, H a = some o) ∧ Reps K (addF G H f) ts (zipD ds es)
  | ts, [], ys, _, es, p, .nil, _ => by
    cases p
    exact ⟨[], (fun a m => by cases m), Reps.nil⟩
  | ts, x :: xs, [], d :: ds, _, p, .cons _ _, .nil => by
    cases p
    exact ⟨[], (fun a m => by cases m), Reps.nil⟩
  | _, x :: xs, y :: ys, d :: ds, e :: es, .cons (T := T) hT nT hh p, .cons rd rs, .cons re res => by
    obtain ⟨f, hf, r⟩ := Prs.reps s0 p rs res
    refine ⟨T :: f, fun a m => ?_, ?_⟩
    · rcases List.mem_cons.mp m with q | m
      · subst q; exact ⟨hT, nT, _, hh⟩
      · exact hf a m
    · have sG : Same G (addF G H (T :: f)) := addF_same fun a m => by
        rcases List.mem_cons.mp m with q | m
        · subst q; exact none_of_same s0 hT
        · exact none_of_same s0 (hf a m).1
      have s2 : Same (addF G H f) (addF G H (T :: f)) := fun a o ea => by
        unfold addF at ea ⊢
        by_cases m : a ∈ f
        · rw [if_pos m] at ea; rw [if_pos (by simp [m])]; exact ea
        · rw [if_neg m] at ea
          have : a ∉ T :: f := fun z => by
            rcases List.mem_cons.mp z with q | z
            · subst q
              rw [none_of_same s0 hT] at ea; cases ea
            · exact m z
          rw [if_neg this]; exact ea
      exact .cons (.tup (by unfold addF; rw [if_pos (by simp)]; exact hh) (.cons (rd.mono sG) (.cons (re.mono sG) .nil))) (r.mono s2)
theorem ok_lzip {e e2 : Expr} {ms : List Arg} {p p2 pos pos2 : Pos} (hc : X.calm = true) (hg : Gl X "list") (hm : X.mg "list" = none) (hg2 : Gl X "zip") (hm2 : X.mg "zip" = none) (ha : PA X [e, e2] (tAr X.K ms))
    (hs : starEach [e, e2] X.env = (false, eval e X.env) :: starEach [e2] X.env := by rfl) (hpl : (backTo pos2 (starEach [e2] X.env)).any (·.1) = false := by rfl)
    (na : starEach [.Call (.Name "zip" p2) [e, e2] [] pos2] X.env = (false, eval (.Call (.Name "zip" p2) [e, e2] [] pos2) X.env) :: starEach [] X.env := by rfl) :
    EOk X (.Call (.Name "list" p) [.Call (.Name "zip" p2) [e, e2] [] pos2] [] pos) (eLZip ms) := pe_mono (pe_listZip hc hg hm hg2 hm2 (paa ha) hs hpl na) fun σ H Q ⟨env, G, fp, con, c, env', e1, k⟩ => by
  unfold eLZip at e1
  cases q : evA ms env with
  | none => simp [q] at e1
  | some y =>
    obtain ⟨as, e3⟩ := y
    simp only [q, Option.bind_some] at e1
    split at e1
    · rename_i a b
      cases q1 : a.zseq with
      | none => simp [q1] at e1
      | some xs =>
        cases q2 : b.zseq with
        | none => simp [q1, q2] at e1
        | some ys =>
          simp only [q1, q2, Option.bind_some] at e1
          split at e1
          · rename_i hl
            cases e1
            refine ⟨env, G, fp, con, _, _, q, fun vs G' H' fp' c' rv s => ?_⟩
            cases rv with
            | cons r1 rv =>
              cases rv with
              | cons r2 rv =>
                cases rv
                obtain ⟨k1, us, rfl, s1, t1⟩ := r1.kd q1
                obtain ⟨k2, ws, rfl, s2, t2⟩ := r2.kd q2
                refine ⟨k1, k2, us, ws, rfl, ItG_src c'.sub s1, ItG_src c'.sub s2, by rw [t1.length, t2.length]; exact hl, fun H2 l ts hn hT sm pr => ?_⟩
                obtain ⟨f, hf, rr⟩ := pr.reps c'.sub t1 t2
                have sub2 : Same (addF G' H2 f) H2 := addF_sub (c'.sub.trans sm)
                have gl : addF G' H2 f l = none := by
                  unfold addF
                  rw [if_neg fun m => (hf l m).2.1 rfl]
                  exact none_of_same c'.sub hn
                refine k.end_ (W := fun _ => False) (fr := [l]) c' (s.weak (fun _ u => u) fun a u => u.elim .inl fun z => z.elim) (fun a z => z.elim) (G2 := addF G' H2 f) ?_ sub2 (.ol gl hT rr)
                refine ⟨addF_same fun a m => none_of_same c'.sub (hf a m).1, fun a o ea _ => sm a o ea, fun a o ea => ?_, fun a m => ?_⟩
                · rcases addF_gr ea with z | z
                  · exact .inl z
                  · exact .inr (.inl (hf a z).1)
                · simp at m; subst m; exact .inr hn
          · cases e1
    · cases e1
end
end Fx
set_option Elab.async false
set_option linter.all false
set_option maxRecDepth 100000
set_option maxHeartbeats 4000000
noncomputable section
namespace Fx
open PySem PySem.Spec L2
open PyProof.Rows (boot_list args_cons args_nil Call_ IntsAre seqObj sortedHeap keyLt' tuples' keyKind' sortedAll)
open SrtO (Swo Srtd Stb SortableO Cmp lt2 iv)

/-! ## insertion sort -/
section
variable {α : Type}
def insr (lt : α → α → Bool) (x : α) : List α → List α
  | [] => [x]
  | y :: r => if lt y x then y :: insr lt x r else x :: y :: r
def isrt (lt : α → α → Bool) : List α → List α
  | [] => []
  | x :: r => insr lt x (isrt lt r)
theorem insr_perm (lt : α → α → Bool) (x : α) : ∀ l : List α, (insr lt x l).Perm (x :: l)
  | [] => .refl _
  | y :: r => by
    unfold insr
    split
    · exact ((insr_perm lt x r).cons y).trans (.swap ..)
    · exact .refl _
theorem isrt_perm (lt : α → α → Bool) : ∀ l : List α, (isrt lt l).Perm l
  | [] => .refl _
  | x :: r => (insr_perm lt x _).trans ((isrt_perm lt r).cons x)
theorem insr_srtd {lt : α → α → Bool} (O : Swo lt) (x : α) : ∀ {l : List α}, Srtd lt l → Srtd lt (insr lt x l)
  | [], _ => List.pairwise_singleton _ _
  | y :: r, h => by
    have hp := List.pairwise_cons.mp h
    unfold insr
    split
    · rename_i q
      refine List.pairwise_cons.mpr ⟨fun z m => ?_, insr_srtd O x hp.2⟩
      rcases List.mem_cons.mp ((insr_perm lt x r).mem_iff.mp m) with e | m
      · subst e; exact O.asym _ _ q
      · exact hp.1 z m
    · rename_i q
      have q : lt y x = false := by simpa using q
      refine List.pairwise_cons.mpr ⟨fun z m => ?_, h⟩
      rcases List.mem_cons.mp m with e | m
      · subst e; exact q
      · exact O.tr x y z q (hp.1 z m)
theorem isrt_srtd {lt : α → α → Bool} (O : Swo lt) : ∀ l : List α, Srtd lt (isrt lt l)
  | [] => List.Pairwise.nil
  | x :: r => insr_srtd O x (isrt_srtd O r)
theorem srt_uniq {lt : α → α → Bool} (O : Swo lt) (anti : ∀ x y, lt x y = false → lt y x = false → x = y) : ∀ {l m : List α}, Srtd lt l → Srtd lt m → l.Perm m → l = m
  | [], m, _, _, h => (List.Perm.eq_nil h.symm).symm
  | x :: l, [], _, _, h => absurd h.length_eq (by simp)
  | x :: l, y :: m, hl, hm, h => by
    have h1 : lt x y = false := by
      rcases List.mem_cons.mp (h.mem_iff.mp (List.mem_cons_self (a := x) (l := l))) with e | hx
      · rw [e]; exact O.refl y
      · exact (List.pairwise_cons.mp hm).1 x hx
    have h2 : lt y x = false := by
      rcases List.mem_cons.mp (h.mem_iff.mpr (List.mem_cons_self (a := y) (l := m))) with e | hy
      · rw [e]; exact O.refl x
      · exact (List.pairwise_cons.mp hl).1 y hy
    have e := anti x y h1 h2
    subst e
    rw [srt_uniq O anti (List.pairwise_cons.mp hl).2 (List.pairwise_cons.mp hm).2 h.cons_inv]
end
/-! ## orders -/
def ltI (i j : Int) : Bool := decide (i < j)
theorem swoI : Swo ltI := ⟨fun x y h => by unfold ltI at *; simp at *; omega, fun x y z a b => by unfold ltI at *; simp at *; omega⟩
theorem antiI (x y : Int) (a : ltI x y = false) (b : ltI y x = false) : x = y := by unfold ltI at *; simp at *; omega
def lexL : List Int → List Int → Bool
  | [], [] => false
  | [], _ :: _ => true
  | _ :: _, [] => false
  | x :: xs, y :: ys => if x = y then lexL xs ys else decide (x < y)
theorem lexL_asym : ∀ x y : List Int, lexL x y = true → lexL y x = false
  | [], [], h => by cases h
  | [], _ :: _, _ => rfl
  | _ :: _, [], h => by cases h
  | x :: xs, y :: ys, h => by
    unfold lexL at h ⊢
    by_cases e : x = y
    · rw [if_pos e] at h; rw [if_pos e.symm]; exact lexL_asym xs ys h
    · rw [if_neg e] at h; rw [if_neg fun z => e z.symm]; simp at h ⊢; omega
theorem lexL_tr : ∀ x y z : List Int, lexL y x = false → lexL z y = false → lexL z x = false
  | [], [], [], _, _ => rfl
  | [], [], _ :: _, _, _ => rfl
  | [], _ :: _, [], _, h => by cases h
  | [], _ :: _, _ :: _, _, _ => rfl
  | _ :: _, [], _, h, _ => by cases h
  | _ :: _, _ :: _, [], _, h => by cases h
  | x :: xs, y :: ys, z :: zs, h1, h2 => by
    unfold lexL at h1 h2 ⊢
    by_cases e1 : y = x
    · rw [if_pos e1] at h1
      by_cases e2 : z = y
      · rw [if_pos e2] at h2
        rw [if_pos (e2.trans e1)]
        exact lexL_tr xs ys zs h1 h2
      · rw [if_neg e2] at h2
        rw [if_neg (fun q => e2 (q.trans e1.symm))]
        simp at h2 ⊢; omega
    · rw [if_neg e1] at h1
      by_cases e2 : z = y
      · rw [if_neg (fun q => e1 (e2.symm.trans q))]
        simp at h1 ⊢; omega
      · rw [if_neg e2] at h2
        simp at h1 h2
        rw [if_neg (by omega)]
        simp; omega
theorem lexL_anti : ∀ x y : List Int, lexL x y = false → lexL y x = false → x = y
  | [], [], _, _ => rfl
  | [], _ :: _, h, _ => by cases h
  | _ :: _, [], _, h => by cases h
  | x :: xs, y :: ys, h1, h2 => by
    unfold lexL at h1 h2
    by_cases e : x = y
    · rw [if_pos e] at h1; rw [if_pos e.symm] at h2
      rw [e, lexL_anti xs ys h1 h2]
    · rw [if_neg e] at h1; rw [if_neg fun z => e z.symm] at h2
      simp at h1 h2; omega
theorem swoL : Swo lexL := ⟨lexL_asym, fun x y z => lexL_tr x y z⟩
theorem swo_on {α β : Type} {lt : β → β → Bool} (O : Swo lt) (f : α → β) : Swo fun x y => lt (f x) (f y) := ⟨fun x y h => O.asym _ _ h, fun x y z a b => O.tr _ _ _ a b⟩

/-! ## tuples of ints compared -/
section
variable {prog : Program} {w : World} {A : Around} {E : Value → Shared → Prop} {s : Shared}
theorem kat_ints {fin : Bool} {Q : Bool → Shared → Prop} : ∀ {us ws : List Value} {ns ms : List Int} (i : Nat), IntsAre us ns → IntsAre ws ms → fin = decide (us.length < ws.length) → Q (lexL ns ms) s → PySem.W.KatLex prog w A true fin Q (us.zip ws) i s
  | _, _, _, _, i, .nil, .nil, hf, h => PySem.W.kat_nil (by rw [hf]; exact h)
  | _, _, _, _, i, .nil, .cons .., hf, h => PySem.W.kat_nil (by rw [hf]; simpa [lexL] using h)
  | _, _, _, _, i, .cons .., .nil, hf, h => PySem.W.kat_nil (by rw [hf]; simpa [lexL] using h)
  | _, _, _, _, i, .cons x t r, .cons y u q, hf, h => by
    rw [List.zip_cons_cons]
    refine PySem.W.kat_cons (SeqAt.EqAt.int_int x t y u prog w _ _ ?_)
    refine PySem.W.kat_go (fun e1 => ?_) (fun e1 => ?_)
    · have ex : x = y := by simpa using e1
      exact PySem.W.kat_yes (kat_ints (i + 1) r q (by rw [hf]; simp) (by unfold lexL at h; rwa [if_pos ex] at h))
    · have ex : ¬ x = y := by simpa using e1
      exact PySem.W.kat_no (TS.oneLt_ints _ (by unfold lexL at h; rwa [if_neg ex] at h))
def IsTI (h : Heap) (v : Value) (ns : List Int) : Prop := ∃ a o xs n, v = .ref a ∧ h.get? a = some o ∧ o.cls = .type "tuple" ∧ o.data = .seq xs n ∧ IntsAre xs.toList ns ∧ ns ≠ []
theorem IsTI.keeps {h h' : Heap} {v : Value} {ns : List Int} (t : IsTI h v ns) (k : ∀ b o, h.get? b = some o → o.cls = .type "tuple" → h'.get? b = some o) : IsTI h' v ns := by
  obtain ⟨a, o, xs, n, e, ho, hc, r⟩ := t
  exact ⟨a, o, xs, n, e, k a o ho hc, hc, r⟩
theorem tup_cmp {vs : List Value} {k : Value → List Int} (hp : ∀ v ∈ vs, IsTI s.heap v (k v)) : Cmp prog w A s (tuples' true) (fun p => p.1 ∈ vs) (lt2 fun v u => lexL (k v) (k u)) := by
  intro p q hm hm'
  have h1 := hp _ hm
  have h2 := hp _ hm'
  show wpAny (model prog w) A (keyLt' (tuples' true) p.1 q.1) (fun r s' => s' = s ∧ r = lexL (k p.1) (k q.1)) (fun _ _ => False) s
  generalize k p.1 = ns at h1 ⊢
  generalize k q.1 = ms at h2 ⊢
  obtain ⟨a, o, xs, n, e, ho, hc, hd, hI, _⟩ := h1
  obtain ⟨a', o', xs', n', e', ho', hc', hd', hI', _⟩ := h2
  rw [e, e']
  refine PySem.W.kat_lt ho hd ho' hd' ?_
  exact kat_ints 0 hI hI' (by simp) ⟨rfl, rfl⟩
theorem tup_firsts : ∀ {vs : List Value} {k : Value → List Int}, (∀ v ∈ vs, IsTI s.heap v (k v)) → ∃ fs, PySem.W.KatTups s.heap vs fs ∧ fs.length = vs.length ∧ ∀ f ∈ fs, ∃ x t, f = Value.int x t
  | [], _, _ => ⟨[], .nil, rfl, fun f m => by cases m⟩
  | v :: vs, k, h => by
    obtain ⟨fs, h1, h2, h3⟩ := tup_firsts (vs := vs) (k := k) fun u m => h u (by simp [m])
    obtain ⟨a, o, xs, n, e, ho, hc, hd, hI, hne⟩ := h v (by simp)
    subst e
    cases hx : xs.toList with
    | nil => rw [hx] at hI; generalize k (.ref a) = z at *; cases hI; exact absurd rfl hne
    | cons f r =>
      rw [hx] at hI
      have hf : xs[0]? = some f := by rw [← Array.getElem?_toList, hx]; rfl
      refine ⟨f :: fs, .cons ho hc hd hf h1, by simp [h2], fun g m => ?_⟩
      rcases List.mem_cons.mp m with e | m
      · subst e
        generalize k (.ref a) = z at *
        cases hI with
        | cons x t _ => exact ⟨x, t, rfl⟩
      · exact h3 g m
theorem tup_sortable {a : Addr} {vs : List Value} {k : Value → List Int} (h0 : 0 < vs.length) (hp : ∀ v ∈ vs, IsTI s.heap v (k v)) (ha : ∀ o, s.heap.get? a = some o → o.cls ≠ .type "tuple") : SortableO prog w A s a vs fun v u => lexL (k v) (k u) := by
  intro h' keep
  have hp' : ∀ v ∈ vs, IsTI h' v (k v) := fun v hm => (hp v hm).keeps fun b o e c => keep b o (fun z => by subst z; exact ha o e c) e
  obtain ⟨fs, h1, h2, h3⟩ := tup_firsts (s := { s with heap := h' }) hp'
  refine ⟨tuples' true, fun Q E hq => ?_, tup_cmp hp'⟩
  refine PySem.W.kat_kind (T := .type "int") h1 (by omega) (fun f hm => ?_) (by rfl) ?_
  · obtain ⟨x, t, rfl⟩ := h3 f hm
    exact PySem.W.Looks.now
  · have e : (Value.type "int" != Value.type "tuple") = true := by first | decide +kernel | rfl | decide
    rw [e]
    exact hq
/-- sorted(l), a list or a tuple -/
theorem sorted_seq {l : Addr} {T : String} {ob : Obj} {vs : List Value} {nn : Nat} {ltv : Value → Value → Bool} {Q : Value → Shared → Prop} (O : Swo ltv) (hT : T = "list" ∨ T = "tuple") (ho : s.heap.get? l = some ob) (hc : ob.cls = .type T) (hd : ob.data = .seq vs.toArray nn) (hz : vs.length ≤ sizeLine)
    (hS : 2 ≤ vs.length → ∀ (h₁ : Heap) (a : Addr), h₁.get? a = some (seqObj "list" vs.toArray 0) → (∀ b o, s.heap.get? b = some o → b ≠ a ∧ h₁.get? b = some o) → SortableO prog w A.in1.in1 { s with heap := h₁ } a vs ltv)
    (h : ∀ (out : List Value) (h1 h' : Heap), Srtd ltv out → Stb ltv out vs → (∀ b o, s.heap.get? b = some o → h1.get? b = some o) → (∀ b o, h1.get? b = some o → h'.get? b = some o) → (∃ n, h'.get? h1.objs.size = some (seqObj "list" out.toArray n)) → Q (.ref h1.objs.size) { s with heap := h' }) :
    wpAny (model prog w) A (call (.builtin "sorted") [.ref l]) Q E s := by
  refine Calls.call_function_entry PyProof.Rows.kind_sorted PyProof.Rows.plain_sorted PyProof.Rows.entry_sorted (PyProof.Rows.args_sorted1 _) ?_
  unfold Builtin.«sorted»
  refine wpAny_bind (m := checkCount "sorted" 1 1 _) (wpAny_pure ?_)
  refine wpAny_bind (wpAny_collect_seq l hT ho hc hd (fun h1 k1 => ?_) (by rw [List.size_toArray]; exact hz))
  rw [List.toList_toArray]
  refine wpAny_bind (wpAny_newList ?_ hz)
  have hoL : (h1.push (seqObj "list" vs.toArray 0)).get? h1.objs.size = some (seqObj "list" vs.toArray 0) := Heap.get?_push_size _ rfl
  have keep : ∀ b o, s.heap.get? b = some o → b ≠ h1.objs.size ∧ (h1.push (seqObj "list" vs.toArray 0)).get? b = some o := fun b o q =>
    ⟨Nat.ne_of_lt (Heap.lt_size (k1 b o q)), Heap.get?_push_of_some _ (k1 b o q)⟩
  show wpAny _ _ _ _ _ { s with heap := h1.push (seqObj "list" vs.toArray 0) }
  refine wpAny_bind (wpAny_holding (wpAny_call_entry PyProof.Rows.slot_list_sort ⟨_, hoL, rfl⟩ PyProof.Rows.entry_list_sort (SrtO.list_sort_ord O hoL hz (fun h2 => hS h2 _ _ hoL keep) fun out hs hb => ⟨_, rfl, ?_⟩) (PyProof.Rows.args_list_sort _)))
  refine wpAny_pure ⟨_, rfl, h out _ _ hs hb k1 (fun b o e => ?_) (PyProof.Rows.sortedHeap_at hoL)⟩
  have e2 : (h1.push (seqObj "list" vs.toArray 0)).get? b = some o := Heap.get?_push_of_some _ e
  exact (PyProof.Rows.sortedHeap_old (Nat.ne_of_lt (Heap.lt_size e)) (Heap.lt_size e2)).trans e2
end

def rSortedA (K : Fg) : List V → Hp → VK → Prop := fun vs H Q => ∃ (a : Addr) (xs : List V), vs = [V.ref a] ∧ (SqL K H a xs ∨ SqT K H a xs) ∧ ((∃ ns : List Int, xs = ns.map V.int ∧ ∀ p, H p = none → Q (.ref p) (upd H p (.lst ((isrt ltI ns).map V.int)))) ∨
  ∃ k : V → List Int, (∀ x ∈ xs, ∃ t, x = V.ref t ∧ H t = some (.tup ((k x).map V.int)) ∧ k x ≠ []) ∧ ∀ ys p, ys.Perm xs → ys.map k = isrt lexL (xs.map k) → H p = none → Q (.ref p) (upd H p (.lst ys)))
section
variable {X : Cx}
theorem intsAre_of : ∀ {ns : List Int} {us : List Value}, Vals (ns.map V.int) us → IntsAre us ns := fun {ns us} h => RZ.intsAre_vals h
theorem cr_sortedA : CallR X (.builtin "sorted") (rSortedA X.K) := by
  intro pins s σ H vs us Q I r h
  obtain ⟨a, xs, rfl, hs, q⟩ := h
  obtain ⟨its, T, ob, nn, rv, hT, ho, hc, hd, hz⟩ : ∃ its T ob nn, Vals xs its ∧ (T = "list" ∨ T = "tuple") ∧ s.heap.get? a = some ob ∧ ob.cls = .type T ∧ ob.data = .seq its.toArray nn ∧ xs.length ≤ sizeLine := by
    rcases hs with hs | hs
    · obtain ⟨its, rv, p, hz⟩ := I.list hs
      obtain ⟨ob, ho, hc, n, hd⟩ := p.isList
      exact ⟨its, "list", ob, n, rv, .inl rfl, ho, hc, hd, hz⟩
    · obtain ⟨its, rv, p, hz⟩ := I.tuple hs
      obtain ⟨ob, ho, hc, n, hd⟩ := p
      exact ⟨its, "tuple", ob, n, rv, .inr rfl, ho, hc, hd, hz⟩
  have hzv : its.length ≤ sizeLine := by rw [← rv.length]; exact hz
  rw [Vals.ref1 r]
  have fin : ∀ {h1 h' : Heap} {out : List Value} {ys : List V}, (∀ b o, s.heap.get? b = some o → h1.get? b = some o) → (∀ b o, h1.get? b = some o → h'.get? b = some o) → (∃ n, h'.get? h1.objs.size = some (PyProof.Rows.seqObj "list" out.toArray n)) →
      Vals ys out → ys.length ≤ sizeLine → (∀ p, H p = none → Q (.ref p) (upd H p (.lst ys))) → EP X pins σ Q (.ref h1.objs.size) { s with heap := h' } := fun {h1 h' out ys} k1 k2 hn rv' hl' q => by
    obtain ⟨n, hn⟩ := hn
    have I1 : Inv X pins σ H { s with heap := h1 } := I.kept (t' := s.toks) k1
    exact ⟨.ref _, upd H h1.objs.size (.lst ys), I1.laid (t' := s.toks) k2 (Nat.le_refl _) ⟨hl', out, n, rv', hn⟩, rfl, q _ (I1.hok.fresh (Nat.le_refl _))⟩
  rcases q with ⟨ns, rfl, q⟩ | ⟨k, hk, q⟩
  · have hi := intsAre_of rv
    refine sorted_seq SrtO.swo_int hT ho hc hd hzv (fun h2 h₁ a' _ _ => SrtO.ints_sortable hi h2) fun out h1 h' hs hb k1 k2 hn => ?_
    obtain ⟨g1, g2, g3⟩ := SrtO.ints_out hi hs hb
    have e : out.map iv = isrt ltI ns := by
      refine srt_uniq swoI antiI ?_ (isrt_srtd swoI ns) (g2.trans (isrt_perm ltI ns).symm)
      exact g3.imp fun {x y} h => by unfold ltI; simp; exact h
    refine fin (ys := (isrt ltI ns).map V.int) k1 k2 hn (by rw [← e]; exact vals_of_ints g1) ?_ q
    rw [List.length_map, (isrt_perm ltI ns).length_eq]
    rwa [List.length_map] at hz
  · obtain ⟨e1, e2⟩ := refs_back rv fun x m => by
      obtain ⟨t, e, _⟩ := hk x m
      exact ⟨t, e⟩
    have hti : ∀ (h : Heap), (∀ b o, s.heap.get? b = some o → h.get? b = some o) → ∀ v ∈ its, IsTI h v (k (backV v)) := fun hh kk v hv => by
      obtain ⟨t, rfl⟩ := e2 v hv
      have hm : V.ref t ∈ xs := by rw [e1]; exact List.mem_map.mpr ⟨_, hv, rfl⟩
      obtain ⟨t', e, ht, hne⟩ := hk _ hm
      cases e
      obtain ⟨_, its2, r2, o, ho2, hc2, n, hd2⟩ := I.hok _ _ ht
      exact ⟨_, o, _, n, rfl, kk _ _ ho2, hc2, hd2, by rw [List.toList_toArray]; exact intsAre_of r2, hne⟩
    refine sorted_seq (swo_on swoL fun v => k (backV v)) hT ho hc hd hzv (fun h2 h₁ a' ha kk => ?_) fun out h1 h' hs hb k1 k2 hn => ?_
    · refine tup_sortable (s := { s with heap := h₁ }) (k := fun v => k (backV v)) (by omega) (hti h₁ fun b o e => (kk b o e).2) fun o e => ?_
      have e' : some o = some (PyProof.Rows.seqObj "list" its.toArray 0) := e.symm.trans ha
      cases e'
      intro c
      exact absurd (Value.type.inj c) (by decide)
    · have h3 : ∀ u ∈ out, ∃ a, u = Value.ref a := fun u hu => e2 u (hb.perm.mem_iff.mp hu)
      have hp : (out.map backV).Perm xs := by rw [e1]; exact hb.perm.map backV
      refine fin (ys := out.map backV) k1 k2 hn (vals_back h3) (by rw [hp.length_eq]; exact hz) fun p hp' => q _ p hp ?_ hp'
      refine srt_uniq swoL lexL_anti ?_ (isrt_srtd swoL _) ((hp.map k).trans (isrt_perm lexL _).symm)
      rw [List.map_map]
      exact List.pairwise_map.mpr hs
end
def intTs : List D → Option (List (List Int))
  | [] => some []
  | .tup ds :: r => (intsOf ds).bind fun ns => if ns.isEmpty then none else (intTs r).bind fun l => some (ns :: l)
  | _ :: _ => none
def dTup (ns : List Int) : D := .tup (ns.map D.int)
theorem intTs_inv : ∀ {ds : List D} {l : List (List Int)}, intTs ds = some l → ds = l.map dTup ∧ ∀ ns ∈ l, ns ≠ []
  | [], _, e => by cases e; exact ⟨rfl, fun _ m => by cases m⟩
  | d :: r, l, e => by
    cases d with
    | tup ds =>
      unfold intTs at e
      cases q : intsOf ds with
      | none => simp [q] at e
      | some ns =>
        simp only [q, Option.bind_some] at e
        split at e
        · cases e
        · rename_i hne
          cases q2 : intTs r with
          | none => simp [q2] at e
          | some l2 =>
            simp [q2] at e
            subst e
            obtain ⟨h1, h2⟩ := intTs_inv q2
            refine ⟨by rw [h1, intsOf_inv q]; rfl, fun ms m => ?_⟩
            rcases List.mem_cons.mp m with z | m
            · subst z; intro z; rw [z] at hne; exact hne rfl
            · exact h2 ms m
    | _ => cases e
/-- sorted(x): ints, or tuples of ints -/
def fSorted : List D → Option C
  | [x] => x.seq.bind fun ds => match intsOf ds with
    | some ns => some (.ol ((isrt ltI ns).map D.int))
    | none => (intTs ds).bind fun l => some (.ol ((isrt lexL l).map dTup))
  | _ => none
theorem s_sorted {K : Fg} : OpS K (rSortedA K) fSorted := fun G H vs ds c Q s rv e k => by
  unfold fSorted at e
  split at e
  · rename_i x
    cases rv with
    | cons rx rv =>
      cases rv
      cases q0 : x.seq with
      | none => simp [q0] at e
      | some es =>
        simp only [q0, Option.bind_some] at e
        obtain ⟨a, xs, rfl, hs, rs⟩ : ∃ a xs, _ = V.ref a ∧ (SqL K H a xs ∨ SqT K H a xs) ∧ Reps K G xs es := by
          cases x with
          | tup zs => cases q0; obtain ⟨a, xs, e, h, r⟩ := rx.tup; exact ⟨a, xs, e, .inr (SqT.of (s _ _ h)), r⟩
          | lst zs => cases q0; obtain ⟨a, xs, e, h, r⟩ := rx.lst s; exact ⟨a, xs, e, .inl (SqL.of h), r⟩
          | _ => cases q0
        refine ⟨a, xs, rfl, hs, ?_⟩
        split at e
        · rename_i ns q1
          cases e
          have h1 := intsOf_inv q1
          subst h1
          left
          exact ⟨ns, rs.ints_inv, fun p hp => k.ol s (reps_ints _) hp⟩
        · cases q2 : intTs es with
          | none => simp [q2] at e
          | some l =>
            simp [q2] at e
            subst e
            obtain ⟨h1, h2⟩ := intTs_inv q2
            subst h1
            right
            -- the key of a tuple, by the heap
            let kf : V → List Int := fun x => match x with
              | .ref t => match H t with
                | some (.tup ys) => ys.map fun y => match y with | .int i => i | _ => 0
                | _ => []
              | _ => []
            have key : ∀ {l : List (List Int)} {xs : List V}, Reps K G xs (l.map dTup) → xs.map kf = l ∧ ∀ x ∈ xs, ∃ t, x = V.ref t ∧ H t = some (.tup ((kf x).map V.int)) ∧ Rep K G x (dTup (kf x)) := by
              intro l
              induction l with
              | nil => intro xs r; cases r; exact ⟨rfl, fun x m => by cases m⟩
              | cons ns l ih =>
                intro xs r
                cases r with
                | cons r1 r =>
                  obtain ⟨i1, i2⟩ := ih r
                  cases r1 with
                  | tup h hr =>
                    rename_i t ys
                    have hy := hr.ints_inv
                    subst hy
                    have hH := s _ _ h
                    have ek : kf (.ref t) = ns := by
                      show (match H t with | some (.tup ys) => _ | _ => _) = ns
                      rw [hH]
                      show ((ns.map V.int).map _) = ns
                      rw [List.map_map]
                      exact List.map_id ns
                    refine ⟨by rw [List.map_cons, ek, i1], fun x m => ?_⟩
                    rcases List.mem_cons.mp m with z | m
                    · subst z
                      rw [ek]
                      exact ⟨t, rfl, hH, .tup h hr⟩
                    · exact i2 x m
            obtain ⟨k1, k2⟩ := key rs
            refine ⟨kf, fun x m => ?_, fun ys p hp hys hn => ?_⟩
            · obtain ⟨t, e1, e2, _⟩ := k2 x m
              refine ⟨t, e1, e2, h2 _ ?_⟩
              rw [← k1]; exact List.mem_map.mpr ⟨x, m, rfl⟩
            · rw [k1] at hys
              refine k.ol s ?_ hn
              rw [← hys]
              have : ∀ zs : List V, (∀ z ∈ zs, Rep K G z (dTup (kf z))) → Reps K G zs ((zs.map kf).map dTup) := by
                intro zs
                induction zs with
                | nil => intro _; exact .nil
                | cons z zs ih => intro h; exact .cons (h z (by simp)) (ih fun w m => h w (by simp [m]))
              refine this ys fun z m => ?_
              obtain ⟨_, _, _, r⟩ := k2 z (hp.mem_iff.mp m)
              exact r
  · cases e
end Fx
set_option Elab.async false
set_option linter.all false
set_option maxRecDepth 100000
set_option maxHeartbeats 4000000
noncomputable section
namespace Fx
open PySem PySem.Spec L2

/-! ## ways in the text, to a comprehension's scope -/
def nX : Expr := .Constant .none 0 ⟨0, 0, 0, 0⟩
def nS0 : Stmt := .Pass ⟨0, 0, 0, 0⟩
def nSc : Expr → Scope
  | .ListComp _ _ s _ => s | .DictComp _ _ _ s _ => s | .SetComp _ _ s _ => s | _ => default
def nElt : Expr → Expr
  | .ListComp e _ _ _ => e | _ => nX
def nIter (i : Nat) : Expr → Expr
  | .ListComp _ gs _ _ => match gs[i]? with | some g => g.iter | none => nX
  | _ => nX
def nIf (i j : Nat) : Expr → Expr
  | .ListComp _ gs _ _ => match gs[i]? with | some g => g.ifs.getD j nX | none => nX
  | _ => nX
def nFun : Expr → Expr
  | .Call f _ _ _ => f | _ => nX
def nArg (i : Nat) : Expr → Expr
  | .Call _ as _ _ => as.getD i nX | .Tuple as _ _ => as.getD i nX | .List as _ => as.getD i nX | .BoolOp _ as _ => as.getD i nX | .Compare _ _ as _ => as.getD i nX | _ => nX
def nA : Expr → Expr
  | .BinOp a _ _ _ => a | .Compare a _ _ _ => a | .UnaryOp _ a _ => a | .Subscript a _ _ => a | .Starred a _ => a | .IfExp _ a _ _ => a | .Attribute a _ _ => a | _ => nX
def nB : Expr → Expr
  | .BinOp _ _ b _ => b | .Subscript _ b _ => b | .IfExp _ _ b _ => b | _ => nX
def nT : Expr → Expr
  | .IfExp c _ _ _ => c | _ => nX
def nSt (i : Nat) (l : List Stmt) : Stmt := l.getD i nS0
def nV : Stmt → Expr
  | .Assign _ v _ => v | .AugAssign _ _ v _ => v | .Return (some v) _ => v | .Expr v _ => v | .If c _ _ _ => c | .While c _ _ _ => c | .For _ i _ _ _ => i | _ => nX
def nBody : Stmt → List Stmt
  | .If _ b _ _ => b | .While _ b _ _ => b | .For _ _ b _ _ => b | .Try b _ _ _ _ => b | _ => []
def nElse : Stmt → List Stmt
  | .If _ _ b _ => b | _ => []

def relZ (sc scope : Scope) : Scope := { scope with names := scope.names.map fun (n, k) => if k == .free && sc.kind == .function && sc.names.lookup n == some .cell then (n, .cell) else (n, k) }

/-! ## a def that is not called at this depth -/
theorem never_P {P : Program} {w : World} {K : Fg} {mg : Str → Option Value} {base : Heap} {k : Nat} {f : Addr} {fd : FuncData} {ps : List Str} : FnOk P w K mg base CX0 k f fd ps (spP K fun _ => none) :=
  ⟨(fun vs H Q E h => by obtain ⟨ds, G, _, _, c, e, _⟩ := h; exact (nomatch e)), fun A outer s H args us vs Q E _ _ _ _ h => by obtain ⟨ds, G, _, _, c, e, _⟩ := h; cases e⟩
theorem never_B {P : Program} {w : World} {K : Fg} {mg : Str → Option Value} {base : Heap} {k : Nat} {f : Addr} {fd : FuncData} {ps : List Str} : FnOk P w K mg base CX0 k f fd ps (spB K fun _ _ => none) :=
  ⟨(fun vs H Q E h => by obtain ⟨v0, vs', c0, f0, ds, G, _, _, _, _, c, c0', e, _⟩ := h; exact (nomatch e)), fun A outer s H args us vs Q E _ _ _ _ h => by obtain ⟨v0, vs', c0, f0, ds, G, _, _, _, _, c, c0', e, _⟩ := h; cases e⟩
theorem spP_law {K : Fg} {F : List D → Option C} {ns : List Int} {a : Addr} {H : Hp} {E : XK} (e : F [.scr ns] = some (.sh (.bl true))) (hS : SqL K H a (ns.map V.int)) : spP K F [.ref a] H (fun v _ => v = .bl true) E :=
  ⟨[.scr ns], H, Same.refl _, .cons (.scr hS) .nil, _, e, fun v G' H' fr _ rc _ => by have := rc.of_sh.1; cases this; rfl⟩

/-! ## a dict of the module with text keys, read -/
section
variable {X : Cx}
theorem ix_kd {d : Addr} {es : Array DictEntry} {n : Nat} (D : KDict X.K X.w d es n) :
    IxR X (fun x y H Q => ∃ (z : Str) (u0 : Value) (v0 : V), x = .ref d ∧ y = .str z ∧ PySem.W.nsIn X.K d z = some (some u0) ∧ RelV v0 u0 ∧ Q v0 H) := by
  intro value slice pins s σ H x y v u Q I rx ry h hs
  obtain ⟨z, u0, v0, rfl, rfl, e, r, q⟩ := h
  have hT : s.TypeIs v "dict" := by cases rx; exact kd_type D I
  exact PyProof.Rows.tail_any hT PySem.F.slot_dict_getitem.lookup (op_item_kd D pins s σ H (.ref d) (.str z) v u Q I rx ry ⟨z, u0, v0, rfl, rfl, e, r, q⟩) hs
theorem tab_all {tab : List (Str × D)} {P : Str → D → Prop} (h : ∀ p ∈ tab, P p.1 p.2) {z : Str} {d : D} (e : tab.lookup z = some d) : P z d := by
  induction tab with
  | nil => cases e
  | cons p r ih =>
    obtain ⟨k, v⟩ := p
    rw [List.lookup_cons] at e
    split at e
    · rename_i q
      have q : z = k := by simpa using q
      subst q
      cases e
      exact h (z, d) (by simp)
    · exact ih (fun p m => h p (by simp [m])) e
def eTab (tab : List (Str × D)) (o : Opd) : EM := fun env => (evO [o] env).bind fun (ds, e) => match ds with
  | [.str z] => (tab.lookup z).bind fun d => some (.sh d, e)
  | _ => none
theorem ok_tab {x : Str} {p pos : Pos} {ix : Expr} {d : Addr} {tab : List (Str × D)} {o : Opd} (hg : Gl X x) (hm : X.mg x = some (.ref d)) (hD : ∃ es n, KDict X.K X.w d es n) (ht : ∀ z d', tab.lookup z = some d' → ∃ u0 v0, PySem.W.nsIn X.K d z = some (some u0) ∧ RelV v0 u0 ∧ ∀ G, Rep X.K G v0 d')
    (ho : OOk X ix o) (hs : PlainIx ix := by intro _ _; rfl) (hd : (x == ("__debug__" : Str)) = false := by decide) : EOk X (.Subscript (.Name x p) ix pos) (eTab tab o) := by
  obtain ⟨es, n, D⟩ := hD
  refine pe_mono (pe_ix (ix_kd D) (pe_glob (v := .ref d) hg hm rfl hd) ho hs) fun σ H Q ⟨env, G, fp, con, c, env', e1, k⟩ => ?_
  unfold eTab at e1
  cases q : evO [o] env with
  | none => simp [q] at e1
  | some y =>
    obtain ⟨ds, e2⟩ := y
    simp only [q, Option.bind_some] at e1
    split at e1
    · rename_i z
      cases q2 : tab.lookup z with
      | none => simp [q2] at e1
      | some d' =>
        simp [q2] at e1
        obtain ⟨rfl, rfl⟩ := e1
        obtain ⟨u0, v0, h1, h2, h3⟩ := ht z d' q2
        have hz : tO X.K [o] σ H (fun vs H1 => ∃ y, vs = [y] ∧ ∃ (z : Str) (u0 : Value) (v0 : V), V.ref d = .ref d ∧ y = .str z ∧ PySem.W.nsIn X.K d z = some (some u0) ∧ RelV v0 u0 ∧ Q v0 H1) := ⟨env, G, fp, con, _, _, q, fun vs G' H' fp' c' rv s => by
          cases rv with
          | cons r1 rv =>
            cases rv; cases r1.str
            refine ⟨_, rfl, z, u0, v0, rfl, rfl, h1, h2, ?_⟩
            exact k.sh c' s (h3 G')⟩
        show (tOpd X.K o) σ H _
        refine vk_mono_opd o (fun y H1 h => ?_) (tOs1 (tO_tOs hz))
        obtain ⟨y', ey, h⟩ := h
        cases ey
        exact h
    · cases e1
end

section
variable {X : Cx} {x : Str} {pos : Pos}
theorem ok_gint {i : Int} (hg : Gl X x) (hm : ∃ t, X.mg x = some (.int i t)) (hd : (x == ("__debug__" : Str)) = false := by decide) : EOk X (.Name x pos) (eC (.int i)) := by
  obtain ⟨t, hm⟩ := hm
  exact ok_c (pe_glob (v := .int i) hg hm ⟨_, rfl⟩ hd) fun _ => .int i
theorem ok_gstr {i : Str} (hg : Gl X x) (hm : ∃ t, X.mg x = some (.str i t)) (hd : (x == ("__debug__" : Str)) = false := by decide) : EOk X (.Name x pos) (eC (.str i)) := by
  obtain ⟨t, hm⟩ := hm
  exact ok_c (pe_glob (v := .str i) hg hm ⟨_, rfl⟩ hd) fun _ => .str i
end
/-! ## x, y = a, b where the parts stay one's own -/
def sPar2c (i j : Nat) (a b : EM) : SM := fun env => (a env).bind fun (c, e) => (b e).bind fun (d, e') => if i < e'.length ∧ j < e'.length then some (.nx ((e'.set i (some c)).set j (some d))) else none
section
variable {X : Cx} {p : Nat} {pos : Pos}
theorem s_par2c {i j : Nat} {x y : Str} {a b : Expr} {ma mb : EM} {px py pt : Pos} {kt k2 pt2} (hpi : p ≤ i) (hpj : p ≤ j) (hc : X.calm = true) (hN : X.N.Nodup) (hi : X.N[i]? = some x) (hj : X.N[j]? = some y) (hij : i ≠ j)
    (hx : X.env.scope.names.lookup x = some .local) (hy : X.env.scope.names.lookup y = some .local) (ha : EOk X a ma) (hb : EOk X b mb) (hw : swappedStores [.Tuple [.Name x px, .Name y py] kt pt] (.Tuple [a, b] k2 pt2) X.env = pure (some [x, y])) (hs : swapsWithSole [.Tuple [.Name x px, .Name y py] kt pt] (.Tuple [a, b] k2 pt2) pos.line X.env = pure false := by rfl)
    (h1 : starEach [a, b] X.env = (false, eval a X.env) :: starEach [b] X.env := by rfl) (h2 : starEach [b] X.env = (false, eval b X.env) :: starEach [] X.env := by rfl) :
    SOk X p (.Assign [.Tuple [.Name x px, .Name y py] kt pt] (.Tuple [a, b] k2 pt2) pos) (sPar2c i j ma mb) := ps_mono (ps_par hc hN hi hj hij hx hy (pa_cons ha (pa_cons hb pa_nil h2) h1) hw hs) fun D σ H ⟨env, G, fp, con, o, e1, k⟩ => by
  unfold sPar2c at e1
  cases q : ma env with
  | none => simp [q] at e1
  | some y =>
    obtain ⟨c, e2⟩ := y
    simp only [q, Option.bind_some] at e1
    cases q2 : mb e2 with
    | none => simp [q2] at e1
    | some y =>
      obtain ⟨d, e3⟩ := y
      simp only [q2, Option.bind_some] at e1
      split at e1
      · rename_i hl
        cases e1
        refine ⟨env, G, fp, con, c, e2, q, fun v G1 H1 fp1 fr con1 r1 n1 s1 => ?_⟩
        refine ⟨e2, G1, fp1, con1, d, e3, q2, fun w G2 H2 fp2 fr2 con2 r2 n2 s2 => ?_⟩
        have r1' : RepC X.K G2 H2 v c fr := r1.step s2 n1
        have o1 := r1.out s2 n1
        have con3 := con2.put (i := i) hl.1 r1' fun a m j' _ z => o1 a m (.inl ⟨j', z⟩)
        have con4 := con3.put (i := j) (by simpa using hl.2) r2 fun a m j' hj z => by
          by_cases e : j' = i
          · subst e; rw [Fp.set_same] at z; exact o1 a z (.inr m)
          · rw [Fp.set_ne e] at z; exact n2 a m ⟨j', z⟩
        refine ⟨v, w, rfl, k _ _ _ _ con4 ?_ ((take_set hpj).trans (take_set hpi))⟩
        have a1 : Step G H (U fp) G2 H2 (fun a => (U fp2 a ∨ a ∈ fr2) ∨ a ∈ fr) := by
          refine s1.trans (s2.weak (fun a u => .inl u) fun a u => ?_)
          rcases u with u | u
          · exact .inl u
          · exact .inr (.inl (.inr u))
        refine a1.weak (fun _ u => u) fun a u => ?_
        rcases U_set u with u | u
        · rcases U_set u with u | u
          · exact .inl (.inl (.inl u))
          · exact .inl (.inr u)
        · exact .inl (.inl (.inr u))
      · cases e1
end
end Fx
set_option Elab.async false
set_option linter.all false
set_option maxRecDepth 100000
set_option maxHeartbeats 4000000
noncomputable section
namespace Fx
open PySem PySem.Spec L2

/-! ## chained comparisons of ints -/
section
variable {X : Cx} {a b c : Expr} {pos : Pos}
def eChain (f f' : Int → Int → Bool) (oa ob oc : Opd) : EM := fun env => (evO [oa, ob] env).bind fun (ds, e) => match ds with
  | [.int i, .int j] => if f i j then (evO [oc] e).bind fun (ds', e') => match ds' with
      | [.int l] => some (.sh (.bl (f' j l)), e')
      | _ => none
    else some (.sh (.bl false), e)
  | _ => none
def rB (f : Int → Int → Bool) : R2 := rI0 fun i j => .bl (f i j)
theorem chain_run {K : Fg} {f f' : Int → Int → Bool} {oa ob oc : Opd} {σ : St} {H : Hp} {Q : VK} (q : tE K (eChain f f' oa ob oc) σ H Q) : tChain (rB f) (rB f') (tOpd K oa) (tOpd K ob) (tOpd K oc) σ H Q := by
  obtain ⟨env, G, fp, con, c0, env', e1, k⟩ := q
  unfold eChain at e1
  cases q : evO [oa, ob] env with
  | none => simp [q] at e1
  | some y =>
    obtain ⟨ds, e2⟩ := y
    simp only [q, Option.bind_some] at e1
    split at e1
    · rename_i i j
      have z : tO K [oa, ob] σ H (fun vs H1 => ∃ x y, vs = [x, y] ∧ rB f x y H1 fun z H3 => ∃ k, z = .bl k ∧ (if k = true then tOpd K oc σ H3 fun w' H4 => rB f' y w' H4 Q else Q (.bl false) H3)) := ⟨env, G, fp, con, _, _, q, fun vs G1 H1 fp1 con1 rv s1 => by
        cases rv with
        | cons r1 rv =>
          cases rv with
          | cons r2 rv =>
            cases rv; cases r1.int; cases r2.int
            refine ⟨_, _, rfl, i, j, rfl, rfl, f i j, rfl, ?_⟩
            by_cases hf : f i j = true
            · rw [if_pos hf] at e1
              rw [if_pos hf]
              cases q2 : evO [oc] e2 with
              | none => simp [q2] at e1
              | some y =>
                obtain ⟨ds', e3⟩ := y
                simp only [q2, Option.bind_some] at e1
                split at e1
                · rename_i l
                  cases e1
                  have z2 : tO K [oc] σ H1 (fun vs H4 => ∃ w, vs = [w] ∧ rB f' (.int j) w H4 Q) := ⟨e2, G1, fp1, con1, _, _, q2, fun vs G2 H2 fp2 con2 rv s2 => by
                    cases rv with
                    | cons r3 rv =>
                      cases rv; cases r3.int
                      exact ⟨_, rfl, j, l, rfl, rfl, k.sh con2 (s1.trans s2) (.bl _)⟩⟩
                  refine vk_mono_opd oc (fun w H4 h => ?_) (tOs1 (tO_tOs z2))
                  obtain ⟨w', ew, h⟩ := h
                  cases ew
                  exact h
                · cases e1
            · rw [if_neg hf] at e1
              rw [if_neg hf]
              cases e1
              exact k.sh con1 s1 (.bl false)⟩
      refine vk_mono_opd oa (fun x H1 h1 => vk_mono_opd ob (fun y H2 h2 => ?_) h1) (tOs2 (tO_tOs z))
      obtain ⟨x', y', e, h⟩ := h2
      cases e
      exact h
    · cases e1
theorem ok_chain {op op' : CmpOp} {f f' : Int → Int → Bool} {oa ob oc : Opd} (ho : OpR X (compareOp op) (rB f)) (ho' : OpR X (compareOp op') (rB f')) (ha : OOk X a oa) (hb : OOk X b ob) (hc : OOk X c oc)
    (hm : lastMarks [op, op'] [b, c] = false := by with_unfolding_all rfl) : EOk X (.Compare a [op, op'] [b, c] pos) (eChain f f' oa ob oc) := pe_mono (pe_chain ho ho' ha hb hc hm) fun σ H Q q => chain_run q
theorem k_chain {op op' : CmpOp} {f f' : Int → Int → Bool} {oa ob oc : Opd} (ho : OpR X (compareOp op) (rB f)) (ho' : OpR X (compareOp op') (rB f')) (ha : OOk X a oa) (hb : OOk X b ob) (hc : OOk X c oc)
    (hm : lastMarks [op, op'] [b, c] = false := by with_unfolding_all rfl) : TOk X (.Compare a [op, op'] [b, c] pos) (kVal (eChain f f' oa ob oc)) := pt_mono (pt_chain ho ho' ha hb hc hm) fun σ H Q ⟨env, G, fp, con, b, env', e1, k⟩ => by
  unfold kVal at e1
  split at e1
  · rename_i b0 e0 q
    cases e1
    have q1 : tE X.K (eChain f f' oa ob oc) σ H (fun x H' => ∃ k, x = .bl k ∧ Q k H') := ⟨env, G, fp, con, _, _, q, fun v G' H' fp' fr c' r n s => by
      have r := r.of_sh.1
      cases r
      exact ⟨_, rfl, k G' H' fp' c' (weakT s)⟩⟩
    exact chain_run q1
  · cases e1
abbrev cLt (i j : Int) : Bool := decide (i < j)
abbrev cLe (i j : Int) : Bool := decide (i ≤ j)
end

/-! ## range(a, b, c) -/
def rngC (a c : Int) (n : Nat) : List D := (List.range n).map fun i => D.int (a + (i : Nat) * c)
theorem rngC_length (a c : Int) (n : Nat) : (rngC a c n).length = n := by unfold rngC; simp
theorem wlk_rngC {K : Fg} {G : Hp} (a c : Int) (n : Nat) : Wlk K (Itc a c n) (rngC a c n) G := by
  refine ⟨fun i G1 H1 hi s1 s2 => ?_, fun G1 H1 s1 s2 => ?_⟩
  · rw [rngC_length] at hi
    refine ⟨hi, fun x H2 hy => ?_⟩
    obtain ⟨e, ex⟩ := hy
    subst e ex
    exact ⟨G1, .int (a + (i : Nat) * c), by unfold rngC; simp [hi], .int _, s2, Step.refl ..⟩
  · show n ≤ _
    rw [rngC_length]
    exact Nat.le_refl _
open Classical in
def iR3 (o o' o'' : Opd) : IM := fun env => (evO [o, o', o''] env).bind fun (ds, e) => match ds with
  | [.int a, .int b, .int c] => if RgC a b c (Builtin.Range.rangeSize a b c).toNat then some (rngC a c (Builtin.Range.rangeSize a b c).toNat, e) else none
  | _ => none
theorem i_rng3 {X : Cx} {tg a b c : Expr} {o o' o'' : Opd} {p pos : Pos} (hg : Gl X "range") (hm : X.mg "range" = none) (ha : PA X [a, b, c] (tOs X.K [o, o', o'']))
    (hs : starEach [a, b, c] X.env = (false, eval a X.env) :: starEach [b, c] X.env := by rfl) (hpl : (backTo pos (starEach [b, c] X.env)).any (·.1) = false := by rfl) : IOk X tg (.Call (.Name "range" p) [a, b, c] [] pos) (iR3 o o' o'') :=
  pi_mono (pi_range3 hg hm (pao ha) hs hpl) fun σ H R ⟨env, G, fp, con, ds, env', e1, k⟩ => by
    unfold iR3 at e1
    cases q : evO [o, o', o''] env with
    | none => simp [q] at e1
    | some y =>
      obtain ⟨ds0, e2⟩ := y
      simp only [q, Option.bind_some] at e1
      split at e1
      · rename_i i j l
        split at e1
        · rename_i hn
          cases e1
          refine ⟨env, G, fp, con, _, _, q, fun vs G' H' fp' c' rv s => ?_⟩
          cases rv with
          | cons r1 rv =>
            cases rv with
            | cons r2 rv =>
              cases rv with
              | cons r3 rv =>
                cases rv; cases r1.int; cases r2.int; cases r3.int
                exact ⟨i, j, l, _, rfl, hn, k _ G' H' fp' c' s (wlk_rngC i l _)⟩
        · cases e1
      · cases e1
end Fx
set_option Elab.async false
set_option linter.all false
set_option maxRecDepth 100000
set_option maxHeartbeats 4000000
noncomputable section
namespace Fx
open PySem PySem.Spec L2

/-! ## xs[lo:hi:step] of a list -/
def pickD {α : Type} (ds : List α) (lo hi st : Option Int) : List α := (sliceRange (sliceBounds lo hi st ds.length).1 (sliceBounds lo hi st ds.length).2.1 (sliceBounds lo hi st ds.length).2.2).filterMap (ds[·]?)
theorem vals_pick {xs : List V} {us : List Value} (r : Vals xs us) (lo hi st : Option Int) : Vals (pickD xs lo hi st) (slicePick us.toArray lo hi st).toList := by
  have e : (slicePick us.toArray lo hi st).toList = pickD us lo hi st := by
    unfold slicePick pickD
    simp
  rw [e]
  unfold pickD
  rw [r.length]
  generalize sliceRange _ _ _ = ix
  induction ix with
  | nil => exact .nil
  | cons i ix ih =>
    cases h : xs[i]? with
    | none =>
      have h2 : us[i]? = none := by
        have := List.getElem?_eq_none_iff.mp h
        exact List.getElem?_eq_none (by rw [← r.length]; exact this)
      rw [List.filterMap_cons_none (f := fun x => xs[x]?) h, List.filterMap_cons_none (f := fun x => us[x]?) h2]
      exact ih
    | some x =>
      obtain ⟨u, h2, hu⟩ := r.get h
      rw [List.filterMap_cons_some (f := fun x => xs[x]?) h, List.filterMap_cons_some (f := fun x => us[x]?) h2]
      exact .cons hu ih
theorem Reps.pick {K : Fg} {G : Hp} {xs : List V} {ds : List D} (r : Reps K G xs ds) (lo hi st : Option Int) : Reps K G (pickD xs lo hi st) (pickD ds lo hi st) := by
  unfold pickD
  rw [r.length]
  generalize sliceRange _ _ _ = ix
  induction ix with
  | nil => exact .nil
  | cons i ix ih =>
    cases h : xs[i]? with
    | none =>
      have h2 : ds[i]? = none := by
        have := List.getElem?_eq_none_iff.mp h
        exact List.getElem?_eq_none (by rw [← r.length]; exact this)
      rw [List.filterMap_cons_none (f := fun x => xs[x]?) h, List.filterMap_cons_none (f := fun x => ds[x]?) h2]
      exact ih
    | some x =>
      obtain ⟨d, h2, hd⟩ := r.get h
      rw [List.filterMap_cons_some (f := fun x => xs[x]?) h, List.filterMap_cons_some (f := fun x => ds[x]?) h2]
      exact .cons hd ih
section
variable {X : Cx}
def tSl3 (K : Fg) (te : TE) (tl th ts : TO) : TE := fun σ H Q => te σ H fun x H1 => tl σ H1 fun l H2 => th σ H2 fun u H3 => ts σ H3 fun o H4 => ∃ a xs, x = .ref a ∧ SqL K H4 a xs ∧ o ≠ some 0 ∧ (pickD xs l u o).length ≤ sizeLine ∧ ∀ p, H4 p = none → Q (.ref p) (upd H4 p (.lst (pickD xs l u o)))
theorem pe_sl3 {e st : Expr} {lo hi : Option Expr} {te : TE} {tl th ts : TO} {p3 pos : Pos} (he : PE X e te) (hl : PO X lo tl) (hh : PO X hi th) (hst : PO X (some st) ts) : PE X (.Subscript e (.Slice lo hi (some st) p3) pos) (tSl3 X.K te tl th ts) := by
  refine ⟨fun pins s σ H Q I h => ?_⟩
  refine PyProof.Rows.Subscript_ (thn (he.run pins s σ H _ I h) fun v s1 ⟨x, H1, I1, r1, q1⟩ => ?_)
  refine PySem.wpAny_Slice (thn (hl.run pins s1 σ H1 _ I1 q1) fun vl s2 ⟨l, H2, I2, pl, q2⟩ => ?_)
  refine thn (hh.run pins s2 σ H2 _ I2 q2) fun vu s3 ⟨u, H3, I3, pu, q3⟩ => ?_
  refine thn (hst.run pins s3 σ H3 _ I3 q3) fun vs s4 ⟨o, H4, I4, ps, q4⟩ => ?_
  obtain ⟨a, xs, ex, hx, ho, hlen', q⟩ := q4
  subst ex
  cases r1
  have I5 : Inv X pins σ H4 { s4 with heap := s4.heap.push { cls := .type "slice", data := .fields #[vl, vu, vs] } } := I4.kept (t' := s4.toks) fun b ob q => Heap.get?_push_of_some _ q
  obtain ⟨its, r, ht, hz⟩ := I5.list hx
  have hlen := r.length
  show wpAny (model X.prog X.w) X.A (PyProof.Rows.subscriptTail e (.Slice lo hi (some st) p3) (.ref a) (.ref s4.heap.objs.size)) (EP X pins σ Q) X.xe { s4 with heap := s4.heap.push { cls := .type "slice", data := .fields #[vl, vu, vs] } }
  refine PyProof.Rows.tail_any (ops := [.ref a, .ref s4.heap.objs.size]) ht.isList.typeIs (PySem.slot_list_getitem.lookup) ?_ (by with_unfolding_all rfl)
  refine wpAny_getItem_list_slice ht.isList (Heap.IsSliceOf.new _ vl vu vs) pl pu ps ho ?_ (by rw [List.size_toArray]; omega)
  refine ⟨.ref _, _, I5.laid (t' := s4.toks) (o := .lst (pickD xs l u o)) (fun b ob q => Heap.get?_push_of_some _ q) (Nat.le_refl _) ?_, rfl, q _ (I5.hok.fresh (Nat.le_refl _))⟩
  exact ⟨hlen', (slicePick its.toArray l u o).toList, 0, vals_pick r l u o, by rw [Array.toArray_toList]; exact Heap.get?_push_size _ rfl⟩
def eSl3 (o : Opd) (lo hi st : Part) : EM := fun env => (preO [o] env).bind fun (cs, e1) => (evP lo e1).bind fun (i, e2) => (evP hi e2).bind fun (j, e3) => (evP st e3).bind fun (l, e4) => (finO e4 [o] cs).bind fun ds => match ds with
  | [.lst xs] => if l = some 0 then none else if (pickD xs i j l).length ≤ lim then some (.ol (pickD xs i j l), e4) else none
  | _ => none
theorem ok_sl3 {e st : Expr} {o : Opd} {lo hi : Option Expr} {pl ph ps : Part} {p2 pos : Pos} (h : OOk X e o) (hl : POk X lo pl) (hh : POk X hi ph) (hs : POk X (some st) ps) : EOk X (.Subscript e (.Slice lo hi (some st) p2) pos) (eSl3 o pl ph ps) :=
  pe_mono (pe_sl3 h hl hh hs) fun σ H Q ⟨env, G, fp, con, c, env', e1, k⟩ => by
    unfold eSl3 at e1
    cases q1 : preO [o] env with
    | none => simp [q1] at e1
    | some y1 =>
      obtain ⟨cs, v1⟩ := y1
      simp only [q1, Option.bind_some] at e1
      cases q2 : evP pl v1 with
      | none => simp [q2] at e1
      | some y2 =>
        obtain ⟨i, v2⟩ := y2
        simp only [q2, Option.bind_some] at e1
        cases q3 : evP ph v2 with
        | none => simp [q3] at e1
        | some y3 =>
          obtain ⟨j, v3⟩ := y3
          simp only [q3, Option.bind_some] at e1
          cases q3' : evP ps v3 with
          | none => simp [q3'] at e1
          | some y4 =>
            obtain ⟨l, v4⟩ := y4
            simp only [q3', Option.bind_some] at e1
            cases q4 : finO v4 [o] cs with
            | none => simp [q4] at e1
            | some ds =>
              simp only [q4, Option.bind_some] at e1
              split at e1
              · rename_i xs
                split at e1
                · cases e1
                · rename_i hl0
                  split at e1
                  · rename_i hlim
                    cases e1
                    have z := pre_run (K := X.K) (Q := fun vs H1 => ∃ x, vs = [x] ∧ tPart' X.K pl σ H1 fun l H2 => tPart' X.K ph σ H2 fun u H3 => tPart' X.K ps σ H3 fun o H4 => ∃ a xs, x = .ref a ∧ SqL X.K H4 a xs ∧ o ≠ some 0 ∧ (pickD xs l u o).length ≤ sizeLine ∧ ∀ p, H4 p = none → Q (.ref p) (upd H4 p (.lst (pickD xs l u o)))) [o] con q1 fun vs G1 H1 fp1 c1 p1 s1 => by
                      have : ∃ x, vs = [x] := by
                        cases p1 with
                        | slot h r => cases r; exact ⟨_, rfl⟩
                        | val a b r => cases r; exact ⟨_, rfl⟩
                      obtain ⟨x, rfl⟩ := this
                      refine ⟨x, rfl, evP_run c1 q2 fun G2 H2 fp2 c2 s2 => evP_run c2 q3 fun G3 H3 fp3 c3 s3 => evP_run c3 q3' fun G4 H4 fp4 c4 s4 => ?_⟩
                      have rv := (((p1.step s2).step s3).step s4).fin c4 q4
                      cases rv with
                      | cons r1 rv =>
                        cases rv
                        obtain ⟨a, us, rfl, hu, ru⟩ := r1.lst c4.sub
                        have rp := ru.pick i j l
                        refine ⟨a, us, rfl, SqL.of hu, hl0, by rw [rp.length, ← lim_eq]; exact hlim, fun p hp => ?_⟩
                        exact k.end_ (W := fun _ => False) (fr := [p]) c4 ((((s1.trans s2).trans s3).trans s4).weak (fun _ u => u) fun a u => u.elim .inl fun z => z.elim) (fun a z => z.elim) (Step.newH (o := .lst (pickD us i j l)) hp) (same_newH c4.sub hp) (.ol (none_of_same c4.sub hp) upd_same rp)
                    have z1 := tOs1 z
                    refine vk_mono_opd o (fun x H1 h1 => ?_) z1
                    obtain ⟨x', ex, h1⟩ := h1
                    cases ex
                    exact h1
                  · cases e1
              · cases e1
end
end Fx
set_option Elab.async false
set_option linter.all false
set_option maxRecDepth 100000
set_option maxHeartbeats 4000000
noncomputable section
namespace Fx
open PySem L2

/-! ## comprehensions over two -/
theorem asgT_len {t : Tgt} {d : D} {e e' : Env} (h : asgT t d e = some e') : e'.length = e.length := by
  have k2 : ∀ {is : List Nat} {ds : List D} {e e' : Env}, asg is ds e = some e' → e'.length = e.length := by
    intro is
    induction is with
    | nil => intro ds e e' h; cases ds with | nil => cases h; rfl | cons => simp [asg] at h
    | cons i is ih => intro ds e e' h; cases ds with
      | nil => simp [asg] at h
      | cons d ds =>
        simp only [asg] at h
        split at h
        · rw [ih h, List.length_set]
        · cases h
  cases t with
  | one i =>
    simp only [asgT] at h
    split at h
    · cases h; simp
    · cases h
  | tup is => cases d with
    | tup ds => exact k2 (show asg is ds e = some e' from h)
    | _ => simp [asgT] at h
theorem wipe_sub {vs vs1 : List Nat} {σ : St} (h : ∀ v ∈ vs1, v ∈ vs) : wipe (wipe σ vs1) vs = wipe σ vs := wipe_eq (wipe_length ..) fun j hj => wipe_out fun m => hj (h j m)
theorem inner_run {K : Fg} {vs : List Nat} {t : Tgt} {c : TM} {m : EM} {σ : St} {J : It} {ds : List D} {Ga Ha : Hp} {fpa : Fp} {e0 e3 : Env} {acc0 rs1 rs : List D} {Dl : Addr} (w : Wlk K J ds Ga) (con : Con K σ e0 Ga Ha fpa) (calm : calmE e0 vs = true) (hsub : ∀ i ∈ t.is, i ∈ vs)
    (rD0 : RepC K Ga Ha (.ref Dl) (.ol acc0) [Dl]) (nD0 : ¬ U fpa Dl) (hcomp0 : compN vs t c m ds (wipeE e0 vs) = some (rs1, e3)) (hrs : acc0 ++ rs1 = rs) (hlen : rs.length ≤ lim) {Nx : Hp → Prop}
    (k : ∀ G2 H2 fp2, Con K (wipe σ vs) e3 G2 H2 fp2 → Same Ga G2 → RepC K G2 H2 (.ref Dl) (.ol rs) [Dl] → ¬ U fp2 Dl → Step Ga Ha (fun a => U fpa a ∨ a ∈ [Dl]) G2 H2 (fun a => U fp2 a ∨ a ∈ [Dl]) → Nx H2) :
    ∃ W : Nat → Nat → Hp → Prop, (∃ m, W 0 m Ha) ∧ ∀ i mm H, W i mm H → (J.stop i H ∧ Nx H) ∨ (J.go i H ∧ ∃ Nx1 : Hp → Prop, (∀ H', Nx1 H' → ∃ m', m' < mm ∧ W (i + 1) m' H') ∧ ∀ x H', J.yld i H x H' → gT K t x (wipe σ vs) H' fun σ2 H2 => wipe σ2 vs = wipe σ vs ∧ tT K c σ2 H2 fun b H3 => if b = true then tE K m σ2 H3 fun y H4 => ∃ acc, H4 Dl = some (.lst acc) ∧ acc.length < sizeLine ∧ Nx1 (upd H4 Dl (.lst (acc ++ [y]))) else Nx1 H3) := by
  refine ⟨fun n mm H2 => n + mm = ds.length ∧ ∃ e G2 fp2 acc rest, Con K (wipe σ vs) e G2 H2 fp2 ∧ (∀ v ∈ vs, fp2 v = []) ∧ Same Ga G2 ∧ RepC K G2 H2 (.ref Dl) (.ol acc) [Dl] ∧ ¬ U fp2 Dl ∧ compN vs t c m (ds.drop n) e = some (rest, e3) ∧ acc ++ rest = rs ∧ Step Ga Ha (fun a => U fpa a ∨ a ∈ [Dl]) G2 H2 (fun a => U fp2 a ∨ a ∈ [Dl]), ?_, ?_⟩
  · exact ⟨ds.length, by simp, wipeE e0 vs, Ga, fpa, acc0, rs1, con_wipe con calm, nofp (con_wipe con calm), Same.refl _, rD0, nD0, by simpa using hcomp0, hrs, Step.refl ..⟩
  · rintro n mm H2 ⟨hnm, e, G2, fp2, acc, rest, con2, nf2, sG, rD, nD, hcomp, hacc, st⟩
    by_cases hnl : n < ds.length
    · right
      obtain ⟨hgo, hy⟩ := w.go n G2 H2 hnl sG con2.sub
      have hd : ds.drop n = ds[n] :: ds.drop (n + 1) := List.drop_eq_getElem_cons hnl
      rw [hd] at hcomp
      refine ⟨hgo, fun H3 => ∃ e G2 fp2 acc rest, Con K (wipe σ vs) e G2 H3 fp2 ∧ (∀ v ∈ vs, fp2 v = []) ∧ Same Ga G2 ∧ RepC K G2 H3 (.ref Dl) (.ol acc) [Dl] ∧ ¬ U fp2 Dl ∧ compN vs t c m (ds.drop (n + 1)) e = some (rest, e3) ∧ acc ++ rest = rs ∧ Step Ga (Ha) (fun a => U fpa a ∨ a ∈ [Dl]) G2 H3 (fun a => U fp2 a ∨ a ∈ [Dl]), fun H' w => ⟨mm - 1, by omega, by omega, w⟩, fun x H3 hx => ?_⟩
      obtain ⟨G3, d, ed, rd, sub3, s3⟩ := hy x H3 hx
      have ed' : ds[n] = d := by
        rw [List.getElem?_eq_getElem hnl] at ed
        exact Option.some.inj ed
      rw [ed'] at hcomp
      unfold compN at hcomp
      cases q1 : asgT t d e with
      | none => simp [q1] at hcomp
      | some e4 =>
        simp only [q1, Option.bind_some] at hcomp
        have ew : wipe (wipe σ vs) vs = wipe σ vs := by
          apply List.ext_getElem?
          intro j
          by_cases hj : j ∈ vs
          · have key : ∀ (ws : List Nat) (τ : St), j ∈ ws → (wipe τ ws)[j]? = if j < τ.length then some none else none := by
              intro ws
              induction ws with
              | nil => intro τ m; cases m
              | cons w ws ih =>
                intro τ m
                show ((wipe τ ws).set w none)[j]? = _
                by_cases e : w = j
                · subst e
                  by_cases hw : w < τ.length
                  · rw [if_pos hw]; exact List.getElem?_set_self (by rw [wipe_length]; exact hw)
                  · rw [if_neg hw]; exact List.getElem?_eq_none (by rw [List.length_set, wipe_length]; omega)
                · rw [List.getElem?_set_ne e]
                  rcases List.mem_cons.mp m with m | m
                  · exact absurd m.symm e
                  · exact ih τ m
            rw [key vs _ hj, key vs _ hj, wipe_length]
          · rw [wipe_out hj]
        have con3 : Con K (wipe σ vs) e G3 H3 fp2 := con2.step s3 (fun a u z => z) sub3
        have rD3 : RepC K G3 H3 (.ref Dl) (.ol acc) [Dl] := rD.step s3 fun a m z => z
        refine asgT_run (p := 0) con3 rd q1 (fun _ _ => Nat.zero_le _) fun σ4 fp4 con4 u4 _ st4 => ?_
        have hl4 : σ4.length = (wipe σ vs).length := by
          have a := con4.len
          have b := con3.len
          rw [a, b]
          have key : ∀ {t : Tgt} {d : D} {e e' : Env}, asgT t d e = some e' → e'.length = e.length := by
            intro t d e e' h
            have k2 : ∀ {is : List Nat} {ds : List D} {e e' : Env}, asg is ds e = some e' → e'.length = e.length := by
              intro is
              induction is with
              | nil => intro ds e e' h; cases ds with | nil => cases h; rfl | cons => simp [asg] at h
              | cons i is ih => intro ds e e' h; cases ds with
                | nil => simp [asg] at h
                | cons d ds =>
                  simp only [asg] at h
                  split at h
                  · rw [ih h, List.length_set]
                  · cases h
            cases t with
            | one i =>
              simp only [asgT] at h
              split at h
              · cases h; simp
              · cases h
            | tup is => cases d with
              | tup ds => exact k2 (show asg is ds e = some e' from h)
              | _ => simp [asgT] at h
          exact key q1
        refine ⟨(wipe_eq hl4 fun j hj => st4 j fun z => hj (hsub j z)).trans ew, ?_⟩
        have eq4 : wipe σ4 vs = wipe σ vs := (wipe_eq hl4 fun j hj => st4 j fun z => hj (hsub j z)).trans ew
        have nD4 : ¬ U fp4 Dl := fun z => nD (u4 _ z)
        have st4' : Step Ga (Ha) (fun a => U fpa a ∨ a ∈ [Dl]) G3 H3 (fun a => U fp4 a ∨ a ∈ [Dl]) := st.trans (s3.weak (fun _ z => z.elim) fun a u => .inr (.inl (u.elim (fun z => .inl (u4 a z)) .inr)))
        cases q2' : c e4 with
        | none => simp [q2'] at hcomp
        | some y =>
          obtain ⟨b, e5⟩ := y
          simp only [q2', Option.bind_some] at hcomp
          refine ⟨e4, G3, fp4, con4, b, e5, q2', fun G5 H5 fp5 con5 s5 => ?_⟩
          have rD5 : RepC K G5 H5 (.ref Dl) (.ol acc) [Dl] := rD3.step s5 fun a m z => by simp at m; subst m; exact nD4 z
          have nD5 : ¬ U fp5 Dl := rD3.out s5 (fun a m z => by simp at m; subst m; exact nD4 z) Dl (by simp)
          have st5 : Step Ga (Ha) (fun a => U fpa a ∨ a ∈ [Dl]) G5 H5 (fun a => U fp5 a ∨ a ∈ [Dl]) := st4'.trans (s5.weak (fun _ z => .inl z) fun a u => u.elim .inl fun z => .inr (.inl (.inr z)))
          cases b with
          | false =>
            rw [if_neg Bool.false_ne_true] at hcomp
            refine iteF ?_
            split at hcomp
            · rename_i hc5
              refine ⟨wipeE e5 vs, G5, fp5, acc, rest, by rw [← eq4]; exact con_wipe con5 hc5, nofp (con_wipe con5 hc5), (sG.trans s3.sG).trans s5.sG, rD5, nD5, hcomp, hacc, st5⟩
            · cases hcomp
          | true =>
            rw [if_pos rfl] at hcomp
            refine iteT ?_
            cases q3 : m e5 with
            | none => simp [q3] at hcomp
            | some y =>
              obtain ⟨cx, e6⟩ := y
              simp only [q3, Option.bind_some] at hcomp
              split at hcomp
              · rename_i hc6
                cases q4 : compN vs t c m (ds.drop (n + 1)) (wipeE e6 vs) with
                | none => simp [q4] at hcomp
                | some y =>
                  obtain ⟨r', e7⟩ := y
                  simp [q4] at hcomp
                  obtain ⟨rfl, rfl⟩ := hcomp
                  refine ⟨e5, G5, fp5, con5, cx, e6, q3, fun v G6 H6 fp6 fr con6 r6 n6 s6 => ?_⟩
                  have nm : ∀ a ∈ [Dl], ¬ U fp5 a := fun a m z => by simp at m; subst m; exact nD5 z
                  have rD6 := rD5.step s6 nm
                  have nD6 := rD5.out s6 nm Dl (by simp)
                  have con7 := con_fz2 con6 r6 n6
                  have sf := Step.fz r6
                  have rD7 : RepC K (addF G6 H6 fr) H6 (.ref Dl) (.ol acc) [Dl] := rD6.step sf fun a m z => by simp at m; subst m; exact nD6 (.inr z)
                  have rx := r6.fz
                  cases rD7 with
                  | @ol _ xsD _ gD hD7 rsD =>
                    refine ⟨_, hD7, ?_, ?_⟩
                    · rw [rsD.length]
                      have := compN_len q4
                      have hrl : acc.length < rs.length := by rw [← hacc]; simp
                      rw [← lim_eq]
                      omega
                    · have hsub7 : Same (addF G6 H6 fr) H6 := addF_sub con6.sub
                      have sW : Step (addF G6 H6 fr) H6 (fun a => a ∈ [Dl]) (addF G6 H6 fr) (upd H6 Dl (.lst (xsD ++ [v]))) (fun a => a ∈ [Dl]) := ⟨fun _ _ h => h, fun a o e z => by rw [upd_ne (fun q => z (by simp [q]))]; exact e, fun a o e => .inl e, fun a z => .inl z⟩
                      have con8 : Con K (wipe σ vs) (wipeE e6 vs) (addF G6 H6 fr) (upd H6 Dl (.lst (xsD ++ [v]))) fp6 := by
                        rw [← eq4]
                        exact (con_wipe con7 hc6).step sW (fun a u z => by simp at z; subst z; exact nD6 (.inl u)) fun a o e => by
                          rw [upd_ne (fun q => by rw [q, gD] at e; cases e)]; exact hsub7 a o e
                      refine ⟨wipeE e6 vs, addF G6 H6 fr, fp6, acc ++ [cx.fz], r', con8, nofp (con_wipe con7 hc6), ((sG.trans s3.sG).trans s5.sG).trans (s6.sG.trans sf.sG), .ol gD upd_same (rsD.append (.cons rx .nil)), fun z => nD6 (.inl z), q4, by simpa using hacc, ?_⟩
                      refine st5.trans (?_ : Step G5 H5 (fun a => U fp5 a ∨ a ∈ [Dl]) _ _ (fun a => U fp6 a ∨ a ∈ [Dl]))
                      have a1 : Step G5 H5 (fun a => U fp5 a ∨ a ∈ [Dl]) G6 H6 (fun a => U fp6 a ∨ a ∈ fr ∨ a ∈ [Dl]) := s6.weak (fun _ z => .inl z) fun a u => by
                        rcases u with u | u | u
                        · exact .inl (.inl u)
                        · exact .inl (.inr u)
                        · exact .inr (.inl (.inr u))
                      have a2 : Step G6 H6 (fun a => U fp6 a ∨ a ∈ fr ∨ a ∈ [Dl]) (addF G6 H6 fr) H6 (fun a => U fp6 a ∨ a ∈ [Dl]) := sf.weak (fun _ z => .inr (.inl z)) fun a u => u.elim (fun z => .inr (.inl (.inl z))) fun z => .inr (.inl (.inr (.inr z)))
                      have a3 : Step (addF G6 H6 fr) H6 (fun a => U fp6 a ∨ a ∈ [Dl]) (addF G6 H6 fr) (upd H6 Dl (.lst (xsD ++ [v]))) (fun a => U fp6 a ∨ a ∈ [Dl]) := sW.weak (fun _ z => .inr z) fun a u => .inr (.inl u)
                      exact (a1.trans a2).trans a3
              · cases hcomp
    · left
      have e0 : n = ds.length := by omega
      subst e0
      rw [List.drop_length] at hcomp
      cases hcomp
      rw [List.append_nil] at hacc
      subst hacc
      exact ⟨w.stop G2 H2 sG con2.sub, k G2 H2 fp2 con2 sG rD nD st⟩
def comp2N (vs : List Nat) (t : Tgt) (c : TM) (i1 : IM) (vs1 : List Nat) (t1 : Tgt) (c1 : TM) (m : EM) : List D → Env → Option (List D × Env)
  | [], env => some ([], env)
  | d :: ds, env => (asgT t d env).bind fun e1 => (c e1).bind fun (b, e2) => if b then (i1 e2).bind fun (ds1, e3) => if calmE e3 vs1 then (compN vs1 t1 c1 m ds1 (wipeE e3 vs1)).bind fun (rs1, e4) => if calmE e4 vs then (comp2N vs t c i1 vs1 t1 c1 m ds (wipeE e4 vs)).bind fun (rs, e5) => some (rs1 ++ rs, e5) else none else none
      else if calmE e2 vs then comp2N vs t c i1 vs1 t1 c1 m ds (wipeE e2 vs) else none
def eComp2 (vs : List Nat) (t : Tgt) (i : IM) (c : TM) (i1 : IM) (vs1 : List Nat) (t1 : Tgt) (c1 : TM) (m : EM) : EM := fun env => (i env).bind fun (ds, e1) => if calmE e1 vs then (comp2N vs t c i1 vs1 t1 c1 m ds (wipeE e1 vs)).bind fun (rs, e2) => if rs.length ≤ lim then some (.ol rs, restE e1 vs e2) else none else none
theorem comp2_run {K : Fg} {vs vs1 : List Nat} {t t1 : Tgt} {i i1 : IM} {c c1 : TM} {m : EM} {σ : St} {H : Hp} {Q : VK} (hn : vs.Nodup) (hsub : ∀ i ∈ t.is, i ∈ vs) (hsub1 : ∀ i ∈ t1.is, i ∈ vs1) (hv : ∀ i ∈ vs1, i ∈ vs) (q : tE K (eComp2 vs t i c i1 vs1 t1 c1 m) σ H Q) :
    tLc2 (tI K i) (gT K t) (tT K c) (tI K i1) (gT K t1) (tT K c1) (tE K m) vs vs1 σ H Q := by
  obtain ⟨env, G, fp, con, c0, env', e1, k⟩ := q
  unfold eComp2 at e1
  cases q : i env with
  | none => simp [q] at e1
  | some y =>
    obtain ⟨ds, e2⟩ := y
    simp only [q, Option.bind_some] at e1
    split at e1
    · rename_i hcalm
      cases q2 : comp2N vs t c i1 vs1 t1 c1 m ds (wipeE e2 vs) with
      | none => simp [q2] at e1
      | some y =>
        obtain ⟨rs, e3⟩ := y
        simp only [q2, Option.bind_some] at e1
        split at e1
        · rename_i hlen
          cases e1
          refine ⟨env, G, fp, con, ds, e2, q, fun J G1 H1 fp1 con1 s1 w => fun Dl hD => ?_⟩
          have GD : G1 Dl = none := none_of_same con1.sub hD
          refine ⟨fun n mm H2 => n + mm = ds.length ∧ ∃ e G2 fp2 acc rest, Con K (wipe σ vs) e G2 H2 fp2 ∧ (∀ v ∈ vs, fp2 v = []) ∧ Same G1 G2 ∧ RepC K G2 H2 (.ref Dl) (.ol acc) [Dl] ∧ ¬ U fp2 Dl ∧ comp2N vs t c i1 vs1 t1 c1 m (ds.drop n) e = some (rest, e3) ∧ acc ++ rest = rs ∧ Step G1 (upd H1 Dl (.lst [])) (fun a => U fp1 a ∨ a ∈ [Dl]) G2 H2 (fun a => U fp2 a ∨ a ∈ [Dl]), ?_, ?_⟩
          · refine ⟨ds.length, by simp, wipeE e2 vs, G1, fp1, [], rs, ?_, ?_, Same.refl _, .ol GD upd_same .nil, ?_, by simpa using q2, rfl, Step.refl ..⟩
            · exact (con_wipe con1 hcalm).step (Step.newH (o := .lst []) hD) (fun a u z => z) (same_newH con1.sub hD)
            · exact nofp (con_wipe con1 hcalm)
            · intro u
              obtain ⟨j, mj⟩ := u
              have : ∃ x, e2[j]? = some (some x) := by
                refine Classical.byContradiction fun no => ?_
                have e := con1.nil j fun x e => no ⟨x, e⟩
                rw [e] at mj; cases mj
              obtain ⟨x, ex⟩ := this
              obtain ⟨_, _, rx⟩ := con1.rep j x ex
              obtain ⟨_, o, eo⟩ := rx.mem Dl mj
              rw [eo] at hD; cases hD
          · rintro n mm H2 ⟨hnm, e, G2, fp2, acc, rest, con2, nf2, sG, rD, nD, hcomp, hacc, st⟩
            by_cases hnl : n < ds.length
            · right
              obtain ⟨hgo, hy⟩ := w.go n G2 H2 hnl sG con2.sub
              have hd : ds.drop n = ds[n] :: ds.drop (n + 1) := List.drop_eq_getElem_cons hnl
              rw [hd] at hcomp
              refine ⟨hgo, fun H3 => ∃ e G2 fp2 acc rest, Con K (wipe σ vs) e G2 H3 fp2 ∧ (∀ v ∈ vs, fp2 v = []) ∧ Same G1 G2 ∧ RepC K G2 H3 (.ref Dl) (.ol acc) [Dl] ∧ ¬ U fp2 Dl ∧ comp2N vs t c i1 vs1 t1 c1 m (ds.drop (n + 1)) e = some (rest, e3) ∧ acc ++ rest = rs ∧ Step G1 (upd H1 Dl (.lst [])) (fun a => U fp1 a ∨ a ∈ [Dl]) G2 H3 (fun a => U fp2 a ∨ a ∈ [Dl]), fun H' w => ⟨mm - 1, by omega, by omega, w⟩, fun x H3 hx => ?_⟩
              obtain ⟨G3, d, ed, rd, sub3, s3⟩ := hy x H3 hx
              have ed' : ds[n] = d := by
                rw [List.getElem?_eq_getElem hnl] at ed
                exact Option.some.inj ed
              rw [ed'] at hcomp
              unfold comp2N at hcomp
              cases q1 : asgT t d e with
              | none => simp [q1] at hcomp
              | some e4 =>
                simp only [q1, Option.bind_some] at hcomp
                have ew : wipe (wipe σ vs) vs = wipe σ vs := wipe_sub fun _ m => m
                have con3 : Con K (wipe σ vs) e G3 H3 fp2 := con2.step s3 (fun a u z => z) sub3
                have rD3 : RepC K G3 H3 (.ref Dl) (.ol acc) [Dl] := rD.step s3 fun a m z => z
                refine asgT_run (p := 0) con3 rd q1 (fun _ _ => Nat.zero_le _) fun σ4 fp4 con4 u4 _ st4 => ?_
                have hl4 : σ4.length = (wipe σ vs).length := by
                  have a := con4.len
                  have b := con3.len
                  rw [a, b]
                  exact asgT_len q1
                have eq4 : wipe σ4 vs = wipe σ vs := (wipe_eq hl4 fun j hj => st4 j fun z => hj (hsub j z)).trans ew
                refine ⟨eq4, ?_⟩
                have nD4 : ¬ U fp4 Dl := fun z => nD (u4 _ z)
                have st4' : Step G1 (upd H1 Dl (.lst [])) (fun a => U fp1 a ∨ a ∈ [Dl]) G3 H3 (fun a => U fp4 a ∨ a ∈ [Dl]) := st.trans (s3.weak (fun _ z => z.elim) fun a u => .inr (.inl (u.elim (fun z => .inl (u4 a z)) .inr)))
                cases q2' : c e4 with
                | none => simp [q2'] at hcomp
                | some y =>
                  obtain ⟨b, e5⟩ := y
                  simp only [q2', Option.bind_some] at hcomp
                  refine ⟨e4, G3, fp4, con4, b, e5, q2', fun G5 H5 fp5 con5 s5 => ?_⟩
                  have rD5 : RepC K G5 H5 (.ref Dl) (.ol acc) [Dl] := rD3.step s5 fun a m z => by simp at m; subst m; exact nD4 z
                  have nD5 : ¬ U fp5 Dl := rD3.out s5 (fun a m z => by simp at m; subst m; exact nD4 z) Dl (by simp)
                  have st5 : Step G1 (upd H1 Dl (.lst [])) (fun a => U fp1 a ∨ a ∈ [Dl]) G5 H5 (fun a => U fp5 a ∨ a ∈ [Dl]) := st4'.trans (s5.weak (fun _ z => .inl z) fun a u => u.elim .inl fun z => .inr (.inl (.inr z)))
                  cases b with
                  | false =>
                    rw [if_neg Bool.false_ne_true] at hcomp
                    refine iteF ?_
                    split at hcomp
                    · rename_i hc5
                      refine ⟨wipeE e5 vs, G5, fp5, acc, rest, by rw [← eq4]; exact con_wipe con5 hc5, nofp (con_wipe con5 hc5), (sG.trans s3.sG).trans s5.sG, rD5, nD5, hcomp, hacc, st5⟩
                    · cases hcomp
                  | true =>
                    rw [if_pos rfl] at hcomp
                    refine iteT ?_
                    cases q3 : i1 e5 with
                    | none => simp [q3] at hcomp
                    | some y =>
                      obtain ⟨ds1, e6⟩ := y
                      simp only [q3, Option.bind_some] at hcomp
                      split at hcomp
                      · rename_i hc6
                        cases q4 : compN vs1 t1 c1 m ds1 (wipeE e6 vs1) with
                        | none => simp [q4] at hcomp
                        | some y =>
                          obtain ⟨rs1, e7⟩ := y
                          simp only [q4, Option.bind_some] at hcomp
                          split at hcomp
                          · rename_i hc7
                            cases q5 : comp2N vs t c i1 vs1 t1 c1 m (ds.drop (n + 1)) (wipeE e7 vs) with
                            | none => simp [q5] at hcomp
                            | some y =>
                              obtain ⟨restO, e8⟩ := y
                              simp [q5] at hcomp
                              obtain ⟨rfl, rfl⟩ := hcomp
                              refine ⟨e5, G5, fp5, con5, ds1, e6, q3, fun J1 G6 H6 fp6 con6 s6 w6 => ?_⟩
                              have nm : ∀ a ∈ [Dl], ¬ U fp5 a := fun a m z => by simp at m; subst m; exact nD5 z
                              have rD6 := rD5.step s6 nm
                              have nD6 := rD5.out s6 nm Dl (by simp)
                              have st6 : Step G1 (upd H1 Dl (.lst [])) (fun a => U fp1 a ∨ a ∈ [Dl]) G6 H6 (fun a => U fp6 a ∨ a ∈ [Dl]) := st5.trans (s6.weak (fun _ z => .inl z) fun a u => u.elim .inl fun z => .inr (.inl (.inr z)))
                              refine inner_run (rs := acc ++ rs1) w6 con6 hc6 hsub1 rD6 nD6 q4 rfl (by have : (acc ++ (rs1 ++ restO)).length ≤ lim := by rw [hacc]; exact hlen
                                                                                                       simp at this ⊢; omega) fun G7 H7 fp7 con7 sG7 rD7 nD7 st7 => ?_
                              have cw := con_wipe con7 hc7
                              rw [wipe_sub hv, eq4] at cw
                              exact ⟨wipeE e7 vs, G7, fp7, acc ++ rs1, restO, cw, nofp cw, (((sG.trans s3.sG).trans s5.sG).trans s6.sG).trans sG7, rD7, nD7, q5, by rw [List.append_assoc]; exact hacc, st6.trans st7⟩
                          · cases hcomp
                      · cases hcomp
            · left
              have e0 : n = ds.length := by omega
              subst e0
              rw [List.drop_length] at hcomp
              cases hcomp
              rw [List.append_nil] at hacc
              subst hacc
              refine ⟨w.stop G2 H2 sG con2.sub, ?_⟩
              refine k (.ref Dl) G2 H2 fp2 [Dl] (con_rest con1 hn hcalm sG nf2 con2) rD (fun a m z => by simp at m; subst m; exact nD z) ?_
              refine s1.trans (?_ : Step G1 H1 (U fp1) G2 H2 (fun a => U fp2 a ∨ a ∈ [Dl]))
              have a1 : Step G1 H1 (U fp1) G1 (upd H1 Dl (.lst [])) (fun a => U fp1 a ∨ a ∈ [Dl]) := (Step.newH (o := .lst []) hD).weak (fun _ z => z.elim) fun a u => u.elim (fun z => .inr (.inl z)) .inl
              exact a1.trans st
        · cases e1
    · cases e1
section
variable {X : Cx} {p : Nat} {elt tg iter tg1 iter1 : Expr} {ifs ifs1 : List Expr} {scope : Scope} {pos spos : Pos} {t t1 : Tgt} {i i1 : IM} {c c1 : TM} {m : EM} {vs1 : List Nat}
theorem ok_comp2 (own : List (Str × Nat)) (vs1 : List Nat) (hc : X.calm = true) (hN : X.N.Nodup) (hi : IOk X tg iter i) (ok : BlkOk X.N X.env.scope scope own) (hg : Blk X scope fun Y => GOk Y tg t) (ht : Blk X scope fun Y => PTsOk Y ifs c) (hi1 : Blk X scope fun Y => IOk Y tg1 iter1 i1) (hg1 : Blk X scope fun Y => GOk Y tg1 t1) (ht1 : Blk X scope fun Y => PTsOk Y ifs1 c1) (he : Blk X scope fun Y => EOk Y elt m)
    (hn : (own.map (·.2)).Nodup := by decide) (hsub : ∀ i ∈ t.is, i ∈ own.map (·.2) := by decide) (hsub1 : ∀ i ∈ t1.is, i ∈ vs1 := by decide) (hv : ∀ i ∈ vs1, i ∈ own.map (·.2) := by decide) (hs : ∀ x, foldedSetIterable iter X.env x = pure x := by intro _; rfl) (hs1 : ∀ env x, foldedSetIterable iter1 env x = pure x := by intro _ _; rfl) :
    EOk X (.ListComp elt [⟨tg, iter, ifs, 0⟩, ⟨tg1, iter1, ifs1, 0⟩] scope pos) (eComp2 (own.map (·.2)) t i c i1 vs1 t1 c1 m) :=
  pe_mono (pe_lc2 (g := gT X.K t) (tt := tT X.K c) (te := tE X.K m) (wi1 := tI X.K i1) (g1 := gT X.K t1) (tt1 := tT X.K c1) hc hN hi ok hv hg ht hi1 hg1 ht1 he hs hs1) fun σ H Q q => comp2_run hn hsub hsub1 hv q
theorem s_setc2 (own : List (Str × Nat)) (vs1 : List Nat) {j : Nat} {y : Str} {py : Pos} (hp : p ≤ j) (hc : X.calm = true) (hN : X.N.Nodup) (hy : X.N[j]? = some y) (hyl : X.env.scope.names.lookup y = some .local)
    (hsw : swapsWith (.ListComp elt [⟨tg, iter, ifs, 0⟩, ⟨tg1, iter1, ifs1, 0⟩] scope pos) (some (.Name y py)) spos.line X.env = pure true) (hi : IOk X tg iter i) (ok : BlkOk X.N X.env.scope scope own) (hg : Blk X scope fun Y => GOk Y tg t) (ht : Blk X scope fun Y => PTsOk Y ifs c) (hi1 : Blk X scope fun Y => IOk Y tg1 iter1 i1) (hg1 : Blk X scope fun Y => GOk Y tg1 t1) (ht1 : Blk X scope fun Y => PTsOk Y ifs1 c1) (he : Blk X scope fun Y => EOk Y elt m)
    (hn : (own.map (·.2)).Nodup := by decide) (hsub : ∀ i ∈ t.is, i ∈ own.map (·.2) := by decide) (hsub1 : ∀ i ∈ t1.is, i ∈ vs1 := by decide) (hv : ∀ i ∈ vs1, i ∈ own.map (·.2) := by decide) (hs : ∀ x, foldedSetIterable iter X.env x = pure x := by intro _; rfl) (hs1 : ∀ env x, foldedSetIterable iter1 env x = pure x := by intro _ _; rfl) :
    SOk X p (.Assign [.Name y py] (.ListComp elt [⟨tg, iter, ifs, 0⟩, ⟨tg1, iter1, ifs1, 0⟩] scope pos) spos) (sSet j (eComp2 (own.map (·.2)) t i c i1 vs1 t1 c1 m)) :=
  ps_mono (ps_setLc2 (g := gT X.K t) (tt := tT X.K c) (te := tE X.K m) (wi1 := tI X.K i1) (g1 := gT X.K t1) (tt1 := tT X.K c1) hc hN hy hyl hsw hi ok hv hg ht hi1 hg1 ht1 he hs hs1) fun D σ H q => comp2_run hn hsub hsub1 hv (sSet_run hp q)
end
end Fx
set_option Elab.async false
set_option linter.all false
set_option maxRecDepth 100000
set_option maxHeartbeats 4000000
noncomputable section
namespace Fx
open PySem L2
/-! ## dict comprehensions (keys: ints, texts) -/
def dcN (vs : List Nat) (t : Tgt) (c : TM) (mk mv : EM) : List D → List (Key × D) → Env → Option (List (Key × D) × Env)
  | [], acc, env => some (acc, env)
  | d :: ds, acc, env => (asgT t d env).bind fun e1 => (c e1).bind fun (b, e2) => if b then (mk e2).bind fun (x, e3) => (keyD x.fz).bind fun k => (mv e3).bind fun (y, e4) => if calmE e4 vs = true ∧ acc.length < lim then dcN vs t c mk mv ds (putD acc k y.fz) (wipeE e4 vs) else none
      else if calmE e2 vs then dcN vs t c mk mv ds acc (wipeE e2 vs) else none
def eDC (vs : List Nat) (t : Tgt) (i : IM) (c : TM) (mk mv : EM) : EM := fun env => (i env).bind fun (ds, e1) => if calmE e1 vs then (dcN vs t c mk mv ds [] (wipeE e1 vs)).bind fun (rs, e2) => some (.odk rs, restE e1 vs e2) else none
theorem dc_run {K : Fg} {vs : List Nat} {t : Tgt} {i : IM} {c : TM} {mk mv : EM} {σ : St} {H : Hp} {Q : VK} (hn : vs.Nodup) (hsub : ∀ i ∈ t.is, i ∈ vs) (q : tE K (eDC vs t i c mk mv) σ H Q) :
    tDc (tI K i) (gT K t) (tT K c) (tE K mk) (tE K mv) vs σ H Q := by
  obtain ⟨env, G, fp, con, c0, env', e1, k⟩ := q
  unfold eDC at e1
  cases q : i env with
  | none => simp [q] at e1
  | some y =>
    obtain ⟨ds, e2⟩ := y
    simp only [q, Option.bind_some] at e1
    split at e1
    · rename_i hcalm
      cases q2 : dcN vs t c mk mv ds [] (wipeE e2 vs) with
      | none => simp [q2] at e1
      | some y =>
        obtain ⟨rs, e3⟩ := y
        simp only [q2, Option.bind_some] at e1
        · cases e1
          refine ⟨env, G, fp, con, ds, e2, q, fun J G1 H1 fp1 con1 s1 w => fun Dl hD => ?_⟩
          have GD : G1 Dl = none := none_of_same con1.sub hD
          refine ⟨fun n mm H2 => n + mm = ds.length ∧ ∃ e G2 fp2 acc, Con K (wipe σ vs) e G2 H2 fp2 ∧ (∀ v ∈ vs, fp2 v = []) ∧ Same G1 G2 ∧ RepC K G2 H2 (.ref Dl) (.odk acc) [Dl] ∧ ¬ U fp2 Dl ∧ dcN vs t c mk mv (ds.drop n) acc e = some (rs, e3) ∧ Step G1 (upd H1 Dl (.dK [])) (fun a => U fp1 a ∨ a ∈ [Dl]) G2 H2 (fun a => U fp2 a ∨ a ∈ [Dl]), ?_, ?_⟩
          · refine ⟨ds.length, by simp, wipeE e2 vs, G1, fp1, [], ?_, ?_, Same.refl _, .odk GD upd_same .nil, ?_, by simpa using q2, Step.refl ..⟩
            · exact (con_wipe con1 hcalm).step (Step.newH (o := .dK []) hD) (fun a u z => z) (same_newH con1.sub hD)
            · exact nofp (con_wipe con1 hcalm)
            · intro u
              obtain ⟨j, mj⟩ := u
              have : ∃ x, e2[j]? = some (some x) := by
                refine Classical.byContradiction fun no => ?_
                have e := con1.nil j fun x e => no ⟨x, e⟩
                rw [e] at mj; cases mj
              obtain ⟨x, ex⟩ := this
              obtain ⟨_, _, rx⟩ := con1.rep j x ex
              obtain ⟨_, o, eo⟩ := rx.mem Dl mj
              rw [eo] at hD; cases hD
          · rintro n mm H2 ⟨hnm, e, G2, fp2, acc, con2, nf2, sG, rD, nD, hcomp, st⟩
            by_cases hnl : n < ds.length
            · right
              obtain ⟨hgo, hy⟩ := w.go n G2 H2 hnl sG con2.sub
              have hd : ds.drop n = ds[n] :: ds.drop (n + 1) := List.drop_eq_getElem_cons hnl
              rw [hd] at hcomp
              refine ⟨hgo, fun H3 => ∃ e G2 fp2 acc, Con K (wipe σ vs) e G2 H3 fp2 ∧ (∀ v ∈ vs, fp2 v = []) ∧ Same G1 G2 ∧ RepC K G2 H3 (.ref Dl) (.odk acc) [Dl] ∧ ¬ U fp2 Dl ∧ dcN vs t c mk mv (ds.drop (n + 1)) acc e = some (rs, e3) ∧ Step G1 (upd H1 Dl (.dK [])) (fun a => U fp1 a ∨ a ∈ [Dl]) G2 H3 (fun a => U fp2 a ∨ a ∈ [Dl]), fun H' w => ⟨mm - 1, by omega, by omega, w⟩, fun x H3 hx => ?_⟩
              obtain ⟨G3, d, ed, rd, sub3, s3⟩ := hy x H3 hx
              have ed' : ds[n] = d := by
                rw [List.getElem?_eq_getElem hnl] at ed
                exact Option.some.inj ed
              rw [ed'] at hcomp
              unfold dcN at hcomp
              cases q1 : asgT t d e with
              | none => simp [q1] at hcomp
              | some e4 =>
                simp only [q1, Option.bind_some] at hcomp
                have ew : wipe (wipe σ vs) vs = wipe σ vs := wipe_sub fun _ m => m
                have con3 : Con K (wipe σ vs) e G3 H3 fp2 := con2.step s3 (fun a u z => z) sub3
                have rD3 : RepC K G3 H3 (.ref Dl) (.odk acc) [Dl] := rD.step s3 fun a m z => z
                refine asgT_run (p := 0) con3 rd q1 (fun _ _ => Nat.zero_le _) fun σ4 fp4 con4 u4 _ st4 => ?_
                have hl4 : σ4.length = (wipe σ vs).length := by
                  have a := con4.len
                  have b := con3.len
                  rw [a, b]
                  exact asgT_len q1
                have eq4 : wipe σ4 vs = wipe σ vs := (wipe_eq hl4 fun j hj => st4 j fun z => hj (hsub j z)).trans ew
                refine ⟨eq4, ?_⟩
                have nD4 : ¬ U fp4 Dl := fun z => nD (u4 _ z)
                have st4' : Step G1 (upd H1 Dl (.dK [])) (fun a => U fp1 a ∨ a ∈ [Dl]) G3 H3 (fun a => U fp4 a ∨ a ∈ [Dl]) := st.trans (s3.weak (fun _ z => z.elim) fun a u => .inr (.inl (u.elim (fun z => .inl (u4 a z)) .inr)))
                cases q2' : c e4 with
                | none => simp [q2'] at hcomp
                | some y =>
                  obtain ⟨b, e5⟩ := y
                  simp only [q2', Option.bind_some] at hcomp
                  refine ⟨e4, G3, fp4, con4, b, e5, q2', fun G5 H5 fp5 con5 s5 => ?_⟩
                  have rD5 : RepC K G5 H5 (.ref Dl) (.odk acc) [Dl] := rD3.step s5 fun a m z => by simp at m; subst m; exact nD4 z
                  have nD5 : ¬ U fp5 Dl := rD3.out s5 (fun a m z => by simp at m; subst m; exact nD4 z) Dl (by simp)
                  have st5 : Step G1 (upd H1 Dl (.dK [])) (fun a => U fp1 a ∨ a ∈ [Dl]) G5 H5 (fun a => U fp5 a ∨ a ∈ [Dl]) := st4'.trans (s5.weak (fun _ z => .inl z) fun a u => u.elim .inl fun z => .inr (.inl (.inr z)))
                  cases b with
                  | false =>
                    rw [if_neg Bool.false_ne_true] at hcomp
                    refine iteF ?_
                    split at hcomp
                    · rename_i hc5
                      refine ⟨wipeE e5 vs, G5, fp5, acc, by rw [← eq4]; exact con_wipe con5 hc5, nofp (con_wipe con5 hc5), (sG.trans s3.sG).trans s5.sG, rD5, nD5, hcomp, st5⟩
                    · cases hcomp
                  | true =>
                    rw [if_pos rfl] at hcomp
                    refine iteT ?_
                    cases q3 : mk e5 with
                    | none => simp [q3] at hcomp
                    | some y =>
                      obtain ⟨ck, e6⟩ := y
                      simp only [q3, Option.bind_some] at hcomp
                      cases qk : keyD ck.fz with
                      | none => simp [qk] at hcomp
                      | some key =>
                        simp only [qk, Option.bind_some] at hcomp
                        cases q4 : mv e6 with
                        | none => simp [q4] at hcomp
                        | some y =>
                          obtain ⟨cv, e7⟩ := y
                          simp only [q4, Option.bind_some] at hcomp
                          split at hcomp
                          · rename_i hc7
                            obtain ⟨hc7, hal⟩ := hc7
                            refine ⟨e5, G5, fp5, con5, ck, e6, q3, fun vk G6 H6 fp6 frk con6 r6 n6 s6 => ?_⟩
                            have nm : ∀ a ∈ [Dl], ¬ U fp5 a := fun a m z => by simp at m; subst m; exact nD5 z
                            have rD6 := rD5.step s6 nm
                            have nD6 := rD5.out s6 nm Dl (by simp)
                            have con6' := con_fz2 con6 r6 n6
                            have sf := Step.fz r6
                            have rD6' : RepC K (addF G6 H6 frk) H6 (.ref Dl) (.odk acc) [Dl] := rD6.step sf fun a m z => by simp at m; subst m; exact nD6 (.inr z)
                            have ek := keyD_of r6.fz qk
                            refine ⟨e6, _, fp6, con6', cv, e7, q4, fun vv G7 H7 fp7 frv con7 r7 n7 s7 => ?_⟩
                            have nm2 : ∀ a ∈ [Dl], ¬ U fp6 a := fun a m z => by simp at m; subst m; exact nD6 (.inl z)
                            have rD7 := rD6'.step s7 nm2
                            have nD7 := rD6'.out s7 nm2 Dl (by simp)
                            have con7' := con_fz2 con7 r7 n7
                            have sf7 := Step.fz r7
                            have rD8 : RepC K (addF G7 H7 frv) H7 (.ref Dl) (.odk acc) [Dl] := rD7.step sf7 fun a m z => by simp at m; subst m; exact nD7 (.inr z)
                            have rx := r7.fz
                            have st8 : Step G1 (upd H1 Dl (.dK [])) (fun a => U fp1 a ∨ a ∈ [Dl]) (addF G7 H7 frv) H7 (fun a => U fp7 a ∨ a ∈ [Dl]) := by
                              have a1 : Step G5 H5 (fun a => U fp5 a ∨ a ∈ [Dl]) (addF G6 H6 frk) H6 (fun a => U fp6 a ∨ a ∈ [Dl]) := by
                                have b1 : Step G5 H5 (fun a => U fp5 a ∨ a ∈ [Dl]) G6 H6 (fun a => U fp6 a ∨ a ∈ frk ∨ a ∈ [Dl]) := s6.weak (fun _ z => .inl z) fun a u => by
                                  rcases u with u | u | u
                                  · exact .inl (.inl u)
                                  · exact .inl (.inr u)
                                  · exact .inr (.inl (.inr u))
                                exact b1.trans (sf.weak (fun _ z => .inr (.inl z)) fun a u => u.elim (fun z => .inr (.inl (.inl z))) fun z => .inr (.inl (.inr (.inr z))))
                              have a2 : Step (addF G6 H6 frk) H6 (fun a => U fp6 a ∨ a ∈ [Dl]) (addF G7 H7 frv) H7 (fun a => U fp7 a ∨ a ∈ [Dl]) := by
                                have b1 : Step (addF G6 H6 frk) H6 (fun a => U fp6 a ∨ a ∈ [Dl]) G7 H7 (fun a => U fp7 a ∨ a ∈ frv ∨ a ∈ [Dl]) := s7.weak (fun _ z => .inl z) fun a u => by
                                  rcases u with u | u | u
                                  · exact .inl (.inl u)
                                  · exact .inl (.inr u)
                                  · exact .inr (.inl (.inr u))
                                exact b1.trans (sf7.weak (fun _ z => .inr (.inl z)) fun a u => u.elim (fun z => .inr (.inl (.inl z))) fun z => .inr (.inl (.inr (.inr z))))
                              exact (st5.trans a1).trans a2
                            cases rD8 with
                            | @odk _ xsD _ gD hD7 rsD =>
                              refine ⟨xsD, key, ek, hD7, by rw [repK_len rsD, ← lim_eq]; exact hal, ?_⟩
                              have hsub7 : Same (addF G7 H7 frv) H7 := addF_sub con7.sub
                              have sW : Step (addF G7 H7 frv) H7 (fun a => a ∈ [Dl]) (addF G7 H7 frv) (upd H7 Dl (.dK (putK xsD key vv))) (fun a => a ∈ [Dl]) := ⟨fun _ _ h => h, fun a o e z => by rw [upd_ne (fun q => z (by simp [q]))]; exact e, fun a o e => .inl e, fun a z => .inl z⟩
                              have con8 : Con K (wipe σ vs) (wipeE e7 vs) (addF G7 H7 frv) (upd H7 Dl (.dK (putK xsD key vv))) fp7 := by
                                rw [← eq4]
                                exact (con_wipe con7' hc7).step sW (fun a u z => by simp at z; subst z; exact nD7 (.inl u)) fun a o e => by
                                  rw [upd_ne (fun q => by rw [q, gD] at e; cases e)]; exact hsub7 a o e
                              refine ⟨wipeE e7 vs, addF G7 H7 frv, fp7, putD acc key cv.fz, con8, nofp (con_wipe con7' hc7), (((sG.trans s3.sG).trans s5.sG).trans ((s6.sG.trans sf.sG).trans s7.sG)).trans sf7.sG, .odk gD upd_same (putK_of rx rsD), fun z => nD7 (.inl z), hcomp, ?_⟩
                              exact st8.trans (sW.weak (fun _ z => .inr z) fun a u => .inr (.inl u))
                          · cases hcomp
            · left
              have e0 : n = ds.length := by omega
              subst e0
              rw [List.drop_length] at hcomp
              cases hcomp
              refine ⟨w.stop G2 H2 sG con2.sub, ?_⟩
              refine k (.ref Dl) G2 H2 fp2 [Dl] (con_rest con1 hn hcalm sG nf2 con2) rD (fun a m z => by simp at m; subst m; exact nD z) ?_
              refine s1.trans (?_ : Step G1 H1 (U fp1) G2 H2 (fun a => U fp2 a ∨ a ∈ [Dl]))
              have a1 : Step G1 H1 (U fp1) G1 (upd H1 Dl (.dK [])) (fun a => U fp1 a ∨ a ∈ [Dl]) := (Step.newH (o := .dK []) hD).weak (fun _ z => z.elim) fun a u => u.elim (fun z => .inr (.inl z)) .inl
              exact a1.trans st
    · cases e1
section
variable {X : Cx} {kx vx tg iter : Expr} {ifs : List Expr} {scope : Scope} {pos : Pos} {t : Tgt} {i : IM} {c : TM} {mk mv : EM}
theorem ok_dc (own : List (Str × Nat)) (hc : X.calm = true) (hN : X.N.Nodup) (hi : IOk X tg iter i) (ok : BlkOk X.N X.env.scope scope own) (hg : Blk X scope fun Y => GOk Y tg t) (ht : Blk X scope fun Y => PTsOk Y ifs c) (hk : Blk X scope fun Y => EOk Y kx mk) (he : Blk X scope fun Y => EOk Y vx mv)
    (hn : (own.map (·.2)).Nodup := by decide) (hsub : ∀ i ∈ t.is, i ∈ own.map (·.2) := by decide) (hs : ∀ x, foldedSetIterable iter X.env x = pure x := by intro _; rfl) :
    EOk X (.DictComp kx vx [⟨tg, iter, ifs, 0⟩] scope pos) (eDC (own.map (·.2)) t i c mk mv) :=
  pe_mono (pe_dc (g := gT X.K t) (tt := tT X.K c) (tk := tE X.K mk) (tv := tE X.K mv) hc hN hi ok hg ht hk he hs) fun σ H Q q => dc_run hn hsub q
end
end Fx
set_option Elab.async false
set_option linter.all false
set_option maxRecDepth 100000
set_option maxHeartbeats 4000000
noncomputable section
namespace Fx
open PySem L2

/-! ## reckoning with the functions -/
def getC (env : Env) (i : Nat) : Option C := match env[i]? with
  | some (some c) => some c
  | _ => none
theorem getC_some {env : Env} {i : Nat} {c : C} : getC env i = some c ↔ env[i]? = some (some c) := by
  unfold getC
  cases h : env[i]? with
  | none => simp
  | some x => cases x <;> simp
@[simp] theorem getC_z {c : C} {r : Env} : getC (some c :: r) 0 = some c := rfl
@[simp] theorem getC_zn {r : Env} : getC (none :: r) 0 = none := rfl
@[simp] theorem getC_s {x : Option C} {r : Env} {i : Nat} : getC (x :: r) (i + 1) = getC r i := rfl
section
variable {env : Env} {i : Nat} {d : D} {m m' : EM} {o o' : Opd}
theorem m_getC {α : Type} {f : C → Option α} : (match env[i]? with | some (some c) => f c | _ => none) = (getC env i).bind f := by
  unfold getC
  cases h : env[i]? with
  | none => rfl
  | some x => cases x <;> rfl
@[simp] theorem ev_C : eC d env = some (.sh d, env) := rfl
@[simp] theorem ev_Slot : eSlot i env = (getC env i).bind fun c => some (.sh c.fz, env.set i (some (.sh c.fz))) := m_getC
@[simp] theorem ev_Move : eMove i env = (getC env i).bind fun c => some (c, env.set i none) := m_getC
@[simp] theorem fz_sh : (C.sh d).fz = d := rfl
@[simp] theorem fz_ol {ds : List D} : (C.ol ds).fz = .lst ds := rfl
@[simp] theorem fz_oll {ds : List (List D)} : (C.oll ds).fz = .lst (ds.map D.lst) := rfl
@[simp] theorem vw_sh : (C.sh d).vw = some d := rfl
@[simp] theorem vw_ol {ds : List D} : (C.ol ds).vw = some (.lst ds) := rfl
@[simp] theorem vw_odk {ds} : (C.odk ds).vw = some (.dk ds) := rfl
@[simp] theorem vw_odt {ds} : (C.odt ds).vw = some (.dt ds) := rfl
@[simp] theorem pre_nil : preO [] env = some ([], env) := rfl
@[simp] theorem pre_s {r : List Opd} : preO (.slot i :: r) env = (getC env i).bind fun _ => (preO r env).bind fun (xs, e) => some (.sh .non :: xs, e) := m_getC (f := fun _ => (preO r env).bind fun (xs, e) => some (.sh .non :: xs, e))
@[simp] theorem pre_v {r : List Opd} : preO (.val m :: r) env = (m env).bind fun (c, e) => (preO r e).bind fun (xs, e') => some (c :: xs, e') := rfl
@[simp] theorem fin_nil {xs : List C} : finO env [] xs = some [] := by cases xs <;> rfl
@[simp] theorem fin_s {r : List Opd} {x : C} {xs : List C} : finO env (.slot i :: r) (x :: xs) = (getC env i).bind fun c => c.vw.bind fun d => (finO env r xs).bind fun ds => some (d :: ds) := m_getC (f := fun c => c.vw.bind fun d => (finO env r xs).bind fun ds => some (d :: ds))
@[simp] theorem fin_v {r : List Opd} {x : C} {xs : List C} : finO env (.val m :: r) (x :: xs) = x.vw.bind fun d => (finO env r xs).bind fun ds => some (d :: ds) := rfl
@[simp] theorem ev_Os {os : List Opd} : evO os env = (preO os env).bind fun (cs, e) => (finO e os cs).bind fun ds => some (ds, e) := rfl
@[simp] theorem ev_O {f : List D → Option C} {os : List Opd} : eO f os env = (evO os env).bind fun (ds, e) => (f ds).bind fun c => some (c, e) := rfl
@[simp] theorem evA_nil : evA [] env = some ([], env) := rfl
@[simp] theorem evA_one {r : List Arg} : evA (.one m :: r) env = (m env).bind fun (c, e) => (evA r e).bind fun (ds, e') => some (c.fz :: ds, e') := rfl
@[simp] theorem evA_star {r : List Arg} : evA (.star m :: r) env = (m env).bind fun (c, e) => c.fz.seq.bind fun xs => (evA r e).bind fun (ds, e') => some (xs ++ ds, e') := rfl
@[simp] theorem ev_Tup {ms : List Arg} : eTup ms env = (evA ms env).bind fun (ds, e) => if ds.length ≤ lim then some (.sh (.tup ds), e) else none := rfl
@[simp] theorem ev_Lst {ms : List Arg} : eLst ms env = (evA ms env).bind fun (ds, e) => if ds.length ≤ lim then some (.ol ds, e) else none := rfl
@[simp] theorem ev_If {t : TM} : eIf t m m' env = (t env).bind fun (x, e) => if x then m e else m' e := rfl
@[simp] theorem ev_Call {F : List D → Option C} {ms : List Arg} : eCall F ms env = (evA ms env).bind fun (ds, e) => (F ds).bind fun c => some (c, e) := rfl
@[simp] theorem ev_CallB {F : C → List D → Option (C × C)} {ms : List Arg} : eCallB F i ms env = (getC env i).bind fun _ => (evA ms env).bind fun (ds, e) => (getC e i).bind fun c0 => (F c0 ds).bind fun (c, c0') => some (c, e.set i (some c0')) := by
  refine Eq.trans (m_getC (f := fun _ => (evA ms env).bind fun (ds, e) => match e[i]? with
    | some (some c0) => (F c0 ds).bind fun (c, c0') => some (c, e.set i (some c0'))
    | _ => none)) ?_
  congr 1
  funext _
  congr 1
  funext ⟨ds, e⟩
  exact m_getC
@[simp] theorem ev_MethL {F : List D → List D → Option (C × List D)} {ms : List Arg} : eMethL F i ms env = (getC env i).bind fun c => match c with
  | .ol _ => (evA ms env).bind fun (ds, e) => (getC e i).bind fun c0 => match c0 with
    | .ol zs => (F zs ds).bind fun (c, zs') => some (c, e.set i (some (.ol zs')))
    | _ => none
  | _ => none := by
  unfold eMethL getC
  cases h : env[i]? with
  | none => rfl
  | some x => cases x with
    | none => rfl
    | some c => cases c with
      | ol ds =>
        show eCallB (olOnly F) i ms env = _
        rw [ev_CallB]
        rw [getC_some.mpr h]
        simp only [Option.bind_some]
        congr 1
        funext ⟨ds, e⟩
        unfold getC
        cases h2 : e[i]? with
        | none => rfl
        | some y => cases y with
          | none => rfl
          | some c => cases c with
            | ol zs =>
              show ((F zs ds).bind fun (c, ys) => some (c, C.ol ys)).bind _ = (F zs ds).bind _
              cases F zs ds <;> rfl
            | _ => rfl
      | _ => rfl
@[simp] theorem k_Val : kVal m env = (m env).bind fun (c, e) => match c with | .sh (.bl b) => some (b, e) | _ => none := by
  unfold kVal
  cases m env with
  | none => rfl
  | some x => obtain ⟨c, e⟩ := x; cases c with
    | sh d => cases d <;> rfl
    | _ => rfl
@[simp] theorem k_And {a b : TM} : kAnd a b env = (a env).bind fun (x, e) => if x then b e else some (false, e) := rfl
@[simp] theorem k_Or {a b : TM} : kOr a b env = (a env).bind fun (x, e) => if x then some (true, e) else b e := rfl
@[simp] theorem k_Not {a : TM} : kNot a env = (a env).bind fun (x, e) => some (!x, e) := rfl
@[simp] theorem k_Yes : kYes env = some (true, env) := rfl
@[simp] theorem s_Nx : sNx env = some (.nx env) := rfl
@[simp] theorem s_No : sNo env = none := rfl
@[simp] theorem s_Seq {a b : SM} : sSeq a b env = (a env).bind fun o => match o with | .nx e => b e | .rt c e => some (.rt c e) | .bk e => some (.bk e) | .ct e => some (.ct e) := by
  unfold sSeq
  congr 1
  funext o
  cases o <;> rfl
@[simp] theorem s_If {t : TM} {a b : SM} : sIf t a b env = (t env).bind fun (x, e) => if x then a e else b e := rfl
@[simp] theorem s_Set : sSet i m env = (m env).bind fun (c, e) => if i < e.length then some (.nx (e.set i (some c))) else none := rfl
@[simp] theorem s_Ret : sRet m env = (m env).bind fun (c, e) => some (.rt c e) := rfl
@[simp] theorem s_Drop : sDrop m env = (m env).bind fun (_, e) => some (.nx e) := rfl
@[simp] theorem s_Put {t : Tg} : sPut t m env = (m env).bind fun (c, e) => (asgG t c.fz e).bind fun e' => some (.nx e') := rfl
@[simp] theorem s_For {t : Tgt} {it : IM} {b : SM} : sFor t it b env = (it env).bind fun (ds, e) => forN t b ds e := rfl
@[simp] theorem s_Par2 {j : Nat} : sPar2c i j m m' env = (m env).bind fun (c, e) => (m' e).bind fun (d, e') => if i < e'.length ∧ j < e'.length then some (.nx ((e'.set i (some c)).set j (some d))) else none := rfl
@[simp] theorem s_Par {is : List Nat} {ms : List Arg} : sPar is ms env = (evA ms env).bind fun (ds, e) => (asg is ds e).bind fun e' => some (.nx e') := rfl
@[simp] theorem asg_nil : asg [] [] env = some env := rfl
@[simp] theorem asg_cons {is : List Nat} {ds : List D} : asg (i :: is) (d :: ds) env = if i < env.length then asg is ds (env.set i (some (.sh d))) else none := rfl
@[simp] theorem asgT_one : asgT (.one i) d env = if i < env.length then some (env.set i (some (.sh d))) else none := rfl
@[simp] theorem asgT_tup {is : List Nat} {ds : List D} : asgT (.tup is) (.tup ds) env = asg is ds env := rfl
@[simp] theorem asgG_nm : asgG (.nm i) d env = if i < env.length then some (env.set i (some (.sh d))) else none := rfl
@[simp] theorem asgG_sb : asgG (.sb i o) d env = (getC env i).bind fun _ => (evO [o] env).bind fun (ds, e) => match ds with
    | [y] => (getC e i).bind fun c0 => (putC c0 y d).bind fun c1 => some (e.set i (some c1))
    | _ => none := by
  refine Eq.trans (m_getC (f := fun _ => (evO [o] env).bind fun (ds, e) => match ds, e[i]? with
      | [y], some (some c0) => (putC c0 y d).bind fun c1 => some (e.set i (some c1))
      | _, _ => none)) ?_
  congr 1
  funext _
  congr 1
  funext ⟨ds, e⟩
  rcases ds with _ | ⟨y, _ | ⟨z, r⟩⟩
  · rfl
  · show (match [y], e[i]? with | [y], some (some c0) => (putC c0 y d).bind fun c1 => some (e.set i (some c1)) | _, _ => none) = (getC e i).bind fun c0 => (putC c0 y d).bind fun c1 => some (e.set i (some c1))
    cases h : e[i]? with
    | none => unfold getC; rw [h]; rfl
    | some x => cases x with
      | none => unfold getC; rw [h]; rfl
      | some c => rw [getC_some.mpr h]; rfl
  · rfl
@[simp] theorem asgGs_nil : asgGs [] [] env = some env := rfl
@[simp] theorem asgGs_cons {t : Tg} {ts : List Tg} {ds : List D} : asgGs (t :: ts) (d :: ds) env = (asgG t d env).bind fun e => asgGs ts ds e := rfl
@[simp] theorem s_Unp {ts : List Tg} : sUnp ts m env = (m env).bind fun (c, e) => match c.fz with | .tup ds => (asgGs ts ds e).bind fun e' => some (.nx e') | _ => none := by
  unfold sUnp; rfl
@[simp] theorem s_UnpL {ts : List Tg} : sUnpL ts m env = (m env).bind fun (c, e) => match c.fz with | .lst ds => (asgGs ts ds e).bind fun e' => some (.nx e') | _ => none := by
  unfold sUnpL; rfl
@[simp] theorem evI_v : evI (.val m) env = (m env).bind fun (c, e) => match c with | .sh (.int n) => some (n, e) | _ => none := by
  unfold evI
  show (match m env with | some (.sh (.int n), e) => some (n, e) | _ => none) = _
  cases m env with
  | none => rfl
  | some x => obtain ⟨c, e⟩ := x; cases c with
    | sh d => cases d <;> rfl
    | _ => rfl
@[simp] theorem evI_s : evI (.slot i) env = (getC env i).bind fun c => match c with | .sh (.int n) => some (n, env) | _ => none := by
  unfold evI getC
  show (match env[i]? with | some (some (.sh (.int n))) => some (n, env) | _ => none) = _
  cases env[i]? with
  | none => rfl
  | some x => cases x with
    | none => rfl
    | some c => cases c with
      | sh d => cases d <;> rfl
      | _ => rfl
@[simp] theorem evP_no : evP .no env = some (none, env) := rfl
@[simp] theorem evP_at : evP (.at_ o) env = (evI o env).bind fun (n, e) => some (some n, e) := by unfold evP; rfl
@[simp] theorem ev_Sl {lo hi : Part} : eSl o lo hi env = (preO [o] env).bind fun (cs, e1) => (evP lo e1).bind fun (i, e2) => (evP hi e2).bind fun (j, e3) => (finO e3 [o] cs).bind fun ds => match ds with
  | [d] => (fSl d i j).bind fun c => some (c, e3)
  | _ => none := rfl
@[simp] theorem i_V : iV m env = (m env).bind fun (c, e) => c.fz.seq.bind fun ds => some (ds, e) := rfl
@[simp] theorem seq_lst {ds : List D} : (D.lst ds).seq = some ds := rfl
@[simp] theorem seq_tup {ds : List D} : (D.tup ds).seq = some ds := rfl
@[simp] theorem zseq_lst {ds : List D} : (D.lst ds).zseq = some ds := rfl
@[simp] theorem zseq_tup {ds : List D} : (D.tup ds).zseq = some ds := rfl
@[simp] theorem zseq_str {x : Str} : (D.str x).zseq = some (x.cps.toList.map fun c => .str ⟨#[c]⟩) := rfl
@[simp] theorem i_R1 : iR1 o env = (evO [o] env).bind fun (ds, e) => match ds with
  | [.int n] => if okR n then some (rng 0 n, e) else none
  | _ => none := rfl
@[simp] theorem i_R2 : iR2 o o' env = (evO [o, o'] env).bind fun (ds, e) => match ds with
  | [.int a, .int b] => if okR a && okR b then some (rng a b, e) else none
  | _ => none := rfl
@[simp] theorem ev_LZip {ms : List Arg} : eLZip ms env = (evA ms env).bind fun (ds, e) => match ds with
  | [a, b] => a.zseq.bind fun xs => b.zseq.bind fun ys => if min xs.length ys.length ≤ lim then some (.ol (zipD xs ys), e) else none
  | _ => none := rfl
@[simp] theorem ev_Isi {bs : List String} : eIsi bs o env = (evO [o] env).bind fun (ds, e) => match ds with
  | [d] => if d.noScr then some (.sh (.bl (d.isT bs)), e) else none
  | _ => none := by unfold eIsi; rfl
@[simp] theorem s_Aug {g : Int → Int → Int} : sAug i g m env = (getC env i).bind fun c => match c with
  | .sh (.int a) => (m env).bind fun (c, e) => match c with
    | .sh (.int b) => if i < e.length then some (.nx (e.set i (some (.sh (.int (g a b)))))) else none
    | _ => none
  | _ => none := by
  unfold sAug getC
  cases h : env[i]? with
  | none => rfl
  | some x => cases x with
    | none => rfl
    | some c => cases c with
      | sh d => cases d with
        | int a =>
          show (match m env with | some (.sh (.int b), e) => _ | _ => none) = (m env).bind _
          cases m env with
          | none => rfl
          | some y => obtain ⟨c, e⟩ := y; cases c with
            | sh d => cases d <;> rfl
            | _ => rfl
        | _ => rfl
      | _ => rfl
@[simp] theorem s_AugIx {g : Int → Int → Int} : sAugIx i o g m env = (getC env i).bind fun c => match c with
  | .ol _ => (evI o env).bind fun (n, e) => (getC e i).bind fun c => match c with
    | .ol ds => (atI ds n).bind fun a => match a with
      | .int a => (m e).bind fun (c, e2) => match c with
        | .sh (.int b) => (getC e2 i).bind fun c => match c with
          | .ol ds2 => (ixN ds2.length n).bind fun j => some (.nx (e2.set i (some (.ol (ds2.set j (.int (g a b)))))))
          | _ => none
        | _ => none
      | _ => none
    | _ => none
  | _ => none := by
  unfold sAugIx
  cases h : env[i]? with
  | none => unfold getC; rw [h]; rfl
  | some x => cases x with
    | none => unfold getC; rw [h]; rfl
    | some c =>
      rw [getC_some.mpr h]
      cases c with
      | ol l0 =>
        show ((evI o env).bind _) = ((evI o env).bind _)
        congr 1
        funext ⟨n, e⟩
        show (match e[i]? with | some (some (.ol ds)) => _ | _ => none) = (getC e i).bind _
        cases h2 : e[i]? with
        | none => unfold getC; rw [h2]; rfl
        | some x => cases x with
          | none => unfold getC; rw [h2]; rfl
          | some c =>
            rw [getC_some.mpr h2]
            cases c with
            | ol ds =>
              show (match atI ds n, m e with | some (.int a), some (.sh (.int b), e2) => _ | _, _ => none) = (atI ds n).bind _
              cases atI ds n with
              | none => rfl
              | some a => cases a with
                | int a =>
                  show _ = (m e).bind _
                  cases m e with
                  | none => rfl
                  | some y =>
                    obtain ⟨c, e2⟩ := y
                    cases c with
                    | sh d => cases d with
                      | int b =>
                        show (match e2[i]? with | some (some (.ol ds2)) => _ | _ => none) = (getC e2 i).bind _
                        cases h3 : e2[i]? with
                        | none => unfold getC; rw [h3]; rfl
                        | some x => cases x with
                          | none => unfold getC; rw [h3]; rfl
                          | some c => rw [getC_some.mpr h3]; cases c <;> rfl
                      | _ => rfl
                    | _ => rfl
                | _ => rfl
            | _ => rfl
      | _ => rfl
/-! comprehensions, for -/
theorem forN_nil {t : Tgt} {b : SM} : forN t b [] env = some (.nx env) := rfl
theorem forN_cons {t : Tgt} {b : SM} {ds : List D} : forN t b (d :: ds) env = (asgT t d env).bind fun e => (b e).bind fun o => match o with
    | .nx e => forN t b ds e
    | .ct e => forN t b ds e
    | .bk e => some (.nx e)
    | .rt c e => some (.rt c e) := rfl
/-- a loop with an invariant -/
theorem forN_inv {t : Tgt} {b : SM} (I : Env → Prop) : ∀ {ds : List D} {env : Env}, I env → (∀ d ∈ ds, ∀ env, I env → ∃ e e', asgT t d env = some e ∧ b e = some (.nx e') ∧ I e') → ∃ e, forN t b ds env = some (.nx e) ∧ I e
  | [], env, h, _ => ⟨env, rfl, h⟩
  | d :: ds, env, h, k => by
    obtain ⟨e, e', h1, h2, h3⟩ := k d (by simp) env h
    obtain ⟨e2, h4, h5⟩ := forN_inv I (ds := ds) h3 fun x m => k x (by simp [m])
    exact ⟨e2, by rw [forN_cons, h1]; simp only [Option.bind_some, h2]; exact h4, h5⟩
end
end Fx
set_option Elab.async false
set_option linter.all false
set_option maxRecDepth 100000
set_option maxHeartbeats 4000000
noncomputable section
namespace Fx
open PySem L2

/-! ## the operations, by what they are given -/
section
variable {i j : Int} {x y : Str} {ds es : List D} {d e : D} {a b : Bool}
@[simp] theorem fIx_l : fIx [.lst ds, .int i] = (atI ds i).bind fun d => some (.sh d) := rfl
@[simp] theorem fIx_t : fIx [.tup ds, .int i] = (atI ds i).bind fun d => some (.sh d) := rfl
@[simp] theorem fAdd_i : fAdd [.int i, .int j] = some (.sh (.int (i + j))) := rfl
@[simp] theorem fAdd_t : fAdd [.tup ds, .tup es] = if ds.length + es.length ≤ lim then some (.sh (.tup (ds ++ es))) else none := rfl
@[simp] theorem fAdd_l : fAdd [.lst ds, .lst es] = if ds.length + es.length ≤ lim then some (.ol (ds ++ es)) else none := rfl
@[simp] theorem fMul_i : fMul [.int i, .int j] = if sm i || sm j then some (.sh (.int (i * j))) else none := rfl
@[simp] theorem fII_i {g : Int → Int → Option D} : fII g [.int i, .int j] = (g i j).bind fun d => some (.sh d) := rfl
@[simp] theorem gSub_i : gSub i j = some (.int (i - j)) := rfl
@[simp] theorem gDiv_i : gDiv i j = if 0 < j ∧ j < 1073741824 then some (.int (i / j)) else none := rfl
@[simp] theorem gMod_i : gMod i j = if 0 < j then some (.int (i % j)) else none := rfl
@[simp] theorem gLt_i : gLt i j = some (.bl (decide (i < j))) := rfl
@[simp] theorem gLe_i : gLe i j = some (.bl (decide (i ≤ j))) := rfl
@[simp] theorem gGt_i : gGt i j = some (.bl (decide (j < i))) := rfl
@[simp] theorem gGe_i : gGe i j = some (.bl (decide (j ≤ i))) := rfl
@[simp] theorem gPow_i : gPow i j = if 0 ≤ j ∧ j ≤ 1000000 ∧ sm i then some (.int (i ^ j.toNat)) else none := rfl
@[simp] theorem fEq_i : fEq [.int i, .int j] = some (.sh (.bl (decide (i = j)))) := rfl
@[simp] theorem fNe_i : fNe [.int i, .int j] = some (.sh (.bl (!decide (i = j)))) := rfl
@[simp] theorem fEq_s (hx : (D.str x).okq = true) (hy : (D.str y).okq = true) : fEq [.str x, .str y] = some (.sh (.bl (x == y))) := if_pos (by unfold D.cmpable; rw [hx, hy]; rfl)
@[simp] theorem fNe_s (hx : (D.str x).okq = true) (hy : (D.str y).okq = true) : fNe [.str x, .str y] = some (.sh (.bl (!(x == y)))) := if_pos (by unfold D.cmpable; rw [hx, hy]; rfl)
@[simp] theorem fEq_b : fEq [.bl a, .bl b] = some (.sh (.bl (a == b))) := rfl
@[simp] theorem fNe_b : fNe [.bl a, .bl b] = some (.sh (.bl (!(a == b)))) := rfl
@[simp] theorem fInt_i : fInt [.int i] = some (.sh (.int i)) := rfl
@[simp] theorem fInt_b : fInt [.bl a] = some (.sh (.int (if a then 1 else 0))) := rfl
@[simp] theorem fNeg_i : fNeg [.int i] = some (.sh (.int (-i))) := rfl
@[simp] theorem fAbs_i : fAbs [.int i] = some (.sh (.int (if i < 0 then -i else i))) := rfl
@[simp] theorem fLen_t : fLen [.tup ds] = some (.sh (.int ds.length)) := rfl
@[simp] theorem fLen_l : fLen [.lst ds] = some (.sh (.int ds.length)) := rfl
@[simp] theorem fList_t : fList [.tup ds] = some (.ol ds) := rfl
@[simp] theorem fList_l : fList [.lst ds] = some (.ol ds) := rfl
@[simp] theorem fTuple_t : fTuple [.tup ds] = some (.sh (.tup ds)) := rfl
@[simp] theorem fTuple_l : fTuple [.lst ds] = some (.sh (.tup ds)) := rfl
@[simp] theorem fAppend_l : fAppend ds [d] = if ds.length < lim then some (.sh .non, ds ++ [d]) else none := rfl
@[simp] theorem fExtend_l : fExtend ds [.lst es] = if ds.length + es.length ≤ lim then some (.sh .non, ds ++ es) else none := rfl
@[simp] theorem fSl_l {lo hi : Option Int} : fSl (.lst ds) lo hi = some (.ol (cutD ds lo hi)) := rfl
@[simp] theorem fSl_t {lo hi : Option Int} : fSl (.tup ds) lo hi = some (.sh (.tup (cutD ds lo hi))) := rfl
@[simp] theorem fSl_s {ns : List Int} {lo hi : Option Int} : fSl (.scr ns) lo hi = some (.ol (cutD (ns.map D.int) lo hi)) := rfl
@[simp] theorem putC_l : putC (.ol ds) (.int i) d = (ixN ds.length i).bind fun j => some (.ol (ds.set j d)) := rfl
@[simp] theorem fIn_v : fIn [d, e] = (fInB d e).bind fun b => some (.sh (.bl b)) := rfl
@[simp] theorem fEq_v (h : d.cmpable e = true) : fEq [d, e] = some (.sh (.bl (D.eqv d e))) := if_pos h
@[simp] theorem fNe_v (h : d.cmpable e = true) : fNe [d, e] = some (.sh (.bl (!D.eqv d e))) := if_pos h
theorem l1 (n : Nat) (h : n ≤ 1000000) : n ≤ lim := Nat.le_trans h (by rw [lim_val]; omega)
@[simp] theorem sm_emod {x k : Int} (h : 0 < k) (h2 : k ≤ 9223372036854775808) : sm (x % k) = true := by
  have a := Int.emod_nonneg x (by omega : k ≠ 0)
  have b := Int.emod_lt_of_pos x h
  exact sm_iff.mpr ⟨by omega, by omega⟩
@[simp] theorem sm_of {x : Int} (h : -18446744073709551616 < x) (h2 : x < 18446744073709551616) : sm x = true := sm_iff.mpr ⟨h, h2⟩
@[simp] theorem okR_of {n : Int} (h : -4611686018427387904 ≤ n) (h2 : n < 4611686018427387904) : okR n = true := okR_iff.mpr ⟨h, h2⟩
theorem atI_z {α : Type} {x : α} {r : List α} : atI (x :: r) 0 = some x := by simp [atI, ixN]
theorem atI_nat {α : Type} {l : List α} {n : Nat} : atI l (n : Int) = l[n]? := by
  unfold atI ixN
  by_cases h : n < l.length
  · simp [h]
  · simp [h]
end

/-! ## comprehensions -/
def cStep (vs : List Nat) (t : Tgt) (c : TM) (m : EM) (d : D) (env : Env) : Option (Option D × Env) := (asgT t d env).bind fun e1 => (c e1).bind fun (b, e2) => if b then (m e2).bind fun (x, e3) => if calmE e3 vs then some (some x.fz, wipeE e3 vs) else none
  else if calmE e2 vs then some (none, wipeE e2 vs) else none
section
variable {vs : List Nat} {t : Tgt} {c : TM} {m : EM} {ds : List D} {d : D} {env : Env}
theorem compN_nil : compN vs t c m [] env = some ([], env) := rfl
theorem compN_cons : compN vs t c m (d :: ds) env = (cStep vs t c m d env).bind fun (o, e) => (compN vs t c m ds e).bind fun (rs, e') => some (o.toList ++ rs, e') := by
  unfold cStep
  rw [compN]
  cases asgT t d env with
  | none => rfl
  | some e1 =>
    simp only [Option.bind_some]
    cases c e1 with
    | none => rfl
    | some y =>
      obtain ⟨b, e2⟩ := y
      simp only [Option.bind_some]
      cases b with
      | false =>
        simp only [Bool.false_eq_true, if_false]
        by_cases h : calmE e2 vs = true
        · simp only [h, if_true, Option.bind_some]
          cases compN vs t c m ds (wipeE e2 vs) <;> rfl
        · simp only [h, if_false]; rfl
      | true =>
        simp only [if_true]
        cases m e2 with
        | none => rfl
        | some y =>
          obtain ⟨x, e3⟩ := y
          simp only [Option.bind_some]
          by_cases h : calmE e3 vs = true
          · simp only [h, if_true, Option.bind_some]; rfl
          · simp only [h, if_false]; rfl
theorem compN_pure {g : D → Option D} : ∀ {ds : List D} {env : Env}, (∀ d ∈ ds, cStep vs t c m d env = some (g d, env)) → compN vs t c m ds env = some (ds.filterMap g, env)
  | [], _, _ => rfl
  | d :: ds, env, h => by
    rw [compN_cons, h d (by simp)]
    simp only [Option.bind_some]
    rw [compN_pure fun x hx => h x (by simp [hx])]
    simp only [Option.bind_some]
    cases q : g d with
    | none => rw [List.filterMap_cons_none q]; rfl
    | some y => rw [List.filterMap_cons_some q]; rfl
theorem compN_inv (I : Env → Prop) (R : D → D → Prop) : ∀ {ds : List D} {env : Env}, I env → (∀ d ∈ ds, ∀ e, I e → ∃ x e', cStep vs t c m d e = some (some x, e') ∧ I e' ∧ R d x) →
    ∃ rs e', compN vs t c m ds env = some (rs, e') ∧ I e' ∧ rs.length = ds.length ∧ ∀ r ∈ rs, ∃ d ∈ ds, R d r
  | [], env, h, _ => ⟨[], env, rfl, h, rfl, fun _ m => by cases m⟩
  | d :: ds, env, h, k => by
    obtain ⟨x, e1, h1, h2, h3⟩ := k d (by simp) env h
    obtain ⟨rs, e2, h4, h5, h6, h7⟩ := compN_inv I R (ds := ds) h2 fun y hy => k y (by simp [hy])
    refine ⟨x :: rs, e2, ?_, h5, by simp [h6], fun r hr => ?_⟩
    · rw [compN_cons, h1]
      simp only [Option.bind_some, h4]
      rfl
    · rcases List.mem_cons.mp hr with z | z
      · subst z; exact ⟨d, by simp, h3⟩
      · obtain ⟨d', m1, m2⟩ := h7 r z; exact ⟨d', by simp [m1], m2⟩
@[simp] theorem ev_Comp {i : IM} : eComp vs t i c m env = (i env).bind fun (ds, e1) => if calmE e1 vs then (compN vs t c m ds (wipeE e1 vs)).bind fun (rs, e2) => if rs.length ≤ lim then some (.ol rs, restE e1 vs e2) else none else none := rfl
@[simp] theorem calmE_nil : calmE env [] = true := rfl
@[simp] theorem calmE_cons {v : Nat} : calmE env (v :: vs) = (calm1 env[v]? && calmE env vs) := rfl
@[simp] theorem calm1_n : calm1 (some none) = true := rfl
@[simp] theorem calm1_s : calm1 (some (some (.sh d))) = true := rfl
@[simp] theorem wipeE_nil : wipeE env [] = env := rfl
@[simp] theorem wipeE_cons {v : Nat} : wipeE env (v :: vs) = (wipeE env vs).set v none := rfl
@[simp] theorem restE_nil {e : Env} : restE env [] e = e := rfl
@[simp] theorem restE_cons {v : Nat} {e : Env} : restE env (v :: vs) e = match env[v]? with | some c => restE env vs (e.set v c) | none => restE env vs e := rfl
end
section
variable {env : Env} {ms : List Arg} {m : EM}
@[simp] theorem ev_Tab {tab : List (Str × D)} {o : Opd} : eTab tab o env = (evO [o] env).bind fun (ds, e) => match ds with
  | [.str z] => (tab.lookup z).bind fun d => some (.sh d, e)
  | _ => none := rfl
@[simp] theorem i_Zip : iZip ms env = (evA ms env).bind fun (ds, e) => match ds with
  | [a, b] => a.zseq.bind fun xs => b.zseq.bind fun ys => some (zipD xs ys, e)
  | _ => none := rfl
@[simp] theorem i_Enum : iEnumM m env = (m env).bind fun (c, e) => c.fz.zseq.bind fun xs => some (enumD xs, e) := rfl
theorem zipD_nil {ys : List D} : zipD [] ys = [] := rfl
theorem zipD_cons {x y : D} {xs ys : List D} : zipD (x :: xs) (y :: ys) = .tup [x, y] :: zipD xs ys := rfl
end
end Fx
namespace Fx
open PySem L2
section
variable {α : Type} {vs : List Nat} {t : Tgt} {c : TM} {m : EM} {env : Env}
theorem compN_map {f g : α → D} : ∀ {l : List α}, (∀ a ∈ l, cStep vs t c m (f a) env = some (some (g a), env)) → compN vs t c m (l.map f) env = some (l.map g, env)
  | [], _ => rfl
  | a :: l, h => by
    rw [List.map_cons, compN_cons, h a (by simp)]
    simp only [Option.bind_some]
    rw [compN_map fun x hx => h x (by simp [hx])]
    rfl
theorem compN_fil {f g : α → D} {b : α → Bool} : ∀ {l : List α}, (∀ a ∈ l, cStep vs t c m (f a) env = some (if b a then some (g a) else none, env)) → compN vs t c m (l.map f) env = some ((l.filter b).map g, env)
  | [], _ => rfl
  | a :: l, h => by
    rw [List.map_cons, compN_cons, h a (by simp)]
    simp only [Option.bind_some]
    rw [compN_fil fun x hx => h x (by simp [hx])]
    simp only [Option.bind_some]
    cases q : b a with
    | false => rw [List.filter_cons_of_neg (by simp [q])]; rfl
    | true => rw [List.filter_cons_of_pos q]; rfl
theorem seq_nx {a b : SM} {e : Env} (h : a env = some (.nx e)) : sSeq a b env = b e := by rw [s_Seq, h]; rfl
end
end Fx
set_option Elab.async false
set_option linter.all false
set_option maxRecDepth 100000
set_option maxHeartbeats 4000000
noncomputable section
namespace Fx
open PySem L2

/-! ## reckoning: what FxC, FxJ, FxK, FxM, FxN bring -/
section
variable {env : Env} {i : Nat} {d : D} {m m' : EM} {o o' o'' : Opd}
@[simp] theorem ev_DK : eDK env = some (.odk [], env) := rfl
@[simp] theorem ev_DT : eDT env = some (.odt [], env) := rfl
@[simp] theorem ev_Sl3 {lo hi st : Part} : eSl3 o lo hi st env = (preO [o] env).bind fun (cs, e1) => (evP lo e1).bind fun (i, e2) => (evP hi e2).bind fun (j, e3) => (evP st e3).bind fun (l, e4) => (finO e4 [o] cs).bind fun ds => match ds with
  | [.lst xs] => if l = some 0 then none else if (pickD xs i j l).length ≤ lim then some (.ol (pickD xs i j l), e4) else none
  | _ => none := rfl
@[simp] theorem ev_Chain {f f' : Int → Int → Bool} : eChain f f' o o' o'' env = (evO [o, o'] env).bind fun (ds, e) => match ds with
  | [.int i, .int j] => if f i j then (evO [o''] e).bind fun (ds', e') => match ds' with
      | [.int l] => some (.sh (.bl (f' j l)), e')
      | _ => none
    else some (.sh (.bl false), e)
  | _ => none := rfl
@[simp] theorem ev_Comp2 {vs vs1 : List Nat} {t t1 : Tgt} {it i1 : IM} {c c1 : TM} : eComp2 vs t it c i1 vs1 t1 c1 m env = (it env).bind fun (ds, e1) => if calmE e1 vs then (comp2N vs t c i1 vs1 t1 c1 m ds (wipeE e1 vs)).bind fun (rs, e2) => if rs.length ≤ lim then some (.ol rs, restE e1 vs e2) else none else none := rfl
@[simp] theorem ev_Len2 : eLen2 i env = (getC env i).bind fun c => (match c with | .oll dss => some (.sh (.int dss.length), env) | .ol ds => some (.sh (.int ds.length), env) | _ => none : Option (C × Env)) := by
  unfold eLen2 getC
  cases h : env[i]? with
  | none => rfl
  | some x => cases x with
    | none => rfl
    | some c => cases c <;> simp
@[simp] theorem ev_App2 : eApp2 i m env = (getC env i).bind fun c00 => (eApp2.seqC c00).bind fun _ => (m env).bind fun (c, e) => match c with
    | .ol ds => (getC e i).bind fun c0 => (eApp2.seqC c0).bind fun dss => if dss.length < lim then some (.sh .non, e.set i (some (.oll (dss ++ [ds])))) else none
    | _ => none := by
  refine Eq.trans (m_getC (env := env) (i := i) (f := fun c00 => (eApp2.seqC c00).bind fun _ => (m env).bind fun (c, e) => match c, e[i]? with
    | .ol ds, some (some c0) => (eApp2.seqC c0).bind fun dss => if dss.length < lim then some (C.sh .non, e.set i (some (.oll (dss ++ [ds])))) else none
    | _, _ => none)) ?_
  congr 1
  funext c00
  congr 1
  funext _
  congr 1
  funext ⟨c, e⟩
  cases c with
  | ol ds =>
    show (match C.ol ds, e[i]? with | .ol ds, some (some c0) => _ | _, _ => none) = (getC e i).bind _
    cases h : e[i]? with
    | none => unfold getC; rw [h]; rfl
    | some x => cases x with
      | none => unfold getC; rw [h]; rfl
      | some c => rw [getC_some.mpr h]; rfl
  | _ => rfl
@[simp] theorem seqC_nil : eApp2.seqC (.ol []) = some [] := rfl
@[simp] theorem seqC_oll {dss : List (List D)} : eApp2.seqC (.oll dss) = some dss := rfl
@[simp] theorem ev_App3 : eApp3 i o m env = (getC env i).bind fun c00 => match c00 with
  | .oll _ => (evI o env).bind fun (n, e) => (getC e i).bind fun c0 => match c0 with
    | .oll dss => (ixN dss.length n).bind fun j => (m (e.set i none)).bind fun (c, e2) => (dss[j]?).bind fun ds => if ds.length < lim then some (.sh .non, e2.set i (some (.oll (dss.set j (ds ++ [c.fz]))))) else none
    | _ => none
  | _ => none := by
  unfold eApp3
  cases h : env[i]? with
  | none => unfold getC; rw [h]; rfl
  | some x => cases x with
    | none => unfold getC; rw [h]; rfl
    | some c =>
      rw [getC_some.mpr h]
      cases c with
      | oll l0 =>
        show ((evI o env).bind _) = ((evI o env).bind _)
        congr 1
        funext ⟨n, e⟩
        show (match e[i]? with | some (some (.oll dss)) => _ | _ => none) = (getC e i).bind _
        cases h2 : e[i]? with
        | none => unfold getC; rw [h2]; rfl
        | some x => cases x with
          | none => unfold getC; rw [h2]; rfl
          | some c => rw [getC_some.mpr h2]; cases c <;> rfl
      | _ => rfl
end
end Fx
set_option Elab.async false
set_option linter.all false
set_option maxRecDepth 100000
set_option maxHeartbeats 4000000
noncomputable section
namespace Fx
open PySem L2

/-! ## states by names: what the printed records lean on -/
@[simp] theorem getC_h {x : Option C} {r : Env} : getC (x :: r) 0 = x := by cases x <;> rfl
def outP (o : Option Out) : Option C := match o with
  | some (.rt c _) => some c
  | some (.nx _) => some (.sh .non)
  | _ => none
def outB (o : Option Out) : Option (C × C) := match o with
  | some (.rt c e) => (get0 e).bind fun c0' => some (c, c0')
  | some (.nx e) => (get0 e).bind fun c0' => some (.sh .non, c0')
  | _ => none
@[simp] theorem outP_rt {c : C} {e : Env} : outP (some (.rt c e)) = some c := rfl
@[simp] theorem outP_nx {e : Env} : outP (some (.nx e)) = some (.sh .non) := rfl
@[simp] theorem outB_rt {c : C} {e : Env} : outB (some (.rt c e)) = (get0 e).bind fun c0' => some (c, c0') := rfl
@[simp] theorem outB_nx {e : Env} : outB (some (.nx e)) = (get0 e).bind fun c0' => some (.sh .non, c0') := rfl
theorem fnP_eq {k n : Nat} {m : SM} {ds : List D} (h : ds.length = k) : fnP k n m ds = outP (m (startE n (ds.map C.sh))) := by
  unfold fnP
  rw [if_pos h]
  rfl
theorem fnB_eq {k n : Nat} {m : SM} {c0 : C} {ds : List D} (h : ds.length + 1 = k) : fnB k n m c0 ds = outB (m (startE n (c0 :: ds.map C.sh))) := by
  unfold fnB
  rw [if_pos h]
  rfl
section
variable {S : Type} {E : S → Env} {t : Tgt} {b : SM}
/-- a loop with an invariant of the turns done -/
theorem forS' (J : Nat → S → Prop) : ∀ {ds : List D} {k : Nat} {s : S}, J k s → (∀ i d s, ds[i]? = some d → J (k + i) s → ∃ s', (asgT t d (E s)).bind b = some (.nx (E s')) ∧ J (k + i + 1) s') →
    ∃ s', forN t b ds (E s) = some (.nx (E s')) ∧ J (k + ds.length) s'
  | [], k, s, h, _ => ⟨s, rfl, h⟩
  | d :: ds, k, s, h, st => by
    obtain ⟨s1, h1, h2⟩ := st 0 d s (by simp) h
    obtain ⟨s2, h3, h4⟩ := forS' J (ds := ds) (k := k + 1) (s := s1) h2 fun i x s' hx hj => by
      obtain ⟨s3, a, c⟩ := st (i + 1) x s' (by simpa using hx) (by rw [show k + (i + 1) = k + 1 + i by omega]; exact hj)
      exact ⟨s3, a, by rw [show k + 1 + i + 1 = k + (i + 1) + 1 by omega]; exact c⟩
    refine ⟨s2, ?_, by rw [List.length_cons, show k + (ds.length + 1) = k + 1 + ds.length by omega]; exact h4⟩
    rw [forN_cons]
    cases q : asgT t d (E s) with
    | none => rw [q] at h1; cases h1
    | some e =>
      rw [q] at h1
      simp only [Option.bind_some] at h1 ⊢
      rw [h1]
      exact h3
theorem forS (J : Nat → S → Prop) {ds : List D} {s : S} (h : J 0 s) (st : ∀ i d s, ds[i]? = some d → J i s → ∃ s', (asgT t d (E s)).bind b = some (.nx (E s')) ∧ J (i + 1) s') :
    ∃ s', forN t b ds (E s) = some (.nx (E s')) ∧ J ds.length s' := by
  have := forS' (E := E) (t := t) (b := b) J (ds := ds) (k := 0) (s := s) h fun i d s hd hj => by
    rw [Nat.zero_add] at hj ⊢
    exact st i d s hd hj
  simpa using this
/-- the same over what a list is a map of -/
theorem forM {α : Type} {f : α → D} (J : List α → S → Prop) {l : List α} {s : S} (h : J [] s) (st : ∀ p a r s, l = p ++ a :: r → J p s → ∃ s', (asgT t (f a) (E s)).bind b = some (.nx (E s')) ∧ J (p ++ [a]) s') :
    ∃ s', forN t b (l.map f) (E s) = some (.nx (E s')) ∧ J l s' := by
  obtain ⟨s', h1, h2⟩ := forS (E := E) (t := t) (b := b) (fun i s => J (l.take i) s) (ds := l.map f) (s := s) (by simpa using h) fun i d s hd hj => by
    rw [List.getElem?_map] at hd
    cases hl : l[i]? with
    | none => rw [hl] at hd; cases hd
    | some a =>
      rw [hl] at hd
      cases hd
      obtain ⟨hi, ha⟩ := List.getElem?_eq_some_iff.mp hl
      obtain ⟨s', h1, h2⟩ := st (l.take i) a (l.drop (i + 1)) s (by rw [← ha, List.getElem_cons_drop, List.take_append_drop]) hj
      refine ⟨s', h1, ?_⟩
      rw [List.take_succ, hl]
      exact h2
  refine ⟨s', h1, ?_⟩
  rw [List.length_map, List.take_length] at h2
  exact h2
/-- a loop whose turns each do what f says -/
theorem forF {α : Type} {f : α → D} {g : S → α → S} : ∀ {l : List α} {s : S}, (∀ a ∈ l, ∀ s, (asgT t (f a) (E s)).bind b = some (.nx (E (g s a)))) → forN t b (l.map f) (E s) = some (.nx (E (l.foldl g s)))
  | [], s, _ => rfl
  | a :: l, s, h => by
    have h1 := h a (by simp) s
    rw [List.map_cons, forN_cons]
    cases q : asgT t (f a) (E s) with
    | none => rw [q] at h1; cases h1
    | some e =>
      rw [q] at h1
      simp only [Option.bind_some] at h1 ⊢
      rw [h1]
      exact forF fun x hx => h x (by simp [hx])
/-- while, by a measure -/
theorem whileS {t : TM} {b : SM} (J : S → Prop) (μ : S → Nat) (R : Option Out → Prop) (st : ∀ s, J s → ∃ x s1, t (E s) = some (x, E s1) ∧ (x = false → R (some (.nx (E s1)))) ∧ (x = true → (∃ s2, b (E s1) = some (.nx (E s2)) ∧ J s2 ∧ μ s2 < μ s) ∨ ∃ c e, b (E s1) = some (.rt c e) ∧ R (some (.rt c e)))) {s : S} (h : J s) : R (sWhile t b (E s)) := by
  suffices ∀ n s, μ s < n → J s → ∃ o, whileN n t b (E s) = some o ∧ R (some o) by
    obtain ⟨o, h1, h2⟩ := this (μ s + 1) s (by omega) h
    rw [sWhile_of h1]; exact h2
  intro n
  induction n with
  | zero => intro s hs; omega
  | succ n ih =>
    intro s hs hj
    obtain ⟨x, s1, h1, h2, h3⟩ := st s hj
    unfold whileN
    rw [h1]
    simp only [Option.bind_some]
    cases x with
    | false => exact ⟨_, rfl, h2 rfl⟩
    | true =>
      rw [if_pos rfl]
      rcases h3 rfl with ⟨s2, h4, h5, h6⟩ | ⟨c, e, h4, h5⟩
      · rw [h4]; simp only [Option.bind_some]; exact ih s2 (by omega) h5
      · rw [h4]; simp only [Option.bind_some]; exact ⟨_, rfl, h5⟩
end
end Fx
set_option Elab.async false
set_option linter.all false
set_option maxRecDepth 100000
set_option maxHeartbeats 4000000
noncomputable section
namespace Fx
open PySem L2

/-! ## dicts: reading behind a store -/
section
variable {κ : Type} [DecidableEq κ]
theorem valD_put {kvs : List (κ × D)} {k j : κ} {v : D} : valD (putD kvs k v) j = if j = k then some v else valD kvs j := by
  unfold putD valD
  by_cases h : kvs.any (fun kv => decide (kv.1 = k)) = true
  · rw [if_pos h]
    induction kvs with
    | nil => simp at h
    | cons a r ih =>
      obtain ⟨i, d⟩ := a
      by_cases e : i = k
      · subst e
        simp only [List.map_cons, if_pos]
        by_cases q : j = i
        · subst q; simp
        · rw [if_neg q]
          have q' : ¬ i = j := fun z => q z.symm
          simp only [List.find?_cons, q', decide_false]
          by_cases hr : r.any (fun kv => decide (kv.1 = i)) = true
          · have := ih hr
            rw [if_neg q] at this
            exact this
          · have e2 : (r.map fun kv => if kv.1 = i then (kv.1, v) else kv) = r := by
              conv => rhs; rw [← List.map_id r]
              apply List.map_congr_left
              intro kv m
              have : ¬ kv.1 = i := fun z => hr (List.any_eq_true.mpr ⟨kv, m, by simp [z]⟩)
              simp [this]
            rw [e2]
      · have hr : r.any (fun kv => decide (kv.1 = k)) = true := by simpa [e] using h
        simp only [List.map_cons, if_neg e, List.find?_cons]
        by_cases q : i = j
        · subst q
          simp [e]
        · simp only [q, decide_false]
          exact ih hr
  · rw [if_neg h]
    rw [List.find?_append]
    by_cases q : j = k
    · subst q
      have : kvs.find? (fun kv => decide (kv.1 = j)) = none := by
        rw [List.find?_eq_none]
        intro kv m z
        exact h (List.any_eq_true.mpr ⟨kv, m, z⟩)
      simp [this]
    · rw [if_neg q]
      cases hf : kvs.find? (fun kv => decide (kv.1 = j)) with
      | none =>
        have q' : ¬ k = j := fun z => q z.symm
        simp [q']
      | some x => simp
theorem len_put {kvs : List (κ × D)} {k : κ} {v : D} : (putD kvs k v).length ≤ kvs.length + 1 := by
  unfold putD
  split
  · simp
  · simp
end
open Classical in
@[simp] theorem i_R3 {env : Env} {o o' o'' : Opd} : iR3 o o' o'' env = (evO [o, o', o''] env).bind fun (ds, e) => match ds with
  | [.int a, .int b, .int c] => if RgC a b c (Builtin.Range.rangeSize a b c).toNat then some (rngC a c (Builtin.Range.rangeSize a b c).toNat, e) else none
  | _ => none := by unfold iR3; rfl
@[simp] theorem ev_Get2 {env : Env} {i : Nat} {a b : EM} : eGet2 i a b env = (getC env i).bind fun c00 => (c00.vw.bind eGet2.isDct).bind fun _ => (evA [.one a, .one b] env).bind fun (ds, e) => match ds with
  | [y, z] => (getC e i).bind fun c0 => c0.vw.bind fun d => (getK d y).bind fun o => some (.sh (o.getD z), e)
  | _ => none := by
  refine Eq.trans (m_getC (f := fun c00 => (c00.vw.bind eGet2.isDct).bind fun _ => (evA [.one a, .one b] env).bind fun (ds, e) => match ds, e[i]? with
    | [y, z], some (some c0) => c0.vw.bind fun d => (getK d y).bind fun o => some (C.sh (o.getD z), e)
    | _, _ => none)) ?_
  congr 1
  funext c00
  congr 1
  funext _
  congr 1
  funext ⟨ds, e⟩
  rcases ds with _ | ⟨y, _ | ⟨z, _ | ⟨w, r⟩⟩⟩
  · rfl
  · rfl
  · show (match [y, z], e[i]? with | [y, z], some (some c0) => c0.vw.bind fun d => (getK d y).bind fun o => some (C.sh (o.getD z), e) | _, _ => none) = (getC e i).bind fun c0 => c0.vw.bind fun d => (getK d y).bind fun o => some (C.sh (o.getD z), e)
    cases h : e[i]? with
    | none => unfold getC; rw [h]; rfl
    | some x => cases x with
      | none => unfold getC; rw [h]; rfl
      | some c => rw [getC_some.mpr h]; rfl
  · rfl
@[simp] theorem isDct_k {kvs} : eGet2.isDct (.dk kvs) = some () := rfl
@[simp] theorem isDct_t {kvs} : eGet2.isDct (.dt kvs) = some () := rfl
@[simp] theorem getK_i {kvs : List (Key × D)} {i : Int} : getK (.dk kvs) (.int i) = some (valD kvs (.inl i)) := rfl
@[simp] theorem putC_k {kvs : List (Key × D)} {i : Int} {d : D} : putC (.odk kvs) (.int i) d = if kvs.length < lim then some (.odk (putD kvs (.inl i) d)) else none := rfl
/-! ## slices -/
theorem cut_take {α : Type} {xs : List α} {k : Nat} : cutD xs none (some (k : Int)) = xs.take k := by
  unfold cutD
  rw [HT.sIx_none, HT.sIx_nat, List.drop_zero, Nat.sub_zero]
  by_cases h : k ≤ xs.length
  · rw [Nat.min_eq_left h]
  · rw [Nat.min_eq_right (by omega), List.take_of_length_le (Nat.le_refl _), List.take_of_length_le (by omega)]
theorem cut_drop {α : Type} {xs : List α} {k : Nat} : cutD xs (some (k : Int)) none = xs.drop k := by
  unfold cutD
  rw [HT.sIx_none, HT.sIx_nat]
  by_cases h : k ≤ xs.length
  · rw [Nat.min_eq_left h, List.take_of_length_le (by simp)]
  · rw [Nat.min_eq_right (by omega), List.drop_length, List.drop_eq_nil_of_le (by omega), List.take_nil]
theorem cut_mid {α : Type} {xs : List α} {i j : Nat} (hj : j ≤ xs.length) (hi : i ≤ j) : cutD xs (some (i : Int)) (some (j : Int)) = (xs.drop i).take (j - i) := by
  unfold cutD
  rw [HT.sIx_nat, HT.sIx_nat, Nat.min_eq_left hj, Nat.min_eq_left (by omega)]
/-! ## sorted -/
theorem sorted_T {x : D} {l : List (List Int)} (hx : x.seq = some (l.map dTup)) (h : ∀ ns ∈ l, ns ≠ []) : fSorted [x] = some (.ol ((isrt lexL l).map dTup)) := by
  have hT : ∀ l : List (List Int), (∀ ns ∈ l, ns ≠ []) → intTs (l.map dTup) = some l := by
    intro l
    induction l with
    | nil => intro _; rfl
    | cons x r ih =>
      intro h
      have := ih fun y hy => h y (by simp [hy])
      show ((intsOf (x.map D.int)).bind fun ns => if ns.isEmpty then none else (intTs (r.map dTup)).bind fun l => some (ns :: l)) = _
      rw [intsOf_map, this]; simp [h x (by simp)]
  unfold fSorted
  simp only [hx, Option.bind_some]
  cases l with
  | nil => rfl
  | cons x r =>
    have h1 : intsOf ((x :: r).map dTup) = none := rfl
    rw [h1, hT _ h]
    rfl
theorem sorted_I {x : D} {l : List Int} (hx : x.seq = some (l.map D.int)) : fSorted [x] = some (.ol ((isrt ltI l).map D.int)) := by
  unfold fSorted
  simp only [hx, Option.bind_some, intsOf_map]
/-! ## comprehensions, place by place -/
theorem compN_ix {vs : List Nat} {t : Tgt} {c : TM} {m : EM} (I : Env → Prop) (R : D → D → Prop) : ∀ {ds : List D} {env : Env}, I env → (∀ d ∈ ds, ∀ e, I e → ∃ x e', cStep vs t c m d e = some (some x, e') ∧ I e' ∧ R d x) →
    ∃ rs e', compN vs t c m ds env = some (rs, e') ∧ I e' ∧ rs.length = ds.length ∧ ∀ (i : Nat) (d r : D), ds[i]? = some d → rs[i]? = some r → R d r
  | [], env, h, _ => ⟨[], env, rfl, h, rfl, fun i d r hd => by simp at hd⟩
  | d :: ds, env, h, k => by
    obtain ⟨x, e1, h1, h2, h3⟩ := k d (by simp) env h
    obtain ⟨rs, e2, h4, h5, h6, h7⟩ := compN_ix I R (ds := ds) h2 fun y hy => k y (by simp [hy])
    refine ⟨x :: rs, e2, ?_, h5, by simp [h6], fun i d' r hd hr => ?_⟩
    · rw [compN_cons, h1]
      simp only [Option.bind_some, h4]
      rfl
    · cases i with
      | zero => simp at hd hr; subst hd; subst hr; exact h3
      | succ i => simp at hd hr; exact h7 i d' r hd hr
/-- a comprehension over range, each value an int that f lets -/
theorem rng_get {n i : Nat} {d : D} (h : (rng 0 (n : Int))[i]? = some d) : d = .int (i : Nat) ∧ i < n := by
  unfold rng at h
  rw [List.getElem?_map] at h
  simp at h
  obtain ⟨a, h1, rfl⟩ := h
  have := List.getElem?_eq_some_iff.mp h1
  obtain ⟨h2, h3⟩ := this
  simp at h2 h3
  exact ⟨by rw [h3], h2⟩
theorem rng_mem {n : Nat} {d : D} (h : d ∈ rng 0 (n : Int)) : ∃ i : Nat, d = .int (i : Nat) ∧ i < n := by
  obtain ⟨i, hi⟩ := List.mem_iff_getElem?.mp h
  exact ⟨i, rng_get hi⟩
theorem rng_len (n : Nat) : (rng 0 (n : Int)).length = n := by rw [rng_length]; omega
/-- a list of data each of which is an f of something -/
theorem maps_of {α : Type} {f : α → D} {Q : Nat → α → Prop} : ∀ {rs : List D}, (∀ i r, rs[i]? = some r → ∃ a, r = f a ∧ Q i a) → ∃ l : List α, rs = l.map f ∧ ∀ i a, l[i]? = some a → Q i a := by
  intro rs
  induction rs generalizing Q with
  | nil => intro _; exact ⟨[], rfl, fun i a h => by simp at h⟩
  | cons r rs ih =>
    intro h
    obtain ⟨a, h1, h2⟩ := h 0 r rfl
    obtain ⟨l, h3, h4⟩ := ih (Q := fun i => Q (i + 1)) fun i r hr => h (i + 1) r (by simpa using hr)
    refine ⟨a :: l, by rw [h1, h3]; rfl, fun i b hb => ?_⟩
    cases i with
    | zero => simp at hb; subst hb; exact h2
    | succ i => simp at hb; exact h4 i b hb
/-! ## comprehensions over two -/
theorem comp2N_map {α : Type} {vs vs1 : List Nat} {t t1 : Tgt} {c c1 : TM} {i1 : IM} {m : EM} {env : Env} {f : α → D} {g : α → List D} : ∀ {l : List α}, (∀ a ∈ l, ∃ e1 e2 ds1 e3 e4, asgT t (f a) env = some e1 ∧ c e1 = some (true, e2) ∧ i1 e2 = some (ds1, e3) ∧ calmE e3 vs1 = true ∧ compN vs1 t1 c1 m ds1 (wipeE e3 vs1) = some (g a, e4) ∧ calmE e4 vs = true ∧ wipeE e4 vs = env) →
    comp2N vs t c i1 vs1 t1 c1 m (l.map f) env = some ((l.map g).flatten, env)
  | [], _ => rfl
  | a :: l, h => by
    obtain ⟨e1, e2, ds1, e3, e4, h1, h2, h3, h4, h5, h6, h7⟩ := h a (by simp)
    rw [List.map_cons, comp2N, h1]
    simp only [Option.bind_some, h2, if_true, h3, h4, h5, h6, h7]
    rw [comp2N_map fun x hx => h x (by simp [hx])]
    simp
end Fx
set_option Elab.async false
set_option linter.all false
set_option maxRecDepth 100000
set_option maxHeartbeats 4000000
noncomputable section
namespace Fx
open PySem L2
section
variable {K : Fg}
/-! ## < of ints, of tuples of ints -/
def fLt : List D → Option C
  | [.int i, .int j] => some (.sh (.bl (decide (i < j))))
  | [.tup x, .tup y] => (intsOf x).bind fun ns => (intsOf y).bind fun ms => some (.sh (.bl (HT.lexLt ns ms)))
  | _ => none
def rLtA (K : Fg) : R2 := fun x y H Q => (rI0 (fun i j => .bl (decide (i < j))) x y H Q) ∨ rLtT K x y H Q
theorem op_ltA {X : Cx} {k : Nat} (hr : Room k X.A) : OpR X (compareOp .Lt) (rLtA X.K) := OpR.or op_lt (op_ltT hr.units0)
theorem s_ltA : OpS K (op2r (rLtA K)) fLt := fun G H vs ds c Q s rv e k => by
  unfold fLt at e
  split at e
  · rename_i i j
    cases e
    cases rv with
    | cons r1 rv => cases rv with | cons r2 rv => cases rv; cases r1.int; cases r2.int; exact ⟨_, _, rfl, .inl ⟨i, j, rfl, rfl, k.sh s (.bl _)⟩⟩
  · rename_i x y
    cases q1 : intsOf x with
    | none => simp [q1] at e
    | some ns =>
      cases q2 : intsOf y with
      | none => simp [q1, q2] at e
      | some ms =>
        simp [q1, q2] at e
        subst e
        cases rv with
        | cons r1 rv =>
          cases rv with
          | cons r2 rv =>
            cases rv
            obtain ⟨a, xs, rfl, h1, p1⟩ := r1.tup
            obtain ⟨b, ys, rfl, h2, p2⟩ := r2.tup
            have e1 := intsOf_inv q1
            have e2 := intsOf_inv q2
            subst e1
            subst e2
            rw [p1.ints_inv] at h1
            rw [p2.ints_inv] at h2
            exact ⟨_, _, rfl, .inr ⟨a, b, ns, ms, rfl, rfl, SqT.of (s _ _ h1), SqT.of (s _ _ h2), k.sh s (.bl _)⟩⟩
  · cases e
@[simp] theorem fLt_i {i j : Int} : fLt [.int i, .int j] = some (.sh (.bl (decide (i < j)))) := rfl
/-! ## is of truths -/
def fIsB : List D → Option C
  | [.bl a, .bl b] => some (.sh (.bl (decide (a = b))))
  | _ => none
theorem s_isB : OpS K (op2r rIsB) fIsB := fun G H vs ds c Q s rv e k => by
  unfold fIsB at e
  split at e
  · rename_i a b
    cases e
    cases rv with
    | cons r1 rv => cases rv with | cons r2 rv => cases rv; cases r1.bl; cases r2.bl; exact ⟨_, _, rfl, a, b, rfl, rfl, k.sh s (.bl _)⟩
  · cases e
@[simp] theorem fIsB_b {a b : Bool} : fIsB [.bl a, .bl b] = some (.sh (.bl (decide (a = b)))) := rfl
@[simp] theorem fIsN_n {d : D} : fIsN [d, .non] = some (.sh (.bl d.isN)) := rfl
@[simp] theorem fNotN_n {d : D} : fNotN [d, .non] = some (.sh (.bl (!d.isN))) := rfl
/-! ## in a list of data of any depth -/
def inB (x : D) (ds : List D) : Option Bool := if x.cmpable (.lst ds) then some (ds.any fun z => D.eqv z x) else none
def fInD : List D → Option C
  | [x, .lst ds] => (inB x ds).bind fun b => some (.sh (.bl b))
  | _ => none
def fNotInD : List D → Option C
  | [x, .lst ds] => (inB x ds).bind fun b => some (.sh (.bl (!b)))
  | _ => none
theorem any_py {x : D} (hx : x.okq = true) : ∀ {ds : List D}, D.okqs ds = true → ((D.pys ds).any fun z => PyData.eqv z x.py) = ds.any fun z => D.eqv z x
  | [], _ => by simp [D.pys]
  | d :: ds, h => by
    simp only [D.okqs, Bool.and_eq_true] at h
    simp only [D.pys, List.any_cons, D.eqv_py d x h.1 hx, any_py hx h.2]
theorem s_inDD : OpS K (op2r (rInD K)) fInD := fun G H vs ds c Q s rv e k => by
  unfold fInD at e
  split at e
  · rename_i x ys
    unfold inB at e
    split at e
    · rename_i h
      cases e
      simp only [D.cmpable, Bool.and_eq_true, decide_eq_true_eq] at h
      obtain ⟨⟨⟨h1, h2⟩, h3⟩, h4⟩ := h
      cases rv with
      | cons r1 rv =>
        cases rv with
        | cons r2 rv =>
          cases rv
          have d2 := (r2.all s).dp h2
          have s2 := D.shaped h2 h4
          simp only [D.py] at d2 s2
          exact ⟨_, _, rfl, x.py, D.pys ys, (r1.all s).dp h1, d2, D.shaped h1 h3, s2, by rw [any_py h1 (by simpa [D.okq] using h2)]; exact k.sh s (.bl _)⟩
    · cases e
  · cases e
theorem s_notInDD : OpS K (op2r (rNotInD K)) fNotInD := fun G H vs ds c Q s rv e k => by
  unfold fNotInD at e
  split at e
  · rename_i x ys
    unfold inB at e
    split at e
    · rename_i h
      cases e
      simp only [D.cmpable, Bool.and_eq_true, decide_eq_true_eq] at h
      obtain ⟨⟨⟨h1, h2⟩, h3⟩, h4⟩ := h
      cases rv with
      | cons r1 rv =>
        cases rv with
        | cons r2 rv =>
          cases rv
          have d2 := (r2.all s).dp h2
          have s2 := D.shaped h2 h4
          simp only [D.py] at d2 s2
          exact ⟨_, _, rfl, x.py, D.pys ys, (r1.all s).dp h1, d2, D.shaped h1 h3, s2, by rw [any_py h1 (by simpa [D.okq] using h2)]; exact k.sh s (.bl _)⟩
    · cases e
  · cases e
theorem op_inDD {X : Cx} {k : Nat} (hr : Room k X.A) : OpR X (compareOp .In) (rInD X.K) := L2.op_inD (by have := hr.un; omega)
theorem op_notInDD {X : Cx} {k : Nat} (hr : Room k X.A) : OpR X (compareOp .NotIn) (rNotInD X.K) := L2.op_notInD (by have := hr.un; omega)
@[simp] theorem fInD_l {x : D} {ds : List D} : fInD [x, .lst ds] = (inB x ds).bind fun b => some (.sh (.bl b)) := rfl
@[simp] theorem fNotInD_l {x : D} {ds : List D} : fNotInD [x, .lst ds] = (inB x ds).bind fun b => some (.sh (.bl !b)) := rfl
end
/-! ## a loop that may hand back -/
section
variable {S α : Type} {E : S → Env} {t : Tgt} {b : SM} {f : α → D}
theorem forR (J : S → Prop) (P : α → Bool) (ret : α → C) : ∀ {l : List α} {s : S}, J s → (∀ a ∈ l, ∀ s, J s → (P a = true → ∃ e, (asgT t (f a) (E s)).bind b = some (.rt (ret a) e)) ∧ (P a = false → ∃ s', (asgT t (f a) (E s)).bind b = some (.nx (E s')) ∧ J s')) →
    (∀ a, l.find? P = some a → ∃ e, forN t b (l.map f) (E s) = some (.rt (ret a) e)) ∧ (l.find? P = none → ∃ s', forN t b (l.map f) (E s) = some (.nx (E s')) ∧ J s')
  | [], s, h, _ => ⟨fun a h => (by cases h), fun _ => ⟨s, rfl, h⟩⟩
  | x :: l, s, h, k => by
    obtain ⟨k1, k2⟩ := k x (by simp) s h
    rw [List.map_cons, forN_cons]
    cases q : P x with
    | true =>
      obtain ⟨e, he⟩ := k1 q
      rw [List.find?_cons_of_pos q]
      cases q2 : asgT t (f x) (E s) with
      | none => rw [q2] at he; cases he
      | some e0 =>
        rw [q2] at he
        simp only [Option.bind_some] at he ⊢
        rw [he]
        exact ⟨fun a ha => (by cases ha; exact ⟨e, rfl⟩), fun h => (by cases h)⟩
    | false =>
      obtain ⟨s', he, hj⟩ := k2 q
      rw [List.find?_cons_of_neg (by simp [q])]
      cases q2 : asgT t (f x) (E s) with
      | none => rw [q2] at he; cases he
      | some e0 =>
        rw [q2] at he
        simp only [Option.bind_some] at he ⊢
        rw [he]
        exact forR J P ret hj fun a ha => k a (by simp [ha])
end
end Fx
set_option Elab.async false
set_option linter.all false
set_option maxRecDepth 100000
set_option maxHeartbeats 4000000
noncomputable section
namespace Fx
open PySem L2
open PyProof.Rows (IntsAre)

abbrev E0 (w : World) : Obj := { cls := .type "set", dict := none, data := .set #[] 0 (.fresh 0 0 (!w.params.followText "set-order")) }
section
variable {P : Program} {w : World} {A : Around} {E : Value → Shared → Prop} {s : Shared}
set_option maxRecDepth 100000 in
set_option maxHeartbeats 3200000 in
/-- set(l) of a list of ints -/
theorem call_set_lstI {l : Addr} {items : Array Value} (ns : List Int) {Q : Value → Shared → Prop} (hh : A.handled = none) (hl : s.heap.IsList l items) (zt : IntsAre items.toList ns) (hb : ns.length + 1 < scanBound)
    (h : ∀ (h' : Heap) (tk c : Nat), SetR w h' s.heap.objs.size (fun j => decide (j ∈ ns)) c → c ≤ ns.length → (∀ b o, s.heap.get? b = some o → h'.get? b = some o) → Q (.ref s.heap.objs.size) { s with heap := h', toks := tk }) :
    wpAny (model P w) A (call (.type "set") [.ref l]) Q E s := by
  have zs : items.size = ns.length := by
    have q := IntsAre.length zt
    rw [Array.length_toList] at q
    exact q
  obtain ⟨c, tl, ur⟩ := F.called_set.mro
  have um := F.called_set.made
  have us := F.called_set.sub
  refine wpAny_call (codeAny_of_tree ?_)
  show wpAny _ _ (callAny (.type "set") _) _ _ _
  refine wpAny_pure ⟨Code.quiet_builtin _ (by decide +kernel), codeAny_builtin F.entry_type_call ?_⟩
  rw [Around.under_plain (weight_type_call_type "set" [.ref l] []) rfl]
  have h1 := F.called_set.notType
  have h2 := F.called_set.canCreate
  have uc := F.typeCall_set_1 (.ref l)
  (repeat (any_goals (first | wp_step | assumption)))

  refine codeAny_mono (code_set_led1 (.ref l) (E := E) (Q₁ := fun obj s₁ => obj = .ref s.heap.objs.size ∧ s₁ = { s with heap := s.heap.push (E0 w) }) ⟨rfl, rfl⟩) fun r s₁ hr => ?_
  cases r with
  | error e => exact hr
  | ok fl =>
    cases fl with
    | ret obj =>
      obtain ⟨rfl, rfl⟩ := hr
      have hS : (s.heap.push (E0 w)).get? s.heap.objs.size = some (E0 w) := Heap.get?_push_size _ rfl
      have hT : Shared.TypeIs { s with heap := s.heap.push (E0 w) } (.ref s.heap.objs.size) "set" := ⟨_, hS, rfl⟩
      have ui := F.called_set.init.lookup
      have ub := F.called_set.init.bind (.ref s.heap.objs.size)
      (repeat (any_goals (first | wp_step | assumption)))

      refine codeAny_mono (codeAny_call_builtin (R := wants (fun r s₂ => r = .none ∧ ∃ h' tk c, s₂ = { s with heap := h', toks := tk } ∧ SetR w h' s.heap.objs.size (fun j => decide (j ∈ ns)) c ∧ c ≤ ns.length ∧
          (∀ b o, s.heap.get? b = some o → h'.get? b = some o)) E) F.called_set.init.plain F.entry_set_init (check_set_init_1 hT ?_)) fun r₂ s₂ hr₂ => ?_
      · obtain ⟨ol, ga, hcl, nl, hdl⟩ := hl
        obtain ⟨ocls, odict, odata, oslots⟩ := ol
        simp only at hcl hdl
        subst hcl; subst hdl
        have gb : (s.heap.push (E0 w)).get? l = some { cls := .type "list", dict := odict, data := .seq items nl, slots := oslots } := Heap.get?_push_of_some _ ga
        have ut := F.sub_list_set
        have uf := F.sub_list_frozenset
        have zn : (Value.type "list" == Value.type "dict") = false := by decide
        have g1 : (s.heap.push (E0 w)).IsList l items := ⟨_, gb, rfl, nl, rfl⟩
        unfold Builtin.«set.__init__» noKeywords Builtin.Frozenset.updateFrom
        generalize hPI : pyIter = PI
        wp_walk
        subst hPI

        refine wpAny_pyIter_list g1 ?_
        refine wpAny_bind (wpAny_runValue ?_)
        have zl : l < s.heap.objs.size := Heap.lt_size ga
        have z3 : A.in1.in1.in1.handled = none := by simp [hh]
        have zz : (s.heap.push (E0 w)).objs.size = s.heap.objs.size + 1 := Heap.size_push ..
        have zi : l ≠ (s.heap.push (E0 w)).objs.size := by
          rw [Heap.size_push]; exact Nat.ne_of_lt (Nat.lt_succ_of_lt zl)
        have zf : s.heap.objs.size ∉ [(s.heap.push (E0 w)).objs.size, l] := by
          rw [Heap.size_push]; simp only [List.mem_cons, List.mem_singleton, List.not_mem_nil, or_false, not_or]
          exact ⟨Nat.ne_of_lt (Nat.lt_succ_self _), Nat.ne_of_gt zl⟩
        have zv : ∀ (i : Nat) (v : Value), items[i]? = some v → ∃ k t, ns[i]? = some k ∧ v = .int k t := fun i v hv => by
          have hi : i < ns.length := by rw [← zs]; exact (Array.getElem?_eq_some_iff.mp hv).1
          obtain ⟨t, e⟩ := PyProof.Rows.IntsAre.int_at zt i v (by rw [Array.getElem?_toList]; exact hv)
          refine ⟨ns[i], t, List.getElem?_eq_getElem hi, ?_⟩
          rw [e, List.getD_eq_getElem?_getD, List.getElem?_eq_getElem hi] <;> rfl
        refine set_update_ints ((Walks.list z3 _ l zi items).toS) s.heap.objs.size
          zf ns zs hb zv (items.size - 0) 0 _ (by omega) (Nat.zero_le _)
          ⟨⟨_, Heap.get?_push_size _ rfl, rfl, rfl⟩, (g1.push _)⟩ ?hS0 ?hR
        case hS0 =>
          have zg : ((s.heap.push (E0 w)).push { cls := .type "list_iterator", data := .fields #[.ref l, .int 0 0] }).get? s.heap.objs.size
              = some (E0 w) := Heap.get?_push_of_some _ hS
          exact ⟨0, Nat.le_refl 0, setR_new_at zg⟩
        case hR =>
          intro s' c' hm hc' hS'
          obtain ⟨h', g2, d', tk', os'⟩ := s'
          have eg : g2 = s.gens := hm.gens
          have ed : d' = s.drawn := hm.drawn
          have eo : os' = s.os := hm.os
          subst eg; subst ed; subst eo
          show wpAny _ _ _ _ _ _
          refine wpAny_pure ?_
          show wpAny _ _ (ret Value.none) _ _ _
          rw [zs] at hc'
          refine wpAny_pure ⟨rfl, h', tk', c', rfl, hS', hc', fun b o e => ?_⟩
          have hb0 : b < s.heap.objs.size := Heap.lt_size e
          have hb1 : b ≠ s.heap.objs.size := Nat.ne_of_lt hb0
          have hb2 : b ≠ (s.heap.push (E0 w)).objs.size := by
            rw [Heap.size_push]; exact Nat.ne_of_lt (Nat.lt_succ_of_lt hb0)
          exact hm.heap b o (by simp only [List.mem_cons, List.mem_singleton, List.not_mem_nil, or_false, not_or]; exact ⟨hb1, hb2⟩) (Heap.get?_push_of_some _ (Heap.get?_push_of_some _ e))

      · cases r₂ with
        | error e => exact hr₂
        | ok fl₂ =>
          cases fl₂ with
          | ret r =>
            obtain ⟨rfl, h', tk, c', rfl, hS', hc', hk'⟩ := hr₂
            (repeat (any_goals (first | wp_step | assumption)))
            exact h _ _ _ hS' hc' hk'
          | _ => exact hr₂.elim
    | _ => exact hr.elim

end
end Fx
set_option Elab.async false
set_option linter.all false
set_option maxRecDepth 100000
set_option maxHeartbeats 4000000
noncomputable section
namespace Fx
open PySem L2
open PyProof.Rows (IntsAre)
/-! ## set(l), sorted(set(l)) -/
section
variable {X : Cx}
def rSetLI (K : Fg) (w : World) : List V → Hp → VK → Prop := fun xs H Q => ∃ (l : Addr) (ns : List Int), xs = [V.ref l] ∧ SqL K H l (ns.map V.int) ∧ ns.length ≤ 1000 ∧
  ∀ p c, c ≤ ns.length → H p = none → Q (.ref p) (upd H p (SetO w p (fun j => decide (j ∈ ns)) c))
theorem cr_setLI (hc : X.calm = true) : CallR X (.type "set") (rSetLI X.K X.w) := by
  intro pins s σ H xs us Q I r h
  obtain ⟨l, ns, rfl, hl, hn, q⟩ := h
  obtain ⟨u, rfl, ru⟩ := vals1 r
  cases ru
  obtain ⟨its, rv, pt, hz⟩ := I.list hl
  refine call_set_lstI ns (I.ok.hd hc) pt.isList (by simpa using ints_of_vals rv) (by unfold scanBound; omega) fun h' tk c R1 hcn k => ?_
  exact ⟨.ref _, upd H s.heap.objs.size (SetO X.w s.heap.objs.size (fun j => decide (j ∈ ns)) c), I.laid (t' := tk) k (Nat.le_refl _) (setO_new R1), rfl, q _ c hcn (I.hok.fresh (Nat.le_refl _))⟩
/-- the numbers of a list, each once, rising -/
def insS (x : Int) : List Int → List Int
  | [] => [x]
  | y :: r => if x < y then x :: y :: r else if x = y then y :: r else y :: insS x r
def srtS (ns : List Int) : List Int := ns.foldr insS []
theorem insS_mem (x k : Int) : ∀ l : List Int, k ∈ insS x l ↔ k = x ∨ k ∈ l
  | [] => by simp [insS]
  | y :: r => by
    unfold insS
    split
    · simp
    · split
      · rename_i h; subst h; simp
      · rw [List.mem_cons, insS_mem x k r, List.mem_cons]
        constructor
        · rintro (h | h | h) <;> simp [h]
        · rintro (h | h | h) <;> simp [h]
theorem insS_up (x : Int) : ∀ {l : List Int}, l.Pairwise (· < ·) → (insS x l).Pairwise (· < ·)
  | [], _ => List.pairwise_singleton _ _
  | y :: r, h => by
    have hp := List.pairwise_cons.mp h
    unfold insS
    split
    · rename_i q
      refine List.pairwise_cons.mpr ⟨fun z m => ?_, h⟩
      rcases List.mem_cons.mp m with e | m
      · subst e; exact q
      · exact Int.lt_trans q (hp.1 z m)
    · split
      · exact h
      · rename_i q1 q2
        refine List.pairwise_cons.mpr ⟨fun z m => ?_, insS_up x hp.2⟩
        rcases (insS_mem x z r).mp m with e | m
        · subst e; omega
        · exact hp.1 z m
theorem srtS_mem (k : Int) : ∀ ns : List Int, k ∈ srtS ns ↔ k ∈ ns
  | [] => by simp [srtS]
  | x :: r => by
    show k ∈ insS x (srtS r) ↔ _
    rw [insS_mem, srtS_mem k r, List.mem_cons]
theorem srtS_up : ∀ ns : List Int, (srtS ns).Pairwise (· < ·)
  | [] => List.Pairwise.nil
  | x :: r => insS_up x (srtS_up r)
theorem up_uniq : ∀ {l m : List Int}, l.Pairwise (· < ·) → m.Pairwise (· < ·) → (∀ k, k ∈ l ↔ k ∈ m) → l = m
  | [], [], _, _, _ => rfl
  | [], y :: m, _, _, h => absurd ((h y).mpr (by simp)) (by simp)
  | x :: l, [], _, _, h => absurd ((h x).mp (by simp)) (by simp)
  | x :: l, y :: m, hl, hm, h => by
    have pl := List.pairwise_cons.mp hl
    have pm := List.pairwise_cons.mp hm
    have e : x = y := by
      rcases List.mem_cons.mp ((h x).mp (by simp)) with e | a
      · exact e
      · rcases List.mem_cons.mp ((h y).mpr (by simp)) with e | b
        · exact e.symm
        · have := pm.1 x a; have := pl.1 y b; omega
    subst e
    have : l = m := up_uniq pl.2 pm.2 fun k => by
      have hk := h k
      rw [List.mem_cons, List.mem_cons] at hk
      constructor
      · intro a
        rcases hk.mp (.inr a) with e | b
        · subst e; have := pl.1 k a; omega
        · exact b
      · intro a
        rcases hk.mpr (.inr a) with e | b
        · subst e; have := pm.1 k a; omega
        · exact b
    rw [this]
def fSrtSet : List D → Option C
  | [.lst xs] => (intsOf xs).bind fun ns => if ns.length < 64 then some (.ol ((srtS ns).map D.int)) else none
  | _ => none
theorem s_srtSet {K : Fg} {w : World} : OpS K (fun vs H Q => rSetLI K w vs H fun v H2 => rSortedSet w [v] H2 Q) fSrtSet := fun G H vs ds c Q s rv e k => by
  unfold fSrtSet at e
  split at e
  · rename_i xs
    cases q : intsOf xs with
    | none => simp [q] at e
    | some ns =>
      simp only [q, Option.bind_some] at e
      split at e
      · rename_i hl
        cases e
        have hx := intsOf_inv q
        subst hx
        cases rv with
        | cons r1 rv =>
          cases rv
          obtain ⟨a, us, rfl, h1, p1⟩ := r1.lst s
          rw [p1.ints_inv] at h1
          refine ⟨a, ns, rfl, SqL.of h1, by omega, fun p c hc hp => ?_⟩
          refine ⟨p, _, c, rfl, upd_same, by omega, fun ys q hy hm hyl hq => ?_⟩
          have ey : ys = srtS ns := up_uniq hy (srtS_up ns) fun k => by rw [hm k, srtS_mem, decide_eq_true_eq]
          subst ey
          have hqp : q ≠ p := fun z => by subst z; rw [upd_same] at hq; cases hq
          have hq' : H q = none := by rw [upd_ne hqp] at hq; exact hq
          have st : Step G H (fun _ => False) G (upd (upd H p (SetO w p (fun j => decide (j ∈ ns)) c)) q (.lst ((srtS ns).map V.int))) (fun a => a ∈ [q]) :=
            ⟨fun _ _ e => e, fun a o e _ => by rw [upd_ne (ne_of_none e hq'), upd_ne (ne_of_none e hp)]; exact e, fun a o e => .inl e, fun a m => by simp at m; subst m; exact .inr hq'⟩
          exact k _ G _ [q] (fun a o e => by rw [upd_ne (ne_of_none (s a o e) hq'), upd_ne (ne_of_none (s a o e) hp)]; exact s a o e) (.ol (none_of_same s hq') upd_same (reps_ints _)) st
      · cases e
  · cases e
theorem ok_srtSet {e : Expr} {o : Opd} {p p2 pos pos2 : Pos} (hc : X.calm = true) (hg : Gl X "sorted") (hm : X.mg "sorted" = none) (hg2 : Gl X "set") (hm2 : X.mg "set" = none) (ha : PA X [e] (tOs X.K [o]))
    (hs : starEach [.Call (.Name "set" p2) [e] [] pos2] X.env = (false, eval (.Call (.Name "set" p2) [e] [] pos2) X.env) :: starEach [] X.env := by rfl) (hs2 : starEach [e] X.env = (false, eval e X.env) :: starEach [] X.env := by rfl) :
    EOk X (.Call (.Name "sorted" p) [.Call (.Name "set" p2) [e] [] pos2] [] pos) (eO fSrtSet [o]) :=
  pe_mono (pe_callB (cr_sortedSet hc) hg hm (by decide +kernel) (pa_cons (pe_callTy (cr_setLI hc) hg2 hm2 (by decide +kernel) (pao ha) (by decide) (by decide) hs2) pa_nil hs) (by decide) (by decide) hs) fun σ H Q q => eO_run (s_srtSet (w := X.w)) q
end
/-! ## d.update(d2), sorted(d) -/
section
variable {X : Cx} {pins : List (Addr × Obj)} {σ : St} {H : Hp} {s : Shared} {A : Around} {E : Value → Shared → Prop}
theorem d_update {a b : Addr} {kvs more : List (Key × V)} {Q : Value → Shared → Prop} (I : Inv X pins σ H s) (e : H a = some (.dK kvs)) (e2 : H b = some (.dK more)) (hne : a ≠ b) (hl : kvs.length + more.length ≤ sizeLine)
    (h : ∀ s', Inv X pins σ (upd H a (.dK (mergeK kvs more))) s' → Q .none s') : wpAny (model X.prog X.w) A (call (.builtin "dict.update") [.ref a, .ref b]) Q E s := by
  obtain ⟨z, hd, vs, rel, dd⟩ := dk_of I.hok e
  obtain ⟨z2, hd2, vs2, rel2, dd2⟩ := dk_of I.hok e2
  refine call_meetsIn PySem.F.slot_dict_update dd.typeIs PySem.F.entry_dict_update (PySem.F.args_dict_update_2 _ _) (meets_dict_update (mixKind X.prog X.w) a b hne hd2)
    ⟨vs, vs2, dd, dd2, by rw [← rel.length, ← rel2.length]; exact hl, fun h' dd' _ hs => h _ ?_⟩
  exact d_write I (by rw [e]; exact True.intro) hs (let ⟨q, _, _, hq, _⟩ := dd'; ⟨q, hq⟩) (dk_new (Nat.le_trans (length_mergeK more kvs) hl) hd (KV.merge rel2 rel) dd')
end
def rUpd : V → List V → Hp → VK → Prop := fun x vs H Q => ∃ a b kvs more, x = .ref a ∧ vs = [.ref b] ∧ H a = some (.dK kvs) ∧ H b = some (.dK more) ∧ a ≠ b ∧ kvs.length + more.length ≤ sizeLine ∧ Q .non (upd H a (.dK (mergeK kvs more)))
theorem mt_upd {X : Cx} : MtR X "dict.update" rUpd := by
  intro pins s σ H x vs v us Q I rx rv h
  obtain ⟨a, b, kvs, more, rfl, rfl, e, e2, hne, hl, q⟩ := h
  obtain rfl : v = Value.ref a := rx
  obtain ⟨u, rfl, ru⟩ := rv.one
  obtain rfl : u = Value.ref b := ru
  exact d_update I e e2 hne hl fun s' I' => ⟨.non, _, I', rfl, q⟩
def mergeD (kvs more : List (Key × D)) : List (Key × D) := more.foldl (fun acc kv => putD acc kv.1 kv.2) kvs
theorem mergeK_of {K : Fg} {G : Hp} : ∀ {ds : List (Key × D)} {vs : List (Key × V)} {es : List (Key × D)} {us : List (Key × V)}, RepK K G vs ds → RepK K G us es → RepK K G (mergeK us vs) (mergeD es ds)
  | _, _, _, _, .nil, r => r
  | _, _, es, us, .cons h t, r => by
    show RepK K G (mergeK (putK us _ _) _) (mergeD (putD es _ _) _)
    exact mergeK_of t (putK_of h r)
theorem RepK.length {K : Fg} {G : Hp} : ∀ {ds : List (Key × D)} {vs : List (Key × V)}, RepK K G vs ds → vs.length = ds.length
  | _, _, .nil => rfl
  | _, _, .cons _ r => by simp [RepK.length r]
def fUpd : C → List D → Option (C × C)
  | .odk kvs, [.dk more] => if kvs.length + more.length ≤ lim then some (.sh .non, .odk (mergeD kvs more)) else none
  | _, _ => none
theorem m_upd {K : Fg} : MutS K rUpd fUpd := fun v0 vs H Q h => by
  obtain ⟨c0, f0, ds, G, s, r0, r, c, c0', e, k⟩ := h
  unfold fUpd at e
  split at e
  · rename_i kvs more
    split at e
    · rename_i hl
      cases e
      cases r0 with
      | odk g h r0 =>
        rename_i l xs
        cases r with
        | cons rm r =>
          cases r
          cases rm with
          | dk h2 r2 =>
            rename_i b ys
            have hne : l ≠ b := fun z => by rw [z, h2] at g; cases g
            refine ⟨l, b, xs, ys, rfl, rfl, h, s _ _ h2, hne, by rw [r0.length, r2.length, ← lim_eq]; exact hl, ?_⟩
            have sub : Same G (upd H l (.dK (mergeK xs ys))) := fun a o e => by rw [upd_ne (fun z => by rw [z, g] at e; cases e)]; exact s a o e
            refine k .non G _ [l] [] sub (.odk g upd_same (mergeK_of r2 r0)) (.sh .non) (fun a m => by cases m) ⟨fun _ _ e => e, fun a o e n => by rw [upd_ne (fun z => n (by simp [z]))]; exact e, fun a o e => .inl e, fun a m => m.elim .inl fun z => by cases z⟩
    · cases e
  · cases e
def eMethD (F : C → List D → Option (C × C)) (i : Nat) (ms : List Arg) : EM := fun env => match env[i]? with
  | some (some (.odk _)) => eCallB F i ms env
  | _ => none
section
variable {X : Cx} {o e : Expr} {es : List Expr} {name : Str} {apos cpos : Pos} {id : String} {r : V → List V → Hp → VK → Prop} {F : C → List D → Option (C × C)} {i : Nat} {ms : List Arg}
theorem methD_run {K : Fg} {σ : St} {H : Hp} {Q : VK} (q : tE K (eMethD F i ms) σ H Q) :
    ∃ l xs, σ[i]? = some (some (.ref l)) ∧ H l = some (.dK xs) ∧ tAr K ms σ H fun vs H1 => Mt K F (.ref l) vs H1 Q := by
  obtain ⟨env, G, fp, con, c, env', e1, k⟩ := q
  unfold eMethD at e1
  split at e1
  · rename_i ds q0
    obtain ⟨v0, hv0, r0⟩ := con.rep i _ q0
    obtain ⟨v1, cc, f0, G1, h1, h2, h3, h4⟩ := mut_run (F := F) ⟨env, G, fp, con, c, env', e1, k⟩
    rw [hv0] at h1; cases h1
    generalize hf : fp i = fi at r0
    cases r0 with
    | odk g h r => exact ⟨_, _, hv0, h, h4⟩
  · cases e1
theorem ok_methD (slot : Slot "dict" name id) (hty : typeOf (.builtin id) = pure (.type "method_descriptor")) (hm : MtR X id r) (hF : MutS X.K r F) (ho : PE X o (tVar i)) (ha : PA X (e :: es) (tAr X.K ms))
    (hbase : attributeBase o name X.env (eval o X.env) = eval o X.env := by rfl)
    (hfew : ((backTo cpos (starEach (e :: es) X.env)).all (fun x => !x.1) && (backToKw cpos (keywordEach [] X.env)).all (fun x => x.1.isSome)
      && decide ((e :: es).length + ([] : List Keyword).length + (if ([] : List Keyword).isEmpty then 0 else 1) < 30)) = true := by rfl)
    (hline : (apos.endLine == cpos.line) = true := by rfl) (hs : starEach (e :: es) X.env = (false, eval e X.env) :: starEach es X.env := by rfl) (hplain : (backTo cpos (starEach es X.env)).any (·.1) = false := by rfl) :
    EOk X (.Call (.Attribute o name apos) (e :: es) [] cpos) (eMethD F i ms) :=
  pe_mono (pe_bm PySem.F.plainAttrs_dict slot hty hm ho ha hbase hfew hline hs hplain) fun σ H Q q => by
    obtain ⟨l, xs, hv, hl, z⟩ := methD_run q
    exact ⟨_, hv, .inr (.inr (.inl ⟨rfl, .inl ⟨xs, hl⟩⟩)), ok_methL.ta_mono ms z fun vs H1 h => hF _ _ _ _ h⟩
@[simp] theorem ev_MethD {env : Env} : eMethD F i ms env = (getC env i).bind fun c => match c with
  | .odk _ => eCallB F i ms env
  | _ => none := by
  unfold eMethD getC
  cases h : env[i]? with
  | none => rfl
  | some x => cases x with
    | none => rfl
    | some c => cases c <;> rfl
@[simp] theorem fUpd_k {kvs more : List (Key × D)} : fUpd (.odk kvs) [.dk more] = if kvs.length + more.length ≤ lim then some (.sh .non, .odk (mergeD kvs more)) else none := rfl
end
/-! sorted(d): the keys are ints -/
def keysI : List (Key × D) → Option (List Int)
  | [] => some []
  | (.inl i, _) :: r => (keysI r).bind fun ks => some (i :: ks)
  | _ :: _ => none
theorem keysI_inv : ∀ {kvs : List (Key × D)} {ks : List Int}, keysI kvs = some ks → kvs.map (·.1) = ks.map Sum.inl
  | [], ks, h => by cases h; rfl
  | (.inl i, d) :: r, ks, h => by
    unfold keysI at h
    cases q : keysI r with
    | none => simp [q] at h
    | some l => simp [q] at h; subst h; simp [keysI_inv q]
  | (.inr x, d) :: r, ks, h => by cases h
def fSortedD : List D → Option C
  | [.dk kvs] => (keysI kvs).bind fun ks => if ks.length < 64 then some (.ol ((isrt ltI ks).map D.int)) else none
  | _ => none
theorem RepK.keys {K : Fg} {G : Hp} : ∀ {ds : List (Key × D)} {vs : List (Key × V)}, RepK K G vs ds → vs.map (·.1) = ds.map (·.1)
  | _, _, .nil => rfl
  | _, _, .cons _ r => by simp [RepK.keys r]
def rSortedDI : List V → Hp → VK → Prop := fun xs H Q => ∃ (a : Addr) (kvs : List (Key × V)) (ks : List Int), xs = [.ref a] ∧ Rd H a (.dK kvs) ∧ kvs.map (·.1) = ks.map Sum.inl ∧ ks.length < 64 ∧
    ∀ (ys : List Int) (p : Addr), ys.Perm ks → ys.Pairwise (· ≤ ·) → H p = none → Q (.ref p) (upd H p (.lst (ys.map V.int)))
theorem s_sortedD {K : Fg} : OpS K rSortedDI fSortedD := fun G H vs ds c Q s rv e k => by
  unfold fSortedD at e
  split at e
  · rename_i kvs
    cases q : keysI kvs with
    | none => simp [q] at e
    | some ks =>
      simp only [q, Option.bind_some] at e
      split at e
      · rename_i hl
        cases e
        cases rv with
        | cons r1 rv =>
          cases rv
          obtain ⟨a, us, rfl, h1, p1⟩ := r1.dk_ s
          refine ⟨a, us, ks, rfl, .of h1, by rw [p1.keys]; exact keysI_inv q, hl, fun ys p hp hs hn => ?_⟩
          have e : ys = isrt ltI ks := by
            refine srt_uniq swoI antiI (hs.imp fun {a b} h => ?_) (isrt_srtd swoI ks) (hp.trans (isrt_perm ltI ks).symm)
            unfold ltI; simp; exact h
          subst e
          exact k.ol s (reps_ints _) hn
      · cases e
  · cases e
theorem cr_sortedDI {X : Cx} (hc : X.calm = true) : CallR X (.builtin "sorted") rSortedDI := call_sortedDI hc
/-! x not in a module's dict: where it is there -/
def eNotTab (tab : List (Str × D)) (o : Opd) : EM := fun env => (evO [o] env).bind fun (ds, e) => match ds with
  | [.str z] => (tab.lookup z).bind fun _ => some (.sh (.bl false), e)
  | _ => none
theorem ok_notTab {X : Cx} {x : Str} {p pos : Pos} {a : Expr} {d : Addr} {tab : List (Str × D)} {o : Opd} (hg : Gl X x) (hm : X.mg x = some (.ref d)) (hD : ∃ es n, KDict X.K X.w d es n) (ht : ∀ z d', tab.lookup z = some d' → ∃ u0 v0, PySem.W.nsIn X.K d z = some (some u0) ∧ RelV v0 u0 ∧ ∀ G, Rep X.K G v0 d')
    (ho : OOk X a o) (hd : (x == ("__debug__" : Str)) = false := by decide) (hmk : behindInMarks .NotIn (.Name x p) = false := by first | exact nomark _ | rfl) : TOk X (.Compare a [.NotIn] [.Name x p] pos) (kVal (eNotTab tab o)) := by
  obtain ⟨es, n, kd⟩ := hD
  refine pt_mono (pt_cmpR (op_notIn_kd kd) ho (pe_glob (v := .ref d) hg hm rfl hd) hmk) fun σ H Q ⟨env, G, fp, con, b, env', e1, k⟩ => ?_
  unfold kVal eNotTab at e1
  cases q : evO [o] env with
  | none => rw [q] at e1; cases e1
  | some y =>
    obtain ⟨ds, e2⟩ := y
    rw [q] at e1
    simp only [Option.bind_some] at e1
    split at e1
    · rename_i b0 e0 q0
      split at q0
      · rename_i z
        cases q2 : tab.lookup z with
        | none => rw [q2] at q0; cases q0
        | some d' =>
          rw [q2] at q0
          cases q0
          simp only [Option.some.injEq, Prod.mk.injEq] at e1
          obtain ⟨rfl, rfl⟩ := e1
          obtain ⟨u0, v0, h1, _, _⟩ := ht z d' q2
          have hz : tO X.K [o] σ H (fun vs H1 => ∃ y, vs = [y] ∧ ∃ (z : Str) (r : Option Value), y = .str z ∧ V.ref d = .ref d ∧ PySem.W.nsIn X.K d z = some r ∧ ∃ k, V.bl (!r.isSome) = .bl k ∧ Q k H1) := ⟨env, G, fp, con, _, _, q, fun vs G' H' fp' c' rv s => by
            cases rv with
            | cons r1 rv =>
              cases rv; cases r1.str
              exact ⟨_, rfl, z, some u0, rfl, rfl, h1, false, rfl, k G' H' fp' c' s⟩⟩
          show (tOpd X.K o) σ H _
          refine vk_mono_opd o (fun y H1 h => ?_) (tOs1 (tO_tOs hz))
          obtain ⟨y', ey, h⟩ := h
          cases ey
          exact h
      · cases q0
    · cases e1
@[simp] theorem ev_NotTab {env : Env} {tab : List (Str × D)} {o : Opd} : eNotTab tab o env = (evO [o] env).bind fun (ds, e) => match ds with
  | [.str z] => (tab.lookup z).bind fun _ => some (.sh (.bl false), e)
  | _ => none := rfl
end Fx
set_option Elab.async false
set_option linter.all false
set_option maxRecDepth 100000
set_option maxHeartbeats 4000000
namespace Fx
open PySem L2
/-! more reckoning: and/or/not as values, dict comprehensions, == on the same -/
section
variable {env : Env} {a b : EM}
@[simp] theorem ev_And : eAnd a b env = (a env).bind fun (c, e) => match c with | .sh (.bl x) => if x then b e else some (.sh (.bl false), e) | _ => none := by
  unfold eAnd
  cases a env with
  | none => rfl
  | some y =>
    obtain ⟨c, e⟩ := y
    cases c with
    | sh d => cases d <;> rfl
    | _ => rfl
@[simp] theorem ev_Or : eOr a b env = (a env).bind fun (c, e) => match c with | .sh (.bl x) => if x then some (.sh (.bl true), e) else b e | _ => none := by
  unfold eOr
  cases a env with
  | none => rfl
  | some y =>
    obtain ⟨c, e⟩ := y
    cases c with
    | sh d => cases d <;> rfl
    | _ => rfl
@[simp] theorem ev_Not : eNot a env = (a env).bind fun (c, e) => match c with | .sh (.bl x) => some (.sh (.bl (!x)), e) | _ => none := by
  unfold eNot
  cases a env with
  | none => rfl
  | some y =>
    obtain ⟨c, e⟩ := y
    cases c with
    | sh d => cases d <;> rfl
    | _ => rfl
@[simp] theorem ev_DC {vs : List Nat} {t : Tgt} {i : IM} {c : TM} {mk mv : EM} : eDC vs t i c mk mv env = (i env).bind fun (ds, e1) => if calmE e1 vs then (dcN vs t c mk mv ds [] (wipeE e1 vs)).bind fun (rs, e2) => some (.odk rs, restE e1 vs e2) else none := rfl
end
theorem dcN_nil {vs : List Nat} {t : Tgt} {c : TM} {mk mv : EM} {acc : List (Key × D)} {env : Env} : dcN vs t c mk mv [] acc env = some (acc, env) := rfl
theorem dcN_cons {vs : List Nat} {t : Tgt} {c : TM} {mk mv : EM} {d : D} {ds : List D} {acc : List (Key × D)} {env : Env} : dcN vs t c mk mv (d :: ds) acc env = (asgT t d env).bind fun e1 => (c e1).bind fun (b, e2) => if b then (mk e2).bind fun (x, e3) => (keyD x.fz).bind fun k => (mv e3).bind fun (y, e4) => if calmE e4 vs = true ∧ acc.length < lim then dcN vs t c mk mv ds (putD acc k y.fz) (wipeE e4 vs) else none
      else if calmE e2 vs then dcN vs t c mk mv ds acc (wipeE e2 vs) else none := rfl
/-! the same datum is equal to itself -/
mutual
theorem D.eqv_refl : ∀ d : D, d.okq = true → D.eqv d d = true
  | .non, _ => rfl
  | .bl b, _ => by simp [D.eqv]
  | .int i, _ => by simp [D.eqv]
  | .str x, _ => by simp [D.eqv]
  | .tup ds, h => by simp only [D.eqv]; exact D.eqvs_refl ds (by simpa [D.okq] using h)
  | .lst ds, h => by simp only [D.eqv]; exact D.eqvs_refl ds (by simpa [D.okq] using h)
  | .dk _, h => by cases h
  | .dt _, h => by cases h
  | .scr _, h => by cases h
theorem D.eqvs_refl : ∀ ds : List D, D.okqs ds = true → D.eqvs ds ds = true
  | [], _ => rfl
  | d :: ds, h => by
    simp only [D.okqs, Bool.and_eq_true] at h
    simp only [D.eqvs, D.eqv_refl d h.1, D.eqvs_refl ds h.2, Bool.and_self]
end
theorem fNe_self {d : D} (h : d.okq = true) (h2 : d.dep ≤ 63) : fNe [d, d] = some (.sh (.bl false)) := by
  rw [fNe_v (by unfold D.cmpable; simp [h, h2]), D.eqv_refl d h]; rfl
theorem fEq_self {d : D} (h : d.okq = true) (h2 : d.dep ≤ 63) : fEq [d, d] = some (.sh (.bl true)) := by
  rw [fEq_v (by unfold D.cmpable; simp [h, h2]), D.eqv_refl d h]
theorem okqs_ints : ∀ l : List Int, D.okqs (l.map D.int) = true
  | [] => rfl
  | x :: r => by simp [D.okqs, D.okq, okqs_ints r]
theorem deps_ints : ∀ l : List Int, D.deps (l.map D.int) = 0
  | [] => rfl
  | x :: r => by simp [D.deps, D.dep, deps_ints r]
theorem eqvs_ints : ∀ l m : List Int, D.eqvs (l.map D.int) (m.map D.int) = decide (l = m)
  | [], [] => rfl
  | [], x :: m => by simp [D.eqvs]
  | x :: l, [] => by simp [D.eqvs]
  | x :: l, y :: m => by
    have e := eqvs_ints l m
    by_cases h : x = y <;> by_cases h2 : l = m <;> simp_all [D.eqvs, D.eqv]
theorem fEq_ti (l m : List Int) : fEq [.tup (l.map D.int), .tup (m.map D.int)] = some (.sh (.bl (decide (l = m)))) := by
  rw [fEq_v (by unfold D.cmpable; simp [D.okq, D.dep, okqs_ints, deps_ints])]
  simp [D.eqv, eqvs_ints]
theorem fEq_li (l m : List Int) : fEq [.lst (l.map D.int), .lst (m.map D.int)] = some (.sh (.bl (decide (l = m)))) := by
  rw [fEq_v (by unfold D.cmpable; simp [D.okq, D.dep, okqs_ints, deps_ints])]
  simp [D.eqv, eqvs_ints]
theorem fNe_ti (l m : List Int) : fNe [.tup (l.map D.int), .tup (m.map D.int)] = some (.sh (.bl (!decide (l = m)))) := by
  rw [fNe_v (by unfold D.cmpable; simp [D.okq, D.dep, okqs_ints, deps_ints])]
  simp [D.eqv, eqvs_ints]
theorem fNe_li (l m : List Int) : fNe [.lst (l.map D.int), .lst (m.map D.int)] = some (.sh (.bl (!decide (l = m)))) := by
  rw [fNe_v (by unfold D.cmpable; simp [D.okq, D.dep, okqs_ints, deps_ints])]
  simp [D.eqv, eqvs_ints]
/-! dicts whose values are all True: their keys -/
def kD (ks : List Int) : List (Key × D) := ks.map fun k => (.inl k, .bl true)
def inK (ks : List Int) (k : Int) : List Int := if k ∈ ks then ks else ks ++ [k]
theorem putD_kD (ks : List Int) (k : Int) : putD (kD ks) (.inl k) (.bl true) = kD (inK ks k) := by
  unfold putD kD inK
  by_cases h : k ∈ ks
  · rw [if_pos h, if_pos (by simp; exact h)]
    rw [List.map_map]
    apply List.map_congr_left
    intro x hx
    by_cases q : x = k <;> simp [q]
  · rw [if_neg h, if_neg (by simp; exact fun e => h e)]
    simp
theorem kD_len (ks : List Int) : (kD ks).length = ks.length := by simp [kD]
theorem mergeD_kD : ∀ (b a : List Int), mergeD (kD a) (kD b) = kD (b.foldl inK a)
  | [], a => rfl
  | k :: b, a => by
    show mergeD (putD (kD a) _ _) (kD b) = _
    rw [putD_kD, mergeD_kD b]; rfl
theorem inK_mem {ks : List Int} {k x : Int} : x ∈ inK ks k ↔ x ∈ ks ∨ x = k := by
  unfold inK
  by_cases h : k ∈ ks
  · rw [if_pos h]; constructor
    · exact .inl
    · rintro (a | rfl)
      · exact a
      · exact h
  · rw [if_neg h]; simp
theorem inK_nodup {ks : List Int} {k : Int} (h : ks.Nodup) : (inK ks k).Nodup := by
  unfold inK
  by_cases q : k ∈ ks
  · rw [if_pos q]; exact h
  · rw [if_neg q]
    refine List.nodup_append.mpr ⟨h, by simp, fun a ha b hb => ?_⟩
    simp at hb; subst hb; intro e; subst e; exact q ha
theorem inK_len {ks : List Int} {k : Int} : (inK ks k).length ≤ ks.length + 1 := by
  unfold inK; split <;> simp
theorem foldK_mem : ∀ {b a : List Int} {x : Int}, x ∈ b.foldl inK a ↔ x ∈ a ∨ x ∈ b
  | [], a, x => by simp
  | k :: b, a, x => by rw [List.foldl_cons, foldK_mem, inK_mem, List.mem_cons, or_assoc]
theorem foldK_nodup : ∀ {b a : List Int}, a.Nodup → (b.foldl inK a).Nodup
  | [], a, h => h
  | k :: b, a, h => foldK_nodup (b := b) (a := inK a k) (inK_nodup h)
theorem foldK_len : ∀ {b a : List Int}, (b.foldl inK a).length ≤ a.length + b.length
  | [], a => Nat.le_refl _
  | k :: b, a => by
    have := foldK_len (b := b) (a := inK a k)
    have := inK_len (ks := a) (k := k)
    simp only [List.foldl_cons, List.length_cons]; omega
theorem keysI_kD : ∀ ks : List Int, keysI (kD ks) = some ks
  | [] => rfl
  | k :: r => by
    show (keysI (kD r)).bind _ = _
    rw [keysI_kD r]; rfl
theorem isrt_srtS {ks ns : List Int} (h : ks.Nodup) (m : ∀ k, k ∈ ks ↔ k ∈ ns) : isrt ltI ks = srtS ns := by
  refine up_uniq ?_ (srtS_up ns) fun k => by rw [srtS_mem, ← m, (isrt_perm ltI ks).mem_iff]
  have h1 := isrt_srtd swoI ks
  have h2 : (isrt ltI ks).Nodup := (isrt_perm ltI ks).nodup_iff.mpr h
  exact List.Pairwise.imp₂ (fun a b p q => by unfold ltI at p; simp at p; omega) h1 h2
theorem fSortedD_kD {ks ns : List Int} (h : ks.Nodup) (m : ∀ k, k ∈ ks ↔ k ∈ ns) (hl : ks.length < 64) : fSortedD [.dk (kD ks)] = some (.ol ((srtS ns).map D.int)) := by
  show ((keysI (kD ks)).bind _) = _
  rw [keysI_kD]
  simp [hl, isrt_srtS h m]
theorem fSrtSet_i {ns : List Int} (hl : ns.length < 64) : fSrtSet [.lst (ns.map D.int)] = some (.ol ((srtS ns).map D.int)) := by
  show ((intsOf (ns.map D.int)).bind _) = _
  rw [intsOf_map]
  simp [hl]
theorem srtS_congr {a b : List Int} (h : ∀ k, k ∈ a ↔ k ∈ b) : srtS a = srtS b := up_uniq (srtS_up a) (srtS_up b) fun k => by rw [srtS_mem, srtS_mem, h]
theorem srtS_nil {ns : List Int} : srtS ns = [] ↔ ns = [] := by
  constructor
  · intro h
    apply List.eq_nil_iff_forall_not_mem.mpr
    intro k hk
    have := (srtS_mem k ns).mpr hk
    rw [h] at this; cases this
  · rintro rfl; rfl
theorem up_len : ∀ {l : List Int} {lo hi : Int}, l.Pairwise (· < ·) → (∀ x ∈ l, lo ≤ x ∧ x < hi) → (l.length : Int) ≤ max 0 (hi - lo)
  | [], lo, hi, _, _ => by simp; omega
  | x :: r, lo, hi, h, b => by
    have hp := List.pairwise_cons.mp h
    have hx := b x (by simp)
    have := up_len (l := r) (lo := x + 1) (hi := hi) hp.2 fun y hy => ⟨by have := hp.1 y hy; omega, (b y (by simp [hy])).2⟩
    simp only [List.length_cons]
    push_cast
    omega
end Fx
set_option Elab.async false
set_option linter.all false
set_option maxRecDepth 100000
set_option maxHeartbeats 4000000
/-! min and max of two: tuples of ints -/
namespace PySem
section
variable {prog : Program} {w : World} {A : Around} {E : Value → Shared → Prop} {s : Shared}
theorem call_min_twoH {a b : Value} {Q : Value → Shared → Prop}
    (h : wpAny (model prog w) A.in1 (pyIter (.ref s.heap.objs.size)) (fun it s₂ => ∃ I fp wr G n P St H bt, it = .ref I ∧ WalksS prog w A.in1 I fp wr G n P St ∧ St 0 s₂ ∧ (∀ b ∈ fp, b < s₂.heap.objs.size) ∧ 0 < n ∧
      (∀ b o, H.get? b = some o → b ∉ wr) ∧ (∀ b o, H.get? b = some o → s₂.heap.get? b = some o) ∧ CmpIn prog w A.in1 .Lt H P bt ∧ ∀ v s', P (argBest bt (n - 1)) v → Moved wr G s₂ s' → Q v s') E
      { s with heap := s.heap.push { cls := .type "tuple", data := .seq #[a, b] } }) :
    wpAny (model prog w) A (call (.builtin "min") [a, b]) Q E s := by
  have hname : (toString "min" ++ toString ".loop" : String) = "min.loop" := by decide
  refine call_function_tree F.kind_min F.plain_min F.entry_min (F.args_min2 _ _) ?_
  show wpAny _ A.in1 (Builtin.Builtins.bindParams "min" ["key", "default"] 0 ⟨[], []⟩ >>= _) _ _ s
  refine wpAny_bind (wpAny_of_eq (show Builtin.Builtins.bindParams "min" ["key", "default"] 0 ⟨[], []⟩ = pure [none, none] from rfl) ?_)
  show wpAny _ A.in1 (newTuple [a, b] >>= _) _ _ s
  refine wpAny_bind (wpAny_newObj_type ?_)
  refine wpAny_bind (wpAny_mono h (fun it s₂ h₂ => ?_) fun _ _ e => e)
  obtain ⟨I, fp, wr, G, n, P, St, H, bt, rfl, W, hst, hfp, hn, hw, hkeep, hcmp, hQ⟩ := h₂
  refine wpAny_bind (wpAny_newObj_type ?_)
  have hSf : s₂.heap.objs.size ∉ fp := fun hm => Nat.lt_irrefl _ (hfp _ hm)
  rw [hname]
  refine wpAny_pure ⟨plainId_quiet F.plain_min_loop _, codeAny_min_loop_firstH W H hw bt hcmp s₂.heap.objs.size hSf (fresh_in hkeep) _ hn (fun b o e => Heap.get?_push_of_some _ (hkeep b o e)) (W.frame 0 s₂ _ s₂.toks hst (Nat.le_refl _) fun b _ o e => Heap.get?_push_of_some _ e) (Heap.get?_push_size _ rfl) fun v s' hP hm => ?_⟩
  exact hQ v s' hP (Moved.drop_new (tk := s₂.toks) hm (Nat.le_refl _))
theorem call_max_twoH {a b : Value} {Q : Value → Shared → Prop}
    (h : wpAny (model prog w) A.in1 (pyIter (.ref s.heap.objs.size)) (fun it s₂ => ∃ I fp wr G n P St H bt, it = .ref I ∧ WalksS prog w A.in1 I fp wr G n P St ∧ St 0 s₂ ∧ (∀ b ∈ fp, b < s₂.heap.objs.size) ∧ 0 < n ∧
      (∀ b o, H.get? b = some o → b ∉ wr) ∧ (∀ b o, H.get? b = some o → s₂.heap.get? b = some o) ∧ CmpIn prog w A.in1 .Gt H P bt ∧ ∀ v s', P (argBest bt (n - 1)) v → Moved wr G s₂ s' → Q v s') E
      { s with heap := s.heap.push { cls := .type "tuple", data := .seq #[a, b] } }) :
    wpAny (model prog w) A (call (.builtin "max") [a, b]) Q E s := by
  have hname : (toString "max" ++ toString ".loop" : String) = "max.loop" := by decide
  refine call_function_tree F.kind_max F.plain_max F.entry_max (F.args_max2 _ _) ?_
  show wpAny _ A.in1 (Builtin.Builtins.bindParams "max" ["key", "default"] 0 ⟨[], []⟩ >>= _) _ _ s
  refine wpAny_bind (wpAny_of_eq (show Builtin.Builtins.bindParams "max" ["key", "default"] 0 ⟨[], []⟩ = pure [none, none] from rfl) ?_)
  show wpAny _ A.in1 (newTuple [a, b] >>= _) _ _ s
  refine wpAny_bind (wpAny_newObj_type ?_)
  refine wpAny_bind (wpAny_mono h (fun it s₂ h₂ => ?_) fun _ _ e => e)
  obtain ⟨I, fp, wr, G, n, P, St, H, bt, rfl, W, hst, hfp, hn, hw, hkeep, hcmp, hQ⟩ := h₂
  refine wpAny_bind (wpAny_newObj_type ?_)
  have hSf : s₂.heap.objs.size ∉ fp := fun hm => Nat.lt_irrefl _ (hfp _ hm)
  rw [hname]
  refine wpAny_pure ⟨plainId_quiet F.plain_max_loop _, codeAny_max_loop_firstH W H hw bt hcmp s₂.heap.objs.size hSf (fresh_in hkeep) _ hn (fun b o e => Heap.get?_push_of_some _ (hkeep b o e)) (W.frame 0 s₂ _ s₂.toks hst (Nat.le_refl _) fun b _ o e => Heap.get?_push_of_some _ e) (Heap.get?_push_size _ rfl) fun v s' hP hm => ?_⟩
  exact hQ v s' hP (Moved.drop_new (tk := s₂.toks) hm (Nat.le_refl _))
open PySem.W PySem.SeqAt PyProof.Rows in
theorem min_two_data {a b : Value} {d e : PyData} {as : List Addr} {Q : Value → Shared → Prop} (hh : A.handled = none) (hr : ReadsAll s.heap [a, b] [d, e] as) (ha : AlikeAll [d, e]) (hu : A.units + 1 + PyData.depthAll [d, e] < cLine)
    (h : ∀ h' tk, (∀ c o, s.heap.get? c = some o → h'.get? c = some o) → Q (if dataLt e d then b else a) { s with heap := h', toks := tk }) :
    wpAny (model prog w) A (call (.builtin "min") [a, b]) Q E s := by
  have hT : (s.heap.push { cls := .type "tuple", data := .seq #[a, b] }).IsTuple s.heap.objs.size #[a, b] := ⟨_, Heap.get?_push_size _ rfl, rfl, 0, rfl⟩
  have hk0 : ∀ c o, s.heap.get? c = some o → (s.heap.push { cls := .type "tuple", data := .seq #[a, b] }).get? c = some o := fun c o e => Heap.get?_push_of_some _ e
  refine call_min_twoH (iter_tupleW (A := A.in1) hh hT fun s₂ e0 W st hfp hw hk => ?_)
  refine ⟨_, _, _, _, _, _, _, s.heap.push { cls := .type "tuple", data := .seq #[a, b] }, _, rfl, W, st, hfp, by simp, hw, hk, cmpIn_lt (s := { s with heap := s.heap.push { cls := .type "tuple", data := .seq #[a, b] } }) (A := A.in1) (xs := [d, e]) (ReadsAll.keeps hk0 hr) ha (by show A.units + 1 + _ < _; exact hu), fun v s' hP m => ?_⟩
  obtain ⟨h', tk, rfl, hk'⟩ := moved_old e0 rfl m
  have hv : v = if dataLt e d then b else a := by
    have hP' : (#[a, b] : Array Value)[argBest (fun i j => dataLt ([d, e].getD i .none) ([d, e].getD j .none)) 1]? = some v := hP
    have hb : argBest (fun i j => dataLt ([d, e].getD i .none) ([d, e].getD j .none)) 1 = if dataLt e d then 1 else 0 := rfl
    rw [hb] at hP'
    by_cases q : dataLt e d = true
    · rw [if_pos q] at hP' ⊢; simpa using hP'.symm
    · rw [if_neg q] at hP' ⊢; simpa using hP'.symm
  rw [hv]
  exact h h' tk fun c o e => hk' c o (hk0 c o e)
open PySem.W PySem.SeqAt PyProof.Rows in
theorem max_two_data {a b : Value} {d e : PyData} {as : List Addr} {Q : Value → Shared → Prop} (hh : A.handled = none) (hr : ReadsAll s.heap [a, b] [d, e] as) (ha : AlikeAll [d, e]) (hu : A.units + 1 + PyData.depthAll [d, e] < cLine)
    (h : ∀ h' tk, (∀ c o, s.heap.get? c = some o → h'.get? c = some o) → Q (if dataLt d e then b else a) { s with heap := h', toks := tk }) :
    wpAny (model prog w) A (call (.builtin "max") [a, b]) Q E s := by
  have hT : (s.heap.push { cls := .type "tuple", data := .seq #[a, b] }).IsTuple s.heap.objs.size #[a, b] := ⟨_, Heap.get?_push_size _ rfl, rfl, 0, rfl⟩
  have hk0 : ∀ c o, s.heap.get? c = some o → (s.heap.push { cls := .type "tuple", data := .seq #[a, b] }).get? c = some o := fun c o e => Heap.get?_push_of_some _ e
  refine call_max_twoH (iter_tupleW (A := A.in1) hh hT fun s₂ e0 W st hfp hw hk => ?_)
  refine ⟨_, _, _, _, _, _, _, s.heap.push { cls := .type "tuple", data := .seq #[a, b] }, _, rfl, W, st, hfp, by simp, hw, hk, cmpIn_gt (s := { s with heap := s.heap.push { cls := .type "tuple", data := .seq #[a, b] } }) (A := A.in1) (xs := [d, e]) (ReadsAll.keeps hk0 hr) ha (by show A.units + 1 + _ < _; exact hu), fun v s' hP m => ?_⟩
  obtain ⟨h', tk, rfl, hk'⟩ := moved_old e0 rfl m
  have hv : v = if dataLt d e then b else a := by
    have hP' : (#[a, b] : Array Value)[argBest (fun i j => dataLt ([d, e].getD j .none) ([d, e].getD i .none)) 1]? = some v := hP
    have hb : argBest (fun i j => dataLt ([d, e].getD j .none) ([d, e].getD i .none)) 1 = if dataLt d e then 1 else 0 := rfl
    rw [hb] at hP'
    by_cases q : dataLt d e = true
    · rw [if_pos q] at hP' ⊢; simpa using hP'.symm
    · rw [if_neg q] at hP' ⊢; simpa using hP'.symm
  rw [hv]
  exact h h' tk fun c o e => hk' c o (hk0 c o e)
end
end PySem
namespace Fx
open PySem L2
theorem lexLt_dec : ∀ ns ms : List Int, HT.lexLt ns ms = decide (ns < ms)
  | [], [] => by simp [HT.lexLt]
  | [], y :: ms => by simp [HT.lexLt]
  | x :: ns, [] => by simp [HT.lexLt]
  | x :: ns, y :: ms => by
    rw [HT.lexLt_cons, lexLt_dec ns ms]
    by_cases h : x = y
    · subst h; simp [List.cons_lt_cons_iff]
    · simp [h, List.cons_lt_cons_iff]
theorem dataLt_t (ns ms : List Int) : PySem.W.dataLt (.tuple (ns.map .int)) (.tuple (ms.map .int)) = HT.lexLt ns ms := by
  rw [lexLt_dec, ← PySem.W.dataLt_ints ns ms, PySem.W.dataLt_tuple]; rfl
theorem alike_t (ns ms : List Int) : PySem.W.AlikeAll [.tuple (ns.map .int), .tuple (ms.map .int)] := by
  constructor
  · intro x hx y hy
    simp at hx hy
    rcases hx with rfl | rfl <;> rcases hy with rfl | rfl <;> (show PySem.W.alikeAll _ _ = true; exact PySem.W.alike_ints _ _)
  · intro x hx
    simp at hx
    rcases hx with rfl | rfl <;> (intro e; cases e)
theorem depth_ints : ∀ ns : List Int, PyData.depthAll (ns.map .int) = 0
  | [] => rfl
  | x :: r => by simp [PyData.depthAll, PyData.depth, depth_ints r]
noncomputable section
section
variable {K : Fg}
def rMinT (K : Fg) : List V → Hp → VK → Prop := fun xs H Q => rMinA K xs H Q ∨ ∃ a b ns ms, xs = [.ref a, .ref b] ∧ SqT K H a (ns.map V.int) ∧ SqT K H b (ms.map V.int) ∧ Q (if HT.lexLt ms ns then .ref b else .ref a) H
def rMaxT (K : Fg) : List V → Hp → VK → Prop := fun xs H Q => rMaxA K xs H Q ∨ ∃ a b ns ms, xs = [.ref a, .ref b] ∧ SqT K H a (ns.map V.int) ∧ SqT K H b (ms.map V.int) ∧ Q (if HT.lexLt ns ms then .ref b else .ref a) H
theorem dp_ints {H : Hp} : ∀ ns : List Int, DpAll K H (ns.map V.int) (ns.map PyData.int)
  | [] => .nil
  | x :: r => .cons (.int x) (dp_ints r)
theorem reads_tt {X : Cx} {pins : List (Addr × Obj)} {σ : St} {H : Hp} {s : Shared} (I : Inv X pins σ H s) {a b : Addr} {ns ms : List Int} (h1 : SqT X.K H a (ns.map V.int)) (h2 : SqT X.K H b (ms.map V.int)) : ∃ as, ReadsAll s.heap [.ref a, .ref b] [.tuple (ns.map .int), .tuple (ms.map .int)] as :=
  Dp.readsAll I [.tuple (ns.map .int), .tuple (ms.map .int)] [.ref a, .ref b] [.ref a, .ref b] (.cons (.tup h1 (dp_ints _)) (.cons (.tup h2 (dp_ints _)) .nil)) (.cons rfl (.cons rfl .nil))
theorem call_minT {X : Cx} {k : Nat} (hr : Room k X.A) (hc : X.calm = true) : CallR X (.builtin "min") (rMinT X.K) := CallR.or (call_minA hc) (by
  intro pins s σ H xs us Q I r h
  obtain ⟨a, b, ns, ms, rfl, h1, h2, q⟩ := h
  obtain ⟨u, w', rfl, ru, rw'⟩ := vals2 r
  obtain rfl : u = Value.ref a := ru
  obtain rfl : w' = Value.ref b := rw'
  obtain ⟨as, hr1⟩ := reads_tt I h1 h2
  refine min_two_data (I.ok.hd hc) hr1 (alike_t ns ms) (by simp [PyData.depthAll, PyData.depth, depth_ints]; have := hr.un; omega) fun h' tk kp => ⟨_, H, I.kept kp, ?_, q⟩
  rw [dataLt_t]
  split <;> rfl)
theorem call_maxT {X : Cx} {k : Nat} (hr : Room k X.A) (hc : X.calm = true) : CallR X (.builtin "max") (rMaxT X.K) := CallR.or (call_maxA hc) (by
  intro pins s σ H xs us Q I r h
  obtain ⟨a, b, ns, ms, rfl, h1, h2, q⟩ := h
  obtain ⟨u, w', rfl, ru, rw'⟩ := vals2 r
  obtain rfl : u = Value.ref a := ru
  obtain rfl : w' = Value.ref b := rw'
  obtain ⟨as, hr1⟩ := reads_tt I h1 h2
  refine max_two_data (I.ok.hd hc) hr1 (alike_t ns ms) (by simp [PyData.depthAll, PyData.depth, depth_ints]; have := hr.un; omega) fun h' tk kp => ⟨_, H, I.kept kp, ?_, q⟩
  rw [dataLt_t]
  split <;> rfl)
def fMinT : List D → Option C
  | [.tup x, .tup y] => (intsOf x).bind fun ns => (intsOf y).bind fun ms => some (.sh (if HT.lexLt ms ns then .tup y else .tup x))
  | ds => fMin ds
def fMaxT : List D → Option C
  | [.tup x, .tup y] => (intsOf x).bind fun ns => (intsOf y).bind fun ms => some (.sh (if HT.lexLt ns ms then .tup y else .tup x))
  | ds => fMax ds
theorem s_minT : OpS K (rMinT K) fMinT := fun G H vs ds c Q s rv e k => by
  unfold fMinT at e
  split at e
  · rename_i x y
    cases q1 : intsOf x with
    | none => simp [q1] at e
    | some ns =>
      cases q2 : intsOf y with
      | none => simp [q1, q2] at e
      | some ms =>
        simp [q1, q2] at e
        subst e
        cases rv with
        | cons r1 rv =>
          cases rv with
          | cons r2 rv =>
            cases rv
            obtain ⟨a, xs, rfl, h1, p1⟩ := r1.tup
            obtain ⟨b, ys, rfl, h2, p2⟩ := r2.tup
            have e1 := intsOf_inv q1
            have e2 := intsOf_inv q2
            subst e1
            subst e2
            have r1' : Rep K G (.ref a) (.tup (ns.map D.int)) := .tup h1 p1
            have r2' : Rep K G (.ref b) (.tup (ms.map D.int)) := .tup h2 p2
            rw [p1.ints_inv] at h1
            rw [p2.ints_inv] at h2
            refine .inr ⟨a, b, ns, ms, rfl, SqT.of (s _ _ h1), SqT.of (s _ _ h2), ?_⟩
            by_cases q : HT.lexLt ms ns = true
            · rw [if_pos q]; rw [if_pos q] at k; exact k.sh s r2'
            · rw [if_neg q]; rw [if_neg q] at k; exact k.sh s r1'
  · exact .inl (s_min G H vs _ c Q s rv e k)
theorem s_maxT : OpS K (rMaxT K) fMaxT := fun G H vs ds c Q s rv e k => by
  unfold fMaxT at e
  split at e
  · rename_i x y
    cases q1 : intsOf x with
    | none => simp [q1] at e
    | some ns =>
      cases q2 : intsOf y with
      | none => simp [q1, q2] at e
      | some ms =>
        simp [q1, q2] at e
        subst e
        cases rv with
        | cons r1 rv =>
          cases rv with
          | cons r2 rv =>
            cases rv
            obtain ⟨a, xs, rfl, h1, p1⟩ := r1.tup
            obtain ⟨b, ys, rfl, h2, p2⟩ := r2.tup
            have e1 := intsOf_inv q1
            have e2 := intsOf_inv q2
            subst e1
            subst e2
            have r1' : Rep K G (.ref a) (.tup (ns.map D.int)) := .tup h1 p1
            have r2' : Rep K G (.ref b) (.tup (ms.map D.int)) := .tup h2 p2
            rw [p1.ints_inv] at h1
            rw [p2.ints_inv] at h2
            refine .inr ⟨a, b, ns, ms, rfl, SqT.of (s _ _ h1), SqT.of (s _ _ h2), ?_⟩
            by_cases q : HT.lexLt ns ms = true
            · rw [if_pos q]; rw [if_pos q] at k; exact k.sh s r2'
            · rw [if_neg q]; rw [if_neg q] at k; exact k.sh s r1'
  · exact .inl (s_max G H vs _ c Q s rv e k)
end
@[simp] theorem fMinT_t {ns ms : List Int} : fMinT [.tup (ns.map D.int), .tup (ms.map D.int)] = some (.sh (if HT.lexLt ms ns then .tup (ms.map D.int) else .tup (ns.map D.int))) := by simp [fMinT]
@[simp] theorem fMaxT_t {ns ms : List Int} : fMaxT [.tup (ns.map D.int), .tup (ms.map D.int)] = some (.sh (if HT.lexLt ns ms then .tup (ms.map D.int) else .tup (ns.map D.int))) := by simp [fMaxT]
@[simp] theorem fMinT_i {i j : Int} : fMinT [.int i, .int j] = some (.sh (.int (mn2 i j))) := rfl
@[simp] theorem fMaxT_i {i j : Int} : fMaxT [.int i, .int j] = some (.sh (.int (mx2 i j))) := rfl
end
end Fx
set_option Elab.async false
set_option linter.all false
set_option maxRecDepth 100000
set_option maxHeartbeats 4000000
noncomputable section
namespace Fx.L
open PySem L2 Fx

noncomputable def b_u_law_bag : SM :=
  (sRet (eLst [.one (eC (.int 0)), .one (eC (.int 1234567891)), .one (eC (.int 0)), .one (eComp [1] (.one 1) (iV (eSl (.slot 0) .no (.at_ (.val (eC (.int 63)))))) kYes (eO fAbs [(.slot 1)]))]))
noncomputable def F_u_law_bag : List D → Option C := fnP 1 2 b_u_law_bag
noncomputable def b_u_law_take : SM :=
  (sSeq (sIf (kVal (eO fEq [(.val (eO fIx [(.slot 0), (.val (eC (.int 0)))])), (.val (eC (.int 0)))])) (sSeq (sSet 2 (eO fIx [(.val (eO fAdd [(.val (eSl (.val (eO fIx [(.slot 0), (.val (eC (.int 3)))])) (.at_ (.val (eO fIx [(.slot 0), (.val (eC (.int 2)))]))) .no)), (.val (eLst [.one (eC (.int 0))]))])), (.val (eC (.int 0)))]))
    (sSeq (sAugIx 0 (.val (eC (.int 2))) (fun i j => i + j) (eC (.int 1)))
    (sSeq (sIf (kVal (eO (fII gGe) [(.slot 2), (.val (eO (fII gPow) [(.val (eC (.int 10))), (.val (eC (.int 18)))]))])) (sPut (.sb 0 (.val (eC (.int 0)))) (eSlot 2)) sNx)
    (sSeq (sSet 3 (eO fAdd [(.val (eO fAdd [(.val (eO fMul [(.val (eO fIx [(.slot 0), (.val (eC (.int 1)))])), (.val (eC (.int 48271)))])), (.val (eO (fII gMod) [(.val (eO fInt [(.slot 2)])), (.val (eC (.int 2147483647)))]))])), (.val (eO fMul [(.val (eC (.int 7919))), (.val (eO fIx [(.slot 0), (.val (eC (.int 2)))]))]))]))
    (sPut (.sb 0 (.val (eC (.int 1)))) (eO (fII gMod) [(.val (eO fInt [(.slot 3)])), (.val (eC (.int 2147483647)))])))))) sNx)
    (sSeq (sIf (kVal (eO (fII gGt) [(.val (eO fIx [(.slot 0), (.val (eC (.int 0)))])), (.val (eC (.int 0)))])) (sSeq (sSet 4 (eO (fII gMod) [(.val (eO fInt [(.val (eO fIx [(.slot 0), (.val (eC (.int 0)))]))])), (.slot 1)]))
    (sSeq (sPut (.sb 0 (.val (eC (.int 0)))) (eO (fII gDiv) [(.val (eO fInt [(.val (eO fIx [(.slot 0), (.val (eC (.int 0)))]))])), (.slot 1)]))
    (sRet (eMove 4)))) sNx)
    (sSeq (sSet 5 (eO (fII gMod) [(.val (eO fInt [(.val (eO fMul [(.val (eO fAdd [(.val (eO fIx [(.slot 0), (.val (eC (.int 1)))])), (.val (eC (.int 1)))])), (.val (eC (.int 39373)))]))])), (.val (eC (.int 1000000007)))]))
    (sSeq (sSet 6 (eO (fII gMod) [(.val (eO fInt [(.val (eO fMul [(.val (eO (fII gMod) [(.val (eO fInt [(.val (eO fMul [(.slot 5), (.slot 5)]))])), (.val (eC (.int 998244353)))])), (.val (eC (.int 30011)))]))])), (.val (eC (.int 998244353)))]))
    (sRet (eO (fII gMod) [(.val (eO fInt [(.val (eO (fII gDiv) [(.slot 6), (.val (eC (.int 7)))]))])), (.slot 1)]))))))
noncomputable def F_u_law_take : C → List D → Option (C × C) := fnB 2 7 b_u_law_take
noncomputable def b_u_law_some : SM :=
  (sRet (eO fIx [(.slot 1), (.val (eCallB F_u_law_take 0 [.one (eO fLen [(.slot 1)])]))]))
noncomputable def F_u_law_some : C → List D → Option (C × C) := fnB 2 2 b_u_law_some
noncomputable def b_u_law_alike : SM :=
  (sSeq (sPar2c 2 3 (eLst [.one (eTup [.one (eSlot 0), .one (eSlot 1)])]) (eC (.int 0)))
    (sSeq (sWhile (kVal (eO (fII gLt) [(.slot 3), (.val (eO fLen [(.slot 2)]))])) (sSeq (sUnp [(.nm 4), (.nm 5)] (eO fIx [(.slot 2), (.slot 3)]))
    (sSeq (sAug 3 (fun i j => i + j) (eC (.int 1)))
    (sSeq (sIf (kOr (kVal (eO fNe [(.val (eIsi ["bool"] (.slot 4))), (.val (eIsi ["bool"] (.slot 5)))])) (kVal (eO fNe [(.val (eIsi ["str"] (.slot 4))), (.val (eIsi ["str"] (.slot 5)))]))) (sRet (eC (.bl false))) sNx)
    (sSeq (sIf (kVal (eO fNe [(.val (eIsi ["tuple", "list"] (.slot 4))), (.val (eIsi ["tuple", "list"] (.slot 5)))])) (sRet (eC (.bl false))) sNx)
    (sIf (kVal (eIsi ["tuple", "list"] (.slot 4))) (sSeq (sIf (kOr (kVal (eO fNe [(.val (eIsi ["tuple"] (.slot 4))), (.val (eIsi ["tuple"] (.slot 5)))])) (kVal (eO fNe [(.val (eO fLen [(.slot 4)])), (.val (eO fLen [(.slot 5)]))]))) (sRet (eC (.bl false))) sNx)
    (sDrop (eMethL fExtend 2 [.one (eLZip [.one (eSlot 4), .one (eSlot 5)])]))) (sIf (kVal (eO fNe [(.slot 4), (.slot 5)])) (sRet (eC (.bl false))) sNx)))))))
    (sRet (eC (.bl true)))))
noncomputable def F_u_law_alike : List D → Option C := fnP 2 6 b_u_law_alike

/-- a bag as it stands -/
structure BagOk (c : C) : Prop where
  ex : ∃ (a b n : Int) (cells : List Int), c = .ol [.int a, .int b, .int n, .lst (cells.map D.int)] ∧ 0 ≤ a ∧ 0 ≤ b ∧ cells.length ≤ 63 ∧ ∀ x ∈ cells, 0 ≤ x
theorem cut_head {cells : List Int} {n : Int} (hc : ∀ x ∈ cells, 0 ≤ x) : ∃ cell rest, cutD (cells.map D.int) (some n) none ++ [.int 0] = .int cell :: rest ∧ 0 ≤ cell ∧ (cutD (cells.map D.int) (some n) none).length ≤ cells.length := by
  have hl : (cutD (cells.map D.int) (some n) none).length ≤ cells.length := by unfold cutD; simp only [List.length_take, List.length_drop, List.length_map]; omega
  cases q : cutD (cells.map D.int) (some n) none with
  | nil => exact ⟨0, [], rfl, Int.le_refl _, by simp⟩
  | cons x r =>
    have hx : x ∈ cells.map D.int := by
      have : x ∈ cutD (cells.map D.int) (some n) none := by rw [q]; simp
      unfold cutD at this
      exact List.mem_of_mem_drop (List.mem_of_mem_take this)
    obtain ⟨y, hy, rfl⟩ := List.mem_map.mp hx
    exact ⟨y, r ++ [.int 0], rfl, hc y hy, by rw [← q]; exact hl⟩
theorem take_ok {c : C} (h : BagOk c) {m : Int} (h1 : 1 ≤ m) (h2 : m < 1073741824) : ∃ v c', F_u_law_take c [.int m] = some (.sh (.int v), c') ∧ 0 ≤ v ∧ v < m ∧ BagOk c' := by
  obtain ⟨a, b, n, cells, rfl, ha, hb, hl, hc⟩ := h.ex
  obtain ⟨cell, rest, e1, e2, e3⟩ := cut_head (n := n) hc
  have hlen : (cutD (cells.map D.int) (some n) none).length + 1 ≤ 16777216 := by omega
  have m0 : 0 < m := by omega
  have hbag : ∀ a b n : Int, 0 ≤ a → 0 ≤ b → BagOk (.ol [.int a, .int b, .int n, .lst (cells.map D.int)]) := fun a b n ha hb => ⟨⟨a, b, n, cells, rfl, ha, hb, hl, hc⟩⟩
  have s1 : sm 48271 = true := sm_of (by decide) (by decide)
  have s2 : sm 7919 = true := sm_of (by decide) (by decide)
  have s3 : sm 39373 = true := sm_of (by decide) (by decide)
  have s4 : sm 30011 = true := sm_of (by decide) (by decide)
  have s5 : sm 10 = true := sm_of (by decide) (by decide)
  unfold F_u_law_take fnB b_u_law_take
  simp [startE, atI, ixN, lim_val, hlen, e1, s1, s2, s3, s4, s5]
  by_cases h0 : a = 0
  · subst h0
    by_cases h10 : 1000000000000000000 ≤ cell
    · simp [h10, m0, h2, get0, atI, ixN, s1, s2, s3, s4, s5]
      have hp : 0 < cell := by omega
      simp [hp, m0, h2, get0, atI, ixN, s1, s2, s3, s4, s5]
      refine ⟨_, _, ⟨rfl, rfl⟩, Int.emod_nonneg _ (by omega), Int.emod_lt_of_pos _ m0, hbag _ _ _ (Int.ediv_nonneg e2 (by omega)) (Int.emod_nonneg _ (by omega))⟩
    · simp [h10, m0, h2, get0, atI, ixN, s1, s2, s3, s4, s5]
      refine ⟨_, _, ⟨rfl, rfl⟩, Int.emod_nonneg _ (by omega), Int.emod_lt_of_pos _ m0, hbag _ _ _ (Int.le_refl _) (Int.emod_nonneg _ (by omega))⟩
  · have hp : 0 < a := by omega
    simp [h0, hp, m0, h2, get0, atI, ixN, s1, s2, s3, s4, s5]
    refine ⟨_, _, ⟨rfl, rfl⟩, Int.emod_nonneg _ (by omega), Int.emod_lt_of_pos _ m0, hbag _ _ _ (Int.ediv_nonneg ha (by omega)) hb⟩
theorem some_l {c : C} (h : BagOk c) {ds : List D} (hne : ds ≠ []) (hl : ds.length < 1073741824) : ∃ d ∈ ds, ∃ c', F_u_law_some c [.lst ds] = some (.sh d, c') ∧ BagOk c' := by
  have hp : 0 < ds.length := List.length_pos_iff.mpr hne
  obtain ⟨v, c', e, h1, h2, h3⟩ := take_ok h (m := ds.length) (by omega) (by omega)
  obtain ⟨n, rfl⟩ : ∃ n : Nat, v = n := ⟨v.toNat, by omega⟩
  have hn : n < ds.length := by omega
  refine ⟨ds[n], by simp, c', ?_, h3⟩
  unfold F_u_law_some fnB b_u_law_some
  simp [startE, e, atI_nat, hn, get0]
theorem some_t {c : C} (h : BagOk c) {ds : List D} (hne : ds ≠ []) (hl : ds.length < 1073741824) : ∃ d ∈ ds, ∃ c', F_u_law_some c [.tup ds] = some (.sh d, c') ∧ BagOk c' := by
  have hp : 0 < ds.length := List.length_pos_iff.mpr hne
  obtain ⟨v, c', e, h1, h2, h3⟩ := take_ok h (m := ds.length) (by omega) (by omega)
  obtain ⟨n, rfl⟩ : ∃ n : Nat, v = n := ⟨v.toNat, by omega⟩
  have hn : n < ds.length := by omega
  refine ⟨ds[n], by simp, c', ?_, h3⟩
  unfold F_u_law_some fnB b_u_law_some
  simp [startE, e, atI_nat, hn, get0]
theorem bag_ok (ns : List Int) : ∃ c, F_u_law_bag [.scr ns] = some c ∧ BagOk c := by
  let g : D → Option D := fun d => match d with | .int i => some (.int (if i < 0 then -i else i)) | _ => none
  have hc : ∀ e : Env, ∀ d ∈ cutD (ns.map D.int) none (some 63), cStep [1] (.one 1) kYes (eO fAbs [(.slot 1)]) d [some (.sh (.scr ns)), none] = some (g d, [some (.sh (.scr ns)), none]) := by
    intro _ d hd
    unfold cutD at hd
    obtain ⟨i, _, rfl⟩ := List.mem_map.mp (List.mem_of_mem_drop (List.mem_of_mem_take hd))
    simp [cStep, g]
  have hl : (cutD (ns.map D.int) none (some 63)).length ≤ 63 := by
    unfold cutD
    have : HT.sIx (ns.map D.int).length (ns.map D.int).length (some 63) ≤ 63 := by unfold HT.sIx; simp; omega
    simp only [List.length_take, List.length_drop]
    omega
  have hg : ∃ cells : List Int, (cutD (ns.map D.int) none (some 63)).filterMap g = cells.map D.int ∧ cells.length ≤ 63 ∧ ∀ x ∈ cells, 0 ≤ x := by
    have key : ∀ l : List Int, ∃ cells : List Int, (l.map D.int).filterMap g = cells.map D.int ∧ cells.length = l.length ∧ ∀ x ∈ cells, 0 ≤ x := by
      intro l
      induction l with
      | nil => exact ⟨[], rfl, rfl, fun x m => by cases m⟩
      | cons y r ih =>
        obtain ⟨cells, h1, h2, h3⟩ := ih
        refine ⟨(if y < 0 then -y else y) :: cells, ?_, by simp [h2], fun x m => ?_⟩
        · show D.int (if y < 0 then -y else y) :: (r.map D.int).filterMap g = _; rw [h1]; rfl
        · rcases List.mem_cons.mp m with e | m
          · subst e; split <;> omega
          · exact h3 x m
    have hm : cutD (ns.map D.int) none (some 63) = ((ns.drop (HT.sIx (ns.map D.int).length 0 none)).take (HT.sIx (ns.map D.int).length (ns.map D.int).length (some 63) - HT.sIx (ns.map D.int).length 0 none)).map D.int := by
      unfold cutD; rw [List.map_take, List.map_drop]
    obtain ⟨cells, h1, h2, h3⟩ := key ((ns.drop (HT.sIx (ns.map D.int).length 0 none)).take (HT.sIx (ns.map D.int).length (ns.map D.int).length (some 63) - HT.sIx (ns.map D.int).length 0 none))
    rw [← hm] at h1
    refine ⟨cells, h1, ?_, h3⟩
    rw [h2]
    have := congrArg List.length hm
    rw [List.length_map] at this
    omega
  obtain ⟨cells, h1, h2, h3⟩ := hg
  have hlc : cells.length ≤ 16777216 := by omega
  refine ⟨.ol [.int 0, .int 1234567891, .int 0, .lst (cells.map D.int)], ?_, ⟨⟨0, 1234567891, 0, cells, rfl, by decide, by decide, h2, h3⟩⟩⟩
  unfold F_u_law_bag fnP b_u_law_bag
  simp [startE, compN_pure (hc []), h1, hlc, lim_val]

/-! ## what is alike -/
mutual
def cnt : D → Nat
  | .tup ds => cnts ds + 1
  | .lst ds => cnts ds + 1
  | _ => 1
def cnts : List D → Nat
  | [] => 0
  | d :: ds => cnt d + cnts ds
end
mutual
def smp : D → Bool
  | .tup ds | .lst ds => smps ds
  | d => d.okq
def smps : List D → Bool
  | [] => true
  | d :: ds => smp d && smps ds
end
theorem cnt_pos (d : D) : 1 ≤ cnt d := by cases d <;> simp [cnt]
def dbl (d : D) : D := .tup [d, d]
theorem len_cnts : ∀ ds : List D, ds.length ≤ cnts ds
  | [] => Nat.le_refl _
  | d :: ds => by have := cnt_pos d; have := len_cnts ds; simp [cnts]; omega
theorem zip_self : ∀ ds : List D, zipD ds ds = ds.map dbl
  | [] => rfl
  | d :: ds => by have := zip_self ds; unfold zipD at *; simp [dbl] at *; exact this
def seqD : D → List D
  | .tup ds => ds | .lst ds => ds | _ => []
def wt (q : List D) : Nat := cnts q
theorem cnts_app : ∀ a b : List D, cnts (a ++ b) = cnts a + cnts b
  | [], b => by simp [cnts]
  | d :: a, b => by simp [cnts, cnts_app a b]; omega
theorem smps_app : ∀ a b : List D, smps (a ++ b) = (smps a && smps b)
  | [], b => by simp [smps]
  | d :: a, b => by simp [smps, smps_app a b, Bool.and_assoc]
theorem drop_cons {L : List D} {x : D} {r : List D} {n : Nat} (h : L.drop n = x :: r) : L[n]? = some x ∧ L.drop (n + 1) = r ∧ n < L.length := by
  have hn : n < L.length := by
    by_cases q : n < L.length
    · exact q
    · rw [List.drop_eq_nil_of_le (by omega)] at h; cases h
  rw [List.drop_eq_getElem_cons hn] at h
  obtain ⟨h1, h2⟩ := List.cons.inj h
  exact ⟨by rw [List.getElem?_eq_getElem hn, h1], h2, hn⟩
theorem eqv_self : ∀ d : D, d.okq = true → (∀ ds, d ≠ .tup ds ∧ d ≠ .lst ds) → D.eqv d d = true
  | .non, _, _ => rfl
  | .bl b, _, _ => by simp [D.eqv]
  | .int i, _, _ => by simp [D.eqv]
  | .str x, _, _ => by simp [D.eqv]
  | .tup ds, _, h => absurd rfl (h ds).1
  | .lst ds, _, h => absurd rfl (h ds).2
  | .dk _, h, _ => by cases h
  | .dt _, h, _ => by cases h
  | .scr _, h, _ => by cases h
abbrev tA : TM := kVal (eO (fII gLt) [(.slot 3), (.val (eO fLen [(.slot 2)]))])
theorem alike_ok {d : D} (hs : smp d = true) (hc : cnt d ≤ 1000000) : F_u_law_alike [d, d] = some (.sh (.bl true)) := by
  unfold F_u_law_alike fnP b_u_law_alike
  generalize hB : (sSeq (sUnp [(.nm 4), (.nm 5)] (eO fIx [(.slot 2), (.slot 3)])) _ : SM) = B
  have hl : (1 : Nat) ≤ lim := by rw [lim_val]; omega
  -- one turn
  have turn : ∀ (L : List D) (n : Nat) (x : D) (r : List D) (s4 s5 : Option C), L.drop n = (x :: r).map dbl → smp x = true → L.length + cnt x ≤ 2000000 →
      ∃ s4' s5', B [some (.sh d), some (.sh d), some (.ol L), some (.sh (.int (n : Int))), s4, s5] = some (.nx [some (.sh d), some (.sh d), some (.ol (L ++ (seqD x).map dbl)), some (.sh (.int ((n + 1 : Nat) : Int))), s4', s5']) := by
    intro L n x r s4 s5 hd hx hlen
    obtain ⟨g1, g2, g3⟩ := drop_cons hd
    have hix : atI L (n : Int) = some (dbl x) := by rw [atI_nat]; exact g1
    rw [← hB]
    have hn : x.noScr = true := by cases x <;> first | rfl | (simp [smp, D.okq] at hx)
    refine ⟨some (.sh x), some (.sh x), ?_⟩
    cases x with
    | tup ds =>
      have hl2 : ds.length ≤ lim := by have := len_cnts ds; simp [cnt] at hlen; rw [lim_val]; omega
      have hl3 : L.length + ds.length ≤ lim := by have := len_cnts ds; simp [cnt] at hlen; rw [lim_val]; omega
      simp [hix, dbl, D.noScr, D.isT, D.ty, subT, zip_self, seqD, hl2, hl3]
    | lst ds =>
      have hl2 : ds.length ≤ lim := by have := len_cnts ds; simp [cnt] at hlen; rw [lim_val]; omega
      have hl3 : L.length + ds.length ≤ lim := by have := len_cnts ds; simp [cnt] at hlen; rw [lim_val]; omega
      simp [hix, dbl, D.noScr, D.isT, D.ty, subT, zip_self, seqD, hl2, hl3]
    | non => simp [hix, dbl, D.noScr, D.isT, D.ty, subT, seqD, fNe, D.cmpable, D.okq, D.dep, D.eqv]
    | bl b => simp [hix, dbl, D.noScr, D.isT, D.ty, subT, seqD]
    | int i => simp [hix, dbl, D.noScr, D.isT, D.ty, subT, seqD]
    | str y =>
      have hy : (D.str y).okq = true := hx
      simp [hix, dbl, D.noScr, D.isT, D.ty, subT, seqD, hy]
    | _ => simp [smp, D.okq] at hx
  have wx : ∀ x : D, cnt x = cnts (seqD x) + 1 := fun x => by cases x <;> simp [cnt, cnts, seqD]
  have sx : ∀ x : D, smp x = true → smps (seqD x) = true := fun x h => by cases x <;> first | exact h | rfl
  have loop : ∀ (w : Nat) (L : List D) (n : Nat) (rest : List D) (s4 s5 : Option C), L.drop n = rest.map dbl → smps rest = true → cnts rest = w → L.length + w ≤ 1000000 + rest.length →
      ∃ e, whileN (w + 1) tA B [some (.sh d), some (.sh d), some (.ol L), some (.sh (.int (n : Int))), s4, s5] = some (.nx e) := by
    intro w
    induction w with
    | zero =>
      intro L n rest s4 s5 hd hs hw hb
      cases rest with
      | cons x r => have := cnt_pos x; simp [cnts] at hw; omega
      | nil =>
        have hn : ¬ n < L.length := fun q => by
          have := congrArg List.length hd
          simp at this; omega
        refine ⟨[some (.sh d), some (.sh d), some (.ol L), some (.sh (.int (n : Int))), s4, s5], ?_⟩
        unfold whileN
        simp [hn]
    | succ w ih =>
      intro L n rest s4 s5 hd hs hw hb
      cases rest with
      | nil => simp [cnts] at hw
      | cons x r =>
        simp only [smps, Bool.and_eq_true] at hs
        have hw2 : cnts (seqD x) + 1 + cnts r = w + 1 := by rw [← wx]; simpa [cnts] using hw
        have hr := len_cnts r
        obtain ⟨g1, g2, g3⟩ := drop_cons hd
        have hbx : L.length + cnt x ≤ 2000000 := by rw [wx]; simp at hb; omega
        obtain ⟨s4', s5', ht⟩ := turn L n x r s4 s5 hd hs.1 hbx
        obtain ⟨e, he⟩ := ih (L ++ (seqD x).map dbl) (n + 1) (r ++ seqD x) s4' s5' (by rw [List.drop_append_of_le_length (by omega), g2]; simp) (by rw [smps_app, hs.2, sx x hs.1]; rfl) (by rw [cnts_app]; omega) (by simp; simp at hb; omega)
        refine ⟨e, ?_⟩
        rw [whileN]
        have h1 : tA [some (.sh d), some (.sh d), some (.ol L), some (.sh (.int (n : Int))), s4, s5] = some (true, [some (.sh d), some (.sh d), some (.ol L), some (.sh (.int (n : Int))), s4, s5]) := by simp [g3]
        rw [h1]
        simp only [Option.bind_some, if_true, ht]
        exact he
  obtain ⟨e, he⟩ := loop (cnt d) [dbl d] 0 [d] none none (by simp) (by simp [smps, hs]) (by simp [cnts]) (by simp; omega)
  have he' := sWhile_of he
  have he2 : sWhile tA B [some (.sh d), some (.sh d), some (.ol [.tup [d, d]]), some (.sh (.int 0)), none, none] = some (.nx e) := he'
  have hl2 : (2 : Nat) ≤ lim := by rw [lim_val]; omega
  simp [startE, hl, hl2, he2]
end Fx.L
set_option Elab.async false
set_option linter.all false
set_option maxRecDepth 100000
set_option maxHeartbeats 4000000
namespace Fx.Nt
open PySem L2 Fx

/-! ## what is computed -/
noncomputable def l1_u_law_levelled : SM :=
  (sDrop (eApp2 1 (eLst [])))
noncomputable def l2_u_law_levelled : SM :=
  (sSeq (sSet 5 (eO fMax [(.val (eGet2 2 (eSlot 3) (eC (.int 0)))), (.val (eGet2 2 (eSlot 4) (eC (.int 0))))]))
    (sSeq (sWhile (kVal (eO (fII gLe) [(.val (eLen2 1)), (.slot 5)])) l1_u_law_levelled)
    (sSeq (sDrop (eApp3 1 (.slot 5) (eTup [.one (eSlot 3), .one (eSlot 4)])))
    (sSeq (sPut (.sb 2 (.slot 3)) (eO fAdd [(.slot 5), (.val (eC (.int 1)))]))
    (sPut (.sb 2 (.slot 4)) (eO fAdd [(.slot 5), (.val (eC (.int 1)))]))))))
noncomputable def c1_u_law_levelled : EM :=
  (eO fTuple [(.val (eO fSorted [(.slot 6)]))])
noncomputable def b_u_law_levelled : SM :=
  (sSeq (sPar2c 1 2 (eLst []) eDK)
    (sSeq (sFor (.tup [3, 4]) (iV (eSlot 0)) l2_u_law_levelled)
    (sRet (eO fTuple [(.val (eComp [6] (.one 6) (iV (eSlot 1)) kYes c1_u_law_levelled))]))))
noncomputable def F_u_law_levelled : List D → Option C := fnP 1 7 b_u_law_levelled
noncomputable def c1_u_law_merging (Fs : List D → Option C) : EM :=
  (eTup [.one (eO fIx [(.slot 2), (.slot 4)]), .one (eO fIx [(.slot 2), (.val (eO fAdd [(.slot 4), (.val (eC (.int 1)))]))])])
noncomputable def b_u_law_merging (Fs : List D → Option C) : SM :=
  (sSeq (sIf (kOr (kVal (eO fEq [(.slot 0), (.val (eLst []))])) (kVal (eO fEq [(.slot 1), (.val (eLst []))]))) (sRet (eLst [])) sNx)
    (sSeq (sIf (kAnd (kVal (eO fEq [(.val (eO fLen [(.slot 0)])), (.val (eC (.int 1)))])) (kVal (eO fEq [(.val (eO fLen [(.slot 1)])), (.val (eC (.int 1)))]))) (sRet (eLst [.one (eTup [.one (eO fIx [(.slot 0), (.val (eC (.int 0)))]), .one (eO fIx [(.slot 1), (.val (eC (.int 0)))])])])) sNx)
    (sSeq (sSet 2 (eO fAdd [(.slot 0), (.slot 1)]))
    (sSeq (sSet 3 (eComp [4] (.one 4) (iR3 (.val (eC (.int 1))) (.val (eO (fII gSub) [(.val (eO fLen [(.slot 2)])), (.val (eC (.int 1)))])) (.val (eC (.int 2)))) kYes (c1_u_law_merging Fs)))
    (sRet (eO fAdd [(.val (eO fAdd [(.val (eCall Fs [.one (eSl3 (.slot 0) (.at_ (.val (eC (.int 0)))) .no (.at_ (.val (eC (.int 2))))), .one (eSl3 (.slot 1) (.at_ (.val (eC (.int 0)))) .no (.at_ (.val (eC (.int 2)))))])), (.val (eCall Fs [.one (eSl3 (.slot 0) (.at_ (.val (eC (.int 1)))) .no (.at_ (.val (eC (.int 2))))), .one (eSl3 (.slot 1) (.at_ (.val (eC (.int 1)))) .no (.at_ (.val (eC (.int 2)))))]))])), (.slot 3)]))))))
noncomputable def F_u_law_merging : Nat → List D → Option C
  | 0 => fun _ => none
  | j + 1 => fnP 2 5 (b_u_law_merging (F_u_law_merging j))
noncomputable def l1_u_law_halves (Fs : List D → Option C) : SM :=
  (sSeq (sPar [6, 7] [.one (eIf (kVal (eO (fII gLt) [(.slot 5), (.val (eO fLen [(.slot 2)]))])) (eO fIx [(.slot 2), (.slot 5)]) (eTup [])), .one (eIf (kVal (eO (fII gLt) [(.slot 5), (.val (eO fLen [(.slot 3)]))])) (eO fIx [(.slot 3), (.slot 5)]) (eTup []))])
    (sDrop (eMethL fAppend 4 [.one (eO fTuple [(.val (eO fSorted [(.val (eO fAdd [(.slot 6), (.slot 7)]))]))])])))
noncomputable def b_u_law_halves (Fs : List D → Option C) : SM :=
  (sSeq (sIf (kVal (eO (fII gLt) [(.val (eO fLen [(.slot 0)])), (.val (eC (.int 2)))])) (sRet (eLst [])) sNx)
    (sSeq (sSet 1 (eO (fII gDiv) [(.val (eO fLen [(.slot 0)])), (.val (eC (.int 2)))]))
    (sSeq (sPar [2, 3] [.one (eCall Fs [.one (eSl (.slot 0) .no (.at_ (.slot 1)))]), .one (eCall Fs [.one (eSl (.slot 0) (.at_ (.slot 1)) .no)])])
    (sSeq (sSet 4 (eLst []))
    (sSeq (sFor (.one 5) (iR1 (.val (eO fMax [(.val (eO fLen [(.slot 2)])), (.val (eO fLen [(.slot 3)]))]))) (l1_u_law_halves Fs))
    (sRet (eO fAdd [(.slot 4), (.val (eO fList [(.val (eCall F_u_law_levelled [.one (eCall (F_u_law_merging 8) [.one (eSl (.slot 0) .no (.at_ (.slot 1))), .one (eSl (.slot 0) (.at_ (.slot 1)) .no)])]))]))])))))))
noncomputable def F_u_law_halves : Nat → List D → Option C
  | 0 => fun _ => none
  | j + 1 => fnP 1 8 (b_u_law_halves (F_u_law_halves j))
noncomputable def l1_side_by_side : SM :=
  (sSeq (sSet 4 (eLst [.star (eIf (kVal (eO (fII gLt) [(.slot 3), (.val (eO fLen [(.slot 0)]))])) (eO fIx [(.slot 0), (.slot 3)]) (eTup [])), .star (eIf (kVal (eO (fII gLt) [(.slot 3), (.val (eO fLen [(.slot 1)]))])) (eO fIx [(.slot 1), (.slot 3)]) (eTup []))]))
    (sDrop (eMethL fAppend 2 [.one (eO fTuple [(.val (eO fSorted [(.slot 4)]))])])))
noncomputable def b_side_by_side : SM :=
  (sSeq (sSet 2 (eLst []))
    (sSeq (sFor (.one 3) (iR1 (.val (eO fMax [(.val (eO fLen [(.slot 0)])), (.val (eO fLen [(.slot 1)]))]))) l1_side_by_side)
    (sRet (eMove 2))))
noncomputable def F_side_by_side : List D → Option C := fnP 2 5 b_side_by_side
noncomputable def l1_levelled : SM :=
  (sSeq (sSet 5 (eO fMax [(.val (eGet2 1 (eSlot 3) (eC (.int 0)))), (.val (eGet2 1 (eSlot 4) (eC (.int 0))))]))
    (sSeq (sIf (kVal (eO fEq [(.slot 5), (.val (eLen2 2))])) (sDrop (eApp2 2 (eLst []))) sNx)
    (sSeq (sDrop (eApp3 2 (.slot 5) (eTup [.one (eSlot 3), .one (eSlot 4)])))
    (sUnp [(.sb 1 (.slot 3)), (.sb 1 (.slot 4))] (eTup [.one (eO fAdd [(.slot 5), (.val (eC (.int 1)))]), .one (eO fAdd [(.slot 5), (.val (eC (.int 1)))])])))))
noncomputable def c1_levelled : EM :=
  (eO fTuple [(.val (eO fSorted [(.slot 6)]))])
noncomputable def b_levelled : SM :=
  (sSeq (sPar2c 1 2 eDK (eLst []))
    (sSeq (sFor (.tup [3, 4]) (iV (eSlot 0)) l1_levelled)
    (sRet (eO fTuple [(.val (eComp [6] (.one 6) (iV (eSlot 2)) kYes c1_levelled))]))))
noncomputable def F_levelled : List D → Option C := fnP 1 7 b_levelled
noncomputable def b_merging (Fs : List D → Option C) : SM :=
  (sSeq (sIf (kOr (kVal (eO fEq [(.slot 0), (.val (eLst []))])) (kVal (eO fEq [(.slot 1), (.val (eLst []))]))) (sRet (eLst [])) sNx)
    (sSeq (sIf (kAnd (kVal (eO fEq [(.val (eO fLen [(.slot 0)])), (.val (eC (.int 1)))])) (kVal (eO fEq [(.val (eO fLen [(.slot 1)])), (.val (eC (.int 1)))]))) (sRet (eLst [.one (eTup [.one (eO fIx [(.slot 0), (.val (eC (.int 0)))]), .one (eO fIx [(.slot 1), (.val (eC (.int 0)))])])])) sNx)
    (sSeq (sSet 2 (eO fAdd [(.val (eCall Fs [.one (eSl3 (.slot 0) .no .no (.at_ (.val (eC (.int 2))))), .one (eSl3 (.slot 1) .no .no (.at_ (.val (eC (.int 2)))))])), (.val (eCall Fs [.one (eSl3 (.slot 0) (.at_ (.val (eC (.int 1)))) .no (.at_ (.val (eC (.int 2))))), .one (eSl3 (.slot 1) (.at_ (.val (eC (.int 1)))) .no (.at_ (.val (eC (.int 2)))))]))]))
    (sSeq (sSet 3 (eO fAdd [(.slot 0), (.slot 1)]))
    (sRet (eO fAdd [(.slot 2), (.val (eLZip [.one (eSl3 (.slot 3) (.at_ (.val (eC (.int 1)))) .no (.at_ (.val (eC (.int 2))))), .one (eSl3 (.slot 3) (.at_ (.val (eC (.int 2)))) .no (.at_ (.val (eC (.int 2)))))]))]))))))
noncomputable def F_merging : Nat → List D → Option C
  | 0 => fun _ => none
  | j + 1 => fnP 2 4 (b_merging (F_merging j))
noncomputable def b_ordering (Fs : List D → Option C) : SM :=
  (sSeq (sIf (kVal (eO (fII gLt) [(.val (eO fLen [(.slot 0)])), (.val (eC (.int 2)))])) (sRet (eLst [])) sNx)
    (sSeq (sSet 1 (eO (fII gDiv) [(.val (eO fLen [(.slot 0)])), (.val (eC (.int 2)))]))
    (sSeq (sPar [2, 3] [.one (eSl (.slot 0) .no (.at_ (.slot 1))), .one (eSl (.slot 0) (.at_ (.slot 1)) .no)])
    (sRet (eO fAdd [(.val (eCall F_side_by_side [.one (eCall Fs [.one (eSlot 2)]), .one (eCall Fs [.one (eSlot 3)])])), (.val (eO fList [(.val (eCall F_levelled [.one (eCall (F_merging 8) [.one (eSlot 2), .one (eSlot 3)])]))]))])))))
noncomputable def F_ordering : Nat → List D → Option C
  | 0 => fun _ => none
  | j + 1 => fnP 1 4 (b_ordering (F_ordering j))
noncomputable def b_odd_even : SM :=
  (sRet (eO fTuple [(.val (eCall (F_ordering 8) [.one (eLR1 (.slot 0))]))]))
noncomputable def F_odd_even : List D → Option C := fnP 1 1 b_odd_even
noncomputable def c2_neighbours : EM :=
  (eTup [.one (eSlot 1), .one (eO fAdd [(.slot 1), (.val (eC (.int 1)))])])
noncomputable def c1_neighbours : EM :=
  (eO fTuple [(.val (eComp [1] (.one 1) (iR3 (.val (eO (fII gMod) [(.slot 2), (.val (eC (.int 2)))])) (.val (eO (fII gSub) [(.slot 0), (.val (eC (.int 1)))])) (.val (eC (.int 2)))) kYes c2_neighbours))])
noncomputable def b_neighbours : SM :=
  (sRet (eO fTuple [(.val (eComp [2] (.one 2) (iR1 (.slot 0)) kYes c1_neighbours))]))
noncomputable def F_neighbours : List D → Option C := fnP 1 3 b_neighbours
noncomputable def l1_u_law_bits : SM :=
  (sDrop (eMethL fExtend 3 [.one (eLst [.one (eO fAdd [(.slot 4), (.val (eTup [.one (eC (.int 0))]))]), .one (eO fAdd [(.slot 4), (.val (eTup [.one (eC (.int 1))]))])])]))
noncomputable def l2_u_law_bits : SM :=
  (sSeq (sSet 3 (eLst []))
    (sSeq (sFor (.one 4) (iV (eSlot 1)) l1_u_law_bits)
    (sSet 1 (eSlot 3))))
noncomputable def b_u_law_bits : SM :=
  (sSeq (sSet 1 (eLst [.one (eTup [])]))
    (sSeq (sFor (.one 2) (iR1 (.slot 0)) l2_u_law_bits)
    (sRet (eMove 1))))
noncomputable def F_u_law_bits : List D → Option C := fnP 1 5 b_u_law_bits
noncomputable def l1_u_law_through : SM :=
  (sSeq (sPar [6, 7] [.one (eO fMin [(.val (eO fIx [(.slot 2), (.slot 4)])), (.val (eO fIx [(.slot 2), (.slot 5)]))]), .one (eO fMax [(.val (eO fIx [(.slot 2), (.slot 4)])), (.val (eO fIx [(.slot 2), (.slot 5)]))])])
    (sSeq (sPut (.sb 2 (.slot 4)) (eSlot 6))
    (sPut (.sb 2 (.slot 5)) (eSlot 7))))
noncomputable def l2_u_law_through : SM :=
  (sFor (.tup [4, 5]) (iV (eSlot 3)) l1_u_law_through)
noncomputable def b_u_law_through : SM :=
  (sSeq (sSet 2 (eO fList [(.slot 1)]))
    (sSeq (sFor (.one 3) (iV (eSlot 0)) l2_u_law_through)
    (sRet (eMove 2))))
noncomputable def F_u_law_through : List D → Option C := fnP 2 8 b_u_law_through
noncomputable def b_pairs_of : SM :=
  (sRet (eO fTuple [(.val (eComp2 [1, 2] (.one 1) (iV (eSlot 0)) kYes (iV (eSlot 1)) [2] (.one 2) kYes (eSlot 2)))]))
noncomputable def F_pairs_of : List D → Option C := fnP 1 3 b_pairs_of
/-! ## states by names -/
structure S_u_law_levelled where
  v_pairs : Option C := none
  v_levels : Option C := none
  v_last : Option C := none
  v_i : Option C := none
  v_j : Option C := none
  v_at : Option C := none
  v_level : Option C := none
namespace S_u_law_levelled
def e (s : S_u_law_levelled) : Fx.Env := [s.v_pairs, s.v_levels, s.v_last, s.v_i, s.v_j, s.v_at, s.v_level]
variable (s : S_u_law_levelled) (c : Option C)
@[simp] theorem g0 : getC s.e 0 = s.v_pairs := by unfold e; simp only [getC_s, getC_h]
@[simp] theorem p0 : s.e.set 0 c = ({ s with v_pairs := c } : S_u_law_levelled).e := rfl
@[simp] theorem i0 : s.e[0]? = some s.v_pairs := rfl
@[simp] theorem g1 : getC s.e 1 = s.v_levels := by unfold e; simp only [getC_s, getC_h]
@[simp] theorem p1 : s.e.set 1 c = ({ s with v_levels := c } : S_u_law_levelled).e := rfl
@[simp] theorem i1 : s.e[1]? = some s.v_levels := rfl
@[simp] theorem g2 : getC s.e 2 = s.v_last := by unfold e; simp only [getC_s, getC_h]
@[simp] theorem p2 : s.e.set 2 c = ({ s with v_last := c } : S_u_law_levelled).e := rfl
@[simp] theorem i2 : s.e[2]? = some s.v_last := rfl
@[simp] theorem g3 : getC s.e 3 = s.v_i := by unfold e; simp only [getC_s, getC_h]
@[simp] theorem p3 : s.e.set 3 c = ({ s with v_i := c } : S_u_law_levelled).e := rfl
@[simp] theorem i3 : s.e[3]? = some s.v_i := rfl
@[simp] theorem g4 : getC s.e 4 = s.v_j := by unfold e; simp only [getC_s, getC_h]
@[simp] theorem p4 : s.e.set 4 c = ({ s with v_j := c } : S_u_law_levelled).e := rfl
@[simp] theorem i4 : s.e[4]? = some s.v_j := rfl
@[simp] theorem g5 : getC s.e 5 = s.v_at := by unfold e; simp only [getC_s, getC_h]
@[simp] theorem p5 : s.e.set 5 c = ({ s with v_at := c } : S_u_law_levelled).e := rfl
@[simp] theorem i5 : s.e[5]? = some s.v_at := rfl
@[simp] theorem g6 : getC s.e 6 = s.v_level := by unfold e; simp only [getC_s, getC_h]
@[simp] theorem p6 : s.e.set 6 c = ({ s with v_level := c } : S_u_law_levelled).e := rfl
@[simp] theorem i6 : s.e[6]? = some s.v_level := rfl
@[simp] theorem len_ : s.e.length = 7 := rfl
@[simp] theorem eta_ : (S_u_law_levelled.mk s.v_pairs s.v_levels s.v_last s.v_i s.v_j s.v_at s.v_level) = s := rfl
end S_u_law_levelled
theorem F_u_law_levelled_eq (d0 : D) : F_u_law_levelled [d0] = outP (b_u_law_levelled ({ v_pairs := some (.sh d0) } : S_u_law_levelled).e) := fnP_eq (m := b_u_law_levelled) rfl
structure S_u_law_merging where
  v_one : Option C := none
  v_other : Option C := none
  v_every : Option C := none
  v_behind : Option C := none
  v_at : Option C := none
namespace S_u_law_merging
def e (s : S_u_law_merging) : Fx.Env := [s.v_one, s.v_other, s.v_every, s.v_behind, s.v_at]
variable (s : S_u_law_merging) (c : Option C)
@[simp] theorem g0 : getC s.e 0 = s.v_one := by unfold e; simp only [getC_s, getC_h]
@[simp] theorem p0 : s.e.set 0 c = ({ s with v_one := c } : S_u_law_merging).e := rfl
@[simp] theorem i0 : s.e[0]? = some s.v_one := rfl
@[simp] theorem g1 : getC s.e 1 = s.v_other := by unfold e; simp only [getC_s, getC_h]
@[simp] theorem p1 : s.e.set 1 c = ({ s with v_other := c } : S_u_law_merging).e := rfl
@[simp] theorem i1 : s.e[1]? = some s.v_other := rfl
@[simp] theorem g2 : getC s.e 2 = s.v_every := by unfold e; simp only [getC_s, getC_h]
@[simp] theorem p2 : s.e.set 2 c = ({ s with v_every := c } : S_u_law_merging).e := rfl
@[simp] theorem i2 : s.e[2]? = some s.v_every := rfl
@[simp] theorem g3 : getC s.e 3 = s.v_behind := by unfold e; simp only [getC_s, getC_h]
@[simp] theorem p3 : s.e.set 3 c = ({ s with v_behind := c } : S_u_law_merging).e := rfl
@[simp] theorem i3 : s.e[3]? = some s.v_behind := rfl
@[simp] theorem g4 : getC s.e 4 = s.v_at := by unfold e; simp only [getC_s, getC_h]
@[simp] theorem p4 : s.e.set 4 c = ({ s with v_at := c } : S_u_law_merging).e := rfl
@[simp] theorem i4 : s.e[4]? = some s.v_at := rfl
@[simp] theorem len_ : s.e.length = 5 := rfl
@[simp] theorem eta_ : (S_u_law_merging.mk s.v_one s.v_other s.v_every s.v_behind s.v_at) = s := rfl
end S_u_law_merging
theorem F_u_law_merging_eq (j : Nat) (d0 d1 : D) : F_u_law_merging (j + 1) [d0, d1] = outP (b_u_law_merging (F_u_law_merging j) ({ v_one := some (.sh d0), v_other := some (.sh d1) } : S_u_law_merging).e) := fnP_eq (m := b_u_law_merging (F_u_law_merging j)) rfl
structure S_u_law_halves where
  v_places : Option C := none
  v_half : Option C := none
  v_one : Option C := none
  v_other : Option C := none
  v_found : Option C := none
  v_at : Option C := none
  v_mine : Option C := none
  v_its : Option C := none
namespace S_u_law_halves
def e (s : S_u_law_halves) : Fx.Env := [s.v_places, s.v_half, s.v_one, s.v_other, s.v_found, s.v_at, s.v_mine, s.v_its]
variable (s : S_u_law_halves) (c : Option C)
@[simp] theorem g0 : getC s.e 0 = s.v_places := by unfold e; simp only [getC_s, getC_h]
@[simp] theorem p0 : s.e.set 0 c = ({ s with v_places := c } : S_u_law_halves).e := rfl
@[simp] theorem i0 : s.e[0]? = some s.v_places := rfl
@[simp] theorem g1 : getC s.e 1 = s.v_half := by unfold e; simp only [getC_s, getC_h]
@[simp] theorem p1 : s.e.set 1 c = ({ s with v_half := c } : S_u_law_halves).e := rfl
@[simp] theorem i1 : s.e[1]? = some s.v_half := rfl
@[simp] theorem g2 : getC s.e 2 = s.v_one := by unfold e; simp only [getC_s, getC_h]
@[simp] theorem p2 : s.e.set 2 c = ({ s with v_one := c } : S_u_law_halves).e := rfl
@[simp] theorem i2 : s.e[2]? = some s.v_one := rfl
@[simp] theorem g3 : getC s.e 3 = s.v_other := by unfold e; simp only [getC_s, getC_h]
@[simp] theorem p3 : s.e.set 3 c = ({ s with v_other := c } : S_u_law_halves).e := rfl
@[simp] theorem i3 : s.e[3]? = some s.v_other := rfl
@[simp] theorem g4 : getC s.e 4 = s.v_found := by unfold e; simp only [getC_s, getC_h]
@[simp] theorem p4 : s.e.set 4 c = ({ s with v_found := c } : S_u_law_halves).e := rfl
@[simp] theorem i4 : s.e[4]? = some s.v_found := rfl
@[simp] theorem g5 : getC s.e 5 = s.v_at := by unfold e; simp only [getC_s, getC_h]
@[simp] theorem p5 : s.e.set 5 c = ({ s with v_at := c } : S_u_law_halves).e := rfl
@[simp] theorem i5 : s.e[5]? = some s.v_at := rfl
@[simp] theorem g6 : getC s.e 6 = s.v_mine := by unfold e; simp only [getC_s, getC_h]
@[simp] theorem p6 : s.e.set 6 c = ({ s with v_mine := c } : S_u_law_halves).e := rfl
@[simp] theorem i6 : s.e[6]? = some s.v_mine := rfl
@[simp] theorem g7 : getC s.e 7 = s.v_its := by unfold e; simp only [getC_s, getC_h]
@[simp] theorem p7 : s.e.set 7 c = ({ s with v_its := c } : S_u_law_halves).e := rfl
@[simp] theorem i7 : s.e[7]? = some s.v_its := rfl
@[simp] theorem len_ : s.e.length = 8 := rfl
@[simp] theorem eta_ : (S_u_law_halves.mk s.v_places s.v_half s.v_one s.v_other s.v_found s.v_at s.v_mine s.v_its) = s := rfl
end S_u_law_halves
theorem F_u_law_halves_eq (j : Nat) (d0 : D) : F_u_law_halves (j + 1) [d0] = outP (b_u_law_halves (F_u_law_halves j) ({ v_places := some (.sh d0) } : S_u_law_halves).e) := fnP_eq (m := b_u_law_halves (F_u_law_halves j)) rfl
structure S_side_by_side where
  v_one : Option C := none
  v_other : Option C := none
  v_found : Option C := none
  v_at : Option C := none
  v_level : Option C := none
namespace S_side_by_side
def e (s : S_side_by_side) : Fx.Env := [s.v_one, s.v_other, s.v_found, s.v_at, s.v_level]
variable (s : S_side_by_side) (c : Option C)
@[simp] theorem g0 : getC s.e 0 = s.v_one := by unfold e; simp only [getC_s, getC_h]
@[simp] theorem p0 : s.e.set 0 c = ({ s with v_one := c } : S_side_by_side).e := rfl
@[simp] theorem i0 : s.e[0]? = some s.v_one := rfl
@[simp] theorem g1 : getC s.e 1 = s.v_other := by unfold e; simp only [getC_s, getC_h]
@[simp] theorem p1 : s.e.set 1 c = ({ s with v_other := c } : S_side_by_side).e := rfl
@[simp] theorem i1 : s.e[1]? = some s.v_other := rfl
@[simp] theorem g2 : getC s.e 2 = s.v_found := by unfold e; simp only [getC_s, getC_h]
@[simp] theorem p2 : s.e.set 2 c = ({ s with v_found := c } : S_side_by_side).e := rfl
@[simp] theorem i2 : s.e[2]? = some s.v_found := rfl
@[simp] theorem g3 : getC s.e 3 = s.v_at := by unfold e; simp only [getC_s, getC_h]
@[simp] theorem p3 : s.e.set 3 c = ({ s with v_at := c } : S_side_by_side).e := rfl
@[simp] theorem i3 : s.e[3]? = some s.v_at := rfl
@[simp] theorem g4 : getC s.e 4 = s.v_level := by unfold e; simp only [getC_s, getC_h]
@[simp] theorem p4 : s.e.set 4 c = ({ s with v_level := c } : S_side_by_side).e := rfl
@[simp] theorem i4 : s.e[4]? = some s.v_level := rfl
@[simp] theorem len_ : s.e.length = 5 := rfl
@[simp] theorem eta_ : (S_side_by_side.mk s.v_one s.v_other s.v_found s.v_at s.v_level) = s := rfl
end S_side_by_side
theorem F_side_by_side_eq (d0 d1 : D) : F_side_by_side [d0, d1] = outP (b_side_by_side ({ v_one := some (.sh d0), v_other := some (.sh d1) } : S_side_by_side).e) := fnP_eq (m := b_side_by_side) rfl
structure S_levelled where
  v_pairs : Option C := none
  v_free : Option C := none
  v_levels : Option C := none
  v_one : Option C := none
  v_other : Option C := none
  v_at : Option C := none
  v_level : Option C := none
namespace S_levelled
def e (s : S_levelled) : Fx.Env := [s.v_pairs, s.v_free, s.v_levels, s.v_one, s.v_other, s.v_at, s.v_level]
variable (s : S_levelled) (c : Option C)
@[simp] theorem g0 : getC s.e 0 = s.v_pairs := by unfold e; simp only [getC_s, getC_h]
@[simp] theorem p0 : s.e.set 0 c = ({ s with v_pairs := c } : S_levelled).e := rfl
@[simp] theorem i0 : s.e[0]? = some s.v_pairs := rfl
@[simp] theorem g1 : getC s.e 1 = s.v_free := by unfold e; simp only [getC_s, getC_h]
@[simp] theorem p1 : s.e.set 1 c = ({ s with v_free := c } : S_levelled).e := rfl
@[simp] theorem i1 : s.e[1]? = some s.v_free := rfl
@[simp] theorem g2 : getC s.e 2 = s.v_levels := by unfold e; simp only [getC_s, getC_h]
@[simp] theorem p2 : s.e.set 2 c = ({ s with v_levels := c } : S_levelled).e := rfl
@[simp] theorem i2 : s.e[2]? = some s.v_levels := rfl
@[simp] theorem g3 : getC s.e 3 = s.v_one := by unfold e; simp only [getC_s, getC_h]
@[simp] theorem p3 : s.e.set 3 c = ({ s with v_one := c } : S_levelled).e := rfl
@[simp] theorem i3 : s.e[3]? = some s.v_one := rfl
@[simp] theorem g4 : getC s.e 4 = s.v_other := by unfold e; simp only [getC_s, getC_h]
@[simp] theorem p4 : s.e.set 4 c = ({ s with v_other := c } : S_levelled).e := rfl
@[simp] theorem i4 : s.e[4]? = some s.v_other := rfl
@[simp] theorem g5 : getC s.e 5 = s.v_at := by unfold e; simp only [getC_s, getC_h]
@[simp] theorem p5 : s.e.set 5 c = ({ s with v_at := c } : S_levelled).e := rfl
@[simp] theorem i5 : s.e[5]? = some s.v_at := rfl
@[simp] theorem g6 : getC s.e 6 = s.v_level := by unfold e; simp only [getC_s, getC_h]
@[simp] theorem p6 : s.e.set 6 c = ({ s with v_level := c } : S_levelled).e := rfl
@[simp] theorem i6 : s.e[6]? = some s.v_level := rfl
@[simp] theorem len_ : s.e.length = 7 := rfl
@[simp] theorem eta_ : (S_levelled.mk s.v_pairs s.v_free s.v_levels s.v_one s.v_other s.v_at s.v_level) = s := rfl
end S_levelled
theorem F_levelled_eq (d0 : D) : F_levelled [d0] = outP (b_levelled ({ v_pairs := some (.sh d0) } : S_levelled).e) := fnP_eq (m := b_levelled) rfl
structure S_merging where
  v_one : Option C := none
  v_other : Option C := none
  v_found : Option C := none
  v_places : Option C := none
namespace S_merging
def e (s : S_merging) : Fx.Env := [s.v_one, s.v_other, s.v_found, s.v_places]
variable (s : S_merging) (c : Option C)
@[simp] theorem g0 : getC s.e 0 = s.v_one := by unfold e; simp only [getC_s, getC_h]
@[simp] theorem p0 : s.e.set 0 c = ({ s with v_one := c } : S_merging).e := rfl
@[simp] theorem i0 : s.e[0]? = some s.v_one := rfl
@[simp] theorem g1 : getC s.e 1 = s.v_other := by unfold e; simp only [getC_s, getC_h]
@[simp] theorem p1 : s.e.set 1 c = ({ s with v_other := c } : S_merging).e := rfl
@[simp] theorem i1 : s.e[1]? = some s.v_other := rfl
@[simp] theorem g2 : getC s.e 2 = s.v_found := by unfold e; simp only [getC_s, getC_h]
@[simp] theorem p2 : s.e.set 2 c = ({ s with v_found := c } : S_merging).e := rfl
@[simp] theorem i2 : s.e[2]? = some s.v_found := rfl
@[simp] theorem g3 : getC s.e 3 = s.v_places := by unfold e; simp only [getC_s, getC_h]
@[simp] theorem p3 : s.e.set 3 c = ({ s with v_places := c } : S_merging).e := rfl
@[simp] theorem i3 : s.e[3]? = some s.v_places := rfl
@[simp] theorem len_ : s.e.length = 4 := rfl
@[simp] theorem eta_ : (S_merging.mk s.v_one s.v_other s.v_found s.v_places) = s := rfl
end S_merging
theorem F_merging_eq (j : Nat) (d0 d1 : D) : F_merging (j + 1) [d0, d1] = outP (b_merging (F_merging j) ({ v_one := some (.sh d0), v_other := some (.sh d1) } : S_merging).e) := fnP_eq (m := b_merging (F_merging j)) rfl
structure S_ordering where
  v_places : Option C := none
  v_half : Option C := none
  v_one : Option C := none
  v_other : Option C := none
namespace S_ordering
def e (s : S_ordering) : Fx.Env := [s.v_places, s.v_half, s.v_one, s.v_other]
variable (s : S_ordering) (c : Option C)
@[simp] theorem g0 : getC s.e 0 = s.v_places := by unfold e; simp only [getC_s, getC_h]
@[simp] theorem p0 : s.e.set 0 c = ({ s with v_places := c } : S_ordering).e := rfl
@[simp] theorem i0 : s.e[0]? = some s.v_places := rfl
@[simp] theorem g1 : getC s.e 1 = s.v_half := by unfold e; simp only [getC_s, getC_h]
@[simp] theorem p1 : s.e.set 1 c = ({ s with v_half := c } : S_ordering).e := rfl
@[simp] theorem i1 : s.e[1]? = some s.v_half := rfl
@[simp] theorem g2 : getC s.e 2 = s.v_one := by unfold e; simp only [getC_s, getC_h]
@[simp] theorem p2 : s.e.set 2 c = ({ s with v_one := c } : S_ordering).e := rfl
@[simp] theorem i2 : s.e[2]? = some s.v_one := rfl
@[simp] theorem g3 : getC s.e 3 = s.v_other := by unfold e; simp only [getC_s, getC_h]
@[simp] theorem p3 : s.e.set 3 c = ({ s with v_other := c } : S_ordering).e := rfl
@[simp] theorem i3 : s.e[3]? = some s.v_other := rfl
@[simp] theorem len_ : s.e.length = 4 := rfl
@[simp] theorem eta_ : (S_ordering.mk s.v_places s.v_half s.v_one s.v_other) = s := rfl
end S_ordering
theorem F_ordering_eq (j : Nat) (d0 : D) : F_ordering (j + 1) [d0] = outP (b_ordering (F_ordering j) ({ v_places := some (.sh d0) } : S_ordering).e) := fnP_eq (m := b_ordering (F_ordering j)) rfl
structure S_odd_even where
  v_many : Option C := none
namespace S_odd_even
def e (s : S_odd_even) : Fx.Env := [s.v_many]
variable (s : S_odd_even) (c : Option C)
@[simp] theorem g0 : getC s.e 0 = s.v_many := by unfold e; simp only [getC_s, getC_h]
@[simp] theorem p0 : s.e.set 0 c = ({ s with v_many := c } : S_odd_even).e := rfl
@[simp] theorem i0 : s.e[0]? = some s.v_many := rfl
@[simp] theorem len_ : s.e.length = 1 := rfl
@[simp] theorem eta_ : (S_odd_even.mk s.v_many) = s := rfl
end S_odd_even
theorem F_odd_even_eq (d0 : D) : F_odd_even [d0] = outP (b_odd_even ({ v_many := some (.sh d0) } : S_odd_even).e) := fnP_eq (m := b_odd_even) rfl
structure S_neighbours where
  v_many : Option C := none
  v_one : Option C := none
  v_level : Option C := none
namespace S_neighbours
def e (s : S_neighbours) : Fx.Env := [s.v_many, s.v_one, s.v_level]
variable (s : S_neighbours) (c : Option C)
@[simp] theorem g0 : getC s.e 0 = s.v_many := by unfold e; simp only [getC_s, getC_h]
@[simp] theorem p0 : s.e.set 0 c = ({ s with v_many := c } : S_neighbours).e := rfl
@[simp] theorem i0 : s.e[0]? = some s.v_many := rfl
@[simp] theorem g1 : getC s.e 1 = s.v_one := by unfold e; simp only [getC_s, getC_h]
@[simp] theorem p1 : s.e.set 1 c = ({ s with v_one := c } : S_neighbours).e := rfl
@[simp] theorem i1 : s.e[1]? = some s.v_one := rfl
@[simp] theorem g2 : getC s.e 2 = s.v_level := by unfold e; simp only [getC_s, getC_h]
@[simp] theorem p2 : s.e.set 2 c = ({ s with v_level := c } : S_neighbours).e := rfl
@[simp] theorem i2 : s.e[2]? = some s.v_level := rfl
@[simp] theorem len_ : s.e.length = 3 := rfl
@[simp] theorem eta_ : (S_neighbours.mk s.v_many s.v_one s.v_level) = s := rfl
end S_neighbours
theorem F_neighbours_eq (d0 : D) : F_neighbours [d0] = outP (b_neighbours ({ v_many := some (.sh d0) } : S_neighbours).e) := fnP_eq (m := b_neighbours) rfl
structure S_u_law_bits where
  v_many : Option C := none
  v_found : Option C := none
  v_at : Option C := none
  v_longer : Option C := none
  v_row : Option C := none
namespace S_u_law_bits
def e (s : S_u_law_bits) : Fx.Env := [s.v_many, s.v_found, s.v_at, s.v_longer, s.v_row]
variable (s : S_u_law_bits) (c : Option C)
@[simp] theorem g0 : getC s.e 0 = s.v_many := by unfold e; simp only [getC_s, getC_h]
@[simp] theorem p0 : s.e.set 0 c = ({ s with v_many := c } : S_u_law_bits).e := rfl
@[simp] theorem i0 : s.e[0]? = some s.v_many := rfl
@[simp] theorem g1 : getC s.e 1 = s.v_found := by unfold e; simp only [getC_s, getC_h]
@[simp] theorem p1 : s.e.set 1 c = ({ s with v_found := c } : S_u_law_bits).e := rfl
@[simp] theorem i1 : s.e[1]? = some s.v_found := rfl
@[simp] theorem g2 : getC s.e 2 = s.v_at := by unfold e; simp only [getC_s, getC_h]
@[simp] theorem p2 : s.e.set 2 c = ({ s with v_at := c } : S_u_law_bits).e := rfl
@[simp] theorem i2 : s.e[2]? = some s.v_at := rfl
@[simp] theorem g3 : getC s.e 3 = s.v_longer := by unfold e; simp only [getC_s, getC_h]
@[simp] theorem p3 : s.e.set 3 c = ({ s with v_longer := c } : S_u_law_bits).e := rfl
@[simp] theorem i3 : s.e[3]? = some s.v_longer := rfl
@[simp] theorem g4 : getC s.e 4 = s.v_row := by unfold e; simp only [getC_s, getC_h]
@[simp] theorem p4 : s.e.set 4 c = ({ s with v_row := c } : S_u_law_bits).e := rfl
@[simp] theorem i4 : s.e[4]? = some s.v_row := rfl
@[simp] theorem len_ : s.e.length = 5 := rfl
@[simp] theorem eta_ : (S_u_law_bits.mk s.v_many s.v_found s.v_at s.v_longer s.v_row) = s := rfl
end S_u_law_bits
theorem F_u_law_bits_eq (d0 : D) : F_u_law_bits [d0] = outP (b_u_law_bits ({ v_many := some (.sh d0) } : S_u_law_bits).e) := fnP_eq (m := b_u_law_bits) rfl
structure S_u_law_through where
  v_network : Option C := none
  v_numbers : Option C := none
  v_found : Option C := none
  v_level : Option C := none
  v_i : Option C := none
  v_j : Option C := none
  v_low : Option C := none
  v_high : Option C := none
namespace S_u_law_through
def e (s : S_u_law_through) : Fx.Env := [s.v_network, s.v_numbers, s.v_found, s.v_level, s.v_i, s.v_j, s.v_low, s.v_high]
variable (s : S_u_law_through) (c : Option C)
@[simp] theorem g0 : getC s.e 0 = s.v_network := by unfold e; simp only [getC_s, getC_h]
@[simp] theorem p0 : s.e.set 0 c = ({ s with v_network := c } : S_u_law_through).e := rfl
@[simp] theorem i0 : s.e[0]? = some s.v_network := rfl
@[simp] theorem g1 : getC s.e 1 = s.v_numbers := by unfold e; simp only [getC_s, getC_h]
@[simp] theorem p1 : s.e.set 1 c = ({ s with v_numbers := c } : S_u_law_through).e := rfl
@[simp] theorem i1 : s.e[1]? = some s.v_numbers := rfl
@[simp] theorem g2 : getC s.e 2 = s.v_found := by unfold e; simp only [getC_s, getC_h]
@[simp] theorem p2 : s.e.set 2 c = ({ s with v_found := c } : S_u_law_through).e := rfl
@[simp] theorem i2 : s.e[2]? = some s.v_found := rfl
@[simp] theorem g3 : getC s.e 3 = s.v_level := by unfold e; simp only [getC_s, getC_h]
@[simp] theorem p3 : s.e.set 3 c = ({ s with v_level := c } : S_u_law_through).e := rfl
@[simp] theorem i3 : s.e[3]? = some s.v_level := rfl
@[simp] theorem g4 : getC s.e 4 = s.v_i := by unfold e; simp only [getC_s, getC_h]
@[simp] theorem p4 : s.e.set 4 c = ({ s with v_i := c } : S_u_law_through).e := rfl
@[simp] theorem i4 : s.e[4]? = some s.v_i := rfl
@[simp] theorem g5 : getC s.e 5 = s.v_j := by unfold e; simp only [getC_s, getC_h]
@[simp] theorem p5 : s.e.set 5 c = ({ s with v_j := c } : S_u_law_through).e := rfl
@[simp] theorem i5 : s.e[5]? = some s.v_j := rfl
@[simp] theorem g6 : getC s.e 6 = s.v_low := by unfold e; simp only [getC_s, getC_h]
@[simp] theorem p6 : s.e.set 6 c = ({ s with v_low := c } : S_u_law_through).e := rfl
@[simp] theorem i6 : s.e[6]? = some s.v_low := rfl
@[simp] theorem g7 : getC s.e 7 = s.v_high := by unfold e; simp only [getC_s, getC_h]
@[simp] theorem p7 : s.e.set 7 c = ({ s with v_high := c } : S_u_law_through).e := rfl
@[simp] theorem i7 : s.e[7]? = some s.v_high := rfl
@[simp] theorem len_ : s.e.length = 8 := rfl
@[simp] theorem eta_ : (S_u_law_through.mk s.v_network s.v_numbers s.v_found s.v_level s.v_i s.v_j s.v_low s.v_high) = s := rfl
end S_u_law_through
theorem F_u_law_through_eq (d0 d1 : D) : F_u_law_through [d0, d1] = outP (b_u_law_through ({ v_network := some (.sh d0), v_numbers := some (.sh d1) } : S_u_law_through).e) := fnP_eq (m := b_u_law_through) rfl
structure S_pairs_of where
  v_network : Option C := none
  v_level : Option C := none
  v_pair : Option C := none
namespace S_pairs_of
def e (s : S_pairs_of) : Fx.Env := [s.v_network, s.v_level, s.v_pair]
variable (s : S_pairs_of) (c : Option C)
@[simp] theorem g0 : getC s.e 0 = s.v_network := by unfold e; simp only [getC_s, getC_h]
@[simp] theorem p0 : s.e.set 0 c = ({ s with v_network := c } : S_pairs_of).e := rfl
@[simp] theorem i0 : s.e[0]? = some s.v_network := rfl
@[simp] theorem g1 : getC s.e 1 = s.v_level := by unfold e; simp only [getC_s, getC_h]
@[simp] theorem p1 : s.e.set 1 c = ({ s with v_level := c } : S_pairs_of).e := rfl
@[simp] theorem i1 : s.e[1]? = some s.v_level := rfl
@[simp] theorem g2 : getC s.e 2 = s.v_pair := by unfold e; simp only [getC_s, getC_h]
@[simp] theorem p2 : s.e.set 2 c = ({ s with v_pair := c } : S_pairs_of).e := rfl
@[simp] theorem i2 : s.e[2]? = some s.v_pair := rfl
@[simp] theorem len_ : s.e.length = 3 := rfl
@[simp] theorem eta_ : (S_pairs_of.mk s.v_network s.v_level s.v_pair) = s := rfl
end S_pairs_of
theorem F_pairs_of_eq (d0 : D) : F_pairs_of [d0] = outP (b_pairs_of ({ v_network := some (.sh d0) } : S_pairs_of).e) := fnP_eq (m := b_pairs_of) rfl
end Fx.Nt
set_option Elab.async false
set_option linter.all false
set_option maxRecDepth 100000
set_option maxHeartbeats 4000000
namespace Fx.Nu
open PySem L2 Fx

open Fx.L
/-! ## what is computed -/
noncomputable def l1_u_law_mixed : SM :=
  (sDrop (eMethL fAppend 3 [.one (eMethL fPopAt 2 [.one (eCallB F_u_law_take 0 [.one (eO fLen [(.slot 2)])])])]))
noncomputable def b_u_law_mixed : SM :=
  (sSeq (sPar2c 2 3 (eO fList [(.slot 1)]) (eLst []))
    (sSeq (sWhile (kVal (eO fNe [(.slot 2), (.val (eLst []))])) l1_u_law_mixed)
    (sRet (eMove 3))))
noncomputable def F_u_law_mixed : C → List D → Option (C × C) := fnB 2 4 b_u_law_mixed
noncomputable def l1_u_law_network : SM :=
  (sIf (kVal (eO (fII gGt) [(.val (eCallB F_u_law_take 0 [.one (eC (.int 4))])), (.val (eC (.int 0)))])) (sDrop (eMethL fAppend 6 [.one (eTup [.one (eO fMin [(.val (eO fIx [(.slot 5), (.slot 7)])), (.val (eO fIx [(.slot 5), (.val (eO fAdd [(.slot 7), (.val (eC (.int 1)))]))]))]), .one (eO fMax [(.val (eO fIx [(.slot 5), (.slot 7)])), (.val (eO fIx [(.slot 5), (.val (eO fAdd [(.slot 7), (.val (eC (.int 1)))]))]))])])])) sNx)
noncomputable def l2_u_law_network : SM :=
  (sSeq (sPar2c 5 6 (eCallB F_u_law_mixed 0 [.one (eLR1 (.slot 1))]) (eLst []))
    (sSeq (sFor (.one 7) (iR3 (.val (eC (.int 0))) (.val (eO (fII gSub) [(.slot 1), (.val (eC (.int 1)))])) (.val (eC (.int 2)))) l1_u_law_network)
    (sDrop (eMethL fAppend 3 [.one (eO fTuple [(.val (eO fSorted [(.slot 6)]))])]))))
noncomputable def b_u_law_network : SM :=
  (sSeq (sSet 3 (eLst []))
    (sSeq (sFor (.one 4) (iR1 (.val (eCallB F_u_law_take 0 [.one (eO fAdd [(.slot 2), (.val (eC (.int 1)))])]))) l2_u_law_network)
    (sRet (eO fTuple [(.slot 3)]))))
noncomputable def F_u_law_network : C → List D → Option (C × C) := fnB 3 8 b_u_law_network
noncomputable def l1_level_done : SM :=
  (sIf (kVal (eO fLt [(.val (eO fIx [(.slot 2), (.slot 4)])), (.val (eO fIx [(.slot 2), (.slot 3)]))])) (sUnp [(.sb 2 (.slot 3)), (.sb 2 (.slot 4))] (eTup [.one (eO fIx [(.slot 2), (.slot 4)]), .one (eO fIx [(.slot 2), (.slot 3)])])) sNx)
noncomputable def b_level_done : SM :=
  (sSeq (sSet 2 (eO fList [(.slot 1)]))
    (sSeq (sFor (.tup [3, 4]) (iV (eSlot 0)) l1_level_done)
    (sRet (eMove 2))))
noncomputable def F_level_done : List D → Option C := fnP 2 5 b_level_done
noncomputable def l1_done : SM :=
  (sSet 2 (eCall F_level_done [.one (eSlot 3), .one (eSlot 2)]))
noncomputable def b_done : SM :=
  (sSeq (sSet 2 (eO fList [(.slot 1)]))
    (sSeq (sFor (.one 3) (iV (eSlot 0)) l1_done)
    (sRet (eO fTuple [(.slot 2)]))))
noncomputable def F_done : List D → Option C := fnP 2 4 b_done
/-! ## states by names -/
structure S_u_law_mixed where
  v_bag : Option C := none
  v_things : Option C := none
  v_left : Option C := none
  v_found : Option C := none
namespace S_u_law_mixed
def e (s : S_u_law_mixed) : Fx.Env := [s.v_bag, s.v_things, s.v_left, s.v_found]
variable (s : S_u_law_mixed) (c : Option C)
@[simp] theorem g0 : getC s.e 0 = s.v_bag := by unfold e; simp only [getC_s, getC_h]
@[simp] theorem p0 : s.e.set 0 c = ({ s with v_bag := c } : S_u_law_mixed).e := rfl
@[simp] theorem i0 : s.e[0]? = some s.v_bag := rfl
@[simp] theorem g1 : getC s.e 1 = s.v_things := by unfold e; simp only [getC_s, getC_h]
@[simp] theorem p1 : s.e.set 1 c = ({ s with v_things := c } : S_u_law_mixed).e := rfl
@[simp] theorem i1 : s.e[1]? = some s.v_things := rfl
@[simp] theorem g2 : getC s.e 2 = s.v_left := by unfold e; simp only [getC_s, getC_h]
@[simp] theorem p2 : s.e.set 2 c = ({ s with v_left := c } : S_u_law_mixed).e := rfl
@[simp] theorem i2 : s.e[2]? = some s.v_left := rfl
@[simp] theorem g3 : getC s.e 3 = s.v_found := by unfold e; simp only [getC_s, getC_h]
@[simp] theorem p3 : s.e.set 3 c = ({ s with v_found := c } : S_u_law_mixed).e := rfl
@[simp] theorem i3 : s.e[3]? = some s.v_found := rfl
@[simp] theorem len_ : s.e.length = 4 := rfl
@[simp] theorem eta_ : (S_u_law_mixed.mk s.v_bag s.v_things s.v_left s.v_found) = s := rfl
@[simp] theorem get0_ : get0 s.e = s.v_bag := by unfold e get0; cases s.v_bag <;> rfl
end S_u_law_mixed
theorem F_u_law_mixed_eq (c0 : C) (d0 : D) : F_u_law_mixed c0 [d0] = outB (b_u_law_mixed ({ v_bag := some c0, v_things := some (.sh d0) } : S_u_law_mixed).e) := fnB_eq (m := b_u_law_mixed) rfl
structure S_u_law_network where
  v_bag : Option C := none
  v_many : Option C := none
  v_most : Option C := none
  v_found : Option C := none
  v_turn : Option C := none
  v_places : Option C := none
  v_level : Option C := none
  v_at : Option C := none
namespace S_u_law_network
def e (s : S_u_law_network) : Fx.Env := [s.v_bag, s.v_many, s.v_most, s.v_found, s.v_turn, s.v_places, s.v_level, s.v_at]
variable (s : S_u_law_network) (c : Option C)
@[simp] theorem g0 : getC s.e 0 = s.v_bag := by unfold e; simp only [getC_s, getC_h]
@[simp] theorem p0 : s.e.set 0 c = ({ s with v_bag := c } : S_u_law_network).e := rfl
@[simp] theorem i0 : s.e[0]? = some s.v_bag := rfl
@[simp] theorem g1 : getC s.e 1 = s.v_many := by unfold e; simp only [getC_s, getC_h]
@[simp] theorem p1 : s.e.set 1 c = ({ s with v_many := c } : S_u_law_network).e := rfl
@[simp] theorem i1 : s.e[1]? = some s.v_many := rfl
@[simp] theorem g2 : getC s.e 2 = s.v_most := by unfold e; simp only [getC_s, getC_h]
@[simp] theorem p2 : s.e.set 2 c = ({ s with v_most := c } : S_u_law_network).e := rfl
@[simp] theorem i2 : s.e[2]? = some s.v_most := rfl
@[simp] theorem g3 : getC s.e 3 = s.v_found := by unfold e; simp only [getC_s, getC_h]
@[simp] theorem p3 : s.e.set 3 c = ({ s with v_found := c } : S_u_law_network).e := rfl
@[simp] theorem i3 : s.e[3]? = some s.v_found := rfl
@[simp] theorem g4 : getC s.e 4 = s.v_turn := by unfold e; simp only [getC_s, getC_h]
@[simp] theorem p4 : s.e.set 4 c = ({ s with v_turn := c } : S_u_law_network).e := rfl
@[simp] theorem i4 : s.e[4]? = some s.v_turn := rfl
@[simp] theorem g5 : getC s.e 5 = s.v_places := by unfold e; simp only [getC_s, getC_h]
@[simp] theorem p5 : s.e.set 5 c = ({ s with v_places := c } : S_u_law_network).e := rfl
@[simp] theorem i5 : s.e[5]? = some s.v_places := rfl
@[simp] theorem g6 : getC s.e 6 = s.v_level := by unfold e; simp only [getC_s, getC_h]
@[simp] theorem p6 : s.e.set 6 c = ({ s with v_level := c } : S_u_law_network).e := rfl
@[simp] theorem i6 : s.e[6]? = some s.v_level := rfl
@[simp] theorem g7 : getC s.e 7 = s.v_at := by unfold e; simp only [getC_s, getC_h]
@[simp] theorem p7 : s.e.set 7 c = ({ s with v_at := c } : S_u_law_network).e := rfl
@[simp] theorem i7 : s.e[7]? = some s.v_at := rfl
@[simp] theorem len_ : s.e.length = 8 := rfl
@[simp] theorem eta_ : (S_u_law_network.mk s.v_bag s.v_many s.v_most s.v_found s.v_turn s.v_places s.v_level s.v_at) = s := rfl
@[simp] theorem get0_ : get0 s.e = s.v_bag := by unfold e get0; cases s.v_bag <;> rfl
end S_u_law_network
theorem F_u_law_network_eq (c0 : C) (d0 d1 : D) : F_u_law_network c0 [d0, d1] = outB (b_u_law_network ({ v_bag := some c0, v_many := some (.sh d0), v_most := some (.sh d1) } : S_u_law_network).e) := fnB_eq (m := b_u_law_network) rfl
structure S_level_done where
  v_level : Option C := none
  v_numbers : Option C := none
  v_found : Option C := none
  v_one : Option C := none
  v_other : Option C := none
namespace S_level_done
def e (s : S_level_done) : Fx.Env := [s.v_level, s.v_numbers, s.v_found, s.v_one, s.v_other]
variable (s : S_level_done) (c : Option C)
@[simp] theorem g0 : getC s.e 0 = s.v_level := by unfold e; simp only [getC_s, getC_h]
@[simp] theorem p0 : s.e.set 0 c = ({ s with v_level := c } : S_level_done).e := rfl
@[simp] theorem i0 : s.e[0]? = some s.v_level := rfl
@[simp] theorem g1 : getC s.e 1 = s.v_numbers := by unfold e; simp only [getC_s, getC_h]
@[simp] theorem p1 : s.e.set 1 c = ({ s with v_numbers := c } : S_level_done).e := rfl
@[simp] theorem i1 : s.e[1]? = some s.v_numbers := rfl
@[simp] theorem g2 : getC s.e 2 = s.v_found := by unfold e; simp only [getC_s, getC_h]
@[simp] theorem p2 : s.e.set 2 c = ({ s with v_found := c } : S_level_done).e := rfl
@[simp] theorem i2 : s.e[2]? = some s.v_found := rfl
@[simp] theorem g3 : getC s.e 3 = s.v_one := by unfold e; simp only [getC_s, getC_h]
@[simp] theorem p3 : s.e.set 3 c = ({ s with v_one := c } : S_level_done).e := rfl
@[simp] theorem i3 : s.e[3]? = some s.v_one := rfl
@[simp] theorem g4 : getC s.e 4 = s.v_other := by unfold e; simp only [getC_s, getC_h]
@[simp] theorem p4 : s.e.set 4 c = ({ s with v_other := c } : S_level_done).e := rfl
@[simp] theorem i4 : s.e[4]? = some s.v_other := rfl
@[simp] theorem len_ : s.e.length = 5 := rfl
@[simp] theorem eta_ : (S_level_done.mk s.v_level s.v_numbers s.v_found s.v_one s.v_other) = s := rfl
end S_level_done
theorem F_level_done_eq (d0 d1 : D) : F_level_done [d0, d1] = outP (b_level_done ({ v_level := some (.sh d0), v_numbers := some (.sh d1) } : S_level_done).e) := fnP_eq (m := b_level_done) rfl
structure S_done where
  v_network : Option C := none
  v_numbers : Option C := none
  v_found : Option C := none
  v_level : Option C := none
namespace S_done
def e (s : S_done) : Fx.Env := [s.v_network, s.v_numbers, s.v_found, s.v_level]
variable (s : S_done) (c : Option C)
@[simp] theorem g0 : getC s.e 0 = s.v_network := by unfold e; simp only [getC_s, getC_h]
@[simp] theorem p0 : s.e.set 0 c = ({ s with v_network := c } : S_done).e := rfl
@[simp] theorem i0 : s.e[0]? = some s.v_network := rfl
@[simp] theorem g1 : getC s.e 1 = s.v_numbers := by unfold e; simp only [getC_s, getC_h]
@[simp] theorem p1 : s.e.set 1 c = ({ s with v_numbers := c } : S_done).e := rfl
@[simp] theorem i1 : s.e[1]? = some s.v_numbers := rfl
@[simp] theorem g2 : getC s.e 2 = s.v_found := by unfold e; simp only [getC_s, getC_h]
@[simp] theorem p2 : s.e.set 2 c = ({ s with v_found := c } : S_done).e := rfl
@[simp] theorem i2 : s.e[2]? = some s.v_found := rfl
@[simp] theorem g3 : getC s.e 3 = s.v_level := by unfold e; simp only [getC_s, getC_h]
@[simp] theorem p3 : s.e.set 3 c = ({ s with v_level := c } : S_done).e := rfl
@[simp] theorem i3 : s.e[3]? = some s.v_level := rfl
@[simp] theorem len_ : s.e.length = 4 := rfl
@[simp] theorem eta_ : (S_done.mk s.v_network s.v_numbers s.v_found s.v_level) = s := rfl
end S_done
theorem F_done_eq (d0 d1 : D) : F_done [d0, d1] = outP (b_done ({ v_network := some (.sh d0), v_numbers := some (.sh d1) } : S_done).e) := fnP_eq (m := b_done) rfl
end Fx.Nu
set_option Elab.async false
set_option linter.all false
set_option maxRecDepth 100000
set_option maxHeartbeats 4000000
namespace K20
open PySem L2 Fx

open Fx.L
open Fx.Nt
open Fx.Nu
/-! ## what is computed -/
noncomputable def l1_u_law_through : SM :=
  (sSeq (sPar [6, 7] [.one (eO fMinT [(.val (eO fIx [(.slot 2), (.slot 4)])), (.val (eO fIx [(.slot 2), (.slot 5)]))]), .one (eO fMaxT [(.val (eO fIx [(.slot 2), (.slot 4)])), (.val (eO fIx [(.slot 2), (.slot 5)]))])])
    (sSeq (sPut (.sb 2 (.slot 4)) (eSlot 6))
    (sPut (.sb 2 (.slot 5)) (eSlot 7))))
noncomputable def l2_u_law_through : SM :=
  (sFor (.tup [4, 5]) (iV (eSlot 3)) l1_u_law_through)
noncomputable def b_u_law_through : SM :=
  (sSeq (sSet 2 (eO fList [(.slot 1)]))
    (sSeq (sFor (.one 3) (iV (eSlot 0)) l2_u_law_through)
    (sRet (eMove 2))))
noncomputable def F_u_law_through : List D → Option C := fnP 2 8 b_u_law_through
noncomputable def b_is_integer : SM :=
  (sRet (eAnd (eIsi ["int"] (.slot 0)) (eNot (eIsi ["bool"] (.slot 0)))))
noncomputable def F_is_integer : List D → Option C := fnP 1 1 b_is_integer
noncomputable def b_is_within : SM :=
  (sRet (eAnd (eCall F_is_integer [.one (eSlot 0)]) (eChain cLe cLe (.slot 1) (.slot 0) (.slot 2))))
noncomputable def F_is_within : List D → Option C := fnP 3 3 b_is_within
noncomputable def b_is_pair : SM :=
  (sSeq (sIf (kOr (kNot (kVal (eIsi ["tuple"] (.slot 1)))) (kOr (kVal (eO fNe [(.val (eO fLen [(.slot 1)])), (.val (eC (.int 2)))])) (kNot (kVal (eCall F_is_within [.one (eO fIx [(.slot 1), (.val (eC (.int 0)))]), .one (eC (.int 0)), .one (eO (fII gSub) [(.slot 0), (.val (eC (.int 1)))])]))))) (sRet (eC (.bl false))) sNx)
    (sRet (eCall F_is_within [.one (eO fIx [(.slot 1), (.val (eC (.int 1)))]), .one (eO fAdd [(.val (eO fIx [(.slot 1), (.val (eC (.int 0)))])), (.val (eC (.int 1)))]), .one (eO (fII gSub) [(.slot 0), (.val (eC (.int 1)))])])))
noncomputable def F_is_pair : List D → Option C := fnP 2 2 b_is_pair
noncomputable def c1_is_level : EM :=
  (eCall F_is_pair [.one (eSlot 0), .one (eSlot 2)])
noncomputable def b_is_level : SM :=
  (sSeq (sIf (kOr (kNot (kVal (eIsi ["tuple"] (.slot 1)))) (kNot (kVal (eO fAll [(.val (eComp [2] (.one 2) (iV (eSlot 1)) kYes c1_is_level))])))) (sRet (eC (.bl false))) sNx)
    (sSeq (sSet 3 (eComp2 [2, 4] (.one 2) (iV (eSlot 1)) kYes (iV (eSlot 2)) [4] (.one 4) kYes (eSlot 4)))
    (sRet (eAnd (eO fEq [(.val (eO fLen [(.val (eDC [4] (.one 4) (iV (eSlot 3)) kYes (eSlot 4) (eC (.bl true))))])), (.val (eO fLen [(.slot 3)]))]) (eO fEq [(.val (eO fList [(.slot 1)])), (.val (eO fSorted [(.slot 1)]))])))))
noncomputable def F_is_level : List D → Option C := fnP 2 5 b_is_level
noncomputable def c1_is_network : EM :=
  (eCall F_is_level [.one (eSlot 0), .one (eSlot 2)])
noncomputable def b_is_network : SM :=
  (sSeq (sIf (kOr (kNot (kVal (eIsi ["tuple"] (.slot 1)))) (kVal (eO (fII gGt) [(.val (eO fLen [(.slot 1)])), (.val (eC (.int 300)))]))) (sRet (eC (.bl false))) sNx)
    (sRet (eO fAll [(.val (eComp [2] (.one 2) (iV (eSlot 1)) kYes c1_is_network))])))
noncomputable def F_is_network : List D → Option C := fnP 2 3 b_is_network
noncomputable def b_u_law_is_int : SM :=
  (sRet (eAnd (eIsi ["int"] (.slot 0)) (eNot (eIsi ["bool"] (.slot 0)))))
noncomputable def F_u_law_is_int : List D → Option C := fnP 1 1 b_u_law_is_int
noncomputable def b_u_law_bent (Fs : C → List D → Option (C × C)) : SM :=
  (sSeq (sSet 3 (eCallB F_u_law_take 0 [.one (eC (.int 5))]))
    (sSeq (sIf (kAnd (kVal (eO (fII gGt) [(.slot 2), (.val (eC (.int 0)))])) (kAnd (kVal (eIsi ["tuple"] (.slot 1))) (kAnd (kVal (eO fNe [(.slot 1), (.val (eTup []))])) (kVal (eO (fII gGt) [(.slot 3), (.val (eC (.int 0)))]))))) (sSeq (sSet 4 (eCallB F_u_law_take 0 [.one (eO fLen [(.slot 1)])]))
    (sSeq (sIf (kVal (eO fEq [(.slot 3), (.val (eC (.int 1)))])) (sRet (eO fAdd [(.val (eSl (.slot 1) .no (.at_ (.slot 4)))), (.val (eSl (.slot 1) (.at_ (.val (eO fAdd [(.slot 4), (.val (eC (.int 1)))]))) .no))])) sNx)
    (sSeq (sIf (kVal (eO fEq [(.slot 3), (.val (eC (.int 2)))])) (sRet (eO fAdd [(.val (eO fAdd [(.val (eSl (.slot 1) .no (.at_ (.slot 4)))), (.val (eSl (.slot 1) (.at_ (.slot 4)) (.at_ (.val (eO fAdd [(.slot 4), (.val (eC (.int 1)))])))))])), (.val (eSl (.slot 1) (.at_ (.slot 4)) .no))])) sNx)
    (sRet (eO fAdd [(.val (eO fAdd [(.val (eSl (.slot 1) .no (.at_ (.slot 4)))), (.val (eTup [.one (eCallB Fs 0 [.one (eO fIx [(.slot 1), (.slot 4)]), .one (eO (fII gSub) [(.slot 2), (.val (eC (.int 1)))])])]))])), (.val (eSl (.slot 1) (.at_ (.val (eO fAdd [(.slot 4), (.val (eC (.int 1)))]))) .no))]))))) sNx)
    (sSeq (sIf (kAnd (kVal (eCall F_u_law_is_int [.one (eSlot 1)])) (kVal (eO (fII gGt) [(.slot 3), (.val (eC (.int 0)))]))) (sRet (eO fAdd [(.slot 1), (.val (eCallB F_u_law_some 0 [.one (eLst [.one (eC (.int 1)), .one (eO fNeg [(.val (eC (.int 1)))]), .one (eC (.int 2)), .one (eC (.int 9))])]))])) sNx)
    (sRet (eCallB F_u_law_some 0 [.one (eLst [.one (eC .non), .one (eC (.bl true)), .one (eC (.str "")), .one (eC (.str "a")), .one (eC (.int 7)), .one (eO fNeg [(.val (eC (.int 1)))]), .one (eTup []), .one (eTup [.one (eC (.int 0))]), .one (eIf (kVal (eIsi ["tuple"] (.slot 1))) (eO fList [(.slot 1)]) (eC (.str "zz")))])])))))
noncomputable def F_u_law_bent : Nat → C → List D → Option (C × C)
  | 0 => fun _ _ => none
  | j + 1 => fnB 3 5 (b_u_law_bent (F_u_law_bent j))
noncomputable def b_u_law_is_in : SM :=
  (sRet (eAnd (eCall F_u_law_is_int [.one (eSlot 0)]) (eChain cLe cLe (.slot 1) (.slot 0) (.slot 2))))
noncomputable def F_u_law_is_in : List D → Option C := fnP 3 3 b_u_law_is_in
noncomputable def l1_u_law_is_network : SM :=
  (sSeq (sIf (kOr (kNot (kVal (eIsi ["tuple"] (.slot 4)))) (kOr (kVal (eO fNe [(.val (eO fLen [(.slot 4)])), (.val (eC (.int 2)))])) (kOr (kNot (kVal (eCall F_u_law_is_in [.one (eO fIx [(.slot 4), (.val (eC (.int 0)))]), .one (eC (.int 0)), .one (eO (fII gSub) [(.slot 0), (.val (eC (.int 1)))])]))) (kNot (kVal (eCall F_u_law_is_in [.one (eO fIx [(.slot 4), (.val (eC (.int 1)))]), .one (eC (.int 0)), .one (eO (fII gSub) [(.slot 0), (.val (eC (.int 1)))])])))))) (sRet (eC (.bl false))) sNx)
    (sSet 3 (eO fAdd [(.slot 3), (.val (eLst [.one (eO fIx [(.slot 4), (.val (eC (.int 0)))]), .one (eO fIx [(.slot 4), (.val (eC (.int 1)))])]))])))
noncomputable def c1_u_law_is_network : EM :=
  (eC (.int 1))
noncomputable def ct1_u_law_is_network : TM :=
  (kVal (eO (fII gGe) [(.slot 5), (.slot 6)]))
noncomputable def l2_u_law_is_network : SM :=
  (sSeq (sIf (kNot (kVal (eIsi ["tuple"] (.slot 2)))) (sRet (eC (.bl false))) sNx)
    (sSeq (sSet 3 (eLst []))
    (sSeq (sFor (.one 4) (iV (eSlot 2)) l1_u_law_is_network)
    (sIf (kOr (kVal (eO fNe [(.val (eO fLen [(.val (eO fSrtSet [(.slot 3)]))])), (.val (eO fLen [(.slot 3)]))])) (kOr (kVal (eO fNe [(.val (eComp [5, 6] (.tup [5, 6]) (iV (eSlot 2)) ct1_u_law_is_network c1_u_law_is_network)), (.val (eLst []))])) (kVal (eO fNe [(.val (eO fList [(.slot 2)])), (.val (eO fSorted [(.slot 2)]))])))) (sRet (eC (.bl false))) sNx))))
noncomputable def b_u_law_is_network : SM :=
  (sSeq (sIf (kOr (kNot (kVal (eIsi ["tuple"] (.slot 1)))) (kVal (eO (fII gGt) [(.val (eO fLen [(.slot 1)])), (.val (eC (.int 300)))]))) (sRet (eC (.bl false))) sNx)
    (sSeq (sFor (.one 2) (iV (eSlot 1)) l2_u_law_is_network)
    (sRet (eC (.bl true)))))
noncomputable def F_u_law_is_network : List D → Option C := fnP 2 7 b_u_law_is_network
noncomputable def c1_law : EM :=
  (eCallB F_u_law_take 1 [.one (eC (.int 6))])
noncomputable def l1_law : SM :=
  (sSet 7 (eO fList [(.val (eCall F_level_done [.one (eSlot 8), .one (eSlot 7)]))]))
noncomputable def c2_law : EM :=
  (eTup [.one (eSlot 10), .one (eSlot 6)])
noncomputable def l2_law : SM :=
  (sDrop (eMethL fExtend 11 [.one (eO fList [(.slot 8)])]))
noncomputable def l3_law : SM :=
  (sSeq (sSet 14 (eSl (.val (eCallB F_u_law_mixed 1 [.one (eLR1 (.slot 3))])) .no (.at_ (.val (eC (.int 2))))))
    (sSet 12 (eO fAdd [(.slot 12), (.val (eIf (kVal (eO fEq [(.val (eO fLen [(.slot 14)])), (.val (eC (.int 2)))])) (eLst [.one (eTup [.one (eO fMin [(.slot 14)]), .one (eO fMax [(.slot 14)])])]) (eLst [])))])))
noncomputable def c3_law : EM :=
  (eLst [.one (eSlot 16)])
noncomputable def l4_law : SM :=
  (sSeq (sSet 17 (eCallB (F_u_law_bent 5) 1 [.one (eSlot 4), .one (eC (.int 3))]))
    (sIf (kNot (kVal (eCall F_u_law_alike [.one (eCall F_is_network [.one (eSlot 3), .one (eSlot 17)]), .one (eCall F_u_law_is_network [.one (eSlot 3), .one (eSlot 17)])]))) (sRet (eC (.bl false))) sNx))
noncomputable def l5_law : SM :=
  (sSeq (sSet 3 (eO fAdd [(.val (eC (.int 1))), (.val (eCallB F_u_law_take 1 [.one (eC (.int 9))]))]))
    (sSeq (sSet 4 (eCallB F_u_law_network 1 [.one (eSlot 3), .one (eC (.int 6))]))
    (sSeq (sSet 5 (eO fTuple [(.val (eComp [6] (.one 6) (iR1 (.slot 3)) kYes c1_law))]))
    (sSeq (sIf (kNot (kVal (eCall F_u_law_alike [.one (eLst [.one (eCall F_is_network [.one (eSlot 3), .one (eSlot 4)]), .one (eCall F_done [.one (eSlot 4), .one (eSlot 5)])]), .one (eLst [.one (eC (.bl true)), .one (eO fTuple [(.val (eCall F_u_law_through [.one (eSlot 4), .one (eSlot 5)]))])])]))) (sRet (eC (.bl false))) sNx)
    (sSeq (sSet 7 (eO fList [(.slot 5)]))
    (sSeq (sFor (.one 8) (iV (eSlot 4)) l1_law)
    (sSeq (sIf (kOr (kVal (eO fNe [(.slot 7), (.val (eCall F_u_law_through [.one (eSlot 4), .one (eSlot 5)]))])) (kVal (eO fNe [(.slot 5), (.val (eO fTuple [(.slot 5)]))]))) (sRet (eC (.bl false))) sNx)
    (sSeq (sSet 9 (eO fTuple [(.val (eComp [6, 10] (.tup [6, 10]) (iEnumM (eSlot 5)) kYes c2_law))]))
    (sSeq (sIf (kNot (kVal (eCall F_u_law_alike [.one (eCall F_done [.one (eSlot 4), .one (eSlot 9)]), .one (eO fTuple [(.val (eCall F_u_law_through [.one (eSlot 4), .one (eSlot 9)]))])]))) (sRet (eC (.bl false))) sNx)
    (sSeq (sSet 11 (eLst []))
    (sSeq (sFor (.one 8) (iV (eSlot 4)) l2_law)
    (sSeq (sIf (kNot (kVal (eCall F_u_law_alike [.one (eCall F_pairs_of [.one (eSlot 4)]), .one (eO fTuple [(.slot 11)])]))) (sRet (eC (.bl false))) sNx)
    (sSeq (sSet 12 (eLst []))
    (sSeq (sFor (.one 13) (iR1 (.val (eCallB F_u_law_take 1 [.one (eC (.int 12))]))) l3_law)
    (sSeq (sSet 15 (eCall F_levelled [.one (eO fTuple [(.slot 12)])]))
    (sSeq (sIf (kNot (kVal (eCall F_u_law_alike [.one (eLst [.one (eSlot 15), .one (eCall F_is_network [.one (eSlot 3), .one (eSlot 15)])]), .one (eLst [.one (eCall F_u_law_levelled [.one (eSlot 12)]), .one (eC (.bl true))])]))) (sRet (eC (.bl false))) sNx)
    (sSeq (sIf (kVal (eO fNe [(.val (eCall F_u_law_through [.one (eSlot 15), .one (eSlot 5)])), (.val (eCall F_u_law_through [.one (eComp [16] (.one 16) (iV (eSlot 12)) kYes c3_law), .one (eSlot 5)]))])) (sRet (eC (.bl false))) sNx)
    (sFor (.one 13) (iR1 (.val (eC (.int 6)))) l4_law))))))))))))))))))
noncomputable def b_law : SM :=
  (sSeq (sSet 1 (eCall F_u_law_bag [.one (eSlot 0)]))
    (sSeq (sFor (.one 2) (iR1 (.val (eC (.int 6)))) l5_law)
    (sRet (eC (.bl true)))))
noncomputable def F_law : List D → Option C := fnP 1 18 b_law
/-! ## states by names -/
structure S_u_law_through where
  v_network : Option C := none
  v_numbers : Option C := none
  v_found : Option C := none
  v_level : Option C := none
  v_i : Option C := none
  v_j : Option C := none
  v_low : Option C := none
  v_high : Option C := none
namespace S_u_law_through
def e (s : S_u_law_through) : Fx.Env := [s.v_network, s.v_numbers, s.v_found, s.v_level, s.v_i, s.v_j, s.v_low, s.v_high]
variable (s : S_u_law_through) (c : Option C)
@[simp] theorem g0 : getC s.e 0 = s.v_network := by unfold e; simp only [getC_s, getC_h]
@[simp] theorem p0 : s.e.set 0 c = ({ s with v_network := c } : S_u_law_through).e := rfl
@[simp] theorem i0 : s.e[0]? = some s.v_network := rfl
@[simp] theorem g1 : getC s.e 1 = s.v_numbers := by unfold e; simp only [getC_s, getC_h]
@[simp] theorem p1 : s.e.set 1 c = ({ s with v_numbers := c } : S_u_law_through).e := rfl
@[simp] theorem i1 : s.e[1]? = some s.v_numbers := rfl
@[simp] theorem g2 : getC s.e 2 = s.v_found := by unfold e; simp only [getC_s, getC_h]
@[simp] theorem p2 : s.e.set 2 c = ({ s with v_found := c } : S_u_law_through).e := rfl
@[simp] theorem i2 : s.e[2]? = some s.v_found := rfl
@[simp] theorem g3 : getC s.e 3 = s.v_level := by unfold e; simp only [getC_s, getC_h]
@[simp] theorem p3 : s.e.set 3 c = ({ s with v_level := c } : S_u_law_through).e := rfl
@[simp] theorem i3 : s.e[3]? = some s.v_level := rfl
@[simp] theorem g4 : getC s.e 4 = s.v_i := by unfold e; simp only [getC_s, getC_h]
@[simp] theorem p4 : s.e.set 4 c = ({ s with v_i := c } : S_u_law_through).e := rfl
@[simp] theorem i4 : s.e[4]? = some s.v_i := rfl
@[simp] theorem g5 : getC s.e 5 = s.v_j := by unfold e; simp only [getC_s, getC_h]
@[simp] theorem p5 : s.e.set 5 c = ({ s with v_j := c } : S_u_law_through).e := rfl
@[simp] theorem i5 : s.e[5]? = some s.v_j := rfl
@[simp] theorem g6 : getC s.e 6 = s.v_low := by unfold e; simp only [getC_s, getC_h]
@[simp] theorem p6 : s.e.set 6 c = ({ s with v_low := c } : S_u_law_through).e := rfl
@[simp] theorem i6 : s.e[6]? = some s.v_low := rfl
@[simp] theorem g7 : getC s.e 7 = s.v_high := by unfold e; simp only [getC_s, getC_h]
@[simp] theorem p7 : s.e.set 7 c = ({ s with v_high := c } : S_u_law_through).e := rfl
@[simp] theorem i7 : s.e[7]? = some s.v_high := rfl
@[simp] theorem len_ : s.e.length = 8 := rfl
@[simp] theorem eta_ : (S_u_law_through.mk s.v_network s.v_numbers s.v_found s.v_level s.v_i s.v_j s.v_low s.v_high) = s := rfl
end S_u_law_through
theorem F_u_law_through_eq (d0 d1 : D) : F_u_law_through [d0, d1] = outP (b_u_law_through ({ v_network := some (.sh d0), v_numbers := some (.sh d1) } : S_u_law_through).e) := fnP_eq (m := b_u_law_through) rfl
structure S_is_integer where
  v_thing : Option C := none
namespace S_is_integer
def e (s : S_is_integer) : Fx.Env := [s.v_thing]
variable (s : S_is_integer) (c : Option C)
@[simp] theorem g0 : getC s.e 0 = s.v_thing := by unfold e; simp only [getC_s, getC_h]
@[simp] theorem p0 : s.e.set 0 c = ({ s with v_thing := c } : S_is_integer).e := rfl
@[simp] theorem i0 : s.e[0]? = some s.v_thing := rfl
@[simp] theorem len_ : s.e.length = 1 := rfl
@[simp] theorem eta_ : (S_is_integer.mk s.v_thing) = s := rfl
end S_is_integer
theorem F_is_integer_eq (d0 : D) : F_is_integer [d0] = outP (b_is_integer ({ v_thing := some (.sh d0) } : S_is_integer).e) := fnP_eq (m := b_is_integer) rfl
structure S_is_within where
  v_thing : Option C := none
  v_least : Option C := none
  v_most : Option C := none
namespace S_is_within
def e (s : S_is_within) : Fx.Env := [s.v_thing, s.v_least, s.v_most]
variable (s : S_is_within) (c : Option C)
@[simp] theorem g0 : getC s.e 0 = s.v_thing := by unfold e; simp only [getC_s, getC_h]
@[simp] theorem p0 : s.e.set 0 c = ({ s with v_thing := c } : S_is_within).e := rfl
@[simp] theorem i0 : s.e[0]? = some s.v_thing := rfl
@[simp] theorem g1 : getC s.e 1 = s.v_least := by unfold e; simp only [getC_s, getC_h]
@[simp] theorem p1 : s.e.set 1 c = ({ s with v_least := c } : S_is_within).e := rfl
@[simp] theorem i1 : s.e[1]? = some s.v_least := rfl
@[simp] theorem g2 : getC s.e 2 = s.v_most := by unfold e; simp only [getC_s, getC_h]
@[simp] theorem p2 : s.e.set 2 c = ({ s with v_most := c } : S_is_within).e := rfl
@[simp] theorem i2 : s.e[2]? = some s.v_most := rfl
@[simp] theorem len_ : s.e.length = 3 := rfl
@[simp] theorem eta_ : (S_is_within.mk s.v_thing s.v_least s.v_most) = s := rfl
end S_is_within
theorem F_is_within_eq (d0 d1 d2 : D) : F_is_within [d0, d1, d2] = outP (b_is_within ({ v_thing := some (.sh d0), v_least := some (.sh d1), v_most := some (.sh d2) } : S_is_within).e) := fnP_eq (m := b_is_within) rfl
structure S_is_pair where
  v_many : Option C := none
  v_thing : Option C := none
namespace S_is_pair
def e (s : S_is_pair) : Fx.Env := [s.v_many, s.v_thing]
variable (s : S_is_pair) (c : Option C)
@[simp] theorem g0 : getC s.e 0 = s.v_many := by unfold e; simp only [getC_s, getC_h]
@[simp] theorem p0 : s.e.set 0 c = ({ s with v_many := c } : S_is_pair).e := rfl
@[simp] theorem i0 : s.e[0]? = some s.v_many := rfl
@[simp] theorem g1 : getC s.e 1 = s.v_thing := by unfold e; simp only [getC_s, getC_h]
@[simp] theorem p1 : s.e.set 1 c = ({ s with v_thing := c } : S_is_pair).e := rfl
@[simp] theorem i1 : s.e[1]? = some s.v_thing := rfl
@[simp] theorem len_ : s.e.length = 2 := rfl
@[simp] theorem eta_ : (S_is_pair.mk s.v_many s.v_thing) = s := rfl
end S_is_pair
theorem F_is_pair_eq (d0 d1 : D) : F_is_pair [d0, d1] = outP (b_is_pair ({ v_many := some (.sh d0), v_thing := some (.sh d1) } : S_is_pair).e) := fnP_eq (m := b_is_pair) rfl
structure S_is_level where
  v_many : Option C := none
  v_thing : Option C := none
  v_pair : Option C := none
  v_places : Option C := none
  v_place : Option C := none
namespace S_is_level
def e (s : S_is_level) : Fx.Env := [s.v_many, s.v_thing, s.v_pair, s.v_places, s.v_place]
variable (s : S_is_level) (c : Option C)
@[simp] theorem g0 : getC s.e 0 = s.v_many := by unfold e; simp only [getC_s, getC_h]
@[simp] theorem p0 : s.e.set 0 c = ({ s with v_many := c } : S_is_level).e := rfl
@[simp] theorem i0 : s.e[0]? = some s.v_many := rfl
@[simp] theorem g1 : getC s.e 1 = s.v_thing := by unfold e; simp only [getC_s, getC_h]
@[simp] theorem p1 : s.e.set 1 c = ({ s with v_thing := c } : S_is_level).e := rfl
@[simp] theorem i1 : s.e[1]? = some s.v_thing := rfl
@[simp] theorem g2 : getC s.e 2 = s.v_pair := by unfold e; simp only [getC_s, getC_h]
@[simp] theorem p2 : s.e.set 2 c = ({ s with v_pair := c } : S_is_level).e := rfl
@[simp] theorem i2 : s.e[2]? = some s.v_pair := rfl
@[simp] theorem g3 : getC s.e 3 = s.v_places := by unfold e; simp only [getC_s, getC_h]
@[simp] theorem p3 : s.e.set 3 c = ({ s with v_places := c } : S_is_level).e := rfl
@[simp] theorem i3 : s.e[3]? = some s.v_places := rfl
@[simp] theorem g4 : getC s.e 4 = s.v_place := by unfold e; simp only [getC_s, getC_h]
@[simp] theorem p4 : s.e.set 4 c = ({ s with v_place := c } : S_is_level).e := rfl
@[simp] theorem i4 : s.e[4]? = some s.v_place := rfl
@[simp] theorem len_ : s.e.length = 5 := rfl
@[simp] theorem eta_ : (S_is_level.mk s.v_many s.v_thing s.v_pair s.v_places s.v_place) = s := rfl
end S_is_level
theorem F_is_level_eq (d0 d1 : D) : F_is_level [d0, d1] = outP (b_is_level ({ v_many := some (.sh d0), v_thing := some (.sh d1) } : S_is_level).e) := fnP_eq (m := b_is_level) rfl
structure S_is_network where
  v_many : Option C := none
  v_thing : Option C := none
  v_level : Option C := none
namespace S_is_network
def e (s : S_is_network) : Fx.Env := [s.v_many, s.v_thing, s.v_level]
variable (s : S_is_network) (c : Option C)
@[simp] theorem g0 : getC s.e 0 = s.v_many := by unfold e; simp only [getC_s, getC_h]
@[simp] theorem p0 : s.e.set 0 c = ({ s with v_many := c } : S_is_network).e := rfl
@[simp] theorem i0 : s.e[0]? = some s.v_many := rfl
@[simp] theorem g1 : getC s.e 1 = s.v_thing := by unfold e; simp only [getC_s, getC_h]
@[simp] theorem p1 : s.e.set 1 c = ({ s with v_thing := c } : S_is_network).e := rfl
@[simp] theorem i1 : s.e[1]? = some s.v_thing := rfl
@[simp] theorem g2 : getC s.e 2 = s.v_level := by unfold e; simp only [getC_s, getC_h]
@[simp] theorem p2 : s.e.set 2 c = ({ s with v_level := c } : S_is_network).e := rfl
@[simp] theorem i2 : s.e[2]? = some s.v_level := rfl
@[simp] theorem len_ : s.e.length = 3 := rfl
@[simp] theorem eta_ : (S_is_network.mk s.v_many s.v_thing s.v_level) = s := rfl
end S_is_network
theorem F_is_network_eq (d0 d1 : D) : F_is_network [d0, d1] = outP (b_is_network ({ v_many := some (.sh d0), v_thing := some (.sh d1) } : S_is_network).e) := fnP_eq (m := b_is_network) rfl
structure S_u_law_is_int where
  v_thing : Option C := none
namespace S_u_law_is_int
def e (s : S_u_law_is_int) : Fx.Env := [s.v_thing]
variable (s : S_u_law_is_int) (c : Option C)
@[simp] theorem g0 : getC s.e 0 = s.v_thing := by unfold e; simp only [getC_s, getC_h]
@[simp] theorem p0 : s.e.set 0 c = ({ s with v_thing := c } : S_u_law_is_int).e := rfl
@[simp] theorem i0 : s.e[0]? = some s.v_thing := rfl
@[simp] theorem len_ : s.e.length = 1 := rfl
@[simp] theorem eta_ : (S_u_law_is_int.mk s.v_thing) = s := rfl
end S_u_law_is_int
theorem F_u_law_is_int_eq (d0 : D) : F_u_law_is_int [d0] = outP (b_u_law_is_int ({ v_thing := some (.sh d0) } : S_u_law_is_int).e) := fnP_eq (m := b_u_law_is_int) rfl
structure S_u_law_bent where
  v_bag : Option C := none
  v_thing : Option C := none
  v_depth : Option C := none
  v_way : Option C := none
  v_at : Option C := none
namespace S_u_law_bent
def e (s : S_u_law_bent) : Fx.Env := [s.v_bag, s.v_thing, s.v_depth, s.v_way, s.v_at]
variable (s : S_u_law_bent) (c : Option C)
@[simp] theorem g0 : getC s.e 0 = s.v_bag := by unfold e; simp only [getC_s, getC_h]
@[simp] theorem p0 : s.e.set 0 c = ({ s with v_bag := c } : S_u_law_bent).e := rfl
@[simp] theorem i0 : s.e[0]? = some s.v_bag := rfl
@[simp] theorem g1 : getC s.e 1 = s.v_thing := by unfold e; simp only [getC_s, getC_h]
@[simp] theorem p1 : s.e.set 1 c = ({ s with v_thing := c } : S_u_law_bent).e := rfl
@[simp] theorem i1 : s.e[1]? = some s.v_thing := rfl
@[simp] theorem g2 : getC s.e 2 = s.v_depth := by unfold e; simp only [getC_s, getC_h]
@[simp] theorem p2 : s.e.set 2 c = ({ s with v_depth := c } : S_u_law_bent).e := rfl
@[simp] theorem i2 : s.e[2]? = some s.v_depth := rfl
@[simp] theorem g3 : getC s.e 3 = s.v_way := by unfold e; simp only [getC_s, getC_h]
@[simp] theorem p3 : s.e.set 3 c = ({ s with v_way := c } : S_u_law_bent).e := rfl
@[simp] theorem i3 : s.e[3]? = some s.v_way := rfl
@[simp] theorem g4 : getC s.e 4 = s.v_at := by unfold e; simp only [getC_s, getC_h]
@[simp] theorem p4 : s.e.set 4 c = ({ s with v_at := c } : S_u_law_bent).e := rfl
@[simp] theorem i4 : s.e[4]? = some s.v_at := rfl
@[simp] theorem len_ : s.e.length = 5 := rfl
@[simp] theorem eta_ : (S_u_law_bent.mk s.v_bag s.v_thing s.v_depth s.v_way s.v_at) = s := rfl
@[simp] theorem get0_ : get0 s.e = s.v_bag := by unfold e get0; cases s.v_bag <;> rfl
end S_u_law_bent
theorem F_u_law_bent_eq (j : Nat) (c0 : C) (d0 d1 : D) : F_u_law_bent (j + 1) c0 [d0, d1] = outB (b_u_law_bent (F_u_law_bent j) ({ v_bag := some c0, v_thing := some (.sh d0), v_depth := some (.sh d1) } : S_u_law_bent).e) := fnB_eq (m := b_u_law_bent (F_u_law_bent j)) rfl
structure S_u_law_is_in where
  v_thing : Option C := none
  v_least : Option C := none
  v_most : Option C := none
namespace S_u_law_is_in
def e (s : S_u_law_is_in) : Fx.Env := [s.v_thing, s.v_least, s.v_most]
variable (s : S_u_law_is_in) (c : Option C)
@[simp] theorem g0 : getC s.e 0 = s.v_thing := by unfold e; simp only [getC_s, getC_h]
@[simp] theorem p0 : s.e.set 0 c = ({ s with v_thing := c } : S_u_law_is_in).e := rfl
@[simp] theorem i0 : s.e[0]? = some s.v_thing := rfl
@[simp] theorem g1 : getC s.e 1 = s.v_least := by unfold e; simp only [getC_s, getC_h]
@[simp] theorem p1 : s.e.set 1 c = ({ s with v_least := c } : S_u_law_is_in).e := rfl
@[simp] theorem i1 : s.e[1]? = some s.v_least := rfl
@[simp] theorem g2 : getC s.e 2 = s.v_most := by unfold e; simp only [getC_s, getC_h]
@[simp] theorem p2 : s.e.set 2 c = ({ s with v_most := c } : S_u_law_is_in).e := rfl
@[simp] theorem i2 : s.e[2]? = some s.v_most := rfl
@[simp] theorem len_ : s.e.length = 3 := rfl
@[simp] theorem eta_ : (S_u_law_is_in.mk s.v_thing s.v_least s.v_most) = s := rfl
end S_u_law_is_in
theorem F_u_law_is_in_eq (d0 d1 d2 : D) : F_u_law_is_in [d0, d1, d2] = outP (b_u_law_is_in ({ v_thing := some (.sh d0), v_least := some (.sh d1), v_most := some (.sh d2) } : S_u_law_is_in).e) := fnP_eq (m := b_u_law_is_in) rfl
structure S_u_law_is_network where
  v_many : Option C := none
  v_thing : Option C := none
  v_level : Option C := none
  v_places : Option C := none
  v_pair : Option C := none
  v_i : Option C := none
  v_j : Option C := none
namespace S_u_law_is_network
def e (s : S_u_law_is_network) : Fx.Env := [s.v_many, s.v_thing, s.v_level, s.v_places, s.v_pair, s.v_i, s.v_j]
variable (s : S_u_law_is_network) (c : Option C)
@[simp] theorem g0 : getC s.e 0 = s.v_many := by unfold e; simp only [getC_s, getC_h]
@[simp] theorem p0 : s.e.set 0 c = ({ s with v_many := c } : S_u_law_is_network).e := rfl
@[simp] theorem i0 : s.e[0]? = some s.v_many := rfl
@[simp] theorem g1 : getC s.e 1 = s.v_thing := by unfold e; simp only [getC_s, getC_h]
@[simp] theorem p1 : s.e.set 1 c = ({ s with v_thing := c } : S_u_law_is_network).e := rfl
@[simp] theorem i1 : s.e[1]? = some s.v_thing := rfl
@[simp] theorem g2 : getC s.e 2 = s.v_level := by unfold e; simp only [getC_s, getC_h]
@[simp] theorem p2 : s.e.set 2 c = ({ s with v_level := c } : S_u_law_is_network).e := rfl
@[simp] theorem i2 : s.e[2]? = some s.v_level := rfl
@[simp] theorem g3 : getC s.e 3 = s.v_places := by unfold e; simp only [getC_s, getC_h]
@[simp] theorem p3 : s.e.set 3 c = ({ s with v_places := c } : S_u_law_is_network).e := rfl
@[simp] theorem i3 : s.e[3]? = some s.v_places := rfl
@[simp] theorem g4 : getC s.e 4 = s.v_pair := by unfold e; simp only [getC_s, getC_h]
@[simp] theorem p4 : s.e.set 4 c = ({ s with v_pair := c } : S_u_law_is_network).e := rfl
@[simp] theorem i4 : s.e[4]? = some s.v_pair := rfl
@[simp] theorem g5 : getC s.e 5 = s.v_i := by unfold e; simp only [getC_s, getC_h]
@[simp] theorem p5 : s.e.set 5 c = ({ s with v_i := c } : S_u_law_is_network).e := rfl
@[simp] theorem i5 : s.e[5]? = some s.v_i := rfl
@[simp] theorem g6 : getC s.e 6 = s.v_j := by unfold e; simp only [getC_s, getC_h]
@[simp] theorem p6 : s.e.set 6 c = ({ s with v_j := c } : S_u_law_is_network).e := rfl
@[simp] theorem i6 : s.e[6]? = some s.v_j := rfl
@[simp] theorem len_ : s.e.length = 7 := rfl
@[simp] theorem eta_ : (S_u_law_is_network.mk s.v_many s.v_thing s.v_level s.v_places s.v_pair s.v_i s.v_j) = s := rfl
end S_u_law_is_network
theorem F_u_law_is_network_eq (d0 d1 : D) : F_u_law_is_network [d0, d1] = outP (b_u_law_is_network ({ v_many := some (.sh d0), v_thing := some (.sh d1) } : S_u_law_is_network).e) := fnP_eq (m := b_u_law_is_network) rfl
structure S_law where
  v_script : Option C := none
  v_bag : Option C := none
  v_turn : Option C := none
  v_many : Option C := none
  v_network : Option C := none
  v_numbers : Option C := none
  v_place : Option C := none
  v_here : Option C := none
  v_level : Option C := none
  v_rows : Option C := none
  v_number : Option C := none
  v_pairs : Option C := none
  v_drawn : Option C := none
  v_again : Option C := none
  v_some : Option C := none
  v_made : Option C := none
  v_pair : Option C := none
  v_thing : Option C := none
namespace S_law
def e (s : S_law) : Fx.Env := [s.v_script, s.v_bag, s.v_turn, s.v_many, s.v_network, s.v_numbers, s.v_place, s.v_here, s.v_level, s.v_rows, s.v_number, s.v_pairs, s.v_drawn, s.v_again, s.v_some, s.v_made, s.v_pair, s.v_thing]
variable (s : S_law) (c : Option C)
@[simp] theorem g0 : getC s.e 0 = s.v_script := by unfold e; simp only [getC_s, getC_h]
@[simp] theorem p0 : s.e.set 0 c = ({ s with v_script := c } : S_law).e := rfl
@[simp] theorem i0 : s.e[0]? = some s.v_script := rfl
@[simp] theorem g1 : getC s.e 1 = s.v_bag := by unfold e; simp only [getC_s, getC_h]
@[simp] theorem p1 : s.e.set 1 c = ({ s with v_bag := c } : S_law).e := rfl
@[simp] theorem i1 : s.e[1]? = some s.v_bag := rfl
@[simp] theorem g2 : getC s.e 2 = s.v_turn := by unfold e; simp only [getC_s, getC_h]
@[simp] theorem p2 : s.e.set 2 c = ({ s with v_turn := c } : S_law).e := rfl
@[simp] theorem i2 : s.e[2]? = some s.v_turn := rfl
@[simp] theorem g3 : getC s.e 3 = s.v_many := by unfold e; simp only [getC_s, getC_h]
@[simp] theorem p3 : s.e.set 3 c = ({ s with v_many := c } : S_law).e := rfl
@[simp] theorem i3 : s.e[3]? = some s.v_many := rfl
@[simp] theorem g4 : getC s.e 4 = s.v_network := by unfold e; simp only [getC_s, getC_h]
@[simp] theorem p4 : s.e.set 4 c = ({ s with v_network := c } : S_law).e := rfl
@[simp] theorem i4 : s.e[4]? = some s.v_network := rfl
@[simp] theorem g5 : getC s.e 5 = s.v_numbers := by unfold e; simp only [getC_s, getC_h]
@[simp] theorem p5 : s.e.set 5 c = ({ s with v_numbers := c } : S_law).e := rfl
@[simp] theorem i5 : s.e[5]? = some s.v_numbers := rfl
@[simp] theorem g6 : getC s.e 6 = s.v_place := by unfold e; simp only [getC_s, getC_h]
@[simp] theorem p6 : s.e.set 6 c = ({ s with v_place := c } : S_law).e := rfl
@[simp] theorem i6 : s.e[6]? = some s.v_place := rfl
@[simp] theorem g7 : getC s.e 7 = s.v_here := by unfold e; simp only [getC_s, getC_h]
@[simp] theorem p7 : s.e.set 7 c = ({ s with v_here := c } : S_law).e := rfl
@[simp] theorem i7 : s.e[7]? = some s.v_here := rfl
@[simp] theorem g8 : getC s.e 8 = s.v_level := by unfold e; simp only [getC_s, getC_h]
@[simp] theorem p8 : s.e.set 8 c = ({ s with v_level := c } : S_law).e := rfl
@[simp] theorem i8 : s.e[8]? = some s.v_level := rfl
@[simp] theorem g9 : getC s.e 9 = s.v_rows := by unfold e; simp only [getC_s, getC_h]
@[simp] theorem p9 : s.e.set 9 c = ({ s with v_rows := c } : S_law).e := rfl
@[simp] theorem i9 : s.e[9]? = some s.v_rows := rfl
@[simp] theorem g10 : getC s.e 10 = s.v_number := by unfold e; simp only [getC_s, getC_h]
@[simp] theorem p10 : s.e.set 10 c = ({ s with v_number := c } : S_law).e := rfl
@[simp] theorem i10 : s.e[10]? = some s.v_number := rfl
@[simp] theorem g11 : getC s.e 11 = s.v_pairs := by unfold e; simp only [getC_s, getC_h]
@[simp] theorem p11 : s.e.set 11 c = ({ s with v_pairs := c } : S_law).e := rfl
@[simp] theorem i11 : s.e[11]? = some s.v_pairs := rfl
@[simp] theorem g12 : getC s.e 12 = s.v_drawn := by unfold e; simp only [getC_s, getC_h]
@[simp] theorem p12 : s.e.set 12 c = ({ s with v_drawn := c } : S_law).e := rfl
@[simp] theorem i12 : s.e[12]? = some s.v_drawn := rfl
@[simp] theorem g13 : getC s.e 13 = s.v_again := by unfold e; simp only [getC_s, getC_h]
@[simp] theorem p13 : s.e.set 13 c = ({ s with v_again := c } : S_law).e := rfl
@[simp] theorem i13 : s.e[13]? = some s.v_again := rfl
@[simp] theorem g14 : getC s.e 14 = s.v_some := by unfold e; simp only [getC_s, getC_h]
@[simp] theorem p14 : s.e.set 14 c = ({ s with v_some := c } : S_law).e := rfl
@[simp] theorem i14 : s.e[14]? = some s.v_some := rfl
@[simp] theorem g15 : getC s.e 15 = s.v_made := by unfold e; simp only [getC_s, getC_h]
@[simp] theorem p15 : s.e.set 15 c = ({ s with v_made := c } : S_law).e := rfl
@[simp] theorem i15 : s.e[15]? = some s.v_made := rfl
@[simp] theorem g16 : getC s.e 16 = s.v_pair := by unfold e; simp only [getC_s, getC_h]
@[simp] theorem p16 : s.e.set 16 c = ({ s with v_pair := c } : S_law).e := rfl
@[simp] theorem i16 : s.e[16]? = some s.v_pair := rfl
@[simp] theorem g17 : getC s.e 17 = s.v_thing := by unfold e; simp only [getC_s, getC_h]
@[simp] theorem p17 : s.e.set 17 c = ({ s with v_thing := c } : S_law).e := rfl
@[simp] theorem i17 : s.e[17]? = some s.v_thing := rfl
@[simp] theorem len_ : s.e.length = 18 := rfl
@[simp] theorem eta_ : (S_law.mk s.v_script s.v_bag s.v_turn s.v_many s.v_network s.v_numbers s.v_place s.v_here s.v_level s.v_rows s.v_number s.v_pairs s.v_drawn s.v_again s.v_some s.v_made s.v_pair s.v_thing) = s := rfl
end S_law
theorem F_law_eq (d0 : D) : F_law [d0] = outP (b_law ({ v_script := some (.sh d0) } : S_law).e) := fnP_eq (m := b_law) rfl
end K20
set_option Elab.async false
set_option linter.all false
set_option maxRecDepth 100000
set_option maxHeartbeats 4000000
namespace K20
open PySem L2 Fx

open Fx.L
open Fx.Nt
open Fx.Nu
def top (i : Nat) : Stmt := PySem.Challenge.pw_nolooking_k20_networks_level_by_level.main.body.getD i (.Pass ⟨0, 0, 0, 0⟩)
abbrev d_u_law_bag : Stmt := top 14
def N_u_law_bag : List Str := ["script", "cell"]
theorem sc_u_law_bag : FnScope N_u_law_bag ["script"] (defScope d_u_law_bag) := ⟨rfl, rfl, rfl, by decide +kernel, rfl, by decide +kernel, by decide +kernel⟩
def sq_u_law_bag_1 : Scope := nSc (nArg 3 (nV (nSt 0 (defBody d_u_law_bag))))
abbrev d_u_law_take : Stmt := top 15
def N_u_law_take : List Str := ["bag", "many", "cell", "stirred", "value", "begin", "second"]
theorem sc_u_law_take : FnScope N_u_law_take ["bag", "many"] (defScope d_u_law_take) := ⟨rfl, rfl, rfl, by decide +kernel, rfl, by decide +kernel, by decide +kernel⟩
abbrev d_u_law_mixed : Stmt := top 17
def N_u_law_mixed : List Str := ["bag", "things", "left", "found"]
theorem sc_u_law_mixed : FnScope N_u_law_mixed ["bag", "things"] (defScope d_u_law_mixed) := ⟨rfl, rfl, rfl, by decide +kernel, rfl, by decide +kernel, by decide +kernel⟩
abbrev d_u_law_network : Stmt := top 24
def N_u_law_network : List Str := ["bag", "many", "most", "found", "turn", "places", "level", "at"]
theorem sc_u_law_network : FnScope N_u_law_network ["bag", "many", "most"] (defScope d_u_law_network) := ⟨rfl, rfl, rfl, by decide +kernel, rfl, by decide +kernel, by decide +kernel⟩
abbrev d_u_law_alike : Stmt := top 18
def N_u_law_alike : List Str := ["found", "due", "pairs", "at", "one", "other"]
theorem sc_u_law_alike : FnScope N_u_law_alike ["found", "due"] (defScope d_u_law_alike) := ⟨rfl, rfl, rfl, by decide +kernel, rfl, by decide +kernel, by decide +kernel⟩
abbrev d_u_law_through : Stmt := top 22
def N_u_law_through : List Str := ["network", "numbers", "found", "level", "i", "j", "low", "high"]
theorem sc_u_law_through : FnScope N_u_law_through ["network", "numbers"] (defScope d_u_law_through) := ⟨rfl, rfl, rfl, by decide +kernel, rfl, by decide +kernel, by decide +kernel⟩
abbrev d_level_done : Stmt := top 9
def N_level_done : List Str := ["level", "numbers", "found", "one", "other"]
theorem sc_level_done : FnScope N_level_done ["level", "numbers"] (defScope d_level_done) := ⟨rfl, rfl, rfl, by decide +kernel, rfl, by decide +kernel, by decide +kernel⟩
abbrev d_done : Stmt := top 10
def N_done : List Str := ["network", "numbers", "found", "level"]
theorem sc_done : FnScope N_done ["network", "numbers"] (defScope d_done) := ⟨rfl, rfl, rfl, by decide +kernel, rfl, by decide +kernel, by decide +kernel⟩
abbrev d_is_integer : Stmt := top 1
def N_is_integer : List Str := ["thing"]
theorem sc_is_integer : FnScope N_is_integer ["thing"] (defScope d_is_integer) := ⟨rfl, rfl, rfl, by decide +kernel, rfl, by decide +kernel, by decide +kernel⟩
abbrev d_is_within : Stmt := top 2
def N_is_within : List Str := ["thing", "least", "most"]
theorem sc_is_within : FnScope N_is_within ["thing", "least", "most"] (defScope d_is_within) := ⟨rfl, rfl, rfl, by decide +kernel, rfl, by decide +kernel, by decide +kernel⟩
abbrev d_is_pair : Stmt := top 6
def N_is_pair : List Str := ["many", "thing"]
theorem sc_is_pair : FnScope N_is_pair ["many", "thing"] (defScope d_is_pair) := ⟨rfl, rfl, rfl, by decide +kernel, rfl, by decide +kernel, by decide +kernel⟩
abbrev d_is_level : Stmt := top 7
def N_is_level : List Str := ["many", "thing", "pair", "places", "place"]
theorem sc_is_level : FnScope N_is_level ["many", "thing"] (defScope d_is_level) := ⟨rfl, rfl, rfl, by decide +kernel, rfl, by decide +kernel, by decide +kernel⟩
def sq_is_level_1 : Scope := nSc (nArg 0 (nA (nArg 1 (nV (nSt 0 (defBody d_is_level))))))
def sq_is_level_2 : Scope := nSc (nV (nSt 1 (defBody d_is_level)))
abbrev d_is_network : Stmt := top 8
def N_is_network : List Str := ["many", "thing", "level"]
theorem sc_is_network : FnScope N_is_network ["many", "thing"] (defScope d_is_network) := ⟨rfl, rfl, rfl, by decide +kernel, rfl, by decide +kernel, by decide +kernel⟩
def sq_is_network_1 : Scope := nSc (nArg 0 (nV (nSt 1 (defBody d_is_network))))
abbrev d_pairs_of : Stmt := top 11
def N_pairs_of : List Str := ["network", "level", "pair"]
theorem sc_pairs_of : FnScope N_pairs_of ["network"] (defScope d_pairs_of) := ⟨rfl, rfl, rfl, by decide +kernel, rfl, by decide +kernel, by decide +kernel⟩
def sq_pairs_of_1 : Scope := nSc (nArg 0 (nV (nSt 0 (defBody d_pairs_of))))
abbrev d_levelled : Stmt := top 12
def N_levelled : List Str := ["pairs", "free", "levels", "one", "other", "at", "level"]
theorem sc_levelled : FnScope N_levelled ["pairs"] (defScope d_levelled) := ⟨rfl, rfl, rfl, by decide +kernel, rfl, by decide +kernel, by decide +kernel⟩
def sq_levelled_1 : Scope := nSc (nArg 0 (nV (nSt 2 (defBody d_levelled))))
abbrev d_u_law_levelled : Stmt := top 23
def N_u_law_levelled : List Str := ["pairs", "levels", "last", "i", "j", "at", "level"]
theorem sc_u_law_levelled : FnScope N_u_law_levelled ["pairs"] (defScope d_u_law_levelled) := ⟨rfl, rfl, rfl, by decide +kernel, rfl, by decide +kernel, by decide +kernel⟩
def sq_u_law_levelled_1 : Scope := nSc (nArg 0 (nV (nSt 2 (defBody d_u_law_levelled))))
abbrev d_u_law_is_int : Stmt := top 19
def N_u_law_is_int : List Str := ["thing"]
theorem sc_u_law_is_int : FnScope N_u_law_is_int ["thing"] (defScope d_u_law_is_int) := ⟨rfl, rfl, rfl, by decide +kernel, rfl, by decide +kernel, by decide +kernel⟩
abbrev d_u_law_some : Stmt := top 16
def N_u_law_some : List Str := ["bag", "things"]
theorem sc_u_law_some : FnScope N_u_law_some ["bag", "things"] (defScope d_u_law_some) := ⟨rfl, rfl, rfl, by decide +kernel, rfl, by decide +kernel, by decide +kernel⟩
abbrev d_u_law_bent : Stmt := top 20
def N_u_law_bent : List Str := ["bag", "thing", "depth", "way", "at"]
theorem sc_u_law_bent : FnScope N_u_law_bent ["bag", "thing", "depth"] (defScope d_u_law_bent) := ⟨rfl, rfl, rfl, by decide +kernel, rfl, by decide +kernel, by decide +kernel⟩
abbrev d_u_law_is_in : Stmt := top 21
def N_u_law_is_in : List Str := ["thing", "least", "most"]
theorem sc_u_law_is_in : FnScope N_u_law_is_in ["thing", "least", "most"] (defScope d_u_law_is_in) := ⟨rfl, rfl, rfl, by decide +kernel, rfl, by decide +kernel, by decide +kernel⟩
abbrev d_u_law_is_network : Stmt := top 25
def N_u_law_is_network : List Str := ["many", "thing", "level", "places", "pair", "i", "j"]
theorem sc_u_law_is_network : FnScope N_u_law_is_network ["many", "thing"] (defScope d_u_law_is_network) := ⟨rfl, rfl, rfl, by decide +kernel, rfl, by decide +kernel, by decide +kernel⟩
def sq_u_law_is_network_1 : Scope := nSc (nA (nArg 1 (nV (nSt 3 (nBody (nSt 1 (defBody d_u_law_is_network)))))))
abbrev d_law : Stmt := top 26
def N_law : List Str := ["script", "bag", "turn", "many", "network", "numbers", "place", "here", "level", "rows", "number", "pairs", "drawn", "again", "some", "made", "pair", "thing"]
theorem sc_law : FnScope N_law ["script"] (defScope d_law) := ⟨rfl, rfl, rfl, by decide +kernel, rfl, by decide +kernel, by decide +kernel⟩
def sq_law_1 : Scope := nSc (nArg 0 (nV (nSt 2 (nBody (nSt 1 (defBody d_law))))))
def sq_law_2 : Scope := nSc (nArg 0 (nV (nSt 7 (nBody (nSt 1 (defBody d_law))))))
def sq_law_3 : Scope := nSc (nArg 0 (nArg 0 (nV (nSt 16 (nBody (nSt 1 (defBody d_law)))))))
/-! ## what the top has written -/
structure Ad where
  a_u_law_bag : Addr
  f_u_law_bag : FuncData
  a_u_law_take : Addr
  f_u_law_take : FuncData
  a_u_law_mixed : Addr
  f_u_law_mixed : FuncData
  a_u_law_network : Addr
  f_u_law_network : FuncData
  a_u_law_alike : Addr
  f_u_law_alike : FuncData
  a_u_law_through : Addr
  f_u_law_through : FuncData
  a_level_done : Addr
  f_level_done : FuncData
  a_done : Addr
  f_done : FuncData
  a_is_integer : Addr
  f_is_integer : FuncData
  a_is_within : Addr
  f_is_within : FuncData
  a_is_pair : Addr
  f_is_pair : FuncData
  a_is_level : Addr
  f_is_level : FuncData
  a_is_network : Addr
  f_is_network : FuncData
  a_pairs_of : Addr
  f_pairs_of : FuncData
  a_levelled : Addr
  f_levelled : FuncData
  a_u_law_levelled : Addr
  f_u_law_levelled : FuncData
  a_u_law_is_int : Addr
  f_u_law_is_int : FuncData
  a_u_law_some : Addr
  f_u_law_some : FuncData
  a_u_law_bent : Addr
  f_u_law_bent : FuncData
  a_u_law_is_in : Addr
  f_u_law_is_in : FuncData
  a_u_law_is_network : Addr
  f_u_law_is_network : FuncData
  a_law : Addr
  f_law : FuncData

structure Txt (w : World) (K : PySem.W.Frag) (mg : Str → Option Value) (a : Ad) : Prop where
  k_u_law_bag : PySem.W.keepIn K (.ref a.a_u_law_bag) = true
  F_u_law_bag : Fun K "_law_bag" "_law_bag" d_u_law_bag a.a_u_law_bag a.f_u_law_bag
  b_u_law_bag : Binds K a.f_u_law_bag ["script"] []
  k_u_law_take : PySem.W.keepIn K (.ref a.a_u_law_take) = true
  F_u_law_take : Fun K "_law_take" "_law_take" d_u_law_take a.a_u_law_take a.f_u_law_take
  b_u_law_take : Binds K a.f_u_law_take ["bag", "many"] []
  k_u_law_mixed : PySem.W.keepIn K (.ref a.a_u_law_mixed) = true
  F_u_law_mixed : Fun K "_law_mixed" "_law_mixed" d_u_law_mixed a.a_u_law_mixed a.f_u_law_mixed
  b_u_law_mixed : Binds K a.f_u_law_mixed ["bag", "things"] []
  k_u_law_network : PySem.W.keepIn K (.ref a.a_u_law_network) = true
  F_u_law_network : Fun K "_law_network" "_law_network" d_u_law_network a.a_u_law_network a.f_u_law_network
  b_u_law_network : Binds K a.f_u_law_network ["bag", "many", "most"] []
  k_u_law_alike : PySem.W.keepIn K (.ref a.a_u_law_alike) = true
  F_u_law_alike : Fun K "_law_alike" "_law_alike" d_u_law_alike a.a_u_law_alike a.f_u_law_alike
  b_u_law_alike : Binds K a.f_u_law_alike ["found", "due"] []
  k_u_law_through : PySem.W.keepIn K (.ref a.a_u_law_through) = true
  F_u_law_through : Fun K "_law_through" "_law_through" d_u_law_through a.a_u_law_through a.f_u_law_through
  b_u_law_through : Binds K a.f_u_law_through ["network", "numbers"] []
  k_level_done : PySem.W.keepIn K (.ref a.a_level_done) = true
  F_level_done : Fun K "level_done" "level_done" d_level_done a.a_level_done a.f_level_done
  b_level_done : Binds K a.f_level_done ["level", "numbers"] []
  k_done : PySem.W.keepIn K (.ref a.a_done) = true
  F_done : Fun K "done" "done" d_done a.a_done a.f_done
  b_done : Binds K a.f_done ["network", "numbers"] []
  k_is_integer : PySem.W.keepIn K (.ref a.a_is_integer) = true
  F_is_integer : Fun K "is_integer" "is_integer" d_is_integer a.a_is_integer a.f_is_integer
  b_is_integer : Binds K a.f_is_integer ["thing"] []
  k_is_within : PySem.W.keepIn K (.ref a.a_is_within) = true
  F_is_within : Fun K "is_within" "is_within" d_is_within a.a_is_within a.f_is_within
  b_is_within : Binds K a.f_is_within ["thing", "least", "most"] []
  k_is_pair : PySem.W.keepIn K (.ref a.a_is_pair) = true
  F_is_pair : Fun K "is_pair" "is_pair" d_is_pair a.a_is_pair a.f_is_pair
  b_is_pair : Binds K a.f_is_pair ["many", "thing"] []
  k_is_level : PySem.W.keepIn K (.ref a.a_is_level) = true
  F_is_level : Fun K "is_level" "is_level" d_is_level a.a_is_level a.f_is_level
  b_is_level : Binds K a.f_is_level ["many", "thing"] []
  k_is_network : PySem.W.keepIn K (.ref a.a_is_network) = true
  F_is_network : Fun K "is_network" "is_network" d_is_network a.a_is_network a.f_is_network
  b_is_network : Binds K a.f_is_network ["many", "thing"] []
  k_pairs_of : PySem.W.keepIn K (.ref a.a_pairs_of) = true
  F_pairs_of : Fun K "pairs_of" "pairs_of" d_pairs_of a.a_pairs_of a.f_pairs_of
  b_pairs_of : Binds K a.f_pairs_of ["network"] []
  k_levelled : PySem.W.keepIn K (.ref a.a_levelled) = true
  F_levelled : Fun K "levelled" "levelled" d_levelled a.a_levelled a.f_levelled
  b_levelled : Binds K a.f_levelled ["pairs"] []
  k_u_law_levelled : PySem.W.keepIn K (.ref a.a_u_law_levelled) = true
  F_u_law_levelled : Fun K "_law_levelled" "_law_levelled" d_u_law_levelled a.a_u_law_levelled a.f_u_law_levelled
  b_u_law_levelled : Binds K a.f_u_law_levelled ["pairs"] []
  k_u_law_is_int : PySem.W.keepIn K (.ref a.a_u_law_is_int) = true
  F_u_law_is_int : Fun K "_law_is_int" "_law_is_int" d_u_law_is_int a.a_u_law_is_int a.f_u_law_is_int
  b_u_law_is_int : Binds K a.f_u_law_is_int ["thing"] []
  k_u_law_some : PySem.W.keepIn K (.ref a.a_u_law_some) = true
  F_u_law_some : Fun K "_law_some" "_law_some" d_u_law_some a.a_u_law_some a.f_u_law_some
  b_u_law_some : Binds K a.f_u_law_some ["bag", "things"] []
  k_u_law_bent : PySem.W.keepIn K (.ref a.a_u_law_bent) = true
  F_u_law_bent : Fun K "_law_bent" "_law_bent" d_u_law_bent a.a_u_law_bent a.f_u_law_bent
  b_u_law_bent : Binds K a.f_u_law_bent ["bag", "thing", "depth"] []
  k_u_law_is_in : PySem.W.keepIn K (.ref a.a_u_law_is_in) = true
  F_u_law_is_in : Fun K "_law_is_in" "_law_is_in" d_u_law_is_in a.a_u_law_is_in a.f_u_law_is_in
  b_u_law_is_in : Binds K a.f_u_law_is_in ["thing", "least", "most"] []
  k_u_law_is_network : PySem.W.keepIn K (.ref a.a_u_law_is_network) = true
  F_u_law_is_network : Fun K "_law_is_network" "_law_is_network" d_u_law_is_network a.a_u_law_is_network a.f_u_law_is_network
  b_u_law_is_network : Binds K a.f_u_law_is_network ["many", "thing"] []
  k_law : PySem.W.keepIn K (.ref a.a_law) = true
  F_law : Fun K "law" "law" d_law a.a_law a.f_law
  b_law : Binds K a.f_law ["script"] []
  m_u_law_alike : mg "_law_alike" = some (.ref a.a_u_law_alike)
  m_u_law_bag : mg "_law_bag" = some (.ref a.a_u_law_bag)
  m_u_law_bent : mg "_law_bent" = some (.ref a.a_u_law_bent)
  m_u_law_is_in : mg "_law_is_in" = some (.ref a.a_u_law_is_in)
  m_u_law_is_int : mg "_law_is_int" = some (.ref a.a_u_law_is_int)
  m_u_law_is_network : mg "_law_is_network" = some (.ref a.a_u_law_is_network)
  m_u_law_levelled : mg "_law_levelled" = some (.ref a.a_u_law_levelled)
  m_u_law_mixed : mg "_law_mixed" = some (.ref a.a_u_law_mixed)
  m_u_law_network : mg "_law_network" = some (.ref a.a_u_law_network)
  m_u_law_some : mg "_law_some" = some (.ref a.a_u_law_some)
  m_u_law_take : mg "_law_take" = some (.ref a.a_u_law_take)
  m_u_law_through : mg "_law_through" = some (.ref a.a_u_law_through)
  m_done : mg "done" = some (.ref a.a_done)
  m_is_integer : mg "is_integer" = some (.ref a.a_is_integer)
  m_is_level : mg "is_level" = some (.ref a.a_is_level)
  m_is_network : mg "is_network" = some (.ref a.a_is_network)
  m_is_pair : mg "is_pair" = some (.ref a.a_is_pair)
  m_is_within : mg "is_within" = some (.ref a.a_is_within)
  m_level_done : mg "level_done" = some (.ref a.a_level_done)
  m_levelled : mg "levelled" = some (.ref a.a_levelled)
  m_pairs_of : mg "pairs_of" = some (.ref a.a_pairs_of)
  z_abs : mg "abs" = none
  z_all : mg "all" = none
  z_bool : mg "bool" = none
  z_enumerate : mg "enumerate" = none
  z_int : mg "int" = none
  z_isinstance : mg "isinstance" = none
  z_len : mg "len" = none
  z_list : mg "list" = none
  z_max : mg "max" = none
  z_min : mg "min" = none
  z_range : mg "range" = none
  z_set : mg "set" = none
  z_sorted : mg "sorted" = none
  z_str : mg "str" = none
  z_tuple : mg "tuple" = none
  z_zip : mg "zip" = none
  c_MOST_LEVELS : ∃ t, mg "MOST_LEVELS" = some (.int 300 t)
  c_PAIR : ∃ t, mg "PAIR" = some (.int 2 t)
section
variable {P : Program} {w : World} {K : PySem.W.Frag} {mg : Str → Option Value} {base : Heap} {a : Ad}
theorem o_u_law_bag (T : Txt w K mg a) : FnOk P w K mg base CX0 1 a.a_u_law_bag a.f_u_law_bag ["script"] (spP K F_u_law_bag) := by
  refine fokP (N := N_u_law_bag) (k := 0) T.F_u_law_bag sc_u_law_bag fun cdv A outer s H E hr => ?_
  exact (ss_one (s_ret (ok_lst (paa_cons ok_int (paa_cons ok_int (paa_cons ok_int (paa_cons (ok_comp [("cell", 1)] rfl sc_u_law_bag.nd (i_seq (ok_sl (pv 0) part_no (part_at ok_int))) (blkOk_by (N := N_u_law_bag) (sc := defScope d_u_law_bag) (by decide +kernel)) (fun _ _ _ _ _ => (g_one sc_u_law_bag.nd rfl (by first | exact .inl rfl | exact .inr rfl))) (fun _ _ _ _ _ => ts_nil) (fun _ _ _ _ _ => (ok_callB call_abs s_abs (by rfl) T.z_abs (by decide +kernel) (pao_cons (pv 1) pao_nil)))) paa_nil)))))))
theorem o_u_law_take (T : Txt w K mg a) : FnOk P w K mg base CX0 1 a.a_u_law_take a.f_u_law_take ["bag", "many"] (spB K F_u_law_take) := by
  refine fokB (N := N_u_law_take) (k := 0) T.F_u_law_take sc_u_law_take fun cdv A outer s H E hr => ?_
  exact (ss_cons (s_if (kVal_cmp (op_eqD hr.units) s_eq (ok_ix ix_seq s_ix (pv 0) ok_int) ok_int) (ss_cons (s_set (i := 2) (by decide) (ok_ix ix_seq s_ix (ok_op op_addAll s_add (ok_sl (ok_ix ix_seq s_ix (pv 0) ok_int) (part_at (ok_ix ix_seq s_ix (pv 0) ok_int)) part_no) (ok_lst (paa_cons ok_int paa_nil))) ok_int) sc_u_law_take.nd rfl (by first | exact .inl rfl | exact .inr rfl)) (ss_cons (s_augIx (pv 0) ok_int ok_int ip_add) (ss_cons (s_if (kVal_cmp op_ge s_ge (pv 2) (ok_op op_pow s_pow ok_int ok_int)) (ss_one (s_put (by decide) (ok_slot (pv 2)) (gg_sb hr (pv 0) ok_int))) ss_nil) (ss_cons (s_set (i := 3) (by decide) (ok_op op_addAll s_add (ok_op op_addAll s_add (ok_op op_mulAll s_mul (ok_ix ix_seq s_ix (pv 0) ok_int) ok_int) (ok_op op_mod s_mod (ok_callTy call_int1 s_int (by rfl) T.z_int (by decide +kernel) (pao_cons (pv 2) pao_nil)) ok_int)) (ok_op op_mulAll s_mul ok_int (ok_ix ix_seq s_ix (pv 0) ok_int))) sc_u_law_take.nd rfl (by first | exact .inl rfl | exact .inr rfl)) (ss_one (s_put (by decide) (ok_op op_mod s_mod (ok_callTy call_int1 s_int (by rfl) T.z_int (by decide +kernel) (pao_cons (pv 3) pao_nil)) ok_int) (gg_sb hr (pv 0) ok_int))))))) ss_nil) (ss_cons (s_if (kVal_cmp op_gt s_gt (ok_ix ix_seq s_ix (pv 0) ok_int) ok_int) (ss_cons (s_set (i := 4) (by decide) (ok_op op_mod s_mod (ok_callTy call_int1 s_int (by rfl) T.z_int (by decide +kernel) (pao_cons (ok_ix ix_seq s_ix (pv 0) ok_int) pao_nil)) (pv 1)) sc_u_law_take.nd rfl (by first | exact .inl rfl | exact .inr rfl)) (ss_cons (s_put (by decide) (ok_op op_fdiv s_div (ok_callTy call_int1 s_int (by rfl) T.z_int (by decide +kernel) (pao_cons (ok_ix ix_seq s_ix (pv 0) ok_int) pao_nil)) (pv 1)) (gg_sb hr (pv 0) ok_int)) (ss_one (s_ret (ok_move (pv 4)))))) ss_nil) (ss_cons (s_set (i := 5) (by decide) (ok_op op_mod s_mod (ok_callTy call_int1 s_int (by rfl) T.z_int (by decide +kernel) (pao_cons (ok_op op_mulAll s_mul (ok_op op_addAll s_add (ok_ix ix_seq s_ix (pv 0) ok_int) ok_int) ok_int) pao_nil)) ok_int) sc_u_law_take.nd rfl (by first | exact .inl rfl | exact .inr rfl)) (ss_cons (s_set (i := 6) (by decide) (ok_op op_mod s_mod (ok_callTy call_int1 s_int (by rfl) T.z_int (by decide +kernel) (pao_cons (ok_op op_mulAll s_mul (ok_op op_mod s_mod (ok_callTy call_int1 s_int (by rfl) T.z_int (by decide +kernel) (pao_cons (ok_op op_mulAll s_mul (pv 5) (pv 5)) pao_nil)) ok_int) ok_int) pao_nil)) ok_int) sc_u_law_take.nd rfl (by first | exact .inl rfl | exact .inr rfl)) (ss_one (s_ret (ok_op op_mod s_mod (ok_callTy call_int1 s_int (by rfl) T.z_int (by decide +kernel) (pao_cons (ok_op op_fdiv s_div (pv 6) ok_int) pao_nil)) (pv 1))))))))
theorem o_u_law_mixed (T : Txt w K mg a) : FnOk P w K mg base CX0 2 a.a_u_law_mixed a.f_u_law_mixed ["bag", "things"] (spB K F_u_law_mixed) := by
  refine fokB (N := N_u_law_mixed) (k := 1) T.F_u_law_mixed sc_u_law_mixed fun cdv A outer s H E hr => ?_
  exact (ss_cons (s_par2c (by decide) (by decide) rfl sc_u_law_mixed.nd rfl rfl (by decide) rfl rfl (ok_callTy call_list_of s_list (by rfl) T.z_list (by decide +kernel) (pao_cons (pv 1) pao_nil)) (ok_lst paa_nil) (by rfl)) (ss_cons (s_while PassesOwn.never (kVal_cmp (op_neD hr.units) s_ne (pv 2) (ok_lst paa_nil)) (ss_one (s_drop (ok_methL PySem.F.slot_list_append PySem.F.type_list_append mt_append m_append (pv 3) (paa_cons (ok_methL PySem.F.slot_list_pop PySem.F.type_list_pop mt_popAt m_popAt (pv 2) (paa_cons (ok_callB' (o_u_law_take T) (hr.mono (by decide)) (by rfl) T.m_u_law_take T.k_u_law_take T.b_u_law_take (pv 0) (paa_cons (ok_callB call_lenA s_len (by rfl) T.z_len (by decide +kernel) (pao_cons (pv 2) pao_nil)) paa_nil)) paa_nil)) paa_nil))))) (ss_one (s_ret (ok_move (pv 3))))))
theorem o_u_law_network (T : Txt w K mg a) : FnOk P w K mg base CX0 3 a.a_u_law_network a.f_u_law_network ["bag", "many", "most"] (spB K F_u_law_network) := by
  refine fokB (N := N_u_law_network) (k := 2) T.F_u_law_network sc_u_law_network fun cdv A outer s H E hr => ?_
  exact (ss_cons (s_set (i := 3) (by decide) (ok_lst paa_nil) sc_u_law_network.nd rfl (by first | exact .inl rfl | exact .inr rfl)) (ss_cons (s_for (by decide) PassesOwn.never rfl (i_rng1 (by rfl) T.z_range (pao_cons (ok_callB' (o_u_law_take T) (hr.mono (by decide)) (by rfl) T.m_u_law_take T.k_u_law_take T.b_u_law_take (pv 0) (paa_cons (ok_op op_addAll s_add (pv 2) ok_int) paa_nil)) pao_nil)) (g_one sc_u_law_network.nd rfl (by first | exact .inl rfl | exact .inr rfl)) (ss_cons (s_par2c (by decide) (by decide) rfl sc_u_law_network.nd rfl rfl (by decide) rfl rfl (ok_callB' (o_u_law_mixed T) (hr.mono (by decide)) (by rfl) T.m_u_law_mixed T.k_u_law_mixed T.b_u_law_mixed (pv 0) (paa_cons (ok_lrg1 rfl (by rfl) T.z_list (by rfl) T.z_range (pv 1)) paa_nil)) (ok_lst paa_nil) (by rfl)) (ss_cons (s_for (by decide) PassesOwn.never rfl (i_rng3 (by rfl) T.z_range (pao_cons ok_int (pao_cons (ok_op op_sub s_sub (pv 1) ok_int) (pao_cons ok_int pao_nil)))) (g_one sc_u_law_network.nd rfl (by first | exact .inl rfl | exact .inr rfl)) (ss_one (s_if (kVal_cmp op_gt s_gt (ok_callB' (o_u_law_take T) (hr.mono (by decide)) (by rfl) T.m_u_law_take T.k_u_law_take T.b_u_law_take (pv 0) (paa_cons ok_int paa_nil)) ok_int) (ss_one (s_drop (ok_methL PySem.F.slot_list_append PySem.F.type_list_append mt_append m_append (pv 6) (paa_cons (ok_tup (paa_cons (ok_callB (call_minA rfl) s_min (by rfl) T.z_min (by decide +kernel) (pao_cons (ok_ix ix_seq s_ix (pv 5) (pv 7)) (pao_cons (ok_ix ix_seq s_ix (pv 5) (ok_op op_addAll s_add (pv 7) ok_int)) pao_nil))) (paa_cons (ok_callB (call_maxA rfl) s_max (by rfl) T.z_max (by decide +kernel) (pao_cons (ok_ix ix_seq s_ix (pv 5) (pv 7)) (pao_cons (ok_ix ix_seq s_ix (pv 5) (ok_op op_addAll s_add (pv 7) ok_int)) pao_nil))) paa_nil))) paa_nil)))) ss_nil))) (ss_one (s_drop (ok_methL PySem.F.slot_list_append PySem.F.type_list_append mt_append m_append (pv 3) (paa_cons (ok_callTy call_tuple_of s_tuple (by rfl) T.z_tuple (by decide +kernel) (pao_cons (ok_callB cr_sortedA s_sorted (by rfl) T.z_sorted (by decide +kernel) (pao_cons (pv 6) pao_nil)) pao_nil)) paa_nil))))))) (ss_one (s_ret (ok_callTy call_tuple_of s_tuple (by rfl) T.z_tuple (by decide +kernel) (pao_cons (pv 3) pao_nil))))))
theorem o_u_law_alike (T : Txt w K mg a) : FnOk P w K mg base CX0 1 a.a_u_law_alike a.f_u_law_alike ["found", "due"] (spP K F_u_law_alike) := by
  refine fokP (N := N_u_law_alike) (k := 0) T.F_u_law_alike sc_u_law_alike fun cdv A outer s H E hr => ?_
  exact (ss_cons (s_par2c (by decide) (by decide) rfl sc_u_law_alike.nd rfl rfl (by decide) rfl rfl (ok_lst (paa_cons (ok_tup (paa_cons (ok_slot (pv 0)) (paa_cons (ok_slot (pv 1)) paa_nil))) paa_nil)) ok_int (by rfl)) (ss_cons (s_while PassesOwn.never (kVal_cmp op_lt s_lt (pv 3) (ok_callB call_lenA s_len (by rfl) T.z_len (by decide +kernel) (pao_cons (pv 2) pao_nil))) (ss_cons (s_unp (by decide) rfl (ok_ix ix_seq s_ix (pv 2) (pv 3)) (ggs_cons (gg_nm sc_u_law_alike.nd rfl (by first | exact .inl rfl | exact .inr rfl)) (ggs_cons (gg_nm sc_u_law_alike.nd rfl (by first | exact .inl rfl | exact .inr rfl)) ggs_nil))) (ss_cons (s_aug (i := 3) (by decide) ok_int sc_u_law_alike.nd rfl (by first | exact .inl rfl | exact .inr rfl) ip_add) (ss_cons (s_if (k_w (kw_or (kVal_cmp (op_neD hr.units) s_ne (ok_isi (b := "bool") (by rfl) T.z_isinstance (pv 4) (by rfl) T.z_bool (by decide +kernel) (by decide)) (ok_isi (b := "bool") (by rfl) T.z_isinstance (pv 5) (by rfl) T.z_bool (by decide +kernel) (by decide))) (kw_or1 (kVal_cmp (op_neD hr.units) s_ne (ok_isi (b := "str") (by rfl) T.z_isinstance (pv 4) (by rfl) T.z_str (by decide +kernel) (by decide)) (ok_isi (b := "str") (by rfl) T.z_isinstance (pv 5) (by rfl) T.z_str (by decide +kernel) (by decide)))))) (ss_one (s_ret ok_bl)) ss_nil) (ss_cons (s_if (kVal_cmp (op_neD hr.units) s_ne (ok_isi2 (b := "tuple") (c := "list") (by rfl) T.z_isinstance (pv 4) (by rfl) T.z_tuple (by decide +kernel) (by rfl) T.z_list (by decide +kernel) (by decide) (by decide)) (ok_isi2 (b := "tuple") (c := "list") (by rfl) T.z_isinstance (pv 5) (by rfl) T.z_tuple (by decide +kernel) (by rfl) T.z_list (by decide +kernel) (by decide) (by decide))) (ss_one (s_ret ok_bl)) ss_nil) (ss_one (s_if (kVal_val (ok_isi2 (b := "tuple") (c := "list") (by rfl) T.z_isinstance (pv 4) (by rfl) T.z_tuple (by decide +kernel) (by rfl) T.z_list (by decide +kernel) (by decide) (by decide))) (ss_cons (s_if (k_w (kw_or (kVal_cmp (op_neD hr.units) s_ne (ok_isi (b := "tuple") (by rfl) T.z_isinstance (pv 4) (by rfl) T.z_tuple (by decide +kernel) (by decide)) (ok_isi (b := "tuple") (by rfl) T.z_isinstance (pv 5) (by rfl) T.z_tuple (by decide +kernel) (by decide))) (kw_or1 (kVal_cmp (op_neD hr.units) s_ne (ok_callB call_lenA s_len (by rfl) T.z_len (by decide +kernel) (pao_cons (pv 4) pao_nil)) (ok_callB call_lenA s_len (by rfl) T.z_len (by decide +kernel) (pao_cons (pv 5) pao_nil)))))) (ss_one (s_ret ok_bl)) ss_nil) (ss_one (s_drop (ok_methL PySem.F.slot_list_extend PySem.F.type_list_extend mt_extend m_extend (pv 2) (paa_cons (ok_lzip rfl (by rfl) T.z_list (by rfl) T.z_zip (paa_cons (ok_slot (pv 4)) (paa_cons (ok_slot (pv 5)) paa_nil))) paa_nil))))) (ss_one (s_if (kVal_cmp (op_neD hr.units) s_ne (pv 4) (pv 5)) (ss_one (s_ret ok_bl)) ss_nil))))))))) (ss_one (s_ret ok_bl))))
theorem o_u_law_through (T : Txt w K mg a) : FnOk P w K mg base CX0 1 a.a_u_law_through a.f_u_law_through ["network", "numbers"] (spP K F_u_law_through) := by
  refine fokP (N := N_u_law_through) (k := 0) T.F_u_law_through sc_u_law_through fun cdv A outer s H E hr => ?_
  exact (ss_cons (s_set (i := 2) (by decide) (ok_callTy call_list_of s_list (by rfl) T.z_list (by decide +kernel) (pao_cons (pv 1) pao_nil)) sc_u_law_through.nd rfl (by first | exact .inl rfl | exact .inr rfl)) (ss_cons (s_for (by decide) PassesOwn.never rfl (i_seq (ok_slot (pv 0))) (g_one sc_u_law_through.nd rfl (by first | exact .inl rfl | exact .inr rfl)) (ss_one (s_for (by decide) PassesOwn.never rfl (i_seq (ok_slot (pv 3))) (g_tup rfl (gn_cons (g_one sc_u_law_through.nd rfl (by first | exact .inl rfl | exact .inr rfl)) (gn_cons (g_one sc_u_law_through.nd rfl (by first | exact .inl rfl | exact .inr rfl)) gn_nil))) (ss_cons (s_par (by decide) (by decide) rfl sc_u_law_through.nd rfl rfl (by decide) rfl rfl (paa_cons (ok_callB (call_minT hr rfl) s_minT (by rfl) T.z_min (by decide +kernel) (pao_cons (ok_ix ix_seq s_ix (pv 2) (pv 4)) (pao_cons (ok_ix ix_seq s_ix (pv 2) (pv 5)) pao_nil))) (paa_cons (ok_callB (call_maxT hr rfl) s_maxT (by rfl) T.z_max (by decide +kernel) (pao_cons (ok_ix ix_seq s_ix (pv 2) (pv 4)) (pao_cons (ok_ix ix_seq s_ix (pv 2) (pv 5)) pao_nil))) paa_nil)) (by rfl)) (ss_cons (s_put (by decide) (ok_slot (pv 6)) (gg_sb hr (pv 2) (pv 4))) (ss_one (s_put (by decide) (ok_slot (pv 7)) (gg_sb hr (pv 2) (pv 5))))))))) (ss_one (s_ret (ok_move (pv 2))))))
theorem o_level_done (T : Txt w K mg a) : FnOk P w K mg base CX0 1 a.a_level_done a.f_level_done ["level", "numbers"] (spP K F_level_done) := by
  refine fokP (N := N_level_done) (k := 0) T.F_level_done sc_level_done fun cdv A outer s H E hr => ?_
  exact (ss_cons (s_set (i := 2) (by decide) (ok_callTy call_list_of s_list (by rfl) T.z_list (by decide +kernel) (pao_cons (pv 1) pao_nil)) sc_level_done.nd rfl (by first | exact .inl rfl | exact .inr rfl)) (ss_cons (s_for (by decide) PassesOwn.never rfl (i_seq (ok_slot (pv 0))) (g_tup rfl (gn_cons (g_one sc_level_done.nd rfl (by first | exact .inl rfl | exact .inr rfl)) (gn_cons (g_one sc_level_done.nd rfl (by first | exact .inl rfl | exact .inr rfl)) gn_nil))) (ss_one (s_if (kVal_cmp (op_ltA hr) s_ltA (ok_ix ix_seq s_ix (pv 2) (pv 4)) (ok_ix ix_seq s_ix (pv 2) (pv 3))) (ss_one (s_unp (by decide) rfl (ok_tup (paa_cons (ok_ix ix_seq s_ix (pv 2) (pv 4)) (paa_cons (ok_ix ix_seq s_ix (pv 2) (pv 3)) paa_nil))) (ggs_cons (gg_sb hr (pv 2) (pv 3)) (ggs_cons (gg_sb hr (pv 2) (pv 4)) ggs_nil)))) ss_nil))) (ss_one (s_ret (ok_move (pv 2))))))
theorem o_done (T : Txt w K mg a) : FnOk P w K mg base CX0 2 a.a_done a.f_done ["network", "numbers"] (spP K F_done) := by
  refine fokP (N := N_done) (k := 1) T.F_done sc_done fun cdv A outer s H E hr => ?_
  exact (ss_cons (s_set (i := 2) (by decide) (ok_callTy call_list_of s_list (by rfl) T.z_list (by decide +kernel) (pao_cons (pv 1) pao_nil)) sc_done.nd rfl (by first | exact .inl rfl | exact .inr rfl)) (ss_cons (s_for (by decide) PassesOwn.never rfl (i_seq (ok_slot (pv 0))) (g_one sc_done.nd rfl (by first | exact .inl rfl | exact .inr rfl)) (ss_one (s_set (i := 2) (by decide) (ok_call (o_level_done T) (hr.mono (by decide)) (by rfl) T.m_level_done T.k_level_done T.b_level_done (paa_cons (ok_slot (pv 3)) (paa_cons (ok_slot (pv 2)) paa_nil))) sc_done.nd rfl (by first | exact .inl rfl | exact .inr rfl)))) (ss_one (s_ret (ok_callTy call_tuple_of s_tuple (by rfl) T.z_tuple (by decide +kernel) (pao_cons (pv 2) pao_nil))))))
theorem o_is_integer (T : Txt w K mg a) : FnOk P w K mg base CX0 1 a.a_is_integer a.f_is_integer ["thing"] (spP K F_is_integer) := by
  refine fokP (N := N_is_integer) (k := 0) T.F_is_integer sc_is_integer fun cdv A outer s H E hr => ?_
  exact (ss_one (s_ret (ok_and (ok_isi (b := "int") (by rfl) T.z_isinstance (pv 0) (by rfl) T.z_int (by decide +kernel) (by decide)) (ok_one (ok_not (ok_isi (b := "bool") (by rfl) T.z_isinstance (pv 0) (by rfl) T.z_bool (by decide +kernel) (by decide)))))))
theorem o_is_within (T : Txt w K mg a) : FnOk P w K mg base CX0 2 a.a_is_within a.f_is_within ["thing", "least", "most"] (spP K F_is_within) := by
  refine fokP (N := N_is_within) (k := 1) T.F_is_within sc_is_within fun cdv A outer s H E hr => ?_
  exact (ss_one (s_ret (ok_and (ok_call (o_is_integer T) (hr.mono (by decide)) (by rfl) T.m_is_integer T.k_is_integer T.b_is_integer (paa_cons (ok_slot (pv 0)) paa_nil)) (ok_one (ok_chain (f := cLe) (f' := cLe) op_le op_le (pv 1) (pv 0) (pv 2))))))
theorem o_is_pair (T : Txt w K mg a) : FnOk P w K mg base CX0 3 a.a_is_pair a.f_is_pair ["many", "thing"] (spP K F_is_pair) := by
  refine fokP (N := N_is_pair) (k := 2) T.F_is_pair sc_is_pair fun cdv A outer s H E hr => ?_
  exact (ss_cons (s_if (k_w (kw_or (k_not (kVal_val (ok_isi (b := "tuple") (by rfl) T.z_isinstance (pv 1) (by rfl) T.z_tuple (by decide +kernel) (by decide)))) (kw_or (kVal_cmp (op_neD hr.units) s_ne (ok_callB call_lenA s_len (by rfl) T.z_len (by decide +kernel) (pao_cons (pv 1) pao_nil)) (ok_gint (by rfl) T.c_PAIR)) (kw_or1 (k_not (kVal_val (ok_call (o_is_within T) (hr.mono (by decide)) (by rfl) T.m_is_within T.k_is_within T.b_is_within (paa_cons (ok_ix ix_seq s_ix (pv 1) ok_int) (paa_cons ok_int (paa_cons (ok_op op_sub s_sub (pv 0) ok_int) paa_nil)))))))))) (ss_one (s_ret ok_bl)) ss_nil) (ss_one (s_ret (ok_call (o_is_within T) (hr.mono (by decide)) (by rfl) T.m_is_within T.k_is_within T.b_is_within (paa_cons (ok_ix ix_seq s_ix (pv 1) ok_int) (paa_cons (ok_op op_addAll s_add (ok_ix ix_seq s_ix (pv 1) ok_int) ok_int) (paa_cons (ok_op op_sub s_sub (pv 0) ok_int) paa_nil)))))))
theorem o_is_level (T : Txt w K mg a) : FnOk P w K mg base CX0 4 a.a_is_level a.f_is_level ["many", "thing"] (spP K F_is_level) := by
  refine fokP (N := N_is_level) (k := 3) T.F_is_level sc_is_level fun cdv A outer s H E hr => ?_
  exact (ss_cons (s_if (k_w (kw_or (k_not (kVal_val (ok_isi (b := "tuple") (by rfl) T.z_isinstance (pv 1) (by rfl) T.z_tuple (by decide +kernel) (by decide)))) (kw_or1 (k_not (kVal_val (ok_callB (cr_all rfl) s_all (by rfl) T.z_all (by decide +kernel) (pao_cons (ok_comp [("pair", 2)] rfl sc_is_level.nd (i_seq (ok_slot (pv 1))) (blkOk_by (N := N_is_level) (sc := defScope d_is_level) (by decide +kernel)) (fun _ _ _ _ _ => (g_one sc_is_level.nd rfl (by first | exact .inl rfl | exact .inr rfl))) (fun _ _ _ _ _ => ts_nil) (fun _ _ _ _ _ => (ok_call (o_is_pair T) (hr.mono (by decide)) (by rfl) T.m_is_pair T.k_is_pair T.b_is_pair (paa_cons (ok_slot (pv 0)) (paa_cons (ok_slot (pv 2)) paa_nil))))) pao_nil))))))) (ss_one (s_ret ok_bl)) ss_nil) (ss_cons (s_setc2 [("pair", 2), ("place", 4)] [4] (by decide) rfl sc_is_level.nd rfl rfl (sw_true rfl rfl rfl (by decide +kernel)) (i_seq (ok_slot (pv 1))) (blkOk_by (N := N_is_level) (sc := defScope d_is_level) (by decide +kernel)) (fun _ _ _ _ _ => (g_one sc_is_level.nd rfl (by first | exact .inl rfl | exact .inr rfl))) (fun _ _ _ _ _ => ts_nil) (fun _ _ _ _ _ => (i_seq (ok_slot (pv 2)))) (fun _ _ _ _ _ => (g_one sc_is_level.nd rfl (by first | exact .inl rfl | exact .inr rfl))) (fun _ _ _ _ _ => ts_nil) (fun _ _ _ _ _ => (ok_slot (pv 4)))) (ss_one (s_ret (ok_and (ok_cmp (op_eqD hr.units) s_eq (ok_callB call_lenA s_len (by rfl) T.z_len (by decide +kernel) (pao_cons (ok_dc [("place", 4)] rfl sc_is_level.nd (i_seq (ok_slot (pv 3))) (blkOk_by (N := N_is_level) (sc := defScope d_is_level) (by decide +kernel)) (fun _ _ _ _ _ => (g_one sc_is_level.nd rfl (by first | exact .inl rfl | exact .inr rfl))) (fun _ _ _ _ _ => ts_nil) (fun _ _ _ _ _ => (ok_slot (pv 4))) (fun _ _ _ _ _ => ok_bl)) pao_nil)) (ok_callB call_lenA s_len (by rfl) T.z_len (by decide +kernel) (pao_cons (pv 3) pao_nil))) (ok_one (ok_cmp (op_eqD hr.units) s_eq (ok_callTy call_list_of s_list (by rfl) T.z_list (by decide +kernel) (pao_cons (pv 1) pao_nil)) (ok_callB cr_sortedA s_sorted (by rfl) T.z_sorted (by decide +kernel) (pao_cons (pv 1) pao_nil)))))))))
theorem o_is_network (T : Txt w K mg a) : FnOk P w K mg base CX0 5 a.a_is_network a.f_is_network ["many", "thing"] (spP K F_is_network) := by
  refine fokP (N := N_is_network) (k := 4) T.F_is_network sc_is_network fun cdv A outer s H E hr => ?_
  exact (ss_cons (s_if (k_w (kw_or (k_not (kVal_val (ok_isi (b := "tuple") (by rfl) T.z_isinstance (pv 1) (by rfl) T.z_tuple (by decide +kernel) (by decide)))) (kw_or1 (kVal_cmp op_gt s_gt (ok_callB call_lenA s_len (by rfl) T.z_len (by decide +kernel) (pao_cons (pv 1) pao_nil)) (ok_gint (by rfl) T.c_MOST_LEVELS))))) (ss_one (s_ret ok_bl)) ss_nil) (ss_one (s_ret (ok_callB (cr_all rfl) s_all (by rfl) T.z_all (by decide +kernel) (pao_cons (ok_comp [("level", 2)] rfl sc_is_network.nd (i_seq (ok_slot (pv 1))) (blkOk_by (N := N_is_network) (sc := defScope d_is_network) (by decide +kernel)) (fun _ _ _ _ _ => (g_one sc_is_network.nd rfl (by first | exact .inl rfl | exact .inr rfl))) (fun _ _ _ _ _ => ts_nil) (fun _ _ _ _ _ => (ok_call (o_is_level T) (hr.mono (by decide)) (by rfl) T.m_is_level T.k_is_level T.b_is_level (paa_cons (ok_slot (pv 0)) (paa_cons (ok_slot (pv 2)) paa_nil))))) pao_nil)))))
theorem o_pairs_of (T : Txt w K mg a) : FnOk P w K mg base CX0 1 a.a_pairs_of a.f_pairs_of ["network"] (spP K F_pairs_of) := by
  refine fokP (N := N_pairs_of) (k := 0) T.F_pairs_of sc_pairs_of fun cdv A outer s H E hr => ?_
  exact (ss_one (s_ret (ok_callTy call_tuple_of s_tuple (by rfl) T.z_tuple (by decide +kernel) (pao_cons (ok_comp2 [("level", 1), ("pair", 2)] [2] rfl sc_pairs_of.nd (i_seq (ok_slot (pv 0))) (blkOk_by (N := N_pairs_of) (sc := defScope d_pairs_of) (by decide +kernel)) (fun _ _ _ _ _ => (g_one sc_pairs_of.nd rfl (by first | exact .inl rfl | exact .inr rfl))) (fun _ _ _ _ _ => ts_nil) (fun _ _ _ _ _ => (i_seq (ok_slot (pv 1)))) (fun _ _ _ _ _ => (g_one sc_pairs_of.nd rfl (by first | exact .inl rfl | exact .inr rfl))) (fun _ _ _ _ _ => ts_nil) (fun _ _ _ _ _ => (ok_slot (pv 2)))) pao_nil))))
theorem o_levelled (T : Txt w K mg a) : FnOk P w K mg base CX0 1 a.a_levelled a.f_levelled ["pairs"] (spP K F_levelled) := by
  refine fokP (N := N_levelled) (k := 0) T.F_levelled sc_levelled fun cdv A outer s H E hr => ?_
  exact (ss_cons (s_par2c (by decide) (by decide) rfl sc_levelled.nd rfl rfl (by decide) rfl rfl ok_dk (ok_lst paa_nil) (by rfl)) (ss_cons (s_for (by decide) PassesOwn.never rfl (i_seq (ok_slot (pv 0))) (g_tup rfl (gn_cons (g_one sc_levelled.nd rfl (by first | exact .inl rfl | exact .inr rfl)) (gn_cons (g_one sc_levelled.nd rfl (by first | exact .inl rfl | exact .inr rfl)) gn_nil))) (ss_cons (s_set (i := 5) (by decide) (ok_callB (call_maxA rfl) s_max (by rfl) T.z_max (by decide +kernel) (pao_cons (ok_get2 hr (pv 1) (ok_slot (pv 3)) ok_int ⟨rfl, rfl, rfl, rfl⟩) (pao_cons (ok_get2 hr (pv 1) (ok_slot (pv 4)) ok_int ⟨rfl, rfl, rfl, rfl⟩) pao_nil))) sc_levelled.nd rfl (by first | exact .inl rfl | exact .inr rfl)) (ss_cons (s_if (kVal_cmp (op_eqD hr.units) s_eq (pv 5) (ok_len2 (by rfl) T.z_len (pv 2))) (ss_one (s_drop (ok_app2 (pv 2) (ok_lst paa_nil)))) ss_nil) (ss_cons (s_drop (ok_app3 (pv 2) (pv 5) (ok_tup (paa_cons (ok_slot (pv 3)) (paa_cons (ok_slot (pv 4)) paa_nil))))) (ss_one (s_unp (by decide) rfl (ok_tup (paa_cons (ok_op op_addAll s_add (pv 5) ok_int) (paa_cons (ok_op op_addAll s_add (pv 5) ok_int) paa_nil))) (ggs_cons (gg_sb hr (pv 1) (pv 3)) (ggs_cons (gg_sb hr (pv 1) (pv 4)) ggs_nil)))))))) (ss_one (s_ret (ok_callTy call_tuple_of s_tuple (by rfl) T.z_tuple (by decide +kernel) (pao_cons (ok_comp [("level", 6)] rfl sc_levelled.nd (i_seq (ok_slot (pv 2))) (blkOk_by (N := N_levelled) (sc := defScope d_levelled) (by decide +kernel)) (fun _ _ _ _ _ => (g_one sc_levelled.nd rfl (by first | exact .inl rfl | exact .inr rfl))) (fun _ _ _ _ _ => ts_nil) (fun _ _ _ _ _ => (ok_callTy call_tuple_of s_tuple (by rfl) T.z_tuple (by decide +kernel) (pao_cons (ok_callB cr_sortedA s_sorted (by rfl) T.z_sorted (by decide +kernel) (pao_cons (pv 6) pao_nil)) pao_nil)))) pao_nil))))))
theorem o_u_law_levelled (T : Txt w K mg a) : FnOk P w K mg base CX0 1 a.a_u_law_levelled a.f_u_law_levelled ["pairs"] (spP K F_u_law_levelled) := by
  refine fokP (N := N_u_law_levelled) (k := 0) T.F_u_law_levelled sc_u_law_levelled fun cdv A outer s H E hr => ?_
  exact (ss_cons (s_par2c (by decide) (by decide) rfl sc_u_law_levelled.nd rfl rfl (by decide) rfl rfl (ok_lst paa_nil) ok_dk (by rfl)) (ss_cons (s_for (by decide) PassesOwn.never rfl (i_seq (ok_slot (pv 0))) (g_tup rfl (gn_cons (g_one sc_u_law_levelled.nd rfl (by first | exact .inl rfl | exact .inr rfl)) (gn_cons (g_one sc_u_law_levelled.nd rfl (by first | exact .inl rfl | exact .inr rfl)) gn_nil))) (ss_cons (s_set (i := 5) (by decide) (ok_callB (call_maxA rfl) s_max (by rfl) T.z_max (by decide +kernel) (pao_cons (ok_get2 hr (pv 2) (ok_slot (pv 3)) ok_int ⟨rfl, rfl, rfl, rfl⟩) (pao_cons (ok_get2 hr (pv 2) (ok_slot (pv 4)) ok_int ⟨rfl, rfl, rfl, rfl⟩) pao_nil))) sc_u_law_levelled.nd rfl (by first | exact .inl rfl | exact .inr rfl)) (ss_cons (s_while PassesOwn.never (kVal_cmp op_le s_le (ok_len2 (by rfl) T.z_len (pv 1)) (pv 5)) (ss_one (s_drop (ok_app2 (pv 1) (ok_lst paa_nil))))) (ss_cons (s_drop (ok_app3 (pv 1) (pv 5) (ok_tup (paa_cons (ok_slot (pv 3)) (paa_cons (ok_slot (pv 4)) paa_nil))))) (ss_cons (s_put (by decide) (ok_op op_addAll s_add (pv 5) ok_int) (gg_sb hr (pv 2) (pv 3))) (ss_one (s_put (by decide) (ok_op op_addAll s_add (pv 5) ok_int) (gg_sb hr (pv 2) (pv 4))))))))) (ss_one (s_ret (ok_callTy call_tuple_of s_tuple (by rfl) T.z_tuple (by decide +kernel) (pao_cons (ok_comp [("level", 6)] rfl sc_u_law_levelled.nd (i_seq (ok_slot (pv 1))) (blkOk_by (N := N_u_law_levelled) (sc := defScope d_u_law_levelled) (by decide +kernel)) (fun _ _ _ _ _ => (g_one sc_u_law_levelled.nd rfl (by first | exact .inl rfl | exact .inr rfl))) (fun _ _ _ _ _ => ts_nil) (fun _ _ _ _ _ => (ok_callTy call_tuple_of s_tuple (by rfl) T.z_tuple (by decide +kernel) (pao_cons (ok_callB cr_sortedA s_sorted (by rfl) T.z_sorted (by decide +kernel) (pao_cons (pv 6) pao_nil)) pao_nil)))) pao_nil))))))
theorem o_u_law_is_int (T : Txt w K mg a) : FnOk P w K mg base CX0 1 a.a_u_law_is_int a.f_u_law_is_int ["thing"] (spP K F_u_law_is_int) := by
  refine fokP (N := N_u_law_is_int) (k := 0) T.F_u_law_is_int sc_u_law_is_int fun cdv A outer s H E hr => ?_
  exact (ss_one (s_ret (ok_and (ok_isi (b := "int") (by rfl) T.z_isinstance (pv 0) (by rfl) T.z_int (by decide +kernel) (by decide)) (ok_one (ok_not (ok_isi (b := "bool") (by rfl) T.z_isinstance (pv 0) (by rfl) T.z_bool (by decide +kernel) (by decide)))))))
theorem o_u_law_some (T : Txt w K mg a) : FnOk P w K mg base CX0 2 a.a_u_law_some a.f_u_law_some ["bag", "things"] (spB K F_u_law_some) := by
  refine fokB (N := N_u_law_some) (k := 1) T.F_u_law_some sc_u_law_some fun cdv A outer s H E hr => ?_
  exact (ss_one (s_ret (ok_ix ix_seq s_ix (pv 1) (ok_callB' (o_u_law_take T) (hr.mono (by decide)) (by rfl) T.m_u_law_take T.k_u_law_take T.b_u_law_take (pv 0) (paa_cons (ok_callB call_lenA s_len (by rfl) T.z_len (by decide +kernel) (pao_cons (pv 1) pao_nil)) paa_nil)))))
theorem o_u_law_bent (T : Txt w K mg a) : ∀ j, FnOk P w K mg base CX0 (2 + j) a.a_u_law_bent a.f_u_law_bent ["bag", "thing", "depth"] (spB K (F_u_law_bent j))
  | 0 => never_B
  | j + 1 => by
    have ih := o_u_law_bent T j
    refine fokB (N := N_u_law_bent) (k := 2 + j) T.F_u_law_bent sc_u_law_bent fun cdv A outer s H E hr => ?_
    exact (ss_cons (s_set (i := 3) (by decide) (ok_callB' (o_u_law_take T) (hr.mono (by omega)) (by rfl) T.m_u_law_take T.k_u_law_take T.b_u_law_take (pv 0) (paa_cons ok_int paa_nil)) sc_u_law_bent.nd rfl (by first | exact .inl rfl | exact .inr rfl)) (ss_cons (s_if (k_w (kw_and (kVal_cmp op_gt s_gt (pv 2) ok_int) (kw_and (kVal_val (ok_isi (b := "tuple") (by rfl) T.z_isinstance (pv 1) (by rfl) T.z_tuple (by decide +kernel) (by decide))) (kw_and (kVal_cmp (op_neD hr.units) s_ne (pv 1) (ok_tup paa_nil)) (kw_and1 (kVal_cmp op_gt s_gt (pv 3) ok_int)))))) (ss_cons (s_set (i := 4) (by decide) (ok_callB' (o_u_law_take T) (hr.mono (by omega)) (by rfl) T.m_u_law_take T.k_u_law_take T.b_u_law_take (pv 0) (paa_cons (ok_callB call_lenA s_len (by rfl) T.z_len (by decide +kernel) (pao_cons (pv 1) pao_nil)) paa_nil)) sc_u_law_bent.nd rfl (by first | exact .inl rfl | exact .inr rfl)) (ss_cons (s_if (kVal_cmp (op_eqD hr.units) s_eq (pv 3) ok_int) (ss_one (s_ret (ok_op op_addAll s_add (ok_sl (pv 1) part_no (part_at (pv 4))) (ok_sl (pv 1) (part_at (ok_op op_addAll s_add (pv 4) ok_int)) part_no)))) ss_nil) (ss_cons (s_if (kVal_cmp (op_eqD hr.units) s_eq (pv 3) ok_int) (ss_one (s_ret (ok_op op_addAll s_add (ok_op op_addAll s_add (ok_sl (pv 1) part_no (part_at (pv 4))) (ok_sl (pv 1) (part_at (pv 4)) (part_at (ok_op op_addAll s_add (pv 4) ok_int)))) (ok_sl (pv 1) (part_at (pv 4)) part_no)))) ss_nil) (ss_one (s_ret (ok_op op_addAll s_add (ok_op op_addAll s_add (ok_sl (pv 1) part_no (part_at (pv 4))) (ok_tup (paa_cons (ok_callB' ih hr (by rfl) T.m_u_law_bent T.k_u_law_bent T.b_u_law_bent (pv 0) (paa_cons (ok_ix ix_seq s_ix (pv 1) (pv 4)) (paa_cons (ok_op op_sub s_sub (pv 2) ok_int) paa_nil))) paa_nil))) (ok_sl (pv 1) (part_at (ok_op op_addAll s_add (pv 4) ok_int)) part_no))))))) ss_nil) (ss_cons (s_if (k_w (kw_and (kVal_val (ok_call (o_u_law_is_int T) (hr.mono (by omega)) (by rfl) T.m_u_law_is_int T.k_u_law_is_int T.b_u_law_is_int (paa_cons (ok_slot (pv 1)) paa_nil))) (kw_and1 (kVal_cmp op_gt s_gt (pv 3) ok_int)))) (ss_one (s_ret (ok_op op_addAll s_add (pv 1) (ok_callB' (o_u_law_some T) (hr.mono (by omega)) (by rfl) T.m_u_law_some T.k_u_law_some T.b_u_law_some (pv 0) (paa_cons (ok_lst (paa_cons ok_int (paa_cons (ok_un un_neg s_neg ok_int) (paa_cons ok_int (paa_cons ok_int paa_nil))))) paa_nil))))) ss_nil) (ss_one (s_ret (ok_callB' (o_u_law_some T) (hr.mono (by omega)) (by rfl) T.m_u_law_some T.k_u_law_some T.b_u_law_some (pv 0) (paa_cons (ok_lst (paa_cons ok_non (paa_cons ok_bl (paa_cons ok_str (paa_cons ok_str (paa_cons ok_int (paa_cons (ok_un un_neg s_neg ok_int) (paa_cons (ok_tup paa_nil) (paa_cons (ok_tup (paa_cons ok_int paa_nil)) (paa_cons (ok_if (kVal_val (ok_isi (b := "tuple") (by rfl) T.z_isinstance (pv 1) (by rfl) T.z_tuple (by decide +kernel) (by decide))) (ok_callTy call_list_of s_list (by rfl) T.z_list (by decide +kernel) (pao_cons (pv 1) pao_nil)) ok_str) paa_nil)))))))))) paa_nil)))))))
theorem o_u_law_is_in (T : Txt w K mg a) : FnOk P w K mg base CX0 2 a.a_u_law_is_in a.f_u_law_is_in ["thing", "least", "most"] (spP K F_u_law_is_in) := by
  refine fokP (N := N_u_law_is_in) (k := 1) T.F_u_law_is_in sc_u_law_is_in fun cdv A outer s H E hr => ?_
  exact (ss_one (s_ret (ok_and (ok_call (o_u_law_is_int T) (hr.mono (by decide)) (by rfl) T.m_u_law_is_int T.k_u_law_is_int T.b_u_law_is_int (paa_cons (ok_slot (pv 0)) paa_nil)) (ok_one (ok_chain (f := cLe) (f' := cLe) op_le op_le (pv 1) (pv 0) (pv 2))))))
theorem o_u_law_is_network (T : Txt w K mg a) : FnOk P w K mg base CX0 3 a.a_u_law_is_network a.f_u_law_is_network ["many", "thing"] (spP K F_u_law_is_network) := by
  refine fokP (N := N_u_law_is_network) (k := 2) T.F_u_law_is_network sc_u_law_is_network fun cdv A outer s H E hr => ?_
  exact (ss_cons (s_if (k_w (kw_or (k_not (kVal_val (ok_isi (b := "tuple") (by rfl) T.z_isinstance (pv 1) (by rfl) T.z_tuple (by decide +kernel) (by decide)))) (kw_or1 (kVal_cmp op_gt s_gt (ok_callB call_lenA s_len (by rfl) T.z_len (by decide +kernel) (pao_cons (pv 1) pao_nil)) ok_int)))) (ss_one (s_ret ok_bl)) ss_nil) (ss_cons (s_for (by decide) PassesOwn.never rfl (i_seq (ok_slot (pv 1))) (g_one sc_u_law_is_network.nd rfl (by first | exact .inl rfl | exact .inr rfl)) (ss_cons (s_if (k_not (kVal_val (ok_isi (b := "tuple") (by rfl) T.z_isinstance (pv 2) (by rfl) T.z_tuple (by decide +kernel) (by decide)))) (ss_one (s_ret ok_bl)) ss_nil) (ss_cons (s_set (i := 3) (by decide) (ok_lst paa_nil) sc_u_law_is_network.nd rfl (by first | exact .inl rfl | exact .inr rfl)) (ss_cons (s_for (by decide) PassesOwn.never rfl (i_seq (ok_slot (pv 2))) (g_one sc_u_law_is_network.nd rfl (by first | exact .inl rfl | exact .inr rfl)) (ss_cons (s_if (k_w (kw_or (k_not (kVal_val (ok_isi (b := "tuple") (by rfl) T.z_isinstance (pv 4) (by rfl) T.z_tuple (by decide +kernel) (by decide)))) (kw_or (kVal_cmp (op_neD hr.units) s_ne (ok_callB call_lenA s_len (by rfl) T.z_len (by decide +kernel) (pao_cons (pv 4) pao_nil)) ok_int) (kw_or (k_not (kVal_val (ok_call (o_u_law_is_in T) (hr.mono (by decide)) (by rfl) T.m_u_law_is_in T.k_u_law_is_in T.b_u_law_is_in (paa_cons (ok_ix ix_seq s_ix (pv 4) ok_int) (paa_cons ok_int (paa_cons (ok_op op_sub s_sub (pv 0) ok_int) paa_nil)))))) (kw_or1 (k_not (kVal_val (ok_call (o_u_law_is_in T) (hr.mono (by decide)) (by rfl) T.m_u_law_is_in T.k_u_law_is_in T.b_u_law_is_in (paa_cons (ok_ix ix_seq s_ix (pv 4) ok_int) (paa_cons ok_int (paa_cons (ok_op op_sub s_sub (pv 0) ok_int) paa_nil))))))))))) (ss_one (s_ret ok_bl)) ss_nil) (ss_one (s_set (i := 3) (by decide) (ok_op op_addAll s_add (pv 3) (ok_lst (paa_cons (ok_ix ix_seq s_ix (pv 4) ok_int) (paa_cons (ok_ix ix_seq s_ix (pv 4) ok_int) paa_nil)))) sc_u_law_is_network.nd rfl (by first | exact .inl rfl | exact .inr rfl))))) (ss_one (s_if (k_w (kw_or (kVal_cmp (op_neD hr.units) s_ne (ok_callB call_lenA s_len (by rfl) T.z_len (by decide +kernel) (pao_cons (ok_srtSet rfl (by rfl) T.z_sorted (by rfl) T.z_set (pao_cons (pv 3) pao_nil)) pao_nil)) (ok_callB call_lenA s_len (by rfl) T.z_len (by decide +kernel) (pao_cons (pv 3) pao_nil))) (kw_or (kVal_cmp (op_neD hr.units) s_ne (ok_comp [("i", 5), ("j", 6)] rfl sc_u_law_is_network.nd (i_seq (ok_slot (pv 2))) (blkOk_by (N := N_u_law_is_network) (sc := defScope d_u_law_is_network) (by decide +kernel)) (fun _ _ _ _ _ => (g_tup rfl (gn_cons (g_one sc_u_law_is_network.nd rfl (by first | exact .inl rfl | exact .inr rfl)) (gn_cons (g_one sc_u_law_is_network.nd rfl (by first | exact .inl rfl | exact .inr rfl)) gn_nil)))) (fun _ _ _ _ _ => (ts_one (kVal_cmp op_ge s_ge (pv 5) (pv 6)))) (fun _ _ _ _ _ => ok_int)) (ok_lst paa_nil)) (kw_or1 (kVal_cmp (op_neD hr.units) s_ne (ok_callTy call_list_of s_list (by rfl) T.z_list (by decide +kernel) (pao_cons (pv 2) pao_nil)) (ok_callB cr_sortedA s_sorted (by rfl) T.z_sorted (by decide +kernel) (pao_cons (pv 2) pao_nil))))))) (ss_one (s_ret ok_bl)) ss_nil)))))) (ss_one (s_ret ok_bl))))
theorem o_law (T : Txt w K mg a) : FnOk P w K mg base CX0 8 a.a_law a.f_law ["script"] (spP K F_law) := by
  refine fokP (N := N_law) (k := 7) T.F_law sc_law fun cdv A outer s H E hr => ?_
  exact (ss_cons (s_set (i := 1) (by decide) (ok_call (o_u_law_bag T) (hr.mono (by decide)) (by rfl) T.m_u_law_bag T.k_u_law_bag T.b_u_law_bag (paa_cons (ok_slot (pv 0)) paa_nil)) sc_law.nd rfl (by first | exact .inl rfl | exact .inr rfl)) (ss_cons (s_for (by decide) PassesOwn.never rfl (i_rng1 (by rfl) T.z_range (pao_cons ok_int pao_nil)) (g_one sc_law.nd rfl (by first | exact .inl rfl | exact .inr rfl)) (ss_cons (s_set (i := 3) (by decide) (ok_op op_addAll s_add ok_int (ok_callB' (o_u_law_take T) (hr.mono (by decide)) (by rfl) T.m_u_law_take T.k_u_law_take T.b_u_law_take (pv 1) (paa_cons ok_int paa_nil))) sc_law.nd rfl (by first | exact .inl rfl | exact .inr rfl)) (ss_cons (s_set (i := 4) (by decide) (ok_callB' (o_u_law_network T) (hr.mono (by decide)) (by rfl) T.m_u_law_network T.k_u_law_network T.b_u_law_network (pv 1) (paa_cons (ok_slot (pv 3)) (paa_cons ok_int paa_nil))) sc_law.nd rfl (by first | exact .inl rfl | exact .inr rfl)) (ss_cons (s_set (i := 5) (by decide) (ok_callTy call_tuple_of s_tuple (by rfl) T.z_tuple (by decide +kernel) (pao_cons (ok_comp [("place", 6)] rfl sc_law.nd (i_rng1 (by rfl) T.z_range (pao_cons (pv 3) pao_nil)) (blkOk_by (N := N_law) (sc := defScope d_law) (by decide +kernel)) (fun _ _ _ _ _ => (g_one sc_law.nd rfl (by first | exact .inl rfl | exact .inr rfl))) (fun _ _ _ _ _ => ts_nil) (fun _ _ _ _ _ => (ok_callB' (o_u_law_take T) (hr.mono (by decide)) (by rfl) T.m_u_law_take T.k_u_law_take T.b_u_law_take (pv 1) (paa_cons ok_int paa_nil)))) pao_nil)) sc_law.nd rfl (by first | exact .inl rfl | exact .inr rfl)) (ss_cons (s_if (k_not (kVal_val (ok_call (o_u_law_alike T) (hr.mono (by decide)) (by rfl) T.m_u_law_alike T.k_u_law_alike T.b_u_law_alike (paa_cons (ok_lst (paa_cons (ok_call (o_is_network T) (hr.mono (by decide)) (by rfl) T.m_is_network T.k_is_network T.b_is_network (paa_cons (ok_slot (pv 3)) (paa_cons (ok_slot (pv 4)) paa_nil))) (paa_cons (ok_call (o_done T) (hr.mono (by decide)) (by rfl) T.m_done T.k_done T.b_done (paa_cons (ok_slot (pv 4)) (paa_cons (ok_slot (pv 5)) paa_nil))) paa_nil))) (paa_cons (ok_lst (paa_cons ok_bl (paa_cons (ok_callTy call_tuple_of s_tuple (by rfl) T.z_tuple (by decide +kernel) (pao_cons (ok_call (o_u_law_through T) (hr.mono (by decide)) (by rfl) T.m_u_law_through T.k_u_law_through T.b_u_law_through (paa_cons (ok_slot (pv 4)) (paa_cons (ok_slot (pv 5)) paa_nil))) pao_nil)) paa_nil))) paa_nil))))) (ss_one (s_ret ok_bl)) ss_nil) (ss_cons (s_set (i := 7) (by decide) (ok_callTy call_list_of s_list (by rfl) T.z_list (by decide +kernel) (pao_cons (pv 5) pao_nil)) sc_law.nd rfl (by first | exact .inl rfl | exact .inr rfl)) (ss_cons (s_for (by decide) PassesOwn.never rfl (i_seq (ok_slot (pv 4))) (g_one sc_law.nd rfl (by first | exact .inl rfl | exact .inr rfl)) (ss_one (s_set (i := 7) (by decide) (ok_callTy call_list_of s_list (by rfl) T.z_list (by decide +kernel) (pao_cons (ok_call (o_level_done T) (hr.mono (by decide)) (by rfl) T.m_level_done T.k_level_done T.b_level_done (paa_cons (ok_slot (pv 8)) (paa_cons (ok_slot (pv 7)) paa_nil))) pao_nil)) sc_law.nd rfl (by first | exact .inl rfl | exact .inr rfl)))) (ss_cons (s_if (k_w (kw_or (kVal_cmp (op_neD hr.units) s_ne (pv 7) (ok_call (o_u_law_through T) (hr.mono (by decide)) (by rfl) T.m_u_law_through T.k_u_law_through T.b_u_law_through (paa_cons (ok_slot (pv 4)) (paa_cons (ok_slot (pv 5)) paa_nil)))) (kw_or1 (kVal_cmp (op_neD hr.units) s_ne (pv 5) (ok_callTy call_tuple_of s_tuple (by rfl) T.z_tuple (by decide +kernel) (pao_cons (pv 5) pao_nil)))))) (ss_one (s_ret ok_bl)) ss_nil) (ss_cons (s_set (i := 9) (by decide) (ok_callTy call_tuple_of s_tuple (by rfl) T.z_tuple (by decide +kernel) (pao_cons (ok_comp [("place", 6), ("number", 10)] rfl sc_law.nd (i_enum (by rfl) T.z_enumerate (paa_cons (ok_slot (pv 5)) paa_nil)) (blkOk_by (N := N_law) (sc := defScope d_law) (by decide +kernel)) (fun _ _ _ _ _ => (g_tup rfl (gn_cons (g_one sc_law.nd rfl (by first | exact .inl rfl | exact .inr rfl)) (gn_cons (g_one sc_law.nd rfl (by first | exact .inl rfl | exact .inr rfl)) gn_nil)))) (fun _ _ _ _ _ => ts_nil) (fun _ _ _ _ _ => (ok_tup (paa_cons (ok_slot (pv 10)) (paa_cons (ok_slot (pv 6)) paa_nil))))) pao_nil)) sc_law.nd rfl (by first | exact .inl rfl | exact .inr rfl)) (ss_cons (s_if (k_not (kVal_val (ok_call (o_u_law_alike T) (hr.mono (by decide)) (by rfl) T.m_u_law_alike T.k_u_law_alike T.b_u_law_alike (paa_cons (ok_call (o_done T) (hr.mono (by decide)) (by rfl) T.m_done T.k_done T.b_done (paa_cons (ok_slot (pv 4)) (paa_cons (ok_slot (pv 9)) paa_nil))) (paa_cons (ok_callTy call_tuple_of s_tuple (by rfl) T.z_tuple (by decide +kernel) (pao_cons (ok_call (o_u_law_through T) (hr.mono (by decide)) (by rfl) T.m_u_law_through T.k_u_law_through T.b_u_law_through (paa_cons (ok_slot (pv 4)) (paa_cons (ok_slot (pv 9)) paa_nil))) pao_nil)) paa_nil))))) (ss_one (s_ret ok_bl)) ss_nil) (ss_cons (s_set (i := 11) (by decide) (ok_lst paa_nil) sc_law.nd rfl (by first | exact .inl rfl | exact .inr rfl)) (ss_cons (s_for (by decide) PassesOwn.never rfl (i_seq (ok_slot (pv 4))) (g_one sc_law.nd rfl (by first | exact .inl rfl | exact .inr rfl)) (ss_one (s_drop (ok_methL PySem.F.slot_list_extend PySem.F.type_list_extend mt_extend m_extend (pv 11) (paa_cons (ok_callTy call_list_of s_list (by rfl) T.z_list (by decide +kernel) (pao_cons (pv 8) pao_nil)) paa_nil))))) (ss_cons (s_if (k_not (kVal_val (ok_call (o_u_law_alike T) (hr.mono (by decide)) (by rfl) T.m_u_law_alike T.k_u_law_alike T.b_u_law_alike (paa_cons (ok_call (o_pairs_of T) (hr.mono (by decide)) (by rfl) T.m_pairs_of T.k_pairs_of T.b_pairs_of (paa_cons (ok_slot (pv 4)) paa_nil)) (paa_cons (ok_callTy call_tuple_of s_tuple (by rfl) T.z_tuple (by decide +kernel) (pao_cons (pv 11) pao_nil)) paa_nil))))) (ss_one (s_ret ok_bl)) ss_nil) (ss_cons (s_set (i := 12) (by decide) (ok_lst paa_nil) sc_law.nd rfl (by first | exact .inl rfl | exact .inr rfl)) (ss_cons (s_for (by decide) PassesOwn.never rfl (i_rng1 (by rfl) T.z_range (pao_cons (ok_callB' (o_u_law_take T) (hr.mono (by decide)) (by rfl) T.m_u_law_take T.k_u_law_take T.b_u_law_take (pv 1) (paa_cons ok_int paa_nil)) pao_nil)) (g_one sc_law.nd rfl (by first | exact .inl rfl | exact .inr rfl)) (ss_cons (s_set (i := 14) (by decide) (ok_sl (ok_callB' (o_u_law_mixed T) (hr.mono (by decide)) (by rfl) T.m_u_law_mixed T.k_u_law_mixed T.b_u_law_mixed (pv 1) (paa_cons (ok_lrg1 rfl (by rfl) T.z_list (by rfl) T.z_range (pv 3)) paa_nil)) part_no (part_at ok_int)) sc_law.nd rfl (by first | exact .inl rfl | exact .inr rfl)) (ss_one (s_set (i := 12) (by decide) (ok_op op_addAll s_add (pv 12) (ok_if (kVal_cmp (op_eqD hr.units) s_eq (ok_callB call_lenA s_len (by rfl) T.z_len (by decide +kernel) (pao_cons (pv 14) pao_nil)) ok_int) (ok_lst (paa_cons (ok_tup (paa_cons (ok_callB (call_minA rfl) s_min (by rfl) T.z_min (by decide +kernel) (pao_cons (pv 14) pao_nil)) (paa_cons (ok_callB (call_maxA rfl) s_max (by rfl) T.z_max (by decide +kernel) (pao_cons (pv 14) pao_nil)) paa_nil))) paa_nil)) (ok_lst paa_nil))) sc_law.nd rfl (by first | exact .inl rfl | exact .inr rfl))))) (ss_cons (s_set (i := 15) (by decide) (ok_call (o_levelled T) (hr.mono (by decide)) (by rfl) T.m_levelled T.k_levelled T.b_levelled (paa_cons (ok_callTy call_tuple_of s_tuple (by rfl) T.z_tuple (by decide +kernel) (pao_cons (pv 12) pao_nil)) paa_nil)) sc_law.nd rfl (by first | exact .inl rfl | exact .inr rfl)) (ss_cons (s_if (k_not (kVal_val (ok_call (o_u_law_alike T) (hr.mono (by decide)) (by rfl) T.m_u_law_alike T.k_u_law_alike T.b_u_law_alike (paa_cons (ok_lst (paa_cons (ok_slot (pv 15)) (paa_cons (ok_call (o_is_network T) (hr.mono (by decide)) (by rfl) T.m_is_network T.k_is_network T.b_is_network (paa_cons (ok_slot (pv 3)) (paa_cons (ok_slot (pv 15)) paa_nil))) paa_nil))) (paa_cons (ok_lst (paa_cons (ok_call (o_u_law_levelled T) (hr.mono (by decide)) (by rfl) T.m_u_law_levelled T.k_u_law_levelled T.b_u_law_levelled (paa_cons (ok_slot (pv 12)) paa_nil)) (paa_cons ok_bl paa_nil))) paa_nil))))) (ss_one (s_ret ok_bl)) ss_nil) (ss_cons (s_if (kVal_cmp (op_neD hr.units) s_ne (ok_call (o_u_law_through T) (hr.mono (by decide)) (by rfl) T.m_u_law_through T.k_u_law_through T.b_u_law_through (paa_cons (ok_slot (pv 15)) (paa_cons (ok_slot (pv 5)) paa_nil))) (ok_call (o_u_law_through T) (hr.mono (by decide)) (by rfl) T.m_u_law_through T.k_u_law_through T.b_u_law_through (paa_cons (ok_comp [("pair", 16)] rfl sc_law.nd (i_seq (ok_slot (pv 12))) (blkOk_by (N := N_law) (sc := defScope d_law) (by decide +kernel)) (fun _ _ _ _ _ => (g_one sc_law.nd rfl (by first | exact .inl rfl | exact .inr rfl))) (fun _ _ _ _ _ => ts_nil) (fun _ _ _ _ _ => (ok_lst (paa_cons (ok_slot (pv 16)) paa_nil)))) (paa_cons (ok_slot (pv 5)) paa_nil)))) (ss_one (s_ret ok_bl)) ss_nil) (ss_one (s_for (by decide) PassesOwn.never rfl (i_rng1 (by rfl) T.z_range (pao_cons ok_int pao_nil)) (g_one sc_law.nd rfl (by first | exact .inl rfl | exact .inr rfl)) (ss_cons (s_set (i := 17) (by decide) (ok_callB' (o_u_law_bent T 5) (hr.mono (by decide)) (by rfl) T.m_u_law_bent T.k_u_law_bent T.b_u_law_bent (pv 1) (paa_cons (ok_slot (pv 4)) (paa_cons ok_int paa_nil))) sc_law.nd rfl (by first | exact .inl rfl | exact .inr rfl)) (ss_one (s_if (k_not (kVal_val (ok_call (o_u_law_alike T) (hr.mono (by decide)) (by rfl) T.m_u_law_alike T.k_u_law_alike T.b_u_law_alike (paa_cons (ok_call (o_is_network T) (hr.mono (by decide)) (by rfl) T.m_is_network T.k_is_network T.b_is_network (paa_cons (ok_slot (pv 3)) (paa_cons (ok_slot (pv 17)) paa_nil))) (paa_cons (ok_call (o_u_law_is_network T) (hr.mono (by decide)) (by rfl) T.m_u_law_is_network T.k_u_law_is_network T.b_u_law_is_network (paa_cons (ok_slot (pv 3)) (paa_cons (ok_slot (pv 17)) paa_nil))) paa_nil))))) (ss_one (s_ret ok_bl)) ss_nil))))))))))))))))))))))) (ss_one (s_ret ok_bl))))
end
theorem all_mk {l : PySem.W.OpenLaw} {w : World} {K : PySem.W.Frag} {h : Heap} {mg : Str → Option Value} {fa : Addr} {f0 f1 f2 f3 f4 f5 f6 f7 f8 f9 f10 f11 f12 f13 f14 f15 f16 f17 f18 f19 f20 f21 : Addr} (X : K.In h) (G : h.Ns mainGlobals mg) (hfa : mg "law" = some (.ref fa))
    {od0 an0 : Option Addr} {sl0 : Array (Option Value)} {oc0 kV0 dc0 pm0 cd0 ct0 : Value}
    {od1 an1 : Option Addr} {sl1 : Array (Option Value)} {oc1 kV1 dc1 pm1 cd1 ct1 : Value}
    {od2 an2 : Option Addr} {sl2 : Array (Option Value)} {oc2 kV2 dc2 pm2 cd2 ct2 : Value}
    {od3 an3 : Option Addr} {sl3 : Array (Option Value)} {oc3 kV3 dc3 pm3 cd3 ct3 : Value}
    {od4 an4 : Option Addr} {sl4 : Array (Option Value)} {oc4 kV4 dc4 pm4 cd4 ct4 : Value}
    {od5 an5 : Option Addr} {sl5 : Array (Option Value)} {oc5 kV5 dc5 pm5 cd5 ct5 : Value}
    {od6 an6 : Option Addr} {sl6 : Array (Option Value)} {oc6 kV6 dc6 pm6 cd6 ct6 : Value}
    {od7 an7 : Option Addr} {sl7 : Array (Option Value)} {oc7 kV7 dc7 pm7 cd7 ct7 : Value}
    {od8 an8 : Option Addr} {sl8 : Array (Option Value)} {oc8 kV8 dc8 pm8 cd8 ct8 : Value}
    {od9 an9 : Option Addr} {sl9 : Array (Option Value)} {oc9 kV9 dc9 pm9 cd9 ct9 : Value}
    {od10 an10 : Option Addr} {sl10 : Array (Option Value)} {oc10 kV10 dc10 pm10 cd10 ct10 : Value}
    {od11 an11 : Option Addr} {sl11 : Array (Option Value)} {oc11 kV11 dc11 pm11 cd11 ct11 : Value}
    {od12 an12 : Option Addr} {sl12 : Array (Option Value)} {oc12 kV12 dc12 pm12 cd12 ct12 : Value}
    {od13 an13 : Option Addr} {sl13 : Array (Option Value)} {oc13 kV13 dc13 pm13 cd13 ct13 : Value}
    {od14 an14 : Option Addr} {sl14 : Array (Option Value)} {oc14 kV14 dc14 pm14 cd14 ct14 : Value}
    {od15 an15 : Option Addr} {sl15 : Array (Option Value)} {oc15 kV15 dc15 pm15 cd15 ct15 : Value}
    {od16 an16 : Option Addr} {sl16 : Array (Option Value)} {oc16 kV16 dc16 pm16 cd16 ct16 : Value}
    {od17 an17 : Option Addr} {sl17 : Array (Option Value)} {oc17 kV17 dc17 pm17 cd17 ct17 : Value}
    {od18 an18 : Option Addr} {sl18 : Array (Option Value)} {oc18 kV18 dc18 pm18 cd18 ct18 : Value}
    {od19 an19 : Option Addr} {sl19 : Array (Option Value)} {oc19 kV19 dc19 pm19 cd19 ct19 : Value}
    {od20 an20 : Option Addr} {sl20 : Array (Option Value)} {oc20 kV20 dc20 pm20 cd20 ct20 : Value}
    {od21 an21 : Option Addr} {sl21 : Array (Option Value)} {oc21 kV21 dc21 pm21 cd21 ct21 : Value}
    (a0 : PySem.W.nsIn K mainGlobals "_law_bag" = some (some (.ref f0))) (l0 : K.lookup f0 = some ⟨oc0, od0, .func (PySem.W.fnOf "_law_bag" "_law_bag" (defArgs d_u_law_bag) (defBody d_u_law_bag) (defScope d_u_law_bag) .none kV0 dc0 pm0 an0 cd0 ct0), sl0⟩) (c0 : PySem.W.codeIn K cd0 "_law_bag" = true) (k0 : PySem.W.keepIn K (.ref f0) = true)
    (a1 : PySem.W.nsIn K mainGlobals "_law_take" = some (some (.ref f1))) (l1 : K.lookup f1 = some ⟨oc1, od1, .func (PySem.W.fnOf "_law_take" "_law_take" (defArgs d_u_law_take) (defBody d_u_law_take) (defScope d_u_law_take) .none kV1 dc1 pm1 an1 cd1 ct1), sl1⟩) (c1 : PySem.W.codeIn K cd1 "_law_take" = true) (k1 : PySem.W.keepIn K (.ref f1) = true)
    (a2 : PySem.W.nsIn K mainGlobals "_law_mixed" = some (some (.ref f2))) (l2 : K.lookup f2 = some ⟨oc2, od2, .func (PySem.W.fnOf "_law_mixed" "_law_mixed" (defArgs d_u_law_mixed) (defBody d_u_law_mixed) (defScope d_u_law_mixed) .none kV2 dc2 pm2 an2 cd2 ct2), sl2⟩) (c2 : PySem.W.codeIn K cd2 "_law_mixed" = true) (k2 : PySem.W.keepIn K (.ref f2) = true)
    (a3 : PySem.W.nsIn K mainGlobals "_law_network" = some (some (.ref f3))) (l3 : K.lookup f3 = some ⟨oc3, od3, .func (PySem.W.fnOf "_law_network" "_law_network" (defArgs d_u_law_network) (defBody d_u_law_network) (defScope d_u_law_network) .none kV3 dc3 pm3 an3 cd3 ct3), sl3⟩) (c3 : PySem.W.codeIn K cd3 "_law_network" = true) (k3 : PySem.W.keepIn K (.ref f3) = true)
    (a4 : PySem.W.nsIn K mainGlobals "_law_alike" = some (some (.ref f4))) (l4 : K.lookup f4 = some ⟨oc4, od4, .func (PySem.W.fnOf "_law_alike" "_law_alike" (defArgs d_u_law_alike) (defBody d_u_law_alike) (defScope d_u_law_alike) .none kV4 dc4 pm4 an4 cd4 ct4), sl4⟩) (c4 : PySem.W.codeIn K cd4 "_law_alike" = true) (k4 : PySem.W.keepIn K (.ref f4) = true)
    (a5 : PySem.W.nsIn K mainGlobals "_law_through" = some (some (.ref f5))) (l5 : K.lookup f5 = some ⟨oc5, od5, .func (PySem.W.fnOf "_law_through" "_law_through" (defArgs d_u_law_through) (defBody d_u_law_through) (defScope d_u_law_through) .none kV5 dc5 pm5 an5 cd5 ct5), sl5⟩) (c5 : PySem.W.codeIn K cd5 "_law_through" = true) (k5 : PySem.W.keepIn K (.ref f5) = true)
    (a6 : PySem.W.nsIn K mainGlobals "level_done" = some (some (.ref f6))) (l6 : K.lookup f6 = some ⟨oc6, od6, .func (PySem.W.fnOf "level_done" "level_done" (defArgs d_level_done) (defBody d_level_done) (defScope d_level_done) .none kV6 dc6 pm6 an6 cd6 ct6), sl6⟩) (c6 : PySem.W.codeIn K cd6 "level_done" = true) (k6 : PySem.W.keepIn K (.ref f6) = true)
    (a7 : PySem.W.nsIn K mainGlobals "done" = some (some (.ref f7))) (l7 : K.lookup f7 = some ⟨oc7, od7, .func (PySem.W.fnOf "done" "done" (defArgs d_done) (defBody d_done) (defScope d_done) .none kV7 dc7 pm7 an7 cd7 ct7), sl7⟩) (c7 : PySem.W.codeIn K cd7 "done" = true) (k7 : PySem.W.keepIn K (.ref f7) = true)
    (a8 : PySem.W.nsIn K mainGlobals "is_integer" = some (some (.ref f8))) (l8 : K.lookup f8 = some ⟨oc8, od8, .func (PySem.W.fnOf "is_integer" "is_integer" (defArgs d_is_integer) (defBody d_is_integer) (defScope d_is_integer) .none kV8 dc8 pm8 an8 cd8 ct8), sl8⟩) (c8 : PySem.W.codeIn K cd8 "is_integer" = true) (k8 : PySem.W.keepIn K (.ref f8) = true)
    (a9 : PySem.W.nsIn K mainGlobals "is_within" = some (some (.ref f9))) (l9 : K.lookup f9 = some ⟨oc9, od9, .func (PySem.W.fnOf "is_within" "is_within" (defArgs d_is_within) (defBody d_is_within) (defScope d_is_within) .none kV9 dc9 pm9 an9 cd9 ct9), sl9⟩) (c9 : PySem.W.codeIn K cd9 "is_within" = true) (k9 : PySem.W.keepIn K (.ref f9) = true)
    (a10 : PySem.W.nsIn K mainGlobals "is_pair" = some (some (.ref f10))) (l10 : K.lookup f10 = some ⟨oc10, od10, .func (PySem.W.fnOf "is_pair" "is_pair" (defArgs d_is_pair) (defBody d_is_pair) (defScope d_is_pair) .none kV10 dc10 pm10 an10 cd10 ct10), sl10⟩) (c10 : PySem.W.codeIn K cd10 "is_pair" = true) (k10 : PySem.W.keepIn K (.ref f10) = true)
    (a11 : PySem.W.nsIn K mainGlobals "is_level" = some (some (.ref f11))) (l11 : K.lookup f11 = some ⟨oc11, od11, .func (PySem.W.fnOf "is_level" "is_level" (defArgs d_is_level) (defBody d_is_level) (defScope d_is_level) .none kV11 dc11 pm11 an11 cd11 ct11), sl11⟩) (c11 : PySem.W.codeIn K cd11 "is_level" = true) (k11 : PySem.W.keepIn K (.ref f11) = true)
    (a12 : PySem.W.nsIn K mainGlobals "is_network" = some (some (.ref f12))) (l12 : K.lookup f12 = some ⟨oc12, od12, .func (PySem.W.fnOf "is_network" "is_network" (defArgs d_is_network) (defBody d_is_network) (defScope d_is_network) .none kV12 dc12 pm12 an12 cd12 ct12), sl12⟩) (c12 : PySem.W.codeIn K cd12 "is_network" = true) (k12 : PySem.W.keepIn K (.ref f12) = true)
    (a13 : PySem.W.nsIn K mainGlobals "pairs_of" = some (some (.ref f13))) (l13 : K.lookup f13 = some ⟨oc13, od13, .func (PySem.W.fnOf "pairs_of" "pairs_of" (defArgs d_pairs_of) (defBody d_pairs_of) (defScope d_pairs_of) .none kV13 dc13 pm13 an13 cd13 ct13), sl13⟩) (c13 : PySem.W.codeIn K cd13 "pairs_of" = true) (k13 : PySem.W.keepIn K (.ref f13) = true)
    (a14 : PySem.W.nsIn K mainGlobals "levelled" = some (some (.ref f14))) (l14 : K.lookup f14 = some ⟨oc14, od14, .func (PySem.W.fnOf "levelled" "levelled" (defArgs d_levelled) (defBody d_levelled) (defScope d_levelled) .none kV14 dc14 pm14 an14 cd14 ct14), sl14⟩) (c14 : PySem.W.codeIn K cd14 "levelled" = true) (k14 : PySem.W.keepIn K (.ref f14) = true)
    (a15 : PySem.W.nsIn K mainGlobals "_law_levelled" = some (some (.ref f15))) (l15 : K.lookup f15 = some ⟨oc15, od15, .func (PySem.W.fnOf "_law_levelled" "_law_levelled" (defArgs d_u_law_levelled) (defBody d_u_law_levelled) (defScope d_u_law_levelled) .none kV15 dc15 pm15 an15 cd15 ct15), sl15⟩) (c15 : PySem.W.codeIn K cd15 "_law_levelled" = true) (k15 : PySem.W.keepIn K (.ref f15) = true)
    (a16 : PySem.W.nsIn K mainGlobals "_law_is_int" = some (some (.ref f16))) (l16 : K.lookup f16 = some ⟨oc16, od16, .func (PySem.W.fnOf "_law_is_int" "_law_is_int" (defArgs d_u_law_is_int) (defBody d_u_law_is_int) (defScope d_u_law_is_int) .none kV16 dc16 pm16 an16 cd16 ct16), sl16⟩) (c16 : PySem.W.codeIn K cd16 "_law_is_int" = true) (k16 : PySem.W.keepIn K (.ref f16) = true)
    (a17 : PySem.W.nsIn K mainGlobals "_law_some" = some (some (.ref f17))) (l17 : K.lookup f17 = some ⟨oc17, od17, .func (PySem.W.fnOf "_law_some" "_law_some" (defArgs d_u_law_some) (defBody d_u_law_some) (defScope d_u_law_some) .none kV17 dc17 pm17 an17 cd17 ct17), sl17⟩) (c17 : PySem.W.codeIn K cd17 "_law_some" = true) (k17 : PySem.W.keepIn K (.ref f17) = true)
    (a18 : PySem.W.nsIn K mainGlobals "_law_bent" = some (some (.ref f18))) (l18 : K.lookup f18 = some ⟨oc18, od18, .func (PySem.W.fnOf "_law_bent" "_law_bent" (defArgs d_u_law_bent) (defBody d_u_law_bent) (defScope d_u_law_bent) .none kV18 dc18 pm18 an18 cd18 ct18), sl18⟩) (c18 : PySem.W.codeIn K cd18 "_law_bent" = true) (k18 : PySem.W.keepIn K (.ref f18) = true)
    (a19 : PySem.W.nsIn K mainGlobals "_law_is_in" = some (some (.ref f19))) (l19 : K.lookup f19 = some ⟨oc19, od19, .func (PySem.W.fnOf "_law_is_in" "_law_is_in" (defArgs d_u_law_is_in) (defBody d_u_law_is_in) (defScope d_u_law_is_in) .none kV19 dc19 pm19 an19 cd19 ct19), sl19⟩) (c19 : PySem.W.codeIn K cd19 "_law_is_in" = true) (k19 : PySem.W.keepIn K (.ref f19) = true)
    (a20 : PySem.W.nsIn K mainGlobals "_law_is_network" = some (some (.ref f20))) (l20 : K.lookup f20 = some ⟨oc20, od20, .func (PySem.W.fnOf "_law_is_network" "_law_is_network" (defArgs d_u_law_is_network) (defBody d_u_law_is_network) (defScope d_u_law_is_network) .none kV20 dc20 pm20 an20 cd20 ct20), sl20⟩) (c20 : PySem.W.codeIn K cd20 "_law_is_network" = true) (k20 : PySem.W.keepIn K (.ref f20) = true)
    (a21 : PySem.W.nsIn K mainGlobals "law" = some (some (.ref f21))) (l21 : K.lookup f21 = some ⟨oc21, od21, .func (PySem.W.fnOf "law" "law" (defArgs d_law) (defBody d_law) (defScope d_law) .none kV21 dc21 pm21 an21 cd21 ct21), sl21⟩) (c21 : PySem.W.codeIn K cd21 "law" = true) (k21 : PySem.W.keepIn K (.ref f21) = true)
    (z_abs : PySem.W.nsIn K mainGlobals "abs" = some none)
    (z_all : PySem.W.nsIn K mainGlobals "all" = some none)
    (z_bool : PySem.W.nsIn K mainGlobals "bool" = some none)
    (z_enumerate : PySem.W.nsIn K mainGlobals "enumerate" = some none)
    (z_int : PySem.W.nsIn K mainGlobals "int" = some none)
    (z_isinstance : PySem.W.nsIn K mainGlobals "isinstance" = some none)
    (z_len : PySem.W.nsIn K mainGlobals "len" = some none)
    (z_list : PySem.W.nsIn K mainGlobals "list" = some none)
    (z_max : PySem.W.nsIn K mainGlobals "max" = some none)
    (z_min : PySem.W.nsIn K mainGlobals "min" = some none)
    (z_range : PySem.W.nsIn K mainGlobals "range" = some none)
    (z_set : PySem.W.nsIn K mainGlobals "set" = some none)
    (z_sorted : PySem.W.nsIn K mainGlobals "sorted" = some none)
    (z_str : PySem.W.nsIn K mainGlobals "str" = some none)
    (z_tuple : PySem.W.nsIn K mainGlobals "tuple" = some none)
    (z_zip : PySem.W.nsIn K mainGlobals "zip" = some none)
    (ye_MOST_LEVELS : ∃ t, PySem.W.nsIn K mainGlobals "MOST_LEVELS" = some (some (.int 300 t)))
    (ye_PAIR : ∃ t, PySem.W.nsIn K mainGlobals "PAIR" = some (some (.int 2 t)))
    : ∃ fd : FuncData, (∀ (s : Shared) (v : Value), BindsTo s fd ⟨[v], []⟩ [("script", v)]) ∧ ∀ base : Heap, K.In base → base.Ns mainGlobals mg → FnOk l.prog w K mg base CX0 8 fa fd ["script"] (spP K F_law) := by
  have e := hfa.symm.trans (PySem.W.mg_of X G a21)
  cases e
  have F0 := fun_mk (st := d_u_law_bag) l0 c0 k0
  have b0 := F0.binds (ps := ["script"]) fun _ _ _ _ _ _ us hl => match us, hl with | [_], _ => rfl
  have F1 := fun_mk (st := d_u_law_take) l1 c1 k1
  have b1 := F1.binds (ps := ["bag", "many"]) fun _ _ _ _ _ _ us hl => match us, hl with | [_, _], _ => rfl
  have F2 := fun_mk (st := d_u_law_mixed) l2 c2 k2
  have b2 := F2.binds (ps := ["bag", "things"]) fun _ _ _ _ _ _ us hl => match us, hl with | [_, _], _ => rfl
  have F3 := fun_mk (st := d_u_law_network) l3 c3 k3
  have b3 := F3.binds (ps := ["bag", "many", "most"]) fun _ _ _ _ _ _ us hl => match us, hl with | [_, _, _], _ => rfl
  have F4 := fun_mk (st := d_u_law_alike) l4 c4 k4
  have b4 := F4.binds (ps := ["found", "due"]) fun _ _ _ _ _ _ us hl => match us, hl with | [_, _], _ => rfl
  have F5 := fun_mk (st := d_u_law_through) l5 c5 k5
  have b5 := F5.binds (ps := ["network", "numbers"]) fun _ _ _ _ _ _ us hl => match us, hl with | [_, _], _ => rfl
  have F6 := fun_mk (st := d_level_done) l6 c6 k6
  have b6 := F6.binds (ps := ["level", "numbers"]) fun _ _ _ _ _ _ us hl => match us, hl with | [_, _], _ => rfl
  have F7 := fun_mk (st := d_done) l7 c7 k7
  have b7 := F7.binds (ps := ["network", "numbers"]) fun _ _ _ _ _ _ us hl => match us, hl with | [_, _], _ => rfl
  have F8 := fun_mk (st := d_is_integer) l8 c8 k8
  have b8 := F8.binds (ps := ["thing"]) fun _ _ _ _ _ _ us hl => match us, hl with | [_], _ => rfl
  have F9 := fun_mk (st := d_is_within) l9 c9 k9
  have b9 := F9.binds (ps := ["thing", "least", "most"]) fun _ _ _ _ _ _ us hl => match us, hl with | [_, _, _], _ => rfl
  have F10 := fun_mk (st := d_is_pair) l10 c10 k10
  have b10 := F10.binds (ps := ["many", "thing"]) fun _ _ _ _ _ _ us hl => match us, hl with | [_, _], _ => rfl
  have F11 := fun_mk (st := d_is_level) l11 c11 k11
  have b11 := F11.binds (ps := ["many", "thing"]) fun _ _ _ _ _ _ us hl => match us, hl with | [_, _], _ => rfl
  have F12 := fun_mk (st := d_is_network) l12 c12 k12
  have b12 := F12.binds (ps := ["many", "thing"]) fun _ _ _ _ _ _ us hl => match us, hl with | [_, _], _ => rfl
  have F13 := fun_mk (st := d_pairs_of) l13 c13 k13
  have b13 := F13.binds (ps := ["network"]) fun _ _ _ _ _ _ us hl => match us, hl with | [_], _ => rfl
  have F14 := fun_mk (st := d_levelled) l14 c14 k14
  have b14 := F14.binds (ps := ["pairs"]) fun _ _ _ _ _ _ us hl => match us, hl with | [_], _ => rfl
  have F15 := fun_mk (st := d_u_law_levelled) l15 c15 k15
  have b15 := F15.binds (ps := ["pairs"]) fun _ _ _ _ _ _ us hl => match us, hl with | [_], _ => rfl
  have F16 := fun_mk (st := d_u_law_is_int) l16 c16 k16
  have b16 := F16.binds (ps := ["thing"]) fun _ _ _ _ _ _ us hl => match us, hl with | [_], _ => rfl
  have F17 := fun_mk (st := d_u_law_some) l17 c17 k17
  have b17 := F17.binds (ps := ["bag", "things"]) fun _ _ _ _ _ _ us hl => match us, hl with | [_, _], _ => rfl
  have F18 := fun_mk (st := d_u_law_bent) l18 c18 k18
  have b18 := F18.binds (ps := ["bag", "thing", "depth"]) fun _ _ _ _ _ _ us hl => match us, hl with | [_, _, _], _ => rfl
  have F19 := fun_mk (st := d_u_law_is_in) l19 c19 k19
  have b19 := F19.binds (ps := ["thing", "least", "most"]) fun _ _ _ _ _ _ us hl => match us, hl with | [_, _, _], _ => rfl
  have F20 := fun_mk (st := d_u_law_is_network) l20 c20 k20
  have b20 := F20.binds (ps := ["many", "thing"]) fun _ _ _ _ _ _ us hl => match us, hl with | [_, _], _ => rfl
  have F21 := fun_mk (st := d_law) l21 c21 k21
  have b21 := F21.binds (ps := ["script"]) fun _ _ _ _ _ _ us hl => match us, hl with | [_], _ => rfl
  have T : Txt w K mg ⟨f0, _, f1, _, f2, _, f3, _, f4, _, f5, _, f6, _, f7, _, f8, _, f9, _, f10, _, f11, _, f12, _, f13, _, f14, _, f15, _, f16, _, f17, _, f18, _, f19, _, f20, _, fa, _⟩ := ⟨k0, F0, b0, k1, F1, b1, k2, F2, b2, k3, F3, b3, k4, F4, b4, k5, F5, b5, k6, F6, b6, k7, F7, b7, k8, F8, b8, k9, F9, b9, k10, F10, b10, k11, F11, b11, k12, F12, b12, k13, F13, b13, k14, F14, b14, k15, F15, b15, k16, F16, b16, k17, F17, b17, k18, F18, b18, k19, F19, b19, k20, F20, b20, k21, F21, b21, PySem.W.mg_of X G a4, PySem.W.mg_of X G a0, PySem.W.mg_of X G a18, PySem.W.mg_of X G a19, PySem.W.mg_of X G a16, PySem.W.mg_of X G a20, PySem.W.mg_of X G a15, PySem.W.mg_of X G a2, PySem.W.mg_of X G a3, PySem.W.mg_of X G a17, PySem.W.mg_of X G a1, PySem.W.mg_of X G a5, PySem.W.mg_of X G a7, PySem.W.mg_of X G a8, PySem.W.mg_of X G a11, PySem.W.mg_of X G a12, PySem.W.mg_of X G a10, PySem.W.mg_of X G a9, PySem.W.mg_of X G a6, PySem.W.mg_of X G a14, PySem.W.mg_of X G a13, PySem.W.mg_none_of X G z_abs, PySem.W.mg_none_of X G z_all, PySem.W.mg_none_of X G z_bool, PySem.W.mg_none_of X G z_enumerate, PySem.W.mg_none_of X G z_int, PySem.W.mg_none_of X G z_isinstance, PySem.W.mg_none_of X G z_len, PySem.W.mg_none_of X G z_list, PySem.W.mg_none_of X G z_max, PySem.W.mg_none_of X G z_min, PySem.W.mg_none_of X G z_range, PySem.W.mg_none_of X G z_set, PySem.W.mg_none_of X G z_sorted, PySem.W.mg_none_of X G z_str, PySem.W.mg_none_of X G z_tuple, PySem.W.mg_none_of X G z_zip, (let ⟨t, h⟩ := ye_MOST_LEVELS; ⟨t, PySem.W.mg_of X G h⟩), (let ⟨t, h⟩ := ye_PAIR; ⟨t, PySem.W.mg_of X G h⟩)⟩
  exact ⟨_, fun s v => .of_eq rfl, fun base _ _ => o_law T⟩
theorem walk {l : PySem.W.OpenLaw} {q : Program} {loose : List Str} {XP : (Str → Option Value) → Heap → Prop} {YP : World → Heap → Prop} {d : DefRec} {K : Params → PySem.W.Frag} (plain : ∀ ns : List Int, ns.length ≤ 63 → F_law [.scr ns] = some (.sh (.bl true))) (hn : l.most = some 63) (hdf : d.params.defaults = [])
    (hY : ∀ (w : World) (h : Heap), YP w h → (K w.params).In h)
    (F : ∀ (w : World) (mg : Str → Option Value) (fa : Addr) (h : Heap), (K w.params).In h → h.Ns mainGlobals mg → mg d.name = some (.ref fa) →
      ∃ fd : FuncData, (∀ (s : Shared) (u : Value), BindsTo s fd ⟨[u], []⟩ [("script", u)]) ∧ ∀ base : Heap, (K w.params).In base → base.Ns mainGlobals mg → FnOk l.prog w (K w.params) mg base CX0 8 fa fd ["script"] (spP (K w.params) F_law)) :
    PySem.W.WalkO q loose XP YP l.row.toRowW d [] (fun f vs => PySem.call f vs) :=
  L2.walk_of (n := 63) (k := 8) (x := "script") (CX := fun _ => CX0) (sp := fun w => spP (K w.params) F_law) hn (by decide) hdf ⟨rfl, by decide, by decide⟩ hY F
    (fun _ _ a ns hl _ hS => spP_law (plain ns hl) hS) fun _ _ _ _ _ z => z
end K20
/-! Networks: pairs of places, rows of Bool, Batcher's merge. -/
namespace Net
abbrev P := Nat × Nat
abbrev St := Nat → Bool

def cx (p : P) (f : St) : St := fun k =>
  if k = p.1 then (f p.1 && f p.2) else if k = p.2 then (f p.1 || f p.2) else f k

def run : List P → St → St
  | [], f => f
  | p :: ps, f => run ps (cx p f)

theorem run_app (a b : List P) (f : St) : run (a ++ b) f = run b (run a f) := by
  induction a generalizing f with
  | nil => rfl
  | cons p ps ih => simp [run, ih]

def evens {α} : List α → List α
  | [] => []
  | [x] => [x]
  | x :: _ :: r => x :: evens r
def odds {α} : List α → List α
  | [] => []
  | [_] => []
  | _ :: y :: r => y :: odds r

/-- pairs (1,2),(3,4).. of a list -/
def nexts : List Nat → List P
  | x :: y :: r => (x, y) :: nexts r
  | _ => []

def merge : Nat → List Nat → List Nat → List P
  | 0, _, _ => []
  | j + 1, a, b =>
    if a = [] ∨ b = [] then []
    else if a.length = 1 ∧ b.length = 1 then [(a.headD 0, b.headD 0)]
    else merge j (evens a) (evens b) ++ merge j (odds a) (odds b) ++ nexts (a ++ b).tail

theorem evens_len {α} (l : List α) : (evens l).length = (l.length + 1) / 2 := by
  induction l using evens.induct with
  | case1 => simp [evens]
  | case2 x => simp [evens]
  | case3 x y r ih => simp [evens, ih]; omega
theorem odds_len {α} (l : List α) : (odds l).length = l.length / 2 := by
  induction l using odds.induct with
  | case1 => simp [odds]
  | case2 x => simp [odds]
  | case3 x y r ih => simp [odds, ih]; omega
theorem evens_get (l : List Nat) (k : Nat) : (evens l)[k]? = l[2 * k]? := by
  induction l using evens.induct generalizing k with
  | case1 => simp [evens]
  | case2 x => cases k <;> simp [evens, Nat.mul_succ]
  | case3 x y r ih => cases k <;> simp [evens, ih, Nat.mul_succ]
theorem odds_get (l : List Nat) (k : Nat) : (odds l)[k]? = l[2 * k + 1]? := by
  induction l using odds.induct generalizing k with
  | case1 => simp [odds]
  | case2 x => cases k <;> simp [odds, Nat.mul_succ]
  | case3 x y r ih => cases k <;> simp [odds, ih, Nat.mul_succ]
theorem evens_sub (l : List Nat) (x) (h : x ∈ evens l) : x ∈ l := by
  obtain ⟨k, hk⟩ := List.mem_iff_getElem?.1 h
  rw [evens_get] at hk; exact List.mem_iff_getElem?.2 ⟨_, hk⟩
theorem odds_sub (l : List Nat) (x) (h : x ∈ odds l) : x ∈ l := by
  obtain ⟨k, hk⟩ := List.mem_iff_getElem?.1 h
  rw [odds_get] at hk; exact List.mem_iff_getElem?.2 ⟨_, hk⟩

/-- the places that a list of pairs touches -/
def tch (ps : List P) : List Nat := ps.flatMap fun p => [p.1, p.2]

theorem run_frame (ps : List P) (f : St) (k : Nat) (h : k ∉ tch ps) : run ps f k = f k := by
  induction ps generalizing f with
  | nil => rfl
  | cons p ps ih =>
    simp [tch] at h
    simp only [run]
    rw [ih _ (by simpa [tch] using h.2.2)]
    simp [cx, h.1, h.2.1]

theorem nexts_tch (l : List Nat) (x) (h : x ∈ tch (nexts l)) : x ∈ l := by
  induction l using nexts.induct with
  | case1 a b r ih =>
    have e : tch (nexts (a :: b :: r)) = a :: b :: tch (nexts r) := by simp [nexts, tch]
    rw [e] at h
    simp only [List.mem_cons] at h ⊢
    rcases h with h | h | h
    · exact .inl h
    · exact .inr (.inl h)
    · exact .inr (.inr (ih h))
  | case2 l hl => 
    unfold nexts at h; split at h
    · exact absurd rfl (hl _ _ _)
    · simp [tch] at h

theorem tch_app (a b : List P) : tch (a ++ b) = tch a ++ tch b := by simp [tch]

theorem merge_tch (j : Nat) (a b : List Nat) (x) (h : x ∈ tch (merge j a b)) : x ∈ a ++ b := by
  induction j generalizing a b with
  | zero => simp [merge, tch] at h
  | succ j ih =>
    unfold merge at h
    split at h
    · simp [tch] at h
    · split at h
      · rename_i h1 h2
        match a, b, h2 with
        | [u], [v], _ => simpa [tch] using h
      · simp only [tch_app, List.mem_append] at h
        rcases h with (h | h) | h
        · rcases List.mem_append.1 (ih _ _ h) with h | h
          · exact List.mem_append_left _ (evens_sub _ _ h)
          · exact List.mem_append_right _ (evens_sub _ _ h)
        · rcases List.mem_append.1 (ih _ _ h) with h | h
          · exact List.mem_append_left _ (odds_sub _ _ h)
          · exact List.mem_append_right _ (odds_sub _ _ h)
        · exact List.mem_of_mem_tail (nexts_tch _ _ h)

/-- f along l: z times false, then true -/
def Zs (l : List Nat) (z : Nat) (f : St) : Prop := ∀ k x, l[k]? = some x → f x = decide (z ≤ k)

theorem nexts_run (l : List Nat) (hn : l.Nodup) (f : St) :
    (∀ k x y, l[2 * k]? = some x → l[2 * k + 1]? = some y →
      run (nexts l) f x = (f x && f y) ∧ run (nexts l) f y = (f x || f y)) ∧
    (∀ k x, l[2 * k]? = some x → l[2 * k + 1]? = none → run (nexts l) f x = f x) := by
  induction l using nexts.induct generalizing f with
  | case1 a b r ih =>
    simp only [List.nodup_cons, List.mem_cons, not_or] at hn
    obtain ⟨⟨hab, har⟩, hbr, hr⟩ := hn
    have ha : a ∉ tch (nexts r) := fun h => har (nexts_tch _ _ h)
    have hb : b ∉ tch (nexts r) := fun h => hbr (nexts_tch _ _ h)
    obtain ⟨i1, i2⟩ := ih hr (cx (a, b) f)
    have keep : ∀ x, x ∈ r → cx (a, b) f x = f x := by
      intro x hx
      have : x ≠ a := fun h => har (h ▸ hx)
      have : x ≠ b := fun h => hbr (h ▸ hx)
      simp [cx, *]
    constructor
    · intro k x y hx hy
      cases k with
      | zero =>
        simp at hx hy; subst hx; subst hy
        simp only [nexts, run]
        rw [run_frame _ _ _ ha, run_frame _ _ _ hb]
        simp [cx, Ne.symm hab]
      | succ k =>
        simp only [Nat.mul_succ, List.getElem?_cons_succ] at hx hy
        have := i1 k x y hx hy
        rw [keep x (List.mem_iff_getElem?.2 ⟨_, hx⟩), keep y (List.mem_iff_getElem?.2 ⟨_, hy⟩)] at this
        simpa only [nexts, run] using this
    · intro k x hx hy
      cases k with
      | zero => simp at hy
      | succ k =>
        simp only [Nat.mul_succ, List.getElem?_cons_succ] at hx hy
        have := i2 k x hx hy
        rw [keep x (List.mem_iff_getElem?.2 ⟨_, hx⟩)] at this
        simpa only [nexts, run] using this
  | case2 l hl =>
    have : nexts l = [] := by
      unfold nexts; split
      · exact absurd rfl (hl _ _ _)
      · rfl
    rw [this]
    constructor
    · intro k x y hx hy
      match l, hl with
      | [], _ => simp at hx
      | [u], _ => simp at hy
      | u :: v :: r, hl => exact absurd rfl (hl _ _ _)
    · intro k x hx hy; rfl

theorem nodup_get (l : List Nat) (h : l.Nodup) (i j x : Nat) (hi : l[i]? = some x) (hj : l[j]? = some x) : i = j := by
  obtain ⟨h1, e1⟩ := List.getElem?_eq_some_iff.1 hi
  obtain ⟨h2, e2⟩ := List.getElem?_eq_some_iff.1 hj
  have hp := List.pairwise_iff_getElem.1 h
  rcases Nat.lt_trichotomy i j with hlt | he | hlt
  · exact absurd (e1.trans e2.symm) (hp i j h1 h2 hlt)
  · exact he
  · exact absurd (e2.trans e1.symm) (hp j i h2 h1 hlt)

theorem evens_nodup (l : List Nat) (h : l.Nodup) : (evens l).Nodup := by
  induction l using evens.induct with
  | case1 => simp [evens]
  | case2 x => simp [evens]
  | case3 x y r ih =>
    simp only [List.nodup_cons, List.mem_cons, not_or] at h
    simp only [evens, List.nodup_cons]
    exact ⟨fun hx => h.1.2 (evens_sub _ _ hx), ih h.2.2⟩
theorem odds_nodup (l : List Nat) (h : l.Nodup) : (odds l).Nodup := by
  induction l using odds.induct with
  | case1 => simp [odds]
  | case2 x => simp [odds]
  | case3 x y r ih =>
    simp only [List.nodup_cons, List.mem_cons, not_or] at h
    simp only [odds, List.nodup_cons]
    exact ⟨fun hx => h.2.1 (odds_sub _ _ hx), ih h.2.2⟩

theorem Zs_evens (l : List Nat) (z : Nat) (f : St) (h : Zs l z f) : Zs (evens l) ((z + 1) / 2) f := by
  intro k x hk
  rw [evens_get] at hk
  rw [h _ _ hk]; congr 1; exact propext (by omega)
theorem Zs_odds (l : List Nat) (z : Nat) (f : St) (h : Zs l z f) : Zs (odds l) (z / 2) f := by
  intro k x hk
  rw [odds_get] at hk
  rw [h _ _ hk]; congr 1; exact propext (by omega)
theorem Zs_congr (l : List Nat) (z : Nat) (f g : St) (h : Zs l z f) (e : ∀ x, x ∈ l → g x = f x) : Zs l z g := by
  intro k x hk
  rw [e x (List.mem_iff_getElem?.2 ⟨_, hk⟩)]; exact h k x hk

theorem merge_val (a b : List Nat) (ze zo : Nat) (f : St)
    (hE : Zs (evens a ++ evens b) ze f) (hO : Zs (odds a ++ odds b) zo f) (p x : Nat)
    (hx : (a ++ b)[p]? = some x) :
    f x = decide (if p < a.length then (if p % 2 = 0 then ze ≤ p / 2 else zo ≤ p / 2)
      else (if (p - a.length) % 2 = 0 then ze ≤ (a.length + 1) / 2 + (p - a.length) / 2
        else zo ≤ a.length / 2 + (p - a.length) / 2)) := by
  by_cases h1 : p < a.length
  · rw [List.getElem?_append_left h1] at hx
    by_cases h2 : p % 2 = 0
    · have := hE (p / 2) x (by
        rw [List.getElem?_append_left (by rw [evens_len]; omega), evens_get, ← hx]; congr 1; omega)
      simp [h1, h2, this]
    · have := hO (p / 2) x (by
        rw [List.getElem?_append_left (by rw [odds_len]; omega), odds_get, ← hx]; congr 1; omega)
      simp [h1, h2, this]
  · rw [List.getElem?_append_right (by omega)] at hx
    by_cases h2 : (p - a.length) % 2 = 0
    · have := hE ((a.length + 1) / 2 + (p - a.length) / 2) x (by
        rw [List.getElem?_append_right (by rw [evens_len]; omega), evens_get, evens_len, ← hx]; congr 1; omega)
      simp [h1, h2, this]
    · have := hO (a.length / 2 + (p - a.length) / 2) x (by
        rw [List.getElem?_append_right (by rw [odds_len]; omega), odds_get, odds_len, ← hx]; congr 1; omega)
      simp [h1, h2, this]

theorem merge_end (a b : List Nat) (hn : (a ++ b).Nodup) (za zb : Nat) (hza : za ≤ a.length) (hzb : zb ≤ b.length) (f : St)
    (hE : Zs (evens a ++ evens b) ((za + 1) / 2 + (zb + 1) / 2) f)
    (hO : Zs (odds a ++ odds b) (za / 2 + zb / 2) f) :
    Zs (a ++ b) (za + zb) (run (nexts (a ++ b).tail) f) := by
  have hV := merge_val a b _ _ f hE hO
  have hlen : (a ++ b).length = a.length + b.length := by simp
  generalize a.length = la at *
  generalize b.length = lb at *
  generalize hL : a ++ b = L at *
  have hnt : L.tail.Nodup := by
    cases L with
    | nil => simp
    | cons u r => exact (List.nodup_cons.1 hn).2
  obtain ⟨n1, n2⟩ := nexts_run L.tail hnt f
  have ht : ∀ k, L.tail[k]? = L[k + 1]? := by intro k; cases L <;> simp
  intro p x hx
  obtain ⟨hp, -⟩ := List.getElem?_eq_some_iff.1 hx
  rw [hlen] at hp
  by_cases p0 : p = 0
  · subst p0
    have hf : x ∉ tch (nexts L.tail) := by
      intro h
      have := nexts_tch _ _ h
      cases L with
      | nil => simp at hx
      | cons u r => simp at hx; subst hx; exact (List.nodup_cons.1 hn).1 this
    rw [run_frame _ _ _ hf, hV 0 x hx, decide_eq_decide]
    split <;> (try split) <;> omega
  · rcases Nat.mod_two_eq_zero_or_one p with hm | hm
    · -- p = 2k+2 : second of a pair
      obtain ⟨k, rfl⟩ : ∃ k, p = 2 * k + 2 := ⟨p / 2 - 1, by omega⟩
      obtain ⟨y, hy⟩ : ∃ y, L[2 * k + 1]? = some y := ⟨L[2 * k + 1]'(by omega), List.getElem?_eq_getElem _⟩
      have := (n1 k y x (by rw [ht]; exact hy) (by rw [ht]; exact hx)).2
      rw [this, hV _ _ hx, hV _ _ hy, ← Bool.decide_or, decide_eq_decide]
      repeat' split
      all_goals omega
    · obtain ⟨k, rfl⟩ : ∃ k, p = 2 * k + 1 := ⟨p / 2, by omega⟩
      cases hy : L[2 * k + 2]? with
      | some y =>
        have := (n1 k x y (by rw [ht]; exact hx) (by rw [ht]; exact hy)).1
        rw [this, hV _ _ hx, hV _ _ hy, ← Bool.decide_and, decide_eq_decide]
        obtain ⟨hp2, -⟩ := List.getElem?_eq_some_iff.1 hy
        rw [hlen] at hp2
        repeat' split
        all_goals omega
      | none =>
        have := n2 k x (by rw [ht]; exact hx) (by rw [ht]; exact hy)
        have hp2 := List.getElem?_eq_none_iff.1 hy
        rw [hlen] at hp2
        rw [this, hV _ _ hx, decide_eq_decide]
        repeat' split
        all_goals omega

theorem Zs_append_nil (z : Nat) (f : St) : Zs [] z f := by intro k x h; simp at h

theorem merge_ok (j : Nat) (a b : List Nat) (hn : (a ++ b).Nodup)
    (ha : a.length ≤ 2 ^ j) (hb : b.length ≤ 2 ^ j)
    (za zb : Nat) (hza : za ≤ a.length) (hzb : zb ≤ b.length) (f : St) (fa : Zs a za f) (fb : Zs b zb f) :
    Zs (a ++ b) (za + zb) (run (merge (j + 1) a b) f) := by
  induction j generalizing a b za zb f with
  | zero =>
    simp at ha hb
    match a, b, ha, hb with
    | [], b, _, _ => simp at hza; subst hza; simpa [merge, run] using fb
    | [u], [], _, _ => simp at hzb; subst hzb; simpa [merge, run] using fa
    | [u], [v], _, _ =>
      have hu := fa 0 u rfl
      have hv := fb 0 v rfl
      simp at hza hzb hn
      intro k x hk
      match k, hk with
      | 0, hk =>
        simp at hk; subst hk
        simp [merge, run, cx, hu, hv, ← Bool.decide_and]
      | 1, hk =>
        simp at hk; subst hk
        simp [merge, run, cx, hu, hv, Ne.symm hn, ← Bool.decide_or]; omega
      | k + 2, hk => simp at hk
  | succ j ih =>
    unfold merge
    split
    · rename_i h
      rcases h with h | h
      · subst h; simp at hza; subst hza; simpa [run] using fb
      · subst h; simp at hzb; subst hzb; simpa [run] using fa
    · split
      · rename_i h0 h
        match a, b, h with
        | [u], [v], _ =>
          have := ih [u] [v] hn (by simpa using Nat.one_le_two_pow) (by simpa using Nat.one_le_two_pow) za zb hza hzb f fa fb
          simpa [merge] using this
      · have hab := List.nodup_append.1 hn
        have hne : (evens a ++ evens b).Nodup := List.nodup_append.2 ⟨evens_nodup _ hab.1, evens_nodup _ hab.2.1,
          fun x hx y hy => hab.2.2 x (evens_sub _ _ hx) y (evens_sub _ _ hy)⟩
        have hno : (odds a ++ odds b).Nodup := List.nodup_append.2 ⟨odds_nodup _ hab.1, odds_nodup _ hab.2.1,
          fun x hx y hy => hab.2.2 x (odds_sub _ _ hx) y (odds_sub _ _ hy)⟩
        have hdis : ∀ x, x ∈ evens a ++ evens b → x ∉ odds a ++ odds b := by
          have key : ∀ l : List Nat, l.Nodup → ∀ x, x ∈ evens l → x ∉ odds l := by
            intro l hl x h1 h2
            obtain ⟨k, hk⟩ := List.mem_iff_getElem?.1 h1
            obtain ⟨m, hm⟩ := List.mem_iff_getElem?.1 h2
            rw [evens_get] at hk; rw [odds_get] at hm
            have := nodup_get l hl _ _ _ hk hm
            omega
          intro x h1 h2
          rcases List.mem_append.1 h1 with h1 | h1 <;> rcases List.mem_append.1 h2 with h2 | h2
          · exact key a hab.1 x h1 h2
          · exact hab.2.2 x (evens_sub _ _ h1) x (odds_sub _ _ h2) rfl
          · exact hab.2.2 x (odds_sub _ _ h2) x (evens_sub _ _ h1) rfl
          · exact key b hab.2.1 x h1 h2
        rw [run_app, run_app]
        have pw : 2 ^ (j + 1) = 2 * 2 ^ j := by rw [Nat.pow_succ]; omega
        have e1 := ih (evens a) (evens b) hne (by rw [evens_len]; omega) (by rw [evens_len]; omega)
          ((za + 1) / 2) ((zb + 1) / 2) (by rw [evens_len]; omega) (by rw [evens_len]; omega) f
          (Zs_evens _ _ _ fa) (Zs_evens _ _ _ fb)
        generalize hf1 : run (merge (j + 1) (evens a) (evens b)) f = f1 at *
        have k1 : ∀ x, x ∈ odds a ++ odds b → f1 x = f x := by
          intro x hx; rw [← hf1]
          exact run_frame _ _ _ (fun h => hdis x (merge_tch _ _ _ _ h) hx)
        have o1 := ih (odds a) (odds b) hno (by rw [odds_len]; omega) (by rw [odds_len]; omega)
          (za / 2) (zb / 2) (by rw [odds_len]; omega) (by rw [odds_len]; omega) f1
          (Zs_congr _ _ _ _ (Zs_odds _ _ _ fa) fun x hx => k1 x (List.mem_append_left _ hx))
          (Zs_congr _ _ _ _ (Zs_odds _ _ _ fb) fun x hx => k1 x (List.mem_append_right _ hx))
        have e2 : Zs (evens a ++ evens b) ((za + 1) / 2 + (zb + 1) / 2) (run (merge (j + 1) (odds a) (odds b)) f1) :=
          Zs_congr _ _ _ _ e1 fun x hx => run_frame _ _ _ (fun h => hdis x hx (merge_tch _ _ _ _ h))
        exact merge_end a b hn za zb hza hzb _ e2 o1
end Net
/-! Levels: pairs of disjoint places in any turn. -/
namespace Net
def dis (p q : P) : Prop := p.1 ≠ q.1 ∧ p.1 ≠ q.2 ∧ p.2 ≠ q.1 ∧ p.2 ≠ q.2
theorem dis_symm {p q : P} (h : dis p q) : dis q p :=
  ⟨Ne.symm h.1, Ne.symm h.2.2.1, Ne.symm h.2.1, Ne.symm h.2.2.2⟩

theorem cx_comm (p q : P) (h : dis p q) (f : St) : cx p (cx q f) = cx q (cx p f) := by
  obtain ⟨h1, h2, h3, h4⟩ := h
  funext k
  unfold cx
  by_cases a : k = p.1
  · subst a; simp [*]
  · by_cases b : k = p.2
    · subst b; simp [*]
    · by_cases c : k = q.1
      · subst c; simp [*, Ne.symm h1, Ne.symm h2, Ne.symm h3, Ne.symm h4]
      · by_cases d : k = q.2
        · subst d; simp [*, Ne.symm h1, Ne.symm h2, Ne.symm h3, Ne.symm h4]
        · simp [*]

theorem run_late (p : P) (ps : List P) (h : ∀ q ∈ ps, dis p q) (f : St) : run ps (cx p f) = cx p (run ps f) := by
  induction ps generalizing f with
  | nil => rfl
  | cons q ps ih =>
    simp only [run]
    rw [← cx_comm p q (h q (by simp)), ih (fun q hq => h q (by simp [hq]))]

theorem run_swap (a b : List P) (h : ∀ p ∈ a, ∀ q ∈ b, dis p q) (f : St) : run (a ++ b) f = run (b ++ a) f := by
  induction a generalizing f with
  | nil => simp
  | cons p a ih =>
    rw [List.cons_append, run, ih (fun p hp => h p (by simp [hp]))]
    rw [run_app, run_app, run_late p b (h p (by simp))]
    rfl

theorem run_perm (a b : List P) (hp : a.Perm b) (h : a.Pairwise dis) (f : St) : run a f = run b f := by
  induction hp generalizing f with
  | nil => rfl
  | cons x _ ih => exact ih (List.pairwise_cons.1 h).2 _
  | swap x y l =>
    have := List.pairwise_cons.1 h
    simp only [run]
    rw [cx_comm x y (dis_symm (this.1 x (by simp)))]
  | trans h1 h2 i1 i2 =>
    rw [i1 h]
    exact i2 ((h1.pairwise_iff (fun h => dis_symm h)).1 h) f

/-- one pair more in the levels -/
def lvStep (s : (Nat → Nat) × List (List P)) (p : P) : (Nat → Nat) × List (List P) :=
  let at_ := max (s.1 p.1) (s.1 p.2)
  (fun k => if k = p.1 ∨ k = p.2 then at_ + 1 else s.1 k,
   if at_ = s.2.length then s.2 ++ [[p]] else s.2.set at_ (s.2.getD at_ [] ++ [p]))
def lvs (ps : List P) : (Nat → Nat) × List (List P) := ps.foldl lvStep (fun _ => 0, [])

structure LvOk (s : (Nat → Nat) × List (List P)) : Prop where
  le : ∀ k, s.1 k ≤ s.2.length
  un : ∀ (k m : Nat) (l : List P), s.2[m]? = some l → s.1 k ≤ m → k ∉ tch l
  pw : ∀ (m : Nat) (l : List P), s.2[m]? = some l → l.Pairwise dis

theorem tch_dis (p : P) (l : List P) (h1 : p.1 ∉ tch l) (h2 : p.2 ∉ tch l) : ∀ q ∈ l, dis p q := by
  intro q hq
  simp only [tch, List.mem_flatMap, not_exists, not_and] at h1 h2
  have a := h1 q hq; have b := h2 q hq
  simp at a b
  exact ⟨a.1, a.2, b.1, b.2⟩

theorem lvStep_ok (s : (Nat → Nat) × List (List P)) (p : P) (h : LvOk s) : LvOk (lvStep s p) ∧
    ∀ f, run (lvStep s p).2.flatten f = cx p (run s.2.flatten f) := by
  obtain ⟨free, lv⟩ := s
  obtain ⟨le, un, pw⟩ := h
  simp only at le un pw
  unfold lvStep
  simp only
  have m1 : free p.1 ≤ max (free p.1) (free p.2) := Nat.le_max_left ..
  have m2 : free p.2 ≤ max (free p.1) (free p.2) := Nat.le_max_right ..
  have m3 : max (free p.1) (free p.2) ≤ lv.length := Nat.max_le.2 ⟨le _, le _⟩
  generalize max (free p.1) (free p.2) = t at *
  by_cases ht : t = lv.length
  · rw [if_pos ht]
    refine ⟨⟨?_, ?_, ?_⟩, ?_⟩
    · intro k; simp only [List.length_append, List.length_singleton]
      split
      · omega
      · have := le k; omega
    · intro k m l hm hk
      simp only at hm hk
      by_cases hml : m < lv.length
      · rw [List.getElem?_append_left hml] at hm
        split at hk
        · omega
        · exact un k m l hm hk
      · rw [List.getElem?_append_right (by omega)] at hm
        have hm0 : m - lv.length = 0 := by
          rcases Nat.eq_zero_or_pos (m - lv.length) with h | h
          · exact h
          · rw [List.getElem?_eq_none (by simp; omega)] at hm; cases hm
        rw [hm0] at hm
        simp at hm; subst hm
        split at hk
        · omega
        · rename_i hkp; simpa [tch] using hkp
    · intro m l hm
      simp only at hm
      by_cases hml : m < lv.length
      · rw [List.getElem?_append_left hml] at hm; exact pw m l hm
      · rw [List.getElem?_append_right (by omega)] at hm
        have hm0 : m - lv.length = 0 := by
          rcases Nat.eq_zero_or_pos (m - lv.length) with h | h
          · exact h
          · rw [List.getElem?_eq_none (by simp; omega)] at hm; cases hm
        rw [hm0] at hm
        simp at hm; subst hm; simp
    · intro f
      simp [run_app, run]
  · rw [if_neg ht]
    have htl : t < lv.length := by omega
    have hgd : lv[t]? = some (lv.getD t []) := by
      rw [List.getD_eq_getElem?_getD, List.getElem?_eq_getElem htl]; rfl
    generalize lv.getD t [] = g at *
    refine ⟨⟨?_, ?_, ?_⟩, ?_⟩
    · intro k; simp only [List.length_set]
      split
      · omega
      · exact le k
    · intro k m l hm hk
      simp only at hm hk
      rw [List.getElem?_set] at hm
      split at hm
      · rename_i e; subst e
        simp [htl] at hm; subst hm
        split at hk
        · omega
        · rename_i hkp
          rw [tch_app, List.mem_append, not_or]
          exact ⟨un k _ g hgd hk, by simpa [tch] using hkp⟩
      · split at hk
        · rename_i hkp
          rcases hkp with e | e <;> subst e
          · exact un _ m l hm (by omega)
          · exact un _ m l hm (by omega)
        · exact un k m l hm hk
    · intro m l hm
      simp only at hm
      rw [List.getElem?_set] at hm
      split at hm
      · rename_i e; subst e
        simp [htl] at hm; subst hm
        refine List.pairwise_append.2 ⟨pw _ g hgd, by simp, ?_⟩
        intro a ha b hb
        simp at hb; subst hb
        exact dis_symm (tch_dis _ g (un _ _ g hgd m1) (un _ _ g hgd m2) a ha)
      · exact pw m l hm
    · intro f
      have hsplit : lv = lv.take t ++ g :: lv.drop (t + 1) := by
        obtain ⟨_, e⟩ := List.getElem?_eq_some_iff.1 hgd
        rw [← e, ← List.drop_eq_getElem_cons htl, List.take_append_drop]
      have hset : lv.set t (g ++ [p]) = lv.take t ++ (g ++ [p]) :: lv.drop (t + 1) := by
        rw [List.set_eq_take_append_cons_drop, if_pos htl]
      rw [hset]
      conv => rhs; rw [hsplit]
      simp only [List.flatten_append, List.flatten_cons, run_app, run]
      rw [run_late]
      intro q hq
      obtain ⟨l, hl, hql⟩ := List.mem_flatten.1 hq
      obtain ⟨m, hm⟩ := List.mem_iff_getElem?.1 hl
      rw [List.getElem?_drop] at hm
      exact tch_dis p l (un _ _ l hm (by omega)) (un _ _ l hm (by omega)) q hql

theorem lvs_ok (ps : List P) : LvOk (lvs ps) ∧ ∀ f, run (lvs ps).2.flatten f = run ps f := by
  have : ∀ s, LvOk s → LvOk (ps.foldl lvStep s) ∧ ∀ f, run (ps.foldl lvStep s).2.flatten f = run ps (run s.2.flatten f) := by
    induction ps with
    | nil => intro s h; exact ⟨h, fun _ => rfl⟩
    | cons p ps ih =>
      intro s h
      obtain ⟨h1, h2⟩ := lvStep_ok s p h
      obtain ⟨i1, i2⟩ := ih _ h1
      refine ⟨i1, fun f => ?_⟩
      rw [List.foldl_cons, i2, h2]; rfl
  obtain ⟨h1, h2⟩ := this (fun _ => 0, []) ⟨by simp, by simp, by simp⟩
  exact ⟨h1, fun f => by simpa [lvs, run] using h2 f⟩
end Net
/-! Side by side, ordering, and from rows of Bool to rows of Int. -/
namespace Net
/-- level by level, both; each level put in some order by `so` -/
def side (so : List P → List P) : List (List P) → List (List P) → List (List P)
  | [], [] => []
  | a :: as, [] => so (a ++ []) :: side so as []
  | [], b :: bs => so ([] ++ b) :: side so [] bs
  | a :: as, b :: bs => so (a ++ b) :: side so as bs

theorem tch_flatten (ls : List (List P)) (x) : x ∈ tch ls.flatten ↔ ∃ l ∈ ls, x ∈ tch l := by
  simp [tch, List.mem_flatMap]
  constructor
  · rintro ⟨a, b, ⟨l, hl, h⟩, hx⟩; exact ⟨l, hl, a, b, h, hx⟩
  · rintro ⟨l, hl, a, b, h, hx⟩; exact ⟨a, b, ⟨l, hl, h⟩, hx⟩

structure Good (ls : List (List P)) : Prop where
  pw : ∀ l ∈ ls, l.Pairwise dis

theorem side_run (so : List P → List P) (hso : ∀ l, (so l).Perm l) (as bs : List (List P))
    (ha : Good as) (hb : Good bs) (hd : ∀ p ∈ as.flatten, ∀ q ∈ bs.flatten, dis p q) (f : St) :
    run (side so as bs).flatten f = run bs.flatten (run as.flatten f) ∧ Good (side so as bs) ∧
      (side so as bs).flatten.Perm (as.flatten ++ bs.flatten) := by
  have one : ∀ l : List P, l.Pairwise dis → ∀ f, run (so l) f = run l f ∧ (so l).Pairwise dis := by
    intro l hl f
    exact ⟨(run_perm _ _ (hso l).symm hl f).symm, ((hso l).pairwise_iff (fun h => dis_symm h)).2 hl⟩
  induction as, bs using side.induct generalizing f with
  | case1 => exact ⟨by simp [side, run], ⟨by simp [side]⟩, by simp [side]⟩
  | case2 a as ih =>
    obtain ⟨i1, i2, i3⟩ := ih ⟨fun l hl => ha.pw l (by simp [hl])⟩ hb (by simp) (run (so (a ++ [])) f)
    have oo := one (a ++ []) (by simpa using ha.pw a (by simp)) f
    refine ⟨?_, ⟨?_⟩, ?_⟩
    · simp only [side, List.flatten_cons, run_app, i1]; rw [oo.1]; simp
    · intro l hl
      simp only [side, List.mem_cons] at hl
      rcases hl with rfl | hl
      · exact oo.2
      · exact i2.pw l hl
    · simp only [side, List.flatten_cons]
      have := (hso (a ++ [])).append i3
      simpa using this
  | case3 b bs ih =>
    obtain ⟨i1, i2, i3⟩ := ih ha ⟨fun l hl => hb.pw l (by simp [hl])⟩ (by simp) (run (so ([] ++ b)) f)
    have oo := one ([] ++ b) (by simpa using hb.pw b (by simp)) f
    refine ⟨?_, ⟨?_⟩, ?_⟩
    · simp only [side, List.flatten_cons, run_app, i1]; rw [oo.1]; simp [run]
    · intro l hl
      simp only [side, List.mem_cons] at hl
      rcases hl with rfl | hl
      · exact oo.2
      · exact i2.pw l hl
    · simp only [side, List.flatten_cons]
      have := (hso ([] ++ b)).append i3
      simpa using this
  | case4 a as b bs ih =>
    simp only [List.flatten_cons, List.mem_append] at hd
    obtain ⟨i1, i2, i3⟩ := ih ⟨fun l hl => ha.pw l (by simp [hl])⟩ ⟨fun l hl => hb.pw l (by simp [hl])⟩
      (fun p hp q hq => hd p (.inr hp) q (.inr hq)) (run (so (a ++ b)) f)
    have oo := one (a ++ b) (List.pairwise_append.2 ⟨ha.pw a (by simp), hb.pw b (by simp),
      fun p hp q hq => hd p (.inl hp) q (.inl hq)⟩) f
    refine ⟨?_, ⟨?_⟩, ?_⟩
    · simp only [side, List.flatten_cons, run_app, i1]; rw [oo.1]
      rw [run_app, ← run_app b, ← run_swap as.flatten b (fun p hp q hq => hd p (.inr hp) q (.inl hq)), run_app]
    · intro l hl
      simp only [side, List.mem_cons] at hl
      rcases hl with rfl | hl
      · exact oo.2
      · exact i2.pw l hl
    · simp only [side, List.flatten_cons]
      have := (hso (a ++ b)).append i3
      refine this.trans ?_
      simp only [List.append_assoc]
      refine List.Perm.append_left a ?_
      rw [← List.append_assoc, ← List.append_assoc]
      exact List.Perm.append_right _ List.perm_append_comm
end Net
/-! Ordering by halves, on rows of Bool. -/
namespace Net
def ord (so : List P → List P) : Nat → List Nat → List (List P)
  | 0, _ => []
  | j + 1, l =>
    if l.length < 2 then [] else
      side so (ord so j (l.take (l.length / 2))) (ord so j (l.drop (l.length / 2))) ++
        (lvs (merge 8 (l.take (l.length / 2)) (l.drop (l.length / 2)))).2.map so

theorem map_so (so : List P → List P) (hso : ∀ l, (so l).Perm l) (ls : List (List P)) (h : Good ls) (f : St) :
    run (ls.map so).flatten f = run ls.flatten f ∧ Good (ls.map so) ∧ (ls.map so).flatten.Perm ls.flatten := by
  induction ls generalizing f with
  | nil => exact ⟨rfl, h, by simp⟩
  | cons a ls ih =>
    obtain ⟨i1, i2, i3⟩ := ih ⟨fun l hl => h.pw l (by simp [hl])⟩ (run (so a) f)
    refine ⟨?_, ⟨?_⟩, ?_⟩
    · simp only [List.map_cons, List.flatten_cons, run_app, i1]
      rw [(run_perm _ _ (hso a).symm (h.pw a (by simp)) f).symm]
    · intro l hl
      simp only [List.map_cons, List.mem_cons] at hl
      rcases hl with rfl | hl
      · exact ((hso a).pairwise_iff (fun h => dis_symm h)).2 (h.pw a (by simp))
      · exact i2.pw l hl
    · simp only [List.map_cons, List.flatten_cons]; exact (hso a).append i3

theorem lvs_good (ps : List P) : Good (lvs ps).2 :=
  ⟨fun l hl => by obtain ⟨m, hm⟩ := List.mem_iff_getElem?.1 hl; exact (lvs_ok ps).1.pw m l hm⟩

theorem lvStep_mem (s : (Nat → Nat) × List (List P)) (p q : P) (h : q ∈ (lvStep s p).2.flatten) : q = p ∨ q ∈ s.2.flatten := by
  unfold lvStep at h
  simp only at h
  split at h
  · simp at h; rcases h with h | h
    · right; simpa using h
    · exact .inl h
  · obtain ⟨l, hl, hq⟩ := List.mem_flatten.1 h
    rcases List.mem_or_eq_of_mem_set hl with hl | hl
    · exact .inr (List.mem_flatten.2 ⟨l, hl, hq⟩)
    · subst hl
      rcases List.mem_append.1 hq with hq | hq
      · right
        rw [List.getD_eq_getElem?_getD] at hq
        cases hg : s.2[max (s.1 p.1) (s.1 p.2)]? with
        | none => rw [hg] at hq; simp at hq
        | some g => rw [hg] at hq; exact List.mem_flatten.2 ⟨g, List.mem_iff_getElem?.2 ⟨_, hg⟩, hq⟩
      · left; simpa using hq

theorem foldl_mem (ps : List P) (s : (Nat → Nat) × List (List P)) (q : P)
    (h : q ∈ (ps.foldl lvStep s).2.flatten) : q ∈ ps ∨ q ∈ s.2.flatten := by
  induction ps generalizing s with
  | nil => exact .inr h
  | cons p ps ih =>
    rcases ih _ h with h | h
    · exact .inl (by simp [h])
    · rcases lvStep_mem s p q h with h | h
      · exact .inl (by simp [h])
      · exact .inr h

theorem lvs_mem (ps : List P) (q : P) (h : q ∈ (lvs ps).2.flatten) : q ∈ ps := by
  rcases foldl_mem ps _ q h with h | h
  · exact h
  · simp at h

theorem tch_mem (ps : List P) (p : P) (h : p ∈ ps) : p.1 ∈ tch ps ∧ p.2 ∈ tch ps := by
  simp only [tch, List.mem_flatMap]
  exact ⟨⟨p, h, by simp⟩, ⟨p, h, by simp⟩⟩

/-- all pairs of ps lie in l -/
def In (ps : List P) (l : List Nat) : Prop := ∀ p ∈ ps, p.1 ∈ l ∧ p.2 ∈ l

theorem In_frame (ps : List P) (l : List Nat) (h : In ps l) (k : Nat) (hk : k ∉ l) (f : St) : run ps f k = f k := by
  apply run_frame
  intro ht
  simp only [tch, List.mem_flatMap] at ht
  obtain ⟨p, hp, hx⟩ := ht
  simp at hx
  rcases hx with e | e <;> subst e
  · exact hk (h p hp).1
  · exact hk (h p hp).2

theorem short (l : List Nat) (h : l.length < 2) (f : St) : ∃ z, z ≤ l.length ∧ Zs l z f := by
  match l, h with
  | [], _ => exact ⟨0, by simp, Zs_append_nil _ _⟩
  | [x], _ =>
    cases hx : f x with
    | true => exact ⟨0, by simp, fun k y hk => by
        cases k with
        | zero => simp at hk; subst hk; simp [hx]
        | succ k => simp at hk⟩
    | false => exact ⟨1, by simp, fun k y hk => by
        cases k with
        | zero => simp at hk; subst hk; simp [hx]
        | succ k => simp at hk⟩

theorem ord_ok (so : List P → List P) (hso : ∀ l, (so l).Perm l) (j : Nat) (hj : j ≤ 7) (l : List Nat) (hn : l.Nodup)
    (hl : l.length ≤ 2 ^ j) : Good (ord so (j + 1) l) ∧ In (ord so (j + 1) l).flatten l ∧
      ∀ f, ∃ z, z ≤ l.length ∧ Zs l z (run (ord so (j + 1) l).flatten f) := by
  induction j generalizing l with
  | zero =>
    have h2 : l.length < 2 := by simp at hl; omega
    unfold ord
    rw [if_pos h2]
    exact ⟨⟨by simp⟩, by intro p hp; simp at hp, fun f => short l h2 _⟩
  | succ j ih =>
    unfold ord
    split
    · rename_i h2
      exact ⟨⟨by simp⟩, by intro p hp; simp at hp, fun f => short l h2 _⟩
    · rename_i h2
      have pw : 2 ^ (j + 1) = 2 * 2 ^ j := by rw [Nat.pow_succ]; omega
      have hln : (l.take (l.length / 2)).length = l.length / 2 := by rw [List.length_take]; omega
      have hrn : (l.drop (l.length / 2)).length = l.length - l.length / 2 := List.length_drop
      have hcat : l.take (l.length / 2) ++ l.drop (l.length / 2) = l := List.take_append_drop ..
      generalize hA : l.take (l.length / 2) = A at *
      generalize hB : l.drop (l.length / 2) = B at *
      have hab := List.nodup_append.1 (hcat ▸ hn)
      obtain ⟨a1, a2, a3⟩ := ih (by omega) A hab.1 (by omega)
      obtain ⟨b1, b2, b3⟩ := ih (by omega) B hab.2.1 (by omega)
      generalize ord so (j + 1) A = NA at *
      generalize ord so (j + 1) B = NB at *
      have hAl : ∀ x, x ∈ A → x ∈ l := fun x h => hcat ▸ List.mem_append_left _ h
      have hBl : ∀ x, x ∈ B → x ∈ l := fun x h => hcat ▸ List.mem_append_right _ h
      have hd : ∀ p ∈ NA.flatten, ∀ q ∈ NB.flatten, dis p q := by
        intro p hp q hq
        have := a2 p hp; have := b2 q hq
        have d := hab.2.2
        exact ⟨d _ (a2 p hp).1 _ (b2 q hq).1, d _ (a2 p hp).1 _ (b2 q hq).2, d _ (a2 p hp).2 _ (b2 q hq).1, d _ (a2 p hp).2 _ (b2 q hq).2⟩
      have hS := fun f => side_run so hso NA NB a1 b1 hd f
      have hM := fun f => map_so so hso _ (lvs_good (merge 8 A B)) f
      refine ⟨⟨?_⟩, ?_, ?_⟩
      · intro x hx
        rcases List.mem_append.1 hx with hx | hx
        · exact (hS (fun _ => true)).2.1.pw x hx
        · exact (hM (fun _ => true)).2.1.pw x hx
      · intro p hp
        rw [List.flatten_append] at hp
        rcases List.mem_append.1 hp with hp | hp
        · rcases List.mem_append.1 ((hS (fun _ => true)).2.2.mem_iff.1 hp) with hp | hp
          · exact ⟨hAl _ (a2 p hp).1, hAl _ (a2 p hp).2⟩
          · exact ⟨hBl _ (b2 p hp).1, hBl _ (b2 p hp).2⟩
        · have := tch_mem _ _ (lvs_mem _ _ ((hM (fun _ => true)).2.2.mem_iff.1 hp))
          exact ⟨hcat ▸ merge_tch _ _ _ _ this.1, hcat ▸ merge_tch _ _ _ _ this.2⟩
      · intro f
        rw [List.flatten_append, run_app, (hM _).1, (lvs_ok _).2, (hS f).1]
        obtain ⟨za, hza, za'⟩ := a3 f
        obtain ⟨zb, hzb, zb'⟩ := b3 (run NA.flatten f)
        have p7 : 2 ^ j ≤ 2 ^ 7 := Nat.pow_le_pow_right (by omega) (by omega)
        refine ⟨za + zb, by omega, ?_⟩
        have := merge_ok 7 A B (hcat ▸ hn) (by omega) (by omega) za zb hza hzb _
          (Zs_congr _ _ _ _ za' fun x hx => In_frame _ _ b2 x (fun hb => hab.2.2 x hx x hb rfl) _) zb'
        rw [hcat] at this
        exact this
end Net
/-! From rows of Bool to rows of Int. -/
namespace Net
abbrev StI := Nat → Int
def cxI (p : P) (f : StI) : StI := fun k =>
  if k = p.1 then min (f p.1) (f p.2) else if k = p.2 then max (f p.1) (f p.2) else f k
def runI : List P → StI → StI
  | [], f => f
  | p :: ps, f => runI ps (cxI p f)
def th (t : Int) (f : StI) : St := fun k => decide (t < f k)

theorem cx_th (t : Int) (p : P) (f : StI) : th t (cxI p f) = cx p (th t f) := by
  funext k
  have e : cxI p f k = if k = p.1 then min (f p.1) (f p.2) else if k = p.2 then max (f p.1) (f p.2) else f k := rfl
  show decide (t < cxI p f k) = if k = p.1 then (decide (t < f p.1) && decide (t < f p.2)) else if k = p.2 then (decide (t < f p.1) || decide (t < f p.2)) else decide (t < f k)
  generalize cxI p f k = v at *
  subst e
  split
  · rw [← Bool.decide_and, decide_eq_decide]; omega
  · split
    · rw [← Bool.decide_or, decide_eq_decide]; omega
    · rfl

theorem run_th (t : Int) (ps : List P) (f : StI) : th t (runI ps f) = run ps (th t f) := by
  induction ps generalizing f with
  | nil => rfl
  | cons p ps ih => simp only [runI, run, ih, cx_th]

theorem zero_one (ps : List P) (l : List Nat) (h : ∀ f : St, ∃ z, Zs l z (run ps f)) (f : StI) :
    (l.map (runI ps f)).Pairwise (· ≤ ·) := by
  rw [List.pairwise_map, List.pairwise_iff_getElem]
  intro i j hi hj hij
  apply Int.not_lt.1
  intro hlt
  obtain ⟨z, hz⟩ := h (th (runI ps f l[j]) f)
  rw [← run_th] at hz
  have h1 := hz i _ (List.getElem?_eq_getElem hi)
  have h2 := hz j _ (List.getElem?_eq_getElem hj)
  simp [th] at h1 h2
  simp [hlt] at h1
  omega
end Net
namespace Net
/-- a pair of two places of the row keeps the row's numbers -/
theorem cxI_perm (p : P) (l : List Nat) (hn : l.Nodup) (h1 : p.1 ∈ l) (h2 : p.2 ∈ l) (hne : p.1 ≠ p.2) (f : StI) :
    (l.map (cxI p f)).Perm (l.map f) := by
  obtain ⟨i, j⟩ := p
  simp only at h1 h2 hne
  have e1 : l.Perm (i :: l.erase i) := List.perm_cons_erase h1
  have hj : j ∈ l.erase i := (List.mem_erase_of_ne (Ne.symm hne)).2 h2
  have e2 : (l.erase i).Perm (j :: (l.erase i).erase j) := List.perm_cons_erase hj
  have e : l.Perm (i :: j :: (l.erase i).erase j) := e1.trans (e2.cons i)
  have hnd := e.nodup_iff.1 hn
  generalize (l.erase i).erase j = r at *
  refine (e.map _).trans (List.Perm.trans ?_ (e.map _).symm)
  simp only [List.nodup_cons, List.mem_cons, not_or] at hnd
  have hr : r.map (cxI (i, j) f) = r.map f := by
    apply List.map_congr_left
    intro x hx
    have : x ≠ i := fun h => hnd.1.2 (h ▸ hx)
    have : x ≠ j := fun h => hnd.2.1 (h ▸ hx)
    simp [cxI, *]
  simp only [List.map_cons, hr]
  have a : cxI (i, j) f i = min (f i) (f j) := by simp [cxI]
  have b : cxI (i, j) f j = max (f i) (f j) := by simp [cxI, Ne.symm hne]
  rw [a, b]
  rcases Int.le_total (f i) (f j) with h | h
  · rw [Int.min_eq_left h, Int.max_eq_right h]
  · rw [Int.min_eq_right h, Int.max_eq_left h]; exact List.Perm.swap _ _ _
theorem runI_perm (ps : List P) (l : List Nat) (hn : l.Nodup) (h : ∀ p ∈ ps, p.1 ∈ l ∧ p.2 ∈ l ∧ p.1 ≠ p.2) (f : StI) :
    (l.map (runI ps f)).Perm (l.map f) := by
  induction ps generalizing f with
  | nil => exact .refl _
  | cons p ps ih =>
    have hp := h p (by simp)
    exact (ih (fun q hq => h q (by simp [hq])) _).trans (cxI_perm p l hn hp.1 hp.2.1 hp.2.2 f)
end Net
/-! Neighbours on up to nine places, by reckoning; networks on lists of numbers. -/
namespace Net
def ev : List Bool → List Bool
  | a :: b :: r => (a && b) :: (a || b) :: ev r
  | l => l
def od : List Bool → List Bool
  | [] => []
  | a :: r => a :: ev r
def passes : Nat → Bool → List Bool → List Bool
  | 0, _, l => l
  | k + 1, false, l => passes k true (ev l)
  | k + 1, true, l => passes k false (od l)
def upB : List Bool → Bool
  | a :: b :: r => (!a || b) && upB (b :: r)
  | _ => true
def chk : Nat → (List Bool → Bool) → Bool
  | 0, p => p []
  | n + 1, p => chk n (fun r => p (false :: r)) && chk n (fun r => p (true :: r))
theorem chk_all : ∀ {n : Nat} {p : List Bool → Bool}, chk n p = true → ∀ r : List Bool, r.length = n → p r = true
  | 0, p, h, r, e => by cases r with | nil => exact h | cons => simp at e
  | n + 1, p, h, r, e => by
    cases r with
    | nil => simp at e
    | cons a r =>
      simp only [chk, Bool.and_eq_true] at h
      simp only [List.length_cons, Nat.add_right_cancel_iff] at e
      cases a with
      | false => exact chk_all h.1 r e
      | true => exact chk_all h.2 r e
theorem nb_chk : ((List.range 10).all fun n => chk n fun r => upB (passes n false r)) = true := by decide +kernel
theorem nb_ok {r : List Bool} (h : r.length < 10) : upB (passes r.length false r) = true := by
  have := List.all_eq_true.mp nb_chk r.length (by simpa using h)
  exact chk_all this r rfl
theorem upB_pw : ∀ {r : List Bool}, upB r = true → r.Pairwise fun a b => a = true → b = true
  | [], _ => .nil
  | [a], _ => by simp
  | a :: b :: r, h => by
    simp only [upB, Bool.and_eq_true, Bool.or_eq_true, Bool.not_eq_true'] at h
    have ih := upB_pw h.2
    refine List.pairwise_cons.mpr ⟨fun x hx ha => ?_, ih⟩
    have hb : b = true := by rcases h.1 with q | q; · rw [q] at ha; cases ha
                             · exact q
    rcases List.mem_cons.mp hx with e | m
    · rw [e]; exact hb
    · exact (List.pairwise_cons.mp ih).1 x m hb

/-! lists of numbers -/
def get (l : List Int) (k : Nat) : Int := l.getD k 0
def cxl (l : List Int) (p : P) : List Int := (l.set p.1 (min (get l p.1) (get l p.2))).set p.2 (max (get l p.1) (get l p.2))
def thr (ps : List P) (l : List Int) : List Int := ps.foldl cxl l
def Rg (n : Nat) (ps : List P) : Prop := ∀ p ∈ ps, p.1 < n ∧ p.2 < n ∧ p.1 ≠ p.2
theorem cxl_len (l : List Int) (p : P) : (cxl l p).length = l.length := by simp [cxl]
theorem thr_len (ps : List P) (l : List Int) : (thr ps l).length = l.length := by
  induction ps generalizing l with
  | nil => rfl
  | cons p ps ih => show (thr ps (cxl l p)).length = _; rw [ih, cxl_len]
theorem thr_app (a b : List P) (l : List Int) : thr (a ++ b) l = thr b (thr a l) := by simp [thr]
theorem cxl_get {l : List Int} {p : P} (h : p.1 < l.length ∧ p.2 < l.length ∧ p.1 ≠ p.2) : get (cxl l p) = cxI p (get l) := by
  funext k
  obtain ⟨h1, h2, h3⟩ := h
  unfold cxl cxI
  by_cases a : k = p.1
  · subst a
    simp [get, List.getElem?_set, h1, Ne.symm h3]
  · by_cases b : k = p.2
    · subst b
      simp [get, List.getElem?_set, h2, a]
    · simp [get, List.getElem?_set, a, b, Ne.symm a, Ne.symm b]
theorem thr_get {ps : List P} : ∀ {l : List Int}, Rg l.length ps → get (thr ps l) = runI ps (get l) := by
  induction ps with
  | nil => intro l _; rfl
  | cons p ps ih =>
    intro l h
    show get (thr ps (cxl l p)) = runI ps (cxI p (get l))
    rw [ih (by rw [cxl_len]; exact fun q hq => h q (by simp [hq])), cxl_get (h p (by simp))]
theorem map_get (l : List Int) : (List.range l.length).map (get l) = l := by
  apply List.ext_getElem?
  intro i
  by_cases h : i < l.length
  · simp [get, h]
  · rw [List.getElem?_eq_none (by simp; omega), List.getElem?_eq_none (by omega)]
theorem thr_eq {ps : List P} {l : List Int} (h : Rg l.length ps) : thr ps l = (List.range l.length).map (runI ps (get l)) := by
  rw [← thr_get h]
  have := map_get (thr ps l)
  rw [thr_len] at this
  exact this.symm
theorem thr_perm {ps : List P} {l : List Int} (h : Rg l.length ps) : (thr ps l).Perm l := by
  rw [thr_eq h]
  have := runI_perm ps (List.range l.length) List.nodup_range (fun p hp => by have := h p hp; simp; exact this) (get l)
  rw [map_get] at this
  exact this
theorem thr_up {ps : List P} {l : List Int} (h : Rg l.length ps) (hz : ∀ f : St, ∃ z, Zs (List.range l.length) z (run ps f)) : (thr ps l).Pairwise (· ≤ ·) := by
  rw [thr_eq h]
  exact zero_one ps _ hz (get l)
theorem zs_up {l : List Nat} {g : StI} (h : ∀ t : Int, ∃ z, Zs l z (th t g)) : (l.map g).Pairwise (· ≤ ·) := by
  rw [List.pairwise_map, List.pairwise_iff_getElem]
  intro i j hi hj hij
  apply Int.not_lt.1
  intro hlt
  obtain ⟨z, hz⟩ := h (g l[j])
  have h1 := hz i _ (List.getElem?_eq_getElem hi)
  have h2 := hz j _ (List.getElem?_eq_getElem hj)
  simp [th] at h1 h2
  simp [hlt] at h1
  omega
/-- levels of neighbours, as passes -/
def evI : List Int → List Int
  | a :: b :: r => min a b :: max a b :: evI r
  | l => l
def odI : List Int → List Int
  | [] => []
  | a :: r => a :: evI r
/-- the pairs (at, at + 1), (at + 2, at + 3) .. that lie below n, m left -/
def prs : Nat → Nat → List P
  | 0, _ => []
  | 1, _ => []
  | m + 2, at_ => (at_, at_ + 1) :: prs m (at_ + 2)
theorem evI_len : ∀ l : List Int, (evI l).length = l.length
  | [] => rfl
  | [_] => rfl
  | a :: b :: r => by simp [evI, evI_len r]
theorem thr_prs : ∀ (r pre : List Int), thr (prs r.length pre.length) (pre ++ r) = pre ++ evI r
  | [], pre => rfl
  | [a], pre => rfl
  | a :: b :: r, pre => by
    show thr (prs r.length (pre.length + 2)) (cxl (pre ++ a :: b :: r) (pre.length, pre.length + 1)) = _
    have e : cxl (pre ++ a :: b :: r) (pre.length, pre.length + 1) = (pre ++ [min a b, max a b]) ++ r := by
      simp [cxl, get]
    rw [e]
    have := thr_prs r (pre ++ [min a b, max a b])
    simp at this ⊢
    rw [this]
    simp [evI]
def b2i (b : Bool) : Int := if b then 1 else 0
theorem evI_map : ∀ r : List Bool, evI (r.map b2i) = (ev r).map b2i
  | [] => rfl
  | [_] => rfl
  | a :: b :: r => by
    simp only [List.map_cons, evI, ev, evI_map r]
    cases a <;> cases b <;> simp [b2i] <;> decide
theorem ev_len : ∀ l : List Bool, (ev l).length = l.length
  | [] => rfl
  | [_] => rfl
  | a :: b :: r => by simp [ev, ev_len r]
theorem od_len (l : List Bool) : (od l).length = l.length := by cases l <;> simp [od, ev_len]
/-- level t of the neighbours of n places -/
def nlev (n t : Nat) : List P := if t % 2 = 0 then prs n 0 else prs (n - 1) 1
theorem thr_nlev (t : Nat) (r : List Bool) : thr (nlev r.length t) (r.map b2i) = (if t % 2 = 0 then ev r else od r).map b2i := by
  unfold nlev
  split
  · have := thr_prs (r.map b2i) []
    simpa [evI_map] using this
  · cases r with
    | nil => rfl
    | cons a r =>
      have := thr_prs (r.map b2i) [b2i a]
      simpa [evI_map, od] using this
theorem thr_nlevs : ∀ (k t : Nat) (r : List Bool), thr (((List.range' t k).map (nlev r.length)).flatten) (r.map b2i) = (passes k (decide (t % 2 = 1)) r).map b2i
  | 0, t, r => rfl
  | k + 1, t, r => by
    rw [List.range'_succ, List.map_cons, List.flatten_cons, thr_app, thr_nlev]
    by_cases h : t % 2 = 0
    · rw [if_pos h]
      have := thr_nlevs k (t + 1) (ev r)
      rw [ev_len] at this
      rw [this]
      have h1 : decide (t % 2 = 1) = false := by simp; omega
      have h2 : decide ((t + 1) % 2 = 1) = true := by simp; omega
      rw [h1, h2]; rfl
    · rw [if_neg h]
      have := thr_nlevs k (t + 1) (od r)
      rw [od_len] at this
      rw [this]
      have h1 : decide (t % 2 = 1) = true := by simp; omega
      have h2 : decide ((t + 1) % 2 = 1) = false := by simp; omega
      rw [h1, h2]; rfl
theorem nb_up {r : List Bool} (h : r.length < 10) : (thr (((List.range r.length).map (nlev r.length)).flatten) (r.map b2i)).Pairwise (· ≤ ·) := by
  have e := thr_nlevs r.length 0 r
  rw [← List.range_eq_range'] at e
  rw [e, List.pairwise_map]
  refine (upB_pw (nb_ok h)).imp fun {a b} k => ?_
  cases a <;> cases b <;> simp_all [b2i]
theorem prs_rg : ∀ (m at_ : Nat), Rg (at_ + m) (prs m at_)
  | 0, _ => by intro p hp; cases hp
  | 1, _ => by intro p hp; cases hp
  | m + 2, at_ => by
    intro p hp
    rcases List.mem_cons.mp hp with e | hp
    · subst e; simp
    · have := prs_rg m (at_ + 2) p hp
      omega
theorem nlevs_rg (n : Nat) : Rg n (((List.range n).map (nlev n)).flatten) := by
  intro p hp
  simp only [List.mem_flatten, List.mem_map] at hp
  obtain ⟨l, ⟨t, _, rfl⟩, hp⟩ := hp
  unfold nlev at hp
  split at hp
  · have := prs_rg n 0 p hp; simpa using this
  · cases n with
    | zero => cases hp
    | succ n => have := prs_rg n 1 p hp; rw [Nat.add_comm]; exact this
end Net
set_option Elab.async false
set_option linter.all false
set_option maxRecDepth 100000
set_option maxHeartbeats 4000000
namespace Fx.Nt
open PySem L2 Fx
open Net (P thr cxl Rg)

def prD (p : P) : D := .tup [.int (p.1 : Nat), .int (p.2 : Nat)]
def plD (ps : List P) : D := .tup (ps.map prD)
def intsD (l : List Int) : List D := l.map D.int
theorem atI_ints {l : List Int} {k : Nat} (h : k < l.length) : atI (intsD l) (k : Int) = some (.int (Net.get l k)) := by
  rw [atI_nat]; simp [intsD, Net.get, h]
theorem ixN_nat {n k : Nat} (h : k < n) : ixN n (k : Int) = some k := by
  unfold ixN; simp [h]
theorem set_ints {l : List Int} {k : Nat} {v : Int} : (intsD l).set k (.int v) = intsD (l.set k v) := by
  simp [intsD, List.map_set]
theorem len_ints {l : List Int} : (intsD l).length = l.length := by simp [intsD]
theorem fMin_ints {a b : Int} : fMin [.int a, .int b] = some (.sh (.int (min a b))) := by
  unfold fMin mn2; simp; omega
theorem fMax_ints {a b : Int} : fMax [.int a, .int b] = some (.sh (.int (max a b))) := by
  unfold fMax mx2; simp; omega
theorem through_step (s : S_u_law_through) (l : List Int) (p : P) (h : p.1 < l.length ∧ p.2 < l.length ∧ p.1 ≠ p.2) (hs : s.v_found = some (.ol (intsD l))) :
    ∃ s', (asgT (.tup [4, 5]) (prD p) s.e).bind l1_u_law_through = some (.nx (S_u_law_through.e s')) ∧ s'.v_found = some (.ol (intsD (cxl l p))) := by
  obtain ⟨h1, h2, h3⟩ := h
  have e1 := atI_ints h1
  have e2 := atI_ints h2
  have i1 := ixN_nat h1
  have i2 := ixN_nat h2
  refine ⟨{ s with v_found := some (.ol (intsD (cxl l p))), v_i := some (.sh (.int (p.1 : Nat))), v_j := some (.sh (.int (p.2 : Nat))), v_low := some (.sh (.int (min (Net.get l p.1) (Net.get l p.2)))), v_high := some (.sh (.int (max (Net.get l p.1) (Net.get l p.2)))) }, ?_, rfl⟩
  simp [prD, l1_u_law_through, hs, e1, e2, fMin_ints, fMax_ints, len_ints, i1, i2, set_ints, cxl, Net.get]
theorem Rg.mid {n : Nat} {a b : List P} {p : P} (h : Rg n (a ++ p :: b)) : p.1 < n ∧ p.2 < n ∧ p.1 ≠ p.2 := h p (by simp)
theorem through_level (s : S_u_law_through) (l : List Int) (ps : List P) (h : Rg l.length ps) (hs : s.v_found = some (.ol (intsD l))) :
    ∃ s', forN (.tup [4, 5]) l1_u_law_through (ps.map prD) s.e = some (.nx (S_u_law_through.e s')) ∧ s'.v_found = some (.ol (intsD (thr ps l))) := by
  refine forM (E := S_u_law_through.e) (fun q s => s.v_found = some (.ol (intsD (thr q l)))) hs fun p a r s e hj => ?_
  obtain ⟨s', h1, h2⟩ := through_step s (thr p l) a (by rw [Net.thr_len]; exact Rg.mid (e ▸ h)) hj
  exact ⟨s', h1, by rw [Net.thr_app]; exact h2⟩
theorem through_ok {dn dr : D} {f : List P → D} {ls : List (List P)} {l : List Int} (hf : ∀ ps ∈ ls, (f ps).seq = some (ps.map prD)) (hn : dn.seq = some (ls.map f)) (hr : fList [dr] = some (.ol (intsD l))) (hg : Rg l.length ls.flatten) :
    F_u_law_through [dn, dr] = some (.ol (intsD (thr ls.flatten l))) := by
  rw [F_u_law_through_eq]
  obtain ⟨s', h1, h2⟩ := forM (E := S_u_law_through.e) (t := .one 3) (b := l2_u_law_through) (f := f) (fun q s => s.v_found = some (.ol (intsD (thr q.flatten l)))) (l := ls)
    (s := { v_network := some (.sh dn), v_numbers := some (.sh dr), v_found := some (.ol (intsD l)) }) rfl fun q a r s e hj => by
      subst e
      have ha : Rg (thr q.flatten l).length a := by rw [Net.thr_len]; exact fun p hp => hg p (by simp [hp])
      obtain ⟨s', h1, h2⟩ := through_level { s with v_level := some (.sh (f a)) } _ a ha hj
      refine ⟨s', ?_, by rw [List.flatten_append, Net.thr_app]; simpa using h2⟩
      simp [l2_u_law_through, hf a (by simp), h1]
  simp [b_u_law_through, hr, hn, h1, h2]
/-! pairs_of, bits, neighbours -/
theorem pairs_ok {ls : List (List P)} (hl : ls.flatten.length ≤ 1000000) : F_pairs_of [.tup (ls.map plD)] = some (.sh (.tup (ls.flatten.map prD))) := by
  rw [F_pairs_of_eq]
  have hi : ∀ (a : List P) (s : S_pairs_of), s.v_pair = none → compN [2] (.one 2) kYes (eSlot 2) (a.map prD) s.e = some (a.map prD, s.e) := fun a s h => by
    cases s; cases h
    refine compN_map (f := prD) fun p _ => ?_
    simp [cStep]
  have hc : ∀ s : S_pairs_of, s.v_level = none → s.v_pair = none → comp2N [1, 2] (.one 1) kYes (iV (eSlot 1)) [2] (.one 2) kYes (eSlot 2) (ls.map plD) s.e = some (ls.flatten.map prD, s.e) := fun s h1 h2 => by
    cases s; cases h1; cases h2
    rw [List.map_flatten]
    refine comp2N_map (f := plD) (g := fun a => a.map prD) fun a _ => ?_
    exact ⟨_, _, _, _, _, rfl, rfl, rfl, rfl, hi a { v_network := _, v_level := some (.sh (plD a)) } rfl, rfl, rfl⟩
  have : (ls.flatten.map prD).length ≤ lim := by rw [lim_val, List.length_map]; omega
  simp [-List.map_flatten, -List.length_flatten, -List.length_map, b_pairs_of, hc, this]
def bitsL : Nat → List (List Bool)
  | 0 => [[]]
  | n + 1 => (bitsL n).flatMap fun r => [r ++ [false], r ++ [true]]
def rowD (r : List Bool) : D := .tup (intsD (r.map Net.b2i))
theorem bitsL_len : ∀ n, (bitsL n).length = 2 ^ n
  | 0 => rfl
  | n + 1 => by
    have : ∀ l : List (List Bool), (l.flatMap fun r => [r ++ [false], r ++ [true]]).length = 2 * l.length := by
      intro l
      induction l with
      | nil => rfl
      | cons a l ih => simp [List.flatMap_cons, ih]; omega
    rw [bitsL, this, bitsL_len n, Nat.pow_succ]; omega
theorem bitsL_mem : ∀ {n : Nat} {r : List Bool}, r ∈ bitsL n → r.length = n
  | 0, r, h => by simp [bitsL] at h; subst h; rfl
  | n + 1, r, h => by
    simp only [bitsL, List.mem_flatMap] at h
    obtain ⟨q, hq, hr⟩ := h
    have := bitsL_mem hq
    simp at hr
    rcases hr with e | e <;> subst e <;> simp [this]
theorem mem_bitsL : ∀ {r : List Bool}, r ∈ bitsL r.length := by
  intro r
  suffices ∀ n (r : List Bool), r.length = n → r ∈ bitsL n from this _ r rfl
  intro n
  induction n with
  | zero => intro r h; cases r with | nil => simp [bitsL] | cons => simp at h
  | succ n ih =>
    intro r h
    have hne : r ≠ [] := by intro z; subst z; simp at h
    have e := List.dropLast_concat_getLast hne
    have hl : r.dropLast.length = n := by simp; omega
    simp only [bitsL, List.mem_flatMap]
    refine ⟨r.dropLast, ih _ hl, ?_⟩
    cases q : r.getLast hne with
    | false => rw [q] at e; simp [e]
    | true => rw [q] at e; simp [e]
theorem bits_turn (s : S_u_law_bits) {n : Nat} {c : C} (hn : n ≤ 14) (hf : s.v_found = some c) (hc : c.fz = .lst ((bitsL n).map rowD)) :
    ∃ s', l2_u_law_bits s.e = some (.nx (S_u_law_bits.e s')) ∧ s'.v_found = some (.sh (.lst ((bitsL (n + 1)).map rowD))) := by
  have hp : 2 ^ n ≤ 2 ^ 14 := Nat.pow_le_pow_right (by decide) hn
  have hlen := bitsL_len n
  have hb : ∀ r ∈ bitsL n, r.length ≤ 14 := fun r m => by rw [bitsL_mem m]; exact hn
  have hl14 : (bitsL n).length ≤ 16384 := by rw [hlen]; exact hp
  have l1 : (1 : Nat) ≤ lim := by rw [lim_val]; omega
  have l0 : (0 : Nat) ≤ lim := by rw [lim_val]; omega
  have l2 : (2 : Nat) ≤ lim := by rw [lim_val]; omega
  obtain ⟨s', h1, h2⟩ := forM (E := S_u_law_bits.e) (t := .one 4) (b := l1_u_law_bits) (f := rowD) (fun q s => s.v_longer = some (.ol ((q.flatMap fun r => [r ++ [false], r ++ [true]]).map rowD))) (l := bitsL n)
    (s := { s with v_found := some (.sh c.fz), v_longer := some (.ol []) }) rfl fun q a r s e hj => by
      have ha : a.length + 1 ≤ lim := by have := hb a (by rw [e]; simp); rw [lim_val]; omega
      have hq : ((q.flatMap fun r => [r ++ [false], r ++ [true]]).map rowD).length + 2 ≤ lim := by
        have : ∀ l : List (List Bool), (l.flatMap fun r => [r ++ [false], r ++ [true]]).length = 2 * l.length := by
          intro l
          induction l with
          | nil => rfl
          | cons a l ih => simp [List.flatMap_cons, ih]; omega
        rw [List.length_map, this, lim_val]
        have := congrArg List.length e
        simp at this
        omega
      refine ⟨{ s with v_row := some (.sh (rowD a)), v_longer := some (.ol (((q ++ [a]).flatMap fun r => [r ++ [false], r ++ [true]]).map rowD)) }, ?_, rfl⟩
      simp only [List.length_map] at hq
      simp [-List.length_flatMap, l1_u_law_bits, hj, rowD, len_ints, ha, l1, l2, hq]
      simp [intsD, Net.b2i]
  refine ⟨{ s' with v_longer := some (.sh (.lst ((bitsL (n + 1)).map rowD))), v_found := some (.sh (.lst ((bitsL (n + 1)).map rowD))) }, ?_, rfl⟩
  rw [hc] at h1
  simp [l2_u_law_bits, hf, hc, h1, h2, bitsL, l0]
theorem bits_ok {n : Nat} (hn : n ≤ 14) : F_u_law_bits [.int ((n + 1 : Nat) : Int)] = some (.sh (.lst ((bitsL (n + 1)).map rowD))) := by
  rw [F_u_law_bits_eq]
  have l1 : (1 : Nat) ≤ lim := by rw [lim_val]; omega
  have l0 : (0 : Nat) ≤ lim := by rw [lim_val]; omega
  obtain ⟨s', h1, h2⟩ := forS (E := S_u_law_bits.e) (t := .one 2) (b := l2_u_law_bits) (fun i s => ∃ c, s.v_found = some c ∧ c.fz = .lst ((bitsL i).map rowD) ∧ (0 < i → c = .sh (.lst ((bitsL i).map rowD)))) (ds := rng 0 ((n + 1 : Nat) : Int))
    (s := { v_many := some (.sh (.int ((n + 1 : Nat) : Int))), v_found := some (.ol [.tup []]) }) ⟨_, rfl, rfl, fun h => by omega⟩ fun i d s hd hj => by
      obtain ⟨c, h1, h2, h3⟩ := hj
      have hi : i < n + 1 := by
        have := (List.getElem?_eq_some_iff.mp hd).1
        rw [rng_length] at this; omega
      obtain ⟨s', k1, k2⟩ := bits_turn { s with v_at := some (.sh d) } (n := i) (by omega) h1 h2
      refine ⟨s', ?_, _, k2, rfl, fun _ => rfl⟩
      simp [k1]
  obtain ⟨c, h3, h4, h5⟩ := h2
  have hr : (rng 0 ((n + 1 : Nat) : Int)).length = n + 1 := by rw [rng_length]; omega
  rw [hr] at h4 h5
  have ok : okR ((n + 1 : Nat) : Int) = true := okR_iff.mpr ⟨by omega, by omega⟩
  rw [h5 (by omega)] at h3
  simp only [Int.natCast_add, Int.cast_ofNat_Int] at h1 ok
  simp [b_u_law_bits, ok, h1, h3, l1, l0]
end Fx.Nt
set_option Elab.async false
set_option linter.all false
set_option maxRecDepth 100000
set_option maxHeartbeats 4000000
namespace Fx.Nt
open PySem L2 Fx
open Net (P thr cxl Rg evens odds nexts prs nlev merge)

def steps (m s : Nat) : List Nat := (List.range m).map fun k => s + 2 * k
theorem steps_succ (m s : Nat) : steps (m + 1) s = s :: steps m (s + 2) := by
  unfold steps
  rw [List.range_succ_eq_map]
  simp
  intro a _; omega
theorem rngC_steps (s m : Nat) : rngC (s : Int) 2 m = (steps m s).map fun k => D.int (k : Nat) := by
  unfold rngC steps
  rw [List.map_map]
  apply List.map_congr_left
  intro k _
  simp
  omega
theorem small2 {a b : Int} (h1 : -1000000 ≤ a) (h2 : a ≤ 1000000) (h3 : -1000000 ≤ b) (h4 : b ≤ 1000000) : Builtin.Range.small a b 2 = true := by
  unfold Builtin.Range.small Builtin.Range.rangeFitsLong Builtin.Range.rangeSize
  simp
  by_cases h : a < b
  · simp [h]; omega
  · simp [h]; omega
theorem size2 {a b : Int} : (Builtin.Range.rangeSize a b 2).toNat = ((b - a + 1) / 2).toNat := by
  unfold Builtin.Range.rangeSize
  simp
  split <;> omega
theorem rg2 {a b : Int} (h1 : -1000000 ≤ a) (h2 : a ≤ 1000000) (h3 : -1000000 ≤ b) (h4 : b ≤ 1000000) : RgC a b 2 (Builtin.Range.rangeSize a b 2).toNat := by
  refine ⟨by decide, by decide, small2 h1 h2 h3 h4, ?_⟩
  have : 0 ≤ Builtin.Range.rangeSize a b 2 := by
    unfold Builtin.Range.rangeSize
    simp
    split <;> omega
  omega
theorem evens_map {α β : Type} (f : α → β) : ∀ l : List α, evens (l.map f) = (evens l).map f
  | [] => rfl
  | [_] => rfl
  | x :: y :: r => by simp [evens, evens_map f r]
theorem odds_map {α β : Type} (f : α → β) : ∀ l : List α, odds (l.map f) = (odds l).map f
  | [] => rfl
  | [_] => rfl
  | x :: y :: r => by simp [odds, odds_map f r]
theorem odds_cons {α : Type} (x : α) : ∀ l : List α, odds (x :: l) = evens l
  | [] => rfl
  | [_] => rfl
  | y :: z :: r => by simp [odds, evens, odds_cons z r]
theorem pick_evens {α : Type} (l : List α) : ∀ (n s : Nat), l.length - s ≤ n → s ≤ l.length → ((steps ((l.length - s + 1) / 2) s)).filterMap (l[·]?) = evens (l.drop s)
  | 0, s, h, hs => by
    have : s = l.length := by omega
    subst this
    simp [steps, evens]
  | n + 1, s, h, hs => by
    by_cases h0 : s = l.length
    · subst h0; simp [steps, evens]
    · have hs' : s < l.length := by omega
      have e1 : (l.length - s + 1) / 2 = (l.length - s - 1) / 2 + 1 := by omega
      rw [e1, steps_succ, List.filterMap_cons_some (by rw [List.getElem?_eq_getElem hs'])]
      rw [List.drop_eq_getElem_cons hs']
      by_cases h1 : s + 1 = l.length
      · have e2 : (l.length - s - 1) / 2 = 0 := by omega
        rw [e2, h1, List.drop_length]; rfl
      · have hs2 : s + 1 < l.length := by omega
        rw [List.drop_eq_getElem_cons hs2]
        have := pick_evens l n (s + 2) (by omega) (by omega)
        rw [show (l.length - (s + 2) + 1) / 2 = (l.length - s - 1) / 2 by omega] at this
        rw [this]; rfl
theorem pick_from {α : Type} (l : List α) (k : Nat) : pickD l (some (k : Int)) none (some 2) = evens (l.drop k) := by
  have hb : sliceBounds (some (k : Int)) none (some 2) l.length = (((min k l.length : Nat) : Int), (l.length : Int), (2 : Int)) := by
    unfold sliceBounds
    simp
    omega
  unfold pickD
  rw [hb]
  have hr : sliceRange ((min k l.length : Nat) : Int) (l.length : Int) 2 = steps ((l.length - min k l.length + 1) / 2) (min k l.length) := by
    unfold sliceRange steps
    simp only [show ((2 : Int) > 0) = True by simp, if_true]
    have : (if ((min k l.length : Nat) : Int) < (l.length : Int) then ((l.length : Int) - (min k l.length : Nat) + 2 - 1) / 2 else 0).toNat = (l.length - min k l.length + 1) / 2 := by
      split <;> omega
    rw [this]
    apply List.map_congr_left
    intro a _
    omega
  show (sliceRange ((min k l.length : Nat) : Int) (l.length : Int) 2).filterMap (l[·]?) = _
  rw [hr, pick_evens l _ _ (Nat.le_refl _) (by omega)]
  by_cases h : k ≤ l.length
  · rw [Nat.min_eq_left h]
  · rw [Nat.min_eq_right (by omega), List.drop_length, List.drop_eq_nil_of_le (by omega)]
theorem pick_all {α : Type} (l : List α) : pickD l none none (some 2) = evens l := by
  have := pick_from l 0
  rw [List.drop_zero] at this
  rw [← this]
  have h : max (0 : Int) (min 0 (l.length : Int)) = 0 := by omega
  unfold pickD sliceBounds
  simp [h]
theorem nexts_steps (l : List Nat) : ∀ (n s : Nat), l.length - s ≤ n → (steps ((l.length - s) / 2) s).map (fun k => (l.getD k 0, l.getD (k + 1) 0)) = nexts (l.drop s)
  | 0, s, h => by
    have e : (l.length - s) / 2 = 0 := by omega
    rw [e, List.drop_eq_nil_of_le (by omega)]; rfl
  | n + 1, s, h => by
    by_cases h1 : s + 1 < l.length
    · have e1 : (l.length - s) / 2 = (l.length - (s + 2)) / 2 + 1 := by omega
      rw [e1, steps_succ, List.map_cons, nexts_steps l n (s + 2) (by omega), List.drop_eq_getElem_cons (by omega : s < l.length), List.drop_eq_getElem_cons h1]
      simp [nexts, h1, show s < l.length by omega]
    · have e : (l.length - s) / 2 = 0 := by omega
      rw [e]
      by_cases h0 : s < l.length
      · rw [List.drop_eq_getElem_cons h0, List.drop_eq_nil_of_le (by omega)]; rfl
      · rw [List.drop_eq_nil_of_le (by omega)]; rfl
theorem prs_steps : ∀ (m s : Nat), (steps (m / 2) s).map (fun k => (k, k + 1)) = prs m s
  | 0, _ => rfl
  | 1, _ => rfl
  | m + 2, s => by
    rw [show (m + 2) / 2 = m / 2 + 1 by omega, steps_succ, List.map_cons, prs_steps m (s + 2)]; rfl
theorem zip_nexts : ∀ t : List Nat, (evens t).zip (evens (t.drop 1)) = nexts t
  | [] => rfl
  | [_] => rfl
  | x :: y :: r => by
    have h : evens (y :: r) = y :: evens (r.drop 1) := by cases r <;> rfl
    simp only [evens, List.drop_succ_cons, List.drop_zero, nexts, h, List.zip_cons_cons]
    rw [zip_nexts r]
def natsD (l : List Nat) : List D := l.map fun k => D.int (k : Nat)
theorem natsD_len (l : List Nat) : (natsD l).length = l.length := by simp [natsD]
theorem lim_of {n : Nat} (h : n ≤ 1000000) : n ≤ lim := by rw [lim_val]; omega
theorem neighbours_ok {n : Nat} (hn : n ≤ 1000) : F_neighbours [.int (n : Int)] = some (.sh (.tup ((List.range n).map fun t => plD (nlev n t)))) := by
  rw [F_neighbours_eq]
  have l2 : (2 : Nat) ≤ lim := lim_of (by omega)
  have hi : ∀ (m k : Nat) (s : S_neighbours), s.v_one = none → compN [1] (.one 1) kYes c2_neighbours ((steps m k).map fun k => D.int (k : Nat)) s.e = some ((steps m k).map fun k => prD (k, k + 1), s.e) := fun m k s h => by
    cases s; cases h
    refine compN_map (f := fun k : Nat => D.int (k : Int)) fun p _ => ?_
    simp [cStep, c2_neighbours, l2, prD]
  have lp : ∀ m k, (prs m k).length ≤ m := by
    intro m
    induction m using Nat.strongRecOn with
    | ind m ih =>
      intro k
      match m, ih with
      | 0, _ => simp [prs]
      | 1, _ => simp [prs]
      | m + 2, ih => have := ih m (by omega) (k + 2); simp [prs]; omega
  have hc : ∀ s : S_neighbours, s.v_many = some (.sh (.int n)) → s.v_one = none → s.v_level = none → compN [2] (.one 2) kYes c1_neighbours ((List.range n).map fun t => D.int ((t : Nat) : Int)) s.e = some ((List.range n).map fun t => plD (nlev n t), s.e) := fun s h1 h2 h3 => by
    cases s; cases h1; cases h2; cases h3
    refine compN_map (f := fun t : Nat => D.int (t : Int)) fun t ht => ?_
    have ht : t < n := by simpa using ht
    have hr := rg2 (a := (t : Int) % 2) (b := (n : Int) - 1) (by omega) (by omega) (by omega) (by omega)
    have hz : (Builtin.Range.rangeSize ((t : Int) % 2) ((n : Int) - 1) 2).toNat = (n - t % 2) / 2 := by rw [size2]; omega
    rw [hz] at hr
    have hs : rngC ((t : Int) % 2) 2 ((n - t % 2) / 2) = (steps ((n - t % 2) / 2) (t % 2)).map fun k => D.int (k : Nat) := rngC_steps (t % 2) _
    have hp : ((steps ((n - t % 2) / 2) (t % 2)).map fun k => prD (k, k + 1)) = (nlev n t).map prD := by
      have := prs_steps (n - t % 2) (t % 2)
      unfold nlev
      by_cases q : t % 2 = 0
      · rw [if_pos q]; rw [q, Nat.sub_zero] at this; rw [q, Nat.sub_zero, ← this, List.map_map]; rfl
      · have q : t % 2 = 1 := by omega
        rw [q] at this ⊢; rw [if_neg (by omega), ← this, List.map_map]; rfl
    have hl : (nlev n t).length ≤ lim := by unfold nlev; have := lp n 0; have := lp (n - 1) 1; rw [lim_val]; split <;> omega
    simp [cStep, c1_neighbours, hr, hz, hs, hi, hp, hl, plD]
  have ok : okR (n : Int) = true := okR_iff.mpr ⟨by omega, by omega⟩
  have hrg : rng 0 (n : Int) = (List.range n).map fun t => D.int ((t : Nat) : Int) := by
    unfold rng; simp
  have hl : n ≤ lim := lim_of (by omega)
  simp [b_neighbours, ok, hrg, hc, hl]
theorem eq_nil (l : List Nat) : fEq [.lst (natsD l), .lst []] = some (.sh (.bl (decide (l = [])))) := by
  have h1 : ∀ l : List Nat, D.okqs (natsD l) = true := by
    intro l
    induction l with
    | nil => rfl
    | cons a l ih => exact ih
  have h2 : ∀ l : List Nat, D.deps (natsD l) = 0 := by
    intro l
    induction l with
    | nil => rfl
    | cons a l ih => show max 0 (D.deps (natsD l)) = 0; rw [ih]; rfl
  have hc : (D.lst (natsD l)).cmpable (.lst []) = true := by simp [D.cmpable, D.okq, h1, D.dep, h2, D.okqs, D.deps]
  rw [fEq_v hc]
  cases l <;> simp [natsD, D.eqv, D.eqvs]
theorem merge_len : ∀ (j : Nat) (a b : List Nat), (merge j a b).length ≤ j * (a.length + b.length)
  | 0, _, _ => by simp [merge]
  | j + 1, a, b => by
    have nl : ∀ l : List Nat, (nexts l).length ≤ l.length := by
      intro l
      induction l using nexts.induct with
      | case1 x y r ih => simp [nexts]; omega
      | case2 l h => cases l with
        | nil => simp [nexts]
        | cons x l => cases l with
          | nil => simp [nexts]
          | cons y l => exact absurd rfl (h x y l)
    unfold merge
    split
    · simp
    · split
      · rename_i h; simp [h.1, h.2, Nat.mul_comm]; omega
      · have h1 := merge_len j (evens a) (evens b)
        have h2 := merge_len j (odds a) (odds b)
        rw [Net.evens_len, Net.evens_len] at h1
        rw [Net.odds_len, Net.odds_len] at h2
        have h3 := nl (a ++ b).tail
        simp at h3 ⊢
        have e : j * ((a.length + 1) / 2 + (b.length + 1) / 2) + j * (a.length / 2 + b.length / 2) = j * (a.length + b.length) := by
          rw [← Nat.mul_add]; congr 1; omega
        rw [Nat.succ_mul]
        omega
theorem ix0 (l : List Nat) (h : l.length = 1) : atI (natsD l) 0 = some (.int ((l.headD 0 : Nat) : Int)) := by
  cases l with
  | nil => simp at h
  | cons x l => exact atI_z
theorem pick_e (l : List Nat) : pickD (natsD l) none none (some 2) = natsD (evens l) := by rw [pick_all]; exact evens_map _ _
theorem pick_e0 (l : List Nat) : pickD (natsD l) (some 0) none (some 2) = natsD (evens l) := by
  have := pick_from (natsD l) 0
  rw [List.drop_zero] at this
  exact this.trans (evens_map _ _)
theorem pick_o (l : List Nat) : pickD (natsD l) (some 1) none (some 2) = natsD (odds l) := by
  refine (pick_from (natsD l) 1).trans ?_
  unfold natsD
  rw [← List.map_drop, evens_map]
  cases l with
  | nil => rfl
  | cons x l => rw [odds_cons]; rfl
theorem pick_2 (l : List Nat) : pickD (natsD l) (some 2) none (some 2) = natsD (evens (l.drop 2)) := by
  refine (pick_from (natsD l) 2).trans ?_
  unfold natsD
  rw [← List.map_drop, evens_map]
theorem zip_ok (l : List Nat) : zipD (natsD (odds l)) (natsD (evens (l.drop 2))) = (nexts l.tail).map prD := by
  have h : odds l = evens l.tail := by
    cases l with
    | nil => rfl
    | cons x l => exact odds_cons x l
  have := zip_nexts l.tail
  rw [List.drop_tail] at this
  rw [h, ← this]
  unfold zipD natsD
  rw [List.zip_map, List.map_map]; rfl
theorem natsD_app (a b : List Nat) : natsD a ++ natsD b = natsD (a ++ b) := by simp [natsD]
theorem nexts_len : ∀ l : List Nat, (nexts l).length ≤ l.length := by
  intro l
  induction l using nexts.induct with
  | case1 x y r ih => simp [nexts]; omega
  | case2 l h => cases l with
    | nil => simp [nexts]
    | cons x l => cases l with
      | nil => simp [nexts]
      | cons y l => exact absurd rfl (h x y l)
theorem merging_ok : ∀ (j : Nat) (a b : List Nat), a.length ≤ 2 ^ j → b.length ≤ 2 ^ j → a.length + b.length ≤ 10000 → j ≤ 50 → F_merging (j + 1) [.lst (natsD a), .lst (natsD b)] = some (.ol ((merge (j + 1) a b).map prD)) := by
  have l1 : (1 : Nat) ≤ lim := lim_of (by omega)
  have l2 : (2 : Nat) ≤ lim := lim_of (by omega)
  have l0 : (0 : Nat) ≤ lim := lim_of (by omega)
  intro j
  induction j with
  | zero =>
    intro a b ha hb hn hj
    rw [F_merging_eq]
    by_cases qa : a = []
    · simp [b_merging, eq_nil, qa, merge, l0]
    · by_cases qb : b = []
      · simp [b_merging, eq_nil, qa, qb, merge, l0]
      · have ha1 : a.length = 1 := by have := List.length_pos_iff.mpr qa; simp at ha; omega
        have hb1 : b.length = 1 := by have := List.length_pos_iff.mpr qb; simp at hb; omega
        simp [b_merging, eq_nil, qa, qb, merge, l0, l1, l2, natsD_len, ha1, hb1, ix0 a ha1, ix0 b hb1, prD]
  | succ j ih =>
    intro a b ha hb hn hj
    rw [F_merging_eq]
    by_cases qa : a = []
    · simp [b_merging, eq_nil, qa, merge, l0]
    · by_cases qb : b = []
      · simp [b_merging, eq_nil, qa, qb, merge, l0]
      · by_cases q1 : a.length = 1 ∧ b.length = 1
        · obtain ⟨ha1, hb1⟩ := q1
          simp [b_merging, eq_nil, qa, qb, merge, l0, l1, l2, natsD_len, ha1, hb1, ix0 a ha1, ix0 b hb1, prD]
        · have pw : 2 ^ (j + 1) = 2 * 2 ^ j := by rw [Nat.pow_succ]; omega
          have ea := Net.evens_len a
          have eb := Net.evens_len b
          have oa := Net.odds_len a
          have ob := Net.odds_len b
          have i1 := ih (evens a) (evens b) (by omega) (by omega) (by omega) (by omega)
          have i2 := ih (odds a) (odds b) (by omega) (by omega) (by omega) (by omega)
          have k1 := merge_len (j + 1) (evens a) (evens b)
          have k2 := merge_len (j + 1) (odds a) (odds b)
          have m1 : (j + 1) * ((evens a).length + (evens b).length) ≤ 51 * 10002 := Nat.mul_le_mul (by omega) (by omega)
          have m2 : (j + 1) * ((odds a).length + (odds b).length) ≤ 51 * 10002 := Nat.mul_le_mul (by omega) (by omega)
          have k3 := nexts_len (a ++ b).tail
          rw [List.length_tail, List.length_append] at k3
          have em : merge (j + 1 + 1) a b = merge (j + 1) (evens a) (evens b) ++ merge (j + 1) (odds a) (odds b) ++ nexts (a ++ b).tail := by
            rw [merge, if_neg (by simp [qa, qb]), if_neg q1]
          have q1' : ¬ ((a.length : Int) = 1 ∧ (b.length : Int) = 1) := by omega
          have n1 : (merge (j + 1) (evens a) (evens b)).length + (merge (j + 1) (odds a) (odds b)).length ≤ lim := by rw [lim_val]; omega
          have n2 : (merge (j + 1) (evens a) (evens b)).length + ((merge (j + 1) (odds a) (odds b)).length + (nexts (a ++ b).tail).length) ≤ lim := by rw [lim_val]; omega
          have n3 : (evens a).length ≤ lim := by rw [lim_val]; omega
          have n4 : (evens b).length ≤ lim := by rw [lim_val]; omega
          have n5 : (odds a).length ≤ lim := by rw [lim_val]; omega
          have n6 : (odds b).length ≤ lim := by rw [lim_val]; omega
          have n7 : a.length + b.length ≤ lim := by rw [lim_val]; omega
          have n8 : (odds (a ++ b)).length ≤ lim := by rw [lim_val, Net.odds_len, List.length_append]; omega
          have n9 : (evens ((a ++ b).drop 2)).length ≤ lim := by rw [lim_val, Net.evens_len, List.length_drop, List.length_append]; omega
          rw [em]
          have hz := zip_ok (a ++ b)
          have n10 : min (odds (a ++ b)).length (evens ((a ++ b).drop 2)).length ≤ lim := by omega
          generalize nexts (a ++ b).tail = N at *
          generalize merge (j + 1) (evens a) (evens b) = M1 at *
          generalize merge (j + 1) (odds a) (odds b) = M2 at *
          have n2 : (M1.map prD ++ M2.map prD).length + N.length ≤ lim := by rw [List.length_append, List.length_map, List.length_map]; omega
          by_cases qa1 : (a.length : Int) = 1
          · have qb1 : ¬ (b.length : Int) = 1 := fun z => q1' ⟨qa1, z⟩
            simp [-List.length_append, -List.drop_append, b_merging, eq_nil, qa, qb, natsD_len, qa1, qb1, pick_e, pick_o, pick_2, i1, i2, n1, n2, n3, n4, n5, n6, n7, n8, n9, n10, natsD_app, hz]
          · simp [-List.length_append, -List.drop_append, b_merging, eq_nil, qa, qb, natsD_len, qa1, pick_e, pick_o, pick_2, i1, i2, n1, n2, n3, n4, n5, n6, n7, n8, n9, n10, natsD_app, hz]
theorem law_merging_ok : ∀ (j : Nat) (a b : List Nat), a.length ≤ 2 ^ j → b.length ≤ 2 ^ j → a.length + b.length ≤ 10000 → j ≤ 50 → F_u_law_merging (j + 1) [.lst (natsD a), .lst (natsD b)] = some (.ol ((merge (j + 1) a b).map prD)) := by
  have l1 : (1 : Nat) ≤ lim := lim_of (by omega)
  have l2 : (2 : Nat) ≤ lim := lim_of (by omega)
  have l0 : (0 : Nat) ≤ lim := lim_of (by omega)
  intro j
  induction j with
  | zero =>
    intro a b ha hb hn hj
    rw [F_u_law_merging_eq]
    by_cases qa : a = []
    · simp [b_u_law_merging, eq_nil, qa, merge, l0]
    · by_cases qb : b = []
      · simp [b_u_law_merging, eq_nil, qa, qb, merge, l0]
      · have ha1 : a.length = 1 := by have := List.length_pos_iff.mpr qa; simp at ha; omega
        have hb1 : b.length = 1 := by have := List.length_pos_iff.mpr qb; simp at hb; omega
        simp [b_u_law_merging, eq_nil, qa, qb, merge, l0, l1, l2, natsD_len, ha1, hb1, ix0 a ha1, ix0 b hb1, prD]
  | succ j ih =>
    intro a b ha hb hn hj
    rw [F_u_law_merging_eq]
    by_cases qa : a = []
    · simp [b_u_law_merging, eq_nil, qa, merge, l0]
    · by_cases qb : b = []
      · simp [b_u_law_merging, eq_nil, qa, qb, merge, l0]
      · by_cases q1 : a.length = 1 ∧ b.length = 1
        · obtain ⟨ha1, hb1⟩ := q1
          simp [b_u_law_merging, eq_nil, qa, qb, merge, l0, l1, l2, natsD_len, ha1, hb1, ix0 a ha1, ix0 b hb1, prD]
        · have pw : 2 ^ (j + 1) = 2 * 2 ^ j := by rw [Nat.pow_succ]; omega
          have ea := Net.evens_len a
          have eb := Net.evens_len b
          have oa := Net.odds_len a
          have ob := Net.odds_len b
          have i1 := ih (evens a) (evens b) (by omega) (by omega) (by omega) (by omega)
          have i2 := ih (odds a) (odds b) (by omega) (by omega) (by omega) (by omega)
          have k1 := merge_len (j + 1) (evens a) (evens b)
          have k2 := merge_len (j + 1) (odds a) (odds b)
          have m1 : (j + 1) * ((evens a).length + (evens b).length) ≤ 51 * 10002 := Nat.mul_le_mul (by omega) (by omega)
          have m2 : (j + 1) * ((odds a).length + (odds b).length) ≤ 51 * 10002 := Nat.mul_le_mul (by omega) (by omega)
          have k3 := nexts_len (a ++ b).tail
          rw [List.length_tail, List.length_append] at k3
          have em : merge (j + 1 + 1) a b = merge (j + 1) (evens a) (evens b) ++ merge (j + 1) (odds a) (odds b) ++ nexts (a ++ b).tail := by
            rw [merge, if_neg (by simp [qa, qb]), if_neg q1]
          have q1' : ¬ ((a.length : Int) = 1 ∧ (b.length : Int) = 1) := by omega
          have n1 : (merge (j + 1) (evens a) (evens b)).length + (merge (j + 1) (odds a) (odds b)).length ≤ lim := by rw [lim_val]; omega
          have n2 : (merge (j + 1) (evens a) (evens b)).length + ((merge (j + 1) (odds a) (odds b)).length + (nexts (a ++ b).tail).length) ≤ lim := by rw [lim_val]; omega
          have n3 : (evens a).length ≤ lim := by rw [lim_val]; omega
          have n4 : (evens b).length ≤ lim := by rw [lim_val]; omega
          have n5 : (odds a).length ≤ lim := by rw [lim_val]; omega
          have n6 : (odds b).length ≤ lim := by rw [lim_val]; omega
          have n7 : a.length + b.length ≤ lim := by rw [lim_val]; omega
          have n8 : (odds (a ++ b)).length ≤ lim := by rw [lim_val, Net.odds_len, List.length_append]; omega
          have n9 : (evens ((a ++ b).drop 2)).length ≤ lim := by rw [lim_val, Net.evens_len, List.length_drop, List.length_append]; omega
          rw [em]
          have hr := rg2 (a := 1) (b := ((a ++ b).length : Int) - 1) (by omega) (by omega) (by omega) (by simp; omega)
          have hzz : (Builtin.Range.rangeSize 1 (((a ++ b).length : Int) - 1) 2).toNat = ((a ++ b).length - 1) / 2 := by rw [size2]; omega
          rw [hzz] at hr
          have hs : rngC 1 2 (((a ++ b).length - 1) / 2) = (steps (((a ++ b).length - 1) / 2) 1).map fun k => D.int (k : Nat) := rngC_steps 1 _
          have hc : ∀ s : S_u_law_merging, s.v_every = some (.ol (natsD (a ++ b))) → s.v_at = none → compN [4] (.one 4) kYes (c1_u_law_merging (F_u_law_merging (j + 1))) ((steps (((a ++ b).length - 1) / 2) 1).map fun k => D.int (k : Nat)) s.e = some ((nexts (a ++ b).tail).map prD, s.e) := fun s h1 h2 => by
            cases s; cases h1; cases h2
            have hn := nexts_steps (a ++ b) ((a ++ b).length - 1) 1 (Nat.le_refl _)
            rw [List.drop_one] at hn
            rw [← hn, List.map_map]
            refine compN_map (f := fun k : Nat => D.int (k : Int)) fun k hk => ?_
            have hk : k + 1 < (a ++ b).length := by
              unfold steps at hk
              simp only [List.mem_map, List.mem_range] at hk
              obtain ⟨q, hq, rfl⟩ := hk
              omega
            have e1 : atI (natsD (a ++ b)) (k : Int) = some (.int (((a ++ b).getD k 0 : Nat) : Int)) := by
              rw [atI_nat]; simp only [natsD, List.getElem?_map, List.getD_eq_getElem?_getD, List.getElem?_eq_getElem (show k < (a ++ b).length by omega)]; rfl
            have e2 : atI (natsD (a ++ b)) ((k : Int) + 1) = some (.int (((a ++ b).getD (k + 1) 0 : Nat) : Int)) := by
              rw [show (k : Int) + 1 = ((k + 1 : Nat) : Int) by omega, atI_nat]; simp only [natsD, List.getElem?_map, List.getD_eq_getElem?_getD, List.getElem?_eq_getElem hk]; rfl
            simp [-List.getD_eq_getElem?_getD, cStep, c1_u_law_merging, e1, e2, l2, prD]
          have hlen : (natsD (a ++ b)).length = (a ++ b).length := natsD_len _
          have hN : (nexts (a ++ b).tail).length ≤ lim := by rw [lim_val]; omega
          generalize nexts (a ++ b).tail = N at *
          generalize ((a ++ b).length - 1) / 2 = mm at *
          generalize merge (j + 1) (evens a) (evens b) = M1 at *
          generalize merge (j + 1) (odds a) (odds b) = M2 at *
          have n2 : (M1.map prD ++ M2.map prD).length + N.length ≤ lim := by rw [List.length_append, List.length_map, List.length_map]; omega
          by_cases qa1 : (a.length : Int) = 1
          · have qb1 : ¬ (b.length : Int) = 1 := fun z => q1' ⟨qa1, z⟩
            simp [-List.length_append, -List.drop_append, b_u_law_merging, eq_nil, qa, qb, natsD_len, qa1, qb1, pick_e0, pick_o, i1, i2, n1, n2, n3, n4, n5, n6, n7, natsD_app, hzz, hr, hs, hc, hN]
          · simp [-List.length_append, -List.drop_append, b_u_law_merging, eq_nil, qa, qb, natsD_len, qa1, pick_e0, pick_o, i1, i2, n1, n2, n3, n4, n5, n6, n7, natsD_app, hzz, hr, hs, hc, hN]
end Fx.Nt
set_option Elab.async false
set_option linter.all false
set_option maxRecDepth 100000
set_option maxHeartbeats 4000000
namespace Fx.Nt
open PySem L2 Fx
open Net (P thr cxl Rg merge lvs lvStep LvOk)

def lsP (p : P) : List Int := [(p.1 : Nat), (p.2 : Nat)]
def so (l : List P) : List P := (isrt lexL (l.map lsP)).map fun q => ((q.getD 0 0).toNat, (q.getD 1 0).toNat)
theorem so_perm (l : List P) : (so l).Perm l := by
  have h := (isrt_perm lexL (l.map lsP)).map fun q : List Int => ((q.getD 0 0).toNat, (q.getD 1 0).toNat)
  have e : (l.map lsP).map (fun q : List Int => ((q.getD 0 0).toNat, (q.getD 1 0).toNat)) = l := by
    rw [List.map_map]
    conv => rhs; rw [← List.map_id l]
    apply List.map_congr_left
    intro p _
    simp [lsP]
  rw [e] at h
  exact h
theorem so_ok {x : D} {l : List P} (hx : x.seq = some (l.map prD)) : fSorted [x] = some (.ol ((so l).map prD)) := by
  have hx' : x.seq = some ((l.map lsP).map dTup) := by rw [hx, List.map_map]; rfl
  rw [sorted_T hx' fun ns m => by obtain ⟨p, _, rfl⟩ := List.mem_map.mp m; simp [lsP]]
  congr 2
  unfold so
  rw [List.map_map]
  apply List.map_congr_left
  intro q hq
  have hq := (isrt_perm lexL (l.map lsP)).mem_iff.mp hq
  obtain ⟨p, _, rfl⟩ := List.mem_map.mp hq
  simp [lsP, dTup, prD]
def lvC (ls : List (List P)) : List (List D) := ls.map fun l => l.map prD
structure LvRel (kvs : List (Key × D)) (c : C) (st : (Nat → Nat) × List (List P)) (n : Nat) : Prop where
  val : ∀ k : Nat, (valD kvs (.inl (k : Int))).getD (.int 0) = .int (st.1 k : Nat)
  kl : kvs.length ≤ 2 * n
  cl : c = .oll (lvC st.2) ∨ (c = .ol [] ∧ st.2 = [])
  ok : LvOk st
  n1 : st.2.length ≤ n
  n2 : ∀ l ∈ st.2, l.length ≤ n
theorem lv_step {kvs : List (Key × D)} {c : C} {st : (Nat → Nat) × List (List P)} {n : Nat} (p : P) (h : LvRel kvs c st n) (hok : LvOk (lvStep st p)) :
    ∃ at_ dss1 ds, at_ = max (st.1 p.1) (st.1 p.2) ∧ dss1[at_]? = some ds ∧ (at_ = st.2.length → dss1 = lvC st.2 ++ [[]]) ∧ (at_ ≠ st.2.length → dss1 = lvC st.2 ∧ c = .oll (lvC st.2)) ∧ at_ ≤ n ∧ at_ ≤ st.2.length ∧ at_ < dss1.length ∧ ds.length ≤ n ∧
      LvRel (putD (putD kvs (.inl (p.1 : Int)) (.int ((at_ : Int) + 1))) (.inl (p.2 : Int)) (.int ((at_ : Int) + 1))) (.oll (dss1.set at_ (ds ++ [prD p]))) (lvStep st p) (n + 1) := by
  have hle : max (st.1 p.1) (st.1 p.2) ≤ st.2.length := Nat.max_le.mpr ⟨h.ok.le _, h.ok.le _⟩
  have hval : ∀ at_ : Nat, at_ = max (st.1 p.1) (st.1 p.2) → ∀ k : Nat, (valD (putD (putD kvs (.inl (p.1 : Int)) (.int ((at_ : Int) + 1))) (.inl (p.2 : Int)) (.int ((at_ : Int) + 1))) (.inl (k : Int))).getD (.int 0) = .int ((lvStep st p).1 k : Nat) := by
    intro at_ e k
    rw [valD_put, valD_put]
    unfold lvStep
    simp only [← e]
    by_cases h2 : k = p.2
    · subst h2; simp
    · by_cases h1 : k = p.1
      · subst h1
        have : ¬ (Sum.inl (p.1 : Int) : Key) = .inl (p.2 : Int) := by simp; omega
        rw [if_neg this]; simp
      · have a1 : ¬ (Sum.inl (k : Int) : Key) = .inl (p.2 : Int) := by simp; omega
        have a2 : ¬ (Sum.inl (k : Int) : Key) = .inl (p.1 : Int) := by simp; omega
        rw [if_neg a1, if_neg a2, h.val k]; simp [h1, h2]
  have hkl : ∀ v w : D, (putD (putD kvs (.inl (p.1 : Int)) v) (.inl (p.2 : Int)) w).length ≤ 2 * (n + 1) := fun v w => by
    have a := len_put (kvs := kvs) (k := (.inl (p.1 : Int) : Key)) (v := v)
    have b := len_put (kvs := putD kvs (.inl (p.1 : Int) : Key) v) (k := (.inl (p.2 : Int) : Key)) (v := w)
    have := h.kl
    omega
  have hn := h.n1
  by_cases q : max (st.1 p.1) (st.1 p.2) = st.2.length
  · refine ⟨_, lvC st.2 ++ [[]], [], rfl, by rw [q]; simp [lvC], fun _ => rfl, fun z => absurd q z, by omega, hle, by simp [lvC]; omega, by simp, ⟨hval _ rfl, hkl _ _, .inl ?_, hok, ?_, ?_⟩⟩
    · unfold lvStep; simp only [if_pos q]
      rw [q]; simp [lvC]
    · unfold lvStep; simp only [if_pos q]; simp; exact hn
    · unfold lvStep; simp only [if_pos q]
      intro l hl
      rcases List.mem_append.mp hl with hl | hl
      · have := h.n2 l hl; omega
      · simp at hl; subst hl; simp
  · have hlt : max (st.1 p.1) (st.1 p.2) < st.2.length := by omega
    have hc : c = .oll (lvC st.2) := by
      rcases h.cl with e | ⟨_, e⟩
      · exact e
      · rw [e] at hlt; simp at hlt
    have hg : (lvC st.2)[max (st.1 p.1) (st.1 p.2)]? = some ((st.2[max (st.1 p.1) (st.1 p.2)]).map prD) := by
      unfold lvC; rw [List.getElem?_map, List.getElem?_eq_getElem hlt]; rfl
    have hm := h.n2 _ (List.getElem_mem hlt)
    refine ⟨_, lvC st.2, _, rfl, hg, fun z => absurd z q, fun _ => ⟨rfl, hc⟩, by omega, hle, by simp [lvC]; omega, by simpa using hm, ⟨hval _ rfl, hkl _ _, .inl ?_, hok, ?_, ?_⟩⟩
    · unfold lvStep; simp only [if_neg q]
      simp only [lvC, List.map_set]
      congr 2
      simp [List.getD_eq_getElem?_getD, List.getElem?_eq_getElem hlt]
    · unfold lvStep; simp only [if_neg q]; simp; omega
    · unfold lvStep; simp only [if_neg q]
      intro l hl
      rcases List.mem_or_eq_of_mem_set hl with hl | hl
      · have := h.n2 l hl; omega
      · subst hl
        simp [List.getD_eq_getElem?_getD, List.getElem?_eq_getElem hlt]; exact hm
theorem max_cast (a b : Nat) : max (a : Int) (b : Int) = ((max a b : Nat) : Int) := by omega
theorem levelled_step {kvs : List (Key × D)} {c : C} {st : (Nat → Nat) × List (List P)} {n : Nat} (s : S_levelled) (p : P) (hf : s.v_free = some (.odk kvs)) (hc : s.v_levels = some c) (h : LvRel kvs c st n) (hok : LvOk (lvStep st p)) (hn : n ≤ 100000) :
    ∃ s', (asgT (.tup [3, 4]) (prD p) s.e).bind l1_levelled = some (.nx (S_levelled.e s')) ∧ s'.v_level = s.v_level ∧ ∃ kvs' c', s'.v_free = some (.odk kvs') ∧ s'.v_levels = some c' ∧ LvRel kvs' c' (lvStep st p) (n + 1) := by
  obtain ⟨at_, dss1, ds, e, hg, ha, hb, k1, k2, k3, k4, hr⟩ := lv_step p h hok
  have v1 := h.val p.1
  have v2 := h.val p.2
  have l2 : (2 : Nat) ≤ lim := lim_of (by omega)
  have j1 : kvs.length < lim := by rw [lim_val]; have := h.kl; omega
  have j2 : (putD kvs (.inl (p.1 : Int)) (.int ((at_ : Int) + 1))).length < lim := by
    have a := len_put (kvs := kvs) (k := (.inl (p.1 : Int) : Key)) (v := .int ((at_ : Int) + 1))
    rw [lim_val]; have := h.kl; omega
  have j3 : ds.length < lim := by rw [lim_val]; omega
  have j4 : (lvC st.2).length < lim := by rw [lim_val]; have := h.n1; simp [lvC]; omega
  have j0 : (0 : Nat) < lim := by rw [lim_val]; omega
  have j00 : (0 : Nat) ≤ lim := by rw [lim_val]; omega
  have hx : ixN dss1.length (at_ : Int) = some at_ := ixN_nat k3
  refine ⟨{ s with v_one := some (.sh (.int (p.1 : Nat))), v_other := some (.sh (.int (p.2 : Nat))), v_at := some (.sh (.int (at_ : Nat))), v_free := some (.odk (putD (putD kvs (.inl (p.1 : Int)) (.int ((at_ : Int) + 1))) (.inl (p.2 : Int)) (.int ((at_ : Int) + 1)))), v_levels := some (.oll (dss1.set at_ (ds ++ [prD p]))) }, ?_, rfl, _, _, rfl, rfl, hr⟩
  by_cases q : at_ = st.2.length
  · have hd := ha q
    rcases h.cl with z | ⟨z, z2⟩
    · have hlen : ((lvC st.2).length : Int) = at_ := by rw [q]; simp [lvC]
      subst z
      simp [prD, l1_levelled, hf, hc, v1, v2, fMax_ints, max_cast, ← e, hlen, j0, j00, j4, ← hd, hx, hg, j3, l2, j1, j2]
    · subst z
      have q0 : at_ = 0 := by rw [q, z2]; rfl
      have hd : dss1 = [[]] := by rw [hd, z2]; rfl
      subst q0
      subst hd
      have hx0 : ixN 1 0 = some 0 := rfl
      have hds : ds = [] := by simpa using hg.symm
      subst hds
      have j2' : (putD kvs (.inl (p.1 : Int)) (.int 1)).length < lim := by simpa using j2
      simp [prD, l1_levelled, hf, hc, v1, v2, fMax_ints, max_cast, ← e, j0, j00, hx0, l2, j1, j2']
  · obtain ⟨hd, z⟩ := hb q
    have hlen : ¬ (at_ : Int) = ((lvC st.2).length : Int) := by simp [lvC]; omega
    subst z
    rw [hd] at hx hg hr
    rw [hd]
    simp [prD, l1_levelled, hf, hc, v1, v2, fMax_ints, max_cast, ← e, hlen, j0, j00, j4, hx, hg, j3, l2, j1, j2]
theorem lvs_pre {ps q r : List P} {a : P} (e : ps = q ++ a :: r) : lvStep (lvs q) a = lvs (q ++ [a]) := by simp [lvs]
theorem lvRel0 : LvRel [] (.ol []) (lvs []) 0 := ⟨fun k => rfl, Nat.le_refl _, .inr ⟨rfl, rfl⟩, (Net.lvs_ok []).1, Nat.le_refl _, fun l h => by cases h⟩
theorem fz_lv {c : C} {ls : List (List P)} (h : c = .oll (lvC ls) ∨ (c = .ol [] ∧ ls = [])) : c.fz = .lst (ls.map fun l => .lst (l.map prD)) := by
  rcases h with e | ⟨e, z⟩
  · subst e; simp [lvC]
  · subst e; subst z; rfl
def lvD (ls : List (List P)) : D := .tup (ls.map plD)
theorem levelled_ok {dp : D} {ps : List P} (hd : dp.seq = some (ps.map prD)) (hl : ps.length ≤ 10000) : F_levelled [dp] = some (.sh (lvD ((lvs ps).2.map so))) := by
  rw [F_levelled_eq]
  obtain ⟨s', h1, kvs, c, h2, h3, h5, h4⟩ := forM (E := S_levelled.e) (t := .tup [3, 4]) (b := l1_levelled) (f := prD) (fun q s => ∃ kvs c, s.v_free = some (.odk kvs) ∧ s.v_levels = some c ∧ s.v_level = none ∧ LvRel kvs c (lvs q) q.length) (l := ps)
    (s := { v_pairs := some (.sh dp), v_free := some (.odk []), v_levels := some (.ol []) }) ⟨[], .ol [], rfl, rfl, rfl, lvRel0⟩ fun q a r s e hj => by
      obtain ⟨kvs, c, h1, h2, h3, h4⟩ := hj
      obtain ⟨s', k1, k0, kvs', c', k2, k3, k4⟩ := levelled_step s a h1 h2 h4 (by rw [lvs_pre e]; exact (Net.lvs_ok _).1) (by have := congrArg List.length e; simp at this; omega)
      refine ⟨s', k1, kvs', c', k2, k3, k0.trans h3, ?_⟩
      rw [lvs_pre e] at k4
      simpa using k4
  have hz := fz_lv h4.cl
  have l0 : (0 : Nat) ≤ lim := lim_of (by omega)
  have hc : ∀ s : S_levelled, s.v_level = none → compN [6] (.one 6) kYes c1_levelled ((lvs ps).2.map fun l => D.lst (l.map prD)) s.e = some (((lvs ps).2.map so).map plD, s.e) := fun s h => by
    cases s; cases h
    rw [List.map_map]
    refine compN_map (f := fun l : List P => D.lst (l.map prD)) fun l _ => ?_
    have := so_ok (x := .lst (l.map prD)) (l := l) rfl
    simp [cStep, c1_levelled, this, plD]
  have hlen : (lvs ps).2.length ≤ lim := by rw [lim_val]; have := h4.n1; omega
  simp [b_levelled, hd, h1, l0, h3, hz, h5, hc, hlen, lvD]
theorem law_levelled_step {kvs : List (Key × D)} {c : C} {st : (Nat → Nat) × List (List P)} {n : Nat} (s : S_u_law_levelled) (p : P) (hf : s.v_last = some (.odk kvs)) (hc : s.v_levels = some c) (h : LvRel kvs c st n) (hok : LvOk (lvStep st p)) (hn : n ≤ 100000) :
    ∃ s', (asgT (.tup [3, 4]) (prD p) s.e).bind l2_u_law_levelled = some (.nx (S_u_law_levelled.e s')) ∧ s'.v_level = s.v_level ∧ ∃ kvs' c', s'.v_last = some (.odk kvs') ∧ s'.v_levels = some c' ∧ LvRel kvs' c' (lvStep st p) (n + 1) := by
  obtain ⟨at_, dss1, ds, e, hg, ha, hb, k1, k2, k3, k4, hr⟩ := lv_step p h hok
  have v1 := h.val p.1
  have v2 := h.val p.2
  have l2 : (2 : Nat) ≤ lim := lim_of (by omega)
  have j1 : kvs.length < lim := by rw [lim_val]; have := h.kl; omega
  have j2 : (putD kvs (.inl (p.1 : Int)) (.int ((at_ : Int) + 1))).length < lim := by
    have a := len_put (kvs := kvs) (k := (.inl (p.1 : Int) : Key)) (v := .int ((at_ : Int) + 1))
    rw [lim_val]; have := h.kl; omega
  have j3 : ds.length < lim := by rw [lim_val]; omega
  have j4 : (lvC st.2).length < lim := by rw [lim_val]; have := h.n1; simp [lvC]; omega
  have j0 : (0 : Nat) < lim := by rw [lim_val]; omega
  have j00 : (0 : Nat) ≤ lim := by rw [lim_val]; omega
  have hx : ixN dss1.length (at_ : Int) = some at_ := ixN_nat k3
  refine ⟨{ s with v_i := some (.sh (.int (p.1 : Nat))), v_j := some (.sh (.int (p.2 : Nat))), v_at := some (.sh (.int (at_ : Nat))), v_last := some (.odk (putD (putD kvs (.inl (p.1 : Int)) (.int ((at_ : Int) + 1))) (.inl (p.2 : Int)) (.int ((at_ : Int) + 1)))), v_levels := some (.oll (dss1.set at_ (ds ++ [prD p]))) }, ?_, rfl, _, _, rfl, rfl, hr⟩
  have hw : ∀ s : S_u_law_levelled, s.v_levels = some c → s.v_at = some (.sh (.int (at_ : Nat))) → sWhile (kVal (eO (fII gLe) [(.val (eLen2 1)), (.slot 5)])) l1_u_law_levelled s.e = some (.nx ({ s with v_levels := some (.oll dss1) } : S_u_law_levelled).e) := by
    intro s h1 h2
    by_cases q : at_ = st.2.length
    · have hd := ha q
      apply sWhile_of (n := 2)
      have hd0 : ∀ c', s.v_levels = some c' → eApp2.seqC c' = some (lvC st.2) → l1_u_law_levelled s.e = some (.nx ({ s with v_levels := some (.oll dss1) } : S_u_law_levelled).e) := fun c' a b => by
        simp [l1_u_law_levelled, a, b, j00, j4, hd]
      have hlen : ((lvC st.2).length : Int) = at_ := by rw [q]; simp [lvC]
      have hlen2 : (dss1.length : Int) = at_ + 1 := by rw [hd, ← hlen]; simp
      have hle : ¬ ((at_ : Int) + 1 ≤ at_) := by omega
      have hle1 : (dss1.length : Int) ≤ at_ → False := by omega
      rcases h.cl with z | ⟨z, z2⟩
      · have := hd0 _ h1 (by rw [z]; rfl)
        subst z
        simp [whileN, h1, h2, hlen, this, hlen2, hle]
      · have := hd0 _ h1 (by rw [z, z2]; rfl)
        have hz0 : (0 : Int) ≤ at_ := by omega
        subst z
        simp [whileN, h1, h2, this, hlen2, hle, hz0]
    · obtain ⟨hd, z⟩ := hb q
      apply sWhile_of (n := 1)
      have hlen : ¬ (((lvC st.2).length : Int) ≤ at_) := by simp [lvC]; omega
      subst z
      rw [hd]
      cases s
      simp only at h1 h2
      subst h1
      simp [whileN, h2, hlen]
  simp [prD, l2_u_law_levelled, hf, hc, v1, v2, fMax_ints, max_cast, ← e, hw, hx, hg, j3, l2, j1, j2]
theorem law_levelled_ok {dp : D} {ps : List P} (hd : dp.seq = some (ps.map prD)) (hl : ps.length ≤ 10000) : F_u_law_levelled [dp] = some (.sh (lvD ((lvs ps).2.map so))) := by
  rw [F_u_law_levelled_eq]
  obtain ⟨s', h1, kvs, c, h2, h3, h5, h4⟩ := forM (E := S_u_law_levelled.e) (t := .tup [3, 4]) (b := l2_u_law_levelled) (f := prD) (fun q s => ∃ kvs c, s.v_last = some (.odk kvs) ∧ s.v_levels = some c ∧ s.v_level = none ∧ LvRel kvs c (lvs q) q.length) (l := ps)
    (s := { v_pairs := some (.sh dp), v_last := some (.odk []), v_levels := some (.ol []) }) ⟨[], .ol [], rfl, rfl, rfl, lvRel0⟩ fun q a r s e hj => by
      obtain ⟨kvs, c, h1, h2, h3, h4⟩ := hj
      obtain ⟨s', k1, k0, kvs', c', k2, k3, k4⟩ := law_levelled_step s a h1 h2 h4 (by rw [lvs_pre e]; exact (Net.lvs_ok _).1) (by have := congrArg List.length e; simp at this; omega)
      refine ⟨s', k1, kvs', c', k2, k3, k0.trans h3, ?_⟩
      rw [lvs_pre e] at k4
      simpa using k4
  have hz := fz_lv h4.cl
  have l0 : (0 : Nat) ≤ lim := lim_of (by omega)
  have hc : ∀ s : S_u_law_levelled, s.v_level = none → compN [6] (.one 6) kYes c1_u_law_levelled ((lvs ps).2.map fun l => D.lst (l.map prD)) s.e = some (((lvs ps).2.map so).map plD, s.e) := fun s h => by
    cases s; cases h
    rw [List.map_map]
    refine compN_map (f := fun l : List P => D.lst (l.map prD)) fun l _ => ?_
    have := so_ok (x := .lst (l.map prD)) (l := l) rfl
    simp [cStep, c1_u_law_levelled, this, plD]
  have hlen : (lvs ps).2.length ≤ lim := by rw [lim_val]; have := h4.n1; omega
  simp [b_u_law_levelled, hd, h1, l0, h3, hz, h5, hc, hlen, lvD]
end Fx.Nt
set_option Elab.async false
set_option linter.all false
set_option maxRecDepth 100000
set_option maxHeartbeats 4000000
namespace Fx.Nt
open PySem L2 Fx
open Net (P thr cxl Rg merge lvs lvStep LvOk side ord)

theorem side_eq (so : List P → List P) : ∀ as bs : List (List P), side so as bs = (List.range (max as.length bs.length)).map fun i => so (as.getD i [] ++ bs.getD i [])
  | [], [] => by simp [side]
  | a :: as, [] => by
    have := side_eq so as []
    rw [side, this]
    simp only [List.length_cons, List.length_nil, Nat.max_zero]
    rw [List.range_succ_eq_map]
    simp
  | [], b :: bs => by
    have := side_eq so [] bs
    rw [side, this]
    simp only [List.length_cons, List.length_nil, Nat.zero_max]
    rw [List.range_succ_eq_map]
    simp
  | a :: as, b :: bs => by
    have := side_eq so as bs
    rw [side, this]
    simp only [List.length_cons]
    rw [Nat.add_max_add_right, List.range_succ_eq_map]
    simp
theorem side_len (so : List P → List P) (as bs : List (List P)) : (side so as bs).length = max as.length bs.length := by rw [side_eq]; simp
theorem atI_pl {ls : List (List P)} {i : Nat} (h : i < ls.length) : atI (ls.map plD) (i : Int) = some (plD (ls.getD i [])) := by
  rw [atI_nat]; simp [h]
theorem rng_nat (n : Nat) : rng 0 (n : Int) = (List.range n).map fun t => D.int ((t : Nat) : Int) := by unfold rng; simp
theorem okr {n : Int} (h : 0 ≤ n) (h2 : n ≤ 1000000) : okR n = true := okR_iff.mpr ⟨by omega, by omega⟩
theorem side_ok {as bs : List (List P)} (ha : as.length ≤ 100000) (hb : bs.length ≤ 100000) (ia : ∀ l ∈ as, l.length ≤ 100000) (ib : ∀ l ∈ bs, l.length ≤ 100000) :
    F_side_by_side [.lst (as.map plD), .lst (bs.map plD)] = some (.ol ((side so as bs).map plD)) := by
  rw [F_side_by_side_eq]
  have l0 : (0 : Nat) ≤ lim := lim_of (by omega)
  have gl : ∀ (ls : List (List P)) (i : Nat), (∀ l ∈ ls, l.length ≤ 100000) → (ls.getD i []).length ≤ 100000 := fun ls i h => by
    rw [List.getD_eq_getElem?_getD]
    cases q : ls[i]? with
    | none => simp
    | some l => exact h l (List.mem_of_getElem? q)
  obtain ⟨s', h1, h2, h3, h4⟩ := forM (E := S_side_by_side.e) (t := .one 3) (b := l1_side_by_side) (f := fun t : Nat => D.int (t : Int)) (fun q s => s.v_one = some (.sh (.lst (as.map plD))) ∧ s.v_other = some (.sh (.lst (bs.map plD))) ∧ s.v_found = some (.ol ((q.map fun i => so (as.getD i [] ++ bs.getD i [])).map plD))) (l := List.range (max as.length bs.length))
    (s := { v_one := some (.sh (.lst (as.map plD))), v_other := some (.sh (.lst (bs.map plD))), v_found := some (.ol []) }) ⟨rfl, rfl, rfl⟩ fun q i r s e hj => by
      obtain ⟨h1, h2, h3⟩ := hj
      have hi : i < max as.length bs.length := by
        have : i ∈ List.range (max as.length bs.length) := by rw [e]; simp
        simpa using this
      have g1 := gl as i ia
      have g2 := gl bs i ib
      have hq : q.length < lim := by have := congrArg List.length e; simp at this; rw [lim_val]; omega
      refine ⟨{ s with v_at := some (.sh (.int (i : Nat))), v_found := some (.ol (((q ++ [i]).map fun i => so (as.getD i [] ++ bs.getD i [])).map plD)), v_level := some (.ol ((as.getD i []).map prD ++ (bs.getD i []).map prD)) }, ?_, h1, h2, rfl⟩
      have hs := so_ok (x := .lst ((as.getD i []).map prD ++ (bs.getD i []).map prD)) (l := as.getD i [] ++ bs.getD i []) (by rw [List.map_append]; rfl)
      have hlen : ((as.getD i []).map prD).length + ((bs.getD i []).map prD).length ≤ lim := by rw [List.length_map, List.length_map, lim_val]; omega
      have n1 : as.length ≤ i → as.getD i [] = [] := fun h => by simp [h]
      have n2 : bs.length ≤ i → bs.getD i [] = [] := fun h => by simp [h]
      have e1 : i < as.length → atI (as.map plD) (i : Int) = some (plD (as.getD i [])) := fun h => atI_pl h
      have e2 : i < bs.length → atI (bs.map plD) (i : Int) = some (plD (bs.getD i [])) := fun h => atI_pl h
      generalize hA : as.getD i [] = A at *
      generalize hB : bs.getD i [] = B at *
      have pq : ∀ l : List P, (plD l).seq = some (l.map prD) := fun _ => rfl
      have hl2 : A.length + B.length ≤ lim := by rw [lim_val]; omega
      have la : A.length ≤ lim := by rw [lim_val]; omega
      have lb : B.length ≤ lim := by rw [lim_val]; omega
      by_cases qa : i < as.length
      · by_cases qb : i < bs.length
        · simp [-List.getD_eq_getElem?_getD, l1_side_by_side, h1, h2, h3, qa, qb, e1, e2, pq, hs, hl2, hq, plD, hA, hB]
        · have hB0 := n2 (by omega)
          subst hB0
          simp only [List.map_nil, List.append_nil] at hs
          simp [-List.getD_eq_getElem?_getD, l1_side_by_side, h1, h2, h3, qa, qb, e1, pq, hs, la, hq, l0, plD, hA, hB]
      · by_cases qb : i < bs.length
        · have hA0 := n1 (by omega)
          subst hA0
          simp only [List.map_nil, List.nil_append] at hs
          simp [-List.getD_eq_getElem?_getD, l1_side_by_side, h1, h2, h3, qa, qb, e2, pq, hs, lb, hq, l0, plD, hA, hB]
        · omega
  have ok : okR ((max as.length bs.length : Nat) : Int) = true := okr (by omega) (by omega)
  rw [side_eq]
  rw [← max_cast] at ok
  have hr := rng_nat (max as.length bs.length)
  rw [← max_cast] at hr
  simp [b_side_by_side, l0, fMax_ints, ok, hr, h1, h4]
theorem lvRel_all (ps : List P) : ∃ kvs c, LvRel kvs c (lvs ps) ps.length := by
  suffices ∀ n, n ≤ ps.length → ∃ kvs c, LvRel kvs c (lvs (ps.take n)) n by
    have := this ps.length (Nat.le_refl _)
    rwa [List.take_length] at this
  intro n
  induction n with
  | zero => intro _; exact ⟨[], .ol [], by simpa using lvRel0⟩
  | succ n ih =>
    intro hn
    obtain ⟨kvs, c, h⟩ := ih (by omega)
    have e : ps.take (n + 1) = ps.take n ++ [ps[n]] := by rw [List.take_succ_eq_append_getElem (by omega)]
    have hs : lvStep (lvs (ps.take n)) ps[n] = lvs (ps.take (n + 1)) := by unfold lvs; rw [e, List.foldl_append]; rfl
    obtain ⟨at_, dss1, ds, _, _, _, _, _, _, _, _, hr⟩ := lv_step ps[n] h (by rw [hs]; exact (Net.lvs_ok _).1)
    rw [hs] at hr
    exact ⟨_, _, hr⟩
theorem lvs_bd (ps : List P) : (lvs ps).2.length ≤ ps.length ∧ ∀ l ∈ (lvs ps).2, l.length ≤ ps.length := by
  obtain ⟨kvs, c, h⟩ := lvRel_all ps
  exact ⟨h.n1, h.n2⟩
theorem so_len (l : List P) : (so l).length = l.length := (so_perm l).length_eq
theorem ord_bd : ∀ (j : Nat) (l : List Nat), (ord so j l).length ≤ 8 * j * l.length ∧ ∀ lv ∈ ord so j l, lv.length ≤ 8 * j * l.length
  | 0, l => by simp [ord]
  | j + 1, l => by
    unfold ord
    split
    · simp
    · have h1 := ord_bd j (l.take (l.length / 2))
      have h2 := ord_bd j (l.drop (l.length / 2))
      have hb := lvs_bd (merge 8 (l.take (l.length / 2)) (l.drop (l.length / 2)))
      have hm := merge_len 8 (l.take (l.length / 2)) (l.drop (l.length / 2))
      have la : (l.take (l.length / 2)).length = l.length / 2 := by rw [List.length_take]; omega
      have lb : (l.drop (l.length / 2)).length = l.length - l.length / 2 := List.length_drop
      generalize hA : l.take (l.length / 2) = A at *
      generalize hB : l.drop (l.length / 2) = B at *
      have e : 8 * j * A.length + 8 * j * B.length = 8 * j * l.length := by rw [← Nat.mul_add]; congr 1; omega
      have e2 : 8 * (j + 1) * l.length = 8 * j * l.length + 8 * l.length := by rw [Nat.mul_add, Nat.add_mul]
      refine ⟨?_, ?_⟩
      · rw [List.length_append, side_len, List.length_map]
        have h1 := h1.1
        have h2 := h2.1
        have hb := hb.1
        omega
      · intro lv hl
        rcases List.mem_append.mp hl with hl | hl
        · rw [side_eq] at hl
          obtain ⟨i, _, rfl⟩ := List.mem_map.mp hl
          rw [so_len, List.length_append]
          have gl : ∀ (ls : List (List P)) (i n : Nat), (∀ l ∈ ls, l.length ≤ n) → (ls.getD i []).length ≤ n := fun ls i n h => by
            rw [List.getD_eq_getElem?_getD]
            cases q : ls[i]? with
            | none => simp
            | some l => exact h l (List.mem_of_getElem? q)
          have a1 := gl _ i _ h1.2
          have a2 := gl _ i _ h2.2
          omega
        · obtain ⟨q, hq, rfl⟩ := List.mem_map.mp hl
          rw [so_len]
          have := hb.2 q hq
          omega
theorem natsD_take (l : List Nat) (k : Nat) : (natsD l).take k = natsD (l.take k) := by simp [natsD]
theorem natsD_drop (l : List Nat) (k : Nat) : (natsD l).drop k = natsD (l.drop k) := by simp [natsD]
theorem ordering_ok : ∀ (j : Nat) (l : List Nat), l.length ≤ 2 ^ j → j ≤ 7 → F_ordering (j + 1) [.lst (natsD l)] = some (.ol ((ord so (j + 1) l).map plD)) := by
  have l0 : (0 : Nat) ≤ lim := lim_of (by omega)
  intro j
  induction j with
  | zero =>
    intro l hl hj
    have h2 : ((l.length : Int) < 2) := by simp at hl; omega
    rw [F_ordering_eq, ord, if_pos (by omega)]
    simp [b_ordering, natsD_len, h2, l0]
  | succ j ih =>
    intro l hl hj
    rw [F_ordering_eq, ord]
    by_cases h2 : l.length < 2
    · have h2' : ((l.length : Int) < 2) := by omega
      rw [if_pos h2]
      simp [b_ordering, natsD_len, h2', l0]
    · have h2' : ¬ ((l.length : Int) < 2) := by omega
      rw [if_neg h2]
      have pw : 2 ^ (j + 1) = 2 * 2 ^ j := by rw [Nat.pow_succ]; omega
      have p7 : 2 ^ (j + 1) ≤ 2 ^ 7 := Nat.pow_le_pow_right (by omega) hj
      have hd : (l.length : Int) / 2 = ((l.length / 2 : Nat) : Int) := by omega
      have la : (l.take (l.length / 2)).length = l.length / 2 := by rw [List.length_take]; omega
      have lb : (l.drop (l.length / 2)).length = l.length - l.length / 2 := List.length_drop
      have hm := merge_len 8 (l.take (l.length / 2)) (l.drop (l.length / 2))
      have mo := merging_ok 7 (l.take (l.length / 2)) (l.drop (l.length / 2)) (by omega) (by omega) (by omega) (by omega)
      have ia := ih (l.take (l.length / 2)) (by omega) (by omega)
      have ib := ih (l.drop (l.length / 2)) (by omega) (by omega)
      have ba := ord_bd (j + 1) (l.take (l.length / 2))
      have bb := ord_bd (j + 1) (l.drop (l.length / 2))
      have hlv := lvs_bd (merge 8 (l.take (l.length / 2)) (l.drop (l.length / 2)))
      generalize hA : l.take (l.length / 2) = A at *
      generalize hB : l.drop (l.length / 2) = B at *
      have m1 : 8 * (j + 1) * A.length ≤ 8 * 8 * 128 := Nat.mul_le_mul (by omega) (by omega)
      have m2 : 8 * (j + 1) * B.length ≤ 8 * 8 * 128 := Nat.mul_le_mul (by omega) (by omega)
      have lo := levelled_ok (dp := .lst ((merge 8 A B).map prD)) (ps := merge 8 A B) rfl (by omega)
      have si := side_ok (as := ord so (j + 1) A) (bs := ord so (j + 1) B) (by have := ba.1; omega) (by have := bb.1; omega) (fun x hx => by have := ba.2 x hx; omega) (fun x hx => by have := bb.2 x hx; omega)
      have sl := side_len so (ord so (j + 1) A) (ord so (j + 1) B)
      have hlen : (side so (ord so (j + 1) A) (ord so (j + 1) B)).length + (lvs (merge 8 A B)).2.length ≤ lim := by
        rw [sl, lim_val]
        have h1 := ba.1
        have h2 := bb.1
        have h3 := hlv.1
        omega
      have hA' : (natsD l).take (l.length / 2) = natsD A := by rw [natsD_take, hA]
      have hB' : (natsD l).drop (l.length / 2) = natsD B := by rw [natsD_drop, hB]
      clear la lb hA hB pw p7
      generalize l.length / 2 = half at *
      simp [b_ordering, natsD_len, h2', hd, cut_take, cut_drop, hA', hB', mo, ia, ib, si, lo, lvD, hlen]
theorem odd_even_ok {n : Nat} (hn : n ≤ 100) : F_odd_even [.int (n : Int)] = some (.sh (lvD (ord so 8 (List.range n)))) := by
  rw [F_odd_even_eq]
  have ho := ordering_ok 7 (List.range n) (by simp; omega) (by omega)
  have hr : rng 0 (n : Int) = natsD (List.range n) := rng_nat n
  have ok : rgOk 0 (n : Int) = true := by
    unfold rgOk
    rw [okr (by omega) (by omega), okr (by omega) (by omega)]
    simp; rw [lim_val]; omega
  have e : ∀ env : Fx.Env, ∀ o : Opd, eLR1 o env = (evO [o] env).bind fun (ds, e) => match ds with
    | [.int n] => if rgOk 0 n then some (.ol (rng 0 n), e) else none
    | _ => none := fun _ _ => rfl
  simp [b_odd_even, e, ok, hr, ho, lvD]
end Fx.Nt
set_option Elab.async false
set_option linter.all false
set_option maxRecDepth 100000
set_option maxHeartbeats 4000000
namespace Fx.Nt
open PySem L2 Fx
open Net (P thr cxl Rg merge lvs lvStep LvOk side ord)
theorem halves_loop {Fs : List D → Option C} {as bs : List (List P)} (s : S_u_law_halves) (ha : as.length ≤ 100000) (hb : bs.length ≤ 100000) (ia : ∀ l ∈ as, l.length ≤ 100000) (ib : ∀ l ∈ bs, l.length ≤ 100000)
    (g1 : s.v_one = some (.sh (.lst (as.map plD)))) (g2 : s.v_other = some (.sh (.lst (bs.map plD)))) (g3 : s.v_found = some (.ol [])) :
    ∃ s', forN (.one 5) (l1_u_law_halves Fs) (rng 0 ((max as.length bs.length : Nat) : Int)) s.e = some (.nx (S_u_law_halves.e s')) ∧ s'.v_found = some (.ol ((side so as bs).map plD)) ∧ s'.v_places = s.v_places ∧ s'.v_half = s.v_half := by
  have l0 : (0 : Nat) ≤ lim := lim_of (by omega)
  have gl : ∀ (ls : List (List P)) (i : Nat), (∀ l ∈ ls, l.length ≤ 100000) → (ls.getD i []).length ≤ 100000 := fun ls i h => by
    rw [List.getD_eq_getElem?_getD]
    cases q : ls[i]? with
    | none => simp
    | some l => exact h l (List.mem_of_getElem? q)
  rw [rng_nat]
  obtain ⟨s', h1, h2, h3, h4, h5, h6⟩ := forM (E := S_u_law_halves.e) (t := .one 5) (b := l1_u_law_halves Fs) (f := fun t : Nat => D.int (t : Int)) (fun q s1 => s1.v_one = some (.sh (.lst (as.map plD))) ∧ s1.v_other = some (.sh (.lst (bs.map plD))) ∧ s1.v_found = some (.ol ((q.map fun i => so (as.getD i [] ++ bs.getD i [])).map plD)) ∧ s1.v_places = s.v_places ∧ s1.v_half = s.v_half) (l := List.range (max as.length bs.length))
    (s := s) ⟨g1, g2, g3, rfl, rfl⟩ fun q i r s1 e hj => by
      obtain ⟨h1, h2, h3, h4, h5⟩ := hj
      have hi : i < max as.length bs.length := by
        have : i ∈ List.range (max as.length bs.length) := by rw [e]; simp
        simpa using this
      have g1 := gl as i ia
      have g2 := gl bs i ib
      have hq : q.length < lim := by have := congrArg List.length e; simp at this; rw [lim_val]; omega
      refine ⟨{ s1 with v_at := some (.sh (.int (i : Nat))), v_found := some (.ol (((q ++ [i]).map fun i => so (as.getD i [] ++ bs.getD i [])).map plD)), v_mine := some (.sh (plD (as.getD i []))), v_its := some (.sh (plD (bs.getD i []))) }, ?_, h1, h2, rfl, h4, h5⟩
      have hs := so_ok (x := .tup ((as.getD i []).map prD ++ (bs.getD i []).map prD)) (l := as.getD i [] ++ bs.getD i []) (by rw [List.map_append]; rfl)
      have n1 : as.length ≤ i → as.getD i [] = [] := fun h => by simp [h]
      have n2 : bs.length ≤ i → bs.getD i [] = [] := fun h => by simp [h]
      have e1 : i < as.length → atI (as.map plD) (i : Int) = some (plD (as.getD i [])) := fun h => atI_pl h
      have e2 : i < bs.length → atI (bs.map plD) (i : Int) = some (plD (bs.getD i [])) := fun h => atI_pl h
      generalize hA : as.getD i [] = A at *
      generalize hB : bs.getD i [] = B at *
      have hl2 : A.length + B.length ≤ lim := by rw [lim_val]; omega
      have la : A.length ≤ lim := by rw [lim_val]; omega
      have lb : B.length ≤ lim := by rw [lim_val]; omega
      by_cases qa : i < as.length
      · by_cases qb : i < bs.length
        · simp [-List.getD_eq_getElem?_getD, l1_u_law_halves, h1, h2, h3, qa, qb, e1, e2, hs, hl2, hq, plD, hA, hB]
        · have hB0 := n2 (by omega)
          subst hB0
          simp only [List.map_nil, List.append_nil] at hs
          simp [-List.getD_eq_getElem?_getD, l1_u_law_halves, h1, h2, h3, qa, qb, e1, hs, la, hq, l0, plD, hA, hB]
      · by_cases qb : i < bs.length
        · have hA0 := n1 (by omega)
          subst hA0
          simp only [List.map_nil, List.nil_append] at hs
          simp [-List.getD_eq_getElem?_getD, l1_u_law_halves, h1, h2, h3, qa, qb, e2, hs, lb, hq, l0, plD, hA, hB]
        · omega
  refine ⟨s', h1, ?_, h5, h6⟩
  rw [h4, side_eq]
theorem halves_ok : ∀ (j : Nat) (l : List Nat), l.length ≤ 2 ^ j → j ≤ 7 → F_u_law_halves (j + 1) [.lst (natsD l)] = some (.ol ((ord so (j + 1) l).map plD)) := by
  have l0 : (0 : Nat) ≤ lim := lim_of (by omega)
  intro j
  induction j with
  | zero =>
    intro l hl hj
    have h2 : ((l.length : Int) < 2) := by simp at hl; omega
    rw [F_u_law_halves_eq, ord, if_pos (by omega)]
    simp [b_u_law_halves, natsD_len, h2, l0]
  | succ j ih =>
    intro l hl hj
    rw [F_u_law_halves_eq, ord]
    by_cases h2 : l.length < 2
    · have h2' : ((l.length : Int) < 2) := by omega
      rw [if_pos h2]
      simp [b_u_law_halves, natsD_len, h2', l0]
    · have h2' : ¬ ((l.length : Int) < 2) := by omega
      rw [if_neg h2]
      have pw : 2 ^ (j + 1) = 2 * 2 ^ j := by rw [Nat.pow_succ]; omega
      have p7 : 2 ^ (j + 1) ≤ 2 ^ 7 := Nat.pow_le_pow_right (by omega) hj
      have hd : (l.length : Int) / 2 = ((l.length / 2 : Nat) : Int) := by omega
      have la : (l.take (l.length / 2)).length = l.length / 2 := by rw [List.length_take]; omega
      have lb : (l.drop (l.length / 2)).length = l.length - l.length / 2 := List.length_drop
      have hm := merge_len 8 (l.take (l.length / 2)) (l.drop (l.length / 2))
      have mo := law_merging_ok 7 (l.take (l.length / 2)) (l.drop (l.length / 2)) (by omega) (by omega) (by omega) (by omega)
      have ia := ih (l.take (l.length / 2)) (by omega) (by omega)
      have ib := ih (l.drop (l.length / 2)) (by omega) (by omega)
      have ba := ord_bd (j + 1) (l.take (l.length / 2))
      have bb := ord_bd (j + 1) (l.drop (l.length / 2))
      have hlv := lvs_bd (merge 8 (l.take (l.length / 2)) (l.drop (l.length / 2)))
      generalize hA : l.take (l.length / 2) = A at *
      generalize hB : l.drop (l.length / 2) = B at *
      have m1 : 8 * (j + 1) * A.length ≤ 8 * 8 * 128 := Nat.mul_le_mul (by omega) (by omega)
      have m2 : 8 * (j + 1) * B.length ≤ 8 * 8 * 128 := Nat.mul_le_mul (by omega) (by omega)
      have lo := law_levelled_ok (dp := .lst ((merge 8 A B).map prD)) (ps := merge 8 A B) rfl (by omega)
      have hA' : (natsD l).take (l.length / 2) = natsD A := by rw [natsD_take, hA]
      have hB' : (natsD l).drop (l.length / 2) = natsD B := by rw [natsD_drop, hB]
      obtain ⟨s', hf, hs1, hs2, hs3⟩ := halves_loop (Fs := F_u_law_halves (j + 1)) (as := ord so (j + 1) A) (bs := ord so (j + 1) B) { v_places := some (.sh (.lst (natsD l))), v_half := some (.sh (.int ((l.length / 2 : Nat) : Int))), v_one := some (.sh (.lst ((ord so (j + 1) A).map plD))), v_other := some (.sh (.lst ((ord so (j + 1) B).map plD))), v_found := some (.ol []) } (by have := ba.1; omega) (by have := bb.1; omega) (fun x hx => by have := ba.2 x hx; omega) (fun x hx => by have := bb.2 x hx; omega) rfl rfl rfl
      have sl := side_len so (ord so (j + 1) A) (ord so (j + 1) B)
      have hlen : (side so (ord so (j + 1) A) (ord so (j + 1) B)).length + (lvs (merge 8 A B)).2.length ≤ lim := by
        rw [sl, lim_val]
        have h1 := ba.1
        have h2 := bb.1
        have h3 := hlv.1
        omega
      have ok : okR ((max (ord so (j + 1) A).length (ord so (j + 1) B).length : Nat) : Int) = true := okr (by omega) (by have := ba.1; have := bb.1; omega)
      rw [← max_cast] at hf ok
      clear la lb hA hB pw p7
      generalize l.length / 2 = half at *
      simp [b_u_law_halves, natsD_len, h2', hd, cut_take, cut_drop, hA', hB', mo, ia, ib, l0, fMax_ints, ok, hf, hs1, hs2, hs3, lo, lvD, hlen]
end Fx.Nt
set_option Elab.async false
set_option linter.all false
set_option maxRecDepth 100000
set_option maxHeartbeats 4000000
namespace Fx.Nt
open PySem L2 Fx
open Net (P thr cxl Rg merge lvs lvStep LvOk side ord nlev prs evens odds nexts Zs run runI th get In)
open Fx.L (smp smps cnt cnts)

/-! ## plain facts -/
theorem nexts_ne {l : List Nat} (h : l.Nodup) : ∀ p ∈ nexts l, p.1 ≠ p.2 := by
  induction l using nexts.induct with
  | case1 x y r ih =>
    intro p hp
    simp only [nexts, List.mem_cons] at hp
    simp only [List.nodup_cons, List.mem_cons, not_or] at h
    rcases hp with e | hp
    · subst e; exact h.1.1
    · exact ih h.2.2 p hp
  | case2 l hl => 
    intro p hp
    cases l with
    | nil => simp [nexts] at hp
    | cons x l => cases l with
      | nil => simp [nexts] at hp
      | cons y l => exact absurd rfl (hl x y l)
theorem merge_ne : ∀ (j : Nat) (a b : List Nat), (a ++ b).Nodup → ∀ p ∈ merge j a b, p.1 ≠ p.2
  | 0, _, _, _, p, hp => by simp [merge] at hp
  | j + 1, a, b, h, p, hp => by
    unfold merge at hp
    have hs := List.nodup_append.mp h
    split at hp
    · simp at hp
    · split at hp
      · rename_i h1
        match a, b, h1 with
        | [u], [v], _ =>
          simp at hp; subst hp
          simpa using h
      · rcases List.mem_append.mp hp with hp | hp
        · rcases List.mem_append.mp hp with hp | hp
          · exact merge_ne j _ _ (List.nodup_append.mpr ⟨Net.evens_nodup _ hs.1, Net.evens_nodup _ hs.2.1, fun x hx y hy => hs.2.2 x (Net.evens_sub _ _ hx) y (Net.evens_sub _ _ hy)⟩) p hp
          · exact merge_ne j _ _ (List.nodup_append.mpr ⟨Net.odds_nodup _ hs.1, Net.odds_nodup _ hs.2.1, fun x hx y hy => hs.2.2 x (Net.odds_sub _ _ hx) y (Net.odds_sub _ _ hy)⟩) p hp
        · exact nexts_ne (h.sublist (List.tail_sublist _)) p hp
theorem side_mem {as bs : List (List P)} {p : P} (h : p ∈ (side so as bs).flatten) : p ∈ as.flatten ∨ p ∈ bs.flatten := by
  rw [side_eq] at h
  simp only [List.mem_flatten, List.mem_map] at h
  obtain ⟨l, ⟨i, _, rfl⟩, hp⟩ := h
  have hp := (so_perm _).mem_iff.mp hp
  have key : ∀ ls : List (List P), p ∈ ls.getD i [] → p ∈ ls.flatten := fun ls h => by
    rw [List.getD_eq_getElem?_getD] at h
    cases q : ls[i]? with
    | none => rw [q] at h; simp at h
    | some l => rw [q] at h; exact List.mem_flatten.mpr ⟨l, List.mem_of_getElem? q, h⟩
  rcases List.mem_append.mp hp with hp | hp
  · exact .inl (key _ hp)
  · exact .inr (key _ hp)
theorem ord_ne : ∀ (j : Nat) (l : List Nat), l.Nodup → ∀ p ∈ (ord so j l).flatten, p.1 ≠ p.2
  | 0, _, _, p, hp => by simp [ord] at hp
  | j + 1, l, h, p, hp => by
    unfold ord at hp
    split at hp
    · simp at hp
    · rw [List.flatten_append] at hp
      rcases List.mem_append.mp hp with hp | hp
      · rcases side_mem hp with hp | hp
        · exact ord_ne j _ (h.sublist (List.take_sublist _ _)) p hp
        · exact ord_ne j _ (h.sublist (List.drop_sublist _ _)) p hp
      · simp only [List.mem_flatten, List.mem_map] at hp
        obtain ⟨q, ⟨l', hl, rfl⟩, hp⟩ := hp
        have hp := (so_perm _).mem_iff.mp hp
        exact merge_ne 8 _ _ (by rw [List.take_append_drop]; exact h) p (Net.lvs_mem _ _ (List.mem_flatten.mpr ⟨l', hl, hp⟩))
theorem side_flen : ∀ as bs : List (List P), (side so as bs).flatten.length = as.flatten.length + bs.flatten.length
  | [], [] => by simp [side]
  | a :: as, [] => by
    have := side_flen as []
    simp only [side, List.flatten_cons, List.length_append, so_len] at this ⊢
    simp at this ⊢
    omega
  | [], b :: bs => by
    have := side_flen [] bs
    simp only [side, List.flatten_cons, List.length_append, so_len] at this ⊢
    simp at this ⊢
    omega
  | a :: as, b :: bs => by
    have := side_flen as bs
    simp only [side, List.flatten_cons, List.length_append, so_len] at this ⊢
    omega
theorem flen_set : ∀ (ls : List (List P)) (i : Nat) (p : P), i < ls.length → (ls.set i (ls.getD i [] ++ [p])).flatten.length = ls.flatten.length + 1
  | [], i, p, h => by simp at h
  | l :: ls, 0, p, h => by simp; omega
  | l :: ls, i + 1, p, h => by
    have := flen_set ls i p (by simpa using h)
    simp only [List.set_cons_succ, List.flatten_cons, List.length_append, List.getD_cons_succ] at this ⊢
    omega
theorem lvs_flen (ps : List P) : (lvs ps).2.flatten.length = ps.length := by
  suffices ∀ n, n ≤ ps.length → (lvs (ps.take n)).2.flatten.length = n by
    have := this ps.length (Nat.le_refl _)
    rwa [List.take_length] at this
  intro n
  induction n with
  | zero => intro _; simp [lvs]
  | succ n ih =>
    intro hn
    have ih := ih (by omega)
    have e : ps.take (n + 1) = ps.take n ++ [ps[n]] := by rw [List.take_succ_eq_append_getElem (by omega)]
    have hs : lvStep (lvs (ps.take n)) ps[n] = lvs (ps.take (n + 1)) := by unfold lvs; rw [e, List.foldl_append]; rfl
    rw [← hs]
    have hok := (Net.lvs_ok (ps.take n)).1
    generalize lvs (ps.take n) = st at *
    unfold lvStep
    simp only
    have hle : max (st.1 ps[n].1) (st.1 ps[n].2) ≤ st.2.length := Nat.max_le.mpr ⟨hok.le _, hok.le _⟩
    split
    · simp only [List.flatten_append, List.length_append, ih]; rfl
    · rw [flen_set _ _ _ (by omega), ih]
theorem ord_flen : ∀ (j : Nat) (l : List Nat), (ord so j l).flatten.length ≤ 8 * j * l.length
  | 0, l => by simp [ord]
  | j + 1, l => by
    unfold ord
    split
    · simp
    · have h1 := ord_flen j (l.take (l.length / 2))
      have h2 := ord_flen j (l.drop (l.length / 2))
      have hb := lvs_flen (merge 8 (l.take (l.length / 2)) (l.drop (l.length / 2)))
      have hm := merge_len 8 (l.take (l.length / 2)) (l.drop (l.length / 2))
      have la : (l.take (l.length / 2)).length = l.length / 2 := by rw [List.length_take]; omega
      have lb : (l.drop (l.length / 2)).length = l.length - l.length / 2 := List.length_drop
      generalize hA : l.take (l.length / 2) = A at *
      generalize hB : l.drop (l.length / 2) = B at *
      have e : 8 * j * A.length + 8 * j * B.length = 8 * j * l.length := by rw [← Nat.mul_add]; congr 1; omega
      have e2 : 8 * (j + 1) * l.length = 8 * j * l.length + 8 * l.length := by rw [Nat.mul_add, Nat.add_mul]
      have e3 : ∀ ls : List (List P), (ls.map so).flatten.length = ls.flatten.length := by
        intro ls
        induction ls with
        | nil => rfl
        | cons l ls ih => simp only [List.map_cons, List.flatten_cons, List.length_append, so_len, ih]
      rw [List.flatten_append, List.length_append, side_flen, e3, hb]
      omega
theorem ord_rg {j n : Nat} (hj : j ≤ 7) (hn : n ≤ 2 ^ j) : Rg n (ord so (j + 1) (List.range n)).flatten := by
  intro p hp
  obtain ⟨_, h2, _⟩ := Net.ord_ok so so_perm j hj (List.range n) List.nodup_range (by simpa using hn)
  have := h2 p hp
  simp at this
  exact ⟨this.1, this.2, ord_ne _ _ List.nodup_range p hp⟩
theorem ord_up {j n : Nat} (hj : j ≤ 7) (hn : n ≤ 2 ^ j) {l : List Int} (hl : l.length = n) : (thr (ord so (j + 1) (List.range n)).flatten l).Pairwise (· ≤ ·) := by
  obtain ⟨_, _, h3⟩ := Net.ord_ok so so_perm j hj (List.range n) List.nodup_range (by simpa using hn)
  subst hl
  refine Net.thr_up (ord_rg hj hn) fun f => ?_
  obtain ⟨z, _, h⟩ := h3 f
  exact ⟨z, h⟩
theorem sort_eq {l l' : List Int} (h : l'.Pairwise (· ≤ ·)) (hp : l'.Perm l) : isrt ltI l = l' := by
  refine (srt_uniq swoI antiI ?_ (isrt_srtd swoI l) (hp.trans (isrt_perm ltI l).symm)).symm
  exact h.imp fun {a b} k => by unfold ltI; simp; exact k
theorem okqs_ints (l : List Int) : D.okqs (intsD l) = true := by
  induction l with
  | nil => rfl
  | cons a l ih => exact ih
theorem deps_ints (l : List Int) : D.deps (intsD l) = 0 := by
  induction l with
  | nil => rfl
  | cons a l ih => show max 0 (D.deps (intsD l)) = 0; rw [ih]; rfl
theorem eqvs_ints (l m : List Int) : D.eqvs (intsD l) (intsD m) = decide (l = m) := by
  induction l generalizing m with
  | nil => cases m <;> simp [intsD, D.eqvs]
  | cons a l ih =>
    cases m with
    | nil => simp [intsD, D.eqvs]
    | cons b m =>
      have := ih m
      simp only [intsD, List.map_cons, D.eqvs, D.eqv] at this ⊢
      rw [this]
      by_cases h1 : a = b <;> by_cases h2 : l = m <;> simp [h1, h2]
theorem ne_ints (l m : List Int) : fNe [.lst (intsD l), .lst (intsD m)] = some (.sh (.bl (!decide (l = m)))) := by
  have hc : (D.lst (intsD l)).cmpable (.lst (intsD m)) = true := by simp [D.cmpable, D.okq, okqs_ints, D.dep, deps_ints]
  rw [fNe_v hc]
  simp only [D.eqv, eqvs_ints]
/-! ## alike -/
theorem smps_map {α : Type} {f : α → D} {l : List α} (h : ∀ a ∈ l, smp (f a) = true) : smps (l.map f) = true := by
  induction l with
  | nil => rfl
  | cons a l ih => simp [smps, h a (by simp), ih fun x m => h x (by simp [m])]
theorem smp_pl (l : List P) : smp (plD l) = true := smps_map fun _ _ => rfl
theorem smp_lv (ls : List (List P)) : smp (lvD ls) = true := smps_map fun l _ => smp_pl l
theorem cnts_pr (l : List P) : cnts (l.map prD) = 3 * l.length := by
  induction l with
  | nil => rfl
  | cons p l ih => simp only [List.map_cons, cnts, ih, prD, cnt, List.length_cons]; omega
theorem cnts_pl (ls : List (List P)) : cnts (ls.map plD) = ls.length + 3 * ls.flatten.length := by
  induction ls with
  | nil => rfl
  | cons l ls ih => simp only [List.map_cons, cnts, ih, plD, cnt, cnts_pr, List.length_cons, List.flatten_cons, List.length_append]; omega
theorem cnt_lv (ls : List (List P)) : cnt (lvD ls) = 1 + ls.length + 3 * ls.flatten.length := by
  simp only [lvD, cnt, cnts_pl]; omega
theorem prs_len : ∀ m s : Nat, (prs m s).length = m / 2
  | 0, _ => rfl
  | 1, _ => rfl
  | m + 2, s => by simp [prs, prs_len m (s + 2)]
theorem nlev_len (n t : Nat) : (nlev n t).length = if t % 2 = 0 then n / 2 else (n - 1) / 2 := by
  unfold nlev; split <;> rw [prs_len]
theorem nlevs_len {n : Nat} (h : n < 40) : ((List.range n).map (nlev n)).flatten.length = n * (n - 1) / 2 := by
  have e : ((List.range n).map (nlev n)).flatten.length = ((List.range n).map fun t => if t % 2 = 0 then n / 2 else (n - 1) / 2).sum := by
    rw [List.length_flatten, List.map_map]
    congr 1
    apply List.map_congr_left
    intro t _
    exact nlev_len n t
  rw [e]
  have : ((List.range 40).all fun n => ((List.range n).map fun t => if t % 2 = 0 then n / 2 else (n - 1) / 2).sum == n * (n - 1) / 2) = true := by decide +kernel
  have := List.all_eq_true.mp this n (by simpa using h)
  simpa using this
/-! ## marks in a row -/
def mark (pl : List Nat) (row : List Int) : List Int := pl.foldl (fun r p => r.set p 1) row
theorem mark_len (pl : List Nat) (row : List Int) : (mark pl row).length = row.length := by
  induction pl generalizing row with
  | nil => rfl
  | cons p pl ih => show (mark pl (row.set p 1)).length = _; rw [ih]; simp
theorem mark_get (pl : List Nat) : ∀ (row : List Int), (∀ p ∈ pl, p < row.length) → ∀ k, get (mark pl row) k = if k ∈ pl then 1 else get row k := by
  induction pl with
  | nil => intro row _ k; simp [mark]
  | cons p pl ih =>
    intro row h k
    show get (mark pl (row.set p 1)) k = _
    rw [ih _ (fun q hq => by rw [List.length_set]; exact h q (by simp [hq]))]
    have hp := h p (by simp)
    by_cases h1 : k ∈ pl
    · simp [h1]
    · by_cases h2 : k = p
      · subst h2; simp [h1, Net.get, hp]
      · simp [h1, h2, Net.get, List.getElem?_set, Ne.symm h2]
theorem get_rep (n k : Nat) : get (List.replicate n 0) k = 0 := by
  unfold Net.get
  rw [List.getD_eq_getElem?_getD, List.getElem?_replicate]
  split <;> rfl
theorem told_up {a b : List Nat} {n o1 o2 : Nat} (hn : (a ++ b).Nodup) (hl : ∀ x ∈ a ++ b, x < n) (ha : a.length ≤ 100) (hb : b.length ≤ 100) (h1 : o1 ≤ a.length) (h2 : o2 ≤ b.length) :
    ((a ++ b).map (get (thr (merge 8 a b) (mark (a.drop (a.length - o1) ++ b.drop (b.length - o2)) (List.replicate n 0))))).Pairwise (· ≤ ·) := by
  have hs := List.nodup_append.mp hn
  have hg : ∀ k, get (mark (a.drop (a.length - o1) ++ b.drop (b.length - o2)) (List.replicate n 0)) k = if k ∈ a.drop (a.length - o1) ++ b.drop (b.length - o2) then 1 else 0 := fun k => by
    rw [mark_get _ _ (fun p hp => by
      rw [List.length_replicate]
      refine hl p ?_
      rcases List.mem_append.mp hp with h | h
      · exact List.mem_append_left _ (List.mem_of_mem_drop h)
      · exact List.mem_append_right _ (List.mem_of_mem_drop h)), get_rep]
  have hrg : Rg (mark (a.drop (a.length - o1) ++ b.drop (b.length - o2)) (List.replicate n 0)).length (merge 8 a b) := by
    rw [mark_len, List.length_replicate]
    intro p hp
    have := Net.tch_mem _ _ hp
    exact ⟨hl _ (Net.merge_tch _ _ _ _ this.1), hl _ (Net.merge_tch _ _ _ _ this.2), merge_ne _ _ _ hn p hp⟩
  rw [Net.thr_get hrg]
  refine Net.zs_up fun t => ?_
  rw [Net.run_th]
  have key : ∀ (za zb : Nat), za ≤ a.length → zb ≤ b.length → Zs a za (th t (get (mark (a.drop (a.length - o1) ++ b.drop (b.length - o2)) (List.replicate n 0)))) → Zs b zb (th t (get (mark (a.drop (a.length - o1) ++ b.drop (b.length - o2)) (List.replicate n 0)))) → ∃ z, Zs (a ++ b) z (run (merge 8 a b) (th t (get (mark (a.drop (a.length - o1) ++ b.drop (b.length - o2)) (List.replicate n 0))))) :=
    fun za zb i1 i2 z1 z2 => ⟨_, Net.merge_ok 7 a b hn (by omega) (by omega) za zb i1 i2 _ z1 z2⟩
  have mem1 : ∀ (k : Nat) (x : Nat), a[k]? = some x → (x ∈ a.drop (a.length - o1) ++ b.drop (b.length - o2) ↔ a.length - o1 ≤ k) := fun k x hx => by
    obtain ⟨hk, rfl⟩ := List.getElem?_eq_some_iff.mp hx
    constructor
    · intro hm
      rcases List.mem_append.mp hm with h | h
      · obtain ⟨i, hi, e⟩ := List.mem_iff_getElem.mp h
        rw [List.getElem_drop] at e
        rw [List.length_drop] at hi
        have := (List.getElem_inj hs.1).mp e
        omega
      · exact absurd rfl (hs.2.2 _ (List.getElem_mem hk) _ (List.mem_of_mem_drop h))
    · intro hle
      refine List.mem_append_left _ (List.mem_iff_getElem.mpr ⟨k - (a.length - o1), by rw [List.length_drop]; omega, ?_⟩)
      rw [List.getElem_drop]; congr 1; omega
  have mem2 : ∀ (k : Nat) (x : Nat), b[k]? = some x → (x ∈ a.drop (a.length - o1) ++ b.drop (b.length - o2) ↔ b.length - o2 ≤ k) := fun k x hx => by
    obtain ⟨hk, rfl⟩ := List.getElem?_eq_some_iff.mp hx
    constructor
    · intro hm
      rcases List.mem_append.mp hm with h | h
      · exact absurd rfl (hs.2.2 _ (List.mem_of_mem_drop h) _ (List.getElem_mem hk))
      · obtain ⟨i, hi, e⟩ := List.mem_iff_getElem.mp h
        rw [List.getElem_drop] at e
        rw [List.length_drop] at hi
        have := (List.getElem_inj hs.2.1).mp e
        omega
    · intro hle
      refine List.mem_append_right _ (List.mem_iff_getElem.mpr ⟨k - (b.length - o2), by rw [List.length_drop]; omega, ?_⟩)
      rw [List.getElem_drop]; congr 1; omega
  by_cases t0 : t < 0
  · refine key 0 0 (by omega) (by omega) (fun k x hx => ?_) fun k x hx => ?_
    · unfold th; rw [hg]; split <;> simp <;> omega
    · unfold th; rw [hg]; split <;> simp <;> omega
  · by_cases t1 : t < 1
    · have : t = 0 := by omega
      subst this
      refine key (a.length - o1) (b.length - o2) (by omega) (by omega) (fun k x hx => ?_) fun k x hx => ?_
      · unfold th; rw [hg, decide_eq_decide, ← mem1 k x hx]; split <;> simp_all
      · unfold th; rw [hg, decide_eq_decide, ← mem2 k x hx]; split <;> simp_all
    · refine key a.length b.length (by omega) (by omega) (fun k x hx => ?_) fun k x hx => ?_
      · have hk := (List.getElem?_eq_some_iff.mp hx).1
        unfold th; rw [hg, decide_eq_decide]; split <;> omega
      · have hk := (List.getElem?_eq_some_iff.mp hx).1
        unfold th; rw [hg, decide_eq_decide]; split <;> omega
end Fx.Nt
set_option Elab.async false
set_option linter.all false
set_option maxRecDepth 100000
set_option maxHeartbeats 4000000
namespace Fx.Nu
open PySem Fx Fx.Nt Fx.L
open L2 hiding prD
open Net (P thr cxl Rg merge lvs lvStep LvOk side ord nlev prs dis)

theorem popAt_nat {ds : List D} {k : Nat} {d : D} (hk : ds[k]? = some d) (hl : k ≤ 1000000) : fPopAt ds [.int (k : Int)] = some (.sh d, ds.eraseIdx k) := by
  have h1 : okR (k : Int) = true := okr (by omega) (by omega)
  simp only [fPopAt, h1]
  rw [if_true, if_pos (by omega), Int.toNat_natCast, hk]
  rfl
theorem ne_nil (l : List Nat) : fNe [.lst (natsD l), .lst []] = some (.sh (.bl (!decide (l = [])))) := by
  have h := eq_nil l
  by_cases q : (D.lst (natsD l)).cmpable (.lst []) = true
  · rw [fEq_v q] at h
    rw [fNe_v q]
    simp only [Option.some.injEq, C.sh.injEq, D.bl.injEq] at h
    rw [h]
  · have : fEq [.lst (natsD l), .lst []] = none := if_neg q
    rw [this] at h; cases h
theorem erase_map {α β : Type} (f : α → β) : ∀ (l : List α) (k : Nat), (l.map f).eraseIdx k = (l.eraseIdx k).map f
  | [], _ => rfl
  | _ :: _, 0 => rfl
  | x :: l, k + 1 => by simp [List.eraseIdx_cons_succ, erase_map f l k]
theorem erase_perm {α : Type} : ∀ (l : List α) (k : Nat) (h : k < l.length), (l[k] :: l.eraseIdx k).Perm l
  | [], _, h => by simp at h
  | x :: l, 0, _ => .refl _
  | x :: l, k + 1, h => by
    simp only [List.getElem_cons_succ, List.eraseIdx_cons_succ]
    exact (List.Perm.swap ..).trans ((erase_perm l k (by simpa using h)).cons x)
theorem mixed_ok {c : C} (hb : BagOk c) {d : D} {l : List Nat} (hd : fList [d] = some (.ol (natsD l))) (hl : l.length ≤ 10000) :
    ∃ l' c', F_u_law_mixed c [d] = some (.ol (natsD l'), c') ∧ l'.Perm l ∧ BagOk c' := by
  rw [F_u_law_mixed_eq]
  have l0 : (0 : Nat) ≤ lim := lim_of (by omega)
  have key : ∃ l' c' s', sWhile (kVal (eO fNe [(.slot 2), (.val (eLst []))])) l1_u_law_mixed ({ v_bag := some c, v_things := some (.sh d), v_left := some (.ol (natsD l)), v_found := some (.ol (natsD [])) } : S_u_law_mixed).e = some (.nx (S_u_law_mixed.e s')) ∧ s'.v_bag = some c' ∧ s'.v_found = some (.ol (natsD l')) ∧ l'.Perm l ∧ BagOk c' := by
    refine whileS (E := S_u_law_mixed.e) (J := fun s => ∃ cb lf fd, s.v_bag = some cb ∧ BagOk cb ∧ s.v_left = some (.ol (natsD lf)) ∧ s.v_found = some (.ol (natsD fd)) ∧ (fd ++ lf).Perm l) (μ := fun s => match s.v_left with | some (.ol q) => q.length | _ => 0) (R := fun o => ∃ l' c' s', o = some (.nx (S_u_law_mixed.e s')) ∧ s'.v_bag = some c' ∧ s'.v_found = some (.ol (natsD l')) ∧ l'.Perm l ∧ BagOk c') ?_ ⟨c, l, [], rfl, hb, rfl, rfl, by simp⟩
    rintro s ⟨cb, lf, fd, h1, h2, h3, h4, h5⟩
    refine ⟨!decide (lf = []), s, by simp [h3, l0, ne_nil], fun hx => ?_, fun hx => .inl ?_⟩
    · have : lf = [] := by simpa using hx
      subst this
      exact ⟨fd, cb, s, rfl, h1, h4, by simpa using h5, h2⟩
    · have hne : lf ≠ [] := by simpa using hx
      have hpos := List.length_pos_iff.mpr hne
      have hlen := h5.length_eq
      rw [List.length_append] at hlen
      obtain ⟨v, c2, e1, p1, q1, b1⟩ := take_ok h2 (m := lf.length) (by omega) (by omega)
      obtain ⟨k, rfl⟩ : ∃ k : Nat, v = k := ⟨v.toNat, by omega⟩
      have hk : k < lf.length := by omega
      have hg : (natsD lf)[k]? = some (.int ((lf[k] : Nat) : Int)) := by simp [natsD, hk]
      have he : (natsD lf).eraseIdx k = natsD (lf.eraseIdx k) := erase_map _ _ _
      have hpp := popAt_nat hg (by omega)
      have hf : fd.length < lim := by rw [lim_val]; omega
      refine ⟨{ s with v_bag := some c2, v_left := some (.ol (natsD (lf.eraseIdx k))), v_found := some (.ol (natsD (fd ++ [lf[k]]))) }, ?_, ⟨c2, _, _, rfl, b1, rfl, rfl, ?_⟩, ?_⟩
      · simp [l1_u_law_mixed, h1, h3, h4, natsD_len, e1, hpp, he, hf]
        simp [natsD]
      · refine List.Perm.trans ?_ h5
        rw [List.append_assoc]
        exact List.Perm.append_left fd (by simpa using erase_perm lf k hk)
      · simp only [h3, natsD_len, List.length_eraseIdx, hk, if_true]; omega
  obtain ⟨l', c', s', h1, h2, h3, h4, h5⟩ := key
  refine ⟨l', c', ?_, h4, h5⟩
  have h1' : sWhile (kVal (eO fNe [(.slot 2), (.val (eLst []))])) l1_u_law_mixed ({ v_bag := some c, v_things := some (.sh d), v_left := some (.ol (natsD l)), v_found := some (.ol []) } : S_u_law_mixed).e = some (.nx (S_u_law_mixed.e s')) := h1
  simp [b_u_law_mixed, hd, l0, h1', h2, h3]
structure LvlOk (n : Nat) (lv : List P) : Prop where
  rg : ∀ p ∈ lv, p.1 < n ∧ p.2 < n ∧ p.1 ≠ p.2
  pw : lv.Pairwise dis
structure NetOk (n : Nat) (ls : List (List P)) : Prop where
  lv : ∀ l ∈ ls, LvlOk n l
theorem NetOk.rg {n : Nat} {ls : List (List P)} (h : NetOk n ls) : Rg n ls.flatten := by
  intro p hp
  obtain ⟨l, hl, hp⟩ := List.mem_flatten.mp hp
  have := (h.lv l hl).rg p hp
  exact ⟨this.1, this.2.1, by omega⟩
theorem LvlOk.perm {n : Nat} {a b : List P} (h : LvlOk n a) (p : b.Perm a) : LvlOk n b := ⟨fun q hq => h.rg q (p.mem_iff.mp hq), (p.pairwise_iff fun h => Net.dis_symm h).mpr h.pw⟩
theorem LvlOk.sub {n : Nat} {a b : List P} (h : LvlOk n a) (p : b.Sublist a) : LvlOk n b := ⟨fun q hq => h.rg q (p.subset hq), h.pw.sublist p⟩
theorem network_level {c : C} (hb : BagOk c) {n k : Nat} (hn : n ≤ 1000) (s : S_u_law_network) (h0 : s.v_bag = some c) (h1 : s.v_many = some (.sh (.int (n : Int)))) {ls : List (List P)} (h3 : s.v_found = some (.ol (ls.map plD))) (hok : NetOk n ls) (hl : ls.length ≤ 1000) :
    ∃ s' c' lv, l2_u_law_network s.e = some (.nx (S_u_law_network.e s')) ∧ s'.v_bag = some c' ∧ BagOk c' ∧ s'.v_many = s.v_many ∧ s'.v_most = s.v_most ∧ s'.v_found = some (.ol ((ls ++ [lv]).map plD)) ∧ NetOk n (ls ++ [lv]) := by
  have l0 : (0 : Nat) ≤ lim := lim_of (by omega)
  have l2 : (2 : Nat) ≤ lim := lim_of (by omega)
  obtain ⟨l', c1, e1, hp, b1⟩ := mixed_ok hb (d := .lst (natsD (List.range n))) (l := List.range n) rfl (by simp; omega)
  have hll : l'.length = n := by rw [hp.length_eq]; simp
  have hnd : l'.Nodup := hp.nodup_iff.mpr List.nodup_range
  have hmem : ∀ x ∈ l', x < n := fun x hx => by simpa using hp.mem_iff.mp hx
  have hrn : rng 0 (n : Int) = natsD (List.range n) := rng_nat n
  have okg : rgOk 0 (n : Int) = true := by
    unfold rgOk
    rw [okr (by omega) (by omega), okr (by omega) (by omega)]
    simp; rw [lim_val]; omega
  have elr : ∀ env : Fx.Env, ∀ o : Opd, eLR1 o env = (evO [o] env).bind fun (ds, e) => match ds with
    | [.int n] => if rgOk 0 n then some (.ol (rng 0 n), e) else none
    | _ => none := fun _ _ => rfl
  unfold l2_u_law_network
  rw [seq_nx (e := ({ s with v_bag := some c1, v_places := some (.ol (natsD l')), v_level := some (.ol []) } : S_u_law_network).e) (by simp [h0, h1, elr, okg, hrn, e1, l0])]
  have hr := rg2 (a := 0) (b := (n : Int) - 1) (by omega) (by omega) (by omega) (by omega)
  have hz : (Builtin.Range.rangeSize 0 ((n : Int) - 1) 2).toNat = n / 2 := by rw [size2]; omega
  rw [hz] at hr
  have hs : rngC 0 2 (n / 2) = (steps (n / 2) 0).map fun k => D.int (k : Nat) := rngC_steps 0 _
  obtain ⟨s1, f1, c2, lv, x, rfl, b2, j1, j2, j3⟩ := forM (E := S_u_law_network.e) (t := .one 7) (b := l1_u_law_network) (f := fun k : Nat => D.int (k : Int)) (fun q s1 => ∃ c2 lv x, s1 = { s with v_bag := some c2, v_places := some (.ol (natsD l')), v_level := some (.ol (lv.map prD)), v_at := x } ∧ BagOk c2 ∧ LvlOk n lv ∧ lv.length ≤ q.length ∧ ∀ p ∈ lv, p.1 ∈ l'.take (2 * q.length) ∧ p.2 ∈ l'.take (2 * q.length)) (l := steps (n / 2) 0)
    (s := { s with v_bag := some c1, v_places := some (.ol (natsD l')), v_level := some (.ol []) }) ⟨c1, [], s.v_at, rfl, b1, ⟨fun p hp => (by cases hp), .nil⟩, by simp, fun p hp => by cases hp⟩ fun q at_ r s1 e hj => by
      obtain ⟨c2, lv, x, rfl, b2, j1, j2, j3⟩ := hj
      have hat : at_ = 2 * q.length ∧ q.length < n / 2 := by
        have hlen := congrArg List.length e
        simp [steps] at hlen
        have hg : (steps (n / 2) 0)[q.length]? = some at_ := by rw [e]; simp
        unfold steps at hg
        rw [List.getElem?_map, List.getElem?_range (by omega)] at hg
        simp at hg
        omega
      obtain ⟨rfl, hq⟩ := hat
      have i1 : 2 * q.length < l'.length := by omega
      have i2 : 2 * q.length + 1 < l'.length := by omega
      have a1 : atI (natsD l') ((2 * q.length : Nat) : Int) = some (.int ((l'[2 * q.length] : Nat) : Int)) := by rw [atI_nat]; simp [natsD, i1]
      have a2 : atI (natsD l') (((2 * q.length : Nat) : Int) + 1) = some (.int ((l'[2 * q.length + 1] : Nat) : Int)) := by rw [show ((2 * q.length : Nat) : Int) + 1 = ((2 * q.length + 1 : Nat) : Int) by omega, atI_nat]; simp [natsD, i2]
      obtain ⟨v, c3, e3, p3, q3, b3⟩ := take_ok b2 (m := 4) (by omega) (by omega)
      have tk : ∀ x, x ∈ l'.take (2 * q.length) → x ∈ l'.take (2 * (q ++ [2 * q.length]).length) := fun x hx => by
        have : l'.take (2 * q.length) = (l'.take (2 * (q ++ [2 * q.length]).length)).take (2 * q.length) := by rw [List.take_take, List.length_append]; congr 1; simp only [List.length_cons, List.length_nil]; omega
        rw [this] at hx
        exact List.mem_of_mem_take hx
      by_cases hv : 0 < v
      · have hne : l'[2 * q.length] ≠ l'[2 * q.length + 1] := fun z => by
          have := (List.getElem_inj hnd).mp z
          omega
        have m1 := hmem _ (List.getElem_mem i1)
        have m2 := hmem _ (List.getElem_mem i2)
        have t1 : l'[2 * q.length] ∈ l'.take (2 * (q ++ [2 * q.length]).length) := List.mem_iff_getElem.mpr ⟨2 * q.length, by simp; omega, by simp⟩
        have t2 : l'[2 * q.length + 1] ∈ l'.take (2 * (q ++ [2 * q.length]).length) := List.mem_iff_getElem.mpr ⟨2 * q.length + 1, by simp; omega, by simp⟩
        have n1 : l'[2 * q.length] ∉ l'.take (2 * q.length) := fun z => by
          obtain ⟨i, hi, ei⟩ := List.mem_iff_getElem.mp z
          rw [List.getElem_take] at ei
          have := (List.getElem_inj hnd).mp ei
          simp at hi; omega
        have n2 : l'[2 * q.length + 1] ∉ l'.take (2 * q.length) := fun z => by
          obtain ⟨i, hi, ei⟩ := List.mem_iff_getElem.mp z
          rw [List.getElem_take] at ei
          have := (List.getElem_inj hnd).mp ei
          simp at hi; omega
        generalize l'[2 * q.length] = u at *
        generalize l'[2 * q.length + 1] = w at *
        have hlv : lv.length < lim := by rw [lim_val]; omega
        refine ⟨{ s with v_bag := some c3, v_places := some (.ol (natsD l')), v_level := some (.ol ((lv ++ [(min u w, max u w)]).map prD)), v_at := some (.sh (.int ((2 * q.length : Nat) : Int))) }, ?_, c3, _, _, rfl, b3, ⟨?_, ?_⟩, ?_, ?_⟩
        · have mc : min (u : Int) (w : Int) = ((min u w : Nat) : Int) := by omega
          generalize 2 * q.length = aa at *
          simp [l1_u_law_network, e3, hv, a1, a2, fMin_ints, fMax_ints, max_cast, mc, l2, hlv, prD]
        · intro p hp
          rcases List.mem_append.mp hp with hp | hp
          · exact j1.rg p hp
          · simp at hp; subst hp; simp; omega
        · refine List.pairwise_append.mpr ⟨j1.pw, List.pairwise_singleton _ _, fun p hp p' hp' => ?_⟩
          simp at hp'; subst hp'
          have := j3 p hp
          have e1 : ∀ y, y ∈ l'.take (2 * q.length) → y ≠ u ∧ y ≠ w := fun y hy => ⟨fun z => n1 (z ▸ hy), fun z => n2 (z ▸ hy)⟩
          have a := e1 _ this.1
          have b := e1 _ this.2
          refine ⟨?_, ?_, ?_, ?_⟩ <;> simp only <;> omega
        · simp; omega
        · intro p hp
          rcases List.mem_append.mp hp with hp | hp
          · exact ⟨tk _ (j3 p hp).1, tk _ (j3 p hp).2⟩
          · simp at hp; subst hp
            simp only
            rcases Nat.le_total u w with h | h
            · rw [Nat.min_eq_left h, Nat.max_eq_right h]; exact ⟨t1, t2⟩
            · rw [Nat.min_eq_right h, Nat.max_eq_left h]; exact ⟨t2, t1⟩
      · refine ⟨{ s with v_bag := some c3, v_places := some (.ol (natsD l')), v_level := some (.ol (lv.map prD)), v_at := some (.sh (.int ((2 * q.length : Nat) : Int))) }, ?_, c3, _, _, rfl, b3, j1, by simp; omega, fun p hp => ⟨tk _ (j3 p hp).1, tk _ (j3 p hp).2⟩⟩
        generalize 2 * q.length = aa at *
        simp [l1_u_law_network, e3, hv]
  rw [seq_nx (e := ({ s with v_bag := some c2, v_places := some (.ol (natsD l')), v_level := some (.ol (lv.map prD)), v_at := x } : S_u_law_network).e) (by simp only [h1] at f1; simp [h1, hr, hz, hs, f1])]
  have hso := so_ok (x := .lst (lv.map prD)) (l := lv) rfl
  have hlsl : ls.length < lim := by rw [lim_val]; omega
  refine ⟨{ s with v_bag := some c2, v_places := some (.ol (natsD l')), v_level := some (.ol (lv.map prD)), v_at := x, v_found := some (.ol ((ls ++ [so lv]).map plD)) }, c2, so lv, ?_, rfl, b2, rfl, rfl, rfl, ⟨fun l hl => ?_⟩⟩
  · simp [h3, hso, hlsl, plD]
  · rcases List.mem_append.mp hl with hl | hl
    · exact hok.lv l hl
    · simp at hl; subst hl; exact j1.perm (so_perm lv)
theorem network_ok {c : C} (hb : BagOk c) {n m : Nat} (hn : n ≤ 1000) (hm : m ≤ 100) :
    ∃ ls c', F_u_law_network c [.int (n : Int), .int (m : Int)] = some (.sh (lvD ls), c') ∧ BagOk c' ∧ NetOk n ls ∧ ls.length ≤ m := by
  rw [F_u_law_network_eq]
  have l0 : (0 : Nat) ≤ lim := lim_of (by omega)
  obtain ⟨v, c1, e1, p1, q1, b1⟩ := take_ok hb (m := (m : Int) + 1) (by omega) (by omega)
  obtain ⟨k, rfl⟩ : ∃ k : Nat, v = k := ⟨v.toNat, by omega⟩
  unfold b_u_law_network
  rw [seq_nx (e := ({ v_bag := some c, v_many := some (.sh (.int (n : Int))), v_most := some (.sh (.int (m : Int))), v_found := some (.ol []) } : S_u_law_network).e) (by simp [l0])]
  obtain ⟨s', f1, c2, ls, h2, h3, h4, h5, h6, h7⟩ := forS (E := S_u_law_network.e) (t := .one 4) (b := l2_u_law_network) (fun i s => ∃ c2 ls, s.v_bag = some c2 ∧ BagOk c2 ∧ s.v_many = some (.sh (.int (n : Int))) ∧ s.v_found = some (.ol (ls.map plD)) ∧ NetOk n ls ∧ ls.length = i) (ds := rng 0 (k : Int))
    (s := { v_bag := some c1, v_many := some (.sh (.int (n : Int))), v_most := some (.sh (.int (m : Int))), v_found := some (.ol []) }) ⟨c1, [], rfl, b1, rfl, rfl, ⟨fun l hl => by cases hl⟩, rfl⟩ fun i d s hd hj => by
      obtain ⟨c2, ls, h2, h3, h4, h5, h6, h7⟩ := hj
      have hi := (rng_get hd).2
      obtain ⟨s', c', lv, g1, g2, g3, g4, g5, g6, g7⟩ := network_level (k := 0) h3 hn { s with v_turn := some (.sh d) } h2 h4 h5 h6 (by omega)
      exact ⟨s', by simp [g1], c', ls ++ [lv], g2, g3, g4.trans h4, g6, g7, by simp [h7]⟩
  rw [rng_len] at h7
  have okk : okR (k : Int) = true := okr (by omega) (by omega)
  rw [seq_nx (e := s'.e) (by simp [e1, okk, f1])]
  refine ⟨ls, c2, by simp [h5, h2, lvD], h3, h6, by omega⟩
end Fx.Nu
set_option Elab.async false
set_option linter.all false
set_option maxRecDepth 100000
set_option maxHeartbeats 4000000
namespace Fx.Nu
open PySem Fx Fx.Nt Fx.L
open L2 hiding prD
open Net (P thr cxl Rg merge lvs lvStep LvOk side ord nlev prs dis)
theorem done_step (s : S_level_done) (l : List Int) (p : P) (h : p.1 < l.length ∧ p.2 < l.length ∧ p.1 ≠ p.2) (hs : s.v_found = some (.ol (intsD l))) :
    ∃ s', (asgT (.tup [3, 4]) (prD p) s.e).bind l1_level_done = some (.nx (S_level_done.e s')) ∧ s'.v_found = some (.ol (intsD (cxl l p))) := by
  obtain ⟨h1, h2, h3⟩ := h
  have e1 := atI_ints h1
  have e2 := atI_ints h2
  have i1 := ixN_nat h1
  have i2 := ixN_nat h2
  have l2 : (2 : Nat) ≤ lim := lim_of (by omega)
  refine ⟨{ s with v_found := some (.ol (intsD (cxl l p))), v_one := some (.sh (.int (p.1 : Nat))), v_other := some (.sh (.int (p.2 : Nat))) }, ?_, rfl⟩
  by_cases q : Net.get l p.2 < Net.get l p.1
  · have m1 : min (Net.get l p.1) (Net.get l p.2) = Net.get l p.2 := by omega
    have m2 : max (Net.get l p.1) (Net.get l p.2) = Net.get l p.1 := by omega
    simp [prD, l1_level_done, hs, e1, e2, q, len_ints, i1, i2, set_ints, cxl, l2, m1, m2]
  · have m1 : min (Net.get l p.1) (Net.get l p.2) = Net.get l p.1 := by omega
    have m2 : max (Net.get l p.1) (Net.get l p.2) = Net.get l p.2 := by omega
    have hg : cxl l p = l := by
      unfold cxl
      rw [m1, m2]
      apply List.ext_getElem?
      intro k
      simp only [List.getElem?_set, List.length_set, Net.get, List.getD_eq_getElem?_getD]
      by_cases a : p.2 = k
      · subst a; simp [h2]
      · by_cases b : p.1 = k
        · subst b; simp [h1, a]
        · simp [a, b]
    rw [hg]
    simp [prD, l1_level_done, hs, e1, e2, q]
theorem level_done_ok {dn dr : D} {ps : List P} {l : List Int} (hn : dn.seq = some (ps.map prD)) (hr : fList [dr] = some (.ol (intsD l))) (hg : Rg l.length ps) :
    F_level_done [dn, dr] = some (.ol (intsD (thr ps l))) := by
  rw [F_level_done_eq]
  obtain ⟨s', h1, h2⟩ := forM (E := S_level_done.e) (t := .tup [3, 4]) (b := l1_level_done) (f := prD) (fun q s => s.v_found = some (.ol (intsD (thr q l)))) (l := ps)
    (s := { v_level := some (.sh dn), v_numbers := some (.sh dr), v_found := some (.ol (intsD l)) }) rfl fun q a r s e hj => by
      obtain ⟨s', h1, h2⟩ := done_step s (thr q l) a (by rw [Net.thr_len]; exact Rg.mid (e ▸ hg)) hj
      exact ⟨s', h1, by rw [Net.thr_app]; exact h2⟩
  simp [b_level_done, hr, hn, h1, h2]
theorem done_ok {dn dr : D} {f : List P → D} {ls : List (List P)} {l : List Int} (hf : ∀ ps ∈ ls, (f ps).seq = some (ps.map prD)) (hn : dn.seq = some (ls.map f)) (hr : fList [dr] = some (.ol (intsD l))) (hg : Rg l.length ls.flatten) :
    F_done [dn, dr] = some (.sh (.tup (intsD (thr ls.flatten l)))) := by
  rw [F_done_eq]
  obtain ⟨s', h1, c, h2, h3⟩ := forM (E := S_done.e) (t := .one 3) (b := l1_done) (f := f) (fun q s => ∃ c, s.v_found = some c ∧ (c = .ol (intsD (thr q.flatten l)))) (l := ls)
    (s := { v_network := some (.sh dn), v_numbers := some (.sh dr), v_found := some (.ol (intsD l)) }) ⟨_, rfl, rfl⟩ fun q a r s e hj => by
      obtain ⟨c, h2, rfl⟩ := hj
      subst e
      have := level_done_ok (dn := f a) (dr := .lst (intsD (thr q.flatten l))) (hf a (by simp)) rfl (by rw [Net.thr_len]; exact fun p hp => hg p (by simp [hp]))
      refine ⟨{ s with v_level := some (.sh (f a)), v_found := some (.ol (intsD (thr (q ++ [a]).flatten l))) }, ?_, _, rfl, rfl⟩
      rw [List.flatten_append, Net.thr_app]
      simp [l1_done, h2, this]
  subst h3
  simp [b_done, hr, hn, h1, h2]
end Fx.Nu
set_option Elab.async false
set_option linter.all false
set_option maxRecDepth 100000
set_option maxHeartbeats 4000000
namespace K20
open PySem Fx Fx.L Fx.Nt Fx.Nu
open L2 hiding prD
open Net (P thr cxl Rg merge lvs lvStep LvOk side ord nlev prs dis)
/-! exchanging any values that are in order -/
structure Od (V : Type) where
  em : V → D
  lt : V → V → Bool
  df : V
  h_lt : ∀ x y, fLt [em x, em y] = some (.sh (.bl (lt x y)))
  h_min : ∀ x y, fMinT [em x, em y] = some (.sh (em (if lt y x then y else x)))
  h_max : ∀ x y, fMaxT [em x, em y] = some (.sh (em (if lt x y then y else x)))
  tot : ∀ x y, lt x y = false → lt y x = false → x = y
  asy : ∀ x y, lt x y = true → lt y x = false
def odI : Od Int where
  em := D.int
  lt x y := decide (x < y)
  df := 0
  h_lt x y := by simp
  h_min x y := by simp [mn2]
  h_max x y := by simp [mx2]
  tot x y a b := by simp at a b; omega
  asy x y a := by simp at a ⊢; omega
theorem lex_tot : ∀ x y : List Int, HT.lexLt x y = false → HT.lexLt y x = false → x = y
  | [], [], _, _ => rfl
  | [], y :: ms, h, _ => by cases h
  | x :: ns, [], _, h => by cases h
  | x :: ns, y :: ms, h, h2 => by
    rw [HT.lexLt_cons] at h h2
    by_cases e : x = y
    · subst e
      simp at h h2
      rw [lex_tot ns ms h h2]
    · rw [if_neg e] at h; rw [if_neg (fun z => e z.symm)] at h2
      simp at h h2; omega
theorem lex_asy : ∀ x y : List Int, HT.lexLt x y = true → HT.lexLt y x = false
  | [], [], h => rfl
  | [], y :: ms, _ => rfl
  | x :: ns, [], h => by cases h
  | x :: ns, y :: ms, h => by
    rw [HT.lexLt_cons] at h ⊢
    by_cases e : x = y
    · subst e
      simp at h ⊢
      exact lex_asy ns ms h
    · rw [if_neg e] at h; rw [if_neg (fun z => e z.symm)]
      simp at h ⊢; omega
def tupD (ns : List Int) : D := .tup (ns.map D.int)
def odT : Od (List Int) where
  em := tupD
  lt := HT.lexLt
  df := []
  h_lt x y := by simp [tupD, fLt]
  h_min x y := by simp [tupD]; split <;> rfl
  h_max x y := by simp [tupD]; split <;> rfl
  tot := lex_tot
  asy := lex_asy
section
variable {V : Type} (o : Od V)
def gt (l : List V) (k : Nat) : V := l.getD k o.df
def xch (l : List V) (p : P) : List V := if o.lt (gt o l p.2) (gt o l p.1) then (l.set p.1 (gt o l p.2)).set p.2 (gt o l p.1) else l
def thx (ps : List P) (l : List V) : List V := ps.foldl (xch o) l
theorem xch_len (l : List V) (p : P) : (xch o l p).length = l.length := by unfold xch; split <;> simp
theorem thx_len (ps : List P) : ∀ l : List V, (thx o ps l).length = l.length := by
  induction ps with
  | nil => intro l; rfl
  | cons p r ih => intro l; exact (ih _).trans (xch_len o l p)
theorem thx_app (a b : List P) (l : List V) : thx o (a ++ b) l = thx o b (thx o a l) := by simp [thx]
theorem atI_v {l : List V} {k : Nat} (h : k < l.length) : atI (l.map o.em) (k : Int) = some (o.em (gt o l k)) := by
  rw [Fx.atI_nat]; simp [gt, h]
theorem set_same {l : List V} {p : P} (h1 : p.1 < l.length) (h2 : p.2 < l.length) : (l.set p.1 (gt o l p.1)).set p.2 (gt o l p.2) = l := by
  apply List.ext_getElem?
  intro k
  simp only [List.getElem?_set, List.length_set, gt, List.getD_eq_getElem?_getD]
  by_cases a : p.2 = k
  · subst a; simp [h2]
  · by_cases b : p.1 = k
    · subst b; simp [h1, a]
    · simp [a, b]
theorem thx_step (s : S_u_law_through) (l : List V) (p : P) (h : p.1 < l.length ∧ p.2 < l.length ∧ p.1 ≠ p.2) (hs : s.v_found = some (.ol (l.map o.em))) :
    ∃ s', (asgT (.tup [4, 5]) (prD p) s.e).bind l1_u_law_through = some (.nx (S_u_law_through.e s')) ∧ s'.v_found = some (.ol ((xch o l p).map o.em)) := by
  obtain ⟨h1, h2, h3⟩ := h
  have e1 := atI_v o h1
  have e2 := atI_v o h2
  have i1 := ixN_nat h1
  have i2 := ixN_nat h2
  have m1 := o.h_min (gt o l p.1) (gt o l p.2)
  have m2 := o.h_max (gt o l p.1) (gt o l p.2)
  have hx : xch o l p = (l.set p.1 (if o.lt (gt o l p.2) (gt o l p.1) then gt o l p.2 else gt o l p.1)).set p.2 (if o.lt (gt o l p.1) (gt o l p.2) then gt o l p.2 else gt o l p.1) := by
    unfold xch
    by_cases q : o.lt (gt o l p.2) (gt o l p.1) = true
    · rw [if_pos q, if_pos q, if_neg (by rw [o.asy _ _ q]; exact Bool.false_ne_true)]
    · rw [if_neg q, if_neg q]
      by_cases q2 : o.lt (gt o l p.1) (gt o l p.2) = true
      · rw [if_pos q2]; exact (set_same o h1 h2).symm
      · rw [if_neg q2]
        have := o.tot _ _ (by simpa using q) (by simpa using q2)
        have h := (set_same o h1 h2).symm
        rw [this] at h
        exact h
  generalize hlo : (if o.lt (gt o l p.2) (gt o l p.1) then gt o l p.2 else gt o l p.1) = lo at *
  generalize hhi : (if o.lt (gt o l p.1) (gt o l p.2) then gt o l p.2 else gt o l p.1) = hi at *
  refine ⟨{ s with v_found := some (.ol ((xch o l p).map o.em)), v_i := some (.sh (.int (p.1 : Nat))), v_j := some (.sh (.int (p.2 : Nat))), v_low := some (.sh (o.em lo)), v_high := some (.sh (o.em hi)) }, ?_, rfl⟩
  rw [hx]
  simp [prD, l1_u_law_through, hs, e1, e2, m1, m2, i1, i2, List.map_set]
theorem thx_level (s : S_u_law_through) (l : List V) (ps : List P) (h : Rg l.length ps) (hs : s.v_found = some (.ol (l.map o.em))) :
    ∃ s', forN (.tup [4, 5]) l1_u_law_through (ps.map prD) s.e = some (.nx (S_u_law_through.e s')) ∧ s'.v_found = some (.ol ((thx o ps l).map o.em)) := by
  refine forM (E := S_u_law_through.e) (fun q s => s.v_found = some (.ol ((thx o q l).map o.em))) hs fun p a r s e hj => ?_
  obtain ⟨s', h1, h2⟩ := thx_step o s (thx o p l) a (by rw [thx_len]; exact Rg.mid (e ▸ h)) hj
  exact ⟨s', h1, by rw [thx_app]; exact h2⟩
theorem thx_ok {dn dr : D} {f : List P → D} {ls : List (List P)} {l : List V} (hf : ∀ ps ∈ ls, (f ps).seq = some (ps.map prD)) (hn : dn.seq = some (ls.map f)) (hr : fList [dr] = some (.ol (l.map o.em))) (hg : Rg l.length ls.flatten) :
    F_u_law_through [dn, dr] = some (.ol ((thx o ls.flatten l).map o.em)) := by
  rw [F_u_law_through_eq]
  obtain ⟨s', h1, h2⟩ := forM (E := S_u_law_through.e) (t := .one 3) (b := l2_u_law_through) (f := f) (fun q s => s.v_found = some (.ol ((thx o q.flatten l).map o.em))) (l := ls)
    (s := { v_network := some (.sh dn), v_numbers := some (.sh dr), v_found := some (.ol (l.map o.em)) }) rfl fun q a r s e hj => by
      subst e
      have ha : Rg (thx o q.flatten l).length a := by rw [thx_len]; exact fun p hp => hg p (by simp [hp])
      obtain ⟨s', h1, h2⟩ := thx_level o { s with v_level := some (.sh (f a)) } _ a ha hj
      refine ⟨s', ?_, by rw [List.flatten_append, thx_app]; simpa using h2⟩
      simp [l2_u_law_through, hf a (by simp), h1]
  simp [b_u_law_through, hr, hn, h1, h2]
theorem dnx_step (s : S_level_done) (l : List V) (p : P) (h : p.1 < l.length ∧ p.2 < l.length ∧ p.1 ≠ p.2) (hs : s.v_found = some (.ol (l.map o.em))) :
    ∃ s', (asgT (.tup [3, 4]) (prD p) s.e).bind l1_level_done = some (.nx (S_level_done.e s')) ∧ s'.v_found = some (.ol ((xch o l p).map o.em)) := by
  obtain ⟨h1, h2, h3⟩ := h
  have e1 := atI_v o h1
  have e2 := atI_v o h2
  have i1 := ixN_nat h1
  have i2 := ixN_nat h2
  have l2 : (2 : Nat) ≤ lim := lim_of (by omega)
  have hl := o.h_lt (gt o l p.2) (gt o l p.1)
  refine ⟨{ s with v_found := some (.ol ((xch o l p).map o.em)), v_one := some (.sh (.int (p.1 : Nat))), v_other := some (.sh (.int (p.2 : Nat))) }, ?_, rfl⟩
  unfold xch
  by_cases q : o.lt (gt o l p.2) (gt o l p.1) = true
  · rw [if_pos q]
    simp [prD, l1_level_done, hs, e1, e2, hl, q, i1, i2, List.map_set, l2]
  · rw [if_neg q]
    simp [prD, l1_level_done, hs, e1, e2, hl, q]
theorem level_done_v {dn dr : D} {ps : List P} {l : List V} (hn : dn.seq = some (ps.map prD)) (hr : fList [dr] = some (.ol (l.map o.em))) (hg : Rg l.length ps) :
    F_level_done [dn, dr] = some (.ol ((thx o ps l).map o.em)) := by
  rw [F_level_done_eq]
  obtain ⟨s', h1, h2⟩ := forM (E := S_level_done.e) (t := .tup [3, 4]) (b := l1_level_done) (f := prD) (fun q s => s.v_found = some (.ol ((thx o q l).map o.em))) (l := ps)
    (s := { v_level := some (.sh dn), v_numbers := some (.sh dr), v_found := some (.ol (l.map o.em)) }) rfl fun q a r s e hj => by
      obtain ⟨s', h1, h2⟩ := dnx_step o s (thx o q l) a (by rw [thx_len]; exact Rg.mid (e ▸ hg)) hj
      exact ⟨s', h1, by rw [thx_app]; exact h2⟩
  simp [b_level_done, hr, hn, h1, h2]
theorem done_v {dn dr : D} {f : List P → D} {ls : List (List P)} {l : List V} (hf : ∀ ps ∈ ls, (f ps).seq = some (ps.map prD)) (hn : dn.seq = some (ls.map f)) (hr : fList [dr] = some (.ol (l.map o.em))) (hg : Rg l.length ls.flatten) :
    F_done [dn, dr] = some (.sh (.tup ((thx o ls.flatten l).map o.em))) := by
  rw [F_done_eq]
  obtain ⟨s', h1, c, h2, h3⟩ := forM (E := S_done.e) (t := .one 3) (b := l1_done) (f := f) (fun q s => ∃ c, s.v_found = some c ∧ (c = .ol ((thx o q.flatten l).map o.em))) (l := ls)
    (s := { v_network := some (.sh dn), v_numbers := some (.sh dr), v_found := some (.ol (l.map o.em)) }) ⟨_, rfl, rfl⟩ fun q a r s e hj => by
      obtain ⟨c, h2, rfl⟩ := hj
      subst e
      have := level_done_v o (dn := f a) (dr := .lst ((thx o q.flatten l).map o.em)) (hf a (by simp)) rfl (by rw [thx_len]; exact fun p hp => hg p (by simp [hp]))
      refine ⟨{ s with v_level := some (.sh (f a)), v_found := some (.ol ((thx o (q ++ [a]).flatten l).map o.em)) }, ?_, _, rfl, rfl⟩
      rw [List.flatten_append, thx_app]
      simp [l1_done, h2, this]
  subst h3
  simp [b_done, hr, hn, h1, h2]
end
theorem xch_int {l : List Int} {p : P} (h1 : p.1 < l.length) (h2 : p.2 < l.length) : xch odI l p = cxl l p := by
  have hg : ∀ k, gt odI l k = Net.get l k := fun _ => rfl
  unfold xch cxl
  rw [hg, hg]
  have hlt : odI.lt (Net.get l p.2) (Net.get l p.1) = decide (Net.get l p.2 < Net.get l p.1) := rfl
  rw [hlt]
  by_cases q : Net.get l p.2 < Net.get l p.1
  · rw [if_pos (by simpa using q), Int.min_eq_right (by omega), Int.max_eq_left (by omega)]
  · rw [if_neg (by simpa using q), Int.min_eq_left (by omega), Int.max_eq_right (by omega)]
    exact (set_same odI h1 h2).symm
theorem thx_int : ∀ {ps : List P} {l : List Int}, Rg l.length ps → thx odI ps l = thr ps l
  | [], l, _ => rfl
  | p :: r, l, h => by
    have hp := h p (by simp)
    show thx odI r (xch odI l p) = thr r (cxl l p)
    rw [xch_int hp.1 hp.2.1]
    exact thx_int fun q hq => by rw [Net.cxl_len]; exact h q (by simp [hq])
/-! levelled does what its pairs do one behind another -/
theorem runI_ext {a b : List P} (h : ∀ f, Net.run a f = Net.run b f) (f : Net.StI) : Net.runI a f = Net.runI b f := by
  funext k
  have key : ∀ t : Int, decide (t < Net.runI a f k) = decide (t < Net.runI b f k) := fun t => by
    have h1 := congrFun (Net.run_th t a f) k
    have h2 := congrFun (Net.run_th t b f) k
    rw [h] at h1
    exact h1.trans h2.symm
  have k1 := key (Net.runI a f k)
  have k2 := key (Net.runI b f k)
  simp at k1 k2
  omega
theorem levelled_thr {ps : List P} {l : List Int} (h : Rg l.length ps) : thr ((lvs ps).2.map so).flatten l = thr ps l := by
  have hm : ∀ q ∈ ((lvs ps).2.map so).flatten, q ∈ ps := fun q hq => by
    obtain ⟨x, hx, hq⟩ := List.mem_flatten.mp hq
    obtain ⟨y, hy, rfl⟩ := List.mem_map.mp hx
    exact Net.lvs_mem ps q (List.mem_flatten.mpr ⟨y, hy, (so_perm y).mem_iff.mp hq⟩)
  rw [Net.thr_eq (ps := ((lvs ps).2.map so).flatten) fun q hq => h q (hm q hq), Net.thr_eq h]
  have hr : ∀ f, Net.run ((lvs ps).2.map so).flatten f = Net.run ps f := fun f => by
    have := Net.map_so so so_perm (lvs ps).2 (Net.lvs_good ps) f
    rw [← (Net.lvs_ok ps).2 f]
    first | exact this | exact this.2 | exact this.1
  rw [runI_ext hr]
end K20
set_option Elab.async false
set_option linter.all false
set_option maxRecDepth 100000
set_option maxHeartbeats 4000000
namespace Fx.Nu
open PySem Fx Fx.Nt Fx.L
open L2 hiding prD
open Net (P thr cxl Rg merge lvs lvStep LvOk side ord nlev prs dis)
structure LvlUp (n : Nat) (lv : List P) : Prop where
  rg : ∀ p ∈ lv, p.1 < n ∧ p.2 < n ∧ p.1 < p.2
  pw : lv.Pairwise dis
structure NetUp (n : Nat) (ls : List (List P)) : Prop where
  lv : ∀ l ∈ ls, LvlUp n l
  so : ∀ l ∈ ls, ∃ l0, l = so l0
  len : ∀ l ∈ ls, l.length ≤ n
theorem NetUp.rg {n : Nat} {ls : List (List P)} (h : NetUp n ls) : Rg n ls.flatten := by
  intro p hp
  obtain ⟨l, hl, hp⟩ := List.mem_flatten.mp hp
  have := (h.lv l hl).rg p hp
  exact ⟨this.1, this.2.1, by omega⟩
theorem LvlUp.perm {n : Nat} {a b : List P} (h : LvlUp n a) (p : b.Perm a) : LvlUp n b := ⟨fun q hq => h.rg q (p.mem_iff.mp hq), (p.pairwise_iff fun h => Net.dis_symm h).mpr h.pw⟩
theorem LvlUp.sub {n : Nat} {a b : List P} (h : LvlUp n a) (p : b.Sublist a) : LvlUp n b := ⟨fun q hq => h.rg q (p.subset hq), h.pw.sublist p⟩
theorem network_levelU {c : C} (hb : BagOk c) {n k : Nat} (hn : n ≤ 1000) (s : S_u_law_network) (h0 : s.v_bag = some c) (h1 : s.v_many = some (.sh (.int (n : Int)))) {ls : List (List P)} (h3 : s.v_found = some (.ol (ls.map plD))) (hok : NetUp n ls) (hl : ls.length ≤ 1000) :
    ∃ s' c' lv, l2_u_law_network s.e = some (.nx (S_u_law_network.e s')) ∧ s'.v_bag = some c' ∧ BagOk c' ∧ s'.v_many = s.v_many ∧ s'.v_most = s.v_most ∧ s'.v_found = some (.ol ((ls ++ [lv]).map plD)) ∧ NetUp n (ls ++ [lv]) := by
  have l0 : (0 : Nat) ≤ lim := lim_of (by omega)
  have l2 : (2 : Nat) ≤ lim := lim_of (by omega)
  obtain ⟨l', c1, e1, hp, b1⟩ := mixed_ok hb (d := .lst (natsD (List.range n))) (l := List.range n) rfl (by simp; omega)
  have hll : l'.length = n := by rw [hp.length_eq]; simp
  have hnd : l'.Nodup := hp.nodup_iff.mpr List.nodup_range
  have hmem : ∀ x ∈ l', x < n := fun x hx => by simpa using hp.mem_iff.mp hx
  have hrn : rng 0 (n : Int) = natsD (List.range n) := rng_nat n
  have okg : rgOk 0 (n : Int) = true := by
    unfold rgOk
    rw [okr (by omega) (by omega), okr (by omega) (by omega)]
    simp; rw [lim_val]; omega
  have elr : ∀ env : Fx.Env, ∀ o : Opd, eLR1 o env = (evO [o] env).bind fun (ds, e) => match ds with
    | [.int n] => if rgOk 0 n then some (.ol (rng 0 n), e) else none
    | _ => none := fun _ _ => rfl
  unfold l2_u_law_network
  rw [seq_nx (e := ({ s with v_bag := some c1, v_places := some (.ol (natsD l')), v_level := some (.ol []) } : S_u_law_network).e) (by simp [h0, h1, elr, okg, hrn, e1, l0])]
  have hr := rg2 (a := 0) (b := (n : Int) - 1) (by omega) (by omega) (by omega) (by omega)
  have hz : (Builtin.Range.rangeSize 0 ((n : Int) - 1) 2).toNat = n / 2 := by rw [size2]; omega
  rw [hz] at hr
  have hs : rngC 0 2 (n / 2) = (steps (n / 2) 0).map fun k => D.int (k : Nat) := rngC_steps 0 _
  obtain ⟨s1, f1, c2, lv, x, rfl, b2, j1, j2, j3⟩ := forM (E := S_u_law_network.e) (t := .one 7) (b := l1_u_law_network) (f := fun k : Nat => D.int (k : Int)) (fun q s1 => ∃ c2 lv x, s1 = { s with v_bag := some c2, v_places := some (.ol (natsD l')), v_level := some (.ol (lv.map prD)), v_at := x } ∧ BagOk c2 ∧ LvlUp n lv ∧ lv.length ≤ q.length ∧ ∀ p ∈ lv, p.1 ∈ l'.take (2 * q.length) ∧ p.2 ∈ l'.take (2 * q.length)) (l := steps (n / 2) 0)
    (s := { s with v_bag := some c1, v_places := some (.ol (natsD l')), v_level := some (.ol []) }) ⟨c1, [], s.v_at, rfl, b1, ⟨fun p hp => (by cases hp), .nil⟩, by simp, fun p hp => by cases hp⟩ fun q at_ r s1 e hj => by
      obtain ⟨c2, lv, x, rfl, b2, j1, j2, j3⟩ := hj
      have hat : at_ = 2 * q.length ∧ q.length < n / 2 := by
        have hlen := congrArg List.length e
        simp [steps] at hlen
        have hg : (steps (n / 2) 0)[q.length]? = some at_ := by rw [e]; simp
        unfold steps at hg
        rw [List.getElem?_map, List.getElem?_range (by omega)] at hg
        simp at hg
        omega
      obtain ⟨rfl, hq⟩ := hat
      have i1 : 2 * q.length < l'.length := by omega
      have i2 : 2 * q.length + 1 < l'.length := by omega
      have a1 : atI (natsD l') ((2 * q.length : Nat) : Int) = some (.int ((l'[2 * q.length] : Nat) : Int)) := by rw [atI_nat]; simp [natsD, i1]
      have a2 : atI (natsD l') (((2 * q.length : Nat) : Int) + 1) = some (.int ((l'[2 * q.length + 1] : Nat) : Int)) := by rw [show ((2 * q.length : Nat) : Int) + 1 = ((2 * q.length + 1 : Nat) : Int) by omega, atI_nat]; simp [natsD, i2]
      obtain ⟨v, c3, e3, p3, q3, b3⟩ := take_ok b2 (m := 4) (by omega) (by omega)
      have tk : ∀ x, x ∈ l'.take (2 * q.length) → x ∈ l'.take (2 * (q ++ [2 * q.length]).length) := fun x hx => by
        have : l'.take (2 * q.length) = (l'.take (2 * (q ++ [2 * q.length]).length)).take (2 * q.length) := by rw [List.take_take, List.length_append]; congr 1; simp only [List.length_cons, List.length_nil]; omega
        rw [this] at hx
        exact List.mem_of_mem_take hx
      by_cases hv : 0 < v
      · have hne : l'[2 * q.length] ≠ l'[2 * q.length + 1] := fun z => by
          have := (List.getElem_inj hnd).mp z
          omega
        have m1 := hmem _ (List.getElem_mem i1)
        have m2 := hmem _ (List.getElem_mem i2)
        have t1 : l'[2 * q.length] ∈ l'.take (2 * (q ++ [2 * q.length]).length) := List.mem_iff_getElem.mpr ⟨2 * q.length, by simp; omega, by simp⟩
        have t2 : l'[2 * q.length + 1] ∈ l'.take (2 * (q ++ [2 * q.length]).length) := List.mem_iff_getElem.mpr ⟨2 * q.length + 1, by simp; omega, by simp⟩
        have n1 : l'[2 * q.length] ∉ l'.take (2 * q.length) := fun z => by
          obtain ⟨i, hi, ei⟩ := List.mem_iff_getElem.mp z
          rw [List.getElem_take] at ei
          have := (List.getElem_inj hnd).mp ei
          simp at hi; omega
        have n2 : l'[2 * q.length + 1] ∉ l'.take (2 * q.length) := fun z => by
          obtain ⟨i, hi, ei⟩ := List.mem_iff_getElem.mp z
          rw [List.getElem_take] at ei
          have := (List.getElem_inj hnd).mp ei
          simp at hi; omega
        generalize l'[2 * q.length] = u at *
        generalize l'[2 * q.length + 1] = w at *
        have hlv : lv.length < lim := by rw [lim_val]; omega
        refine ⟨{ s with v_bag := some c3, v_places := some (.ol (natsD l')), v_level := some (.ol ((lv ++ [(min u w, max u w)]).map prD)), v_at := some (.sh (.int ((2 * q.length : Nat) : Int))) }, ?_, c3, _, _, rfl, b3, ⟨?_, ?_⟩, ?_, ?_⟩
        · have mc : min (u : Int) (w : Int) = ((min u w : Nat) : Int) := by omega
          generalize 2 * q.length = aa at *
          simp [l1_u_law_network, e3, hv, a1, a2, fMin_ints, fMax_ints, max_cast, mc, l2, hlv, prD]
        · intro p hp
          rcases List.mem_append.mp hp with hp | hp
          · exact j1.rg p hp
          · simp at hp; subst hp; simp; omega
        · refine List.pairwise_append.mpr ⟨j1.pw, List.pairwise_singleton _ _, fun p hp p' hp' => ?_⟩
          simp at hp'; subst hp'
          have := j3 p hp
          have e1 : ∀ y, y ∈ l'.take (2 * q.length) → y ≠ u ∧ y ≠ w := fun y hy => ⟨fun z => n1 (z ▸ hy), fun z => n2 (z ▸ hy)⟩
          have a := e1 _ this.1
          have b := e1 _ this.2
          refine ⟨?_, ?_, ?_, ?_⟩ <;> simp only <;> omega
        · simp; omega
        · intro p hp
          rcases List.mem_append.mp hp with hp | hp
          · exact ⟨tk _ (j3 p hp).1, tk _ (j3 p hp).2⟩
          · simp at hp; subst hp
            simp only
            rcases Nat.le_total u w with h | h
            · rw [Nat.min_eq_left h, Nat.max_eq_right h]; exact ⟨t1, t2⟩
            · rw [Nat.min_eq_right h, Nat.max_eq_left h]; exact ⟨t2, t1⟩
      · refine ⟨{ s with v_bag := some c3, v_places := some (.ol (natsD l')), v_level := some (.ol (lv.map prD)), v_at := some (.sh (.int ((2 * q.length : Nat) : Int))) }, ?_, c3, _, _, rfl, b3, j1, by simp; omega, fun p hp => ⟨tk _ (j3 p hp).1, tk _ (j3 p hp).2⟩⟩
        generalize 2 * q.length = aa at *
        simp [l1_u_law_network, e3, hv]
  rw [seq_nx (e := ({ s with v_bag := some c2, v_places := some (.ol (natsD l')), v_level := some (.ol (lv.map prD)), v_at := x } : S_u_law_network).e) (by simp only [h1] at f1; simp [h1, hr, hz, hs, f1])]
  have hso := so_ok (x := .lst (lv.map prD)) (l := lv) rfl
  have hlsl : ls.length < lim := by rw [lim_val]; omega
  refine ⟨{ s with v_bag := some c2, v_places := some (.ol (natsD l')), v_level := some (.ol (lv.map prD)), v_at := x, v_found := some (.ol ((ls ++ [so lv]).map plD)) }, c2, so lv, ?_, rfl, b2, rfl, rfl, rfl, ⟨fun l hl => ?_, fun l hl => ?_, fun l hl => ?_⟩⟩
  · simp [h3, hso, hlsl, plD]
  · rcases List.mem_append.mp hl with hl | hl
    · exact hok.lv l hl
    · simp at hl; subst hl; exact j1.perm (so_perm lv)
  · rcases List.mem_append.mp hl with hl | hl
    · exact hok.so l hl
    · simp at hl; exact ⟨lv, hl⟩
  · rcases List.mem_append.mp hl with hl | hl
    · exact hok.len l hl
    · simp at hl; subst hl
      rw [(so_perm lv).length_eq]
      have : (steps (n / 2) 0).length = n / 2 := by simp [steps]
      omega
theorem network_okU {c : C} (hb : BagOk c) {n m : Nat} (hn : n ≤ 1000) (hm : m ≤ 100) :
    ∃ ls c', F_u_law_network c [.int (n : Int), .int (m : Int)] = some (.sh (lvD ls), c') ∧ BagOk c' ∧ NetUp n ls ∧ ls.length ≤ m := by
  rw [F_u_law_network_eq]
  have l0 : (0 : Nat) ≤ lim := lim_of (by omega)
  obtain ⟨v, c1, e1, p1, q1, b1⟩ := take_ok hb (m := (m : Int) + 1) (by omega) (by omega)
  obtain ⟨k, rfl⟩ : ∃ k : Nat, v = k := ⟨v.toNat, by omega⟩
  unfold b_u_law_network
  rw [seq_nx (e := ({ v_bag := some c, v_many := some (.sh (.int (n : Int))), v_most := some (.sh (.int (m : Int))), v_found := some (.ol []) } : S_u_law_network).e) (by simp [l0])]
  obtain ⟨s', f1, c2, ls, h2, h3, h4, h5, h6, h7⟩ := forS (E := S_u_law_network.e) (t := .one 4) (b := l2_u_law_network) (fun i s => ∃ c2 ls, s.v_bag = some c2 ∧ BagOk c2 ∧ s.v_many = some (.sh (.int (n : Int))) ∧ s.v_found = some (.ol (ls.map plD)) ∧ NetUp n ls ∧ ls.length = i) (ds := rng 0 (k : Int))
    (s := { v_bag := some c1, v_many := some (.sh (.int (n : Int))), v_most := some (.sh (.int (m : Int))), v_found := some (.ol []) }) ⟨c1, [], rfl, b1, rfl, rfl, ⟨fun l hl => (by cases hl), fun l hl => (by cases hl), fun l hl => (by cases hl)⟩, rfl⟩ fun i d s hd hj => by
      obtain ⟨c2, ls, h2, h3, h4, h5, h6, h7⟩ := hj
      have hi := (rng_get hd).2
      obtain ⟨s', c', lv, g1, g2, g3, g4, g5, g6, g7⟩ := network_levelU (k := 0) h3 hn { s with v_turn := some (.sh d) } h2 h4 h5 h6 (by omega)
      exact ⟨s', by simp [g1], c', ls ++ [lv], g2, g3, g4.trans h4, g6, g7, by simp [h7]⟩
  rw [rng_len] at h7
  have okk : okR (k : Int) = true := okr (by omega) (by omega)
  rw [seq_nx (e := s'.e) (by simp [e1, okk, f1])]
  refine ⟨ls, c2, by simp [h5, h2, lvD], h3, h6, by omega⟩
end Fx.Nu
set_option Elab.async false
set_option linter.all false
set_option maxRecDepth 100000
set_option maxHeartbeats 4000000
namespace K20
open PySem Fx Fx.L Fx.Nt Fx.Nu
open L2 hiding prD
open Net (P thr cxl Rg merge lvs lvStep LvOk side ord nlev prs dis tch)
/-! what is small -/
mutual
def sml (n : Nat) : D → Bool
  | .tup ds | .lst ds => decide (ds.length ≤ n) && smls n ds
  | .non | .bl _ | .int _ => true
  | .str x => (D.str x).okq
  | _ => false
def smls (n : Nat) : List D → Bool
  | [] => true
  | d :: ds => sml n d && smls n ds
end
theorem sml_nos {n : Nat} {d : D} (h : sml n d = true) : d.noScr = true := by cases d <;> first | rfl | (simp [sml] at h)
theorem smls_mem {n : Nat} : ∀ {ds : List D}, smls n ds = true → ∀ d ∈ ds, sml n d = true
  | [], _, d, m => by cases m
  | x :: r, h, d, m => by
    simp only [smls, Bool.and_eq_true] at h
    rcases List.mem_cons.mp m with rfl | m
    · exact h.1
    · exact smls_mem h.2 d m
theorem smls_of {n : Nat} : ∀ {ds : List D}, (∀ d ∈ ds, sml n d = true) → smls n ds = true
  | [], _ => rfl
  | x :: r, h => by
    have h1 := h x (List.mem_cons_self ..)
    have h2 := smls_of (ds := r) fun d m => h d (List.mem_cons_of_mem _ m)
    simp only [smls, h1, h2, Bool.and_self]
mutual
theorem sml_mono {n m : Nat} (hm : n ≤ m) : ∀ {d : D}, sml n d = true → sml m d = true
  | .tup ds, h => by simp only [sml, Bool.and_eq_true, decide_eq_true_eq] at h ⊢; exact ⟨by omega, smls_mono hm h.2⟩
  | .lst ds, h => by simp only [sml, Bool.and_eq_true, decide_eq_true_eq] at h ⊢; exact ⟨by omega, smls_mono hm h.2⟩
  | .non, h => rfl
  | .bl _, h => rfl
  | .int _, h => rfl
  | .str x, h => by simpa [sml] using h
  | .dk _, h => by simp [sml] at h
  | .dt _, h => by simp [sml] at h
  | .scr _, h => by simp [sml] at h
theorem smls_mono {n m : Nat} (hm : n ≤ m) : ∀ {ds : List D}, smls n ds = true → smls m ds = true
  | [], _ => rfl
  | x :: r, h => by
    simp only [smls, Bool.and_eq_true] at h ⊢
    exact ⟨sml_mono hm h.1, smls_mono hm h.2⟩
end
mutual
theorem sml_okq {n : Nat} : ∀ {d : D}, sml n d = true → d.okq = true
  | .tup ds, h => by simp only [sml, Bool.and_eq_true] at h; simp only [D.okq]; exact smls_okq h.2
  | .lst ds, h => by simp only [sml, Bool.and_eq_true] at h; simp only [D.okq]; exact smls_okq h.2
  | .non, h => rfl
  | .bl _, h => rfl
  | .int _, h => rfl
  | .str x, h => by simpa [sml] using h
  | .dk _, h => by simp [sml] at h
  | .dt _, h => by simp [sml] at h
  | .scr _, h => by simp [sml] at h
theorem smls_okq {n : Nat} : ∀ {ds : List D}, smls n ds = true → D.okqs ds = true
  | [], _ => rfl
  | x :: r, h => by
    simp only [smls, Bool.and_eq_true] at h
    simp only [D.okqs, sml_okq h.1, smls_okq h.2, Bool.and_self]
end
/-! within, pairs -/
def isInt : D → Bool
  | .int _ => true | _ => false
def isIn (lo hi : Int) : D → Bool
  | .int x => decide (lo ≤ x) && decide (x ≤ hi) | _ => false
theorem integer_ok {d : D} (h : d.noScr = true) : F_is_integer [d] = some (.sh (.bl (isInt d))) := by
  cases d <;> first | (simp [F_is_integer, fnP, b_is_integer, startE, D.noScr, D.isT, D.ty, subT, isInt]; done) | cases h
theorem law_int_ok {d : D} (h : d.noScr = true) : F_u_law_is_int [d] = some (.sh (.bl (isInt d))) := by
  cases d <;> first | (simp [F_u_law_is_int, fnP, b_u_law_is_int, startE, D.noScr, D.isT, D.ty, subT, isInt]; done) | cases h
theorem within_ok {d : D} (lo hi : Int) (h : d.noScr = true) : F_is_within [d, .int lo, .int hi] = some (.sh (.bl (isIn lo hi d))) := by
  have hi' := integer_ok h
  cases d <;> first | (simp [F_is_within, fnP, b_is_within, startE, hi', isInt, isIn]; done) | skip
  rename_i x
  by_cases q : lo ≤ x <;> simp [F_is_within, fnP, b_is_within, startE, hi', isInt, isIn, cLe, q]
theorem law_in_ok {d : D} (lo hi : Int) (h : d.noScr = true) : F_u_law_is_in [d, .int lo, .int hi] = some (.sh (.bl (isIn lo hi d))) := by
  have hi' := law_int_ok h
  cases d <;> first | (simp [F_u_law_is_in, fnP, b_u_law_is_in, startE, hi', isInt, isIn]; done) | skip
  rename_i x
  by_cases q : lo ≤ x <;> simp [F_u_law_is_in, fnP, b_u_law_is_in, startE, hi', isInt, isIn, cLe, q]
/-- a pair of places -/
def inR (n : Nat) : D → Bool
  | .tup [a, b] => isIn 0 (n - 1) a && isIn 0 (n - 1) b | _ => false
def isPair (n : Nat) : D → Bool
  | .tup [.int x, .int y] => decide (0 ≤ x) && decide (x + 1 ≤ y) && decide (y ≤ (n : Int) - 1) | _ => false
theorem isT_no {d : D} (h : ∀ ds, d ≠ .tup ds) : d.isT ["tuple"] = false := by
  cases d <;> first | rfl | (exact absurd rfl (h _)) | decide
theorem isPair_len {n : Nat} : ∀ {ds : List D}, ds.length ≠ 2 → isPair n (.tup ds) = false
  | [], _ => rfl
  | [a], _ => by cases a <;> rfl
  | [a, b], h => absurd rfl h
  | a :: b :: c :: r, _ => by cases a <;> cases b <;> rfl
theorem pair_ok {n : Nat} {k : Nat} {d : D} (h : sml k d = true) : F_is_pair [.int (n : Int), d] = some (.sh (.bl (isPair n d))) := by
  have hn := sml_nos h
  by_cases ht : ∃ ds, d = .tup ds
  · obtain ⟨ds, rfl⟩ := ht
    have it : (D.tup ds).isT ["tuple"] = true := rfl
    by_cases h2 : ds.length = 2
    · obtain ⟨a, b, rfl⟩ : ∃ a b, ds = [a, b] := by
        match ds, h2 with
        | [a, b], _ => exact ⟨a, b, rfl⟩
      simp only [sml, smls, Bool.and_eq_true] at h
      have ha := sml_nos h.2.1
      have hb := sml_nos h.2.2.1
      have w1 := within_ok 0 ((n : Int) - 1) ha
      by_cases hai : ∃ x, a = .int x
      · obtain ⟨x, rfl⟩ := hai
        have w2 := within_ok (x + 1) ((n : Int) - 1) hb
        cases q : isIn 0 ((n : Int) - 1) (.int x) with
        | false =>
          have hp : isPair n (.tup [.int x, b]) = false := by
            cases b <;> first | rfl | skip
            rename_i y
            simp only [isIn, Bool.and_eq_false_iff, decide_eq_false_iff_not] at q
            simp only [isPair, Bool.and_eq_false_iff, decide_eq_false_iff_not]
            omega
          rw [q] at w1
          simp [F_is_pair, fnP, b_is_pair, startE, hn, it, atI, ixN, w1, hp]
        | true =>
          have hp : isPair n (.tup [.int x, b]) = isIn (x + 1) ((n : Int) - 1) b := by
            cases b <;> first | rfl | skip
            rename_i y
            simp only [isIn, Bool.and_eq_true, decide_eq_true_eq] at q
            simp only [isPair, isIn, q.1, decide_true, Bool.true_and]
          rw [q] at w1
          simp [F_is_pair, fnP, b_is_pair, startE, hn, it, atI, ixN, w1, hp, w2]
      · have hp : isPair n (.tup [a, b]) = false := by cases a <;> first | rfl | (exact absurd ⟨_, rfl⟩ hai)
        have q : isIn 0 ((n : Int) - 1) a = false := by cases a <;> first | rfl | (exact absurd ⟨_, rfl⟩ hai)
        rw [q] at w1
        simp [F_is_pair, fnP, b_is_pair, startE, hn, it, atI, ixN, w1, hp]
    · have hp : isPair n (.tup ds) = false := isPair_len h2
      have h2' : ¬ ((ds.length : Int) = 2) := by omega
      simp [F_is_pair, fnP, b_is_pair, startE, hn, it, h2', hp]
  · have it := isT_no (d := d) fun ds e => ht ⟨ds, e⟩
    have hp : isPair n d = false := by cases d <;> first | rfl | (exact absurd ⟨_, rfl⟩ ht)
    simp [F_is_pair, fnP, b_is_pair, startE, hn, it, hp]
def toP : D → P
  | .tup [.int x, .int y] => (x.toNat, y.toNat) | _ => (0, 0)
theorem pair_prD {n : Nat} {d : D} (h : inR n d = true) : d = prD (toP d) ∧ (toP d).1 < n ∧ (toP d).2 < n := by
  match d, h with
  | .tup [.int x, .int y], h =>
    simp only [inR, isIn, Bool.and_eq_true, decide_eq_true_eq] at h
    refine ⟨?_, ?_, ?_⟩
    · simp only [prD, toP]
      congr 3
      · congr 1; omega
      · congr 2; omega
    · simp only [toP]; omega
    · simp only [toP]; omega
  | .tup [.int x, .non], h | .tup [.int x, .bl _], h | .tup [.int x, .str _], h | .tup [.int x, .tup _], h | .tup [.int x, .lst _], h | .tup [.int x, .dk _], h | .tup [.int x, .dt _], h | .tup [.int x, .scr _], h => simp [inR, isIn] at h
  | .tup [.non, _], h | .tup [.bl _, _], h | .tup [.str _, _], h | .tup [.tup _, _], h | .tup [.lst _, _], h | .tup [.dk _, _], h | .tup [.dt _, _], h | .tup [.scr _, _], h => simp [inR, isIn] at h
theorem isPair_inR {n : Nat} {d : D} : isPair n d = (inR n d && decide ((toP d).1 < (toP d).2)) := by
  by_cases h : inR n d = true
  · obtain ⟨e, h1, h2⟩ := pair_prD h
    rw [h]
    generalize toP d = p at *
    subst e
    simp only [prD, isPair, Bool.true_and]
    rw [Bool.eq_iff_iff]
    simp only [Bool.and_eq_true, decide_eq_true_eq]
    omega
  · have h' : inR n d = false := by simpa using h
    rw [h', Bool.false_and]
    match d with
    | .tup [.int x, .int y] =>
      simp only [inR, isIn, Bool.and_eq_false_iff, decide_eq_false_iff_not] at h'
      simp only [isPair, Bool.and_eq_false_iff, decide_eq_false_iff_not]
      omega
    | .tup [.int x, .non] | .tup [.int x, .bl _] | .tup [.int x, .str _] | .tup [.int x, .tup _] | .tup [.int x, .lst _] | .tup [.int x, .dk _] | .tup [.int x, .dt _] | .tup [.int x, .scr _] => rfl
    | .tup [.non, _] | .tup [.bl _, _] | .tup [.str _, _] | .tup [.tup _, _] | .tup [.lst _, _] | .tup [.dk _, _] | .tup [.dt _, _] | .tup [.scr _, _] => rfl
    | .tup [] => rfl
    | .tup [_] => exact isPair_len (by simp)
    | .tup (_ :: _ :: _ :: _) => exact isPair_len (by simp)
    | .non | .bl _ | .int _ | .str _ | .lst _ | .dk _ | .dt _ | .scr _ => rfl
end K20
set_option Elab.async false
set_option linter.all false
set_option maxRecDepth 100000
set_option maxHeartbeats 4000000
namespace K20
open PySem Fx Fx.L Fx.Nt Fx.Nu
open L2 hiding prD
open Net (P thr cxl Rg merge lvs lvStep LvOk side ord nlev prs dis tch)
theorem lk {n : Nat} (h : n ≤ 1000000) : n ≤ lim := lim_of h
def plc (ps : List P) : List Int := ps.flatMap fun p => [(p.1 : Int), (p.2 : Int)]
theorem plc_len (ps : List P) : (plc ps).length = 2 * ps.length := by
  induction ps with
  | nil => rfl
  | cons p r ih => simp only [plc, List.flatMap_cons, List.length_append, List.length_cons, List.length_nil] at ih ⊢; omega
theorem plc_app (a b : List P) : plc (a ++ b) = plc a ++ plc b := by simp [plc]
theorem eqv_pr (p q : P) : D.eqv (prD p) (prD q) = decide (p = q) := by
  obtain ⟨a, b⟩ := p
  obtain ⟨c, d⟩ := q
  simp only [prD, D.eqv, D.eqvs, Bool.and_true]
  rw [Bool.eq_iff_iff]
  simp
  omega
theorem eqvs_pr : ∀ a b : List P, D.eqvs (a.map prD) (b.map prD) = decide (a = b)
  | [], [] => rfl
  | [], x :: m => by simp [D.eqvs]
  | x :: l, [] => by simp [D.eqvs]
  | x :: l, y :: m => by
    have e := eqvs_pr l m
    have e2 := eqv_pr x y
    simp only [List.map_cons, D.eqvs, e, e2]
    rw [Bool.eq_iff_iff]; simp
theorem okqs_pr : ∀ a : List P, D.okqs (a.map prD) = true
  | [] => rfl
  | x :: r => by simp only [List.map_cons, D.okqs, okqs_pr r, prD, D.okq, Bool.and_self]
theorem deps_pr : ∀ a : List P, D.deps (a.map prD) ≤ 1
  | [] => by simp [D.deps]
  | x :: r => by
    have := deps_pr r
    simp only [List.map_cons, D.deps, prD, D.dep]; omega
theorem cmp_pr (a b : List P) : D.cmpable (.lst (a.map prD)) (.lst (b.map prD)) = true := by
  have h1 := okqs_pr a; have h2 := okqs_pr b
  have h3 := deps_pr a; have h4 := deps_pr b
  unfold D.cmpable
  rw [show (D.lst (a.map prD)).okq = true from h1, show (D.lst (b.map prD)).okq = true from h2, decide_eq_true (show (D.lst (a.map prD)).dep ≤ 63 by simp only [D.dep]; omega), decide_eq_true (show (D.lst (b.map prD)).dep ≤ 63 by simp only [D.dep]; omega)]
  rfl
theorem fEq_pr (a b : List P) : fEq [.lst (a.map prD), .lst (b.map prD)] = some (.sh (.bl (decide (a = b)))) := by
  rw [fEq_v (cmp_pr a b)]; simp only [D.eqv, eqvs_pr]
theorem fNe_pr (a b : List P) : fNe [.lst (a.map prD), .lst (b.map prD)] = some (.sh (.bl (!decide (a = b)))) := by
  rw [fNe_v (cmp_pr a b)]; simp only [D.eqv, eqvs_pr]
theorem fAll_m (f : D → Bool) (ds : List D) : fAll [.lst (ds.map fun d => D.bl (f d))] = some (.sh (.bl (ds.all f))) := by
  have e : (ds.map fun d => D.bl (f d)) = (ds.map f).map D.bl := by simp
  show (blsOf _).bind _ = _
  rw [e, blsOf_map]
  simp only [Option.bind_some, List.all_map]
  rfl
def lvB (ps : List P) : Bool := decide ((srtS (plc ps)).length = (plc ps).length) && decide (so ps = ps)
def isLevel (n : Nat) : D → Bool
  | .tup ds => ds.all (isPair n) && lvB (ds.map toP) | _ => false
theorem all_prD {n : Nat} : ∀ {ds : List D}, (∀ d ∈ ds, inR n d = true) → ds = (ds.map toP).map prD
  | [], _ => rfl
  | d :: r, h => by
    have h1 := (pair_prD (h d (List.mem_cons_self ..))).1
    have h2 := all_prD (ds := r) fun x m => h x (List.mem_cons_of_mem _ m)
    rw [List.map_cons, List.map_cons, ← h1, ← h2]
theorem dcK (l : List Int) : ∀ (acc : List Int) (s : S_is_level), s.v_place = none → acc.length + l.length < lim →
    dcN [4] (.one 4) kYes (eSlot 4) (eC (.bl true)) (l.map D.int) (kD acc) s.e = some (kD (l.foldl inK acc), s.e) := by
  induction l with
  | nil => intro acc s h _; rfl
  | cons x r ih =>
    intro acc s h hl
    have hs : ({ s with v_place := none } : S_is_level) = s := by rw [← h]
    have g : (kD acc).length < lim := by rw [kD_len]; simp at hl; omega
    have := ih (inK acc x) s h (by have := inK_len (ks := acc) (k := x); simp at hl; omega)
    simp [dcN_cons, keyD, putD_kD, g, hs, this]
theorem fold_len (ns : List Int) : (ns.foldl inK []).length = (srtS ns).length := by
  have h := (isrt_perm ltI (ns.foldl inK [])).length_eq
  rw [isrt_srtS (ns := ns) (foldK_nodup (b := ns) (a := []) List.nodup_nil) fun k => by rw [foldK_mem]; simp] at h
  exact h.symm
theorem fLen_dk (kvs : List (Key × D)) : fLen [.dk kvs] = some (.sh (.int kvs.length)) := rfl
theorem fz_odk (kvs : List (Key × D)) : (C.odk kvs).fz = .dk kvs := rfl
theorem level_ok {n k : Nat} {d : D} (h : sml k d = true) (hk : k ≤ 30) : F_is_level [.int (n : Int), d] = some (.sh (.bl (isLevel n d))) := by
  have hn := sml_nos h
  by_cases ht : ∃ ds, d = .tup ds
  · obtain ⟨ds, rfl⟩ := ht
    have it : (D.tup ds).isT ["tuple"] = true := rfl
    have hl : ds.length ≤ 30 := by simp only [sml, Bool.and_eq_true, decide_eq_true_eq] at h; omega
    have hm : ∀ x ∈ ds, sml k x = true := by simp only [sml, Bool.and_eq_true] at h; exact smls_mem h.2
    have hc : compN [2] (.one 2) kYes c1_is_level ds ({ v_many := some (.sh (.int (n : Int))), v_thing := some (.sh (.tup ds)) } : S_is_level).e = some (ds.map (fun d => D.bl (isPair n d)), ({ v_many := some (.sh (.int (n : Int))), v_thing := some (.sh (.tup ds)) } : S_is_level).e) := by
      have := compN_map (f := fun d : D => d) (g := fun d => D.bl (isPair n d)) (vs := [2]) (t := .one 2) (c := kYes) (m := c1_is_level) (l := ds) (env := ({ v_many := some (.sh (.int (n : Int))), v_thing := some (.sh (.tup ds)) } : S_is_level).e) fun x hx => by
        have := pair_ok (n := n) (hm x hx)
        simp [cStep, c1_is_level, this]
      simpa using this
    have hall : fAll [.lst (ds.map (fun d => D.bl (isPair n d)))] = some (.sh (.bl (ds.all (isPair n)))) := fAll_m _ _
    have hll : ds.length ≤ lim := lk (by omega)
    rw [F_is_level_eq, b_is_level]
    cases q : ds.all (isPair n) with
    | false =>
      have hf : isLevel n (.tup ds) = false := by simp only [isLevel, q, Bool.false_and]
      rw [q] at hall
      simp [hn, it, hc, hall, hll, hf]
    | true =>
      have hf : isLevel n (.tup ds) = lvB (ds.map toP) := by simp only [isLevel, q, Bool.true_and]
      have hin : ∀ d ∈ ds, inR n d = true := fun d m => by
        have := List.all_eq_true.mp q d m
        rw [isPair_inR, Bool.and_eq_true] at this; exact this.1
      have e := all_prD hin
      rw [hf]
      rw [q] at hall
      rw [seq_nx (e := ({ v_many := some (.sh (.int (n : Int))), v_thing := some (.sh (.tup ds)) } : S_is_level).e) (by simp [hn, it, hc, hall, hll])]
      generalize ds.map toP = ps at *
      subst e
      have hpl : ps.length ≤ 30 := by simpa using hl
      have c2 : comp2N [2, 4] (.one 2) kYes (iV (eSlot 2)) [4] (.one 4) kYes (eSlot 4) (ps.map prD) ({ v_many := some (.sh (.int (n : Int))), v_thing := some (.sh (.tup (ps.map prD))) } : S_is_level).e = some ((plc ps).map D.int, ({ v_many := some (.sh (.int (n : Int))), v_thing := some (.sh (.tup (ps.map prD))) } : S_is_level).e) := by
        have hp : (plc ps).map D.int = (ps.map fun p : P => [D.int (p.1 : Int), D.int (p.2 : Int)]).flatten := by
          simp [plc, List.map_flatMap, List.flatMap_def, Function.comp_def]
        rw [hp]
        refine comp2N_map (f := prD) (g := fun p : P => [D.int (p.1 : Int), D.int (p.2 : Int)]) fun p hp => ?_
        refine ⟨({ v_many := some (.sh (.int (n : Int))), v_thing := some (.sh (.tup (ps.map prD))), v_pair := some (.sh (prD p)) } : S_is_level).e, _, [D.int (p.1 : Int), D.int (p.2 : Int)], ({ v_many := some (.sh (.int (n : Int))), v_thing := some (.sh (.tup (ps.map prD))), v_pair := some (.sh (prD p)) } : S_is_level).e, ({ v_many := some (.sh (.int (n : Int))), v_thing := some (.sh (.tup (ps.map prD))), v_pair := some (.sh (prD p)) } : S_is_level).e, ?_, rfl, ?_, ?_, ?_, ?_, ?_⟩
        · simp
        · simp [prD]
        · simp
        · simp [compN_cons, compN_nil, cStep]
        · simp
        · simp
      have hpc := plc_len ps
      have hpl2 : (plc ps).length ≤ lim := lk (by omega)
      have d1 := dcK (plc ps) [] { v_many := some (.sh (.int (n : Int))), v_thing := some (.sh (.tup (ps.map prD))), v_places := some (.sh (.lst ((plc ps).map D.int))) } rfl (by have := lk (n := 100) (by decide); simp; omega)
      rw [show kD [] = [] from rfl] at d1
      have fl := fold_len (plc ps)
      have hso := so_ok (x := .tup (ps.map prD)) (l := ps) rfl
      have heq := fEq_pr ps (so ps)
      have hse : decide (ps = so ps) = decide (so ps = ps) := by rw [Bool.eq_iff_iff]; simp [eq_comm]
      rw [hse] at heq
      rw [seq_nx (e := ({ v_many := some (.sh (.int (n : Int))), v_thing := some (.sh (.tup (ps.map prD))), v_places := some (.ol ((plc ps).map D.int)) } : S_is_level).e) (by simp [c2, hpl2])]
      have hB : lvB ps = (decide (((srtS (plc ps)).length : Int) = (plc ps).length) && decide (so ps = ps)) := by
        unfold lvB; congr 1; rw [Bool.eq_iff_iff, decide_eq_true_eq, decide_eq_true_eq]; omega
      rw [hB]
      by_cases q1 : ((srtS (plc ps)).length : Int) = (plc ps).length
      · simp [d1, fz_odk, fLen_dk, kD_len, fl, hso, heq, q1]
      · simp [d1, fz_odk, fLen_dk, kD_len, fl, q1]
  · have it := isT_no (d := d) fun ds e => ht ⟨ds, e⟩
    have hp : isLevel n d = false := by cases d <;> first | rfl | (exact absurd ⟨_, rfl⟩ ht)
    simp [F_is_level, fnP, b_is_level, startE, hn, it, hp]
def isNet (n : Nat) : D → Bool
  | .tup ds => ds.all (isLevel n) | _ => false
theorem net_ok {n k : Nat} {d : D} (h : sml k d = true) (hk : k ≤ 30) : F_is_network [.int (n : Int), d] = some (.sh (.bl (isNet n d))) := by
  have hn := sml_nos h
  by_cases ht : ∃ ds, d = .tup ds
  · obtain ⟨ds, rfl⟩ := ht
    have it : (D.tup ds).isT ["tuple"] = true := rfl
    have hl : ds.length ≤ 30 := by simp only [sml, Bool.and_eq_true, decide_eq_true_eq] at h; omega
    have hm : ∀ x ∈ ds, sml k x = true := by simp only [sml, Bool.and_eq_true] at h; exact smls_mem h.2
    have hc : compN [2] (.one 2) kYes c1_is_network ds ({ v_many := some (.sh (.int (n : Int))), v_thing := some (.sh (.tup ds)) } : S_is_network).e = some (ds.map (fun d => D.bl (isLevel n d)), ({ v_many := some (.sh (.int (n : Int))), v_thing := some (.sh (.tup ds)) } : S_is_network).e) := by
      have := compN_map (f := fun d : D => d) (g := fun d => D.bl (isLevel n d)) (vs := [2]) (t := .one 2) (c := kYes) (m := c1_is_network) (l := ds) (env := ({ v_many := some (.sh (.int (n : Int))), v_thing := some (.sh (.tup ds)) } : S_is_network).e) fun x hx => by
        have := level_ok (n := n) (hm x hx) hk
        simp [cStep, c1_is_network, this]
      simpa using this
    have hall : fAll [.lst (ds.map (fun d => D.bl (isLevel n d)))] = some (.sh (.bl (ds.all (isLevel n)))) := fAll_m _ _
    have hll : ds.length ≤ lim := lk (by omega)
    have h300 : ¬ (300 < (ds.length : Int)) := by omega
    rw [F_is_network_eq, b_is_network]
    simp [hn, it, hc, hall, hll, h300, isNet]
  · have it := isT_no (d := d) fun ds e => ht ⟨ds, e⟩
    have hp : isNet n d = false := by cases d <;> first | rfl | (exact absurd ⟨_, rfl⟩ ht)
    simp [F_is_network, fnP, b_is_network, startE, hn, it, hp]
end K20
set_option Elab.async false
set_option linter.all false
set_option maxRecDepth 100000
set_option maxHeartbeats 4000000
namespace Fx
open PySem L2
section
variable {S α : Type} {E : S → Env} {t : Tgt} {b : SM} {f : α → D}
/-- a loop that may hand back, its state told by what is gone through -/
theorem forMR (J : List α → S → Prop) (Pr : α → Bool) (c : C) (L : List α)
    (st : ∀ p a r s, L = p ++ a :: r → J p s → (Pr a = true → ∃ e, (asgT t (f a) (E s)).bind b = some (.rt c e)) ∧ (Pr a = false → ∃ s', (asgT t (f a) (E s)).bind b = some (.nx (E s')) ∧ J (p ++ [a]) s')) :
    ∀ (l p : List α) (s : S), L = p ++ l → J p s → (l.any Pr = true → ∃ e, forN t b (l.map f) (E s) = some (.rt c e)) ∧ (l.any Pr = false → ∃ s', forN t b (l.map f) (E s) = some (.nx (E s')) ∧ J L s')
  | [], p, s, e, h => by
    simp at e; subst e
    exact ⟨fun h => (by simp at h), fun _ => ⟨s, rfl, h⟩⟩
  | x :: l, p, s, e, h => by
    obtain ⟨k1, k2⟩ := st p x l s e h
    rw [List.map_cons, forN_cons]
    cases q : Pr x with
    | true =>
      obtain ⟨e1, he⟩ := k1 q
      refine ⟨fun _ => ?_, fun h => by simp [q] at h⟩
      cases q2 : asgT t (f x) (E s) with
      | none => rw [q2] at he; cases he
      | some e0 =>
        rw [q2] at he
        simp only [Option.bind_some] at he ⊢
        rw [he]
        exact ⟨e1, rfl⟩
    | false =>
      obtain ⟨s', he, hj⟩ := k2 q
      have ih := forMR J Pr c L st l (p ++ [x]) s' (by rw [e]; simp) hj
      cases q2 : asgT t (f x) (E s) with
      | none => rw [q2] at he; cases he
      | some e0 =>
        rw [q2] at he
        simp only [Option.bind_some] at he ⊢
        rw [he]
        simpa [q] using ih
end
end Fx
namespace K20
open PySem Fx Fx.L Fx.Nt Fx.Nu
open L2 hiding prD
open Net (P thr cxl Rg merge lvs lvStep LvOk side ord nlev prs dis tch)
structure JI (n : Nat) (ds p : List D) (s : S_u_law_is_network) : Prop where
  m : s.v_many = some (.sh (.int (n : Int)))
  l : s.v_level = some (.sh (.tup ds))
  pl : s.v_places = some (.ol ((plc (p.map toP)).map D.int))
  i : s.v_i = none
  j : s.v_j = none
theorem inner_step {n k : Nat} {ds p : List D} {d : D} {s : S_u_law_is_network} (h : sml k d = true) (hp : p.length ≤ 30) (hj : JI n ds p s) :
    ((!inR n d) = true → ∃ e, (asgT (.one 4) d s.e).bind l1_u_law_is_network = some (.rt (.sh (.bl false)) e)) ∧
    ((!inR n d) = false → ∃ s', (asgT (.one 4) d s.e).bind l1_u_law_is_network = some (.nx (S_u_law_is_network.e s')) ∧ JI n ds (p ++ [d]) s') := by
  have hn := sml_nos h
  obtain ⟨h1, h2, h3, h4, h5⟩ := hj
  by_cases ht : ∃ xs, d = .tup xs
  · obtain ⟨xs, rfl⟩ := ht
    have it : (D.tup xs).isT ["tuple"] = true := rfl
    by_cases hl : xs.length = 2
    · obtain ⟨a, b, rfl⟩ : ∃ a b, xs = [a, b] := by
        match xs, hl with
        | [a, b], _ => exact ⟨a, b, rfl⟩
      simp only [sml, smls, Bool.and_eq_true] at h
      have w1 := law_in_ok 0 ((n : Int) - 1) (sml_nos h.2.1)
      have w2 := law_in_ok 0 ((n : Int) - 1) (sml_nos h.2.2.1)
      have hr : inR n (.tup [a, b]) = (isIn 0 ((n : Int) - 1) a && isIn 0 ((n : Int) - 1) b) := rfl
      cases qa : isIn 0 ((n : Int) - 1) a with
      | false =>
        rw [qa] at w1 hr
        refine ⟨fun _ => ⟨_, by simp [l1_u_law_is_network, h1, hn, it, atI, ixN, w1]; rfl⟩, fun z => by simp [hr] at z⟩
      | true =>
        rw [qa] at w1 hr
        cases qb : isIn 0 ((n : Int) - 1) b with
        | false =>
          rw [qb] at w2 hr
          refine ⟨fun _ => ⟨_, by simp [l1_u_law_is_network, h1, hn, it, atI, ixN, w1, w2]; rfl⟩, fun z => by simp [hr] at z⟩
        | true =>
          rw [qb] at w2 hr
          have hr' : inR n (.tup [a, b]) = true := hr
          refine ⟨fun z => by simp [hr'] at z, fun _ => ?_⟩
          obtain ⟨e, e1, e2⟩ := pair_prD hr'
          have hpl : plc ((p ++ [D.tup [a, b]]).map toP) = plc (p.map toP) ++ [((toP (.tup [a, b])).1 : Int), ((toP (.tup [a, b])).2 : Int)] := by
            rw [List.map_append, plc_app]; rfl
          generalize toP (.tup [a, b]) = q at *
          have ea : a = .int (q.1 : Int) ∧ b = .int (q.2 : Int) := by
            simp only [prD, D.tup.injEq, List.cons.injEq, and_true] at e; exact e
          obtain ⟨rfl, rfl⟩ := ea
          have l2 : (2 : Nat) ≤ lim := lk (by decide)
          have hlen := plc_len (p.map toP)
          have g : (plc (p.map toP)).length + 2 ≤ lim := lk (by rw [hlen, List.length_map]; omega)
          refine ⟨{ s with v_pair := some (.sh (.tup [.int (q.1 : Int), .int (q.2 : Int)])), v_places := some (.ol ((plc ((p ++ [D.tup [.int (q.1 : Int), .int (q.2 : Int)]]).map toP)).map D.int)) }, ?_, ⟨h1, h2, rfl, h4, h5⟩⟩
          rw [hpl]
          generalize plc (p.map toP) = F at *
          simp [l1_u_law_is_network, h1, h3, hn, it, atI, ixN, w1, w2, l2, g]
    · have hr : inR n (.tup xs) = false := by
        match xs, hl with
        | [], _ => rfl
        | [a], _ => rfl
        | [a, b], h => exact absurd rfl h
        | a :: b :: c :: r, _ => rfl
      have h2' : ¬ ((xs.length : Int) = 2) := by omega
      refine ⟨fun _ => ⟨_, by simp [l1_u_law_is_network, hn, it, h2']; rfl⟩, fun z => by simp [hr] at z⟩
  · have it := isT_no (d := d) fun ds e => ht ⟨ds, e⟩
    have hr : inR n d = false := by cases d <;> first | rfl | (exact absurd ⟨_, rfl⟩ ht)
    refine ⟨fun _ => ⟨_, by simp [l1_u_law_is_network, hn, it]; rfl⟩, fun z => by simp [hr] at z⟩
theorem isLevel_eq {n : Nat} {ds : List D} : isLevel n (.tup ds) = (ds.all (inR n) && (lvB (ds.map toP) && (ds.map toP).all fun p => decide (p.1 < p.2))) := by
  have h : ds.all (isPair n) = (ds.all (inR n) && (ds.map toP).all fun p => decide (p.1 < p.2)) := by
    induction ds with
    | nil => rfl
    | cons d r ih =>
      simp only [List.all_cons, List.map_cons, ih, isPair_inR]
      cases inR n d <;> cases decide ((toP d).1 < (toP d).2) <;> simp
  simp only [isLevel, h]
  cases ds.all (inR n) <;> cases lvB (ds.map toP) <;> simp
structure JO (n : Nat) (s : S_u_law_is_network) : Prop where
  m : s.v_many = some (.sh (.int (n : Int)))
  i : s.v_i = none
  j : s.v_j = none
theorem outer_step {n k : Nat} {d : D} {s : S_u_law_is_network} (h : sml k d = true) (hk : k ≤ 30) (hj : JO n s) :
    ((!isLevel n d) = true → ∃ e, (asgT (.one 2) d s.e).bind l2_u_law_is_network = some (.rt (.sh (.bl false)) e)) ∧
    ((!isLevel n d) = false → ∃ s', (asgT (.one 2) d s.e).bind l2_u_law_is_network = some (.nx (S_u_law_is_network.e s')) ∧ JO n s') := by
  have hn := sml_nos h
  obtain ⟨h1, h4, h5⟩ := hj
  by_cases ht : ∃ xs, d = .tup xs
  · obtain ⟨ds, rfl⟩ := ht
    have it : (D.tup ds).isT ["tuple"] = true := rfl
    have hl : ds.length ≤ 30 := by simp only [sml, Bool.and_eq_true, decide_eq_true_eq] at h; omega
    have hm : ∀ x ∈ ds, sml k x = true := by simp only [sml, Bool.and_eq_true] at h; exact smls_mem h.2
    have l0 : (0 : Nat) ≤ lim := lk (by decide)
    obtain ⟨f1, f2⟩ := forMR (E := S_u_law_is_network.e) (t := .one 4) (b := l1_u_law_is_network) (f := fun d : D => d) (JI n ds) (fun d => !inR n d) (.sh (.bl false)) ds (fun p a r s e hj => inner_step (k := k) (hm a (by rw [e]; simp)) (by have := congrArg List.length e; simp at this; omega) hj) ds []
      { s with v_level := some (.sh (.tup ds)), v_places := some (.ol []) } rfl ⟨h1, rfl, rfl, h4, h5⟩
    rw [List.map_id'] at f1 f2
    rw [isLevel_eq]
    have hany : ds.any (fun d => !inR n d) = !ds.all (inR n) := by simp [List.any_eq_not_all_not]
    rw [hany] at f1 f2
    cases qr : ds.all (inR n) with
    | false =>
      rw [qr] at f1
      obtain ⟨e, f1⟩ := f1 rfl
      refine ⟨fun _ => ⟨e, ?_⟩, fun z => by simp at z⟩
      rw [asgT_one, if_pos (by simp), Option.bind_some, l2_u_law_is_network, S_u_law_is_network.p2]
      rw [seq_nx (e := ({ s with v_level := some (.sh (.tup ds)) } : S_u_law_is_network).e) (by simp [hn, it])]
      rw [seq_nx (e := ({ s with v_level := some (.sh (.tup ds)), v_places := some (.ol []) } : S_u_law_is_network).e) (by simp [l0])]
      simp [f1]
    | true =>
      rw [qr] at f2
      obtain ⟨s1, f2, g1, g2, g3, g4, g5⟩ := f2 rfl
      have hin : ∀ d ∈ ds, inR n d = true := fun d m => List.all_eq_true.mp qr d m
      have e := all_prD hin
      have hpre : (asgT (.one 2) (.tup ds) s.e).bind l2_u_law_is_network = (sIf (kOr (kVal (eO fNe [(.val (eO fLen [(.val (eO fSrtSet [(.slot 3)]))])), (.val (eO fLen [(.slot 3)]))])) (kOr (kVal (eO fNe [(.val (eComp [5, 6] (.tup [5, 6]) (iV (eSlot 2)) ct1_u_law_is_network c1_u_law_is_network)), (.val (eLst []))])) (kVal (eO fNe [(.val (eO fList [(.slot 2)])), (.val (eO fSorted [(.slot 2)]))])))) (sRet (eC (.bl false))) sNx) s1.e := by
        rw [asgT_one, if_pos (by simp), Option.bind_some, l2_u_law_is_network, S_u_law_is_network.p2]
        rw [seq_nx (e := ({ s with v_level := some (.sh (.tup ds)) } : S_u_law_is_network).e) (by simp [hn, it])]
        rw [seq_nx (e := ({ s with v_level := some (.sh (.tup ds)), v_places := some (.ol []) } : S_u_law_is_network).e) (by simp [l0])]
        rw [seq_nx (e := s1.e) (by simp [f2])]
      rw [hpre]
      generalize ds.map toP = ps at *
      subst e
      have hpl : ps.length ≤ 30 := by simpa using hl
      have hpc := plc_len ps
      have sc := fSrtSet_i (ns := plc ps) (by omega)
      have hso := so_ok (x := .tup (ps.map prD)) (l := ps) rfl
      have hne := fNe_pr ps (so ps)
      have hse : decide (ps = so ps) = decide (so ps = ps) := by rw [Bool.eq_iff_iff]; simp [eq_comm]
      rw [hse] at hne
      obtain ⟨v0, v1, v2, v3, v4, v5, v6⟩ := s1
      cases g1; cases g2; cases g3; cases g4; cases g5
      have hc := compN_fil (f := prD) (g := fun _ => D.int 1) (b := fun p : P => decide (p.2 ≤ p.1)) (vs := [5, 6]) (t := .tup [5, 6]) (c := ct1_u_law_is_network) (m := c1_u_law_is_network) (l := ps) (env := ({ v_many := some (.sh (.int (n : Int))), v_thing := v1, v_level := some (.sh (.tup (ps.map prD))), v_places := some (.ol ((plc ps).map D.int)), v_pair := v4 } : S_u_law_is_network).e) fun p hp => by
        by_cases q : p.2 ≤ p.1
        · simp [cStep, ct1_u_law_is_network, c1_u_law_is_network, prD, q]
        · simp [cStep, ct1_u_law_is_network, c1_u_law_is_network, prD, q]
      have hfl : ((ps.filter fun p : P => decide (p.2 ≤ p.1)).map fun _ => D.int 1).length ≤ lim := lk (by rw [List.length_map]; have := List.length_filter_le (fun p : P => decide (p.2 ≤ p.1)) ps; omega)
      have hnil : fNe [.lst ((ps.filter fun p : P => decide (p.2 ≤ p.1)).map fun _ => D.int 1), .lst []] = some (.sh (.bl (!(ps.all fun p => decide (p.1 < p.2))))) := by
        have h1 : ((ps.filter fun p : P => decide (p.2 ≤ p.1)).map fun _ => D.int 1) = ((ps.filter fun p : P => decide (p.2 ≤ p.1)).map fun _ => (1 : Int)).map D.int := by simp
        rw [h1]
        have h2 := fNe_li ((ps.filter fun p : P => decide (p.2 ≤ p.1)).map fun _ => (1 : Int)) []
        rw [List.map_nil] at h2
        rw [h2]
        congr 3
        rw [Bool.eq_iff_iff]
        simp [List.filter_eq_nil_iff]
      generalize ((ps.filter fun p : P => decide (p.2 ≤ p.1)).map fun _ => D.int 1) = FL at *
      have hB : lvB ps = (decide (((srtS (plc ps)).length : Int) = (plc ps).length) && decide (so ps = ps)) := by
        unfold lvB; congr 1; rw [Bool.eq_iff_iff, decide_eq_true_eq, decide_eq_true_eq]; omega
      rw [hB]
      by_cases q1 : ((srtS (plc ps)).length : Int) = (plc ps).length
      · cases q2 : ps.all fun p => decide (p.1 < p.2) with
        | false =>
          rw [q2] at hnil
          exact ⟨fun _ => ⟨_, by simp [sc, q1, hc, hfl, hnil]; rfl⟩, fun z => by simp at z⟩
        | true =>
          rw [q2] at hnil
          by_cases q3 : so ps = ps
          · refine ⟨fun z => by simp [q1, q3] at z, fun _ => ⟨{ v_many := some (.sh (.int (n : Int))), v_thing := v1, v_level := some (.sh (.tup (ps.map prD))), v_places := some (.ol ((plc ps).map D.int)), v_pair := v4 }, ?_, rfl, rfl, rfl⟩⟩
            rw [q3] at hne hso
            simp at hne
            simp [sc, q1, hc, hfl, hnil, hso, hne]
          · refine ⟨fun _ => ⟨_, by simp [sc, q1, hc, hfl, hnil, hso, hne, q3]; rfl⟩, fun z => by simp [q3] at z⟩
      · exact ⟨fun _ => ⟨_, by simp [sc, q1]; rfl⟩, fun z => by simp [q1] at z⟩
  · have it := isT_no (d := d) fun ds e => ht ⟨ds, e⟩
    have hp : isLevel n d = false := by cases d <;> first | rfl | (exact absurd ⟨_, rfl⟩ ht)
    refine ⟨fun _ => ⟨_, by simp [l2_u_law_is_network, hn, it]; rfl⟩, fun z => by simp [hp] at z⟩
theorem law_net_ok {n k : Nat} {d : D} (h : sml k d = true) (hk : k ≤ 30) : F_u_law_is_network [.int (n : Int), d] = some (.sh (.bl (isNet n d))) := by
  have hn := sml_nos h
  by_cases ht : ∃ ds, d = .tup ds
  · obtain ⟨ds, rfl⟩ := ht
    have it : (D.tup ds).isT ["tuple"] = true := rfl
    have hl : ds.length ≤ 30 := by simp only [sml, Bool.and_eq_true, decide_eq_true_eq] at h; omega
    have hm : ∀ x ∈ ds, sml k x = true := by simp only [sml, Bool.and_eq_true] at h; exact smls_mem h.2
    have h300 : ¬ (300 < (ds.length : Int)) := by omega
    obtain ⟨f1, f2⟩ := forMR (E := S_u_law_is_network.e) (t := .one 2) (b := l2_u_law_is_network) (f := fun d : D => d) (fun _ s => JO n s) (fun d => !isLevel n d) (.sh (.bl false)) ds (fun p a r s e hj => outer_step (k := k) (hm a (by rw [e]; simp)) hk hj) ds []
      { v_many := some (.sh (.int (n : Int))), v_thing := some (.sh (.tup ds)) } rfl ⟨rfl, rfl, rfl⟩
    rw [List.map_id'] at f1 f2
    have hany : ds.any (fun d => !isLevel n d) = !ds.all (isLevel n) := by simp [List.any_eq_not_all_not]
    rw [hany] at f1 f2
    rw [F_u_law_is_network_eq, b_u_law_is_network]
    rw [seq_nx (e := ({ v_many := some (.sh (.int (n : Int))), v_thing := some (.sh (.tup ds)) } : S_u_law_is_network).e) (by simp [hn, it, h300])]
    cases q : ds.all (isLevel n) with
    | false =>
      rw [q] at f1
      obtain ⟨e, f1⟩ := f1 rfl
      simp [f1, isNet, q]
    | true =>
      rw [q] at f2
      obtain ⟨s1, f2, _⟩ := f2 rfl
      simp [f2, isNet, q]
  · have it := isT_no (d := d) fun ds e => ht ⟨ds, e⟩
    have hp : isNet n d = false := by cases d <;> first | rfl | (exact absurd ⟨_, rfl⟩ ht)
    simp [F_u_law_is_network, fnP, b_u_law_is_network, startE, hn, it, hp]
end K20
set_option Elab.async false
set_option linter.all false
set_option maxRecDepth 100000
set_option maxHeartbeats 4000000
namespace K20
open PySem Fx Fx.L Fx.Nt Fx.Nu
open L2 hiding prD
open Net (P thr cxl Rg merge lvs lvStep LvOk side ord nlev prs dis tch)
theorem deps_app (a b : List D) : D.deps (a ++ b) = max (D.deps a) (D.deps b) := by
  induction a with
  | nil => simp [D.deps]
  | cons x r ih => simp only [List.cons_append, D.deps, ih]; omega
theorem deps_take (ds : List D) (k : Nat) : D.deps (ds.take k) ≤ D.deps ds := by
  have := deps_app (ds.take k) (ds.drop k)
  rw [List.take_append_drop] at this; omega
theorem deps_drop (ds : List D) (k : Nat) : D.deps (ds.drop k) ≤ D.deps ds := by
  have := deps_app (ds.take k) (ds.drop k)
  rw [List.take_append_drop] at this; omega
theorem deps_mem {ds : List D} {d : D} (h : d ∈ ds) : d.dep ≤ D.deps ds := by
  obtain ⟨a, b, rfl⟩ := List.append_of_mem h
  rw [deps_app]; simp only [D.deps]; omega
theorem fNe_t0 {ds : List D} (h : (D.tup ds).okq = true) (h2 : (D.tup ds).dep ≤ 63) : fNe [.tup ds, .tup []] = some (.sh (.bl (!decide (ds = [])))) := by
  rw [fNe_v (by unfold D.cmpable; rw [h, decide_eq_true h2]; rfl)]
  cases ds <;> simp [D.eqv, D.eqvs]
theorem ok_strs : (D.str "").okq = true ∧ (D.str "a").okq = true ∧ (D.str "zz").okq = true := by decide +kernel
noncomputable def bTail : SM :=
    (sSeq (sIf (kAnd (kVal (eCall F_u_law_is_int [.one (eSlot 1)])) (kVal (eO (fII gGt) [(.slot 3), (.val (eC (.int 0)))]))) (sRet (eO fAdd [(.slot 1), (.val (eCallB F_u_law_some 0 [.one (eLst [.one (eC (.int 1)), .one (eO fNeg [(.val (eC (.int 1)))]), .one (eC (.int 2)), .one (eC (.int 9))])]))])) sNx)
    (sRet (eCallB F_u_law_some 0 [.one (eLst [.one (eC .non), .one (eC (.bl true)), .one (eC (.str "")), .one (eC (.str "a")), .one (eC (.int 7)), .one (eO fNeg [(.val (eC (.int 1)))]), .one (eTup []), .one (eTup [.one (eC (.int 0))]), .one (eIf (kVal (eIsi ["tuple"] (.slot 1))) (eO fList [(.slot 1)]) (eC (.str "zz")))])])))
theorem tail_ok {c : C} (hb : BagOk c) {n k : Nat} {way : Int} {d : D} (h : sml n d = true) :
    ∃ d' c', outB (bTail ({ v_bag := some c, v_thing := some (.sh d), v_depth := some (.sh (.int (k : Int))), v_way := some (.sh (.int way)) } : S_u_law_bent).e) = some (.sh d', c') ∧ BagOk c' ∧ sml (n + 1) d' = true ∧ d'.dep ≤ max d.dep 1 := by
  have hn := sml_nos h
  have hi := law_int_ok hn
  have l0 : (0 : Nat) ≤ lim := lk (by decide)
  have l1 : (1 : Nat) ≤ lim := lk (by decide)
  have l4 : (4 : Nat) ≤ lim := lk (by decide)
  have l9 : (9 : Nat) ≤ lim := lk (by decide)
  by_cases q : isInt d = true ∧ 0 < way
  · obtain ⟨q1, q2⟩ := q
    obtain ⟨x, rfl⟩ : ∃ x, d = .int x := by cases d <;> first | exact ⟨_, rfl⟩ | cases q1
    obtain ⟨v, hv, c1, e1, b1⟩ := some_l hb (ds := [.int 1, .int (-1), .int 2, .int 9]) (by simp) (by decide)
    obtain ⟨y, rfl⟩ : ∃ y, v = .int y := by
      simp only [List.mem_cons, List.not_mem_nil, or_false] at hv
      rcases hv with rfl | rfl | rfl | rfl <;> exact ⟨_, rfl⟩
    rw [q1] at hi
    refine ⟨.int (x + y), c1, ?_, b1, rfl, by simp [D.dep]⟩
    simp [bTail, hi, q2, e1, l4, get0]
  · have hc : (kAnd (kVal (eCall F_u_law_is_int [.one (eSlot 1)])) (kVal (eO (fII gGt) [(.slot 3), (.val (eC (.int 0)))]))) ({ v_bag := some c, v_thing := some (.sh d), v_depth := some (.sh (.int (k : Int))), v_way := some (.sh (.int way)) } : S_u_law_bent).e = some (false, ({ v_bag := some c, v_thing := some (.sh d), v_depth := some (.sh (.int (k : Int))), v_way := some (.sh (.int way)) } : S_u_law_bent).e) := by
      cases q1 : isInt d with
      | false => rw [q1] at hi; simp [hi]
      | true =>
        rw [q1] at hi
        have : ¬ 0 < way := fun z => q ⟨q1, z⟩
        simp [hi, this]
    have hlast : ∃ cz : C, (eIf (kVal (eIsi ["tuple"] (.slot 1))) (eO fList [(.slot 1)]) (eC (.str "zz"))) ({ v_bag := some c, v_thing := some (.sh d), v_depth := some (.sh (.int (k : Int))), v_way := some (.sh (.int way)) } : S_u_law_bent).e = some (cz, ({ v_bag := some c, v_thing := some (.sh d), v_depth := some (.sh (.int (k : Int))), v_way := some (.sh (.int way)) } : S_u_law_bent).e) ∧ sml n cz.fz = true ∧ cz.fz.dep ≤ d.dep := by
      by_cases ht : ∃ ds, d = .tup ds
      · obtain ⟨ds, rfl⟩ := ht
        have it : (D.tup ds).isT ["tuple"] = true := rfl
        exact ⟨.ol ds, by simp [hn, it], (by simpa [sml] using h), Nat.le_refl _⟩
      · have it := isT_no (d := d) fun ds e => ht ⟨ds, e⟩
        exact ⟨.sh (.str "zz"), by simp [hn, it], ok_strs.2.2, (by simp [D.dep])⟩
    obtain ⟨cz, hz1, hz3, hz4⟩ := hlast
    obtain ⟨z, hfz⟩ : ∃ z, cz.fz = z := ⟨_, rfl⟩
    rw [hfz] at hz3 hz4
    obtain ⟨v, hv, c1, e1, b1⟩ := some_l hb (ds := [.non, .bl true, .str "", .str "a", .int 7, .int (-1), .tup [], .tup [.int 0], z]) (by simp) (by simp)
    refine ⟨v, c1, ?_, b1, ?_, ?_⟩
    · unfold bTail
      rw [seq_nx (e := ({ v_bag := some c, v_thing := some (.sh d), v_depth := some (.sh (.int (k : Int))), v_way := some (.sh (.int way)) } : S_u_law_bent).e) (by rw [s_If, hc]; rfl)]
      simp [-ev_If, hz1, l0, l1, l9, hfz, e1, get0]
    · simp only [List.mem_cons, List.not_mem_nil, or_false] at hv
      rcases hv with rfl | rfl | rfl | rfl | rfl | rfl | rfl | rfl | rfl
      · rfl
      · rfl
      · exact ok_strs.1
      · exact ok_strs.2.1
      · rfl
      · rfl
      · simp [sml, smls]
      · simp [sml, smls]
      · exact sml_mono (Nat.le_succ n) hz3
    · simp only [List.mem_cons, List.not_mem_nil, or_false] at hv
      rcases hv with rfl | rfl | rfl | rfl | rfl | rfl | rfl | rfl | rfl <;> first | (simp [D.dep, D.deps]; done) | (simp only [D.dep, D.deps]; omega) | omega
theorem bent_ok : ∀ (k j : Nat) {c : C} {n : Nat} {d : D}, k < j → BagOk c → sml n d = true → n ≤ 25 → d.dep ≤ 50 →
    ∃ d' c', F_u_law_bent j c [d, .int (k : Int)] = some (.sh d', c') ∧ BagOk c' ∧ sml (n + 1) d' = true ∧ d'.dep ≤ max d.dep (k + 1) := by
  intro k
  induction k with
  | zero =>
    intro j c n d hj hb h hn25 hdep
    obtain ⟨j, rfl⟩ : ∃ i, j = i + 1 := ⟨j - 1, by omega⟩
    obtain ⟨way, c1, e1, w0, w1, b1⟩ := take_ok hb (m := 5) (by decide) (by decide)
    obtain ⟨d', c', t1, t2, t3, t4⟩ := tail_ok (k := 0) (way := way) b1 h
    refine ⟨d', c', ?_, t2, t3, by omega⟩
    rw [F_u_law_bent_eq, b_u_law_bent]
    rw [seq_nx (e := ({ v_bag := some c1, v_thing := some (.sh d), v_depth := some (.sh (.int 0)), v_way := some (.sh (.int way)) } : S_u_law_bent).e) (by simp [e1])]
    rw [seq_nx (e := ({ v_bag := some c1, v_thing := some (.sh d), v_depth := some (.sh (.int 0)), v_way := some (.sh (.int way)) } : S_u_law_bent).e) (by simp)]
    exact t1
  | succ k ih =>
    intro j c n d hj hb h hn25 hdep
    obtain ⟨j, rfl⟩ : ∃ i, j = i + 1 := ⟨j - 1, by omega⟩
    obtain ⟨way, c1, e1, w0, w1, b1⟩ := take_ok hb (m := 5) (by decide) (by decide)
    have hnos := sml_nos h
    have hk0 : (0 : Int) < (k : Int) + 1 := by omega
    rw [F_u_law_bent_eq, b_u_law_bent]
    rw [seq_nx (e := ({ v_bag := some c1, v_thing := some (.sh d), v_depth := some (.sh (.int ((k + 1 : Nat) : Int))), v_way := some (.sh (.int way)) } : S_u_law_bent).e) (by simp [e1])]
    by_cases hA : ∃ ds, d = .tup ds ∧ ds ≠ [] ∧ 0 < way
    · obtain ⟨ds, rfl, hne, hw⟩ := hA
      have it : (D.tup ds).isT ["tuple"] = true := rfl
      have hlen : ds.length ≤ n := by simp only [sml, Bool.and_eq_true, decide_eq_true_eq] at h; exact h.1
      have hm : ∀ x ∈ ds, sml n x = true := by simp only [sml, Bool.and_eq_true] at h; exact smls_mem h.2
      have h0 := fNe_t0 (sml_okq h) (by omega)
      have hpos : 0 < ds.length := List.length_pos_iff.mpr hne
      obtain ⟨v, c2, e2, v0, v1, b2⟩ := take_ok b1 (m := ds.length) (by omega) (by omega)
      obtain ⟨a, rfl⟩ : ∃ a : Nat, v = (a : Int) := ⟨v.toNat, by omega⟩
      have ha : a < ds.length := by omega
      have hdd : (D.tup ds).dep = D.deps ds + 1 := rfl
      have dt := deps_take ds a
      have dd1 := deps_drop ds (a + 1)
      have dd := deps_drop ds a
      have ha1 : (a : Int) + 1 = ((a + 1 : Nat) : Int) := by omega
      have mt : ∀ x ∈ ds.take a, sml (n + 1) x = true := fun x hx => sml_mono (Nat.le_succ n) (hm x (List.mem_of_mem_take hx))
      have md : ∀ i, ∀ x ∈ ds.drop i, sml (n + 1) x = true := fun i x hx => sml_mono (Nat.le_succ n) (hm x (List.mem_of_mem_drop hx))
      by_cases q1 : way = 1
      · subst q1
        have g : (ds.take a).length + (ds.drop (a + 1)).length ≤ lim := lk (by simp; omega)
        refine ⟨.tup (ds.take a ++ ds.drop (a + 1)), c2, ?_, b2, ?_, ?_⟩
        · generalize hT : ds.take a = T at *
          generalize hU : ds.drop (a + 1) = U at *
          have k1 : cutD ds none (some (a : Int)) = T := by rw [cut_take, hT]
          have k2 : cutD ds (some ((a : Int) + 1)) none = U := by rw [ha1, cut_drop, hU]
          simp [hk0, hnos, it, h0, hne, e2, k1, k2, g, get0]
        · simp only [sml, Bool.and_eq_true, decide_eq_true_eq]
          refine ⟨by simp; omega, smls_of fun x hx => ?_⟩
          rcases List.mem_append.mp hx with hx | hx
          · exact mt x hx
          · exact md _ x hx
        · simp only [D.dep, deps_app]; omega
      · by_cases q2 : way = 2
        · subst q2
          have hmid : cutD ds (some (a : Int)) (some ((a : Int) + 1)) = (ds.drop a).take 1 := by
            rw [ha1, cut_mid (by omega) (by omega)]; congr 1; omega
          have l1 : ((ds.drop a).take 1).length = 1 := by simp; omega
          have g1 : (ds.take a).length + ((ds.drop a).take 1).length ≤ lim := lk (by rw [l1]; simp; omega)
          have g2 : (ds.take a ++ (ds.drop a).take 1).length + (ds.drop a).length ≤ lim := lk (by rw [List.length_append, l1]; simp; omega)
          have dm := deps_take (ds.drop a) 1
          refine ⟨.tup (ds.take a ++ (ds.drop a).take 1 ++ ds.drop a), c2, ?_, b2, ?_, ?_⟩
          · have k1 : cutD ds none (some (a : Int)) = ds.take a := cut_take
            have k2 : cutD ds (some (a : Int)) none = ds.drop a := cut_drop
            generalize ds.take a = T at *
            generalize (ds.drop a).take 1 = U at *
            generalize ds.drop a = W at *
            simp [-List.length_append, -List.append_assoc, hk0, hnos, it, h0, hne, e2, k1, k2, hmid, g1, g2, get0]
          · simp only [sml, Bool.and_eq_true, decide_eq_true_eq]
            refine ⟨by simp only [List.length_append, l1]; simp; omega, smls_of fun x hx => ?_⟩
            rcases List.mem_append.mp hx with hx | hx
            · rcases List.mem_append.mp hx with hx | hx
              · exact mt x hx
              · exact md _ x (List.mem_of_mem_take hx)
            · exact md _ x hx
          · simp only [D.dep, deps_app]; omega
        · have hx := List.getElem_mem ha
          have hxd := deps_mem hx
          obtain ⟨d', c3, e3, b3, s3, dp3⟩ := ih j (by omega) b2 (hm _ hx) hn25 (by omega)
          have at1 : atI ds (a : Int) = some ds[a] := by rw [Fx.atI_nat]; simp [ha]
          have hkk : (k : Int) + 1 - 1 = k := by omega
          have l1 : (1 : Nat) ≤ lim := lk (by decide)
          have g1 : (ds.take a).length + 1 ≤ lim := lk (by simp; omega)
          have g2 : (ds.take a ++ [d']).length + (ds.drop (a + 1)).length ≤ lim := lk (by simp; omega)
          refine ⟨.tup (ds.take a ++ [d'] ++ ds.drop (a + 1)), c3, ?_, b3, ?_, ?_⟩
          · have k1 : cutD ds none (some (a : Int)) = ds.take a := cut_take
            have k2 : cutD ds (some ((a : Int) + 1)) none = ds.drop (a + 1) := by rw [ha1, cut_drop]
            generalize ds.take a = T at *
            generalize ds.drop (a + 1) = U at *
            generalize ds[a] = x at *
            simp [-List.length_append, -List.append_assoc, hk0, hnos, it, h0, hne, e2, k1, k2, at1, hkk, q1, q2, hw, e3, l1, g1, g2, get0]
          · simp only [sml, Bool.and_eq_true, decide_eq_true_eq]
            refine ⟨by simp; omega, smls_of fun x hx => ?_⟩
            rcases List.mem_append.mp hx with hx | hx
            · rcases List.mem_append.mp hx with hx | hx
              · exact mt x hx
              · simp at hx; subst hx; exact s3
            · exact md _ x hx
          · simp only [D.dep, deps_app, D.deps]; omega
    · obtain ⟨d', c', t1, t2, t3, t4⟩ := tail_ok (k := k + 1) (way := way) b1 h
      refine ⟨d', c', ?_, t2, t3, by omega⟩
      rw [seq_nx (e := ({ v_bag := some c1, v_thing := some (.sh d), v_depth := some (.sh (.int ((k + 1 : Nat) : Int))), v_way := some (.sh (.int way)) } : S_u_law_bent).e) ?_]
      · exact t1
      · by_cases ht : ∃ ds, d = .tup ds
        · obtain ⟨ds, rfl⟩ := ht
          have it : (D.tup ds).isT ["tuple"] = true := rfl
          have h0 := fNe_t0 (sml_okq h) (by omega)
          by_cases hne : ds = []
          · subst hne
            simp [hk0, hnos, it, h0]
          · have hw : ¬ 0 < way := fun z => hA ⟨ds, rfl, hne, z⟩
            simp [hk0, hnos, it, h0, hne, hw]
        · have it := isT_no (d := d) fun ds e => ht ⟨ds, e⟩
          simp [hk0, hnos, it]
end K20
set_option Elab.async false
set_option linter.all false
set_option maxRecDepth 100000
set_option maxHeartbeats 4000000
namespace K20
open PySem Fx Fx.L Fx.Nt Fx.Nu
open L2 hiding prD
open Net (P thr cxl Rg merge lvs lvStep LvOk side ord nlev prs dis tch)
/-! networks are networks -/
theorem foldK_up {b : List Int} (hb : b.Nodup) : b.foldl inK [] = b := by
  have : ∀ (b d : List Int), (d ++ b).Nodup → b.foldl inK d = d ++ b := by
    intro b
    induction b with
    | nil => intro d _; simp
    | cons x r ih =>
      intro d hd
      have hx : x ∉ d := by
        intro hm
        have := (List.nodup_append.mp hd).2.2 x hm x (by simp)
        exact this rfl
      have e : inK d x = d ++ [x] := by unfold inK; rw [if_neg hx]
      rw [List.foldl_cons, e, ih (d ++ [x]) (by simpa using hd)]
      simp
  simpa using this b [] (by simpa using hb)
theorem plc_mem {ps : List P} {x : Int} (h : x ∈ plc ps) : ∃ q ∈ ps, x = q.1 ∨ x = q.2 := by
  simp only [plc, List.mem_flatMap] at h
  obtain ⟨q, hq, h⟩ := h
  simp at h
  exact ⟨q, hq, h⟩
theorem plc_nodup : ∀ {ps : List P}, ps.Pairwise dis → (∀ p ∈ ps, p.1 < p.2) → (plc ps).Nodup
  | [], _, _ => List.nodup_nil
  | p :: r, h, u => by
    have hp := List.pairwise_cons.mp h
    have ih := plc_nodup hp.2 fun q hq => u q (by simp [hq])
    have up := u p (by simp)
    have e : plc (p :: r) = (p.1 : Int) :: (p.2 : Int) :: plc r := rfl
    rw [e]
    have n1 : (p.1 : Int) ∉ plc r := fun m => by
      obtain ⟨q, hq, hm⟩ := plc_mem m
      have := hp.1 q hq
      unfold dis at this
      omega
    have n2 : (p.2 : Int) ∉ plc r := fun m => by
      obtain ⟨q, hq, hm⟩ := plc_mem m
      have := hp.1 q hq
      unfold dis at this
      omega
    refine List.nodup_cons.mpr ⟨?_, List.nodup_cons.mpr ⟨n2, ih⟩⟩
    simp only [List.mem_cons, not_or]
    exact ⟨by omega, n1⟩
theorem so_so (l : List P) : so (so l) = so l := by
  have h1 : (so l).map lsP = isrt lexL (l.map lsP) := by
    unfold so
    rw [List.map_map]
    conv => rhs; rw [← List.map_id (isrt lexL (l.map lsP))]
    apply List.map_congr_left
    intro q hq
    have hq := (isrt_perm lexL (l.map lsP)).mem_iff.mp hq
    obtain ⟨p, _, rfl⟩ := List.mem_map.mp hq
    simp [lsP]
  have h2 : isrt lexL ((so l).map lsP) = isrt lexL (l.map lsP) := by
    rw [h1]
    exact srt_uniq swoL lexL_anti (isrt_srtd swoL _) (isrt_srtd swoL _) (isrt_perm lexL _)
  show ((isrt lexL ((so l).map lsP)).map _) = _
  rw [h2]; rfl
theorem toP_prD (l : List P) : (l.map prD).map toP = l := by
  rw [List.map_map]
  conv => rhs; rw [← List.map_id l]
  apply List.map_congr_left
  intro p _
  simp [toP, prD]
theorem level_true {n : Nat} {l : List P} (h1 : ∀ p ∈ l, p.1 < p.2 ∧ p.2 < n) (h2 : l.Pairwise dis) (h3 : so l = l) : isLevel n (plD l) = true := by
  show isLevel n (.tup (l.map prD)) = true
  rw [isLevel_eq, toP_prD]
  have nd := plc_nodup h2 fun p hp => (h1 p hp).1
  have hl := fold_len (plc l)
  rw [foldK_up nd] at hl
  have a : (l.map prD).all (inR n) = true := by
    rw [List.all_eq_true]
    intro d hd
    obtain ⟨p, hp, rfl⟩ := List.mem_map.mp hd
    have := h1 p hp
    simp only [prD, inR, isIn, Bool.and_eq_true, decide_eq_true_eq]
    omega
  have b : (l.all fun p => decide (p.1 < p.2)) = true := by
    rw [List.all_eq_true]
    intro p hp
    simpa using (h1 p hp).1
  rw [a, b, lvB, h3, hl]
  simp
theorem net_true {n : Nat} {ls : List (List P)} (h : ∀ l ∈ ls, (∀ p ∈ l, p.1 < p.2 ∧ p.2 < n) ∧ l.Pairwise dis ∧ so l = l) : isNet n (lvD ls) = true := by
  show (ls.map plD).all (isLevel n) = true
  rw [List.all_eq_true]
  intro d hd
  obtain ⟨l, hl, rfl⟩ := List.mem_map.mp hd
  have := h l hl
  exact level_true this.1 this.2.1 this.2.2
theorem netUp_true {n : Nat} {ls : List (List P)} (h : NetUp n ls) : isNet n (lvD ls) = true := net_true fun l hl => by
  refine ⟨fun p hp => ?_, (h.lv l hl).pw, ?_⟩
  · have := (h.lv l hl).rg p hp; exact ⟨this.2.2, this.2.1⟩
  · obtain ⟨l0, rfl⟩ := h.so l hl; exact so_so l0
theorem made_true {n : Nat} {ps : List P} (h : ∀ p ∈ ps, p.1 < p.2 ∧ p.2 < n) : isNet n (lvD ((lvs ps).2.map so)) = true := net_true fun l hl => by
  obtain ⟨l0, h0, rfl⟩ := List.mem_map.mp hl
  refine ⟨fun p hp => ?_, ?_, so_so l0⟩
  · exact h p (Net.lvs_mem ps p (List.mem_flatten.mpr ⟨l0, h0, (so_perm l0).mem_iff.mp hp⟩))
  · exact ((so_perm l0).pairwise_iff fun h => Net.dis_symm h).mpr ((Net.lvs_good ps).pw l0 h0)
theorem sml_pr {k : Nat} (hk : 2 ≤ k) (p : P) : sml k (prD p) = true := by simp [prD, sml, smls, hk]
theorem sml_pl {k : Nat} (hk : 2 ≤ k) {l : List P} (h : l.length ≤ k) : sml k (plD l) = true := by
  simp only [plD, sml, Bool.and_eq_true, decide_eq_true_eq, List.length_map]
  exact ⟨h, smls_of fun d hd => by obtain ⟨p, _, rfl⟩ := List.mem_map.mp hd; exact sml_pr hk p⟩
theorem sml_lv {k : Nat} (hk : 2 ≤ k) {ls : List (List P)} (h : ls.length ≤ k) (h2 : ∀ l ∈ ls, l.length ≤ k) : sml k (lvD ls) = true := by
  simp only [lvD, sml, Bool.and_eq_true, decide_eq_true_eq, List.length_map]
  exact ⟨h, smls_of fun d hd => by obtain ⟨l, hl, rfl⟩ := List.mem_map.mp hd; exact sml_pl hk (h2 l hl)⟩
theorem deps_le {ds : List D} {k : Nat} (h : ∀ d ∈ ds, d.dep ≤ k) : D.deps ds ≤ k := by
  induction ds with
  | nil => simp [D.deps]
  | cons x r ih =>
    have h1 := h x (by simp)
    have h2 := ih fun d m => h d (by simp [m])
    simp only [D.deps]; omega
theorem dep_lv (ls : List (List P)) : (lvD ls).dep ≤ 3 := by
  have h : ∀ d ∈ ls.map plD, d.dep ≤ 2 := fun d hd => by
    obtain ⟨l, hl, rfl⟩ := List.mem_map.mp hd
    have := deps_pr l
    simp only [plD, D.dep]; omega
  have := deps_le h
  simp only [lvD, D.dep]; omega
theorem netUp_rg {n : Nat} {ls : List (List P)} (h : NetUp n ls) : Rg n ls.flatten := by
  intro p hp
  obtain ⟨l, hl, hp⟩ := List.mem_flatten.mp hp
  have := (h.lv l hl).rg p hp
  exact ⟨this.1, this.2.1, by omega⟩
theorem flat_len {n : Nat} : ∀ {ls : List (List P)}, (∀ l ∈ ls, l.length ≤ n) → ls.flatten.length ≤ ls.length * n
  | [], _ => by simp
  | x :: r, h => by
    have h1 := h x (by simp)
    have h2 := flat_len (ls := r) fun l m => h l (by simp [m])
    rw [List.flatten_cons, List.length_append, List.length_cons, Nat.succ_mul]
    omega
theorem ints_map (l : List Int) : l.map odI.em = intsD l := rfl
theorem through_int {dn dr : D} {f : List P → D} {ls : List (List P)} {l : List Int} (hf : ∀ ps ∈ ls, (f ps).seq = some (ps.map prD)) (hn : dn.seq = some (ls.map f)) (hr : fList [dr] = some (.ol (intsD l))) (hg : Rg l.length ls.flatten) :
    F_u_law_through [dn, dr] = some (.ol (intsD (thr ls.flatten l))) := by
  rw [thx_ok odI hf hn hr hg, thx_int hg]; rfl
/-! rows -/
def rowsL (l : List Int) : List (List Int) := l.zipIdx.map fun q => [q.1, (q.2 : Int)]
theorem rowsL_len (l : List Int) : (rowsL l).length = l.length := by simp [rowsL]
theorem enum_ints (l : List Int) : enumD (intsD l) = l.zipIdx.map fun q : Int × Nat => D.tup [.int (q.2 : Int), .int q.1] := by
  apply List.ext_getElem?
  intro i
  cases h : l[i]? with
  | some x =>
    have h1 : (intsD l)[i]? = some (.int x) := by simp [intsD, h]
    rw [enumD_get h1]
    simp [List.getElem?_zipIdx, h]
  | none =>
    have hl : l.length ≤ i := List.getElem?_eq_none_iff.mp h
    have h2 : (enumD (intsD l)).length ≤ l.length := by simp [enumD, zipD, intsD]
    rw [List.getElem?_eq_none_iff.mpr (by omega), List.getElem?_eq_none_iff.mpr (by simp; omega)]
theorem rows_c (l : List Int) : ∀ s : S_law, s.v_place = none → s.v_number = none →
    compN [6, 10] (.tup [6, 10]) kYes c2_law (enumD (intsD l)) s.e = some ((rowsL l).map tupD, s.e) := by
  intro s h1 h2
  have l2 : (2 : Nat) ≤ lim := lk (by decide)
  rw [enum_ints]
  have hr : (rowsL l).map tupD = l.zipIdx.map fun q : Int × Nat => D.tup [.int q.1, .int (q.2 : Int)] := by simp [rowsL, tupD]
  rw [hr]
  obtain ⟨v0, v1, v2, v3, v4, v5, v6, v7, v8, v9, v10, v11, v12, v13, v14, v15, v16, v17⟩ := s
  cases h1; cases h2
  refine compN_map (f := fun q : Int × Nat => D.tup [.int (q.2 : Int), .int q.1]) (g := fun q : Int × Nat => D.tup [.int q.1, .int (q.2 : Int)]) fun q hq => ?_
  simp [cStep, c2_law, l2]
theorem smp_tups (ls : List (List Int)) : smps (ls.map tupD) = true := smps_map fun l _ => by
  show smps (l.map D.int) = true
  exact smps_map fun _ _ => rfl
theorem cnts_ints (l : List Int) : cnts (l.map D.int) = l.length := by
  induction l with
  | nil => rfl
  | cons x r ih => simp only [List.map_cons, cnts, cnt, ih, List.length_cons]; omega
theorem cnts_tups {k : Nat} {ls : List (List Int)} (h : ∀ l ∈ ls, l.length ≤ k) : cnts (ls.map tupD) ≤ ls.length * (k + 1) := by
  induction ls with
  | nil => simp [cnts]
  | cons x r ih =>
    have h1 := h x (by simp)
    have h2 := ih fun l m => h l (by simp [m])
    have h3 := cnts_ints x
    simp only [List.map_cons, cnts, tupD, cnt, List.length_cons, Nat.succ_mul, h3] at h2 ⊢
    omega
theorem thx_mem {V : Type} (o : Od V) {ps : List P} : ∀ {l : List V}, Rg l.length ps → ∀ x ∈ thx o ps l, x ∈ l := by
  induction ps with
  | nil => intro l _ x h; exact h
  | cons p r ih =>
    intro l hg x h
    have hp := hg p (by simp)
    have h := ih (l := xch o l p) (by rw [xch_len]; exact fun q hq => hg q (by simp [hq])) x h
    unfold xch at h
    split at h
    · rcases List.mem_or_eq_of_mem_set h with h | h
      · rcases List.mem_or_eq_of_mem_set h with h | h
        · exact h
        · rw [h]; simp [gt, hp.2.1]
      · rw [h]; simp [gt, hp.1]
    · exact h
end K20
set_option Elab.async false
set_option linter.all false
set_option maxRecDepth 100000
set_option maxHeartbeats 4000000
namespace K20
open PySem Fx Fx.L Fx.Nt Fx.Nu
open L2 hiding prD
open Net (P thr cxl Rg merge lvs lvStep LvOk side ord nlev prs dis tch)
structure J (s : S_law) : Prop where
  bag : ∃ c, s.v_bag = some c ∧ BagOk c
  place : s.v_place = none
  number : s.v_number = none
  pair : s.v_pair = none
theorem smps_ints (l : List Int) : smps (intsD l) = true := smps_map fun _ _ => rfl
theorem cnts_intsD (l : List Int) : cnts (intsD l) = l.length := cnts_ints l
theorem numbers_c {n : Nat} : ∀ s : S_law, (∃ c, s.v_bag = some c ∧ BagOk c) → s.v_place = none →
    ∃ (nu : List Int) (c' : C), compN [6] (.one 6) kYes c1_law (rng 0 (n : Int)) s.e = some (intsD nu, ({ s with v_bag := some c' } : S_law).e) ∧ BagOk c' ∧ nu.length = n := by
  rintro s ⟨c, hc, hb⟩ h3
  obtain ⟨rs, e', h4, ⟨c', rfl, h5⟩, h6, h7⟩ := compN_ix (vs := [6]) (t := .one 6) (c := kYes) (m := c1_law) (fun e => ∃ b, e = ({ s with v_bag := some b } : S_law).e ∧ BagOk b) (fun _ x => ∃ z : Int, x = .int z) (ds := rng 0 (n : Int)) (env := s.e) ⟨c, by rw [← hc], hb⟩ fun d hd e ⟨b, he, hb⟩ => by
    subst he
    obtain ⟨z, c1, e1, z0, z1, b1⟩ := take_ok hb (m := 6) (by decide) (by decide)
    obtain ⟨k, rfl, _⟩ := rng_mem hd
    refine ⟨.int z, ({ s with v_bag := some c1 } : S_law).e, ?_, ⟨c1, rfl, b1⟩, z, rfl⟩
    simp [cStep, c1_law, e1, h3]
  obtain ⟨ah, rfl, ha⟩ := maps_of (f := D.int) (Q := fun _ _ => True) (rs := rs) fun i r hr => by
    have hi : i < (rng 0 (n : Int)).length := by
      rw [← h6]
      exact (List.getElem?_eq_some_iff.mp hr).1
    obtain ⟨z, hz⟩ := h7 i _ r (List.getElem?_eq_getElem hi) hr
    exact ⟨z, hz, trivial⟩
  refine ⟨ah, c', h4, h5, ?_⟩
  rw [rng_len] at h6; simpa using h6
theorem here_step (s : S_law) {l : List Int} {a : List P} (hs : s.v_here = some (.ol (intsD l))) (hg : Rg l.length a) :
    (asgT (.one 8) (plD a) s.e).bind l1_law = some (.nx ({ s with v_level := some (.sh (plD a)), v_here := some (.ol (intsD (thr a l))) } : S_law).e) := by
  have h := level_done_ok (dn := plD a) (dr := .lst (intsD l)) (ps := a) (l := l) rfl rfl hg
  simp [l1_law, hs, h]
theorem pairs_step (s : S_law) {l a : List P} (hs : s.v_pairs = some (.ol (l.map prD))) (hl : l.length + a.length ≤ 1000) :
    (asgT (.one 8) (plD a) s.e).bind l2_law = some (.nx ({ s with v_level := some (.sh (plD a)), v_pairs := some (.ol ((l ++ a).map prD)) } : S_law).e) := by
  have g : l.length + a.length ≤ lim := lk (by omega)
  have hp : plD a = .tup (a.map prD) := rfl
  rw [hp]
  simp [l2_law, hs, g]
theorem natsD2 (x y : Nat) : natsD [x, y] = [D.int (x : Int), D.int (y : Int)] := rfl
theorem drawn_step (s : S_law) {c : C} {n : Nat} {dr : List P} (hb : BagOk c) (h0 : s.v_bag = some c) (h1 : s.v_many = some (.sh (.int (n : Int)))) (h2 : s.v_drawn = some (.ol (dr.map prD))) (hn : n ≤ 9) (hl : dr.length ≤ 100) (hd : ∀ p ∈ dr, p.1 < p.2 ∧ p.2 < n) (d : D) :
    ∃ (c' : C) (dr' : List P) (x : Option C), (asgT (.one 13) d s.e).bind l3_law = some (.nx ({ s with v_bag := some c', v_again := some (.sh d), v_some := x, v_drawn := some (.ol (dr'.map prD)) } : S_law).e) ∧ BagOk c' ∧ dr'.length ≤ dr.length + 1 ∧ ∀ p ∈ dr', p.1 < p.2 ∧ p.2 < n := by
  obtain ⟨l', c1, e1, hp, b1⟩ := mixed_ok hb (d := .lst (natsD (List.range n))) (l := List.range n) rfl (by simp; omega)
  have hll : l'.length = n := by rw [hp.length_eq]; simp
  have hnd : l'.Nodup := hp.nodup_iff.mpr List.nodup_range
  have hmem : ∀ x ∈ l', x < n := fun x hx => by simpa using hp.mem_iff.mp hx
  have hrn : rng 0 (n : Int) = natsD (List.range n) := rng_nat n
  have okg : rgOk 0 (n : Int) = true := by
    unfold rgOk
    rw [okr (by omega) (by omega), okr (by omega) (by omega)]
    simp; rw [lim_val]; omega
  have elr : ∀ env : Fx.Env, ∀ o : Opd, eLR1 o env = (evO [o] env).bind fun (ds, e) => match ds with
    | [.int n] => if rgOk 0 n then some (.ol (rng 0 n), e) else none
    | _ => none := fun _ _ => rfl
  have l0 : (0 : Nat) ≤ lim := lk (by decide)
  have l1 : (1 : Nat) ≤ lim := lk (by decide)
  have l2 : (2 : Nat) ≤ lim := lk (by decide)
  have hcut : cutD (natsD l') none (some 2) = natsD (l'.take 2) := by
    have := cut_take (xs := natsD l') (k := 2)
    rw [natsD_take] at this
    exact this
  have g0 : dr.length ≤ lim := lk (by omega)
  have g1 : dr.length + 1 ≤ lim := lk (by omega)
  unfold l3_law
  rw [asgT_one, if_pos (by simp), Option.bind_some, S_law.p13]
  rw [seq_nx (e := ({ s with v_bag := some c1, v_again := some (.sh d), v_some := some (.ol (natsD (l'.take 2))) } : S_law).e) (by simp [h0, h1, elr, okg, hrn, e1, hcut])]
  match l', hnd, hmem with
  | [], _, _ =>
    refine ⟨c1, dr, some (.ol []), ?_, b1, by omega, hd⟩
    simp [natsD, h2, l0, g0]
  | [x], _, _ =>
    refine ⟨c1, dr, some (.ol (natsD [x])), ?_, b1, by omega, hd⟩
    simp [natsD, h2, l0, g0]
  | x :: y :: r, hnd, hmem =>
    have hxy : x ≠ y := fun e => by subst e; simp at hnd
    have hx := hmem x (by simp)
    have hy := hmem y (by simp)
    refine ⟨c1, dr ++ [(min x y, max x y)], some (.ol (natsD [x, y])), ?_, b1, by simp, fun p hp => ?_⟩
    · have m1 : mn2 (x : Int) (y : Int) = ((min x y : Nat) : Int) := by unfold mn2; split <;> omega
      have m2 : mx2 (x : Int) (y : Int) = ((max x y : Nat) : Int) := by unfold mx2; split <;> omega
      have f1 : fMin [.lst [.int (x : Int), .int (y : Int)]] = some (.sh (.int ((min x y : Nat) : Int))) := by
        rw [← m1]; rfl
      have f2 : fMax [.lst [.int (x : Int), .int (y : Int)]] = some (.sh (.int ((max x y : Nat) : Int))) := by
        rw [← m2]; rfl
      generalize min x y = mi at *
      generalize max x y = ma at *
      simp [natsD, h2, f1, f2, l0, l1, l2, g1, prD]
    · rcases List.mem_append.mp hp with hp | hp
      · exact hd p hp
      · simp at hp; subst hp; simp only; omega

theorem turn_ok {s : S_law} (h : J s) : ∃ s', l5_law s.e = some (.nx (S_law.e s')) ∧ J s' := by
  obtain ⟨⟨c, hc, hb⟩, h6, h10, h16⟩ := h
  obtain ⟨v0, v1, v2, v3, v4, v5, v6, v7, v8, v9, v10, v11, v12, v13, v14, v15, v16, v17⟩ := s
  cases hc; cases h6; cases h10; cases h16
  obtain ⟨v, c1, e1, p1, q1, b1⟩ := take_ok hb (m := 9) (by decide) (by decide)
  obtain ⟨n, hn, hn1⟩ : ∃ n : Nat, 1 + v = (n : Int) ∧ 1 ≤ n ∧ n ≤ 9 := ⟨(1 + v).toNat, by omega, by omega, by omega⟩
  obtain ⟨ls, c2, e2, b2, hls, hl6⟩ := network_okU b1 (n := n) (m := 6) (by omega) (by omega)
  have e2 : F_u_law_network c1 [.int (n : Int), .int 6] = some (.sh (lvD ls), c2) := e2
  obtain ⟨nu, c3, e3, b3, hnu⟩ := numbers_c (n := n) ({ v_script := v0, v_bag := some c2, v_turn := v2, v_many := some (.sh (.int (n : Int))), v_network := some (.sh (lvD ls)), v_numbers := v5, v_here := v7, v_level := v8, v_rows := v9, v_pairs := v11, v_drawn := v12, v_again := v13, v_some := v14, v_made := v15, v_thing := v17 } : S_law) ⟨c2, rfl, b2⟩ rfl
  have okn := okr (n := n) (by omega) (by omega)
  have hg : Rg nu.length ls.flatten := by rw [hnu]; exact netUp_rg hls
  have hlen : ∀ l ∈ ls, l.length ≤ 9 := fun l hl => Nat.le_trans (hls.len l hl) hn1.2
  have hflen := flat_len hlen
  have hsm : sml 9 (lvD ls) = true := sml_lv (by decide) (by omega) hlen
  have isn := net_ok (n := n) hsm (by decide)
  rw [netUp_true hls] at isn
  have dn := done_ok (dn := lvD ls) (dr := .tup (intsD nu)) (f := plD) (ls := ls) (l := nu) (fun _ _ => rfl) rfl rfl hg
  have th := through_int (dn := lvD ls) (dr := .tup (intsD nu)) (f := plD) (ls := ls) (l := nu) (fun _ _ => rfl) rfl rfl hg
  have hg2 : Rg (rowsL nu).length ls.flatten := by rw [rowsL_len]; exact hg
  have dn2 := done_v odT (dn := lvD ls) (dr := .tup ((rowsL nu).map tupD)) (f := plD) (ls := ls) (l := rowsL nu) (fun _ _ => rfl) rfl rfl hg2
  have th2 := thx_ok odT (dn := lvD ls) (dr := .tup ((rowsL nu).map tupD)) (f := plD) (ls := ls) (l := rowsL nu) (fun _ _ => rfl) rfl rfl hg2
  rw [show odT.em = tupD from rfl] at dn2 th2
  have hrl : ∀ x ∈ thx odT ls.flatten (rowsL nu), x.length ≤ 2 := fun x hx => by
    have := thx_mem odT hg2 x hx
    simp only [rowsL, List.mem_map] at this
    obtain ⟨q, _, rfl⟩ := this
    simp
  have l2 : (2 : Nat) ≤ lim := lk (by decide)
  have tl : (thr ls.flatten nu).length = nu.length := Net.thr_len _ _
  have xl : (thx odT ls.flatten (rowsL nu)).length = nu.length := by rw [thx_len, rowsL_len]
  have al1 : F_u_law_alike [.lst [.bl true, .tup (intsD (thr ls.flatten nu))], .lst [.bl true, .tup (intsD (thr ls.flatten nu))]] = some (.sh (.bl true)) := by
    refine alike_ok ?_ ?_
    · simp [smp, smps, smps_ints, D.okq]
    · simp only [cnt, cnts, cnts_intsD, tl]; omega
  have al2 : F_u_law_alike [.tup ((thx odT ls.flatten (rowsL nu)).map tupD), .tup ((thx odT ls.flatten (rowsL nu)).map tupD)] = some (.sh (.bl true)) := by
    refine alike_ok ?_ ?_
    · simp only [smp]; exact smp_tups _
    · have := cnts_tups hrl
      simp only [cnt]; rw [xl] at this; omega
  have po := pairs_ok (ls := ls) (by omega)
  have al3 : F_u_law_alike [.tup (ls.flatten.map prD), .tup (ls.flatten.map prD)] = some (.sh (.bl true)) := by
    refine alike_ok ?_ ?_
    · simp only [smp]; exact smps_map fun _ _ => rfl
    · simp only [cnt, cnts_pr]; omega
  have ne1 := ne_ints (thr ls.flatten nu) (thr ls.flatten nu)
  have ne2 := fNe_self (d := .tup (intsD nu)) (by simp only [D.okq]; exact Nt.okqs_ints nu) (by simp only [D.dep]; have : D.deps (intsD nu) = 0   := Nt.deps_ints nu; omega)
  have hnl : nu.length ≤ lim := lk (by omega)
  have rl : ((rowsL nu).map tupD).length ≤ lim := lk (by rw [List.length_map, rowsL_len]; omega)
  unfold l5_law
  rw [seq_nx (e := ({ v_script := v0, v_bag := some c1, v_turn := v2, v_many := some (.sh (.int (n : Int))), v_network := v4, v_numbers := v5, v_here := v7, v_level := v8, v_rows := v9, v_pairs := v11, v_drawn := v12, v_again := v13, v_some := v14, v_made := v15, v_thing := v17 } : S_law).e) (by simp [e1, hn])]
  rw [seq_nx (e := ({ v_script := v0, v_bag := some c2, v_turn := v2, v_many := some (.sh (.int (n : Int))), v_network := some (.sh (lvD ls)), v_numbers := v5, v_here := v7, v_level := v8, v_rows := v9, v_pairs := v11, v_drawn := v12, v_again := v13, v_some := v14, v_made := v15, v_thing := v17 } : S_law).e) (by simp [e2])]
  rw [seq_nx (e := ({ v_script := v0, v_bag := some c3, v_turn := v2, v_many := some (.sh (.int (n : Int))), v_network := some (.sh (lvD ls)), v_numbers := some (.sh (.tup (intsD nu))), v_here := v7, v_level := v8, v_rows := v9, v_pairs := v11, v_drawn := v12, v_again := v13, v_some := v14, v_made := v15, v_thing := v17 } : S_law).e) (by have := lk (n := n) (by omega); simp [okn, e3, len_ints, hnu, this])]
  rw [seq_nx (e := ({ v_script := v0, v_bag := some c3, v_turn := v2, v_many := some (.sh (.int (n : Int))), v_network := some (.sh (lvD ls)), v_numbers := some (.sh (.tup (intsD nu))), v_here := v7, v_level := v8, v_rows := v9, v_pairs := v11, v_drawn := v12, v_again := v13, v_some := v14, v_made := v15, v_thing := v17 } : S_law).e) (by simp [isn, dn, th, al1, l2])]
  rw [seq_nx (e := ({ v_script := v0, v_bag := some c3, v_turn := v2, v_many := some (.sh (.int (n : Int))), v_network := some (.sh (lvD ls)), v_numbers := some (.sh (.tup (intsD nu))), v_here := some (.ol (intsD nu)), v_level := v8, v_rows := v9, v_pairs := v11, v_drawn := v12, v_again := v13, v_some := v14, v_made := v15, v_thing := v17 } : S_law).e) (by simp)]
  obtain ⟨s5, f5, x, hs5⟩ := forM (E := S_law.e) (t := .one 8) (b := l1_law) (f := plD) (fun q s => ∃ x : Option C, s = ({ v_script := v0, v_bag := some c3, v_turn := v2, v_many := some (.sh (.int (n : Int))), v_network := some (.sh (lvD ls)), v_numbers := some (.sh (.tup (intsD nu))), v_here := some (.ol (intsD (thr q.flatten nu))), v_level := x, v_rows := v9, v_pairs := v11, v_drawn := v12, v_again := v13, v_some := v14, v_made := v15, v_thing := v17 } : S_law)) (l := ls) (s := ({ v_script := v0, v_bag := some c3, v_turn := v2, v_many := some (.sh (.int (n : Int))), v_network := some (.sh (lvD ls)), v_numbers := some (.sh (.tup (intsD nu))), v_here := some (.ol (intsD nu)), v_level := v8, v_rows := v9, v_pairs := v11, v_drawn := v12, v_again := v13, v_some := v14, v_made := v15, v_thing := v17 } : S_law)) ⟨v8, rfl⟩ fun q a r s e ⟨x, hs⟩ => by
    subst hs
    have ha : Rg (thr q.flatten nu).length a := by rw [Net.thr_len]; exact fun p hp => hg p (by rw [e]; simp [hp])
    have := here_step ({ v_script := v0, v_bag := some c3, v_turn := v2, v_many := some (.sh (.int (n : Int))), v_network := some (.sh (lvD ls)), v_numbers := some (.sh (.tup (intsD nu))), v_here := some (.ol (intsD (thr q.flatten nu))), v_level := x, v_rows := v9, v_pairs := v11, v_drawn := v12, v_again := v13, v_some := v14, v_made := v15, v_thing := v17 } : S_law) rfl ha
    exact ⟨_, this, some (.sh (plD a)), by rw [List.flatten_append, Net.thr_app]; simp⟩
  subst hs5
  rw [seq_nx (e := ({ v_script := v0, v_bag := some c3, v_turn := v2, v_many := some (.sh (.int (n : Int))), v_network := some (.sh (lvD ls)), v_numbers := some (.sh (.tup (intsD nu))), v_here := some (.ol (intsD (thr ls.flatten nu))), v_level := x, v_rows := v9, v_pairs := v11, v_drawn := v12, v_again := v13, v_some := v14, v_made := v15, v_thing := v17 } : S_law).e) (by simp [-List.map_flatten, lvD]; exact f5)]
  have rc := rows_c nu ({ v_script := v0, v_bag := some c3, v_turn := v2, v_many := some (.sh (.int (n : Int))), v_network := some (.sh (lvD ls)), v_numbers := some (.sh (.tup (intsD nu))), v_here := some (.ol (intsD (thr ls.flatten nu))), v_level := x, v_rows := v9, v_pairs := v11, v_drawn := v12, v_again := v13, v_some := v14, v_made := v15, v_thing := v17 } : S_law) rfl rfl
  rw [seq_nx (e := ({ v_script := v0, v_bag := some c3, v_turn := v2, v_many := some (.sh (.int (n : Int))), v_network := some (.sh (lvD ls)), v_numbers := some (.sh (.tup (intsD nu))), v_here := some (.ol (intsD (thr ls.flatten nu))), v_level := x, v_rows := v9, v_pairs := v11, v_drawn := v12, v_again := v13, v_some := v14, v_made := v15, v_thing := v17 } : S_law).e) (by simp [-fNe_v, th, ne1, ne2])]
  rw [seq_nx (e := ({ v_script := v0, v_bag := some c3, v_turn := v2, v_many := some (.sh (.int (n : Int))), v_network := some (.sh (lvD ls)), v_numbers := some (.sh (.tup (intsD nu))), v_here := some (.ol (intsD (thr ls.flatten nu))), v_level := x, v_rows := some (.sh (.tup ((rowsL nu).map tupD))), v_pairs := v11, v_drawn := v12, v_again := v13, v_some := v14, v_made := v15, v_thing := v17 } : S_law).e) (by rw [List.length_map] at rl; simp [rc, rl])]
  rw [seq_nx (e := ({ v_script := v0, v_bag := some c3, v_turn := v2, v_many := some (.sh (.int (n : Int))), v_network := some (.sh (lvD ls)), v_numbers := some (.sh (.tup (intsD nu))), v_here := some (.ol (intsD (thr ls.flatten nu))), v_level := x, v_rows := some (.sh (.tup ((rowsL nu).map tupD))), v_pairs := v11, v_drawn := v12, v_again := v13, v_some := v14, v_made := v15, v_thing := v17 } : S_law).e) (by simp [dn2, th2, al2])]
  rw [seq_nx (e := ({ v_script := v0, v_bag := some c3, v_turn := v2, v_many := some (.sh (.int (n : Int))), v_network := some (.sh (lvD ls)), v_numbers := some (.sh (.tup (intsD nu))), v_here := some (.ol (intsD (thr ls.flatten nu))), v_level := x, v_rows := some (.sh (.tup ((rowsL nu).map tupD))), v_pairs := some (.ol []), v_drawn := v12, v_again := v13, v_some := v14, v_made := v15, v_thing := v17 } : S_law).e) (by simp)]
  obtain ⟨s9, f9, y, hs9⟩ := forM (E := S_law.e) (t := .one 8) (b := l2_law) (f := plD) (fun q s => ∃ y : Option C, s = ({ v_script := v0, v_bag := some c3, v_turn := v2, v_many := some (.sh (.int (n : Int))), v_network := some (.sh (lvD ls)), v_numbers := some (.sh (.tup (intsD nu))), v_here := some (.ol (intsD (thr ls.flatten nu))), v_level := y, v_rows := some (.sh (.tup ((rowsL nu).map tupD))), v_pairs := some (.ol (q.flatten.map prD)), v_drawn := v12, v_again := v13, v_some := v14, v_made := v15, v_thing := v17 } : S_law)) (l := ls) (s := ({ v_script := v0, v_bag := some c3, v_turn := v2, v_many := some (.sh (.int (n : Int))), v_network := some (.sh (lvD ls)), v_numbers := some (.sh (.tup (intsD nu))), v_here := some (.ol (intsD (thr ls.flatten nu))), v_level := x, v_rows := some (.sh (.tup ((rowsL nu).map tupD))), v_pairs := some (.ol []), v_drawn := v12, v_again := v13, v_some := v14, v_made := v15, v_thing := v17 } : S_law)) ⟨x, rfl⟩ fun q a r s e ⟨y, hs⟩ => by
    subst hs
    have ha : q.flatten.length + a.length ≤ 1000 := by
      have h1 := congrArg (fun l : List (List P) => l.flatten.length) e
      simp only [List.flatten_append, List.flatten_cons, List.length_append] at h1
      omega
    have := pairs_step ({ v_script := v0, v_bag := some c3, v_turn := v2, v_many := some (.sh (.int (n : Int))), v_network := some (.sh (lvD ls)), v_numbers := some (.sh (.tup (intsD nu))), v_here := some (.ol (intsD (thr ls.flatten nu))), v_level := y, v_rows := some (.sh (.tup ((rowsL nu).map tupD))), v_pairs := some (.ol (q.flatten.map prD)), v_drawn := v12, v_again := v13, v_some := v14, v_made := v15, v_thing := v17 } : S_law) rfl ha
    exact ⟨_, this, some (.sh (plD a)), by rw [List.flatten_append]; simp⟩
  subst hs9
  rw [seq_nx (e := ({ v_script := v0, v_bag := some c3, v_turn := v2, v_many := some (.sh (.int (n : Int))), v_network := some (.sh (lvD ls)), v_numbers := some (.sh (.tup (intsD nu))), v_here := some (.ol (intsD (thr ls.flatten nu))), v_level := y, v_rows := some (.sh (.tup ((rowsL nu).map tupD))), v_pairs := some (.ol (ls.flatten.map prD)), v_drawn := v12, v_again := v13, v_some := v14, v_made := v15, v_thing := v17 } : S_law).e) (by simp [-List.map_flatten, lvD]; exact f9)]
  have po : F_pairs_of [lvD ls] = some (.sh (.tup (ls.flatten.map prD))) := po
  rw [seq_nx (e := ({ v_script := v0, v_bag := some c3, v_turn := v2, v_many := some (.sh (.int (n : Int))), v_network := some (.sh (lvD ls)), v_numbers := some (.sh (.tup (intsD nu))), v_here := some (.ol (intsD (thr ls.flatten nu))), v_level := y, v_rows := some (.sh (.tup ((rowsL nu).map tupD))), v_pairs := some (.ol (ls.flatten.map prD)), v_drawn := v12, v_again := v13, v_some := v14, v_made := v15, v_thing := v17 } : S_law).e) (by simp [-List.map_flatten, po, al3])]
  rw [seq_nx (e := ({ v_script := v0, v_bag := some c3, v_turn := v2, v_many := some (.sh (.int (n : Int))), v_network := some (.sh (lvD ls)), v_numbers := some (.sh (.tup (intsD nu))), v_here := some (.ol (intsD (thr ls.flatten nu))), v_level := y, v_rows := some (.sh (.tup ((rowsL nu).map tupD))), v_pairs := some (.ol (ls.flatten.map prD)), v_drawn := some (.ol []), v_again := v13, v_some := v14, v_made := v15, v_thing := v17 } : S_law).e) (by simp [-List.map_flatten, lk])]
  obtain ⟨t, c3', et, t0, t1, bt⟩ := take_ok b3 (m := 12) (by decide) (by decide)
  obtain ⟨t, rfl⟩ : ∃ k : Nat, t = (k : Int) := ⟨t.toNat, by omega⟩
  have okt := okr (n := t) (by omega) (by omega)
  obtain ⟨s12, f12, c4, dr, z1, z2, hs12, b4, hdl, hdr⟩ := forS (E := S_law.e) (t := .one 13) (b := l3_law) (fun i s => ∃ (c4 : C) (dr : List P) (z1 z2 : Option C), s = ({ v_script := v0, v_bag := some c4, v_turn := v2, v_many := some (.sh (.int (n : Int))), v_network := some (.sh (lvD ls)), v_numbers := some (.sh (.tup (intsD nu))), v_here := some (.ol (intsD (thr ls.flatten nu))), v_level := y, v_rows := some (.sh (.tup ((rowsL nu).map tupD))), v_pairs := some (.ol (ls.flatten.map prD)), v_drawn := some (.ol (dr.map prD)), v_again := z1, v_some := z2, v_made := v15, v_thing := v17 } : S_law) ∧ BagOk c4 ∧ dr.length ≤ i ∧ ∀ p ∈ dr, p.1 < p.2 ∧ p.2 < n) (ds := rng 0 (t : Int)) (s := ({ v_script := v0, v_bag := some c3', v_turn := v2, v_many := some (.sh (.int (n : Int))), v_network := some (.sh (lvD ls)), v_numbers := some (.sh (.tup (intsD nu))), v_here := some (.ol (intsD (thr ls.flatten nu))), v_level := y, v_rows := some (.sh (.tup ((rowsL nu).map tupD))), v_pairs := some (.ol (ls.flatten.map prD)), v_drawn := some (.ol []), v_again := v13, v_some := v14, v_made := v15, v_thing := v17 } : S_law)) ⟨c3', [], v13, v14, rfl, bt, Nat.le_refl _, fun p hp => by cases hp⟩ fun i d s hd ⟨c4, dr, z1, z2, hs, b4, hdl, hdr⟩ => by
    subst hs
    have hi := (rng_get hd).2
    obtain ⟨c', dr', x', k1, k2, k3, k4⟩ := drawn_step ({ v_script := v0, v_bag := some c4, v_turn := v2, v_many := some (.sh (.int (n : Int))), v_network := some (.sh (lvD ls)), v_numbers := some (.sh (.tup (intsD nu))), v_here := some (.ol (intsD (thr ls.flatten nu))), v_level := y, v_rows := some (.sh (.tup ((rowsL nu).map tupD))), v_pairs := some (.ol (ls.flatten.map prD)), v_drawn := some (.ol (dr.map prD)), v_again := z1, v_some := z2, v_made := v15, v_thing := v17 } : S_law) b4 rfl rfl rfl hn1.2 (by omega) hdr d
    exact ⟨_, k1, c', dr', _, _, rfl, k2, by omega, k4⟩
  subst hs12
  rw [rng_len] at hdl
  rw [seq_nx (e := ({ v_script := v0, v_bag := some c4, v_turn := v2, v_many := some (.sh (.int (n : Int))), v_network := some (.sh (lvD ls)), v_numbers := some (.sh (.tup (intsD nu))), v_here := some (.ol (intsD (thr ls.flatten nu))), v_level := y, v_rows := some (.sh (.tup ((rowsL nu).map tupD))), v_pairs := some (.ol (ls.flatten.map prD)), v_drawn := some (.ol (dr.map prD)), v_again := z1, v_some := z2, v_made := v15, v_thing := v17 } : S_law).e) (by simp [-List.map_flatten, et, okt]; exact f12)]
  have hgd : Rg nu.length dr := by rw [hnu]; exact fun p hp => by have := hdr p hp; exact ⟨by omega, by omega, by omega⟩
  have lv1 := levelled_ok (dp := .tup (dr.map prD)) (ps := dr) rfl (by omega)
  have lv2 := law_levelled_ok (dp := .lst (dr.map prD)) (ps := dr) rfl (by omega)
  obtain ⟨bd1, bd2⟩ := lvs_bd dr
  have hml : ∀ l ∈ (lvs dr).2.map so, l.length ≤ 12 := fun l hl => by
    obtain ⟨l0, h0, rfl⟩ := List.mem_map.mp hl
    have := bd2 l0 h0
    rw [so_len]; omega
  have hsm2 : sml 12 (lvD ((lvs dr).2.map so)) = true := sml_lv (by decide) (by rw [List.length_map]; omega) hml
  have isn2 := net_ok (n := n) hsm2 (by decide)
  rw [made_true hdr] at isn2
  have mlen : ((lvs dr).2.map so).length ≤ 12 := by rw [List.length_map]; omega
  have mfl := flat_len hml
  have al4 : F_u_law_alike [.lst [lvD ((lvs dr).2.map so), .bl true], .lst [lvD ((lvs dr).2.map so), .bl true]] = some (.sh (.bl true)) := by
    refine alike_ok ?_ ?_
    · simp [smp, smps, smp_lv, D.okq]
    · simp only [cnt, cnts, cnt_lv]; omega
  have hmr : Rg nu.length ((lvs dr).2.map so).flatten := fun q hq => by
    obtain ⟨x, hx, hq⟩ := List.mem_flatten.mp hq
    obtain ⟨y, hy, rfl⟩ := List.mem_map.mp hx
    exact hgd q (Net.lvs_mem dr q (List.mem_flatten.mpr ⟨y, hy, (so_perm y).mem_iff.mp hq⟩))
  have th3 := through_int (dn := lvD ((lvs dr).2.map so)) (dr := .tup (intsD nu)) (f := plD) (ls := (lvs dr).2.map so) (l := nu) (fun _ _ => rfl) rfl rfl hmr
  rw [levelled_thr hgd] at th3
  have hfd : (dr.map fun p => [p]).flatten = dr := by rw [← List.flatMap_def]; simp
  have th4 := through_int (dn := .lst (dr.map fun p => D.lst [prD p])) (dr := .tup (intsD nu)) (f := fun ps => D.lst (ps.map prD)) (ls := dr.map fun p => [p]) (l := nu) (fun _ _ => rfl) (by simp) rfl (by rw [hfd]; exact hgd)
  rw [hfd] at th4
  have ne3 := ne_ints (thr dr nu) (thr dr nu)
  generalize hM : lvD ((lvs dr).2.map so) = M at *
  have l1 : (1 : Nat) ≤ lim := lk (by decide)
  have gd : dr.length ≤ lim := lk (by omega)
  have pc : compN [16] (.one 16) kYes c3_law (dr.map prD) ({ v_script := v0, v_bag := some c4, v_turn := v2, v_many := some (.sh (.int (n : Int))), v_network := some (.sh (lvD ls)), v_numbers := some (.sh (.tup (intsD nu))), v_here := some (.ol (intsD (thr ls.flatten nu))), v_level := y, v_rows := some (.sh (.tup ((rowsL nu).map tupD))), v_pairs := some (.ol (ls.flatten.map prD)), v_drawn := some (.sh (.lst (dr.map prD))), v_again := z1, v_some := z2, v_made := some (.sh M), v_thing := v17 } : S_law).e = some (dr.map (fun p => D.lst [prD p]), ({ v_script := v0, v_bag := some c4, v_turn := v2, v_many := some (.sh (.int (n : Int))), v_network := some (.sh (lvD ls)), v_numbers := some (.sh (.tup (intsD nu))), v_here := some (.ol (intsD (thr ls.flatten nu))), v_level := y, v_rows := some (.sh (.tup ((rowsL nu).map tupD))), v_pairs := some (.ol (ls.flatten.map prD)), v_drawn := some (.sh (.lst (dr.map prD))), v_again := z1, v_some := z2, v_made := some (.sh M), v_thing := v17 } : S_law).e) := by
    refine compN_map (f := prD) (g := fun p => D.lst [prD p]) fun p hp => ?_
    simp [cStep, c3_law, l1]
  rw [seq_nx (e := ({ v_script := v0, v_bag := some c4, v_turn := v2, v_many := some (.sh (.int (n : Int))), v_network := some (.sh (lvD ls)), v_numbers := some (.sh (.tup (intsD nu))), v_here := some (.ol (intsD (thr ls.flatten nu))), v_level := y, v_rows := some (.sh (.tup ((rowsL nu).map tupD))), v_pairs := some (.ol (ls.flatten.map prD)), v_drawn := some (.ol (dr.map prD)), v_again := z1, v_some := z2, v_made := some (.sh M), v_thing := v17 } : S_law).e) (by simp [lv1])]
  rw [seq_nx (e := ({ v_script := v0, v_bag := some c4, v_turn := v2, v_many := some (.sh (.int (n : Int))), v_network := some (.sh (lvD ls)), v_numbers := some (.sh (.tup (intsD nu))), v_here := some (.ol (intsD (thr ls.flatten nu))), v_level := y, v_rows := some (.sh (.tup ((rowsL nu).map tupD))), v_pairs := some (.ol (ls.flatten.map prD)), v_drawn := some (.sh (.lst (dr.map prD))), v_again := z1, v_some := z2, v_made := some (.sh M), v_thing := v17 } : S_law).e) (by simp [isn2, lv2, al4, l2])]
  rw [seq_nx (e := ({ v_script := v0, v_bag := some c4, v_turn := v2, v_many := some (.sh (.int (n : Int))), v_network := some (.sh (lvD ls)), v_numbers := some (.sh (.tup (intsD nu))), v_here := some (.ol (intsD (thr ls.flatten nu))), v_level := y, v_rows := some (.sh (.tup ((rowsL nu).map tupD))), v_pairs := some (.ol (ls.flatten.map prD)), v_drawn := some (.sh (.lst (dr.map prD))), v_again := z1, v_some := z2, v_made := some (.sh M), v_thing := v17 } : S_law).e) (by simp [-List.map_flatten, -fNe_v, pc, gd, th3, th4, ne3])]
  have ok6 := okr (n := 6) (by decide) (by decide)
  obtain ⟨s15, f15, hj⟩ := forS (E := S_law.e) (t := .one 13) (b := l4_law) (fun _ s => J s ∧ s.v_many = some (.sh (.int (n : Int))) ∧ s.v_network = some (.sh (lvD ls))) (ds := rng 0 6) (s := ({ v_script := v0, v_bag := some c4, v_turn := v2, v_many := some (.sh (.int (n : Int))), v_network := some (.sh (lvD ls)), v_numbers := some (.sh (.tup (intsD nu))), v_here := some (.ol (intsD (thr ls.flatten nu))), v_level := y, v_rows := some (.sh (.tup ((rowsL nu).map tupD))), v_pairs := some (.ol (ls.flatten.map prD)), v_drawn := some (.sh (.lst (dr.map prD))), v_again := z1, v_some := z2, v_made := some (.sh M), v_thing := v17 } : S_law)) ⟨⟨⟨c4, rfl, b4⟩, rfl, rfl, rfl⟩, rfl, rfl⟩ fun i d s hd ⟨⟨⟨c5, hc5, b5⟩, j1, j2, j3⟩, j4, j5⟩ => by
    obtain ⟨d', c6, k1, k2, k3, k4⟩ := bent_ok 3 5 (c := c5) (n := 9) (d := lvD ls) (by decide) b5 hsm (by decide) (by have := dep_lv ls; omega)
    have k1 : F_u_law_bent 5 c5 [lvD ls, .int 3] = some (.sh d', c6) := k1
    have n1 := net_ok (n := n) k3 (by decide)
    have n2 := law_net_ok (n := n) k3 (by decide)
    have al : F_u_law_alike [.bl (isNet n d'), .bl (isNet n d')] = some (.sh (.bl true)) := alike_ok (by simp [smp, D.okq]) (by simp [cnt])
    refine ⟨{ s with v_again := some (.sh d), v_bag := some c6, v_thing := some (.sh d') }, ?_, ⟨⟨c6, rfl, k2⟩, j1, j2, j3⟩, j4, j5⟩
    simp [l4_law, hc5, j4, j5, k1, n1, n2, al]
  refine ⟨s15, ?_, hj.1⟩
  simp [-List.map_flatten, ok6, f15]
theorem plain (ns : List Int) (_ : ns.length ≤ 63) : F_law [.scr ns] = some (.sh (.bl true)) := by
  obtain ⟨c0, hc0, b0⟩ := bag_ok ns
  show outP (b_law ({ v_script := some (.sh (.scr ns)) } : S_law).e) = _
  unfold b_law
  rw [seq_nx (e := ({ v_script := some (.sh (.scr ns)), v_bag := some c0 } : S_law).e) (by simp [hc0])]
  obtain ⟨s3, k1, k2⟩ := forS (E := S_law.e) (t := .one 2) (b := l5_law) (fun _ s => J s) (ds := rng 0 6) (s := { v_script := some (.sh (.scr ns)), v_bag := some c0 }) ⟨⟨c0, rfl, b0⟩, rfl, rfl, rfl⟩ fun i d s hd hj => by
    obtain ⟨s', k1, k2⟩ := turn_ok (s := { s with v_turn := some (.sh d) }) ⟨hj.bag, hj.place, hj.number, hj.pair⟩
    exact ⟨s', by simp [k1], k2⟩
  have ok6 : okR 6 = true := okr (by omega) (by omega)
  rw [seq_nx (e := s3.e) (by simp [ok6, k1])]
  simp
end K20
open PySem PySem.W PyProof.Rows in
set_option maxRecDepth 100000 in
set_option maxHeartbeats 0 in
theorem PySem.Challenge.cw_nolooking_k20_networks_level_by_level_holds : PySem.Challenge.rw_nolooking_k20_networks_level_by_level.Holds := by
  w_on; o_law; k_head; (case hw => w_witness2)
  k_fill
  refine K20.walk (l := PySem.Challenge.rw_nolooking_k20_networks_level_by_level) K20.plain rfl rfl (fun w h Y => PySem.W.kIn_of Y) ?F
  case F =>
    intro w mg fa h KX G hmg
    refine' K20.all_mk KX G hmg ?a0 ?l0 ?c0 ?k0 ?a1 ?l1 ?c1 ?k1 ?a2 ?l2 ?c2 ?k2 ?a3 ?l3 ?c3 ?k3 ?a4 ?l4 ?c4 ?k4 ?a5 ?l5 ?c5 ?k5 ?a6 ?l6 ?c6 ?k6 ?a7 ?l7 ?c7 ?k7 ?a8 ?l8 ?c8 ?k8 ?a9 ?l9 ?c9 ?k9 ?a10 ?l10 ?c10 ?k10 ?a11 ?l11 ?c11 ?k11 ?a12 ?l12 ?c12 ?k12 ?a13 ?l13 ?c13 ?k13 ?a14 ?l14 ?c14 ?k14 ?a15 ?l15 ?c15 ?k15 ?a16 ?l16 ?c16 ?k16 ?a17 ?l17 ?c17 ?k17 ?a18 ?l18 ?c18 ?k18 ?a19 ?l19 ?c19 ?k19 ?a20 ?l20 ?c20 ?k20 ?a21 ?l21 ?c21 ?k21 ?z_abs ?z_all ?z_bool ?z_enumerate ?z_int ?z_isinstance ?z_len ?z_list ?z_max ?z_min ?z_range ?z_set ?z_sorted ?z_str ?z_tuple ?z_zip ?ye_MOST_LEVELS ?ye_PAIR
    (case a0 => k_is)
    (case l0 => k_is)
    (case c0 => k_is)
    (case k0 => k_is)
    (case a1 => k_is)
    (case l1 => k_is)
    (case c1 => k_is)
    (case k1 => k_is)
    (case a2 => k_is)
    (case l2 => k_is)
    (case c2 => k_is)
    (case k2 => k_is)
    (case a3 => k_is)
    (case l3 => k_is)
    (case c3 => k_is)
    (case k3 => k_is)
    (case a4 => k_is)
    (case l4 => k_is)
    (case c4 => k_is)
    (case k4 => k_is)
    (case a5 => k_is)
    (case l5 => k_is)
    (case c5 => k_is)
    (case k5 => k_is)
    (case a6 => k_is)
    (case l6 => k_is)
    (case c6 => k_is)
    (case k6 => k_is)
    (case a7 => k_is)
    (case l7 => k_is)
    (case c7 => k_is)
    (case k7 => k_is)
    (case a8 => k_is)
    (case l8 => k_is)
    (case c8 => k_is)
    (case k8 => k_is)
    (case a9 => k_is)
    (case l9 => k_is)
    (case c9 => k_is)
    (case k9 => k_is)
    (case a10 => k_is)
    (case l10 => k_is)
    (case c10 => k_is)
    (case k10 => k_is)
    (case a11 => k_is)
    (case l11 => k_is)
    (case c11 => k_is)
    (case k11 => k_is)
    (case a12 => k_is)
    (case l12 => k_is)
    (case c12 => k_is)
    (case k12 => k_is)
    (case a13 => k_is)
    (case l13 => k_is)
    (case c13 => k_is)
    (case k13 => k_is)
    (case a14 => k_is)
    (case l14 => k_is)
    (case c14 => k_is)
    (case k14 => k_is)
    (case a15 => k_is)
    (case l15 => k_is)
    (case c15 => k_is)
    (case k15 => k_is)
    (case a16 => k_is)
    (case l16 => k_is)
    (case c16 => k_is)
    (case k16 => k_is)
    (case a17 => k_is)
    (case l17 => k_is)
    (case c17 => k_is)
    (case k17 => k_is)
    (case a18 => k_is)
    (case l18 => k_is)
    (case c18 => k_is)
    (case k18 => k_is)
    (case a19 => k_is)
    (case l19 => k_is)
    (case c19 => k_is)
    (case k19 => k_is)
    (case a20 => k_is)
    (case l20 => k_is)
    (case c20 => k_is)
    (case k20 => k_is)
    (case a21 => k_is)
    (case l21 => k_is)
    (case c21 => k_is)
    (case k21 => k_is)
    (case z_abs => k_is)
    (case z_all => k_is)
    (case z_bool => k_is)
    (case z_enumerate => k_is)
    (case z_int => k_is)
    (case z_isinstance => k_is)
    (case z_len => k_is)
    (case z_list => k_is)
    (case z_max => k_is)
    (case z_min => k_is)
    (case z_range => k_is)
    (case z_set => k_is)
    (case z_sorted => k_is)
    (case z_str => k_is)
    (case z_tuple => k_is)
    (case z_zip => k_is)
    (case ye_MOST_LEVELS => exact ⟨_, by k_is⟩)
    (case ye_PAIR => exact ⟨_, by k_is⟩)
#print axioms PySem.Challenge.cw_nolooking_k20_networks_level_by_level_holds
