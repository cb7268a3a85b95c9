import PyProof.Rows.All
import PySem.Challenge.RW_everycloth_k02_whole_tokens
import HandS.ForMost
import HandS.ForExc
import HandS.HeadHook2
import HandS.ExcInit
import HandS.Dict
import HandS.Lambda
import HandS.Flow
import HandS.Style
import HandS.Defaults
import HandS.ExcOwn
import HandS.TryMany
import HandS.ExcField
import HandS.IsInst
import HandS.Text
import HandS.Wide
import HandS.TupAny
import HandS.Codes
import HandS.Deep
import HandS.WideBits
import HandS.TupSets
import HandS.RaiseMore
import HandS.Zip
import HandS.Rev
import HandS.Small
import HandS.Words
import HandS.HeadHook4
import HandS.HeadWalk
import HandS.HeadEnd
import HandS.Head2
set_option Elab.async false
set_option linter.all false
set_option maxRecDepth 100000
set_option maxHeartbeats 4000000
namespace EV
open PySem PySem.Spec PyProof.Rows L2

/-- plain data -/
inductive D where
  | any | non | bl (b : Bool) | int (i : Int) | str (s : Str)
  | tup (xs : List D) | lst (xs : List D)
  | obj (c : Str) (fs : List (Str × D))
  | exo (c : Str) (fs : List (Str × D))
  | dct (ps : List (Key × D))
  | scr (xs : List D)
  deriving Inhabited

/-- what a name owns: a frozen value, or a tree of things of its own -/
inductive Ow (A : Type) where
  | v (x : A) (d : D)
  | lst (x : A) (xs : List (Ow A))
  | obj (x : A) (c : Str) (fs : List (Str × Ow A))
  | dct (x : A) (ps : List (Key × Ow A))

abbrev O := Ow Unit

section
variable {A : Type}
mutual
def Ow.toD : Ow A → D
  | .v _ d => d
  | .lst _ xs => .lst (Ow.toDs xs)
  | .obj _ c fs => .obj c (Ow.toDf fs)
  | .dct _ ps => .dct (Ow.toDk ps)
def Ow.toDs : List (Ow A) → List D
  | [] => []
  | x :: r => x.toD :: Ow.toDs r
def Ow.toDf : List (Str × Ow A) → List (Str × D)
  | [] => []
  | x :: r => (x.1, x.2.toD) :: Ow.toDf r
def Ow.toDk : List (Key × Ow A) → List (Key × D)
  | [] => []
  | x :: r => (x.1, x.2.toD) :: Ow.toDk r
end
mutual
def Ow.er : Ow A → O
  | .v _ d => .v () d
  | .lst _ xs => .lst () (Ow.ers xs)
  | .obj _ c fs => .obj () c (Ow.erf fs)
  | .dct _ ps => .dct () (Ow.erk ps)
def Ow.ers : List (Ow A) → List O
  | [] => []
  | x :: r => x.er :: Ow.ers r
def Ow.erf : List (Str × Ow A) → List (Str × O)
  | [] => []
  | x :: r => (x.1, x.2.er) :: Ow.erf r
def Ow.erk : List (Key × Ow A) → List (Key × O)
  | [] => []
  | x :: r => (x.1, x.2.er) :: Ow.erk r
end
def Ow.top : Ow A → A
  | .v x _ => x
  | .lst x _ => x
  | .obj x _ _ => x
  | .dct x _ => x
end
theorem Ow.toDs_map {A} (xs : List (Ow A)) : Ow.toDs xs = xs.map Ow.toD := by induction xs <;> simp_all [Ow.toDs]
theorem Ow.ers_map {A} (xs : List (Ow A)) : Ow.ers xs = xs.map Ow.er := by induction xs <;> simp_all [Ow.ers]
theorem Ow.toDf_map {A} (xs : List (Str × Ow A)) : Ow.toDf xs = xs.map (fun p => (p.1, p.2.toD)) := by induction xs <;> simp_all [Ow.toDf]
theorem Ow.erf_map {A} (xs : List (Str × Ow A)) : Ow.erf xs = xs.map (fun p => (p.1, p.2.er)) := by induction xs <;> simp_all [Ow.erf]
theorem Ow.toDk_map {A} (xs : List (Key × Ow A)) : Ow.toDk xs = xs.map (fun p => (p.1, p.2.toD)) := by induction xs <;> simp_all [Ow.toDk]
theorem Ow.erk_map {A} (xs : List (Key × Ow A)) : Ow.erk xs = xs.map (fun p => (p.1, p.2.er)) := by induction xs <;> simp_all [Ow.erk]
mutual
theorem Ow.er_toD {A} : ∀ o : Ow A, o.er.toD = o.toD
  | .v _ _ => rfl
  | .lst _ xs => by simp only [Ow.er, Ow.toD]; rw [Ow.ers_toD xs]
  | .obj _ c fs => by simp only [Ow.er, Ow.toD]; rw [Ow.erf_toD fs]
  | .dct _ fs => by simp only [Ow.er, Ow.toD]; rw [Ow.erk_toD fs]
theorem Ow.ers_toD {A} : ∀ os : List (Ow A), Ow.toDs (Ow.ers os) = Ow.toDs os
  | [] => rfl
  | x :: r => by simp only [Ow.ers, Ow.toDs]; rw [Ow.er_toD x, Ow.ers_toD r]
theorem Ow.erf_toD {A} : ∀ os : List (Str × Ow A), Ow.toDf (Ow.erf os) = Ow.toDf os
  | [] => rfl
  | x :: r => by simp only [Ow.erf, Ow.toDf]; rw [Ow.er_toD x.2, Ow.erf_toD r]
theorem Ow.erk_toD {A} : ∀ os : List (Key × Ow A), Ow.toDk (Ow.erk os) = Ow.toDk os
  | [] => rfl
  | x :: r => by simp only [Ow.erk, Ow.toDk]; rw [Ow.er_toD x.2, Ow.erk_toD r]
end

def adr : V → Addr
  | .ref a => a
  | _ => 0
mutual
def Ow.fp : Ow V → List Addr
  | .v _ _ => []
  | .lst x xs => adr x :: Ow.fps xs
  | .obj x _ fs => adr x :: Ow.fpf fs
  | .dct x fs => adr x :: Ow.fpk fs
def Ow.fps : List (Ow V) → List Addr
  | [] => []
  | x :: r => x.fp ++ Ow.fps r
def Ow.fpf : List (Str × Ow V) → List Addr
  | [] => []
  | x :: r => x.2.fp ++ Ow.fpf r
def Ow.fpk : List (Key × Ow V) → List Addr
  | [] => []
  | x :: r => x.2.fp ++ Ow.fpk r
end
theorem Ow.fps_app : ∀ xs ys : List (Ow V), Ow.fps (xs ++ ys) = Ow.fps xs ++ Ow.fps ys
  | [], ys => rfl
  | x :: r, ys => by simp only [List.cons_append, Ow.fps, Ow.fps_app r ys, List.append_assoc]
theorem Ow.fpf_fps : ∀ fs : List (Str × Ow V), Ow.fpf fs = Ow.fps (fs.map (·.2))
  | [] => rfl
  | x :: r => by simp only [List.map_cons, Ow.fpf, Ow.fps, Ow.fpf_fps r]

theorem Ow.fpk_fps : ∀ fs : List (Key × Ow V), Ow.fpk fs = Ow.fps (fs.map (·.2))
  | [] => rfl
  | x :: r => by simp only [List.map_cons, Ow.fpk, Ow.fps, Ow.fpk_fps r]

/-- the frozen part is a part of the heap -/
def Sub (Z H : Hp) : Prop := ∀ b o, Z b = some o → H b = some o
theorem Sub.refl (Z : Hp) : Sub Z Z := fun _ _ h => h
theorem Sub.trans {A B C : Hp} (h : Sub A B) (h' : Sub B C) : Sub A C := fun b o q => h' b o (h b o q)
theorem Sub.seqL {K : PySem.W.Frag} {H H' : Hp} {a : Addr} {xs : List V} (e : Sub H H') (h : SqL K H a xs) : SqL K H' a xs := Same.seq e h
theorem Sub.seqT {K : PySem.W.Frag} {H H' : Hp} {a : Addr} {xs : List V} (e : Sub H H') (h : SqT K H a xs) : SqT K H' a xs := by
  rcases h with (h | ⟨o, h⟩) | h
  · exact .inl (.inl (e _ _ h))
  · exact .inl (.inr ⟨o, e _ _ h⟩)
  · exact .inr h

section
variable (K : PySem.W.Frag)
mutual
/-- x is the datum d, by frozen things alone -/
def RepD (Z : Hp) : D → V → Prop
  | .any, _ => True
  | .non, x => x = .non
  | .bl b, x => x = .bl b
  | .int i, x => x = .int i
  | .str s, x => x = .str s
  | .tup ds, x => ∃ a vs, x = .ref a ∧ SqT K Z a vs ∧ RepDs Z ds vs
  | .lst ds, x => ∃ a vs, x = .ref a ∧ Z a = some (.lst vs) ∧ RepDs Z ds vs
  | .obj c fs, x => ∃ a dx fv, x = .ref a ∧ Z a = some (.ins (He.ga K c) dx fv) ∧ RepDf Z fs fv
  | .exo c fs, x => ∃ a, x = .ref a ∧ ((fs = [] ∧ Z a = some (exo a (He.ga K c) none)) ∨ ∃ d fv, Z a = some (exo a (He.ga K c) (some d)) ∧ Z d = some (exd d fv) ∧ RepDf Z fs fv)
  | .dct ps, x => ∃ a vs, x = .ref a ∧ Z a = some (.dK vs) ∧ RepDk Z ps vs
  | .scr ds, x => ∃ a vs, x = .ref a ∧ SqL K Z a vs ∧ RepDs Z ds vs
def RepDs (Z : Hp) : List D → List V → Prop
  | [], vs => vs = []
  | d :: ds, vs => ∃ x r, vs = x :: r ∧ RepD Z d x ∧ RepDs Z ds r
def RepDf (Z : Hp) : List (Str × D) → List (Str × V) → Prop
  | [], vs => vs = []
  | d :: ds, vs => ∃ x r, vs = (d.1, x) :: r ∧ RepD Z d.2 x ∧ RepDf Z ds r
def RepDk (Z : Hp) : List (Key × D) → List (Key × V) → Prop
  | [], vs => vs = []
  | d :: ds, vs => ∃ x r, vs = (d.1, x) :: r ∧ RepD Z d.2 x ∧ RepDk Z ds r
end
mutual
/-- the owned tree o stands in H, what is frozen in it in Z -/
def Rep (Z H : Hp) : Ow V → Prop
  | .v x d => RepD K Z d x
  | .lst x xs => ∃ a, x = .ref a ∧ H a = some (.lst (xs.map Ow.top)) ∧ Reps Z H xs
  | .obj x c fs => ∃ a dx, x = .ref a ∧ H a = some (.ins (He.ga K c) dx (fs.map fun p => (p.1, p.2.top))) ∧ Repf Z H fs
  | .dct x fs => ∃ a, x = .ref a ∧ H a = some (.dK (fs.map fun p => (p.1, p.2.top))) ∧ Repk Z H fs
def Reps (Z H : Hp) : List (Ow V) → Prop
  | [] => True
  | x :: r => Rep Z H x ∧ Reps Z H r
def Repf (Z H : Hp) : List (Str × Ow V) → Prop
  | [] => True
  | x :: r => Rep Z H x.2 ∧ Repf Z H r
def Repk (Z H : Hp) : List (Key × Ow V) → Prop
  | [] => True
  | x :: r => Rep Z H x.2 ∧ Repk Z H r
end
end
section
variable {K : PySem.W.Frag} {Z Z' H H' : Hp}
mutual
theorem RepD.mono (s : Sub Z Z') : ∀ {d : D} {x : V}, RepD K Z d x → RepD K Z' d x
  | .any, x, h => by simp only [RepD]
  | .non, x, h => by simpa only [RepD] using h
  | .bl b, x, h => by simpa only [RepD] using h
  | .int b, x, h => by simpa only [RepD] using h
  | .str b, x, h => by simpa only [RepD] using h
  | .tup ds, x, h => by
    simp only [RepD] at h ⊢
    obtain ⟨a, vs, e, q, r⟩ := h
    exact ⟨a, vs, e, s.seqT q, RepDs.mono s r⟩
  | .lst ds, x, h => by
    simp only [RepD] at h ⊢
    obtain ⟨a, vs, e, q, r⟩ := h
    exact ⟨a, vs, e, s _ _ q, RepDs.mono s r⟩
  | .obj c fs, x, h => by
    simp only [RepD] at h ⊢
    obtain ⟨a, dx, fv, e, q, r⟩ := h
    exact ⟨a, dx, fv, e, s _ _ q, RepDf.mono s r⟩
  | .exo c fs, x, h => by
    simp only [RepD] at h ⊢
    obtain ⟨a, e, ⟨q, r⟩ | ⟨d, fv, q, q2, r⟩⟩ := h
    · exact ⟨a, e, .inl ⟨q, s _ _ r⟩⟩
    · exact ⟨a, e, .inr ⟨d, fv, s _ _ q, s _ _ q2, RepDf.mono s r⟩⟩
  | .dct ds, x, h => by
    simp only [RepD] at h ⊢
    obtain ⟨a, vs, e, q, r⟩ := h
    exact ⟨a, vs, e, s _ _ q, RepDk.mono s r⟩
  | .scr ds, x, h => by
    simp only [RepD] at h ⊢
    obtain ⟨a, vs, e, q, r⟩ := h
    exact ⟨a, vs, e, s.seqL q, RepDs.mono s r⟩
theorem RepDs.mono (s : Sub Z Z') : ∀ {ds : List D} {vs : List V}, RepDs K Z ds vs → RepDs K Z' ds vs
  | [], vs, h => by simpa only [RepDs] using h
  | d :: ds, vs, h => by
    simp only [RepDs] at h ⊢
    obtain ⟨x, r, e, h1, h2⟩ := h
    exact ⟨x, r, e, RepD.mono s h1, RepDs.mono s h2⟩
theorem RepDf.mono (s : Sub Z Z') : ∀ {ds : List (Str × D)} {vs : List (Str × V)}, RepDf K Z ds vs → RepDf K Z' ds vs
  | [], vs, h => by simpa only [RepDf] using h
  | d :: ds, vs, h => by
    simp only [RepDf] at h ⊢
    obtain ⟨x, r, e, h1, h2⟩ := h
    exact ⟨x, r, e, RepD.mono s h1, RepDf.mono s h2⟩
theorem RepDk.mono (s : Sub Z Z') : ∀ {ds : List (Key × D)} {vs : List (Key × V)}, RepDk K Z ds vs → RepDk K Z' ds vs
  | [], vs, h => by simpa only [RepDk] using h
  | d :: ds, vs, h => by
    simp only [RepDk] at h ⊢
    obtain ⟨x, r, e, h1, h2⟩ := h
    exact ⟨x, r, e, RepD.mono s h1, RepDk.mono s h2⟩
end
theorem RepDs.length : ∀ {ds : List D} {vs : List V}, RepDs K Z ds vs → vs.length = ds.length
  | [], vs, h => by simp only [RepDs] at h; subst h; rfl
  | d :: ds, vs, h => by
    simp only [RepDs] at h
    obtain ⟨x, r, rfl, _, h2⟩ := h
    simp [RepDs.length h2]
theorem RepDs.get : ∀ {ds : List D} {vs : List V} {i : Nat} {d : D}, RepDs K Z ds vs → ds[i]? = some d → ∃ x, vs[i]? = some x ∧ RepD K Z d x
  | [], vs, i, d, h, e => by simp at e
  | c :: ds, vs, 0, d, h, e => by
    simp only [RepDs] at h
    obtain ⟨x, r, rfl, h1, h2⟩ := h
    simp at e; subst e
    exact ⟨x, rfl, h1⟩
  | c :: ds, vs, i + 1, d, h, e => by
    simp only [RepDs] at h
    obtain ⟨x, r, rfl, h1, h2⟩ := h
    simp at e
    obtain ⟨y, e2, h3⟩ := RepDs.get h2 e
    exact ⟨y, by simpa using e2, h3⟩
theorem RepDs.app : ∀ {ds ds' : List D} {vs vs' : List V}, RepDs K Z ds vs → RepDs K Z ds' vs' → RepDs K Z (ds ++ ds') (vs ++ vs')
  | [], ds', vs, vs', h, h' => by simp only [RepDs] at h; subst h; exact h'
  | d :: ds, ds', vs, vs', h, h' => by
    simp only [RepDs] at h
    obtain ⟨x, r, rfl, h1, h2⟩ := h
    simp only [List.cons_append, RepDs]
    exact ⟨x, r ++ vs', rfl, h1, RepDs.app h2 h'⟩
mutual
theorem Rep.mono (s : Sub Z Z') : ∀ {o : Ow V}, (∀ a ∈ o.fp, H' a = H a) → Rep K Z H o → Rep K Z' H' o
  | .v x d, _, h => by simp only [Rep] at h ⊢; exact h.mono s
  | .lst x xs, k, h => by
    simp only [Rep] at h ⊢
    obtain ⟨a, rfl, q, r⟩ := h
    refine ⟨a, rfl, ?_, Reps.mono s (fun b hb => k b ?_) r⟩
    · rw [k a (by simp [Ow.fp, adr])]; exact q
    · simp [Ow.fp, hb]
  | .obj x c fs, k, h => by
    simp only [Rep] at h ⊢
    obtain ⟨a, dx, rfl, q, r⟩ := h
    refine ⟨a, dx, rfl, ?_, Repf.mono s (fun b hb => k b ?_) r⟩
    · rw [k a (by simp [Ow.fp, adr])]; exact q
    · simp [Ow.fp, hb]
  | .dct x xs, k, h => by
    simp only [Rep] at h ⊢
    obtain ⟨a, rfl, q, r⟩ := h
    refine ⟨a, rfl, ?_, Repk.mono s (fun b hb => k b ?_) r⟩
    · rw [k a (by simp [Ow.fp, adr])]; exact q
    · simp [Ow.fp, hb]
theorem Reps.mono (s : Sub Z Z') : ∀ {os : List (Ow V)}, (∀ a ∈ Ow.fps os, H' a = H a) → Reps K Z H os → Reps K Z' H' os
  | [], _, _ => trivial
  | x :: r, k, h => by
    simp only [Reps] at h ⊢
    exact ⟨Rep.mono s (fun a ha => k a (by simp [Ow.fps, ha])) h.1, Reps.mono s (fun a ha => k a (by simp [Ow.fps, ha])) h.2⟩
theorem Repf.mono (s : Sub Z Z') : ∀ {os : List (Str × Ow V)}, (∀ a ∈ Ow.fpf os, H' a = H a) → Repf K Z H os → Repf K Z' H' os
  | [], _, _ => trivial
  | x :: r, k, h => by
    simp only [Repf] at h ⊢
    exact ⟨Rep.mono s (fun a ha => k a (by simp [Ow.fpf, ha])) h.1, Repf.mono s (fun a ha => k a (by simp [Ow.fpf, ha])) h.2⟩
theorem Repk.mono (s : Sub Z Z') : ∀ {os : List (Key × Ow V)}, (∀ a ∈ Ow.fpk os, H' a = H a) → Repk K Z H os → Repk K Z' H' os
  | [], _, _ => trivial
  | x :: r, k, h => by
    simp only [Repk] at h ⊢
    exact ⟨Rep.mono s (fun a ha => k a (by simp [Ow.fpk, ha])) h.1, Repk.mono s (fun a ha => k a (by simp [Ow.fpk, ha])) h.2⟩
end
theorem Reps_app {xs ys : List (Ow V)} : Reps K Z H (xs ++ ys) ↔ Reps K Z H xs ∧ Reps K Z H ys := by
  induction xs with
  | nil => simp [Reps]
  | cons x r ih => simp only [List.cons_append, Reps, ih, and_assoc]
theorem Reps_iff {xs : List (Ow V)} : Reps K Z H xs ↔ ∀ r ∈ xs, Rep K Z H r := by
  induction xs with
  | nil => simp [Reps]
  | cons x r ih => simp [Reps, ih]
theorem Repf_iff {xs : List (Str × Ow V)} : Repf K Z H xs ↔ Reps K Z H (xs.map (·.2)) := by
  induction xs with
  | nil => simp [Reps, Repf]
  | cons x r ih => simp [Reps, Repf, ih]
theorem Repk_iff {xs : List (Key × Ow V)} : Repk K Z H xs ↔ Reps K Z H (xs.map (·.2)) := by
  induction xs with
  | nil => simp [Reps, Repk]
  | cons x r ih => simp [Reps, Repk, ih]
/-- an owned tree's places are tracked -/
theorem Rep.there : ∀ {o : Ow V}, Rep K Z H o → ∀ a ∈ o.fp, ∃ u, H a = some u ∧ ∀ ps, u ≠ HO.tbl ps := by
  intro o
  exact Ow.rec (motive_1 := fun o => Rep K Z H o → ∀ a ∈ o.fp, ∃ u, H a = some u ∧ ∀ ps, u ≠ HO.tbl ps)
    (motive_2 := fun os => Reps K Z H os → ∀ a ∈ Ow.fps os, ∃ u, H a = some u ∧ ∀ ps, u ≠ HO.tbl ps)
    (motive_3 := fun os => Repf K Z H os → ∀ a ∈ Ow.fpf os, ∃ u, H a = some u ∧ ∀ ps, u ≠ HO.tbl ps)
    (motive_4 := fun os => Repk K Z H os → ∀ a ∈ Ow.fpk os, ∃ u, H a = some u ∧ ∀ ps, u ≠ HO.tbl ps)
    (motive_5 := fun p => Rep K Z H p.2 → ∀ a ∈ p.2.fp, ∃ u, H a = some u ∧ ∀ ps, u ≠ HO.tbl ps)
    (motive_6 := fun p => Rep K Z H p.2 → ∀ a ∈ p.2.fp, ∃ u, H a = some u ∧ ∀ ps, u ≠ HO.tbl ps)
    (fun x d _ a ha => by simp [Ow.fp] at ha)
    (fun x xs ih h a ha => by
      simp only [Rep] at h
      obtain ⟨b, rfl, q, r⟩ := h
      simp only [Ow.fp, adr, List.mem_cons] at ha
      rcases ha with rfl | ha
      · exact ⟨_, q, fun ps z => by cases z⟩
      · exact ih r a ha)
    (fun x c fs ih h a ha => by
      simp only [Rep] at h
      obtain ⟨b, dx, rfl, q, r⟩ := h
      simp only [Ow.fp, adr, List.mem_cons] at ha
      rcases ha with rfl | ha
      · exact ⟨_, q, fun ps z => by cases z⟩
      · exact ih r a ha)
    (fun x fs ih h a ha => by
      simp only [Rep] at h
      obtain ⟨b, rfl, q, r⟩ := h
      simp only [Ow.fp, adr, List.mem_cons] at ha
      rcases ha with rfl | ha
      · exact ⟨_, q, fun ps z => by cases z⟩
      · exact ih r a ha)
    (fun _ a ha => by simp [Ow.fps] at ha)
    (fun x r ih1 ih2 h a ha => by
      simp only [Reps] at h
      simp only [Ow.fps, List.mem_append] at ha
      rcases ha with ha | ha
      · exact ih1 h.1 a ha
      · exact ih2 h.2 a ha)
    (fun _ a ha => by simp [Ow.fpf] at ha)
    (fun x r ih1 ih2 h a ha => by
      simp only [Repf] at h
      simp only [Ow.fpf, List.mem_append] at ha
      rcases ha with ha | ha
      · exact ih1 h.1 a ha
      · exact ih2 h.2 a ha)
    (fun _ a ha => by simp [Ow.fpk] at ha)
    (fun x r ih1 ih2 h a ha => by
      simp only [Repk] at h
      simp only [Ow.fpk, List.mem_append] at ha
      rcases ha with ha | ha
      · exact ih1 h.1 a ha
      · exact ih2 h.2 a ha)
    (fun _ _ ih => ih) (fun _ _ ih => ih) o
end
end EV

set_option Elab.async false
set_option linter.all false
set_option maxRecDepth 100000
set_option maxHeartbeats 4000000
namespace EV
open PySem PySem.Spec PyProof.Rows L2

theorem Ow.fps_flat (rs : List (Ow V)) : Ow.fps rs = rs.flatMap Ow.fp := by
  induction rs with
  | nil => rfl
  | cons x r ih => simp [Ow.fps, ih]

def isMut : HO → Bool
  | .lst _ => true
  | .ins _ _ _ => true
  | .dK _ => true
  | _ => false
/-- what else is true of the frozen part and the heap, whatever the roots do -/
structure Wld where
  T : List (Addr × Str)
  U : Hp → Hp → Prop
  new : ∀ {Z H : Hp} {p : Addr} {o : HO}, U Z H → H p = none → U Z (L2.upd H p o)
  muta : ∀ {Z H : Hp} {a : Addr} {o o' : HO}, U Z H → H a = some o → isMut o = true → Z a = none → U Z (L2.upd H a o')
  grow : ∀ {Z Z' H : Hp}, U Z H → Sub Z Z' → Sub Z' H → U Z' H
  tab : ∀ {Z H H' : Hp}, U Z H → LamX.ExtN H H' → LamX.Tabs T H' → U Z H'
  tabs : ∀ {Z H : Hp}, U Z H → LamX.Tabs T H
/-- which worlds are spoken of -/
structure Pc where
  T : List (Addr × Str)
  A : Wld → Prop
def Pc.ok (P : Pc) (W : Wld) : Prop := W.T = P.T ∧ P.A W
/-- the owned roots rs stand apart in H, over the frozen part Z -/
structure Good (W : Wld) (K : PySem.W.Frag) (Z H : Hp) (rs : List (Ow V)) : Prop where
  aux : W.U Z H
  sub : Sub Z H
  rep : Reps K Z H rs
  nd : (Ow.fps rs).Nodup
  fr : ∀ a ∈ Ow.fps rs, Z a = none
  nt : ∀ a ps, Z a ≠ some (.tbl ps)
section
variable {W : Wld} {K : PySem.W.Frag} {Z H : Hp} {rs ts : List (Ow V)} {r : Ow V} {x : V} {d : D}
theorem fps_perm {rs rs' : List (Ow V)} (p : rs.Perm rs') : (Ow.fps rs).Perm (Ow.fps rs') := by
  induction p with
  | nil => exact .refl _
  | cons x _ ih => simp only [Ow.fps]; exact ih.append_left _
  | swap x y l =>
    simp only [Ow.fps, ← List.append_assoc]
    exact List.Perm.append_right _ List.perm_append_comm
  | trans _ _ ih1 ih2 => exact ih1.trans ih2
theorem fps_sub {rs rs' : List (Ow V)} (p : rs.Sublist rs') : (Ow.fps rs).Sublist (Ow.fps rs') := by
  induction p with
  | slnil => exact .refl _
  | cons x _ ih => simp only [Ow.fps]; exact ih.trans (List.sublist_append_right _ _)
  | cons_cons x _ ih => simp only [Ow.fps]; exact ih.append_left _
theorem Good.perm (g : Good W K Z H rs) {rs' : List (Ow V)} (p : rs.Perm rs') : Good W K Z H rs' :=
  ⟨g.aux, g.sub, Reps_iff.mpr fun r hr => Reps_iff.mp g.rep r (p.mem_iff.mpr hr), (fps_perm p).nodup_iff.mp g.nd, fun a ha => g.fr a ((fps_perm p).mem_iff.mpr ha), g.nt⟩
theorem Good.sublist (g : Good W K Z H rs) {rs' : List (Ow V)} (p : rs'.Sublist rs) : Good W K Z H rs' := by
  have q : (Ow.fps rs').Sublist (Ow.fps rs) := fps_sub p
  exact ⟨g.aux, g.sub, Reps_iff.mpr fun r hr => Reps_iff.mp g.rep r (p.subset hr), q.nodup g.nd, fun a ha => g.fr a (q.subset ha), g.nt⟩
theorem Good.tail (g : Good W K Z H (r :: rs)) : Good W K Z H rs := g.sublist (List.sublist_cons_self _ _)
theorem Good.left (g : Good W K Z H (rs ++ ts)) : Good W K Z H rs := g.sublist (List.sublist_append_left _ _)
theorem Good.right (g : Good W K Z H (rs ++ ts)) : Good W K Z H ts := g.sublist (List.sublist_append_right _ _)
theorem Good.head (g : Good W K Z H (r :: rs)) : Rep K Z H r := by have := g.rep; simp only [Reps] at this; exact this.1
theorem Good.cons_v (g : Good W K Z H rs) (h : RepD K Z d x) : Good W K Z H (.v x d :: rs) := by
  refine ⟨g.aux, g.sub, ?_, ?_, ?_, g.nt⟩
  · simp only [Reps, Rep]; exact ⟨h, g.rep⟩
  · simp only [Ow.fps, Ow.fp, List.nil_append]; exact g.nd
  · simp only [Ow.fps, Ow.fp, List.nil_append]; exact g.fr
theorem Good.v (g : Good W K Z H (.v x d :: rs)) : RepD K Z d x := by have := g.head; simpa only [Rep] using this
/-- the frozen part may grow by things that no root owns; H may change outside the roots -/
theorem Good.grow (g : Good W K Z H rs) {Z' H' : Hp} (u : W.U Z' H') (n : ∀ a ps, Z' a ≠ some (.tbl ps)) (s : Sub Z Z') (s' : Sub Z' H') (k : ∀ a ∈ Ow.fps rs, H' a = H a ∧ Z' a = none) : Good W K Z' H' rs :=
  ⟨u, s', Reps.mono s (fun a ha => (k a ha).1) g.rep, g.nd, fun a ha => (k a ha).2, n⟩
theorem Good.there (g : Good W K Z H rs) : ∀ a ∈ Ow.fps rs, ∃ u, H a = some u ∧ ∀ ps, u ≠ HO.tbl ps := by
  intro a ha
  rw [Ow.fps_flat] at ha
  obtain ⟨r, hr, ha⟩ := List.mem_flatMap.mp ha
  exact (Reps_iff.mp g.rep r hr).there a ha
theorem Good.new (g : Good W K Z H rs) {p : Addr} (hp : H p = none) : p ∉ Ow.fps rs := fun h => by
  obtain ⟨u, e, _⟩ := g.there p h
  rw [hp] at e; cases e
theorem Sub.none (s : Sub Z H) {p : Addr} (hp : H p = none) : Z p = none := by
  cases e : Z p with
  | none => rfl
  | some o => rw [s p o e] at hp; cases hp
/-- a new object that is tracked, owned by none -/
theorem Good.upd (g : Good W K Z H rs) {p : Addr} {o : HO} (hp : H p = none) : Good W K Z (upd H p o) rs := by
  refine g.grow (W.new g.aux hp) g.nt (Sub.refl _) (fun b u e => ?_) fun a ha => ⟨?_, g.fr a ha⟩
  · rw [upd_ne (ne_of_none (g.sub _ _ e) hp)]; exact g.sub _ _ e
  · exact upd_ne (fun z => by subst z; exact g.new hp ha)
/-- a new object, frozen at once -/
theorem Good.updZ (g : Good W K Z H rs) {p : Addr} {o : HO} (hp : H p = none) (no : ∀ ps, o ≠ .tbl ps) : Good W K (L2.upd Z p o) (L2.upd H p o) rs ∧ Sub Z (L2.upd Z p o) := by
  have hz := Sub.none g.sub hp
  have s : Sub Z (L2.upd Z p o) := fun b u e => by rw [upd_ne (ne_of_none e hz)]; exact e
  have s2 : Sub (L2.upd Z p o) (L2.upd H p o) := fun b u e => by
    by_cases hb : b = p
    · subst hb; rw [upd_same] at e ⊢; exact e
    · rw [upd_ne hb] at e ⊢; exact g.sub _ _ e
  have n2 : ∀ a ps, L2.upd Z p o a ≠ some (.tbl ps) := fun a ps e => by
    by_cases hb : a = p
    · subst hb; rw [upd_same] at e; exact no ps (Option.some.inj e)
    · rw [upd_ne hb] at e; exact g.nt a ps e
  refine ⟨g.grow (W.grow (W.new g.aux hp) s s2) n2 s s2 fun a ha => ⟨?_, ?_⟩, s⟩
  · exact upd_ne (fun z => by subst z; exact g.new hp ha)
  · rw [upd_ne (fun z => by subst z; exact g.new hp ha)]; exact g.fr a ha
/-- a list is opened into its items -/
theorem Good.openL {xs : List (Ow V)} (g : Good W K Z H (.lst x xs :: rs)) : ∃ a, x = .ref a ∧ H a = some (.lst (xs.map Ow.top)) ∧ Good W K Z H (xs ++ rs) ∧ a ∉ Ow.fps (xs ++ rs) ∧ Z a = none := by
  have h := g.head
  simp only [Rep] at h
  obtain ⟨a, rfl, q, r⟩ := h
  have nd := g.nd
  simp only [Ow.fps, Ow.fp, adr, List.cons_append, List.nodup_cons] at nd
  have fr := g.fr
  simp only [Ow.fps, Ow.fp, adr, List.cons_append, List.mem_cons] at fr
  refine ⟨a, rfl, q, ⟨g.aux, g.sub, Reps_app.mpr ⟨r, g.tail.rep⟩, ?_, fun b hb => fr b (.inr ?_), g.nt⟩, ?_, fr a (.inl rfl)⟩
  · rw [Ow.fps_app]; exact nd.2
  · rw [Ow.fps_app] at hb; exact hb
  · rw [Ow.fps_app]; exact nd.1
theorem Sub.upd (s : Sub Z H) {a : Addr} {o : HO} (hz : Z a = Option.none) : Sub Z (L2.upd H a o) := fun b u e => by
  have hb : b ≠ a := ne_of_none e hz
  rw [upd_ne hb]; exact s _ _ e
theorem aux_upd {o : HO} {a : Addr} (u : W.U Z H) (hz : Z a = none) (hm : H a = none ∨ ∃ o, H a = some o ∧ isMut o = true) : W.U Z (L2.upd H a o) := by
  rcases hm with h | ⟨o', h, m⟩
  · exact W.new u h
  · exact W.muta u h m hz
/-- and closed again, with any items -/
theorem Good.closeL {xs : List (Ow V)} {a : Addr} (g : Good W K Z H (xs ++ rs)) (ha : a ∉ Ow.fps (xs ++ rs)) (hz : Z a = none) (hm : H a = none ∨ ∃ o, H a = some o ∧ isMut o = true) : Good W K Z (L2.upd H a (.lst (xs.map Ow.top))) (.lst (.ref a) xs :: rs) := by
  have g' : Good W K Z (L2.upd H a (.lst (xs.map Ow.top))) (xs ++ rs) := g.grow (aux_upd g.aux hz hm) g.nt (Sub.refl _) (Sub.upd g.sub hz) fun b hb => ⟨upd_ne (fun z => by subst z; exact ha hb), g.fr b hb⟩
  have r := Reps_app.mp g'.rep
  refine ⟨g'.aux, g'.sub, ?_, ?_, ?_, g.nt⟩
  · simp only [Reps, Rep]
    exact ⟨⟨a, rfl, upd_same, r.1⟩, r.2⟩
  · simp only [Ow.fps, Ow.fp, adr, List.cons_append, List.nodup_cons]
    rw [← Ow.fps_app]; exact ⟨ha, g.nd⟩
  · simp only [Ow.fps, Ow.fp, adr, List.cons_append, List.mem_cons]
    rw [← Ow.fps_app]
    rintro b (rfl | hb)
    · exact hz
    · exact g.fr b hb
theorem upd_self {a : Addr} {o : HO} (h : H a = some o) : L2.upd H a o = H := by
  funext b
  by_cases hb : b = a
  · subst hb; rw [upd_same, h]
  · rw [upd_ne hb]
theorem Good.openO {c : Str} {fs : List (Str × Ow V)} (g : Good W K Z H (.obj x c fs :: rs)) : ∃ a dx, x = .ref a ∧ H a = some (.ins (He.ga K c) dx (fs.map fun p => (p.1, p.2.top))) ∧ Good W K Z H (fs.map (·.2) ++ rs) ∧ a ∉ Ow.fps (fs.map (·.2) ++ rs) ∧ Z a = none := by
  have h := g.head
  simp only [Rep] at h
  obtain ⟨a, dx, rfl, q, r⟩ := h
  have nd := g.nd
  simp only [Ow.fps, Ow.fp, adr, List.cons_append, List.nodup_cons] at nd
  have fr := g.fr
  simp only [Ow.fps, Ow.fp, adr, List.cons_append, List.mem_cons] at fr
  rw [Ow.fpf_fps] at nd fr
  refine ⟨a, dx, rfl, q, ⟨g.aux, g.sub, Reps_app.mpr ⟨Repf_iff.mp r, g.tail.rep⟩, ?_, fun b hb => fr b (.inr ?_), g.nt⟩, ?_, fr a (.inl rfl)⟩
  · rw [Ow.fps_app]; exact nd.2
  · rw [Ow.fps_app] at hb; exact hb
  · rw [Ow.fps_app]; exact nd.1
theorem Good.closeO {c : Str} {fs : List (Str × Ow V)} {a dx : Addr} (g : Good W K Z H (fs.map (·.2) ++ rs)) (ha : a ∉ Ow.fps (fs.map (·.2) ++ rs)) (hz : Z a = none) (hm : H a = none ∨ ∃ o, H a = some o ∧ isMut o = true) :
    Good W K Z (L2.upd H a (.ins (He.ga K c) dx (fs.map fun p => (p.1, p.2.top)))) (.obj (.ref a) c fs :: rs) := by
  have g' : Good W K Z (L2.upd H a (.ins (He.ga K c) dx (fs.map fun p => (p.1, p.2.top)))) (fs.map (·.2) ++ rs) := g.grow (aux_upd g.aux hz hm) g.nt (Sub.refl _) (Sub.upd g.sub hz) fun b hb => ⟨upd_ne (fun z => by subst z; exact ha hb), g.fr b hb⟩
  have r := Reps_app.mp g'.rep
  refine ⟨g'.aux, g'.sub, ?_, ?_, ?_, g.nt⟩
  · simp only [Reps, Rep]
    exact ⟨⟨a, dx, rfl, upd_same, Repf_iff.mpr r.1⟩, r.2⟩
  · simp only [Ow.fps, Ow.fp, adr, List.cons_append, List.nodup_cons]
    rw [Ow.fpf_fps, ← Ow.fps_app]; exact ⟨ha, g.nd⟩
  · simp only [Ow.fps, Ow.fp, adr, List.cons_append, List.mem_cons]
    rw [Ow.fpf_fps, ← Ow.fps_app]
    rintro b (rfl | hb)
    · exact hz
    · exact g.fr b hb

theorem Good.openK {fs : List (Key × Ow V)} (g : Good W K Z H (.dct x fs :: rs)) : ∃ a, x = .ref a ∧ H a = some (.dK (fs.map fun p => (p.1, p.2.top))) ∧ Good W K Z H (fs.map (·.2) ++ rs) ∧ a ∉ Ow.fps (fs.map (·.2) ++ rs) ∧ Z a = none := by
  have h := g.head
  simp only [Rep] at h
  obtain ⟨a, rfl, q, r⟩ := h
  have nd := g.nd
  simp only [Ow.fps, Ow.fp, adr, List.cons_append, List.nodup_cons] at nd
  have fr := g.fr
  simp only [Ow.fps, Ow.fp, adr, List.cons_append, List.mem_cons] at fr
  rw [Ow.fpk_fps] at nd fr
  refine ⟨a, rfl, q, ⟨g.aux, g.sub, Reps_app.mpr ⟨Repk_iff.mp r, g.tail.rep⟩, ?_, fun b hb => fr b (.inr ?_), g.nt⟩, ?_, fr a (.inl rfl)⟩
  · rw [Ow.fps_app]; exact nd.2
  · rw [Ow.fps_app] at hb; exact hb
  · rw [Ow.fps_app]; exact nd.1
theorem Good.closeK {fs : List (Key × Ow V)} {a : Addr} (g : Good W K Z H (fs.map (·.2) ++ rs)) (ha : a ∉ Ow.fps (fs.map (·.2) ++ rs)) (hz : Z a = none) (hm : H a = none ∨ ∃ o, H a = some o ∧ isMut o = true) :
    Good W K Z (L2.upd H a (.dK (fs.map fun p => (p.1, p.2.top)))) (.dct (.ref a) fs :: rs) := by
  have g' : Good W K Z (L2.upd H a (.dK (fs.map fun p => (p.1, p.2.top)))) (fs.map (·.2) ++ rs) := g.grow (aux_upd g.aux hz hm) g.nt (Sub.refl _) (Sub.upd g.sub hz) fun b hb => ⟨upd_ne (fun z => by subst z; exact ha hb), g.fr b hb⟩
  have r := Reps_app.mp g'.rep
  refine ⟨g'.aux, g'.sub, ?_, ?_, ?_, g.nt⟩
  · simp only [Reps, Rep]
    exact ⟨⟨a, rfl, upd_same, Repk_iff.mpr r.1⟩, r.2⟩
  · simp only [Ow.fps, Ow.fp, adr, List.cons_append, List.nodup_cons]
    rw [Ow.fpk_fps, ← Ow.fps_app]; exact ⟨ha, g.nd⟩
  · simp only [Ow.fps, Ow.fp, adr, List.cons_append, List.mem_cons]
    rw [Ow.fpk_fps, ← Ow.fps_app]
    rintro b (rfl | hb)
    · exact hz
    · exact g.fr b hb

/-- the tables of code objects have grown -/
theorem Good.ext (g : Good W K Z H rs) {H' : Hp} (e : LamX.ExtN H H') (t : LamX.Tabs W.T H') : Good W K Z H' rs :=
  g.grow (W.tab g.aux e t) g.nt (Sub.refl _) (fun b o h => e b o (g.sub b o h) fun ps z => g.nt b ps (z ▸ h)) fun a ha => by
    obtain ⟨u, h, n⟩ := g.there a ha
    exact ⟨by rw [h]; exact e a u h n, g.fr a ha⟩
/-! ### freezing -/
def frz (Z H : Hp) (fp : List Addr) : Hp := fun b => if b ∈ fp then H b else Z b
theorem frz_sub (s : Sub Z H) {fp : List Addr} (h : ∀ a ∈ fp, Z a = none) : Sub Z (frz Z H fp) := fun b o e => by
  unfold frz
  by_cases hb : b ∈ fp
  · rw [h b hb] at e; cases e
  · rw [if_neg hb]; exact e
theorem frz_in (s : Sub Z H) {fp : List Addr} : Sub (frz Z H fp) H := fun b o e => by
  unfold frz at e
  by_cases hb : b ∈ fp
  · rw [if_pos hb] at e; exact e
  · rw [if_neg hb] at e; exact s _ _ e
theorem frz_at {fp : List Addr} {a : Addr} (h : a ∈ fp) : frz Z H fp a = H a := if_pos h
theorem frz_out {fp : List Addr} {a : Addr} (h : a ∉ fp) : frz Z H fp a = Z a := if_neg h
mutual
theorem frz_rep {Z' : Hp} (s : Sub Z Z') : ∀ {o : Ow V}, (∀ a ∈ o.fp, Z' a = H a) → Rep K Z H o → RepD K Z' o.toD o.top
  | .v x d, k, h => by simp only [Rep] at h; exact h.mono s
  | .lst x xs, k, h => by
    simp only [Rep] at h
    obtain ⟨a, rfl, q, r⟩ := h
    simp only [Ow.toD, Ow.top, RepD]
    refine ⟨a, xs.map Ow.top, rfl, ?_, frz_reps s (fun b hb => k b (by simp [Ow.fp, hb])) r⟩
    rw [k a (by simp [Ow.fp, adr])]; exact q
  | .obj x c fs, k, h => by
    simp only [Rep] at h
    obtain ⟨a, dx, rfl, q, r⟩ := h
    simp only [Ow.toD, Ow.top, RepD]
    refine ⟨a, dx, fs.map fun p => (p.1, p.2.top), rfl, ?_, frz_repf s (fun b hb => k b (by simp [Ow.fp, hb])) r⟩
    rw [k a (by simp [Ow.fp, adr])]; exact q
  | .dct x fs, k, h => by
    simp only [Rep] at h
    obtain ⟨a, rfl, q, r⟩ := h
    simp only [Ow.toD, Ow.top, RepD]
    refine ⟨a, fs.map fun p => (p.1, p.2.top), rfl, ?_, frz_repk s (fun b hb => k b (by simp [Ow.fp, hb])) r⟩
    rw [k a (by simp [Ow.fp, adr])]; exact q
theorem frz_reps {Z' : Hp} (s : Sub Z Z') : ∀ {os : List (Ow V)}, (∀ a ∈ Ow.fps os, Z' a = H a) → Reps K Z H os → RepDs K Z' (Ow.toDs os) (os.map Ow.top)
  | [], _, _ => by simp [Ow.toDs, RepDs]
  | x :: r, k, h => by
    simp only [Reps] at h
    simp only [Ow.toDs, List.map_cons, RepDs]
    exact ⟨_, _, rfl, frz_rep s (fun a ha => k a (by simp [Ow.fps, ha])) h.1, frz_reps s (fun a ha => k a (by simp [Ow.fps, ha])) h.2⟩
theorem frz_repf {Z' : Hp} (s : Sub Z Z') : ∀ {os : List (Str × Ow V)}, (∀ a ∈ Ow.fpf os, Z' a = H a) → Repf K Z H os → RepDf K Z' (Ow.toDf os) (os.map fun p => (p.1, p.2.top))
  | [], _, _ => by simp [Ow.toDf, RepDf]
  | x :: r, k, h => by
    simp only [Repf] at h
    simp only [Ow.toDf, List.map_cons, RepDf]
    exact ⟨_, _, rfl, frz_rep s (fun a ha => k a (by simp [Ow.fpf, ha])) h.1, frz_repf s (fun a ha => k a (by simp [Ow.fpf, ha])) h.2⟩
theorem frz_repk {Z' : Hp} (s : Sub Z Z') : ∀ {os : List (Key × Ow V)}, (∀ a ∈ Ow.fpk os, Z' a = H a) → Repk K Z H os → RepDk K Z' (Ow.toDk os) (os.map fun p => (p.1, p.2.top))
  | [], _, _ => by simp [Ow.toDk, RepDk]
  | x :: r, k, h => by
    simp only [Repk] at h
    simp only [Ow.toDk, List.map_cons, RepDk]
    exact ⟨_, _, rfl, frz_rep s (fun a ha => k a (by simp [Ow.fpk, ha])) h.1, frz_repk s (fun a ha => k a (by simp [Ow.fpk, ha])) h.2⟩
end
/-- a root's datum, by the frozen part and the root's own places -/
theorem Good.snap (g : Good W K Z H (r :: rs)) : RepD K (frz Z H r.fp) r.toD r.top ∧ Sub (frz Z H r.fp) H ∧ Sub Z (frz Z H r.fp) := by
  have fr : ∀ a ∈ r.fp, Z a = none := fun a ha => g.fr a (by simp [Ow.fps, ha])
  exact ⟨frz_rep (frz_sub g.sub fr) (fun a ha => frz_at ha) g.head, frz_in g.sub, frz_sub g.sub fr⟩
theorem Good.freeze (g : Good W K Z H (r :: rs)) : ∃ Z', Sub Z Z' ∧ Good W K Z' H (.v r.top r.toD :: rs) := by
  obtain ⟨h1, h2, h3⟩ := g.snap
  have n2 : ∀ a ps, frz Z H r.fp a ≠ some (.tbl ps) := fun a ps e => by
    by_cases hb : a ∈ r.fp
    · rw [frz_at hb] at e
      obtain ⟨u, e2, n⟩ := g.there a (by simp [Ow.fps, hb])
      rw [e] at e2
      exact n ps (Option.some.inj e2).symm
    · rw [frz_out hb] at e; exact g.nt a ps e
  refine ⟨_, h3, (g.tail.grow (W.grow g.aux h3 h2) n2 h3 h2 fun a ha => ⟨rfl, ?_⟩).cons_v h1⟩
  have nd := g.nd
  simp only [Ow.fps] at nd
  rw [frz_out]
  · exact g.tail.fr a ha
  · exact fun hb => (List.nodup_append.mp nd).2.2 a hb a ha rfl
end

/-! ### what an evaluation gives -/
/-- an exception in the air: its class, its fields -/
structure Ex where
  c : Str
  fs : List (Str × D)
abbrev Env := List (Option O)
inductive R (α : Type) where
  | ok (a : α)
  | exc (x : Ex) (env : Env)
  | bad
abbrev Ev := Env → R (O × Env)
abbrev Et := Env → R (Bool × Env)
abbrev Ea := Env → R (List O × Env)
inductive Out where
  | nx (env : Env) | ret (o : O) (env : Env) | brk (env : Env) | cnt (env : Env) | exc (x : Ex) (env : Env) | bad
abbrev Es := Env → Out
inductive FR where
  | ok (o : O) (back : Env) | exc (x : Ex) (back : Env) | bad
abbrev Fn := List O → FR

abbrev Sl := List (Option (Ow V))
def tops (sl : Sl) : L2.St := sl.map (Option.map Ow.top)
def ers (sl : Sl) : Env := sl.map (Option.map Ow.er)
def roots (sl : Sl) : List (Ow V) := sl.filterMap id
@[simp] theorem tops_length (sl : Sl) : (tops sl).length = sl.length := by simp [tops]
@[simp] theorem ers_length (sl : Sl) : (ers sl).length = sl.length := by simp [ers]
theorem ers_get {sl : Sl} {i : Nat} {o : O} (h : (ers sl)[i]? = some (some o)) : ∃ r, sl[i]? = some (some r) ∧ r.er = o := by
  simp only [ers, List.getElem?_map] at h
  cases e : sl[i]? with
  | none => rw [e] at h; simp at h
  | some q =>
    cases q with
    | none => rw [e] at h; simp at h
    | some r => rw [e] at h; simp at h; exact ⟨r, rfl, h⟩
theorem tops_get {sl : Sl} {i : Nat} {r : Ow V} (h : sl[i]? = some (some r)) : (tops sl)[i]? = some (some r.top) := by
  simp [tops, List.getElem?_map, h]
theorem tops_set {sl : Sl} {i : Nat} {q : Option (Ow V)} : tops (sl.set i q) = (tops sl).set i (q.map Ow.top) := by simp [tops, List.map_set]
theorem ers_set {sl : Sl} {i : Nat} {q : Option (Ow V)} : ers (sl.set i q) = (ers sl).set i (q.map Ow.er) := by simp [ers, List.map_set]
/-- the same top at a place: nothing is changed -/
theorem tops_set_same {sl : Sl} {i : Nat} {r r' : Ow V} (h : sl[i]? = some (some r)) (e : r'.top = r.top) : tops (sl.set i (some r')) = tops sl := by
  rw [tops_set]
  apply List.ext_getElem? 
  intro j
  rw [List.getElem?_set]
  split
  · rename_i ij
    subst ij
    obtain ⟨hl, e0⟩ := List.getElem?_eq_some_iff.mp h
    simp [hl, tops, e0, e]
  · rfl
/-- one root taken out of the slots -/
theorem roots_out : ∀ {sl : Sl} {i : Nat} {r : Ow V}, sl[i]? = some (some r) → (roots sl).Perm (r :: roots (sl.set i none))
  | [], i, r, h => by simp at h
  | q :: sl, 0, r, h => by
    simp at h; subst h
    simp [roots]
  | q :: sl, i + 1, r, h => by
    simp at h
    have ih := roots_out h
    cases q with
    | none => simpa [roots] using ih
    | some y =>
      have : roots (some y :: sl) = y :: roots sl := by simp [roots]
      rw [this]
      have : roots ((some y :: sl).set (i + 1) none) = y :: roots (sl.set i none) := by simp [roots]
      rw [this]
      exact (ih.cons y).trans (List.Perm.swap _ _ _)
/-- put in at a place that is free -/
theorem roots_in : ∀ {sl : Sl} {i : Nat} {r : Ow V}, i < sl.length → (roots (sl.set i (some r))).Perm (r :: roots (sl.set i none))
  | [], i, r, h => by simp at h
  | q :: sl, 0, r, h => by simp [roots]
  | q :: sl, i + 1, r, h => by
    simp at h
    have ih := roots_in (r := r) h
    cases q with
    | none => simpa [roots] using ih
    | some y =>
      have : roots ((some y :: sl).set (i + 1) (some r)) = y :: roots (sl.set i (some r)) := by simp [roots]
      rw [this]
      have : roots ((some y :: sl).set (i + 1) none) = y :: roots (sl.set i none) := by simp [roots]
      rw [this]
      exact (ih.cons y).trans (List.Perm.swap _ _ _)
/-- dropping a slot's root -/
theorem roots_drop : ∀ (sl : Sl) (i : Nat), (roots (sl.set i none)).Sublist (roots sl)
  | [], i => by simp [roots]
  | q :: sl, 0 => by
    cases q with
    | none => simp [roots]
    | some y => simp only [List.set_cons_zero, roots, List.filterMap_cons, id]; exact List.sublist_cons_self _ _
  | q :: sl, i + 1 => by
    have ih := roots_drop sl i
    cases q with
    | none => simpa [roots] using ih
    | some y => simp only [List.set_cons_succ, roots, List.filterMap_cons, id] at ih ⊢; exact ih.cons_cons y
end EV

set_option Elab.async false
set_option linter.all false
set_option maxRecDepth 100000
set_option maxHeartbeats 4000000
namespace EV
open PySem PySem.Spec PyProof.Rows L2

def R.bind {α β : Type} (r : R (α × Env)) (f : α → Env → R β) : R β := match r with
  | .ok p => f p.1 p.2
  | .exc x e => .exc x e
  | .bad => .bad
@[simp] theorem R.bind_ok {α β : Type} (a : α) (e : Env) (f : α → Env → R β) : (R.ok (a, e)).bind f = f a e := rfl
@[simp] theorem R.bind_exc {α β : Type} (x : Ex) (e : Env) (f : α → Env → R β) : (R.exc x e : R (α × Env)).bind f = .exc x e := rfl
@[simp] theorem R.bind_bad {α β : Type} (f : α → Env → R β) : (R.bad : R (α × Env)).bind f = .bad := rfl

/-! ### readings of anything that is known of an expression -/
def tU (X : Cx) (e : Expr) : TE := fun σ H Q => ∃ t, PE X e t ∧ t σ H Q
theorem pe_U {X : Cx} {e : Expr} : PE X e (tU X e) := ⟨fun pins s σ H Q I ⟨_, h, q⟩ => h.run pins s σ H Q I q⟩
def tUT (X : Cx) (e : Expr) : TT := fun σ H Q => ∃ t, PT X e t ∧ t σ H Q
theorem pt_U {X : Cx} {e : Expr} : PT X e (tUT X e) := ⟨fun pins s σ H Q I ⟨_, h, q⟩ => h.run pins s σ H Q I q⟩
def tUW (X : Cx) (e : Expr) : TT := fun σ H Q => ∃ t, PW X e t ∧ t σ H Q
theorem pw_U {X : Cx} {e : Expr} : PW X e (tUW X e) := ⟨fun wh pins s σ H Q I ⟨_, h, q⟩ => h.run wh pins s σ H Q I q⟩
def tUA (X : Cx) (es : List Expr) : TA := fun σ H Q => ∃ t, PA X es t ∧ t σ H Q
theorem pa_U {X : Cx} {es : List Expr} : PA X es (tUA X es) := ⟨fun pos pins s σ H Q I ⟨_, h, q⟩ => h.run pos pins s σ H Q I q⟩
def tUS (X : Cx) (st : Stmt) : TS := fun D σ H => ∃ t, PS X st t ∧ t D σ H
theorem ps_U {X : Cx} {st : Stmt} : PS X st (tUS X st) := ⟨fun pins s σ H D I ⟨_, h, q⟩ => h.run pins s σ H D I q⟩
def tUSs (X : Cx) (st : List Stmt) : TS := fun D σ H => ∃ t, PSs X st t ∧ t D σ H
theorem pss_U {X : Cx} {st : List Stmt} : PSs X st (tUSs X st) := ⟨fun pins s σ H D I ⟨_, h, q⟩ => h.run pins s σ H D I q⟩

/-! ### exceptions -/
def RepX (K : PySem.W.Frag) (Z : Hp) (x : Ex) (c : Value) (d : Option Addr) : Prop :=
  c = .ref (He.ga K x.c) ∧ ((x.fs = [] ∧ d = none) ∨ ∃ da fv, d = some da ∧ Z da = some (.xd fv) ∧ RepDf K Z x.fs fv)
def XOut (X : Cx) (c : Value) (d : Option Addr) (σ : L2.St) (H : Hp) : Prop := ∃ W, Takes X W ∧ W c d σ H

/-- what a result of an evaluation grants -/
def PostR (W : Wld) (X : Cx) (sl : Sl) (ts : List (Ow V)) (Z : Hp) {α : Type} (k : α → Hp → Hp → Sl → Prop) : R (α × Env) → Prop
  | .ok p => ∀ Z' H' sl', Sub Z Z' → ers sl' = p.2 → tops sl' = tops sl → k p.1 Z' H' sl'
  | .exc x env => ∀ Z' H' sl' c d, Sub Z Z' → Good W X.K Z' H' (roots sl' ++ ts) → ers sl' = env → tops sl' = tops sl → RepX X.K Z' x c d → XOut X c d (tops sl') H'
  | .bad => False
def PostE (W : Wld) (X : Cx) (sl : Sl) (ts : List (Ow V)) (Z : Hp) (Q : VK) (r : R (O × Env)) : Prop :=
  PostR W X sl ts Z (fun o Z' H' sl' => ∀ oa, Good W X.K Z' H' (oa :: (roots sl' ++ ts)) → oa.er = o → Q oa.top H') r
def PostT (W : Wld) (X : Cx) (sl : Sl) (ts : List (Ow V)) (Z : Hp) (Q : Bool → Hp → Prop) (r : R (Bool × Env)) : Prop :=
  PostR W X sl ts Z (fun b Z' H' sl' => Good W X.K Z' H' (roots sl' ++ ts) → Q b H') r
def PostA (W : Wld) (X : Cx) (sl : Sl) (ts : List (Ow V)) (Z : Hp) (Q : List V → Hp → Prop) (r : R (List O × Env)) : Prop :=
  PostR W X sl ts Z (fun os Z' H' sl' => ∀ oas, Good W X.K Z' H' (oas ++ (roots sl' ++ ts)) → oas.map Ow.er = os → Q (oas.map Ow.top) H') r
def Snd (P : Pc) (X : Cx) (e : Expr) (f : Ev) : Prop := ∀ W, P.ok W → ∀ Z H sl ts Q, Good W X.K Z H (roots sl ++ ts) → PostE W X sl ts Z Q (f (ers sl)) → tU X e (tops sl) H Q
def SndT (P : Pc) (X : Cx) (e : Expr) (f : Et) : Prop := ∀ W, P.ok W → ∀ Z H sl ts Q, Good W X.K Z H (roots sl ++ ts) → PostT W X sl ts Z Q (f (ers sl)) → tUT X e (tops sl) H Q
def SndA (P : Pc) (X : Cx) (es : List Expr) (f : Ea) : Prop := ∀ W, P.ok W → ∀ Z H sl ts Q, Good W X.K Z H (roots sl ++ ts) → PostA W X sl ts Z Q (f (ers sl)) → tUA X es (tops sl) H Q

/-- a result is followed by a further evaluation -/
theorem PostR.bind {X : Cx} {sl : Sl} {ts : List (Ow V)} {Z : Hp} {α β : Type} {r : R (α × Env)} {f : α → Env → R (β × Env)} {k : β → Hp → Hp → Sl → Prop}
    (h : PostR W X sl ts Z k (r.bind f)) : PostR W X sl ts Z (fun a Z' H' sl' => PostR W X sl' ts Z' k (f a (ers sl'))) r := by
  cases r with
  | ok p =>
    intro Z' H' sl' s e t
    simp only [R.bind] at h
    rw [← e] at h
    generalize f p.1 (ers sl') = q at h
    cases q with
    | ok q =>
      intro Z2 H2 sl2 s2 e2 t2
      exact h Z2 H2 sl2 (s.trans s2) e2 (t2.trans t)
    | exc x env =>
      intro Z2 H2 sl2 c d s2 g2 e2 t2 r2
      exact h Z2 H2 sl2 c d (s.trans s2) g2 e2 (t2.trans t) r2
    | bad => exact h
  | exc x env => exact h
  | bad => exact h
theorem PostR.imp {X : Cx} {sl : Sl} {ts ts' : List (Ow V)} {Z : Hp} {α : Type} {r : R (α × Env)} {k k' : α → Hp → Hp → Sl → Prop}
    (h : PostR W X sl ts Z k r) (hts : ts.Sublist ts') (hk : ∀ a Z' H' sl', Sub Z Z' → tops sl' = tops sl → k a Z' H' sl' → k' a Z' H' sl') : PostR W X sl ts' Z k' r := by
  cases r with
  | ok p => exact fun Z' H' sl' s e t => hk _ _ _ _ s t (h Z' H' sl' s e t)
  | exc x env => exact fun Z' H' sl' c d s g e t r => h Z' H' sl' c d s (g.sublist ((List.Sublist.refl _).append hts)) e t r
  | bad => exact h

/-! ### scalars and names -/
def evLit (d : D) : Ev := fun env => .ok (.v () d, env)
/-- a name that is read: what it owns is frozen -/
def evVar (i : Nat) : Ev := fun env => match env[i]? with
  | some (some o) => .ok (.v () o.toD, env.set i (some (.v () o.toD)))
  | _ => .bad
/-- a name that gives away what it owns -/
def evMove (i : Nat) : Ev := fun env => match env[i]? with
  | some (some o) => .ok (o, env.set i none)
  | _ => .bad
theorem snd_of_c {X : Cx} {e : Expr} {x : V} {d : D} (h : PE X e (tC x)) (r : ∀ Z, RepD X.K Z d x) : Snd P X e (evLit d) := fun W hW Z H sl ts Q g p =>
  ⟨_, h, p Z H sl (Sub.refl _) rfl rfl (.v x d) (g.cons_v (r Z)) rfl⟩
theorem snd_int {X : Cx} {i : Int} {j pos} : Snd P X (.Constant (.int i) j pos) (evLit (.int i)) := snd_of_c pe_int fun _ => by simp [RepD]
theorem snd_bl {X : Cx} {b : Bool} {j pos} : Snd P X (.Constant (.bool b) j pos) (evLit (.bl b)) := snd_of_c pe_bl fun _ => by simp [RepD]
theorem snd_non {X : Cx} {j pos} : Snd P X (.Constant .none j pos) (evLit .non) := snd_of_c pe_non fun _ => by simp [RepD]
theorem snd_str {X : Cx} {x : Str} {j pos} : Snd P X (.Constant (.str x) j pos) (evLit (.str x)) := snd_of_c pe_str fun _ => by simp [RepD]
theorem snd_var {X : Cx} {i : Nat} {x : Str} {pos : Pos} (h : PE X (.Name x pos) (tVar i)) : Snd P X (.Name x pos) (evVar i) := by
  intro W hW Z H sl ts Q g p
  refine ⟨_, h, ?_⟩
  unfold evVar at p
  split at p
  · rename_i o ho
    obtain ⟨r, hr, rfl⟩ := ers_get ho
    refine ⟨r.top, tops_get hr, ?_⟩
    have hl : i < sl.length := (List.getElem?_eq_some_iff.mp hr).1
    have g1 : Good W X.K Z H (r :: (roots (sl.set i none) ++ ts)) := g.perm ((roots_out hr).append_right ts)
    obtain ⟨Z', s, g2⟩ := g1.freeze
    have g3 : Good W X.K Z' H (.v r.top r.toD :: (roots (sl.set i (some (.v r.top r.toD))) ++ ts)) := by
      refine Good.cons_v ?_ g2.v
      exact g2.perm ((roots_in (r := .v r.top r.toD) hl).symm.append_right ts)
    refine p Z' H (sl.set i (some (.v r.top r.toD))) s ?_ (tops_set_same hr rfl) (.v r.top r.toD) g3 ?_
    · rw [ers_set]; simp [Ow.er, Ow.er_toD]
    · simp [Ow.er, Ow.er_toD]
  · exact p.elim
theorem snd_move {X : Cx} {i : Nat} {x : Str} {pos : Pos} (h : PE X (.Name x pos) (tVar i)) : ∀ Z H sl ts (Q : VK), Good W X.K Z H (roots sl ++ ts) → (match evMove i (ers sl) with
    | .ok p => ∀ r, sl[i]? = some (some r) → r.er = p.1 → Good W X.K Z H (r :: (roots (sl.set i none) ++ ts)) → ers (sl.set i none) = p.2 → Q r.top H
    | _ => False) → tU X (.Name x pos) (tops sl) H Q := by
  intro Z H sl ts Q g p
  refine ⟨_, h, ?_⟩
  unfold evMove at p
  split at p
  · rename_i pp hp
    split at hp
    · rename_i o ho
      cases hp
      obtain ⟨r, hr, rfl⟩ := ers_get ho
      refine ⟨r.top, tops_get hr, p r hr rfl (g.perm ((roots_out hr).append_right ts)) ?_⟩
      rw [ers_set]; rfl
    · cases hp
  · exact p.elim

/-! ### operands -/
/-- an operand: an expression (its value frozen), or a name that is read when all operands are told -/
inductive Opd where
  | e (f : Ev) | r (i : Nat)
def isV : O → Bool
  | .v _ _ => true
  | _ => false
/-- what is told of an item by its list: its datum if it is frozen -/
def topD {A : Type} : Ow A → D
  | .v _ d => d
  | _ => .any
def flatD : Option (Option O) → Option D
  | some (some (.v _ d)) => some d
  | some (some (.lst _ xs)) => some (.lst (xs.map topD))
  | some (some (.dct _ ps)) => some (.dct (ps.map fun p => (p.1, topD p.2)))
  | _ => none
def evOps : List Opd → Env → R (List D × Env)
  | [], env => .ok ([], env)
  | .e f :: r, env => (f env).bind fun o e1 => (evOps r e1).bind fun ds e2 => .ok (o.toD :: ds, e2)
  | .r i :: r, env => match env[i]? with
    | some (some _) => (evOps r env).bind fun ds e2 => match flatD e2[i]? with
      | some d => .ok (d :: ds, e2)
      | none => .bad
    | _ => .bad
/-- d, a list's own place in H, all else frozen -/
def RepTop (K : PySem.W.Frag) (Z H : Hp) (d : D) (x : V) : Prop := RepD K Z d x ∨ (∃ ds a vs, d = .lst ds ∧ x = .ref a ∧ H a = some (.lst vs) ∧ RepDs K Z ds vs) ∨ ∃ ds a vs, d = .dct ds ∧ x = .ref a ∧ H a = some (.dK vs) ∧ RepDk K Z ds vs
def RepTops (K : PySem.W.Frag) (Z H : Hp) : List D → List V → Prop
  | [], vs => vs = []
  | d :: ds, vs => ∃ x r, vs = x :: r ∧ RepTop K Z H d x ∧ RepTops K Z H ds r
theorem RepTop.lst {K : PySem.W.Frag} {Z H : Hp} {ds : List D} {x : V} (s : Sub Z H) (h : RepTop K Z H (.lst ds) x) : ∃ a vs, x = .ref a ∧ H a = some (.lst vs) ∧ RepDs K Z ds vs := by
  rcases h with h | ⟨ds', a, vs, e, rfl, q, r⟩ | ⟨ds', a, vs, e, _⟩
  · simp only [RepD] at h
    obtain ⟨a, vs, rfl, q, r⟩ := h
    exact ⟨a, vs, rfl, s _ _ q, r⟩
  · cases e
    exact ⟨a, vs, rfl, q, r⟩
  · cases e
theorem RepTop.dct {K : PySem.W.Frag} {Z H : Hp} {ds : List (Key × D)} {x : V} (s : Sub Z H) (h : RepTop K Z H (.dct ds) x) : ∃ a vs, x = .ref a ∧ H a = some (.dK vs) ∧ RepDk K Z ds vs := by
  rcases h with h | ⟨ds', a, vs, e, _⟩ | ⟨ds', a, vs, e, rfl, q, r⟩
  · simp only [RepD] at h
    obtain ⟨a, vs, rfl, q, r⟩ := h
    exact ⟨a, vs, rfl, s _ _ q, r⟩
  · cases e
  · cases e
    exact ⟨a, vs, rfl, q, r⟩
def isMutD : D → Bool
  | .lst _ => true
  | .dct _ => true
  | _ => false
theorem RepTop.v {K : PySem.W.Frag} {Z H : Hp} {d : D} {x : V} (h : RepTop K Z H d x) (n : isMutD d = false := by rfl) : RepD K Z d x := by
  rcases h with h | ⟨ds', a, vs, e, _⟩ | ⟨ds', a, vs, e, _⟩
  · exact h
  · subst e; cases n
  · subst e; cases n
/-- several expressions, from the left -/
def seqU (X : Cx) : List Expr → L2.St → Hp → (List V → Hp → Prop) → Prop
  | [], _, H, k => k [] H
  | e :: es, σ, H, k => tU X e σ H fun x H1 => seqU X es σ H1 fun xs H2 => k (x :: xs) H2
def SndO (P : Pc) (X : Cx) (es : List Expr) (ops : List Opd) : Prop := ∀ W, P.ok W → ∀ Z H sl ts (Q : List V → Hp → Prop), Good W X.K Z H (roots sl ++ ts) →
  PostR W X sl ts Z (fun ds Z' H' sl' => Good W X.K Z' H' (roots sl' ++ ts) → ∀ vs, RepTops X.K Z' H' ds vs → Q vs H') (evOps ops (ers sl)) → seqU X es (tops sl) H Q
theorem sndo_nil {X : Cx} : SndO P X [] [] := fun W hW Z H sl ts Q g p => p Z H sl (Sub.refl _) rfl rfl g [] (by simp [RepTops])
theorem sndo_e {X : Cx} {e : Expr} {es : List Expr} {f : Ev} {ops : List Opd} (h : Snd P X e f) (hs : SndO P X es ops) : SndO P X (e :: es) (.e f :: ops) := by
  intro W hW Z H sl ts Q g p
  simp only [seqU]
  simp only [evOps] at p
  refine h W hW Z H sl ts _ g (p.bind.imp (List.Sublist.refl _) fun o Z1 H1 sl1 s1 t1 q oa g1 eo => ?_)
  obtain ⟨Z1', s1', g1'⟩ := g1.freeze
  rw [← t1]
  refine hs W hW Z1' H1 sl1 ts _ g1'.tail ?_
  have q' := q.bind
  generalize evOps ops (ers sl1) = r at q'
  cases r with
  | bad => exact q'
  | exc x env => exact fun Z2 H2 sl2 c d s2 g2 e2 t2 r2 => q' Z2 H2 sl2 c d (s1'.trans s2) g2 e2 t2 r2
  | ok pr =>
    intro Z2 H2 sl2 s2 e2 t2 g2 vs rv
    refine q' Z2 H2 sl2 (s1'.trans s2) e2 t2 Z2 H2 sl2 (Sub.refl _) rfl rfl g2 _ ?_
    simp only [RepTops]
    refine ⟨_, _, rfl, .inl ?_, rv⟩
    rw [← eo, Ow.er_toD]
    exact g1'.v.mono s2
theorem topD_er : ∀ r : Ow V, topD r.er = topD r
  | .v _ _ => rfl
  | .lst _ _ => rfl
  | .obj _ _ _ => rfl
  | .dct _ _ => rfl
theorem topD_rep {K : PySem.W.Frag} {Z H : Hp} : ∀ {r : Ow V}, Rep K Z H r → RepD K Z (topD r) r.top
  | .v _ _, h => by simp only [Rep] at h; exact h
  | .lst _ _, h => by simp only [topD, RepD]
  | .obj _ _ _, h => by simp only [topD, RepD]
  | .dct _ _, h => by simp only [topD, RepD]
theorem topDs_rep {K : PySem.W.Frag} {Z H : Hp} : ∀ {rs : List (Ow V)}, Reps K Z H rs → RepDs K Z ((Ow.ers rs).map topD) (rs.map Ow.top)
  | [], h => by simp [Ow.ers, RepDs]
  | r :: rs, h => by
    simp only [Reps] at h
    simp only [Ow.ers, List.map_cons, RepDs, topD_er]
    exact ⟨_, _, rfl, topD_rep h.1, topDs_rep h.2⟩
theorem topDk_rep {K : PySem.W.Frag} {Z H : Hp} : ∀ {rs : List (Key × Ow V)}, Repk K Z H rs → RepDk K Z ((Ow.erk rs).map fun p => (p.1, topD p.2)) (rs.map fun p => (p.1, p.2.top))
  | [], h => by simp [Ow.erk, RepDk]
  | r :: rs, h => by
    simp only [Repk] at h
    simp only [Ow.erk, List.map_cons, RepDk, topD_er]
    exact ⟨_, _, rfl, topD_rep h.1, topDk_rep h.2⟩
theorem flat_rep {K : PySem.W.Frag} {Z H : Hp} {r : Ow V} {rs : List (Ow V)} {d : D} (g : Good W K Z H (r :: rs)) (h : flatD (some (some r.er)) = some d) : RepTop K Z H d r.top := by
  have hr := g.head
  cases r with
  | v x d' =>
    simp only [Ow.er, flatD, Option.some.injEq] at h
    subst h
    exact .inl g.v
  | lst x xs =>
    simp only [Ow.er, flatD, Option.some.injEq] at h
    subst h
    simp only [Rep] at hr
    obtain ⟨a, rfl, q, r⟩ := hr
    exact .inr (.inl ⟨_, a, _, rfl, rfl, q, topDs_rep r⟩)
  | obj x c fs => simp [Ow.er, flatD] at h
  | dct x xs =>
    simp only [Ow.er, flatD, Option.some.injEq] at h
    subst h
    simp only [Rep] at hr
    obtain ⟨a, rfl, q, r⟩ := hr
    exact .inr (.inr ⟨_, a, _, rfl, rfl, q, topDk_rep r⟩)
theorem sndo_r {X : Cx} {i : Nat} {x : Str} {pos : Pos} {es : List Expr} {ops : List Opd} (h : PE X (.Name x pos) (tVar i)) (hs : SndO P X es ops) : SndO P X (.Name x pos :: es) (.r i :: ops) := by
  intro W hW Z H sl ts Q g p
  simp only [seqU]
  simp only [evOps] at p
  split at p
  · rename_i o ho
    obtain ⟨r, hr, rfl⟩ := ers_get ho
    refine ⟨_, h, r.top, tops_get hr, ?_⟩
    refine hs W hW Z H sl ts _ g (p.bind.imp (List.Sublist.refl _) fun ds Z1 H1 sl1 s1 t1 q g1 vs rv => ?_)
    cases e : flatD (ers sl1)[i]? with
    | none => rw [e] at q; exact q.elim
    | some d =>
      rw [e] at q
      have e' := e
      unfold flatD at e'
      cases e2 : (ers sl1)[i]? with
      | none => rw [e2] at e'; cases e'
      | some o1 =>
        cases o1 with
        | none => rw [e2] at e'; cases e'
        | some o1 =>
          obtain ⟨r1, hr1, rfl⟩ := ers_get e2
          rw [e2] at e
          have et : r1.top = r.top := by
            have a := tops_get hr1
            rw [t1, tops_get hr] at a
            simpa using a.symm
          refine q Z1 H1 sl1 (Sub.refl _) rfl rfl g1 _ ?_
          simp only [RepTops]
          refine ⟨_, _, rfl, ?_, rv⟩
          rw [← et]
          exact flat_rep (g1.perm ((roots_out hr1).append_right ts)) e
  · exact p.elim

/-! ### built-in operations on operands -/
/-- r, of the operands' values, grants what p tells of their data -/
def PrimOk (X : Cx) (r : List V → Hp → VK → Prop) (p : List D → Option O) : Prop := ∀ W Z H rs ds vs o (Q : VK), Good W X.K Z H rs → RepTops X.K Z H ds vs → p ds = some o →
  (∀ Z' H' oa, Sub Z Z' → Good W X.K Z' H' (oa :: rs) → oa.er = o → Q oa.top H') → r vs H Q
def evPrim (p : List D → Option O) (ops : List Opd) : Ev := fun env => (evOps ops env).bind fun ds e => match p ds with
  | some o => .ok (o, e)
  | none => .bad
theorem snd_prim {X : Cx} {e : Expr} {es : List Expr} {ops : List Opd} {r : List V → Hp → VK → Prop} {p : List D → Option O} (hsh : ∀ σ H Q, seqU X es σ H (fun vs H' => r vs H' Q) → tU X e σ H Q)
    (ho : SndO P X es ops) (hp : PrimOk X r p) : Snd P X e (evPrim p ops) := by
  intro W hW Z H sl ts Q g h
  refine hsh _ _ _ (ho W hW Z H sl ts _ g (h.bind.imp (List.Sublist.refl _) fun ds Z1 H1 sl1 s1 t1 q g1 vs rv => ?_))
  cases e : p ds with
  | none => rw [e] at q; exact q.elim
  | some o =>
    rw [e] at q
    exact hp W Z1 H1 _ ds vs o Q g1 rv e fun Z2 H2 oa s2 g2 eo => q Z2 H2 sl1 s2 rfl rfl oa g2 eo

theorem tops1 {K : PySem.W.Frag} {Z H : Hp} {d : D} {vs : List V} (h : RepTops K Z H [d] vs) : ∃ x, vs = [x] ∧ RepTop K Z H d x := by
  simp only [RepTops] at h
  obtain ⟨x, r, rfl, h1, rfl⟩ := h
  exact ⟨x, rfl, h1⟩
theorem tops2 {K : PySem.W.Frag} {Z H : Hp} {d c : D} {vs : List V} (h : RepTops K Z H [d, c] vs) : ∃ x y, vs = [x, y] ∧ RepTop K Z H d x ∧ RepTop K Z H c y := by
  simp only [RepTops] at h
  obtain ⟨x, r, rfl, h1, y, r2, rfl, h2, rfl⟩ := h
  exact ⟨x, y, rfl, h1, h2⟩
theorem RepTop.int {K : PySem.W.Frag} {Z H : Hp} {i : Int} {x : V} (h : RepTop K Z H (.int i) x) : x = .int i := by
  have := h.v; simpa only [RepD] using this
theorem RepTop.str {K : PySem.W.Frag} {Z H : Hp} {i : Str} {x : V} (h : RepTop K Z H (.str i) x) : x = .str i := by
  have := h.v; simpa only [RepD] using this
theorem RepTop.bl {K : PySem.W.Frag} {Z H : Hp} {i : Bool} {x : V} (h : RepTop K Z H (.bl i) x) : x = .bl i := by
  have := h.v; simpa only [RepD] using this
theorem RepTop.non {K : PySem.W.Frag} {Z H : Hp} {x : V} (h : RepTop K Z H .non x) : x = .non := by
  have := h.v; simpa only [RepD] using this
theorem fin_v {K : PySem.W.Frag} {Z H : Hp} {rs : List (Ow V)} {d : D} {x : V} {Q : VK} (g : Good W K Z H rs) (h : RepD K Z d x) (q : ∀ Z' H' oa, Sub Z Z' → Good W K Z' H' (oa :: rs) → oa.er = .v () d → Q oa.top H') : Q x H :=
  q Z H (.v x d) (Sub.refl _) (g.cons_v h) rfl

/-! ### shapes -/
def r1 (r : V → Hp → VK → Prop) : List V → Hp → VK → Prop := fun vs H Q => match vs with
  | [x] => r x H Q
  | _ => False
def r2 (r : R2) : List V → Hp → VK → Prop := fun vs H Q => match vs with
  | [x, y] => r x y H Q
  | _ => False
theorem sh_bin {X : Cx} {op : Operator} {r : R2} {a b : Expr} {pos : Pos} (ho : OpR X (binaryOp op) r) : ∀ σ H Q, seqU X [a, b] σ H (fun vs H' => r2 r vs H' Q) → tU X (.BinOp a op b pos) σ H Q :=
  fun σ H Q h => ⟨_, pe_op ho pe_U pe_U, h⟩
theorem sh_un {X : Cx} {op : UnaryOp} {r : V → Hp → VK → Prop} {a : Expr} {pos : Pos} (ho : UnR X (unaryOp op) r) : ∀ σ H Q, seqU X [a] σ H (fun vs H' => r1 r vs H' Q) → tU X (.UnaryOp op a pos) σ H Q :=
  fun σ H Q h => ⟨_, pe_un ho pe_U, h⟩
theorem sh_cmp {X : Cx} {op : CmpOp} {r : R2} {a b : Expr} {pos : Pos} (ho : OpR X (compareOp op) r) (hm : behindInMarks op b = false) : ∀ σ H Q, seqU X [a, b] σ H (fun vs H' => r2 r vs H' Q) → tU X (.Compare a [op] [b] pos) σ H Q :=
  fun σ H Q h => ⟨_, pe_cmpR ho pe_U pe_U hm, h⟩
theorem sh_ix {X : Cx} {r : R2} {a b : Expr} {pos : Pos} (ho : IxR X r) (hs : PlainIx b) : ∀ σ H Q, seqU X [a, b] σ H (fun vs H' => r2 r vs H' Q) → tU X (.Subscript a b pos) σ H Q :=
  fun σ H Q h => ⟨_, pe_ix ho pe_U pe_U hs, h⟩

theorem OpR.imp {X : Cx} {f : Value → Value → Sem Value} {r r' : R2} (h : OpR X f r) (i : ∀ x y H Q, r' x y H Q → r x y H Q) : OpR X f r' :=
  fun pins s σ H x y v u Q I rx ry q => h pins s σ H x y v u Q I rx ry (i _ _ _ _ q)

/-! ### arithmetic -/
def pAdd : List D → Option O
  | [.int i, .int j] => some (.v () (.int (i + j)))
  | [.str i, .str j] => if i.length + j.length ≤ sizeLine then some (.v () (.str (i ++ j))) else none
  | _ => none
theorem prim_add {X : Cx} : PrimOk X (r2 (fun x y H Q => (rI0 fun i j => .int (i + j)) x y H Q ∨ ∃ i j, x = .str i ∧ y = .str j ∧ i.length + j.length ≤ sizeLine ∧ Q (.str (i ++ j)) H)) pAdd := by
  intro W Z H rs ds vs o Q g rv e q
  unfold pAdd at e
  split at e
  · cases e
    obtain ⟨x, y, rfl, hx, hy⟩ := tops2 rv
    cases hx.int; cases hy.int
    exact .inl ⟨_, _, rfl, rfl, fin_v g (by simp [RepD]) q⟩
  · split at e
    · cases e
      obtain ⟨x, y, rfl, hx, hy⟩ := tops2 rv
      cases hx.str; cases hy.str
      exact .inr ⟨_, _, rfl, rfl, by assumption, fin_v g (by simp [RepD]) q⟩
    · cases e
  · cases e
end EV

set_option Elab.async false
set_option linter.all false
set_option maxRecDepth 100000
set_option maxHeartbeats 4000000
namespace EV
open PySem PySem.Spec PyProof.Rows L2
section
variable {X : Cx}

/-! ### monotony -/
theorem PE.mono {e : Expr} {t : TE} (h : PE X e t) : PE X e (fun σ H Q => ∃ Q0, t σ H Q0 ∧ ∀ v H, Q0 v H → Q v H) :=
  ⟨fun pins s σ H Q I ⟨Q0, h0, m⟩ => thn (h.run pins s σ H Q0 I h0) fun v s1 ⟨x, H1, I1, r1, q1⟩ => ⟨x, H1, I1, r1, m _ _ q1⟩⟩
theorem tU_mono {e : Expr} {σ : L2.St} {H : Hp} {Q Q' : VK} (h : tU X e σ H Q) (m : ∀ v H, Q v H → Q' v H) : tU X e σ H Q' := by
  obtain ⟨t, ht, q⟩ := h
  exact ⟨_, PE.mono ht, Q, q, m⟩

/-! ### truth -/
def truthD : D → Option Bool
  | .non => some false
  | .bl b => some b
  | .int i => some (i != 0)
  | .str s => if s.length ≤ sizeLine then some ((s.length : Int) != 0) else none
  | .tup xs => some (!xs.isEmpty)
  | .lst xs => some (!xs.isEmpty)
  | _ => none
def evTest (f : Ev) : Et := fun env => (f env).bind fun o e => match truthD o.toD with
  | some b => .ok (b, e)
  | none => .bad
theorem truth_rep {K : PySem.W.Frag} {Z H : Hp} {d : D} {x : V} {b : Bool} (s : Sub Z H) (h : RepD K Z d x) (e : truthD d = some b) : TruV K x H b := by
  cases d with
  | non => simp only [RepD] at h; subst h; simp only [truthD, Option.some.injEq] at e; exact e.symm
  | bl c => simp only [RepD] at h; subst h; simp only [truthD, Option.some.injEq] at e; exact e.symm
  | int c => simp only [RepD] at h; subst h; simp only [truthD, Option.some.injEq] at e; exact e.symm
  | str c =>
    simp only [RepD] at h; subst h
    simp only [truthD] at e
    split at e
    · exact ⟨by assumption, (Option.some.inj e).symm⟩
    · cases e
  | tup ds =>
    simp only [RepD] at h
    obtain ⟨a, vs, rfl, q, r⟩ := h
    simp only [truthD, Option.some.injEq] at e
    refine .inr (.inl ⟨vs, s.seqT q, ?_⟩)
    rw [← e]
    have := r.length
    cases ds <;> cases vs <;> simp_all
  | lst ds =>
    simp only [RepD] at h
    obtain ⟨a, vs, rfl, q, r⟩ := h
    simp only [truthD, Option.some.injEq] at e
    refine .inl ⟨vs, SqL.of (s _ _ q), ?_⟩
    rw [← e]
    have := r.length
    cases ds <;> cases vs <;> simp_all
  | obj _ _ => simp [truthD] at e
  | exo _ _ => simp [truthD] at e
  | scr _ => simp [truthD] at e
  | dct _ => simp [truthD] at e
  | any => simp [truthD] at e
/-- any expression whose test is its value's truth -/
theorem sndt_truth {e : Expr} {f : Ev} (h : Snd P X e f) (he : ∀ whole, isTrue e X.env whole = (do let v ← whole; standAt e.pos; holding [v] (truthy v)) := by intro _; rfl) : SndT P X e (evTest f) := by
  intro W hW Z H sl ts Q g p
  refine ⟨_, pt_truth pe_U he, ?_⟩
  refine h W hW Z H sl ts _ g (PostR.imp (PostR.bind p) (List.Sublist.refl _) fun o Z1 H1 sl1 s1 t1 q oa g1 eo => ?_)
  cases e : truthD o.toD with
  | none => rw [e] at q; exact q.elim
  | some b =>
    rw [e] at q
    obtain ⟨Z2, s2, g2⟩ := g1.freeze
    rw [← eo, Ow.er_toD] at e
    exact ⟨b, truth_rep g2.sub g2.v e, q Z2 H1 sl1 s2 rfl rfl g2.tail⟩
/-- a built-in operation as a test -/
def evPrimT (p : List D → Option O) (ops : List Opd) : Et := fun env => (evOps ops env).bind fun ds e => match p ds with
  | some (.v _ (.bl b)) => .ok (b, e)
  | _ => .bad
theorem sndt_prim {e : Expr} {es : List Expr} {ops : List Opd} {r : List V → Hp → VK → Prop} {p : List D → Option O} (hsh : ∀ σ H Q, seqU X es σ H (fun vs H' => r vs H' (fun x H => ∃ k, x = .bl k ∧ Q k H)) → tUT X e σ H Q)
    (ho : SndO P X es ops) (hp : PrimOk X r p) : SndT P X e (evPrimT p ops) := by
  intro W hW Z H sl ts Q g h
  refine hsh _ _ _ (ho W hW Z H sl ts _ g (PostR.imp (PostR.bind h) (List.Sublist.refl _) fun ds Z1 H1 sl1 s1 t1 q g1 vs rv => ?_))
  cases e : p ds with
  | none => rw [e] at q; exact q.elim
  | some o =>
    rw [e] at q
    refine hp W Z1 H1 _ ds vs o _ g1 rv e fun Z2 H2 oa s2 g2 eo => ?_
    cases o with
    | v _ d =>
      cases d with
      | bl b =>
        cases oa with
        | v x d =>
          simp only [Ow.er, Ow.v.injEq, true_and] at eo
          subst eo
          have := g2.v
          simp only [RepD] at this
          exact ⟨b, this, q Z2 H2 sl1 s2 rfl rfl g2.tail⟩
        | lst _ _ => simp [Ow.er] at eo
        | obj _ _ _ => simp [Ow.er] at eo
        | dct _ _ => simp [Ow.er] at eo
      | _ => exact q.elim
    | _ => exact q.elim
theorem sh_cmpT {op : CmpOp} {r : R2} {a b : Expr} {pos : Pos} (ho : OpR X (compareOp op) r) (hm : behindInMarks op b = false) :
    ∀ σ H Q, seqU X [a, b] σ H (fun vs H' => r2 r vs H' (fun x H => ∃ k, x = .bl k ∧ Q k H)) → tUT X (.Compare a [op] [b] pos) σ H Q :=
  fun σ H Q h => ⟨_, pt_cmpR ho pe_U pe_U hm, h⟩

/-! ### and, or, not -/
def evTand (fa fb : Et) : Et := fun env => (fa env).bind fun c e => if c then fb e else .ok (false, e)
def evTor (fa fb : Et) : Et := fun env => (fa env).bind fun c e => if c then .ok (true, e) else fb e
def evTnot (fa : Et) : Et := fun env => (fa env).bind fun c e => .ok (!c, e)
def SndW (P : Pc) (X : Cx) (e : Expr) (f : Et) : Prop := ∀ W, P.ok W → ∀ Z H sl ts Q, Good W X.K Z H (roots sl ++ ts) → PostT W X sl ts Z Q (f (ers sl)) → tUW X e (tops sl) H Q
variable {a b : Expr} {rest : List Expr} {pos : Pos} {fa fb : Et}
theorem sndw_and1 (h : SndT P X a fa) : SndW P X (.BoolOp .And [a] pos) fa := fun W hW Z H sl ts Q g p => ⟨_, pw_and1 pt_U, h W hW Z H sl ts Q g p⟩
theorem sndw_or1 (h : SndT P X a fa) : SndW P X (.BoolOp .Or [a] pos) fa := fun W hW Z H sl ts Q g p => ⟨_, pw_or1 pt_U, h W hW Z H sl ts Q g p⟩
theorem sndw_and (h : SndT P X a fa) (h' : SndW P X (.BoolOp .And (b :: rest) pos) fb) : SndW P X (.BoolOp .And (a :: b :: rest) pos) (evTand fa fb) := by
  intro W hW Z H sl ts Q g p
  refine ⟨_, pw_and pt_U pw_U, ?_⟩
  refine h W hW Z H sl ts _ g (PostR.imp (PostR.bind p) (List.Sublist.refl _) fun c Z1 H1 sl1 s1 t1 q g1 => ?_)
  cases c with
  | true =>
    rw [if_pos rfl] at q ⊢
    rw [← t1]
    exact h' W hW Z1 H1 sl1 ts Q g1 q
  | false =>
    rw [if_neg Bool.false_ne_true] at q ⊢
    exact q Z1 H1 sl1 (Sub.refl _) rfl rfl g1
theorem sndw_or (h : SndT P X a fa) (h' : SndW P X (.BoolOp .Or (b :: rest) pos) fb) : SndW P X (.BoolOp .Or (a :: b :: rest) pos) (evTor fa fb) := by
  intro W hW Z H sl ts Q g p
  refine ⟨_, pw_or pt_U pw_U, ?_⟩
  refine h W hW Z H sl ts _ g (PostR.imp (PostR.bind p) (List.Sublist.refl _) fun c Z1 H1 sl1 s1 t1 q g1 => ?_)
  cases c with
  | false =>
    rw [if_neg Bool.false_ne_true] at q ⊢
    rw [← t1]
    exact h' W hW Z1 H1 sl1 ts Q g1 q
  | true =>
    rw [if_pos rfl] at q ⊢
    exact q Z1 H1 sl1 (Sub.refl _) rfl rfl g1
theorem SndW.t {e : Expr} (h : SndW P X e fa) : SndT P X e fa := fun W hW Z H sl ts Q g p => by
  obtain ⟨t, ht, q⟩ := h W hW Z H sl ts Q g p
  exact ⟨_, ht.pt, q⟩
theorem sndt_not (h : SndT P X a fa) : SndT P X (.UnaryOp .Not a pos) (evTnot fa) := by
  intro W hW Z H sl ts Q g p
  refine ⟨_, pt_not pt_U, ?_⟩
  exact h W hW Z H sl ts _ g (PostR.imp (PostR.bind p) (List.Sublist.refl _) fun c Z1 H1 sl1 s1 t1 q g1 => q Z1 H1 sl1 (Sub.refl _) rfl rfl g1)

/-! ### .. as values -/
def evVand (fa fb : Ev) : Ev := fun env => (fa env).bind fun o e => match o with
  | .v _ (.bl c) => if c then fb e else .ok (.v () (.bl false), e)
  | _ => .bad
def evVor (fa fb : Ev) : Ev := fun env => (fa env).bind fun o e => match o with
  | .v _ (.bl c) => if c then .ok (.v () (.bl true), e) else fb e
  | _ => .bad
def evVnot (fa : Ev) : Ev := fun env => (fa env).bind fun o e => match o with
  | .v _ (.bl c) => .ok (.v () (.bl (!c)), e)
  | _ => .bad
def evIfe (c : Et) (fa fb : Ev) : Ev := fun env => (c env).bind fun b e => if b then fa e else fb e
variable {ga gb : Ev}
theorem er_bl {oa : Ow V} {c : Bool} {Z H : Hp} {rs : List (Ow V)} (g : Good W X.K Z H (oa :: rs)) (e : oa.er = .v () (.bl c)) : oa.top = .bl c := by
  cases oa with
  | v x d =>
    simp only [Ow.er, Ow.v.injEq, true_and] at e
    subst e
    have := g.v
    simp only [RepD] at this
    exact this
  | lst _ _ => simp [Ow.er] at e
  | obj _ _ _ => simp [Ow.er] at e
  | dct _ _ => simp [Ow.er] at e
theorem snd_one {op : BoolOp} (h : Snd P X a ga) : Snd P X (.BoolOp op [a] pos) ga := fun W hW Z H sl ts Q g p => ⟨_, pe_one pe_U, h W hW Z H sl ts Q g p⟩
theorem snd_and (h : Snd P X a ga) (h' : Snd P X (.BoolOp .And (b :: rest) pos) gb) : Snd P X (.BoolOp .And (a :: b :: rest) pos) (evVand ga gb) := by
  intro W hW Z H sl ts Q g p
  refine ⟨_, pe_and pe_U pe_U, ?_⟩
  refine h W hW Z H sl ts _ g (PostR.imp (PostR.bind p) (List.Sublist.refl _) fun o Z1 H1 sl1 s1 t1 q oa g1 eo => ?_)
  split at q
  · rename_i c
    have e := er_bl g1 eo
    refine ⟨c, e, ?_⟩
    cases c with
    | true =>
      rw [if_pos rfl] at q ⊢
      rw [← t1]
      exact h' W hW Z1 H1 sl1 ts Q g1.tail q
    | false =>
      rw [if_neg Bool.false_ne_true] at q ⊢
      exact q Z1 H1 sl1 (Sub.refl _) rfl rfl (.v (.bl false) (.bl false)) (g1.tail.cons_v (by simp [RepD])) rfl
  · exact q.elim
theorem snd_or (h : Snd P X a ga) (h' : Snd P X (.BoolOp .Or (b :: rest) pos) gb) : Snd P X (.BoolOp .Or (a :: b :: rest) pos) (evVor ga gb) := by
  intro W hW Z H sl ts Q g p
  refine ⟨_, pe_or pe_U pe_U, ?_⟩
  refine h W hW Z H sl ts _ g (PostR.imp (PostR.bind p) (List.Sublist.refl _) fun o Z1 H1 sl1 s1 t1 q oa g1 eo => ?_)
  split at q
  · rename_i c
    have e := er_bl g1 eo
    refine ⟨c, e, ?_⟩
    cases c with
    | false =>
      rw [if_neg Bool.false_ne_true] at q ⊢
      rw [← t1]
      exact h' W hW Z1 H1 sl1 ts Q g1.tail q
    | true =>
      rw [if_pos rfl] at q ⊢
      exact q Z1 H1 sl1 (Sub.refl _) rfl rfl (.v (.bl true) (.bl true)) (g1.tail.cons_v (by simp [RepD])) rfl
  · exact q.elim
theorem snd_not (h : Snd P X a ga) : Snd P X (.UnaryOp .Not a pos) (evVnot ga) := by
  intro W hW Z H sl ts Q g p
  refine ⟨_, pe_not pe_U, ?_⟩
  refine h W hW Z H sl ts _ g (PostR.imp (PostR.bind p) (List.Sublist.refl _) fun o Z1 H1 sl1 s1 t1 q oa g1 eo => ?_)
  split at q
  · rename_i c
    exact ⟨c, er_bl g1 eo, q Z1 H1 sl1 (Sub.refl _) rfl rfl (.v (.bl (!c)) (.bl (!c))) (g1.tail.cons_v (by simp [RepD])) rfl⟩
  · exact q.elim
theorem snd_ife {c : Expr} {fc : Et} (hc : SndT P X c fc) (h : Snd P X a ga) (h' : Snd P X b gb) : Snd P X (.IfExp c a b pos) (evIfe fc ga gb) := by
  intro W hW Z H sl ts Q g p
  refine ⟨_, pe_ifExp pt_U pe_U pe_U, ?_⟩
  refine hc W hW Z H sl ts _ g (PostR.imp (PostR.bind p) (List.Sublist.refl _) fun c Z1 H1 sl1 s1 t1 q g1 => ?_)
  cases c with
  | true =>
    rw [if_pos rfl] at q ⊢
    rw [← t1]
    exact h W hW Z1 H1 sl1 ts Q g1 q
  | false =>
    rw [if_neg Bool.false_ne_true] at q ⊢
    rw [← t1]
    exact h' W hW Z1 H1 sl1 ts Q g1 q

/-! ### tuples, lists that are written -/
def pTup : List D → Option O := fun ds => if ds.length ≤ sizeLine then some (.v () (.tup ds)) else none
def pLst : List D → Option O := fun ds => if ds.length ≤ sizeLine then some (.lst () (ds.map fun d => .v () d)) else none
/-- operands that are all frozen -/
def evDs : List Ev → Env → R (List D × Env)
  | [], env => .ok ([], env)
  | f :: r, env => (f env).bind fun o e1 => (evDs r e1).bind fun ds e2 => .ok (o.toD :: ds, e2)
def SndDs (P : Pc) (X : Cx) (es : List Expr) (fs : List Ev) : Prop := ∀ W, P.ok W → ∀ Z H sl ts (Q : List V → Hp → Prop), Good W X.K Z H (roots sl ++ ts) →
  PostR W X sl ts Z (fun ds Z' H' sl' => Good W X.K Z' H' (roots sl' ++ ts) → ∀ vs, RepDs X.K Z' ds vs → Q vs H') (evDs fs (ers sl)) → tUA X es (tops sl) H Q
theorem sndd_nil : SndDs P X [] [] := fun W hW Z H sl ts Q g p => ⟨_, pa_nil, p Z H sl (Sub.refl _) rfl rfl g [] (by simp [RepDs])⟩
theorem sndd_cons {e : Expr} {es : List Expr} {f : Ev} {fs : List Ev} (h : Snd P X e f) (hs : SndDs P X es fs) (hst : starEach (e :: es) X.env = (false, eval e X.env) :: starEach es X.env := by rfl) : SndDs P X (e :: es) (f :: fs) := by
  intro W hW Z H sl ts Q g p
  refine ⟨_, pa_cons pe_U pa_U hst, ?_⟩
  simp only [evDs] at p
  refine h W hW Z H sl ts _ g (PostR.imp (PostR.bind p) (List.Sublist.refl _) fun o Z1 H1 sl1 s1 t1 q oa g1 eo => ?_)
  obtain ⟨Z1', s1', g1'⟩ := g1.freeze
  rw [← t1]
  refine hs W hW Z1' H1 sl1 ts _ g1'.tail ?_
  have q' := q.bind
  generalize evDs fs (ers sl1) = r at q'
  cases r with
  | bad => exact q'
  | exc x env => exact fun Z2 H2 sl2 c d s2 g2 e2 t2 r2 => q' Z2 H2 sl2 c d (s1'.trans s2) g2 e2 t2 r2
  | ok pr =>
    intro Z2 H2 sl2 s2 e2 t2 g2 vs rv
    refine q' Z2 H2 sl2 (s1'.trans s2) e2 t2 Z2 H2 sl2 (Sub.refl _) rfl rfl g2 _ ?_
    simp only [RepDs]
    refine ⟨_, _, rfl, ?_, rv⟩
    rw [← eo, Ow.er_toD]
    exact g1'.v.mono s2
def evTup (fs : List Ev) : Ev := fun env => (evDs fs env).bind fun ds e => if ds.length ≤ sizeLine then .ok (.v () (.tup ds), e) else .bad
def evLst (fs : List Ev) : Ev := fun env => (evDs fs env).bind fun ds e => if ds.length ≤ sizeLine then .ok (.lst () (ds.map (.v ())), e) else .bad
variable {es : List Expr} {fs : List Ev}
theorem new_tup {Z H : Hp} {rs : List (Ow V)} {ds : List D} {vs : List V} {p : Addr} (g : Good W X.K Z H rs) (r : RepDs X.K Z ds vs) (hp : H p = none) :
    ∃ Z', Sub Z Z' ∧ Good W X.K Z' (upd H p (.tup vs)) (.v (.ref p) (.tup ds) :: rs) := by
  obtain ⟨g1, s⟩ := g.updZ (o := .tup vs) hp (fun _ z => by cases z)
  refine ⟨_, s, g1.cons_v ?_⟩
  simp only [RepD]
  exact ⟨p, vs, rfl, SqT.of upd_same, r.mono s⟩
def vOf : List D → List V → List (Ow V)
  | d :: ds, x :: vs => .v x d :: vOf ds vs
  | _, _ => []
theorem vOf_fps : ∀ (ds : List D) (vs : List V), Ow.fps (vOf ds vs) = []
  | [], _ => by simp [vOf, Ow.fps]
  | d :: ds, [] => by simp [vOf, Ow.fps]
  | d :: ds, x :: vs => by simp [vOf, Ow.fps, Ow.fp, vOf_fps ds vs]
theorem vOf_top {Z : Hp} : ∀ {ds : List D} {vs : List V}, RepDs X.K Z ds vs → (vOf ds vs).map Ow.top = vs
  | [], vs, h => by simp only [RepDs] at h; subst h; rfl
  | d :: ds, vs, h => by
    simp only [RepDs] at h
    obtain ⟨x, r, rfl, _, h⟩ := h
    simp [vOf, Ow.top, vOf_top h]
theorem vOf_er {Z : Hp} : ∀ {ds : List D} {vs : List V}, RepDs X.K Z ds vs → (vOf ds vs).map Ow.er = ds.map (.v ())
  | [], vs, h => by simp only [RepDs] at h; subst h; rfl
  | d :: ds, vs, h => by
    simp only [RepDs] at h
    obtain ⟨x, r, rfl, _, h⟩ := h
    simp [vOf, Ow.er, vOf_er h]
theorem vOf_good {Z H : Hp} {rs : List (Ow V)} : ∀ {ds : List D} {vs : List V}, Good W X.K Z H rs → RepDs X.K Z ds vs → Good W X.K Z H (vOf ds vs ++ rs)
  | [], vs, g, h => by simp only [RepDs] at h; subst h; exact g
  | d :: ds, vs, g, h => by
    simp only [RepDs] at h
    obtain ⟨x, r, rfl, h1, h⟩ := h
    exact (vOf_good g h).cons_v h1
theorem new_lst {Z H : Hp} {rs : List (Ow V)} {ds : List D} {vs : List V} {p : Addr} (g : Good W X.K Z H rs) (r : RepDs X.K Z ds vs) (hp : H p = none) :
    Good W X.K Z (upd H p (.lst vs)) (.lst (.ref p) (vOf ds vs) :: rs) := by
  have g1 := vOf_good g r
  have hn : p ∉ Ow.fps (vOf ds vs ++ rs) := g1.new hp
  have g2 := g1.closeL hn (Sub.none g.sub hp) (.inl hp)
  rw [vOf_top r] at g2
  exact g2
theorem snd_tup {k : Nat} (h : SndDs P X es fs) : Snd P X (.Tuple es k pos) (evTup fs) := by
  intro W hW Z H sl ts Q g p
  refine ⟨_, pe_tup pa_U, ?_⟩
  refine h W hW Z H sl ts _ g (PostR.imp (PostR.bind p) (List.Sublist.refl _) fun ds Z1 H1 sl1 s1 t1 q g1 vs rv => ?_)
  split at q
  · refine ⟨by rw [rv.length]; assumption, fun p hp => ?_⟩
    obtain ⟨Z2, s2, g2⟩ := new_tup g1 rv hp
    exact q Z2 _ sl1 s2 rfl rfl _ g2 rfl
  · exact q.elim
theorem snd_lst (h : SndDs P X es fs) : Snd P X (.List es pos) (evLst fs) := by
  intro W hW Z H sl ts Q g p
  refine ⟨_, pe_lst pa_U, ?_⟩
  refine h W hW Z H sl ts _ g (PostR.imp (PostR.bind p) (List.Sublist.refl _) fun ds Z1 H1 sl1 s1 t1 q g1 vs rv => ?_)
  split at q
  · refine ⟨by rw [rv.length]; assumption, fun p hp => ?_⟩
    refine q Z1 _ sl1 (Sub.refl _) rfl rfl _ (new_lst g1 rv hp) ?_
    simp only [Ow.er, Ow.ers_map, vOf_er rv]
  · exact q.elim
end
end EV

set_option Elab.async false
set_option linter.all false
set_option maxRecDepth 100000
set_option maxHeartbeats 4000000
namespace EV
open PySem PySem.Spec PyProof.Rows L2

/-- the places that may have been stored into -/
def KeepT (as : List Nat) (sl sl' : Sl) : Prop := sl'.length = sl.length ∧ ∀ i, i ∉ as → (tops sl')[i]? = (tops sl)[i]?
theorem KeepT.same {as : List Nat} {sl sl' : Sl} (h : tops sl' = tops sl) : KeepT as sl sl' := by
  refine ⟨?_, fun i _ => by rw [h]⟩
  have := congrArg List.length h
  simpa using this
theorem KeepT.trans {as bs : List Nat} {a b c : Sl} (h : KeepT as a b) (h' : KeepT bs b c) : KeepT (as ++ bs) a c :=
  ⟨h'.1.trans h.1, fun i hi => by rw [h'.2 i fun z => hi (List.mem_append_right _ z), h.2 i fun z => hi (List.mem_append_left _ z)]⟩
theorem KeepT.mono {as bs : List Nat} {a b : Sl} (h : KeepT as a b) (m : ∀ i ∈ as, i ∈ bs) : KeepT bs a b := ⟨h.1, fun i hi => h.2 i fun z => hi (m i z)⟩
theorem KeepT.left {as bs : List Nat} {a b : Sl} (h : KeepT as a b) : KeepT (as ++ bs) a b := h.mono fun i hi => List.mem_append_left _ hi
theorem KeepT.right {as bs : List Nat} {a b : Sl} (h : KeepT bs a b) : KeepT (as ++ bs) a b := h.mono fun i hi => List.mem_append_right _ hi
theorem KeepT.pre {as : List Nat} {a b c : Sl} (h : tops b = tops a) (h' : KeepT as b c) : KeepT as a c := (KeepT.trans (as := []) (KeepT.same h) h')

def PostS (W : Wld) (X : Cx) (as : List Nat) (sl : Sl) (ts : List (Ow V)) (Z : Hp) (D : Ends) : Out → Prop
  | .nx env => ∀ Z' H' sl', Sub Z Z' → Good W X.K Z' H' (roots sl' ++ ts) → ers sl' = env → KeepT as sl sl' → D.nx (tops sl') H'
  | .brk env => ∀ Z' H' sl', Sub Z Z' → Good W X.K Z' H' (roots sl' ++ ts) → ers sl' = env → KeepT as sl sl' → D.bk (tops sl') H'
  | .cnt env => ∀ Z' H' sl', Sub Z Z' → Good W X.K Z' H' (roots sl' ++ ts) → ers sl' = env → KeepT as sl sl' → D.ct (tops sl') H'
  | .ret o env => ∀ Z' H' sl' oa, Sub Z Z' → Good W X.K Z' H' (oa :: (roots sl' ++ ts)) → oa.er = o → ers sl' = env → KeepT as sl sl' → D.rt oa.top H'
  | .exc x env => ∀ Z' H' sl' c d, Sub Z Z' → Good W X.K Z' H' (roots sl' ++ ts) → ers sl' = env → KeepT as sl sl' → RepX X.K Z' x c d → XOut X c d (tops sl') H'
  | .bad => False
def SndS (P : Pc) (X : Cx) (st : Stmt) (g : Es) (as : List Nat) : Prop := ∀ W, P.ok W → ∀ Z H sl ts D, Good W X.K Z H (roots sl ++ ts) → PostS W X as sl ts Z D (g (ers sl)) → tUS X st D (tops sl) H
def SndSs (P : Pc) (X : Cx) (st : List Stmt) (g : Es) (as : List Nat) : Prop := ∀ W, P.ok W → ∀ Z H sl ts D, Good W X.K Z H (roots sl ++ ts) → PostS W X as sl ts Z D (g (ers sl)) → tUSs X st D (tops sl) H

theorem PostS.pre {X : Cx} {as bs : List Nat} {sl sl1 : Sl} {ts ts' : List (Ow V)} {Z Z1 : Hp} {D : Ends} {r : Out} (h : PostS W X (bs ++ as) sl ts Z D r) (s : Sub Z Z1) (k : KeepT bs sl sl1) (hts : ts.Sublist ts') : PostS W X as sl1 ts' Z1 D r := by
  have hg : ∀ {Z' H' : Hp} {a : List (Ow V)}, Good W X.K Z' H' (a ++ ts') → Good W X.K Z' H' (a ++ ts) := fun g => g.sublist ((List.Sublist.refl _).append hts)
  cases r with
  | nx env => exact fun Z' H' sl' s' g e t => h Z' H' sl' (s.trans s') (hg g) e (k.trans t)
  | brk env => exact fun Z' H' sl' s' g e t => h Z' H' sl' (s.trans s') (hg g) e (k.trans t)
  | cnt env => exact fun Z' H' sl' s' g e t => h Z' H' sl' (s.trans s') (hg g) e (k.trans t)
  | ret o env => exact fun Z' H' sl' oa s' g eo e t => h Z' H' sl' oa (s.trans s') (hg (a := oa :: roots sl') g) eo e (k.trans t)
  | exc x env => exact fun Z' H' sl' c d s' g e t r => h Z' H' sl' c d (s.trans s') (hg g) e (k.trans t) r
  | bad => exact h
theorem PostS.mono {X : Cx} {as bs : List Nat} {sl : Sl} {ts : List (Ow V)} {Z : Hp} {D : Ends} {r : Out} (h : PostS W X bs sl ts Z D r) (m : ∀ i ∈ as, i ∈ bs) : PostS W X as sl ts Z D r := by
  cases r with
  | nx env => exact fun Z' H' sl' s' g e t => h Z' H' sl' s' g e (t.mono m)
  | brk env => exact fun Z' H' sl' s' g e t => h Z' H' sl' s' g e (t.mono m)
  | cnt env => exact fun Z' H' sl' s' g e t => h Z' H' sl' s' g e (t.mono m)
  | ret o env => exact fun Z' H' sl' oa s' g eo e t => h Z' H' sl' oa s' g eo e (t.mono m)
  | exc x env => exact fun Z' H' sl' c d s' g e t r => h Z' H' sl' c d s' g e (t.mono m) r
  | bad => exact h

/-- an expression ahead of a statement's end -/
def R.out {α : Type} (r : R (α × Env)) (f : α → Env → Out) : Out := match r with
  | .ok p => f p.1 p.2
  | .exc x e => .exc x e
  | .bad => .bad
theorem PostS.out {X : Cx} {as : List Nat} {sl : Sl} {ts : List (Ow V)} {Z : Hp} {D : Ends} {α : Type} {r : R (α × Env)} {f : α → Env → Out} (h : PostS W X as sl ts Z D (r.out f)) :
    PostR W X sl ts Z (fun a Z' H' sl' => PostS W X as sl' ts Z' D (f a (ers sl'))) r := by
  cases r with
  | ok p =>
    intro Z' H' sl' s e t
    simp only [R.out] at h
    rw [← e] at h
    exact h.pre (bs := []) s (KeepT.same t) (List.Sublist.refl _)
  | exc x env => exact fun Z' H' sl' c d s g e t r => h Z' H' sl' c d s g e (KeepT.same t) r
  | bad => exact h

def evNil : Es := fun env => .nx env
def evSeq (g h : Es) : Es := fun env => match g env with
  | .nx e => h e
  | r => r
def evXp (f : Ev) : Es := fun env => (f env).out fun _ e => .nx e
def evRet (f : Ev) : Es := fun env => (f env).out fun o e => .ret o e
def evRetN : Es := fun env => .ret (.v () .non) env
def evRetMove (i : Nat) : Es := fun env => match evMove i env with
  | .ok p => .ret p.1 p.2
  | _ => .bad
def evIf (c : Et) (g h : Es) : Es := fun env => (c env).out fun b e => if b then g e else h e
def evSet (i : Nat) (f : Ev) : Es := fun env => (f env).out fun o e => .nx (e.set i (some o))
def evBrk : Es := fun env => .brk env
def evCnt : Es := fun env => .cnt env

section
variable {X : Cx} {st : Stmt} {rest : List Stmt} {g h : Es} {as bs : List Nat} {e : Expr} {f : Ev} {pos : Pos}
theorem snds_nil : SndSs P X [] evNil [] := fun W hW Z H sl ts D gd p => ⟨_, pss_nil, p Z H sl (Sub.refl _) gd rfl (KeepT.same rfl)⟩
theorem snds_one (hs : SndS P X st g as) : SndSs P X [st] g as := fun W hW Z H sl ts D gd p => ⟨_, pss_one ps_U, hs W hW Z H sl ts D gd p⟩
theorem snds_cons (hs : SndS P X st g as) (hr : SndSs P X rest h bs) : SndSs P X (st :: rest) (evSeq g h) (as ++ bs) := by
  intro W hW Z H sl ts D gd p
  refine ⟨_, pss_cons ps_U pss_U, ?_⟩
  refine hs W hW Z H sl ts _ gd ?_
  simp only [evSeq] at p
  cases e : g (ers sl) with
  | nx env =>
    rw [e] at p
    intro Z1 H1 sl1 s1 g1 e1 k1
    subst e1
    exact hr W hW Z1 H1 sl1 ts D g1 (p.pre s1 k1 (List.Sublist.refl _))
  | brk env => rw [e] at p; exact fun Z' H' sl' s' g e t => p Z' H' sl' s' g e t.left
  | cnt env => rw [e] at p; exact fun Z' H' sl' s' g e t => p Z' H' sl' s' g e t.left
  | ret o env => rw [e] at p; exact fun Z' H' sl' oa s' g eo e t => p Z' H' sl' oa s' g eo e t.left
  | exc x env => rw [e] at p; exact fun Z' H' sl' c d s' g e t r => p Z' H' sl' c d s' g e t.left r
  | bad => rw [e] at p; exact p
theorem snds_pass : SndS P X (.Pass pos) evNil [] := fun W hW Z H sl ts D gd p => ⟨_, ps_pass, p Z H sl (Sub.refl _) gd rfl (KeepT.same rfl)⟩
theorem snds_brk : SndS P X (.Break pos) evBrk [] := fun W hW Z H sl ts D gd p => ⟨_, ps_break, p Z H sl (Sub.refl _) gd rfl (KeepT.same rfl)⟩
theorem snds_cnt : SndS P X (.Continue pos) evCnt [] := fun W hW Z H sl ts D gd p => ⟨_, ps_continue, p Z H sl (Sub.refl _) gd rfl (KeepT.same rfl)⟩
theorem snds_doc {x j pos pos'} : SndS P X (.Expr (.Constant (.str x) j pos) pos') evNil [] := fun W hW Z H sl ts D gd p => ⟨_, ps_doc, p Z H sl (Sub.refl _) gd rfl (KeepT.same rfl)⟩
theorem snds_xp (he : Snd P X e f) (hs : swapsWith e none pos.line X.env = pure false := by rfl) : SndS P X (.Expr e pos) (evXp f) [] := by
  intro W hW Z H sl ts D gd p
  refine ⟨_, ps_expr pe_U hs, ?_⟩
  refine he W hW Z H sl ts _ gd (PostR.imp (PostS.out p) (List.Sublist.refl _) fun o Z1 H1 sl1 s1 t1 q oa g1 eo => ?_)
  rw [← t1]
  exact q Z1 H1 sl1 (Sub.refl _) g1.tail rfl (KeepT.same rfl)
theorem snds_ret (he : Snd P X e f) : SndS P X (.Return (some e) pos) (evRet f) [] := by
  intro W hW Z H sl ts D gd p
  refine ⟨_, ps_ret pe_U, ?_⟩
  exact he W hW Z H sl ts _ gd (PostR.imp (PostS.out p) (List.Sublist.refl _) fun o Z1 H1 sl1 s1 t1 q oa g1 eo => q Z1 H1 sl1 oa (Sub.refl _) g1 eo rfl (KeepT.same rfl))
theorem snds_retN : SndS P X (.Return none pos) evRetN [] := by
  intro W hW Z H sl ts D gd p
  exact ⟨_, ps_retN, p Z H sl (.v .non .non) (Sub.refl _) (gd.cons_v (by simp [RepD])) rfl rfl (KeepT.same rfl)⟩
theorem KeepT.set {i : Nat} {sl : Sl} {q : Option (Ow V)} : KeepT [i] sl (sl.set i q) := by
  refine ⟨by simp, fun j hj => ?_⟩
  rw [tops_set, List.getElem?_set_ne (by simpa [eq_comm] using hj)]
theorem snds_retMove {i : Nat} {x : Str} {p0 : Pos} (hv : PE X (.Name x p0) (tVar i)) : SndS P X (.Return (some (.Name x p0)) pos) (evRetMove i) [i] := by
  intro W hW Z H sl ts D gd p
  refine ⟨_, ps_ret pe_U, ?_⟩
  refine snd_move hv Z H sl ts _ gd ?_
  simp only [evRetMove] at p
  cases e : evMove i (ers sl) with
  | ok q =>
    rw [e] at p
    exact fun r hr er g1 e1 => p Z H _ r (Sub.refl _) g1 er e1 KeepT.set
  | exc x env => rw [e] at p; exact p
  | bad => rw [e] at p; exact p
theorem snds_if {c : Expr} {fc : Et} {a b : List Stmt} (hc : SndT P X c fc) (ha : SndSs P X a g as) (hb : SndSs P X b h bs) : SndS P X (.If c a b pos) (evIf fc g h) (as ++ bs) := by
  intro W hW Z H sl ts D gd p
  refine ⟨_, ps_if pt_U pss_U pss_U, ?_⟩
  refine hc W hW Z H sl ts _ gd (PostR.imp (PostS.out p) (List.Sublist.refl _) fun c Z1 H1 sl1 s1 t1 q g1 => ?_)
  cases c with
  | true =>
    rw [if_pos rfl] at q ⊢
    rw [← t1]
    exact ha W hW Z1 H1 sl1 ts D g1 (q.mono fun i hi => List.mem_append_left _ hi)
  | false =>
    rw [if_neg Bool.false_ne_true] at q ⊢
    rw [← t1]
    exact hb W hW Z1 H1 sl1 ts D g1 (q.mono fun i hi => List.mem_append_right _ hi)
/-- a root stored at a place -/
theorem put_good {Z H : Hp} {sl : Sl} {ts : List (Ow V)} {oa : Ow V} {i : Nat} (g : Good W X.K Z H (oa :: (roots sl ++ ts))) (hi : i < sl.length) : Good W X.K Z H (roots (sl.set i (some oa)) ++ ts) := by
  have h1 : Good W X.K Z H (oa :: (roots (sl.set i none) ++ ts)) := g.sublist (((roots_drop sl i).append (List.Sublist.refl _)).cons_cons _)
  exact h1.perm ((roots_in (r := oa) hi).symm.append_right ts)
theorem snds_set {i : Nat} {x : Str} {pos' : Pos} (hl : X.N[i]? = some x) (hN : X.N.Nodup) (hx : Loc X.env.scope x) (he : Snd P X e f) (hs : swapsWith e (some (.Name x pos')) pos.line X.env = pure false := by rfl) (hf : X.fn x = true ∨ X.env.scope.names.lookup x = some .local := by first | exact .inl rfl | exact .inr rfl | assumption) :
    SndS P X (.Assign [.Name x pos'] e pos) (evSet i f) [i] := by
  intro W hW Z H sl ts D gd p
  refine ⟨_, ps_set hN hl hx pe_U hs hf, ?_⟩
  refine he W hW Z H sl ts _ gd (PostR.imp (PostS.out p) (List.Sublist.refl _) fun o Z1 H1 sl1 s1 t1 q oa g1 eo => ?_)
  show D.nx ((tops sl).set i (some oa.top)) H1
  rw [← t1]
  by_cases hi : i < sl1.length
  · have := q Z1 H1 (sl1.set i (some oa)) (Sub.refl _) (put_good g1 hi) (by rw [ers_set, ← eo]; rfl) KeepT.set
    rwa [tops_set] at this
  · have e1 : (tops sl1).set i (some oa.top) = tops sl1 := List.set_eq_of_length_le (by simpa using hi)
    rw [e1]
    exact q Z1 H1 sl1 (Sub.refl _) g1.tail (by rw [List.set_eq_of_length_le (by simpa using hi)]) (KeepT.same rfl)
end
end EV

set_option Elab.async false
set_option linter.all false
set_option maxRecDepth 100000
set_option maxHeartbeats 4000000
namespace EV
open PySem PySem.Spec PyProof.Rows L2

/-! ### targets -/
abbrev Tg := D → Env → Option Env
def tUG (X : Cx) (tg : Expr) : TG := fun v σ H Q => ∃ t, PG X tg t ∧ t v σ H Q
theorem pg_U {X : Cx} {tg : Expr} : PG X tg (tUG X tg) := ⟨fun pins s σ H v u Q I r ⟨_, h, q⟩ => h.run pins s σ H v u Q I r q⟩
def tUGs (X : Cx) (tgs : List Expr) : TGs := fun v σ H Q => ∃ t, PGs X tgs t ∧ t v σ H Q
theorem pgs_U {X : Cx} {tg : List Expr} : PGs X tg (tUGs X tg) := ⟨fun pins s σ H v u Q I r ⟨_, h, q⟩ => h.run pins s σ H v u Q I r q⟩
def PostG (W : Wld) (X : Cx) (as : List Nat) (sl : Sl) (ts : List (Ow V)) (Z : Hp) (Q : L2.St → Hp → Prop) : Option Env → Prop
  | some env => ∀ Z' H' sl', Sub Z Z' → Good W X.K Z' H' (roots sl' ++ ts) → ers sl' = env → KeepT as sl sl' → Q (tops sl') H'
  | none => False
def SndG (P : Pc) (X : Cx) (tg : Expr) (t : Tg) (as : List Nat) : Prop := ∀ W, P.ok W → ∀ Z H sl ts x d Q, Good W X.K Z H (roots sl ++ ts) → RepD X.K Z d x → PostG W X as sl ts Z Q (t d (ers sl)) → tUG X tg x (tops sl) H Q
def SndGs (P : Pc) (X : Cx) (tgs : List Expr) (t : List D → Env → Option Env) (as : List Nat) : Prop := ∀ W, P.ok W → ∀ Z H sl ts xs ds Q, Good W X.K Z H (roots sl ++ ts) → RepDs X.K Z ds xs → PostG W X as sl ts Z Q (t ds (ers sl)) → tUGs X tgs xs (tops sl) H Q
def tgName (i : Nat) : Tg := fun d env => some (env.set i (some (.v () d)))
def tgsNil : List D → Env → Option Env := fun ds env => match ds with
  | [] => some env
  | _ => none
def tgsCons (t : Tg) (u : List D → Env → Option Env) : List D → Env → Option Env := fun ds env => match ds with
  | d :: r => (t d env).bind fun e => u r e
  | [] => none
def tgTup (u : List D → Env → Option Env) : Tg := fun d env => match d with
  | .tup ds => u ds env
  | _ => none
section
variable {X : Cx} {pos : Pos}
theorem put_v {Z H : Hp} {sl : Sl} {ts : List (Ow V)} {i : Nat} {x : V} {d : D} (g : Good W X.K Z H (roots sl ++ ts)) (r : RepD X.K Z d x) : Good W X.K Z H (roots (sl.set i (some (.v x d))) ++ ts) := by
  by_cases hi : i < sl.length
  · exact put_good (g.cons_v r) hi
  · rw [List.set_eq_of_length_le (by simpa using hi)]; exact g
theorem sndg_name {i : Nat} {x : Str} (hl : X.N[i]? = some x) (hN : X.N.Nodup) (hx : Loc X.env.scope x) (hf : X.fn x = true ∨ X.env.scope.names.lookup x = some .local := by first | exact .inl rfl | exact .inr rfl | assumption) : SndG P X (.Name x pos) (tgName i) [i] := by
  intro W hW Z H sl ts y d Q g r p
  refine ⟨_, pg_name hN hl hx hf, ?_⟩
  show Q ((tops sl).set i (some y)) H
  have := p Z H (sl.set i (some (.v y d))) (Sub.refl _) (put_v g r) (by rw [ers_set]; rfl) KeepT.set
  rwa [tops_set] at this
theorem sndgs_nil : SndGs P X [] tgsNil [] := by
  intro W hW Z H sl ts xs ds Q g r p
  cases ds with
  | nil =>
    simp only [RepDs] at r
    exact ⟨_, pgs_nil, r, p Z H sl (Sub.refl _) g rfl (KeepT.same rfl)⟩
  | cons _ _ => exact p.elim
theorem sndgs_cons {e : Expr} {es : List Expr} {t : Tg} {u : List D → Env → Option Env} {as bs : List Nat} (h : SndG P X e t as) (hs : SndGs P X es u bs)
    (ha : (assignEach (e :: es) X.env).map (·.2) = assign e X.env :: (assignEach es X.env).map (·.2) := by rfl) : SndGs P X (e :: es) (tgsCons t u) (as ++ bs) := by
  intro W hW Z H sl ts xs ds Q g r p
  cases ds with
  | nil => exact p.elim
  | cons d ds =>
    simp only [RepDs] at r
    obtain ⟨x, xr, rfl, r1, r2⟩ := r
    refine ⟨_, pgs_cons pg_U pgs_U ha, x, xr, rfl, ?_⟩
    refine h W hW Z H sl ts x d _ g r1 ?_
    simp only [tgsCons] at p
    cases e : t d (ers sl) with
    | none => rw [e] at p; exact p.elim
    | some env =>
      rw [e] at p
      intro Z1 H1 sl1 s1 g1 e1 k1
      subst e1
      refine hs W hW Z1 H1 sl1 ts xr ds Q g1 (r2.mono s1) ?_
      simp only [Option.bind] at p
      cases e2 : u ds (ers sl1) with
      | none => rw [e2] at p; exact p.elim
      | some env2 =>
        rw [e2] at p
        exact fun Z2 H2 sl2 s2 g2 e2 k2 => p Z2 H2 sl2 (s1.trans s2) g2 e2 (k1.trans k2)
/-- n: as many names as the target has -/
theorem sndg_tup {es : List Expr} {k : Nat} {u : List D → Env → Option Env} {as : List Nat} (hc : X.calm = true) (h : SndGs P X es u as) (hu : ∀ ds env e, u ds env = some e → ds.length = es.length)
    (hn : (assignEach es X.env).length = es.length := by rfl) (hst : (assignEach es X.env).findIdx? (·.1) = none := by rfl) : SndG P X (.Tuple es k pos) (tgTup u) as := by
  intro W hW Z H sl ts y d Q g r p
  cases d with
  | tup ds =>
    simp only [RepD] at r
    obtain ⟨a, vs, rfl, q, r⟩ := r
    simp only [tgTup] at p
    cases e : u ds (ers sl) with
    | none => rw [e] at p; exact p.elim
    | some env =>
      refine ⟨_, pg_tup hc pgs_U hn hst, a, vs, rfl, g.sub.seqT q, ?_, h W hW Z H sl ts vs ds Q g r p⟩
      rw [r.length, hu _ _ _ e]
  | _ => exact p.elim
theorem tgsNil_len {ds : List D} {env e : Env} (h : tgsNil ds env = some e) : ds.length = 0 := by cases ds <;> simp_all [tgsNil]
theorem tgsCons_len {t : Tg} {u : List D → Env → Option Env} {n : Nat} (hu : ∀ ds env e, u ds env = some e → ds.length = n) {ds : List D} {env e : Env} (h : tgsCons t u ds env = some e) : ds.length = n + 1 := by
  cases ds with
  | nil => simp [tgsCons] at h
  | cons d ds =>
    simp only [tgsCons] at h
    cases e1 : t d env with
    | none => rw [e1] at h; cases h
    | some e2 => rw [e1] at h; simp [hu _ _ _ h]

/-! ### what is walked: data told ahead -/
abbrev EvI := Env → R (List D × Env)
def tUI (X : Cx) (tg iter : Expr) : TI := fun σ H R => ∃ wi, PI X tg iter wi ∧ wi σ H R
theorem pi_U {tg iter : Expr} : PI X tg iter (tUI X tg iter) := ⟨fun pins s σ H R I ⟨_, h, q⟩ => h.run pins s σ H R I q⟩
/-- the turns of J yield the data ds, while the frozen part stands -/
def YD (K : PySem.W.Frag) (J : It) (Z0 : Hp) (ds : List D) : Prop := ∀ i H, Sub Z0 H →
  (∀ d, ds[i]? = some d → J.go i H ∧ ∀ x H', J.yld i H x H' → (H' = H ∧ RepD K Z0 d x) ∨ ∃ T vs es, H T = none ∧ H' = upd H T (.tup vs) ∧ x = .ref T ∧ d = .tup es ∧ RepDs K Z0 es vs) ∧
  (ds.length ≤ i → J.stop i H)
def SndI (P : Pc) (X : Cx) (tg iter : Expr) (f : EvI) : Prop := ∀ W, P.ok W → ∀ Z H sl ts R, Good W X.K Z H (roots sl ++ ts) →
  PostR W X sl ts Z (fun ds Z' H' sl' => Good W X.K Z' H' (roots sl' ++ ts) → ∀ J, YD X.K J Z' ds → R J H') (f (ers sl)) → tUI X tg iter (tops sl) H R
/-- the items of a text -/
def signs (z : Str) : List D := z.cps.toList.map fun c => .str ⟨#[c]⟩
def itemsD : D → Option (List D)
  | .tup ds => some ds
  | .lst ds => some ds
  | .scr ds => some ds
  | .str z => some (signs z)
  | _ => none
def evItE (f : Ev) : EvI := fun env => (f env).bind fun o e => match itemsD o.toD with
  | some ds => .ok (ds, e)
  | none => .bad
/-- a list, a tuple or a text is walked -/
theorem pi_any {tg l : Expr} {tl : TE} (hl : PE X l tl) : PI X tg l (fun σ H R => tl σ H fun x H1 =>
    (∃ a xs, x = .ref a ∧ SqL X.K H1 a xs ∧ R (Itl X.K a) H1) ∨ (∃ a xs, x = .ref a ∧ SqT X.K H1 a xs ∧ R (Itt X.K a) H1) ∨ ∃ z, x = .str z ∧ R (Its z) H1) := by
  refine ⟨fun pins s σ H R I h => ?_⟩
  refine thn (hl.run pins s σ H _ I h) fun v s1 ⟨x, H1, I1, rx, c⟩ => ?_
  rcases c with ⟨a, xs, ea, hq, q⟩ | ⟨a, xs, ea, hq, q⟩ | ⟨z, ez, q⟩
  · subst ea; cases rx
    obtain ⟨its, _, pl, _⟩ := I1.list hq
    exact wpAny_pyIter_list pl.isList (pi_one (tk := s1.toks) I1 _ (turn_list a _) ⟨_, Heap.get?_push_size _ rfl, rfl, rfl⟩ q)
  · subst ea; cases rx
    obtain ⟨its, _, pl, _⟩ := I1.tuple hq
    exact wpAny_pyIter_tuple (show s1.heap.IsTuple a its.toArray from pl) (pi_one (tk := s1.toks) I1 _ (turn_tuple a _) ⟨_, Heap.get?_push_size _ rfl, rfl, rfl⟩ q)
  · subst ez
    obtain ⟨t, rfl⟩ := rx
    by_cases wide : z.cps.all (· < 128) = true
    · exact wpAny_pyIter_ascii wide (pi_one (tk := s1.toks) I1 _ (turn_str _ z t _ (.inl rfl)) ⟨_, Heap.get?_push_size _ rfl, rfl, rfl⟩ q)
    · exact wpAny_pyIter_wide (by simpa using wide) (pi_one (tk := s1.toks) I1 _ (turn_str _ z t _ (.inr rfl)) ⟨_, Heap.get?_push_size _ rfl, rfl, rfl⟩ q)
theorem dup_app {as : List Nat} : ∀ i ∈ as ++ as, i ∈ as := fun i hi => (List.mem_append.mp hi).elim id id
theorem sndi_e {tg e : Expr} {f : Ev} (h : Snd P X e f) : SndI P X tg e (evItE f) := by
  intro W hW Z H sl ts R g p
  refine ⟨_, pi_any pe_U, ?_⟩
  refine h W hW Z H sl ts _ g (PostR.imp (PostR.bind p) (List.Sublist.refl _) fun o Z1 H1 sl1 s1 t1 q oa g1 eo => ?_)
  obtain ⟨Z2, s2, g2⟩ := g1.freeze
  have rd := g2.v
  rw [← Ow.er_toD, eo] at rd
  cases e : o.toD with
  | tup ds =>
    rw [e] at q rd
    simp only [itemsD] at q
    simp only [RepD] at rd
    obtain ⟨a, vs, e2, sq, rv⟩ := rd
    refine .inr (.inl ⟨a, vs, e2, g2.sub.seqT sq, q Z2 H1 sl1 s2 rfl rfl g2.tail _ fun i H' s' => ⟨fun d hd => ?_, fun hi => ⟨vs, s'.seqT sq, by rw [rv.length]; exact hi⟩⟩⟩)
    obtain ⟨y, hy, ry⟩ := rv.get hd
    refine ⟨⟨vs, y, s'.seqT sq, hy⟩, fun x H2 hy2 => .inl ⟨hy2.1, ?_⟩⟩
    have := hy2.2 vs (s'.seqT sq)
    rw [hy] at this
    cases this
    exact ry
  | lst ds =>
    rw [e] at q rd
    simp only [itemsD] at q
    simp only [RepD] at rd
    obtain ⟨a, vs, e2, sq, rv⟩ := rd
    refine .inl ⟨a, vs, e2, SqL.of (g2.sub _ _ sq), q Z2 H1 sl1 s2 rfl rfl g2.tail _ fun i H' s' => ⟨fun d hd => ?_, fun hi => ⟨vs, SqL.of (s' _ _ sq), by rw [rv.length]; exact hi⟩⟩⟩
    obtain ⟨y, hy, ry⟩ := rv.get hd
    refine ⟨⟨vs, y, SqL.of (s' _ _ sq), hy⟩, fun x H2 hy2 => .inl ⟨hy2.1, ?_⟩⟩
    have := hy2.2 vs (SqL.of (s' _ _ sq))
    rw [hy] at this
    cases this
    exact ry
  | scr ds =>
    rw [e] at q rd
    simp only [itemsD] at q
    simp only [RepD] at rd
    obtain ⟨a, vs, e2, sq, rv⟩ := rd
    refine .inl ⟨a, vs, e2, g2.sub.seqL sq, q Z2 H1 sl1 s2 rfl rfl g2.tail _ fun i H' s' => ⟨fun d hd => ?_, fun hi => ⟨vs, s'.seqL sq, by rw [rv.length]; exact hi⟩⟩⟩
    obtain ⟨y, hy, ry⟩ := rv.get hd
    refine ⟨⟨vs, y, s'.seqL sq, hy⟩, fun x H2 hy2 => .inl ⟨hy2.1, ?_⟩⟩
    have := hy2.2 vs (s'.seqL sq)
    rw [hy] at this
    cases this
    exact ry
  | str z =>
    rw [e] at q rd
    simp only [itemsD] at q
    simp only [RepD] at rd
    refine .inr (.inr ⟨z, rd, q Z2 H1 sl1 s2 rfl rfl g2.tail _ fun i H' s' => ⟨fun d hd => ?_, fun hi => ?_⟩⟩)
    · simp only [signs, List.getElem?_map, Array.getElem?_toList] at hd
      cases ec : z.cps[i]? with
      | none => rw [ec] at hd; cases hd
      | some c =>
        rw [ec] at hd
        simp only [Option.map_some, Option.some.injEq] at hd
        subst hd
        refine ⟨(Array.getElem?_eq_some_iff.mp ec).1, fun x H2 hy2 => .inl ⟨hy2.1, ?_⟩⟩
        obtain ⟨c', ec', rfl⟩ := hy2.2
        rw [ec] at ec'
        cases ec'
        simp [RepD]
    · show z.cps.size ≤ i
      simpa [signs] using hi
  | _ => rw [e] at q; exact q.elim

/-! ### for -/
def forD (t : Tg) (body : Es) : List D → Env → Out
  | [], env => .nx env
  | d :: ds, env => match t d env with
    | none => .bad
    | some e1 => match body e1 with
      | .nx e2 => forD t body ds e2
      | .cnt e2 => forD t body ds e2
      | .brk e2 => .nx e2
      | r => r
def evFor (it : EvI) (t : Tg) (body : Es) : Es := fun env => (it env).out fun ds e => forD t body ds e
theorem sub_new {Z H : Hp} {p : Addr} {o : HO} (s : Sub Z H) (hp : H p = none) : Sub Z (upd H p o) := Sub.upd s (Sub.none s hp)
/-- an item that a turn yields: in the heap behind, frozen -/
theorem yld_good {Z0 Z H H' : Hp} {rs : List (Ow V)} {x : V} {d : D} (g : Good W X.K Z H rs) (s : Sub Z0 Z) (y : (H' = H ∧ RepD X.K Z0 d x) ∨ ∃ T vs es, H T = none ∧ H' = upd H T (.tup vs) ∧ x = .ref T ∧ d = .tup es ∧ RepDs X.K Z0 es vs) :
    ∃ Z', Sub Z Z' ∧ Good W X.K Z' H' rs ∧ RepD X.K Z' d x := by
  rcases y with ⟨rfl, r⟩ | ⟨T, vs, es, hT, rfl, rfl, rfl, r⟩
  · exact ⟨Z, Sub.refl _, g, r.mono s⟩
  · obtain ⟨Z', s', g'⟩ := new_tup (X := X) g (r.mono s) hT
    exact ⟨Z', s', g'.tail, g'.v⟩
theorem snds_for {tg iter : Expr} {body : List Stmt} {it : EvI} {t : Tg} {g : Es} {as bs : List Nat} (hp : PassesOwn (model X.prog X.w) X.A X.env X.xe) (hc : X.calm = true) (hi : SndI P X tg iter it) (hg : SndG P X tg t as) (hb : SndSs P X body g bs)
    (hs : ∀ x, foldedSetIterable iter X.env x = pure x := by intro _; rfl) : SndS P X (.For tg iter body [] pos) (evFor it t g) (as ++ bs) := by
  intro W hW Z H sl ts D gd p
  refine ⟨_, ps_for hp hc pi_U pg_U pss_U hs, ?_⟩
  refine hi W hW Z H sl ts _ gd (PostR.imp (PostS.out p) (List.Sublist.refl _) fun ds Z1 H1 sl1 s1 t1 q g1 J hJ => ?_)
  refine ⟨fun i m σ H2 => m = ds.length - i ∧ i ≤ ds.length ∧ ∃ Z2 sl2, Sub Z1 Z2 ∧ Good W X.K Z2 H2 (roots sl2 ++ ts) ∧ σ = tops sl2 ∧ KeepT (as ++ bs) sl1 sl2 ∧ PostS W X (as ++ bs) sl2 ts Z2 D (forD t g (ds.drop i) (ers sl2)), ⟨_, rfl, Nat.zero_le _, Z1, sl1, Sub.refl _, g1, t1.symm, KeepT.same rfl, ?_⟩, ?_⟩
  · simpa using q
  rintro i m σ H2 ⟨rfl, hi, Z2, sl2, s2, g2, rfl, k2, p2⟩
  obtain ⟨y1, y2⟩ := hJ i H2 (s2.trans g2.sub)
  by_cases hlt : i < ds.length
  · refine .inr ?_
    obtain ⟨go, yl⟩ := y1 ds[i] (by simp [hlt])
    refine ⟨go, fun σ' H' => ∃ Z3 sl3, Sub Z1 Z3 ∧ Good W X.K Z3 H' (roots sl3 ++ ts) ∧ σ' = tops sl3 ∧ KeepT (as ++ bs) sl1 sl3 ∧ PostS W X (as ++ bs) sl3 ts Z3 D (forD t g (ds.drop (i + 1)) (ers sl3)), fun σ' H' h' => ⟨ds.length - (i + 1), by omega, rfl, hlt, h'⟩, fun x H3 hy => ?_⟩
    obtain ⟨Z3, s3, g3, r3⟩ := yld_good g2 s2 (yl x H3 hy)
    rw [List.drop_eq_getElem_cons hlt] at p2
    simp only [forD] at p2
    refine hg W hW Z3 H3 sl2 ts x _ _ g3 r3 ?_
    cases et : t ds[i] (ers sl2) with
    | none => rw [et] at p2; exact p2.elim
    | some e1 =>
      rw [et] at p2
      intro Z4 H4 sl4 s4 g4 e4 k4
      subst e4
      have s14 : Sub Z1 Z4 := s2.trans (s3.trans s4)
      refine hb W hW Z4 H4 sl4 ts _ g4 ?_
      simp only at p2
      have k14 : KeepT (as ++ bs) sl2 sl4 := k4.left
      cases eb : g (ers sl4) with
      | nx env =>
        rw [eb] at p2
        intro Z5 H5 sl5 s5 g5 e5 k5
        subst e5
        have kk : KeepT (as ++ bs) sl2 sl5 := k4.trans k5
        exact ⟨Z5, sl5, s14.trans s5, g5, rfl, (k2.trans kk).mono dup_app, PostS.pre (bs := as ++ bs) (p2.mono dup_app) (s3.trans (s4.trans s5)) kk (List.Sublist.refl _)⟩
      | cnt env =>
        rw [eb] at p2
        intro Z5 H5 sl5 s5 g5 e5 k5
        subst e5
        have kk : KeepT (as ++ bs) sl2 sl5 := k4.trans k5
        exact ⟨Z5, sl5, s14.trans s5, g5, rfl, (k2.trans kk).mono dup_app, PostS.pre (bs := as ++ bs) (p2.mono dup_app) (s3.trans (s4.trans s5)) kk (List.Sublist.refl _)⟩
      | brk env =>
        rw [eb] at p2
        intro Z5 H5 sl5 s5 g5 e5 k5
        exact p2 Z5 H5 sl5 (s3.trans (s4.trans s5)) g5 e5 (k4.trans k5)
      | ret o env =>
        rw [eb] at p2
        intro Z5 H5 sl5 oa s5 g5 eo e5 k5
        exact p2 Z5 H5 sl5 oa (s3.trans (s4.trans s5)) g5 eo e5 (k4.trans k5)
      | exc x env =>
        rw [eb] at p2
        intro Z5 H5 sl5 c d s5 g5 e5 k5 r5
        exact p2 Z5 H5 sl5 c d (s3.trans (s4.trans s5)) g5 e5 (k4.trans k5) r5
      | bad => rw [eb] at p2; exact p2
  · refine .inl ⟨y2 (by omega), ?_⟩
    rw [List.drop_of_length_le (by omega)] at p2
    exact p2 Z2 H2 sl2 (Sub.refl _) g2 rfl (KeepT.same rfl)

/-! ### while -/
def whileN (c : Et) (body : Es) : Nat → Env → Out
  | 0, _ => .bad
  | n + 1, env => (c env).out fun b e => if b then (match body e with
    | .nx e2 => whileN c body n e2
    | .cnt e2 => whileN c body n e2
    | .brk e2 => .nx e2
    | r => r) else .nx e
theorem snds_while {c : Expr} {body : List Stmt} {fc : Et} {g : Es} {as : List Nat} (n : Nat) (hp : PassesOwn (model X.prog X.w) X.A X.env X.xe) (hc : SndT P X c fc) (hb : SndSs P X body g as) : SndS P X (.While c body [] pos) (whileN fc g n) as := by
  intro W hW Z H sl ts D gd p
  refine ⟨_, ps_while hp pt_U pss_U, ?_⟩
  refine ⟨fun m σ H2 => ∃ Z2 sl2, Sub Z Z2 ∧ Good W X.K Z2 H2 (roots sl2 ++ ts) ∧ σ = tops sl2 ∧ PostS W X as sl2 ts Z2 D (whileN fc g m (ers sl2)), ⟨n, Z, sl, Sub.refl _, gd, rfl, p⟩, ?_⟩
  rintro m σ H2 ⟨Z2, sl2, s2, g2, rfl, p2⟩
  cases m with
  | zero => exact p2.elim
  | succ m =>
    simp only [whileN] at p2
    refine hc W hW Z2 H2 sl2 ts _ g2 (PostR.imp (PostS.out p2) (List.Sublist.refl _) fun b Z3 H3 sl3 s3 t3 q g3 => ?_)
    cases b with
    | false =>
      rw [if_neg Bool.false_ne_true] at q ⊢
      rw [← t3]
      exact q Z3 H3 sl3 (Sub.refl _) g3 rfl (KeepT.same rfl)
    | true =>
      rw [if_pos rfl] at q ⊢
      refine ⟨fun σ' H' => ∃ Z4 sl4, Sub Z Z4 ∧ Good W X.K Z4 H' (roots sl4 ++ ts) ∧ σ' = tops sl4 ∧ PostS W X as sl4 ts Z4 D (whileN fc g m (ers sl4)), fun σ' H' h' => ⟨m, Nat.lt_succ_self _, h'⟩, ?_⟩
      rw [← t3]
      refine hb W hW Z3 H3 sl3 ts _ g3 ?_
      cases eb : g (ers sl3) with
      | nx env =>
        rw [eb] at q
        intro Z5 H5 sl5 s5 g5 e5 k5
        subst e5
        exact ⟨Z5, sl5, s2.trans (s3.trans s5), g5, rfl, PostS.pre (bs := as) (q.mono dup_app) s5 k5 (List.Sublist.refl _)⟩
      | cnt env =>
        rw [eb] at q
        intro Z5 H5 sl5 s5 g5 e5 k5
        subst e5
        exact ⟨Z5, sl5, s2.trans (s3.trans s5), g5, rfl, PostS.pre (bs := as) (q.mono dup_app) s5 k5 (List.Sublist.refl _)⟩
      | brk env =>
        rw [eb] at q
        exact q
      | ret o env =>
        rw [eb] at q
        exact q
      | exc x env =>
        rw [eb] at q
        exact q
      | bad => rw [eb] at q; exact q
end
end EV

set_option Elab.async false
set_option linter.all false
set_option maxRecDepth 100000
set_option maxHeartbeats 4000000
namespace EV
open PySem PySem.Spec PyProof.Rows L2

/-! ### what a def promises -/
def PostF (W : Wld) (K : PySem.W.Frag) (oas ts : List (Ow V)) (Z : Hp) (Q : VK) (E : XK) : FR → Prop
  | .ok o back => ∀ Z' H' slb oa, Sub Z Z' → Good W K Z' H' (oa :: (roots slb ++ ts)) → oa.er = o → ers slb = back → (∀ (j : Nat) (r : Ow V), slb[j]? = some (some r) → (oas.map Ow.top)[j]? = some r.top) → Q oa.top H'
  | .exc x back => ∀ Z' H' slb c d, Sub Z Z' → Good W K Z' H' (roots slb ++ ts) → ers slb = back → (∀ (j : Nat) (r : Ow V), slb[j]? = some (some r) → (oas.map Ow.top)[j]? = some r.top) → RepX K Z' x c d → E c d H'
  | .bad => False
end EV
namespace EV
open PySem PySem.Spec PyProof.Rows L2
def pT (T : List (Addr × Str)) : Pc := ⟨T, fun _ => True⟩
def spOf (T : List (Addr × Str)) (K : PySem.W.Frag) (n : Nat) (F : Fn) : Sp := fun vs H Q E => vs.length = n ∧ ∃ (W : Wld) (Z : Hp) (oas ts : List (Ow V)), W.T = T ∧ vs = oas.map Ow.top ∧ Good W K Z H (oas ++ ts) ∧ PostF W K oas ts Z Q E (F (oas.map Ow.er))

/-! ### a def by its body -/
/-- the parameters as they are behind the body, those that were stored into left out -/
def back : List Bool → Env → Env
  | b :: bs, e :: es => (if b then e else none) :: back bs es
  | _, _ => []
/-- np parameters, n names; keep: the parameters that are never stored into -/
def evDef (keep : List Bool) (n : Nat) (body : Es) : Fn := fun os => if os.length = keep.length then (match body (os.map some ++ List.replicate (n - keep.length) none) with
    | .ret o env => .ok o (back keep env)
    | .nx env => .ok (.v () .non) (back keep env)
    | .exc x env => .exc x (back keep env)
    | _ => .bad) else .bad
def backS : List Bool → Sl → Sl
  | b :: bs, e :: es => (if b then e else none) :: backS bs es
  | _, _ => []
theorem backS_ers : ∀ (k : List Bool) (sl : Sl), ers (backS k sl) = back k (ers sl)
  | [], sl => by cases sl <;> rfl
  | b :: bs, [] => rfl
  | b :: bs, e :: es => by
    have ih := backS_ers bs es
    simp only [ers] at ih
    cases b <;> simp [backS, back, ers, ih]
theorem backS_sub : ∀ (k : List Bool) (sl : Sl), (roots (backS k sl)).Sublist (roots sl)
  | [], sl => by cases sl <;> simp [backS, roots]
  | b :: bs, [] => by simp [backS, roots]
  | b :: bs, e :: es => by
    have ih := backS_sub bs es
    simp only [roots] at ih
    cases b with
    | false =>
      cases e with
      | none => simpa [backS, roots] using ih
      | some y => exact (by simpa [backS, roots] using (ih.cons y))
    | true =>
      cases e with
      | none => simpa [backS, roots] using ih
      | some y => exact (by simpa [backS, roots] using ih.cons_cons y)
theorem backS_get : ∀ {k : List Bool} {sl : Sl} {j : Nat} {r : Ow V}, (backS k sl)[j]? = some (some r) → k[j]? = some true ∧ sl[j]? = some (some r)
  | [], sl, j, r, h => by cases sl <;> simp [backS] at h
  | b :: bs, [], j, r, h => by simp [backS] at h
  | b :: bs, e :: es, 0, r, h => by cases b <;> simp [backS] at h; subst h; simp
  | b :: bs, e :: es, j + 1, r, h => by
    simp only [backS, List.getElem?_cons_succ] at h ⊢
    exact backS_get h
/-- the slots at the entry -/
def entry (oas : List (Ow V)) (n : Nat) : Sl := oas.map some ++ List.replicate (n - oas.length) none
theorem entry_roots (oas : List (Ow V)) (n : Nat) : roots (entry oas n) = oas := by
  have h1 : List.filterMap id (oas.map some) = oas := by
    induction oas with
    | nil => rfl
    | cons x r ih => simp [ih]
  have h2 : ∀ m, List.filterMap id (List.replicate m (none : Option (Ow V))) = [] := by
    intro m
    induction m with
    | zero => rfl
    | succ m ih => simp [List.replicate_succ, ih]
  simp only [entry, roots, List.filterMap_append, h1, h2, List.append_nil]
theorem entry_tops (oas : List (Ow V)) (N : List Str) : tops (entry oas N.length) = L2.start N (oas.map Ow.top) := by
  simp [entry, tops, L2.start, Function.comp_def, List.map_append, List.map_replicate]
theorem entry_ers (oas : List (Ow V)) (n : Nat) : ers (entry oas n) = (oas.map Ow.er).map some ++ List.replicate (n - oas.length) none := by
  simp [entry, ers, List.map_append, List.map_replicate]
theorem entry_get {oas : List (Ow V)} {n j : Nat} {x : V} (hj : j < oas.length) (h : (tops (entry oas n))[j]? = some (some x)) : (oas.map Ow.top)[j]? = some x := by
  simp only [entry, tops, List.map_append, List.map_map] at h
  rw [List.getElem?_append_left (by simpa using hj)] at h
  simp only [List.getElem?_map] at h ⊢
  cases e : oas[j]? with
  | none => rw [e] at h; simp at h
  | some r => rw [e] at h; simp at h ⊢; exact h
section
variable {Pg : Program} {T : List (Addr × Str)} {w : World} {K : PySem.W.Frag} {mg : Str → Option Value} {base : Heap}
/-- a run of a def's body -/
theorem def_run {qual : Str} {body : List Stmt} {scope : Scope} {f : Addr} {N ps : List Str} {keep : List Bool} {g : Es} {as : List Nat} {cdv : Value} {A : Around} {outer : List PySem.Env} {s : Shared} {H : Hp} {E : XK} {vs : List V} {Q : VK} (hk : keep.length = ps.length) (has : ∀ j, keep[j]? = some true → j ∉ as)
    (hb : SndSs (pT T) (cxOf (L2.CX Pg w) Pg w K mg base N qual scope f cdv A outer s H E) body g as) (h : spOf T K ps.length (evDef keep N.length g) vs H Q E) :
    ∃ t, PSs (cxOf (L2.CX Pg w) Pg w K mg base N qual scope f cdv A outer s H E) body t ∧ t { nx := fun _ H' => Q .non H', rt := Q } (L2.start N vs) H := by
  obtain ⟨hl, W, Z, oas, ts, hW0, rfl, gd, p⟩ := h
  have hW : (pT T).ok W := ⟨hW0, trivial⟩
  have hlen : oas.length = keep.length := by rw [hk, ← hl, List.length_map]
  refine ⟨_, pss_U, ?_⟩
  rw [← entry_tops]
  refine hb W hW Z H (entry oas N.length) ts _ (by rw [entry_roots]; exact gd) ?_
  have tk : Takes (cxOf (L2.CX Pg w) Pg w K mg base N qual scope f cdv A outer s H E) (fun cls d _ H => E cls d H) := takes_of rfl rfl rfl rfl
  rw [entry_ers]
  simp only [evDef] at p
  rw [if_pos (by rw [List.length_map]; exact hlen), ← hlen] at p
  have kt : ∀ {sl' : Sl} {j : Nat} {r : Ow V}, KeepT as (entry oas N.length) sl' → (backS keep sl')[j]? = some (some r) → (oas.map Ow.top)[j]? = some r.top := by
    intro sl' j r kp h
    obtain ⟨h1, h2⟩ := backS_get h
    have hj : j < oas.length := by rw [hlen]; exact (List.getElem?_eq_some_iff.mp h1).1
    refine entry_get hj (n := N.length) ?_
    rw [← kp.2 j (has j h1)]
    exact tops_get h2
  cases e : g ((oas.map Ow.er).map some ++ List.replicate (N.length - oas.length) none) with
  | nx env =>
    rw [e] at p
    intro Z' H' sl' s' g' e' k'
    subst e'
    exact p Z' H' (backS keep sl') (.v .non .non) s' (Good.cons_v (g'.sublist ((backS_sub keep sl').append (List.Sublist.refl _))) (by simp [RepD])) rfl (backS_ers _ _) fun j r h => kt k' h
  | ret o env =>
    rw [e] at p
    intro Z' H' sl' oa s' g' eo e' k'
    subst e'
    exact p Z' H' (backS keep sl') oa s' (g'.sublist (((backS_sub keep sl').append (List.Sublist.refl _)).cons_cons _)) eo (backS_ers _ _) fun j r h => kt k' h
  | exc y env =>
    rw [e] at p
    intro Z' H' sl' c d s' g' e' k' r'
    subst e'
    exact ⟨_, tk, p Z' H' (backS keep sl') c d s' (g'.sublist ((backS_sub keep sl').append (List.Sublist.refl _))) (backS_ers _ _) (fun j r h => kt k' h) r'⟩
  | brk env => rw [e] at p; exact p.elim
  | cnt env => rw [e] at p; exact p.elim
  | bad => rw [e] at p; exact p.elim
/-- a def of the text keeps the promise of its body -/
theorem def_ok {x qual : Str} {params : Arguments} {body : List Stmt} {scope : Scope} {dvs : List V} {kws : List (Str × V)} {f : Addr} {fd : FuncData} {N ps : List Str} {k : Nat} {keep : List Bool} {g : Es} {as : List Nat}
    (F : FunD K x qual params body scope dvs kws f fd) (S : FnScope N ps scope) (hk : keep.length = ps.length) (has : ∀ j, keep[j]? = some true → j ∉ as)
    (hb : ∀ (cdv : Value) (A : Around) (outer : List PySem.Env) (s : Shared) (H : Hp) (E : XK), Room k (cxOf (L2.CX Pg w) Pg w K mg base N qual scope f cdv A outer s H E).A → SndSs (pT T) (cxOf (L2.CX Pg w) Pg w K mg base N qual scope f cdv A outer s H E) body g as) :
    FnOk Pg w K mg base (L2.CX Pg w) (k + 1) f fd ps (spOf T K ps.length (evDef keep N.length g)) :=
  F.ok S (fun vs H Q E h => h.1) (fun cdv A outer s H vs Q E hr h => def_run hk has (hb cdv A outer s H E hr) h)
end
end EV

set_option Elab.async false
set_option linter.all false
set_option maxRecDepth 100000
set_option maxHeartbeats 4000000
namespace EV
open PySem PySem.Spec PyProof.Rows L2

theorem takes_out {X : Cx} : Takes X (XOut X) := fun u s' ⟨a, B, sI, pins, σ, H, cls, d, e, I, nb, up, sky, na, os, ag, W, tk, hw⟩ =>
  tk u s' ⟨a, B, sI, pins, σ, H, cls, d, e, I, nb, up, sky, na, os, ag, hw⟩
section
variable {X : Cx} {k : Nat} {f C : Addr} {fd : FuncData} {ps : List Str} {sp : Sp} {dvs : List V} {ds : List Value} {x m : Str} {p pos apos : Pos} {e o : Expr} {es : List Expr}
/-- what is raised in a call is taken at the slots of the caller -/
def tCallU (sp : Sp) (dvs : List V) (X : Cx) (t : TA) : TE := fun σ H Q => t σ H fun vs H1 => sp (vs ++ dvs) H1 Q (fun c d H' => XOut X c d σ H')
/-- the result of a callee's run, at the caller -/
theorem land_call {pins : List (Addr × Obj)} {σ : L2.St} {H : Hp} {s s' : Shared} {Q : VK} {r : Result} (I : Inv X pins σ H s) (h : CR (L2.CX X.prog X.w) X.stack X.prog X.w H s Q (fun c d H' => XOut X c d σ H') r s') :
    match r with
    | .ok (.ret u) => EP X pins σ Q u s'
    | .ok _ => False
    | .error z => X.xe z s' := by
  cases r with
  | ok fl =>
    cases fl with
    | ret u => exact I.after h
    | _ => exact h
  | error z => exact passAt (W := XOut X) takes_out σ pins H s z s' I h
theorem run_callU {pins : List (Addr × Obj)} {σ : L2.St} {H : Hp} {s : Shared} {Q : VK} {us : List Value} {vs : List V} (F : FnOk X.prog X.w X.K X.mg X.base (L2.CX X.prog X.w) k f fd ps sp) (hr : Room k X.A) (hb : Binds X.K fd ps ds) (hd : Vals dvs ds)
    (I : Inv X pins σ H s) (rv : Vals vs us) (h : sp (vs ++ dvs) H Q (fun c d H' => XOut X c d σ H')) : wpAny (model X.prog X.w) X.A (call (.ref f) us) (EP X pins σ Q) X.xe s := by
  have rr := rv.append hd
  have len := F.len _ _ _ _ h
  rw [rr.length] at len
  have run := F.run X.A X.stack s H _ _ _ Q _ hr I.env0 (hb s us I.kIn len) rr h
  refine wpAny_call (codeAny_mono run fun r s' q => ?_)
  have := land_call I q
  rcases r with z | (_ | u | _ | _) <;> exact this
theorem pe_callU (F : FnOk X.prog X.w X.K X.mg X.base (L2.CX X.prog X.w) k f fd ps sp) (hr : Room k X.A) (hg : Gl X x) (hm : X.mg x = some (.ref f)) (hk : PySem.W.keepIn X.K (.ref f) = true) (hb : Binds X.K fd ps ds) (hd : Vals dvs ds)
    {t : TA} (ha : PA X (e :: es) t) (hdb : (x == ("__debug__" : Str)) = false) (h1 : starEach (e :: es) X.env = (false, eval e X.env) :: starEach es X.env) (h2 : (backTo pos (starEach es X.env)).any (·.1) = false) :
    PE X (.Call (.Name x p) (e :: es) [] pos) (tCallU sp dvs X t) :=
  ⟨fun pins s σ H Q I h => wpAny_Call_Name_kw (ld_glob I hg hm (PySem.W.callWith_K (h₀ := X.base) I.ok.mod.kin hk (thn (ha.run pos pins s σ H _ I h) fun us s1 ⟨vs, H1, I1, rv, q⟩ => ⟨I1.kIn, run_callU F hr hb hd I1 rv q⟩) h1 h2) hdb)⟩
theorem pe_callU0 (F : FnOk X.prog X.w X.K X.mg X.base (L2.CX X.prog X.w) k f fd ps sp) (hr : Room k X.A) (hg : Gl X x) (hm : X.mg x = some (.ref f)) (hk : PySem.W.keepIn X.K (.ref f) = true) (hb : Binds X.K fd ps ds) (hd : Vals dvs ds)
    (hdb : (x == ("__debug__" : Str)) = false) : PE X (.Call (.Name x p) [] [] pos) (tCallU sp dvs X tNil) :=
  ⟨fun pins s σ H Q I h => wpAny_Call_Name_kw (ld_glob I hg hm (PySem.W.callWith_K0 I.kIn hk (run_callU (us := []) F hr hb hd I .nil h)) hdb)⟩

/-! ### arguments: told ahead, or lent by a name -/
inductive Arg where
  | e (f : Ev) | l (i : Nat)
def evAs : List Arg → Env → R (List (Option O) × Env)
  | [], env => .ok ([], env)
  | .e f :: as, env => (f env).bind fun o e1 => (evAs as e1).bind fun os e2 => .ok (some o :: os, e2)
  | .l i :: as, env => match env[i]? with
    | some (some _) => (evAs as env).bind fun os e2 => .ok (none :: os, e2)
    | _ => .bad
def fetch : List Arg → List (Option O) → Env → Option (List O × Env)
  | [], _, env => some ([], env)
  | .e _ :: as, some o :: os, env => (fetch as os env).map fun q => (o :: q.1, q.2)
  | .l i :: as, none :: os, env => match env[i]? with
    | some (some o) => (fetch as os (env.set i none)).map fun q => (o :: q.1, q.2)
    | _ => none
  | _, _, _ => none
def unfetch : List Arg → Env → Env → Option Env
  | [], _, env => some env
  | .e _ :: as, _ :: bs, env => unfetch as bs env
  | .l i :: as, some o :: bs, env => (unfetch as bs env).map fun e => e.set i (some o)
  | _, _, _ => none
/-- the values that are handed over -/
def ArgV : List Arg → List (Option (Ow V)) → L2.St → List V → Prop
  | [], [], _, vs => vs = []
  | .e _ :: as, some oa :: oas, σ, vs => ∃ r, vs = oa.top :: r ∧ ArgV as oas σ r
  | .l i :: as, none :: oas, σ, vs => ∃ x r, vs = x :: r ∧ σ[i]? = some (some x) ∧ ArgV as oas σ r
  | _, _, _, _ => False
def somes (oas : List (Option (Ow V))) : List (Ow V) := oas.filterMap id
def SndA2 (P : Pc) (X : Cx) (es : List Expr) (as : List Arg) : Prop := ∀ W, P.ok W → ∀ Z H sl ts (Q : List V → Hp → Prop), Good W X.K Z H (roots sl ++ ts) →
  PostR W X sl ts Z (fun os Z' H' sl' => ∀ oas vs, Good W X.K Z' H' (somes oas ++ (roots sl' ++ ts)) → oas.map (Option.map Ow.er) = os → ArgV as oas (tops sl') vs → Q vs H') (evAs as (ers sl)) → tUA X es (tops sl) H Q
theorem snda_nil : SndA2 P X [] [] := fun W hW Z H sl ts Q g p => ⟨_, pa_nil, p Z H sl (Sub.refl _) rfl rfl [] [] (by simpa [somes] using g) rfl (by simp [ArgV])⟩
theorem snda_e {fv : Ev} {as : List Arg} (h : Snd P X e fv) (hs : SndA2 P X es as) (hst : starEach (e :: es) X.env = (false, eval e X.env) :: starEach es X.env := by rfl) : SndA2 P X (e :: es) (.e fv :: as) := by
  intro W hW Z H sl ts Q g p
  refine ⟨_, pa_cons pe_U pa_U hst, ?_⟩
  simp only [evAs] at p
  refine h W hW Z H sl ts _ g (PostR.imp (PostR.bind p) (List.Sublist.refl _) fun o Z1 H1 sl1 s1 t1 q oa g1 eo => ?_)
  rw [← t1]
  refine hs W hW Z1 H1 sl1 (oa :: ts) _ (g1.perm List.perm_middle.symm) (PostR.imp (PostR.bind q) (List.sublist_cons_self _ _) fun os Z2 H2 sl2 s2 t2 q2 oas vs g2 e2 av => ?_)
  refine q2 Z2 H2 sl2 (Sub.refl _) rfl rfl (some oa :: oas) (oa.top :: vs) ?_ ?_ ?_
  · have : somes (some oa :: oas) = oa :: somes oas := rfl
    rw [this, ← List.append_assoc]
    refine g2.perm ?_
    rw [← List.append_assoc]
    exact List.perm_middle
  · simp only [List.map_cons, Option.map_some, e2, eo]
  · exact ⟨vs, rfl, av⟩
theorem snda_l {i : Nat} {y : Str} {p0 : Pos} {as : List Arg} (h : PE X (.Name y p0) (tVar i)) (hs : SndA2 P X es as) (hst : starEach (.Name y p0 :: es) X.env = (false, eval (.Name y p0) X.env) :: starEach es X.env := by rfl) : SndA2 P X (.Name y p0 :: es) (.l i :: as) := by
  intro W hW Z H sl ts Q g p
  refine ⟨_, pa_cons pe_U pa_U hst, ?_⟩
  simp only [evAs] at p
  split at p
  · rename_i o ho
    obtain ⟨r, hr, rfl⟩ := ers_get ho
    refine ⟨_, h, r.top, tops_get hr, ?_⟩
    refine hs W hW Z H sl ts _ g (PostR.imp (PostR.bind p) (List.Sublist.refl _) fun os Z2 H2 sl2 s2 t2 q2 oas vs g2 e2 av => ?_)
    refine q2 Z2 H2 sl2 (Sub.refl _) rfl rfl (none :: oas) (r.top :: vs) g2 ?_ ⟨r.top, vs, rfl, ?_, av⟩
    · simp only [List.map_cons, Option.map_none, e2]
    · rw [t2]; exact tops_get hr
  · exact p.elim

/-- lent roots taken out of the slots -/
theorem fetch_ok : ∀ {as : List Arg} {oas : List (Option (Ow V))} {σ : L2.St} {vs : List V} {sl : Sl} {Z H : Hp} {ts : List (Ow V)} {rs : List O} {env : Env},
    ArgV as oas σ vs → (∀ (i : Nat) (x : V), σ[i]? = some (some x) → ∀ r : Ow V, sl[i]? = some (some r) → r.top = x) → Good W X.K Z H (somes oas ++ (roots sl ++ ts)) → fetch as (oas.map (Option.map Ow.er)) (ers sl) = some (rs, env) →
    ∃ (ros : List (Ow V)) (sl2 : Sl), ros.map Ow.er = rs ∧ ers sl2 = env ∧ ros.map Ow.top = vs ∧ Good W X.K Z H (ros ++ (roots sl2 ++ ts)) ∧ sl2.length = sl.length ∧
      (∀ (σ' : L2.St) (slb : Sl) (env3 : Env) (ros' : List (Ow V)), (∀ (j : Nat) (r : Ow V), j < ros.length → slb[j]? = some (some r) → (ros.map Ow.top)[j]? = some r.top) → unfetch as (ers slb) env = some env3 → ∃ sl3 : Sl, ers sl3 = env3 ∧ tops sl3 = tops sl ∧ ∀ Z' H' ts', Good W X.K Z' H' (roots slb ++ (roots sl2 ++ ts')) → Good W X.K Z' H' (roots sl3 ++ ts'))
  | [], oas, σ, vs, sl, Z, H, ts, rs, env, av, ht, g, h => by
    cases oas with
    | cons o oas => cases o <;> simp [ArgV] at av
    | nil =>
    simp only [ArgV] at av
    simp only [fetch, Option.some.injEq, Prod.mk.injEq] at h
    obtain ⟨rfl, rfl⟩ := h
    subst av
    refine ⟨[], sl, rfl, rfl, rfl, g, rfl, fun σ' slb env3 ros' _ h3 => ?_⟩
    simp only [unfetch, Option.some.injEq] at h3
    exact ⟨sl, h3, rfl, fun Z' H' ts' g' => g'.right⟩
  | .e fv :: as, oas, σ, vs, sl, Z, H, ts, rs, env, av, ht, g, h => by
    cases oas with
    | nil => simp [ArgV] at av
    | cons o oas =>
    cases o with
    | none => simp [ArgV] at av
    | some oa =>
    simp only [ArgV] at av
    obtain ⟨r, rfl, av⟩ := av
    simp only [List.map_cons, Option.map_some, fetch] at h
    cases hf : fetch as (oas.map (Option.map Ow.er)) (ers sl) with
    | none => rw [hf] at h; cases h
    | some q =>
    rw [hf] at h
    simp only [Option.map_some, Option.some.injEq, Prod.mk.injEq] at h
    obtain ⟨rfl, rfl⟩ := h
    have g1 : Good W X.K Z H (somes oas ++ (roots sl ++ (oa :: ts))) := by
      refine g.perm ?_
      show (oa :: (somes oas ++ (roots sl ++ ts))).Perm _
      rw [← List.append_assoc, ← List.append_assoc]
      exact List.perm_middle.symm
    obtain ⟨ros, sl2, e1, e2, e3, g2, l2, un⟩ := fetch_ok (ts := oa :: ts) av ht g1 hf
    refine ⟨oa :: ros, sl2, by simp [e1], e2, by simp [e3], ?_, l2, ?_⟩
    · refine g2.perm ?_
      rw [← List.append_assoc]
      refine List.perm_middle.trans ?_
      rw [List.append_assoc]
      exact .refl _
    · intro σ' slb env3 ros' hb h3
      cases slb with
      | nil => simp [ers, unfetch] at h3
      | cons b slb =>
        simp only [ers, List.map_cons, unfetch] at h3
        obtain ⟨sl3, a1, a2, a3⟩ := un σ' slb env3 ros' (fun j r hl hj => by have := hb (j + 1) r (by simpa using hl) (by simpa using hj); simpa using this) (by cases b <;> simpa [ers, unfetch] using h3)
        refine ⟨sl3, a1, a2, fun Z' H' ts' g' => a3 Z' H' ts' ?_⟩
        cases b with
        | none => exact g'
        | some y => exact g'.tail
  | .l i :: as, oas, σ, vs, sl, Z, H, ts, rs, env, av, ht, g, h => by
    cases oas with
    | nil => simp [ArgV] at av
    | cons o oas =>
    cases o with
    | some oa => simp [ArgV] at av
    | none =>
    simp only [ArgV] at av
    obtain ⟨x, r, rfl, hx, av⟩ := av
    simp only [List.map_cons, Option.map_none, fetch] at h
    split at h
    · rename_i o ho
      obtain ⟨y, hy, rfl⟩ := ers_get ho
      have ey := ht i x hx y hy
      cases hf : fetch as (oas.map (Option.map Ow.er)) ((ers sl).set i none) with
      | none => rw [hf] at h; cases h
      | some q =>
      rw [hf] at h
      simp only [Option.map_some, Option.some.injEq, Prod.mk.injEq] at h
      obtain ⟨rfl, rfl⟩ := h
      have hf' : fetch as (oas.map (Option.map Ow.er)) (ers (sl.set i none)) = some q := by rw [ers_set]; exact hf
      have g1 : Good W X.K Z H (somes oas ++ (roots (sl.set i none) ++ (y :: ts))) := by
        refine g.perm ?_
        show (somes oas ++ (roots sl ++ ts)).Perm _
        refine List.Perm.append_left _ ?_
        exact ((roots_out hy).append_right ts).trans List.perm_middle.symm
      have ht' : ∀ (j : Nat) (z : V), σ[j]? = some (some z) → ∀ r : Ow V, (sl.set i none)[j]? = some (some r) → r.top = z := by
        intro j z hz r hr
        rw [List.getElem?_set] at hr
        split at hr
        · split at hr <;> simp at hr
        · exact ht j z hz r hr
      obtain ⟨ros, sl2, e1, e2, e3, g2, l2, un⟩ := fetch_ok (ts := y :: ts) av ht' g1 hf'
      refine ⟨y :: ros, sl2, by simp [e1], e2, by simp [e3, ey], ?_, by simpa using l2, ?_⟩
      · refine g2.perm ?_
        rw [← List.append_assoc]
        refine List.perm_middle.trans ?_
        rw [List.append_assoc]
        exact .refl _
      · intro σ' slb env3 ros' hb h3
        cases slb with
        | nil => simp [ers, unfetch] at h3
        | cons b slb =>
          cases b with
          | none => simp [ers, unfetch] at h3
          | some b =>
            simp only [ers, List.map_cons, Option.map_some, unfetch] at h3
            cases hu : unfetch as (List.map (Option.map Ow.er) slb) q.2 with
            | none => rw [hu] at h3; cases h3
            | some env4 =>
              rw [hu] at h3
              simp only [Option.map_some, Option.some.injEq] at h3
              subst h3
              obtain ⟨sl3, a1, a2, a3⟩ := un σ' slb env4 ros' (fun j r hl hj => by have := hb (j + 1) r (by simpa using hl) (by simpa using hj); simpa using this) hu
              have hb0 := hb 0 b (by simp) rfl
              simp only [List.map_cons, List.getElem?_cons_zero, Option.some.injEq] at hb0
              have hil : i < sl.length := (List.getElem?_eq_some_iff.mp hy).1
              have l3 : sl3.length = sl.length := by
                have := congrArg List.length a2
                simpa using this
              refine ⟨sl3.set i (some b), by rw [ers_set, a1]; rfl, ?_, fun Z' H' ts' g' => ?_⟩
              · rw [tops_set, a2, tops_set, List.set_set]
                apply List.ext_getElem?
                intro j
                rw [List.getElem?_set]
                split
                · rename_i ij
                  subst ij
                  rw [tops_get hy]
                  simp [hil, hb0]
                · rfl
              · refine put_good (a3 Z' H' (b :: ts') ?_ |>.perm List.perm_middle) (by rw [l3]; exact hil)
                refine Good.perm g' ?_
                show (b :: (roots slb ++ (roots sl2 ++ ts'))).Perm _
                rw [← List.append_assoc, ← List.append_assoc]
                exact List.perm_middle.symm
    · cases h
/-! ### a call -/
def FR.fin (as : List Arg) (e2 : Env) : FR → R (O × Env)
  | .ok o back => (match unfetch as back e2 with
    | some e3 => .ok (o, e3)
    | none => .bad)
  | .exc x back => (match unfetch as back e2 with
    | some e3 => .exc x e3
    | none => .bad)
  | .bad => .bad
def evCall (F : Fn) (as : List Arg) (ds : List D) : Ev := fun env => (evAs as env).bind fun os e1 => match fetch as os e1 with
  | some q => (F (q.1 ++ ds.map (.v ()))).fin as q.2
  | none => .bad
/-- behind the arguments: the promise of the callee -/
theorem call_post {P : Pc} {W : Wld} (hW : P.ok W) {F : Fn} {as : List Arg} {dd : List D} {ps : List Str} {Z H : Hp} {sl : Sl} {ts : List (Ow V)} {oas : List (Option (Ow V))} {vs : List V} {Q : VK} (g : Good W X.K Z H (somes oas ++ (roots sl ++ ts))) (av : ArgV as oas (tops sl) vs)
    (rd : RepDs X.K Z dd dvs) (hl : vs.length + dvs.length = ps.length)
    (p : PostR W X sl ts Z (fun o Z' H' sl' => ∀ oa, Good W X.K Z' H' (oa :: (roots sl' ++ ts)) → oa.er = o → Q oa.top H') (match fetch as (oas.map (Option.map Ow.er)) (ers sl) with
      | some q => (F (q.1 ++ dd.map (.v ()))).fin as q.2
      | none => .bad)) : spOf P.T X.K ps.length F (vs ++ dvs) H Q (fun c d H' => XOut X c d (tops sl) H') := by
  cases hf : fetch as (oas.map (Option.map Ow.er)) (ers sl) with
  | none => rw [hf] at p; exact p.elim
  | some q =>
    obtain ⟨rs, env⟩ := q
    rw [hf] at p
    obtain ⟨ros, sl2, e1, e2, e3, g2, l2, un⟩ := fetch_ok av (fun i x hx r hr => by rw [tops_get hr] at hx; simpa using hx) g hf
    refine ⟨by rw [List.length_append]; exact hl, W, Z, ros ++ vOf dd dvs, roots sl2 ++ ts, hW.1, ?_, ?_, ?_⟩
    · rw [List.map_append, e3, vOf_top rd]
    · refine (vOf_good g2 rd).perm ?_
      rw [← List.append_assoc]
      exact List.perm_append_comm.append_right _
    · rw [List.map_append, e1, vOf_er rd]
      simp only at p
      have hb : ∀ {slb : Sl}, (∀ (j : Nat) (r : Ow V), slb[j]? = some (some r) → ((ros ++ vOf dd dvs).map Ow.top)[j]? = some r.top) → ∀ env3, unfetch as (ers slb) env = some env3 → ∃ sl3 : Sl, ers sl3 = env3 ∧ tops sl3 = tops sl ∧ ∀ Z' H' ts', Good W X.K Z' H' (roots slb ++ (roots sl2 ++ ts')) → Good W X.K Z' H' (roots sl3 ++ ts') := by
        intro slb h env3 hu
        refine un [] slb env3 [] (fun j r hj hs => ?_) hu
        have := h j r hs
        rwa [List.map_append, List.getElem?_append_left (by simpa using hj)] at this
      cases hF : F (rs ++ dd.map (.v ())) with
      | bad => rw [hF] at p; exact p
      | ok o bk =>
        rw [hF] at p
        intro Z' H' slb oa s' g' eo eb ht
        simp only [FR.fin] at p
        subst eb
        cases hu : unfetch as (ers slb) env with
        | none => rw [hu] at p; exact p.elim
        | some env3 =>
          rw [hu] at p
          obtain ⟨sl3, a1, a2, a3⟩ := hb ht env3 hu
          refine p Z' H' sl3 s' a1 a2 oa ?_ eo
          refine Good.perm (a3 Z' H' (oa :: ts) ?_) List.perm_middle
          refine g'.perm ?_
          rw [← List.append_assoc, ← List.append_assoc]
          exact List.perm_middle.symm
      | exc y bk =>
        rw [hF] at p
        intro Z' H' slb c d s' g' eb ht rx
        simp only [FR.fin] at p
        subst eb
        cases hu : unfetch as (ers slb) env with
        | none => rw [hu] at p; exact p.elim
        | some env3 =>
          rw [hu] at p
          obtain ⟨sl3, a1, a2, a3⟩ := hb ht env3 hu
          rw [← a2]
          exact p Z' H' sl3 c d s' (a3 Z' H' ts g') a1 a2 rx
theorem argv_length : ∀ {as : List Arg} {oas : List (Option (Ow V))} {σ : L2.St} {vs : List V}, ArgV as oas σ vs → vs.length = as.length
  | [], oas, σ, vs, h => by
    cases oas with
    | nil => simp only [ArgV] at h; subst h; rfl
    | cons o _ => cases o <;> simp [ArgV] at h
  | .e f :: as, oas, σ, vs, h => by
    cases oas with
    | nil => simp [ArgV] at h
    | cons o oas =>
      cases o with
      | none => simp [ArgV] at h
      | some oa =>
        simp only [ArgV] at h
        obtain ⟨r, rfl, h⟩ := h
        simp [argv_length h]
  | .l i :: as, oas, σ, vs, h => by
    cases oas with
    | nil => simp [ArgV] at h
    | cons o oas =>
      cases o with
      | some _ => simp [ArgV] at h
      | none =>
        simp only [ArgV] at h
        obtain ⟨x, r, rfl, _, h⟩ := h
        simp [argv_length h]
variable {F : Fn} {as : List Arg} {dd : List D}
/-- the arguments, then the callee -/
theorem args_call {P : Pc} {W : Wld} (hW : P.ok W) {Z H : Hp} {sl : Sl} {ts : List (Ow V)} {Q : VK} (ha : SndA2 P X es as) (rd : ∀ Z, RepDs X.K Z dd dvs) (hl : as.length + dvs.length = ps.length) (g : Good W X.K Z H (roots sl ++ ts))
    (p : PostE W X sl ts Z Q (evCall F as dd (ers sl))) : tUA X es (tops sl) H (fun vs H1 => spOf P.T X.K ps.length F (vs ++ dvs) H1 Q (fun c d H' => XOut X c d (tops sl) H')) := by
  refine ha W hW Z H sl ts _ g (PostR.imp (PostR.bind p) (List.Sublist.refl _) fun os Z1 H1 sl1 s1 t1 q oas vs g1 eo av => ?_)
  subst eo
  rw [← t1]
  exact call_post hW g1 av (rd _) (by rw [argv_length av]; exact hl) q
theorem snd_call (FO : FnOk X.prog X.w X.K X.mg X.base (L2.CX X.prog X.w) k f fd ps (spOf P.T X.K ps.length F)) (hr : Room k X.A) (hg : Gl X x) (hm : X.mg x = some (.ref f)) (hk : PySem.W.keepIn X.K (.ref f) = true) (hb : Binds X.K fd ps ds) (hd : Vals dvs ds)
    (rd : ∀ Z, RepDs X.K Z dd dvs) (ha : SndA2 P X (e :: es) as) (hl : as.length + dvs.length = ps.length) (hdb : (x == ("__debug__" : Str)) = false := by decide) (h1 : starEach (e :: es) X.env = (false, eval e X.env) :: starEach es X.env := by rfl) (h2 : (backTo pos (starEach es X.env)).any (·.1) = false := by rfl) :
    Snd P X (.Call (.Name x p) (e :: es) [] pos) (evCall F as dd) :=
  fun W hW Z H sl ts Q g q => ⟨_, pe_callU FO hr hg hm hk hb hd pa_U hdb h1 h2, args_call hW ha rd hl g q⟩
theorem snd_call0 (FO : FnOk X.prog X.w X.K X.mg X.base (L2.CX X.prog X.w) k f fd ps (spOf P.T X.K ps.length F)) (hr : Room k X.A) (hg : Gl X x) (hm : X.mg x = some (.ref f)) (hk : PySem.W.keepIn X.K (.ref f) = true) (hb : Binds X.K fd ps ds) (hd : Vals dvs ds)
    (rd : ∀ Z, RepDs X.K Z dd dvs) (hl : dvs.length = ps.length) (hdb : (x == ("__debug__" : Str)) = false := by decide) : Snd P X (.Call (.Name x p) [] [] pos) (evCall F [] dd) := by
  intro W hW Z H sl ts Q g q
  refine ⟨_, pe_callU0 FO hr hg hm hk hb hd hdb, ?_⟩
  exact call_post hW (as := []) (oas := []) (vs := []) (by simpa [somes] using g) (by simp [ArgV]) (rd _) (by simpa using hl) (PostR.bind q Z H sl (Sub.refl _) rfl rfl)

/-! ### methods: the receiver is the first argument -/
theorem pe_methU {pl : Sem Bool} {C : Addr} {to : TE} {t : TA} (ho : PE X o to) (c : Cls X.K C) (hm : Meth X.K C m f) (FO : FnOk X.prog X.w X.K X.mg X.base (L2.CX X.prog X.w) k f fd ps sp) (hr : Room k X.A) (hb : Binds X.K fd ps ds) (hd : Vals dvs ds) (ha : PA X (e :: es) t)
    (h1 : starEach (e :: es) X.env = (false, eval e X.env) :: starEach es X.env) (h2 : (backTo pos (starEach es X.env)).any (·.1) = false)
    (ht : eval (.Call (.Attribute o m apos) (e :: es) [] pos) X.env = (do
      let v ← eval o X.env
      standAt apos.atName
      let (g, first) ← holding [v] (getMethod v m pl)
      callWith pos g first (backTo pos (starEach (e :: es) X.env)) (backToKw pos (keywordEach [] X.env)))) :
    PE X (.Call (.Attribute o m apos) (e :: es) [] pos) (fun σ H Q => to σ H fun x H1 => ∃ a dx fs, x = .ref a ∧ H1 a = some (.ins C dx fs) ∧ fs.lookup m = none ∧ t σ H1 fun vs H2 => sp (x :: (vs ++ dvs)) H2 Q (fun c d H' => XOut X c d σ H')) := by
  refine ⟨fun pins s σ H Q I h => PySem.W.methodCall_KW (pl := pl) (thn (ho.run pins s σ H _ I h) fun u s1 ⟨x, H1, I1, rx, a, dx, fs, ex, ea, l, q⟩ => ?_) ht⟩
  subst ex
  cases (show u = Value.ref a from rx)
  have go : ∀ us s2, AP X pins σ (fun vs H2 => sp (V.ref a :: (vs ++ dvs)) H2 Q fun c d H' => XOut X c d σ H') us s2 → X.K.In s2.heap ∧ wpAny (model X.prog X.w) X.A (call (.ref f) (Value.ref a :: us)) (EP X pins σ Q) X.xe s2 :=
    fun us s2 ⟨vs, H2, I2, rv, q2⟩ => ⟨I2.kIn, run_callU (vs := .ref a :: vs) FO hr hb hd I2 (.cons rfl rv) q2⟩
  exact getmeth_ok I1 ea c hm l (PySem.W.callWith_K (first := [.ref a]) (h₀ := X.base) I.ok.mod.kin hm.kp (thn (ha.run pos pins s1 σ H1 _ I1 q) go) h1 h2)
theorem pe_methU0 {pl : Sem Bool} {C : Addr} {to : TE} (ho : PE X o to) (c : Cls X.K C) (hm : Meth X.K C m f) (FO : FnOk X.prog X.w X.K X.mg X.base (L2.CX X.prog X.w) k f fd ps sp) (hr : Room k X.A) (hb : Binds X.K fd ps ds) (hd : Vals dvs ds)
    (ht : eval (.Call (.Attribute o m apos) [] [] pos) X.env = (do
      let v ← eval o X.env
      standAt apos.atName
      let (g, first) ← holding [v] (getMethod v m pl)
      callWith pos g first (backTo pos (starEach [] X.env)) (backToKw pos (keywordEach [] X.env)))) :
    PE X (.Call (.Attribute o m apos) [] [] pos) (fun σ H Q => to σ H fun x H1 => ∃ a dx fs, x = .ref a ∧ H1 a = some (.ins C dx fs) ∧ fs.lookup m = none ∧ sp (x :: dvs) H1 Q (fun c d H' => XOut X c d σ H')) := by
  refine ⟨fun pins s σ H Q I h => PySem.W.methodCall_KW (pl := pl) (thn (ho.run pins s σ H _ I h) fun u s1 ⟨x, H1, I1, rx, a, dx, fs, ex, ea, l, q⟩ => ?_) ht⟩
  subst ex
  cases (show u = Value.ref a from rx)
  exact getmeth_ok I1 ea c hm l (PySem.W.callWith_K0 (first := [.ref a]) I1.kIn hm.kp (run_callU (us := [.ref a]) (vs := [.ref a]) FO hr hb hd I1 (.cons rfl .nil) q))
end
end EV

set_option Elab.async false
set_option linter.all false
set_option maxRecDepth 100000
set_option maxHeartbeats 4000000
namespace EV
open PySem PySem.Spec PyProof.Rows L2
def isObj (c m : Str) : O → Bool
  | .obj _ c' fs => decide (c' = c) && (fs.lookup m).isNone
  | .v _ (.obj c' fs) => decide (c' = c) && (fs.lookup m).isNone
  | _ => false
theorem lookup_map {α β : Type} (g : α → β) (m : Str) : ∀ fs : List (Str × α), (fs.map fun p => (p.1, g p.2)).lookup m = (fs.lookup m).map g
  | [] => rfl
  | (k, v) :: r => by
    simp only [List.map_cons, List.lookup_cons, lookup_map g m r]
    cases m == k <;> rfl
theorem repdf_lookup {K : PySem.W.Frag} {Z : Hp} {m : Str} : ∀ {fs : List (Str × D)} {fv : List (Str × V)}, RepDf K Z fs fv → (∀ d, fs.lookup m = some d → ∃ x, fv.lookup m = some x ∧ RepD K Z d x) ∧ (fs.lookup m = none → fv.lookup m = none)
  | [], fv, h => by simp only [RepDf] at h; subst h; simp
  | (k, d) :: fs, fv, h => by
    simp only [RepDf] at h
    obtain ⟨x, r, rfl, h1, h2⟩ := h
    have ih := repdf_lookup (m := m) h2
    simp only [List.lookup_cons]
    cases m == k with
    | true => exact ⟨fun d' e => ⟨x, rfl, by cases e; exact h1⟩, fun e => by cases e⟩
    | false => exact ih
section
variable {X : Cx}
/-- what is told of the receiver by its owner -/
theorem isObj_rep {Z H : Hp} {r : Ow V} {rs : List (Ow V)} {c m : Str} (g : Good W X.K Z H (r :: rs)) (h : isObj c m r.er = true) : ∃ a dx fs, r.top = .ref a ∧ H a = some (.ins (He.ga X.K c) dx fs) ∧ fs.lookup m = none := by
  cases r with
  | obj x c' fs =>
    simp only [Ow.er, isObj, Bool.and_eq_true, decide_eq_true_eq] at h
    obtain ⟨rfl, h2⟩ := h
    obtain ⟨a, dx, rfl, q, _⟩ := g.openO
    refine ⟨a, dx, _, rfl, q, ?_⟩
    rw [lookup_map]
    rw [Ow.erf_map, lookup_map] at h2
    cases e : fs.lookup m with
    | none => rfl
    | some y => rw [e] at h2; simp at h2
  | v x d =>
    cases d with
    | obj c' fs =>
      simp only [Ow.er, isObj, Bool.and_eq_true, decide_eq_true_eq] at h
      obtain ⟨rfl, h2⟩ := h
      have := g.v
      simp only [RepD] at this
      obtain ⟨a, dx, fv, rfl, q, r⟩ := this
      exact ⟨a, dx, fv, rfl, g.sub _ _ q, (repdf_lookup r).2 (by simpa using h2)⟩
    | _ => simp [Ow.er, isObj] at h
  | lst _ _ => simp [Ow.er, isObj] at h
  | dct _ _ => simp [Ow.er, isObj] at h
variable {k : Nat} {f : Addr} {fd : FuncData} {ps : List Str} {dvs : List V} {ds : List Value} {x m c : Str} {p pos apos : Pos} {e o : Expr} {es : List Expr} {F : Fn} {as : List Arg} {dd : List D}
theorem R.bind_assoc {α β γ : Type} (r : R (α × Env)) (f : α → Env → R (β × Env)) (g : β → Env → R γ) : (r.bind f).bind g = r.bind fun a e => (f a e).bind g := by cases r <;> rfl
/-- the receiver, checked -/
def evRecv (c m : Str) (fo : Ev) : Ev := fun env => (fo env).bind fun o e => if isObj c m o then .ok (o, e) else .bad
/-- behind the receiver -/
theorem recv_post {fo : Ev} {Z : Hp} {sl : Sl} {ts : List (Ow V)} {k : O → Hp → Hp → Sl → Prop} (h : PostR W X sl ts Z (fun o Z' H' sl' => PostR W X sl' ts Z' (fun o2 Z2 H2 sl2 => k o2 Z2 H2 sl2) (if isObj c m o then .ok (o, ers sl') else .bad)) (fo (ers sl))) :
    PostR W X sl ts Z (fun o Z' H' sl' => isObj c m o = true ∧ k o Z' H' sl') (fo (ers sl)) :=
  PostR.imp h (List.Sublist.refl _) fun o Z1 H1 sl1 s1 t1 q => by
    cases e : isObj c m o with
    | false => rw [e] at q; exact q.elim
    | true => rw [e] at q; exact ⟨rfl, q Z1 H1 sl1 (Sub.refl _) rfl rfl⟩
theorem fetch_e {a b : Ev} (os : List (Option O)) (env : Env) : fetch (.e a :: as) os env = fetch (.e b :: as) os env := by cases os with
  | nil => rfl
  | cons o _ => cases o <;> rfl
theorem unfetch_e {a b : Ev} (bs : Env) (env : Env) : unfetch (.e a :: as) bs env = unfetch (.e b :: as) bs env := by cases bs <;> rfl
theorem fin_e {a b : Ev} (r : FR) (env : Env) : r.fin (.e a :: as) env = r.fin (.e b :: as) env := by cases r <;> simp only [FR.fin, unfetch_e (a := a) (b := b)]
theorem evCall_recv {fo : Ev} (env : Env) : evCall F (.e (evRecv c m fo) :: as) dd env = (fo env).bind fun o e => if isObj c m o then ((evAs as e).bind fun os e1 => match fetch (.e fo :: as) (some o :: os) e1 with
    | some q => (F (q.1 ++ dd.map (.v ()))).fin (.e fo :: as) q.2
    | none => .bad) else .bad := by
  simp only [evCall, evAs, evRecv, R.bind_assoc]
  congr 1
  funext o e
  cases isObj c m o with
  | false => rfl
  | true =>
    simp only [if_true, R.bind_ok]
    congr 1
    funext os e1
    rw [fetch_e (a := evRecv c m fo) (b := fo)]
    cases fetch (.e fo :: as) (some o :: os) e1 with
    | none => rfl
    | some q => exact fin_e _ _
theorem recv_go {P : Pc} {W : Wld} (hW : P.ok W) {fo : Ev} {Z H : Hp} {sl : Sl} {ts : List (Ow V)} {Q : VK} {oa : Ow V} (rd : ∀ Z, RepDs X.K Z dd dvs) (ha : SndA2 P X es as) (hl : as.length + 1 + dvs.length = ps.length) (g : Good W X.K Z H (oa :: (roots sl ++ ts)))
    (p : PostE W X sl ts Z Q ((evAs as (ers sl)).bind fun os e1 => match fetch (.e fo :: as) (some oa.er :: os) e1 with
    | some q => (F (q.1 ++ dd.map (.v ()))).fin (.e fo :: as) q.2
    | none => .bad)) : tUA X es (tops sl) H (fun vs H2 => spOf P.T X.K ps.length F (oa.top :: (vs ++ dvs)) H2 Q (fun c d H' => XOut X c d (tops sl) H')) := by
  refine ha W hW Z H sl (oa :: ts) _ (g.perm List.perm_middle.symm) (PostR.imp (PostR.bind p) (List.sublist_cons_self _ _) fun os Z1 H1 sl1 s1 t1 q oas vs g1 eo av => ?_)
  subst eo
  rw [← t1]
  refine call_post hW (as := .e fo :: as) (oas := some oa :: oas) (vs := oa.top :: vs) (ts := ts) ?_ ⟨vs, rfl, av⟩ (rd _) ?_ q
  · refine g1.perm ?_
    show (somes oas ++ (roots sl1 ++ oa :: ts)).Perm (oa :: (somes oas ++ (roots sl1 ++ ts)))
    rw [← List.append_assoc, ← List.append_assoc]
    exact List.perm_middle
  · rw [List.length_cons, argv_length av]; exact hl
/-- e.m(..) -/
theorem snd_meth {pl : Sem Bool} {fo : Ev} (cl : Cls X.K (He.ga X.K c)) (hm : Meth X.K (He.ga X.K c) m f) (FO : FnOk X.prog X.w X.K X.mg X.base (L2.CX X.prog X.w) k f fd ps (spOf P.T X.K ps.length F)) (hr : Room k X.A) (hb : Binds X.K fd ps ds) (hd : Vals dvs ds)
    (rd : ∀ Z, RepDs X.K Z dd dvs) (ho : Snd P X o fo) (ha : SndA2 P X (e :: es) as) (hl : as.length + 1 + dvs.length = ps.length) (h1 : starEach (e :: es) X.env = (false, eval e X.env) :: starEach es X.env := by rfl) (h2 : (backTo pos (starEach es X.env)).any (·.1) = false := by rfl)
    (ht : eval (.Call (.Attribute o m apos) (e :: es) [] pos) X.env = (do
      let v ← eval o X.env
      standAt apos.atName
      let (g, first) ← holding [v] (getMethod v m pl)
      callWith pos g first (backTo pos (starEach (e :: es) X.env)) (backToKw pos (keywordEach [] X.env))) := by rfl) :
    Snd P X (.Call (.Attribute o m apos) (e :: es) [] pos) (evCall F (.e (evRecv c m fo) :: as) dd) := by
  intro W hW Z H sl ts Q g q
  refine ⟨_, pe_methU (pl := pl) pe_U cl hm FO hr hb hd pa_U h1 h2 ht, ?_⟩
  rw [evCall_recv] at q
  refine ho W hW Z H sl ts _ g (PostR.imp (PostR.bind q) (List.Sublist.refl _) fun oo Z1 H1 sl1 s1 t1 q2 oa g1 eo => ?_)
  cases ei : isObj c m oo with
  | false => rw [ei] at q2; exact q2.elim
  | true =>
    rw [ei, if_pos rfl] at q2
    rw [← eo] at ei q2
    obtain ⟨a, dx, fs, ea, hH, hl0⟩ := isObj_rep g1 ei
    refine ⟨a, dx, fs, ea, hH, hl0, ?_⟩
    rw [← t1]
    exact recv_go hW (fo := fo) rd ha hl g1 q2
theorem snd_meth0 {pl : Sem Bool} {fo : Ev} (cl : Cls X.K (He.ga X.K c)) (hm : Meth X.K (He.ga X.K c) m f) (FO : FnOk X.prog X.w X.K X.mg X.base (L2.CX X.prog X.w) k f fd ps (spOf P.T X.K ps.length F)) (hr : Room k X.A) (hb : Binds X.K fd ps ds) (hd : Vals dvs ds)
    (rd : ∀ Z, RepDs X.K Z dd dvs) (ho : Snd P X o fo) (hl : 1 + dvs.length = ps.length)
    (ht : eval (.Call (.Attribute o m apos) [] [] pos) X.env = (do
      let v ← eval o X.env
      standAt apos.atName
      let (g, first) ← holding [v] (getMethod v m pl)
      callWith pos g first (backTo pos (starEach [] X.env)) (backToKw pos (keywordEach [] X.env))) := by rfl) :
    Snd P X (.Call (.Attribute o m apos) [] [] pos) (evCall F [.e (evRecv c m fo)] dd) := by
  intro W hW Z H sl ts Q g q
  refine ⟨_, pe_methU0 (pl := pl) pe_U cl hm FO hr hb hd ht, ?_⟩
  rw [evCall_recv] at q
  refine ho W hW Z H sl ts _ g (PostR.imp (PostR.bind q) (List.Sublist.refl _) fun oo Z1 H1 sl1 s1 t1 q2 oa g1 eo => ?_)
  cases ei : isObj c m oo with
  | false => rw [ei] at q2; exact q2.elim
  | true =>
    rw [ei, if_pos rfl] at q2
    rw [← eo] at ei q2
    obtain ⟨a, dx, fs, ea, hH, hl0⟩ := isObj_rep g1 ei
    refine ⟨a, dx, fs, ea, hH, hl0, ?_⟩
    rw [← t1]
    have := PostR.bind q2 Z1 H1 sl1 (Sub.refl _) rfl rfl
    exact call_post hW (as := [.e fo]) (oas := [some oa]) (vs := [oa.top]) (ts := ts) (by simpa [somes] using g1) ⟨[], rfl, by simp [ArgV]⟩ (rd _) (by simpa using hl) this

/-! ### the receiver is lent by a name -/
def evMethL (c m : Str) (F : Fn) (i : Nat) (as : List Arg) (dd : List D) : Ev := fun env => match env[i]? with
  | some (some o) => if isObj c m o then evCall F (.l i :: as) dd env else .bad
  | _ => .bad
variable {i : Nat} {y : Str} {p0 : Pos}
theorem methL_pre {Z H : Hp} {sl : Sl} {ts : List (Ow V)} {Q : VK} (g : Good W X.K Z H (roots sl ++ ts)) (q : PostE W X sl ts Z Q (evMethL c m F i as dd (ers sl))) :
    ∃ r, sl[i]? = some (some r) ∧ (∃ a dx fs, r.top = .ref a ∧ H a = some (.ins (He.ga X.K c) dx fs) ∧ fs.lookup m = none) ∧ PostE W X sl ts Z Q ((evAs as (ers sl)).bind fun os e1 => match fetch (.l i :: as) (none :: os) e1 with
    | some q => (F (q.1 ++ dd.map (.v ()))).fin (.l i :: as) q.2
    | none => .bad) := by
  simp only [evMethL] at q
  split at q
  · rename_i o ho
    obtain ⟨r, hr, rfl⟩ := ers_get ho
    split at q
    · rename_i hi
      refine ⟨r, hr, isObj_rep (rs := roots (sl.set i none) ++ ts) (g.perm ((roots_out hr).append_right ts)) hi, ?_⟩
      simp only [evCall, evAs, ho, R.bind_assoc, R.bind_ok] at q
      exact q
    · exact q.elim
  · exact q.elim
theorem snd_methL {pl : Sem Bool} (hv : PE X (.Name y p0) (tVar i)) (cl : Cls X.K (He.ga X.K c)) (hm : Meth X.K (He.ga X.K c) m f) (FO : FnOk X.prog X.w X.K X.mg X.base (L2.CX X.prog X.w) k f fd ps (spOf P.T X.K ps.length F)) (hr : Room k X.A) (hb : Binds X.K fd ps ds) (hd : Vals dvs ds)
    (rd : ∀ Z, RepDs X.K Z dd dvs) (ha : SndA2 P X (e :: es) as) (hl : as.length + 1 + dvs.length = ps.length) (h1 : starEach (e :: es) X.env = (false, eval e X.env) :: starEach es X.env := by rfl) (h2 : (backTo pos (starEach es X.env)).any (·.1) = false := by rfl)
    (ht : eval (.Call (.Attribute (.Name y p0) m apos) (e :: es) [] pos) X.env = (do
      let v ← eval (.Name y p0) X.env
      standAt apos.atName
      let (g, first) ← holding [v] (getMethod v m pl)
      callWith pos g first (backTo pos (starEach (e :: es) X.env)) (backToKw pos (keywordEach [] X.env))) := by rfl) :
    Snd P X (.Call (.Attribute (.Name y p0) m apos) (e :: es) [] pos) (evMethL c m F i as dd) := by
  intro W hW Z H sl ts Q g q
  obtain ⟨r, hr0, ⟨a, dx, fs, ea, hH, hl0⟩, q1⟩ := methL_pre g q
  refine ⟨_, pe_methU (pl := pl) hv cl hm FO hr hb hd pa_U h1 h2 ht, r.top, tops_get hr0, a, dx, fs, ea, hH, hl0, ?_⟩
  refine ha W hW Z H sl ts _ g (PostR.imp (PostR.bind q1) (List.Sublist.refl _) fun os Z1 H1 sl1 s1 t1 q oas vs g1 eo av => ?_)
  subst eo
  rw [← t1]
  refine call_post hW (as := .l i :: as) (oas := none :: oas) (vs := r.top :: vs) (ts := ts) g1 ⟨r.top, vs, rfl, by rw [t1]; exact tops_get hr0, av⟩ (rd _) ?_ q
  rw [List.length_cons, argv_length av]; exact hl
theorem snd_methL0 {pl : Sem Bool} (hv : PE X (.Name y p0) (tVar i)) (cl : Cls X.K (He.ga X.K c)) (hm : Meth X.K (He.ga X.K c) m f) (FO : FnOk X.prog X.w X.K X.mg X.base (L2.CX X.prog X.w) k f fd ps (spOf P.T X.K ps.length F)) (hr : Room k X.A) (hb : Binds X.K fd ps ds) (hd : Vals dvs ds)
    (rd : ∀ Z, RepDs X.K Z dd dvs) (hl : 1 + dvs.length = ps.length)
    (ht : eval (.Call (.Attribute (.Name y p0) m apos) [] [] pos) X.env = (do
      let v ← eval (.Name y p0) X.env
      standAt apos.atName
      let (g, first) ← holding [v] (getMethod v m pl)
      callWith pos g first (backTo pos (starEach [] X.env)) (backToKw pos (keywordEach [] X.env))) := by rfl) :
    Snd P X (.Call (.Attribute (.Name y p0) m apos) [] [] pos) (evMethL c m F i [] dd) := by
  intro W hW Z H sl ts Q g q
  obtain ⟨r, hr0, ⟨a, dx, fs, ea, hH, hl0⟩, q1⟩ := methL_pre g q
  refine ⟨_, pe_methU0 (pl := pl) hv cl hm FO hr hb hd ht, r.top, tops_get hr0, a, dx, fs, ea, hH, hl0, ?_⟩
  have := PostR.bind q1 Z H sl (Sub.refl _) rfl rfl
  exact call_post hW (as := [.l i]) (oas := [none]) (vs := [r.top]) (ts := ts) (by simpa [somes] using g) ⟨r.top, [], rfl, tops_get hr0, by simp [ArgV]⟩ (rd _) (by simpa using hl) this
end
end EV

set_option Elab.async false
set_option linter.all false
set_option maxRecDepth 100000
set_option maxHeartbeats 4000000
namespace EV
open PySem PySem.Spec PyProof.Rows L2
section
variable {X : Cx} {k : Nat} {f C : Addr} {fd : FuncData} {ps : List Str} {sp : Sp} {dvs : List V} {ds : List Value} {x m c : Str} {p pos apos : Pos} {e o : Expr} {es : List Expr} {F : Fn} {as : List Arg} {dd : List D}
theorem run_makeU {pins : List (Addr × Obj)} {σ : L2.St} {H : Hp} {s : Shared} {Q : VK} {us : List Value} {vs : List V} (M : Mk X.K C f) (FO : FnOk X.prog X.w X.K X.mg X.base (L2.CX X.prog X.w) k f fd ps sp) (hr : Room (k + 1) X.A) (hb : Binds X.K fd ps ds) (hd : Vals dvs ds)
    (I : Inv X pins σ H s) (rv : Vals vs us)
    (h : ∀ q dx, H q = none → H dx = none → dx ≠ q → sp (.ref q :: (vs ++ dvs)) (upd (upd H dx (.own q)) q (.ins C dx [])) (fun v H2 => v = .non ∧ Q (.ref q) H2) (fun c d H' => XOut X c d σ H')) :
    wpAny (model X.prog X.w) X.A (call (.ref C) us) (EP X pins σ Q) X.xe s := by
  have prom := h _ _ (I.hok.fresh (Nat.le_succ s.heap.objs.size)) (I.hok.fresh (Nat.le_refl s.heap.objs.size)) (Nat.ne_of_lt (Nat.lt_succ_self _))
  have made := Inv.made (C := C) I
  have rr : Vals (V.ref (s.heap.objs.size + 1) :: (vs ++ dvs)) (Value.ref (s.heap.objs.size + 1) :: (us ++ ds)) := Paired.cons rfl (rv.append hd)
  have len := FO.len _ _ _ _ prom
  rw [rr.length] at len
  have bound := hb _ (Value.ref (s.heap.objs.size + 1) :: us) made.kIn len
  have run := FO.run _ X.stack _ _ _ _ _ _ _ (hr.make C us []) (made.env0.make C us []) bound rr prom
  refine wpAny_call (make_map (f := f) I.kIn M.makes M.init (beq_iff_eq.mp M.fn) (codeAny_mono run fun r s' q => ?_))
  have L := land_call made q
  cases r with
  | error z => exact L
  | ok fl =>
    cases fl with
    | ret u =>
      obtain ⟨v, H2, I2, rv2, rfl, q2⟩ := L
      exact ⟨rv2, .ref _, H2, I2, rfl, q2⟩
    | _ => exact L
theorem pe_makeU (M : Mk X.K C f) (FO : FnOk X.prog X.w X.K X.mg X.base (L2.CX X.prog X.w) k f fd ps sp) (hr : Room (k + 1) X.A) (hg : Gl X x) (hm : X.mg x = some (.ref C)) (hb : Binds X.K fd ps ds) (hd : Vals dvs ds)
    {t : TA} (ha : PA X (e :: es) t) (hdb : (x == ("__debug__" : Str)) = false) (h1 : starEach (e :: es) X.env = (false, eval e X.env) :: starEach es X.env) (h2 : (backTo pos (starEach es X.env)).any (·.1) = false) :
    PE X (.Call (.Name x p) (e :: es) [] pos) (fun σ H Q => t σ H fun vs H1 => ∀ q dx, H1 q = none → H1 dx = none → dx ≠ q → sp (.ref q :: (vs ++ dvs)) (upd (upd H1 dx (.own q)) q (.ins C dx [])) (fun v H2 => v = .non ∧ Q (.ref q) H2) (fun c d H' => XOut X c d σ H')) :=
  ⟨fun pins s σ H Q I h => wpAny_Call_Name_kw (ld_glob I hg hm (PySem.W.callWith_K (h₀ := X.base) I.ok.mod.kin M.kp (thn (ha.run pos pins s σ H _ I h) fun us s1 ⟨vs, H1, I1, rv, q⟩ => ⟨I1.kIn, run_makeU M FO hr hb hd I1 rv q⟩) h1 h2) hdb)⟩
theorem pe_makeU0 (M : Mk X.K C f) (FO : FnOk X.prog X.w X.K X.mg X.base (L2.CX X.prog X.w) k f fd ps sp) (hr : Room (k + 1) X.A) (hg : Gl X x) (hm : X.mg x = some (.ref C)) (hb : Binds X.K fd ps ds) (hd : Vals dvs ds)
    (hdb : (x == ("__debug__" : Str)) = false) :
    PE X (.Call (.Name x p) [] [] pos) (fun σ H1 Q => ∀ q dx, H1 q = none → H1 dx = none → dx ≠ q → sp (.ref q :: dvs) (upd (upd H1 dx (.own q)) q (.ins C dx [])) (fun v H2 => v = .non ∧ Q (.ref q) H2) (fun c d H' => XOut X c d σ H')) :=
  ⟨fun pins s σ H Q I h => wpAny_Call_Name_kw (ld_glob I hg hm (PySem.W.callWith_K0 I.kIn M.kp (run_makeU (us := []) (vs := []) M FO hr hb hd I .nil h)) hdb)⟩
def FR.mk (as : List Arg) (e2 : Env) : FR → R (O × Env)
  | .ok (.v _ .non) (some self :: back) => (match unfetch as back e2 with
    | some e3 => .ok (self, e3)
    | none => .bad)
  | .exc x (_ :: back) => (match unfetch as back e2 with
    | some e3 => .exc x e3
    | none => .bad)
  | _ => .bad
def evMake (c : Str) (F : Fn) (as : List Arg) (ds : List D) : Ev := fun env => (evAs as env).bind fun os e1 => match fetch as os e1 with
  | some q => (F (.obj () c [] :: (q.1 ++ ds.map (.v ())))).mk as q.2
  | none => .bad
theorem new_obj {Z H : Hp} {rs : List (Ow V)} {q dx : Addr} (g : Good W X.K Z H rs) (hq : H q = none) (hx : H dx = none) (ne : dx ≠ q) : Good W X.K Z (upd (upd H dx (.own q)) q (.ins (He.ga X.K c) dx [])) (.obj (.ref q) c [] :: rs) := by
  have g1 := g.upd (o := .own q) hx
  have hq1 : upd H dx (.own q) q = none := by rw [upd_ne ne.symm]; exact hq
  have := Good.closeO (K := X.K) (c := c) (fs := []) (dx := dx) (rs := rs) (a := q) (by simpa using g1) (by simpa using g1.new hq1) (Sub.none g1.sub hq1) (.inl hq1)
  simpa using this
/-- behind the arguments of a class: the promise of its __init__ -/
theorem make_post {P : Pc} {W : Wld} (hW : P.ok W) {Z H : Hp} {sl : Sl} {ts : List (Ow V)} {oas : List (Option (Ow V))} {vs : List V} {Q : VK} (g : Good W X.K Z H (somes oas ++ (roots sl ++ ts))) (av : ArgV as oas (tops sl) vs)
    (rd : RepDs X.K Z dd dvs) (hl : 1 + vs.length + dvs.length = ps.length)
    (pp : PostR W X sl ts Z (fun o Z' H' sl' => ∀ oa, Good W X.K Z' H' (oa :: (roots sl' ++ ts)) → oa.er = o → Q oa.top H') (match fetch as (oas.map (Option.map Ow.er)) (ers sl) with
      | some q => (F (.obj () c [] :: (q.1 ++ dd.map (.v ())))).mk as q.2
      | none => .bad)) (q dx : Addr) (hq : H q = none) (hx : H dx = none) (ne : dx ≠ q) :
    spOf P.T X.K ps.length F (.ref q :: (vs ++ dvs)) (upd (upd H dx (.own q)) q (.ins (He.ga X.K c) dx [])) (fun v H2 => v = .non ∧ Q (.ref q) H2) (fun c d H' => XOut X c d (tops sl) H') := by
  cases hf : fetch as (oas.map (Option.map Ow.er)) (ers sl) with
  | none => rw [hf] at pp; exact pp.elim
  | some qq =>
    obtain ⟨rs, env⟩ := qq
    rw [hf] at pp
    obtain ⟨ros, sl2, e1, e2, e3, g2, l2, un⟩ := fetch_ok av (fun i x hx r hr => by rw [tops_get hr] at hx; simpa using hx) g hf
    refine ⟨by rw [List.length_cons, List.length_append]; omega, W, Z, .obj (.ref q) c [] :: (ros ++ vOf dd dvs), roots sl2 ++ ts, hW.1, ?_, ?_, ?_⟩
    · rw [List.map_cons, List.map_append, e3, vOf_top rd]; rfl
    · refine new_obj ((vOf_good g2 rd).perm ?_) hq hx ne
      rw [← List.append_assoc]
      exact List.perm_append_comm.append_right _
    · rw [List.map_cons, List.map_append, e1, vOf_er rd]
      simp only at pp
      have er0 : (Ow.obj (V.ref q) c [] : Ow V).er = .obj () c [] := rfl
      rw [er0]
      have hb : ∀ {b : Option (Ow V)} {slb : Sl}, (∀ (j : Nat) (r : Ow V), (b :: slb)[j]? = some (some r) → ((.obj (.ref q) c [] :: (ros ++ vOf dd dvs)).map Ow.top)[j]? = some r.top) → ∀ env3, unfetch as (ers slb) env = some env3 → ∃ sl3 : Sl, ers sl3 = env3 ∧ tops sl3 = tops sl ∧ ∀ Z' H' ts', Good W X.K Z' H' (roots slb ++ (roots sl2 ++ ts')) → Good W X.K Z' H' (roots sl3 ++ ts') := by
        intro b slb h env3 hu
        refine un [] slb env3 [] (fun j r hj hs => ?_) hu
        have := h (j + 1) r (by simpa using hs)
        rw [List.map_cons, List.getElem?_cons_succ, List.map_append, List.getElem?_append_left (by simpa using hj)] at this
        exact this
      cases hF : F (.obj () c [] :: (rs ++ dd.map (.v ()))) with
      | bad => rw [hF] at pp; exact pp
      | ok o bk =>
        rw [hF] at pp
        intro Z' H' slb oa s' g' eo eb ht
        subst eb
        cases slb with
        | nil =>
          cases o with
          | v _ d => cases d <;> exact pp.elim
          | _ => exact pp.elim
        | cons b slb =>
          cases o with
          | v _ d =>
            cases d with
            | non =>
              cases b with
              | none => exact pp.elim
              | some self =>
                simp only [ers, List.map_cons, Option.map_some, FR.mk] at pp
                cases hu : unfetch as (List.map (Option.map Ow.er) slb) env with
                | none => rw [hu] at pp; exact pp.elim
                | some env3 =>
                  rw [hu] at pp
                  obtain ⟨sl3, a1, a2, a3⟩ := hb (b := some self) ht env3 hu
                  have t0 := ht 0 self rfl
                  simp only [List.map_cons, List.getElem?_cons_zero, Option.some.injEq] at t0
                  have eoa : oa.top = .non := by
                    cases oa with
                    | v z d => simp only [Ow.er, Ow.v.injEq, true_and] at eo; subst eo; have := g'.v; simp only [RepD] at this; exact this
                    | lst _ _ => simp [Ow.er] at eo
                    | obj _ _ _ => simp [Ow.er] at eo
                    | dct _ _ => simp [Ow.er] at eo
                  refine ⟨eoa, ?_⟩
                  have e4 : self.top = .ref q := t0.symm
                  rw [← e4]
                  refine pp Z' H' sl3 s' a1 a2 self ?_ rfl
                  refine Good.perm (a3 Z' H' (self :: ts) ?_) List.perm_middle
                  refine g'.tail.perm ?_
                  show (self :: (roots slb ++ (roots sl2 ++ ts))).Perm _
                  rw [← List.append_assoc, ← List.append_assoc]
                  exact List.perm_middle.symm
            | _ => exact pp.elim
          | _ => exact pp.elim
      | exc z bk =>
        rw [hF] at pp
        intro Z' H' slb c d s' g' eb ht rx
        subst eb
        cases slb with
        | nil => exact pp.elim
        | cons b slb =>
          simp only [ers, List.map_cons, FR.mk] at pp
          cases hu : unfetch as (List.map (Option.map Ow.er) slb) env with
          | none => rw [hu] at pp; exact pp.elim
          | some env3 =>
            rw [hu] at pp
            obtain ⟨sl3, a1, a2, a3⟩ := hb (b := b) ht env3 hu
            rw [← a2]
            refine pp Z' H' sl3 c d s' (a3 Z' H' ts ?_) a1 a2 rx
            cases b with
            | none => exact g'
            | some y => exact g'.tail
theorem snd_make (M : Mk X.K (He.ga X.K c) f) (FO : FnOk X.prog X.w X.K X.mg X.base (L2.CX X.prog X.w) k f fd ps (spOf P.T X.K ps.length F)) (hr : Room (k + 1) X.A) (hg : Gl X x) (hm : X.mg x = some (.ref (He.ga X.K c))) (hb : Binds X.K fd ps ds) (hd : Vals dvs ds)
    (rd : ∀ Z, RepDs X.K Z dd dvs) (ha : SndA2 P X (e :: es) as) (hl : 1 + as.length + dvs.length = ps.length) (hdb : (x == ("__debug__" : Str)) = false := by decide) (h1 : starEach (e :: es) X.env = (false, eval e X.env) :: starEach es X.env := by rfl) (h2 : (backTo pos (starEach es X.env)).any (·.1) = false := by rfl) :
    Snd P X (.Call (.Name x p) (e :: es) [] pos) (evMake c F as dd) := by
  intro W hW Z H sl ts Q g q
  refine ⟨_, pe_makeU M FO hr hg hm hb hd pa_U hdb h1 h2, ?_⟩
  refine ha W hW Z H sl ts _ g (PostR.imp (PostR.bind q) (List.Sublist.refl _) fun os Z1 H1 sl1 s1 t1 q oas vs g1 eo av => ?_)
  subst eo
  rw [← t1]
  exact make_post hW g1 av (rd _) (by rw [argv_length av]; exact hl) q
theorem snd_make0 (M : Mk X.K (He.ga X.K c) f) (FO : FnOk X.prog X.w X.K X.mg X.base (L2.CX X.prog X.w) k f fd ps (spOf P.T X.K ps.length F)) (hr : Room (k + 1) X.A) (hg : Gl X x) (hm : X.mg x = some (.ref (He.ga X.K c))) (hb : Binds X.K fd ps ds) (hd : Vals dvs ds)
    (rd : ∀ Z, RepDs X.K Z dd dvs) (hl : 1 + dvs.length = ps.length) (hdb : (x == ("__debug__" : Str)) = false := by decide) : Snd P X (.Call (.Name x p) [] [] pos) (evMake c F [] dd) := by
  intro W hW Z H sl ts Q g q
  refine ⟨_, pe_makeU0 M FO hr hg hm hb hd hdb, ?_⟩
  exact make_post hW (as := []) (oas := []) (vs := []) (by simpa [somes] using g) (by simp [ArgV]) (rd _) (by simpa using hl) (PostR.bind q Z H sl (Sub.refl _) rfl rfl)
end
end EV

set_option Elab.async false
set_option linter.all false
set_option maxRecDepth 100000
set_option maxHeartbeats 4000000
namespace EV
open PySem PySem.Spec PyProof.Rows L2
section
variable {X : Cx} {e o : Expr} {f y : Str} {pos p0 pos' : Pos} {i : Nat}
/-- the classes cs have no attribute f of their own -/
def FldOk (K : PySem.W.Frag) (cs : List Str) (f : Str) : Prop := ∀ c ∈ cs, Cls K (He.ga K c) ∧ NoAttr K (He.ga K c) f
/-- a field of a frozen instance, or of an owned one if it is frozen itself -/
def fldO (cs : List Str) (f : Str) : O → Option D
  | .v _ (.obj c fs) => if cs.contains c then fs.lookup f else none
  | .obj _ c fs => if cs.contains c then (match fs.lookup f with
    | some (.v _ d) => some d
    | _ => none) else none
  | _ => none
def evFld (cs : List Str) (f : Str) (fo : Ev) : Ev := fun env => (fo env).bind fun o e => match fldO cs f o with
  | some d => .ok (.v () d, e)
  | none => .bad
def evFldL (cs : List Str) (f : Str) (i : Nat) : Ev := fun env => match env[i]? with
  | some (some o) => (match fldO cs f o with
    | some d => .ok (.v () d, env)
    | none => .bad)
  | _ => .bad
theorem fld_rep {Z H : Hp} {r : Ow V} {rs : List (Ow V)} {cs : List Str} {d : D} (hf : FldOk X.K cs f) (g : Good W X.K Z H (r :: rs)) (h : fldO cs f r.er = some d) :
    ∃ a c dx fs v, r.top = .ref a ∧ H a = some (.ins (He.ga X.K c) dx fs) ∧ c ∈ cs ∧ fs.lookup f = some v ∧ RepD X.K Z d v := by
  cases r with
  | v x d0 =>
    cases d0 with
    | obj c fs =>
      simp only [Ow.er, fldO] at h
      split at h
      · rename_i hc
        have hc' : c ∈ cs := by simpa using hc
        have := g.v
        simp only [RepD] at this
        obtain ⟨a, dx, fv, rfl, q, r⟩ := this
        obtain ⟨v, hv, rv⟩ := (repdf_lookup (m := f) r).1 d h
        exact ⟨a, _, dx, fv, v, rfl, g.sub _ _ q, hc', hv, rv⟩
      · cases h
    | _ => simp [Ow.er, fldO] at h
  | lst _ _ => simp [Ow.er, fldO] at h
  | dct _ _ => simp [Ow.er, fldO] at h
  | obj x c fs =>
    simp only [Ow.er, fldO] at h
    split at h
    · rename_i hc
      have hc' : c ∈ cs := by simpa using hc
      rw [Ow.erf_map, lookup_map] at h
      obtain ⟨a, dx, rfl, q, g1, hn0, hz0⟩ := g.openO
      cases e : fs.lookup f with
      | none => rw [e] at h; simp at h
      | some w =>
        rw [e] at h
        cases w with
        | v z d1 =>
          simp only [Option.map_some, Ow.er, Option.some.injEq] at h
          subst h
          refine ⟨a, _, dx, _, z, rfl, q, hc', by rw [lookup_map, e]; rfl, ?_⟩
          have hm : Ow.v z d1 ∈ fs.map (·.2) := by
            clear g g1 q hn0
            induction fs with
            | nil => simp at e
            | cons p r ih =>
              obtain ⟨kk, vv⟩ := p
              simp only [List.lookup_cons] at e
              cases hk : f == kk with
              | true => rw [hk] at e; simp only [Option.some.injEq] at e; subst e; simp
              | false => rw [hk] at e; exact List.mem_cons_of_mem _ (ih e)
          have := Reps_iff.mp g1.rep _ (List.mem_append_left _ hm)
          simpa only [Rep] using this
        | lst _ _ => simp [Ow.er] at h
        | obj _ _ _ => simp [Ow.er] at h
        | dct _ _ => simp [Ow.er] at h
    · cases h
theorem snd_fld {cs : List Str} {fo : Ev} (hf : FldOk X.K cs f) (h : Snd P X e fo) (hb : attributeBase e f X.env (eval e X.env) = eval e X.env := by rfl) : Snd P X (.Attribute e f pos) (evFld cs f fo) := by
  intro W hW Z H sl ts Q g p
  refine ⟨_, pe_fld pe_U hb, ?_⟩
  refine h W hW Z H sl ts _ g (PostR.imp (PostR.bind p) (List.Sublist.refl _) fun oo Z1 H1 sl1 s1 t1 q oa g1 eo => ?_)
  cases e1 : fldO cs f oo with
  | none => rw [e1] at q; exact q.elim
  | some d =>
    rw [e1] at q
    rw [← eo] at e1
    obtain ⟨a, c, dx, fs, v, h1, h2, h3, h5, h6⟩ := fld_rep hf g1 e1
    exact ⟨a, _, dx, fs, v, h1, h2, (hf c h3).1, (hf c h3).2, h5, q Z1 H1 sl1 (Sub.refl _) rfl rfl (.v v d) (g1.tail.cons_v h6) rfl⟩
theorem snd_fldL {cs : List Str} (hv : PE X (.Name y p0) (tVar i)) (hf : FldOk X.K cs f) (hb : attributeBase (.Name y p0) f X.env (eval (.Name y p0) X.env) = eval (.Name y p0) X.env := by rfl) : Snd P X (.Attribute (.Name y p0) f pos) (evFldL cs f i) := by
  intro W hW Z H sl ts Q g p
  refine ⟨_, pe_fld hv hb, ?_⟩
  simp only [evFldL] at p
  split at p
  · rename_i oo ho
    obtain ⟨r, hr, rfl⟩ := ers_get ho
    cases e1 : fldO cs f r.er with
    | none => rw [e1] at p; exact p.elim
    | some d =>
      rw [e1] at p
      obtain ⟨a, c, dx, fs, v, h1, h2, h3, h5, h6⟩ := fld_rep (rs := roots (sl.set i none) ++ ts) hf (g.perm ((roots_out hr).append_right ts)) e1
      exact ⟨r.top, tops_get hr, a, _, dx, fs, v, h1, h2, (hf c h3).1, (hf c h3).2, h5, p Z H sl (Sub.refl _) rfl rfl (.v v d) (g.cons_v h6) rfl⟩
  · exact p.elim

/-! ### a field stored -/
def putO {A : Type} (f : Str) (v : Ow A) : List (Str × Ow A) → List (Str × Ow A)
  | [] => [(f, v)]
  | (g, x) :: r => if g = f then (g, v) :: r else (g, x) :: putO f v r
theorem putO_top {f : Str} {v : Ow V} : ∀ fs : List (Str × Ow V), (putO f v fs).map (fun p => (p.1, p.2.top)) = putF f v.top (fs.map fun p => (p.1, p.2.top))
  | [] => rfl
  | (g, x) :: r => by
    simp only [putO, List.map_cons, putF]
    split
    · rfl
    · simp only [List.map_cons, putO_top r]
theorem putO_er {f : Str} {v : Ow V} : ∀ fs : List (Str × Ow V), Ow.erf (putO f v fs) = putO f v.er (Ow.erf fs)
  | [] => rfl
  | (g, x) :: r => by
    simp only [putO, Ow.erf]
    split
    · simp only [Ow.erf]
    · simp only [Ow.erf, putO_er r]
theorem putO_sub {f : Str} {v : Ow V} : ∀ fs : List (Str × Ow V), ∃ l, ((putO f v fs).map (·.2)).Perm (v :: l) ∧ l.Sublist (fs.map (·.2))
  | [] => ⟨[], .refl _, .slnil⟩
  | (g, x) :: r => by
    obtain ⟨l, h1, h2⟩ := putO_sub r
    simp only [putO]
    split
    · exact ⟨r.map (·.2), .refl _, List.sublist_cons_self _ _⟩
    · refine ⟨x :: l, ?_, h2.cons_cons x⟩
      simp only [List.map_cons]
      exact (h1.cons x).trans (List.Perm.swap _ _ _)
/-- the owned instance at i gets a field -/
def setFld (cs : List Str) (f : Str) (i : Nat) (o : O) (env : Env) : Option Env := match env[i]? with
  | some (some (.obj _ c fs)) => if cs.contains c && decide (fs.length < 1000) then some (env.set i (some (.obj () c (putO f o fs)))) else none
  | _ => none
theorem setFld_ok {cs : List Str} {Z H : Hp} {sl : Sl} {ts : List (Ow V)} {oa : Ow V} {env : Env} (hf : FldOk X.K cs f) (g : Good W X.K Z H (oa :: (roots sl ++ ts))) (h : setFld cs f i oa.er (ers sl) = some env) :
    ∃ a c dx fs, ∃ sl' : Sl, (tops sl)[i]? = some (some (.ref a)) ∧ H a = some (.ins (He.ga X.K c) dx fs) ∧ c ∈ cs ∧ fs.length < 1000 ∧
      Good W X.K Z (upd H a (.ins (He.ga X.K c) dx (putF f oa.top fs))) (roots sl' ++ ts) ∧ ers sl' = env ∧ tops sl' = tops sl := by
  simp only [setFld] at h
  split at h
  · rename_i u c fs0 ho
    obtain ⟨r, hr, er⟩ := ers_get ho
    split at h
    · rename_i hc
      cases h
      simp only [Bool.and_eq_true, decide_eq_true_eq] at hc
      have hc' : c ∈ cs := by simpa using hc.1
      cases r with
      | v _ _ => simp [Ow.er] at er
      | lst _ _ => simp [Ow.er] at er
      | dct _ _ => simp [Ow.er] at er
      | obj x c2 fs =>
        simp only [Ow.er, Ow.obj.injEq, true_and] at er
        obtain ⟨rfl, rfl⟩ := er
        have hl : i < sl.length := (List.getElem?_eq_some_iff.mp hr).1
        have g1 : Good W X.K Z H (.obj x c2 fs :: (oa :: (roots (sl.set i none) ++ ts))) := by
          refine g.perm ?_
          refine (((roots_out hr).append_right ts).cons oa).trans ?_
          exact List.Perm.swap _ _ _
        obtain ⟨a, dx, rfl, q, g2, hn, hz⟩ := g1.openO
        obtain ⟨l, l1, l2⟩ := putO_sub (f := f) (v := oa) fs
        have sb : ((putO f oa fs).map (·.2) ++ (roots (sl.set i none) ++ ts)).Perm (oa :: (l ++ (roots (sl.set i none) ++ ts))) := l1.append_right _
        have sb2 : (oa :: (l ++ (roots (sl.set i none) ++ ts))).Perm (l ++ (oa :: (roots (sl.set i none) ++ ts))) := List.perm_middle.symm
        have sb3 : (l ++ (oa :: (roots (sl.set i none) ++ ts))).Sublist (fs.map (·.2) ++ (oa :: (roots (sl.set i none) ++ ts))) := l2.append (List.Sublist.refl _)
        have g3 : Good W X.K Z H ((putO f oa fs).map (·.2) ++ (roots (sl.set i none) ++ ts)) := (g2.sublist sb3).perm (sb.trans sb2).symm
        have hn3 : a ∉ Ow.fps ((putO f oa fs).map (·.2) ++ (roots (sl.set i none) ++ ts)) := fun hm => hn ((fps_sub sb3).subset ((fps_perm (sb.trans sb2)).mem_iff.mp hm))
        have g4 := Good.closeO (c := c2) (dx := dx) g3 hn3 hz (.inr ⟨_, q, rfl⟩)
        rw [putO_top] at g4
        refine ⟨a, _, dx, _, sl.set i (some (.obj (.ref a) c2 (putO f oa fs))), tops_get hr, q, hc', ?_, ?_, ?_, tops_set_same hr rfl⟩
        · have := hc.2
          rw [Ow.erf_map, List.length_map] at this
          rw [List.length_map]; exact this
        · refine g4.perm ?_
          exact ((roots_in (r := Ow.obj (.ref a) c2 (putO f oa fs)) hl).append_right ts).symm
        · rw [ers_set]
          simp only [Option.map_some, Ow.er, putO_er]
    · cases h
  · cases h
def evFldSet (cs : List Str) (f : Str) (i : Nat) (fv : Ev) : Es := fun env => (fv env).out fun o e => match setFld cs f i o e with
  | some e2 => .nx e2
  | none => .bad
theorem snds_fld {cs : List Str} {fv : Ev} (hv : PE X (.Name y p0) (tVar i)) (hf : FldOk X.K cs f) (he : Snd P X e fv) (hs : swapsWith e (some (.Attribute (.Name y p0) f pos')) pos.line X.env = pure false := by rfl) :
    SndS P X (.Assign [.Attribute (.Name y p0) f pos'] e pos) (evFldSet cs f i fv) [] := by
  intro W hW Z H sl ts D gd p
  refine ⟨_, ps_fld hv pe_U hs, ?_⟩
  refine he W hW Z H sl ts _ gd (PostR.imp (PostS.out p) (List.Sublist.refl _) fun oo Z1 H1 sl1 s1 t1 q oa g1 eo => ?_)
  cases e1 : setFld cs f i oo (ers sl1) with
  | none => rw [e1] at q; exact q.elim
  | some env =>
    rw [e1] at q
    rw [← eo] at e1
    obtain ⟨a, c, dx, fs, sl2, h1, h2, h3, h5, h6, h7, h8⟩ := setFld_ok hf g1 e1
    rw [← t1]
    refine ⟨.ref a, h1, a, _, dx, fs, rfl, h2, (hf c h3).1, (hf c h3).2, h5, ?_⟩
    have := q Z1 _ sl2 (Sub.refl _) h6 h7 (KeepT.same h8)
    rwa [h8] at this
/-- self.f op= e -/
def evFldAug (cs : List Str) (f : Str) (i : Nat) (pp : List D → Option O) (fv : Ev) : Es := fun env => match env[i]? with
  | some (some o) => (match fldO cs f o with
    | some d0 => (fv env).out fun o e => match pp [d0, o.toD] with
      | some (.v _ d) => (match setFld cs f i (.v () d) e with
        | some e2 => .nx e2
        | none => .bad)
      | _ => .bad
    | none => .bad)
  | _ => .bad
theorem er_v {oa : Ow V} {d : D} {Z H : Hp} {rs : List (Ow V)} (g : Good W X.K Z H (oa :: rs)) (e : oa.er = .v () d) : oa = .v oa.top d ∧ RepD X.K Z d oa.top := by
  cases oa with
  | v x d' =>
    simp only [Ow.er, Ow.v.injEq, true_and] at e
    subst e
    exact ⟨rfl, g.v⟩
  | lst _ _ => simp [Ow.er] at e
  | obj _ _ _ => simp [Ow.er] at e
  | dct _ _ => simp [Ow.er] at e
theorem snds_fldAug {c : Str} {fv : Ev} {op : Operator} {r : R2} {pp : List D → Option O} {tpos : Pos} (hv : PE X (.Name y p0) (tVar i)) (hf : FldOk X.K [c] f) (he : Snd P X e fv) (ho : InOp X op r) (hp : PrimOk X (r2 r) pp) :
    SndS P X (.AugAssign (.Attribute (.Name y p0) f tpos) op e pos) (evFldAug [c] f i pp fv) [] := by
  intro W hW Z H sl ts D gd p
  refine ⟨_, ps_fldaug hv pe_U ho, ?_⟩
  simp only [evFldAug] at p
  split at p
  · rename_i oo ho'
    obtain ⟨rr, hr, rfl⟩ := ers_get ho'
    cases e1 : fldO [c] f rr.er with
    | none => rw [e1] at p; exact p.elim
    | some d0 =>
      rw [e1] at p
      obtain ⟨a, c1, dx, fs, v, h1, h2, h3, h5, h6⟩ := fld_rep (rs := roots (sl.set i none) ++ ts) hf (gd.perm ((roots_out hr).append_right ts)) e1
      cases List.mem_singleton.mp h3
      refine ⟨rr.top, tops_get hr, a, _, dx, fs, v, h1, h2, (hf c h3).1, (hf c h3).2, h5, ?_⟩
      refine he W hW Z H sl ts _ gd (PostR.imp (PostS.out p) (List.Sublist.refl _) fun o2 Z1 H1 sl1 s1 t1 q oa g1 eo => ?_)
      obtain ⟨Z2, s2, g2⟩ := g1.freeze
      have rd := g2.v
      rw [← Ow.er_toD, eo] at rd
      cases e2 : pp [d0, o2.toD] with
      | none => rw [e2] at q; exact q.elim
      | some o3 =>
        rw [e2] at q
        refine hp W Z2 H1 (roots sl1 ++ ts) [d0, o2.toD] [v, oa.top] o3 _ g2.tail ?_ e2 fun Z3 H3 ob s3 g3 e3 => ?_
        · simp only [RepTops]
          exact ⟨_, _, rfl, .inl (h6.mono (s1.trans s2)), _, _, rfl, .inl rd, rfl⟩
        · cases o3 with
          | v _ d =>
            simp only at q
            cases e4 : setFld [c] f i (.v () d) (ers sl1) with
            | none => rw [e4] at q; exact q.elim
            | some env =>
              rw [e4] at q
              rw [← e3] at e4
              obtain ⟨a', c', dx', fs', sl2, k1, k2, k3, k5, k6, k7, k8⟩ := setFld_ok hf g3 e4
              cases List.mem_singleton.mp k3
              rw [t1, tops_get hr, h1] at k1
              cases k1
              refine ⟨dx', fs', k2, k5, ?_⟩
              rw [← t1]
              have := q Z3 _ sl2 (s2.trans s3) k6 k7 (KeepT.same k8)
              rwa [k8] at this
          | _ => exact q.elim
  · exact p.elim

/-! ### fields as targets -/
theorem pg_fldU {to : TE} (ho : PE X o to) : PG X (.Attribute o f pos) (fun v σ H Q => to σ H fun x H2 => ∃ a C dx fs, x = .ref a ∧ H2 a = some (.ins C dx fs) ∧ Cls X.K C ∧ NoAttr X.K C f ∧ fs.length < 1000 ∧ Q σ (upd H2 a (.ins C dx (putF f v fs)))) := by
  refine ⟨fun pins s σ H v u Q I rv h => ?_⟩
  rw [assign_Attribute]
  refine wpAny_bind (wpAny_holding (thn (ho.run pins s σ H _ I h) fun ov s1 ⟨x, H1, I1, rx, a, C, dx, fs, ex, ea, c, n, l, q⟩ => wpAny_bind (wpAny_standAt ?_)))
  subst ex
  cases (show ov = Value.ref a from rx)
  exact wpAny_bind (wpAny_holding (setattr_ok I1 ea c n l rv fun s3 I3 => wpAny_release ⟨σ, _, I3, q⟩))
def tgFld (cs : List Str) (f : Str) (i : Nat) : Tg := fun d env => setFld cs f i (.v () d) env
theorem sndg_fld {cs : List Str} (hv : PE X (.Name y p0) (tVar i)) (hf : FldOk X.K cs f) : SndG P X (.Attribute (.Name y p0) f pos) (tgFld cs f i) [] := by
  intro W hW Z H sl ts x d Q g r p
  refine ⟨_, pg_fldU hv, ?_⟩
  cases e1 : setFld cs f i (.v () d) (ers sl) with
  | none => simp only [tgFld] at p; rw [e1] at p; exact p.elim
  | some env =>
    simp only [tgFld] at p
    rw [e1] at p
    obtain ⟨a, c, dx, fs, sl2, h1, h2, h3, h5, h6, h7, h8⟩ := setFld_ok (oa := .v x d) hf (g.cons_v r) e1
    refine ⟨.ref a, h1, a, _, dx, fs, rfl, h2, (hf c h3).1, (hf c h3).2, h5, ?_⟩
    have := p Z _ sl2 (Sub.refl _) h6 h7 (KeepT.same h8)
    rwa [h8] at this
end
end EV

set_option Elab.async false
set_option linter.all false
set_option maxRecDepth 100000
set_option maxHeartbeats 4000000
namespace EV
open PySem PySem.Spec PyProof.Rows L2

/-! ### the slots of a comprehension's own names -/
def wipeE (env : Env) : List Nat → Env
  | [] => env
  | v :: vs => (wipeE env vs).set v none
def wipeS (sl : Sl) : List Nat → Sl
  | [] => sl
  | v :: vs => (wipeS sl vs).set v none
theorem wipeS_ers (sl : Sl) : ∀ vs, ers (wipeS sl vs) = wipeE (ers sl) vs
  | [] => rfl
  | v :: vs => by simp only [wipeS, wipeE, ers_set, wipeS_ers sl vs, Option.map_none]
theorem wipeS_tops (sl : Sl) : ∀ vs, tops (wipeS sl vs) = wipe (tops sl) vs
  | [] => rfl
  | v :: vs => by simp only [wipeS, wipe, tops_set, wipeS_tops sl vs, Option.map_none]
theorem wipeS_len (sl : Sl) : ∀ vs, (wipeS sl vs).length = sl.length
  | [] => rfl
  | v :: vs => by simp only [wipeS, List.length_set, wipeS_len sl vs]
/-- behind: the slots vs as they were in env0, all others as they are in env -/
def unwipe (env0 env : Env) : List Nat → Env
  | [] => env
  | v :: vs => (unwipe env0 env vs).set v (env0[v]?.getD none)
def unwipeS (sl0 sl : Sl) : List Nat → Sl
  | [] => sl
  | v :: vs => (unwipeS sl0 sl vs).set v (sl0[v]?.getD none)
theorem getD_map {α β : Type} (f : α → β) (o : Option (Option α)) : ((o.map (Option.map f)).getD none) = (o.getD none).map f := by cases o with
  | none => rfl
  | some x => rfl
theorem unwipeS_ers (sl0 sl : Sl) : ∀ vs, ers (unwipeS sl0 sl vs) = unwipe (ers sl0) (ers sl) vs
  | [] => rfl
  | v :: vs => by
    simp only [unwipeS, unwipe, ers_set, unwipeS_ers sl0 sl vs]
    congr 1
    simp only [ers, List.getElem?_map, getD_map]
theorem unwipeS_len (sl0 sl : Sl) : ∀ vs, (unwipeS sl0 sl vs).length = sl.length
  | [] => rfl
  | v :: vs => by simp only [unwipeS, List.length_set, unwipeS_len sl0 sl vs]
theorem wipe_len (σ : L2.St) : ∀ vs, (wipe σ vs).length = σ.length := fun vs => wipe_length σ vs
/-- the roots that are put aside -/
def aside (sl : Sl) : List Nat → List (Ow V)
  | [] => []
  | v :: vs => (match (wipeS sl vs)[v]? with
    | some (some r) => [r]
    | _ => []) ++ aside sl vs
theorem roots_none {sl : Sl} {v : Nat} (h : ∀ r, sl[v]? ≠ some (some r)) : sl.set v none = sl := by
  apply List.ext_getElem?
  intro j
  rw [List.getElem?_set]
  split
  · rename_i hj
    subst hj
    split
    · rename_i hl
      cases e : sl[v]? with
      | none => rw [List.getElem?_eq_none_iff] at e; omega
      | some q =>
        cases q with
        | none => rfl
        | some r => exact absurd e (h r)
    · rename_i hl
      exact (List.getElem?_eq_none_iff.mpr (by omega)).symm
  · rfl
theorem aside_perm (sl : Sl) : ∀ vs, (roots sl).Perm (aside sl vs ++ roots (wipeS sl vs))
  | [] => .refl _
  | v :: vs => by
    have ih := aside_perm sl vs
    simp only [aside, wipeS]
    cases e : (wipeS sl vs)[v]? with
    | none =>
      rw [roots_none (fun r => by rw [e]; simp)]
      simpa using ih
    | some q =>
      cases q with
      | none =>
        rw [roots_none (fun r => by rw [e]; simp)]
        simpa using ih
      | some r =>
        refine ih.trans ((List.Perm.append_left _ (roots_out e)).trans ?_)
        simp only [List.singleton_append, List.cons_append]
        exact List.perm_middle
theorem roots_len {sl : Sl} {i : Nat} {q : Option (Ow V)} (h : ¬ i < sl.length) : sl.set i q = sl := List.set_eq_of_length_le (by omega)
/-- the slots put back -/
theorem unwipe_roots {sl0 : Sl} : ∀ {vs : List Nat} {sl : Sl}, sl.length = sl0.length → tops sl = wipe (tops sl0) vs → vs.Nodup → (roots (unwipeS sl0 sl vs)).Perm (aside sl0 vs ++ roots sl) ∧ tops (unwipeS sl0 sl vs) = tops sl0
  | [], sl, hl, ht, _ => ⟨.refl _, ht⟩
  | v :: vs, sl, hl, ht, nd => by
    obtain ⟨hv, nd'⟩ := List.nodup_cons.mp nd
    -- the slot v stands as in the wiped ones
    have wv : (wipeS sl0 vs)[v]? = sl0[v]? := by
      clear ht nd nd' hl
      induction vs with
      | nil => rfl
      | cons u us ih =>
        simp only [List.mem_cons, not_or] at hv
        simp only [wipeS]
        rw [List.getElem?_set_ne (Ne.symm hv.1)]
        exact ih hv.2
    have at_v : ∀ (us : List Nat) (s2 : Sl), v ∉ us → (unwipeS sl0 s2 us)[v]? = s2[v]? := by
      intro us s2 hu
      induction us with
      | nil => rfl
      | cons u us ih =>
        simp only [List.mem_cons, not_or] at hu
        simp only [unwipeS]
        rw [List.getElem?_set_ne (Ne.symm hu.1)]
        exact ih hu.2
    cases e0 : sl0[v]? with
    | none =>
      have hlv : sl0.length ≤ v := List.getElem?_eq_none_iff.mp e0
      have ht' : tops sl = wipe (tops sl0) vs := by
        rw [ht]
        simp only [wipe]
        exact List.set_eq_of_length_le (by rw [wipe_len]; simpa using hlv)
      obtain ⟨p, q⟩ := unwipe_roots hl ht' nd'
      simp only [unwipeS, aside, wv, e0]
      rw [roots_len (by rw [unwipeS_len, hl]; omega)]
      exact ⟨by simpa using p, q⟩
    | some q0 =>
      have hlv : v < sl0.length := (List.getElem?_eq_some_iff.mp e0).1
      cases q0 with
      | none =>
        have ht' : tops sl = wipe (tops sl0) vs := by
          rw [ht]
          simp only [wipe]
          rw [← wipeS_tops, ← (show ((none : Option (Ow V)).map Ow.top) = none from rfl), ← tops_set, roots_none (fun r => by rw [wv, e0]; simp)]
        obtain ⟨p, q⟩ := unwipe_roots hl ht' nd'
        simp only [unwipeS, aside, wv, e0, Option.getD_some]
        have e1 : (unwipeS sl0 sl vs).set v none = unwipeS sl0 sl vs := roots_none fun r hr => by
          have : (tops (unwipeS sl0 sl vs))[v]? = some (some r.top) := tops_get hr
          rw [q] at this
          simp [tops, List.getElem?_map, e0] at this
        rw [e1]
        exact ⟨by simpa using p, q⟩
      | some r0 =>
        -- sl with the root put in at v
        have hsv : ∀ r, sl[v]? ≠ some (some r) := fun r hr => by
          have := tops_get hr
          rw [ht] at this
          simp only [wipe] at this
          rw [List.getElem?_set] at this
          split at this
          · split at this <;> simp at this
          · rename_i z; exact z rfl
        have ht' : tops (sl.set v (some r0)) = wipe (tops sl0) vs := by
          rw [tops_set, ht]
          simp only [wipe]
          rw [List.set_set]
          apply List.ext_getElem?
          intro j
          rw [List.getElem?_set]
          split
          · rename_i hj
            subst hj
            rw [← wipeS_tops, tops_get (show (wipeS sl0 vs)[v]? = some (some r0) by rw [wv, e0])]
            simp [wipeS_len, hlv]
          · rfl
        obtain ⟨p, q⟩ := unwipe_roots (sl := sl.set v (some r0)) (by simpa using hl) ht' nd'
        have comm : ∀ (us : List Nat), v ∉ us → unwipeS sl0 (sl.set v (some r0)) us = (unwipeS sl0 sl us).set v (some r0) := by
          intro us hu
          induction us with
          | nil => rfl
          | cons u us ih =>
            simp only [List.mem_cons, not_or] at hu
            simp only [unwipeS]
            rw [ih hu.2, List.set_comm _ _ hu.1]
        rw [comm vs hv] at p q
        simp only [unwipeS, aside, wv, e0, Option.getD_some]
        refine ⟨p.trans ?_, q⟩
        have : (roots (sl.set v (some r0))).Perm (r0 :: roots sl) := by
          have := roots_in (r := r0) (sl := sl) (i := v) (by omega)
          rwa [roots_none hsv] at this
        refine (List.Perm.append_left _ this).trans ?_
        simp only [List.singleton_append, List.cons_append]
        exact List.perm_middle

/-! ### list comprehensions -/
section
variable {P : Pc} {X : Cx}
/-- what holds of a part of a comprehension in each context of its block -/
abbrev Blk (X : Cx) (scope : Scope) (P : Cx → Prop) : Prop := ∀ (s : Shared) (H : Hp) (C : Addr) (cl : List (Str × Addr)) (fp : List Addr), P (X.blk s H scope (compEnvC scope cl C X.env) fp)
/-- ds, walked in env: what the element tells of the items that are kept -/
def lcD (vs : List Nat) (t : Tg) (c : Et) (f : Ev) : List D → Env → Option (List D × Env)
  | [], env => some ([], env)
  | d :: ds, env => match t d env with
    | none => none
    | some e1 => match c e1 with
      | .ok (true, e2) => (match f e2 with
        | .ok (o, e3) => (lcD vs t c f ds (wipeE e3 vs)).map fun q => (o.toD :: q.1, q.2)
        | _ => none)
      | .ok (false, e2) => lcD vs t c f ds (wipeE e2 vs)
      | _ => none
def evTrue : Et := fun env => .ok (true, env)
def evLc (vs : List Nat) (it : EvI) (t : Tg) (c : Et) (f : Ev) : Ev := fun env => (it env).bind fun ds e => if ds.length ≤ sizeLine then (match lcD vs t c f ds (wipeE e vs) with
    | some q => .ok (.lst () (q.1.map (.v ())), unwipe e q.2 vs)
    | none => .bad) else .bad
/-- the turns of J yield the data ds, while the frozen part and the roots hid stand -/
def YDh (K : PySem.W.Frag) (J : It) (Z0 : Hp) (hid : List (Ow V)) (ds : List D) : Prop := ∀ (W : Wld) i Z H rs, Sub Z0 Z → Good W K Z H (hid ++ rs) →
  (∀ d, ds[i]? = some d → J.go i H ∧ ∀ x H', J.yld i H x H' → (H' = H ∧ RepD K Z d x) ∨ ∃ T vs es, H T = none ∧ H' = upd H T (.tup vs) ∧ x = .ref T ∧ d = .tup es ∧ RepDs K Z es vs) ∧
  (ds.length ≤ i → J.stop i H)
theorem YD.h {K : PySem.W.Frag} {J : It} {Z0 : Hp} {ds : List D} (h : YD K J Z0 ds) : YDh K J Z0 [] ds := fun W i Z H rs s g => by
  obtain ⟨a, b⟩ := h i H (s.trans g.sub)
  refine ⟨fun d hd => ?_, b⟩
  obtain ⟨go, yl⟩ := a d hd
  refine ⟨go, fun x H' hy => ?_⟩
  rcases yl x H' hy with ⟨e, r⟩ | ⟨T, vs, es, h1, h2, h3, h4, h5⟩
  · exact .inl ⟨e, r.mono s⟩
  · exact .inr ⟨T, vs, es, h1, h2, h3, h4, h5.mono s⟩
theorem yldh_good {W : Wld} {Z H H' : Hp} {rs : List (Ow V)} {x : V} {d : D} (g : Good W X.K Z H rs) (y : (H' = H ∧ RepD X.K Z d x) ∨ ∃ T vs es, H T = none ∧ H' = upd H T (.tup vs) ∧ x = .ref T ∧ d = .tup es ∧ RepDs X.K Z es vs) :
    ∃ Z', Sub Z Z' ∧ Good W X.K Z' H' rs ∧ RepD X.K Z' d x := yld_good g (Sub.refl _) y
variable {elt tg iter : Expr} {ifs : List Expr} {scope : Scope} {own : List (Str × Nat)} {pos : Pos} {t : Tg} {c : Et} {f : Ev} {as : List Nat}
def gB (X : Cx) (scope : Scope) (tg : Expr) : TG := fun v σ H Q => ∀ s H0 C cl fp, tUG (X.blk s H0 scope (compEnvC scope cl C X.env) fp) tg v σ H Q
def eB (X : Cx) (scope : Scope) (e : Expr) : TE := fun σ H Q => ∀ s H0 C cl fp, tU (X.blk s H0 scope (compEnvC scope cl C X.env) fp) e σ H Q
def tUTs (X : Cx) (ifs : List Expr) : TT := fun σ H Q => ∃ t, PTs X ifs t ∧ t σ H Q
def cB (X : Cx) (scope : Scope) (ifs : List Expr) : TT := fun σ H Q => ∀ s H0 C cl fp, tUTs (X.blk s H0 scope (compEnvC scope cl C X.env) fp) ifs σ H Q
def SndTs (P : Pc) (X : Cx) (ifs : List Expr) (f : Et) : Prop := ∀ W, P.ok W → ∀ Z H sl ts Q, Good W X.K Z H (roots sl ++ ts) → PostT W X sl ts Z Q (f (ers sl)) → tUTs X ifs (tops sl) H Q
theorem sndts_nil : SndTs P X [] evTrue := fun W hW Z H sl ts Q g p => ⟨_, pts_nil, p Z H sl (Sub.refl _) rfl rfl g⟩
theorem sndts_one {e : Expr} (h : SndT P X e c) : SndTs P X [e] c := fun W hW Z H sl ts Q g p => by
  obtain ⟨t, ht, q⟩ := h W hW Z H sl ts Q g p
  exact ⟨_, pts_one ht, q⟩
theorem PostT.of_ok {sl : Sl} {ts : List (Ow V)} {Z : Hp} {Q : Bool → Hp → Prop} {b : Bool} {e : Env} (h : ∀ Z' H' sl', Sub Z Z' → ers sl' = e → tops sl' = tops sl → Good W X.K Z' H' (roots sl' ++ ts) → Q b H') : PostT W X sl ts Z Q (.ok (b, e)) := fun Z' H' sl' s e t g => h Z' H' sl' s e t g
theorem wipe_get (σ : L2.St) (i : Nat) : ∀ vs, (wipe σ vs)[i]? = if i ∈ vs then (if i < σ.length then some none else none) else σ[i]?
  | [] => by simp [wipe]
  | v :: vs => by
    simp only [wipe]
    rw [List.getElem?_set, wipe_length, wipe_get σ i vs]
    by_cases h : v = i
    · subst h; simp
    · simp [h, Ne.symm h]
theorem wipe_congr {σ σ' : L2.St} {vs : List Nat} (hl : σ.length = σ'.length) (h : ∀ i, i ∉ vs → σ[i]? = σ'[i]?) : wipe σ vs = wipe σ' vs := by
  apply List.ext_getElem?
  intro i
  rw [wipe_get, wipe_get, hl]
  split
  · rfl
  · rename_i hi; exact h i hi
theorem wipe_wipe (σ : L2.St) (vs : List Nat) : wipe (wipe σ vs) vs = wipe σ vs := by
  apply wipe_congr (wipe_length _ _)
  intro i hi
  rw [wipe_get, if_neg hi]
/-- the turns of a comprehension, from any walk -/
theorem lc_turns {W : Wld} (hW : P.ok W) {J : It} {Z1 H1 : Hp} {sl1 : Sl} {ts hid : List (Ow V)} {ds : List D} {vs : List Nat} {Q : VK} {accF : List D} {envF : Env}
    (hg : Blk X scope fun B => SndG P B tg t as) (hc : Blk X scope fun B => SndTs P B ifs c) (hf : Blk X scope fun B => Snd P B elt f) (has : ∀ i ∈ as, i ∈ vs)
    (hJ : YDh X.K J Z1 hid ds) (g1 : Good W X.K Z1 H1 (hid ++ (roots (wipeS sl1 vs) ++ ts))) (hz : ds.length ≤ sizeLine) (hl : lcD vs t c f ds (ers (wipeS sl1 vs)) = some (accF, envF))
    (fin : ∀ Z' H' slF D xs, Sub Z1 Z' → Good W X.K Z' H' (.lst (.ref D) (vOf accF xs) :: (hid ++ (roots slF ++ ts))) → RepDs X.K Z' accF xs → ers slF = envF → tops slF = wipe (tops sl1) vs → Q (.ref D) H') (D : Addr) (hD : H1 D = none) :
    ∃ W : Nat → Nat → Hp → Prop, (∃ m, W 0 m (upd H1 D (.lst []))) ∧ ∀ i m H, W i m H → (J.stop i H ∧ Q (.ref D) H) ∨ (J.go i H ∧ ∃ Nx : Hp → Prop, (∀ H', Nx H' → ∃ m', m' < m ∧ W (i + 1) m' H') ∧ ∀ x H', J.yld i H x H' →
      gB X scope tg x (wipe (tops sl1) vs) H' fun σ2 H2 => wipe σ2 vs = wipe (tops sl1) vs ∧ cB X scope ifs σ2 H2 fun b H3 => if b = true then eB X scope elt σ2 H3 fun y H4 => ∃ acc, H4 D = some (.lst acc) ∧ acc.length < sizeLine ∧ Nx (upd H4 D (.lst (acc ++ [y]))) else Nx H3) := by
  refine ⟨fun i m H => m = ds.length - i ∧ i ≤ ds.length ∧ ∃ (Z2 : Hp) (sl2 : Sl) (acc : List EV.D) (xs : List V) (rest : List EV.D), Sub Z1 Z2 ∧ Good W X.K Z2 H (.lst (.ref D) (vOf acc xs) :: (hid ++ (roots sl2 ++ ts))) ∧ RepDs X.K Z2 acc xs ∧ tops sl2 = wipe (tops sl1) vs ∧ acc.length ≤ i ∧
    lcD vs t c f (ds.drop i) (ers sl2) = some (rest, envF) ∧ acc ++ rest = accF, ⟨_, rfl, Nat.zero_le _, Z1, wipeS sl1 vs, [], [], accF, Sub.refl _, ?_, by simp [RepDs], wipeS_tops _ _, Nat.le_refl _, by simpa using hl, rfl⟩, ?_⟩
  · exact new_lst g1 (by simp [RepDs]) hD
  rintro i m H ⟨rfl, hi, Z2, sl2, acc, xs, rest, s2, g2, ra, t2, la, l2, ea⟩
  have gh : Good W X.K Z2 H (hid ++ (.lst (.ref D) (vOf acc xs) :: (roots sl2 ++ ts))) := g2.perm List.perm_middle.symm
  obtain ⟨y1, y2⟩ := hJ W i Z2 H _ s2 gh
  by_cases hlt : i < ds.length
  · refine .inr ?_
    obtain ⟨go, yl⟩ := y1 ds[i] (by simp [hlt])
    refine ⟨go, fun H' => ∃ (Z2 : Hp) (sl2 : Sl) (acc : List EV.D) (xs : List V) (rest : List EV.D), Sub Z1 Z2 ∧ Good W X.K Z2 H' (.lst (.ref D) (vOf acc xs) :: (hid ++ (roots sl2 ++ ts))) ∧ RepDs X.K Z2 acc xs ∧ tops sl2 = wipe (tops sl1) vs ∧ acc.length ≤ i + 1 ∧
      lcD vs t c f (ds.drop (i + 1)) (ers sl2) = some (rest, envF) ∧ acc ++ rest = accF, fun H' h' => ⟨ds.length - (i + 1), by omega, rfl, hlt, h'⟩, fun x H3 hy => ?_⟩
    obtain ⟨Z3, s3, g3, r3⟩ := yldh_good g2 (yl x H3 hy)
    rw [List.drop_eq_getElem_cons hlt] at l2
    simp only [lcD] at l2
    intro s H0 C cl fp
    rw [← t2]
    have g3' : Good W X.K Z3 H3 (roots sl2 ++ (.lst (.ref D) (vOf acc xs) :: (hid ++ ts))) := g3.perm (by
      refine (List.Perm.cons _ ?_).trans List.perm_middle.symm
      rw [← List.append_assoc, ← List.append_assoc]
      exact List.perm_append_comm.append_right _)
    refine hg s H0 C cl fp W hW Z3 H3 sl2 _ x _ _ g3' r3 ?_
    cases et : t ds[i] (ers sl2) with
    | none => rw [et] at l2; cases l2
    | some e1 =>
      rw [et] at l2
      simp only at l2
      intro Z4 H4 sl4 s4 g4 e4 k4
      subst e4
      have w4 : wipe (tops sl4) vs = wipe (tops sl2) vs := wipe_congr (by simpa using k4.1) fun j hj => k4.2 j fun z => hj (has j z)
      have w2 : wipe (tops sl2) vs = wipe (tops sl1) vs := by rw [t2, wipe_wipe]
      refine ⟨by rw [w4, w2, t2], ?_⟩
      intro s' H0' C' cl' fp'
      refine hc s' H0' C' cl' fp' W hW Z4 H4 sl4 _ _ g4 ?_
      -- what is left for the next turn
      have nextT : ∀ {Z5 H5 : Hp} {sl5 : Sl} {acc' : List EV.D} {xs' : List V} {rest' : List EV.D}, Sub Z1 Z5 → tops sl5 = tops sl4 → Good W X.K Z5 H5 (.lst (.ref D) (vOf acc' xs') :: (hid ++ (roots sl5 ++ ts))) → RepDs X.K Z5 acc' xs' → acc'.length ≤ i + 1 → lcD vs t c f (ds.drop (i + 1)) (wipeE (ers sl5) vs) = some (rest', envF) → acc' ++ rest' = accF →
          ∃ (Z2 : Hp) (slx : Sl) (acc : List EV.D) (xs : List V) (rest : List EV.D), Sub Z1 Z2 ∧ Good W X.K Z2 H5 (.lst (.ref D) (vOf acc xs) :: (hid ++ (roots slx ++ ts))) ∧ RepDs X.K Z2 acc xs ∧ tops slx = tops sl2 ∧ acc.length ≤ i + 1 ∧ lcD vs t c f (ds.drop (i + 1)) (ers slx) = some (rest, envF) ∧ acc ++ rest = accF := by
        intro Z5 H5 sl5 acc' xs' rest' s5 t5 g5 r5 l5 hl5 e5
        refine ⟨Z5, wipeS sl5 vs, acc', xs', rest', s5, ?_, r5, ?_, l5, by rw [wipeS_ers]; exact hl5, e5⟩
        · have p := aside_perm sl5 vs
          refine (g5.perm (List.Perm.cons _ (List.Perm.append_left hid (p.append_right ts)))).sublist ?_
          refine List.Sublist.cons_cons _ ((List.Sublist.refl _).append (List.Sublist.append ?_ (List.Sublist.refl _)))
          exact List.sublist_append_right _ _
        · rw [wipeS_tops, t5, w4, w2, t2]
      have s14 : Sub Z1 Z4 := s2.trans (s3.trans s4)
      have back5 : ∀ {Z5 H5 : Hp} {sl5 : Sl}, Good W X.K Z5 H5 (roots sl5 ++ (.lst (.ref D) (vOf acc xs) :: (hid ++ ts))) → Good W X.K Z5 H5 (.lst (.ref D) (vOf acc xs) :: (hid ++ (roots sl5 ++ ts))) := fun g => g.perm (by
        refine List.perm_middle.trans (List.Perm.cons _ ?_)
        rw [← List.append_assoc, ← List.append_assoc]
        exact List.perm_append_comm.append_right _)
      cases ec : c (ers sl4) with
      | bad => rw [ec] at l2; cases l2
      | exc _ _ => rw [ec] at l2; cases l2
      | ok pr =>
        obtain ⟨b, e2⟩ := pr
        rw [ec] at l2
        refine PostT.of_ok fun Z5 H5 sl5 s5 e5 t5 g5 => ?_
        subst e5
        cases b with
        | false =>
          rw [if_neg Bool.false_ne_true]
          simp only at l2
          exact nextT (s14.trans s5) t5 (back5 g5) (ra.mono (s3.trans (s4.trans s5))) (Nat.le_succ_of_le la) l2 ea
        | true =>
          rw [if_pos rfl]
          simp only at l2
          intro s6 H06 C6 cl6 fp6
          rw [← t5]
          refine hf s6 H06 C6 cl6 fp6 W hW Z5 H5 sl5 _ _ g5 ?_
          cases ef : f (ers sl5) with
          | bad => rw [ef] at l2; cases l2
          | exc _ _ => rw [ef] at l2; cases l2
          | ok pf =>
            obtain ⟨o, e3⟩ := pf
            rw [ef] at l2
            simp only at l2
            cases el : lcD vs t c f (ds.drop (i + 1)) (wipeE e3 vs) with
            | none => rw [el] at l2; cases l2
            | some q =>
              obtain ⟨q1, q2⟩ := q
              rw [el] at l2
              simp only [Option.map_some, Option.some.injEq, Prod.mk.injEq] at l2
              obtain ⟨l2a, l2b⟩ := l2
              subst l2b
              intro Z6 H6 sl6 s6 e6 t6 oa g6 eo
              subst e6
              obtain ⟨Z7, s7, g7⟩ := g6.freeze
              have g8 : Good W X.K Z7 H6 (.lst (.ref D) (vOf acc xs) :: (.v oa.top oa.toD :: (hid ++ (roots sl6 ++ ts)))) := by
                refine g7.perm ?_
                refine (List.Perm.cons _ (List.perm_middle.trans (List.Perm.cons _ ?_))).trans (List.Perm.swap _ _ _)
                rw [← List.append_assoc, ← List.append_assoc]
                exact List.perm_append_comm.append_right _
              have s17 : Sub Z1 Z7 := s14.trans (s5.trans (s6.trans s7))
              have ra7 : RepDs X.K Z7 acc xs := ra.mono (s3.trans (s4.trans (s5.trans (s6.trans s7))))
              obtain ⟨a, ha, hH, g9, hn, hzz⟩ := g8.openL
              cases ha
              refine ⟨xs, by rw [hH, vOf_top ra7], by rw [ra7.length]; omega, ?_⟩
              have rb : RepDs X.K Z7 (acc ++ [o.toD]) (xs ++ [oa.top]) := by
                refine ra7.app ?_
                simp only [RepDs]
                refine ⟨_, _, rfl, ?_, rfl⟩
                have eo' : oa.er.toD = o.toD := by rw [eo]
                rw [← eo', Ow.er_toD]
                exact g7.v
              have g10 : Good W X.K Z7 H6 (hid ++ (roots sl6 ++ ts)) := g8.tail.tail
              have hn10 : D ∉ Ow.fps (vOf (acc ++ [o.toD]) (xs ++ [oa.top]) ++ (hid ++ (roots sl6 ++ ts))) := by
                rw [Ow.fps_app, vOf_fps, List.nil_append]
                intro hm
                refine hn ?_
                rw [Ow.fps_app, vOf_fps, List.nil_append]
                simp only [Ow.fps, Ow.fp, List.nil_append]
                exact hm
              have g11 := Good.closeL (vOf_good g10 rb) hn10 hzz (.inr ⟨_, hH, rfl⟩)
              rw [vOf_top rb] at g11
              exact nextT s17 (t6.trans t5) g11 rb (by rw [List.length_append]; simp; omega) el (by rw [List.append_assoc]; show acc ++ (o.toD :: q1) = accF; rw [l2a]; exact ea)
  · refine .inl ⟨y2 (by omega), ?_⟩
    rw [List.drop_of_length_le (by omega)] at l2
    simp only [lcD, Option.some.injEq, Prod.mk.injEq] at l2
    obtain ⟨rfl, e5⟩ := l2
    rw [List.append_nil] at ea
    subst ea
    exact fin Z2 H sl2 D xs s2 g2 ra e5 t2
/-- the slots behind a comprehension -/
theorem lc_end {slF sl1 : Sl} {vs : List Nat} {ts : List (Ow V)} {Z' H' : Hp} {r : Ow V} (nd : vs.Nodup) (tF : tops slF = wipe (tops sl1) vs) (g : Good W X.K Z' H' (r :: (roots slF ++ (aside sl1 vs ++ ts)))) :
    Good W X.K Z' H' (r :: (roots (unwipeS sl1 slF vs) ++ ts)) ∧ tops (unwipeS sl1 slF vs) = tops sl1 := by
  obtain ⟨p, q⟩ := unwipe_roots (sl0 := sl1) (sl := slF) (vs := vs) (by have := congrArg List.length tF; simpa [wipe_length] using this) tF nd
  refine ⟨g.perm (List.Perm.cons _ ?_), q⟩
  rw [← List.append_assoc]
  exact (List.perm_append_comm.trans p.symm).append_right _
theorem lc_read {W : Wld} (hW : P.ok W) {it : EvI} (hi : SndI P X tg iter it) (hg : Blk X scope fun B => SndG P B tg t as) (hc : Blk X scope fun B => SndTs P B ifs c) (hf : Blk X scope fun B => Snd P B elt f) {vs : List Nat}
    (nd : vs.Nodup) (has : ∀ i ∈ as, i ∈ vs) {Z H : Hp} {sl : Sl} {ts : List (Ow V)} {Q : VK} (g : Good W X.K Z H (roots sl ++ ts)) (p : PostE W X sl ts Z Q (evLc vs it t c f (ers sl))) :
    tLc (tUI X tg iter) (gB X scope tg) (cB X scope ifs) (eB X scope elt) vs (tops sl) H Q := by
  refine hi W hW Z H sl ts _ g (PostR.imp (PostR.bind p) (List.Sublist.refl _) fun ds Z1 H1 sl1 s1 t1 q g1 J hJ => ?_)
  split at q
  · rename_i hz
    intro D hD
    cases el : lcD vs t c f ds (wipeE (ers sl1) vs) with
    | none => rw [el] at q; exact q.elim
    | some qq =>
      obtain ⟨acc, eF⟩ := qq
      rw [el] at q
      simp only at q
      rw [← t1]
      have p1 := aside_perm sl1 vs
      have g2 : Good W X.K Z1 H1 (([] : List (Ow V)) ++ (roots (wipeS sl1 vs) ++ (aside sl1 vs ++ ts))) := by
        refine g1.perm ?_
        rw [List.nil_append, ← List.append_assoc]
        exact (p1.trans List.perm_append_comm).append_right _
      refine lc_turns hW hg hc hf has hJ.h g2 hz (by rw [wipeS_ers]; exact el) (fun Z' H' slF D xs s' gF rF eF' tF => ?_) D hD
      obtain ⟨gg, tt⟩ := lc_end nd tF gF
      subst eF'
      exact q Z' H' (unwipeS sl1 slF vs) s' (by rw [unwipeS_ers]) tt (.lst (.ref D) (vOf acc xs)) gg (by simp only [Ow.er, Ow.ers_map, vOf_er rF])
  · exact q.elim
theorem gB_pg (s : Shared) (H : Hp) (C : Addr) (cl : List (Str × Addr)) (fp : List Addr) : PG (X.blk s H scope (compEnvC scope cl C X.env) fp) tg (gB X scope tg) := ⟨fun pins s' σ H' v u Q I r h => pg_U.run pins s' σ H' v u Q I r (h s H C cl fp)⟩
theorem cB_pt (s : Shared) (H : Hp) (C : Addr) (cl : List (Str × Addr)) (fp : List Addr) : PTs (X.blk s H scope (compEnvC scope cl C X.env) fp) ifs (cB X scope ifs) := ⟨fun pins s' σ H' Q I h => by obtain ⟨t', ht', q'⟩ := h s H C cl fp; exact ht'.run pins s' σ H' Q I q'⟩
theorem eB_pe {e : Expr} (s : Shared) (H : Hp) (C : Addr) (cl : List (Str × Addr)) (fp : List Addr) : PE (X.blk s H scope (compEnvC scope cl C X.env) fp) e (eB X scope e) := ⟨fun pins s' σ H' Q I h => pe_U.run pins s' σ H' Q I (h s H C cl fp)⟩
theorem snd_lc {it : EvI} (hcm : X.calm = true) (hN : X.N.Nodup) (ok : BlkOk X.N X.env.scope scope own) (hi : SndI P X tg iter it) (hg : Blk X scope fun B => SndG P B tg t as) (hc : Blk X scope fun B => SndTs P B ifs c) (hf : Blk X scope fun B => Snd P B elt f)
    (nd : (own.map (·.2)).Nodup) (has : ∀ i ∈ as, i ∈ own.map (·.2)) (hs : ∀ x, foldedSetIterable iter X.env x = pure x := by intro _; rfl) : Snd P X (.ListComp elt [⟨tg, iter, ifs, 0⟩] scope pos) (evLc (own.map (·.2)) it t c f) :=
  fun W hW Z H sl ts Q g p => ⟨_, pe_lc hcm hN pi_U ok gB_pg cB_pt eB_pe hs, lc_read hW hi hg hc hf nd has g p⟩
/-- a statement's end behind an expression, as the expression's own -/
theorem set_post {i : Nat} {sl : Sl} {ts : List (Ow V)} {Z : Hp} {D : Ends} {fv : Ev} (p : PostS W X [i] sl ts Z D (evSet i fv (ers sl))) : PostE W X sl ts Z (fun x H1 => D.nx ((tops sl).set i (some x)) H1) (fv (ers sl)) :=
  PostR.imp (PostS.out p) (List.Sublist.refl _) fun o Z1 H1 sl1 s1 t1 q oa g1 eo => by
    rw [← t1]
    by_cases hi : i < sl1.length
    · have := q Z1 H1 (sl1.set i (some oa)) (Sub.refl _) (put_good g1 hi) (by rw [ers_set, ← eo]; rfl) KeepT.set
      rwa [tops_set] at this
    · have e1 : (tops sl1).set i (some oa.top) = tops sl1 := List.set_eq_of_length_le (by simpa using hi)
      show D.nx ((tops sl1).set i (some oa.top)) H1
      rw [e1]
      exact q Z1 H1 sl1 (Sub.refl _) g1.tail (by rw [List.set_eq_of_length_le (by simpa using hi)]) (KeepT.same rfl)
/-- name = [..] on one line -/
theorem snds_setLc {it : EvI} {i : Nat} {y : Str} {py spos : Pos} (hcm : X.calm = true) (hN : X.N.Nodup) (hy : X.N[i]? = some y) (hyl : X.env.scope.names.lookup y = some .local) (hsw : swapsWith (.ListComp elt [⟨tg, iter, ifs, 0⟩] scope pos) (some (.Name y py)) spos.line X.env = pure true)
    (ok : BlkOk X.N X.env.scope scope own) (hi : SndI P X tg iter it) (hg : Blk X scope fun B => SndG P B tg t as) (hc : Blk X scope fun B => SndTs P B ifs c) (hf : Blk X scope fun B => Snd P B elt f)
    (nd : (own.map (·.2)).Nodup) (has : ∀ i ∈ as, i ∈ own.map (·.2)) (hs : ∀ x, foldedSetIterable iter X.env x = pure x := by intro _; rfl) : SndS P X (.Assign [.Name y py] (.ListComp elt [⟨tg, iter, ifs, 0⟩] scope pos) spos) (evSet i (evLc (own.map (·.2)) it t c f)) [i] :=
  fun W hW Z H sl ts D g p => ⟨_, ps_setLc hcm hN hy hyl hsw pi_U ok gB_pg cB_pt eB_pe hs, lc_read hW hi hg hc hf nd has g (set_post p)⟩

/-! ### over a list that a name owns: hidden meanwhile -/
def evLcR (vs : List Nat) (j : Nat) (t : Tg) (c : Et) (f : Ev) : Ev := fun env => match env[j]? with
  | some (some (.lst _ xs)) => if xs.all isV && decide (xs.length ≤ sizeLine) then (match lcD vs t c f (Ow.toDs xs) (wipeE (env.set j (some (.v () .any))) vs) with
    | some q => (match (unwipe (env.set j (some (.v () .any))) q.2 vs)[j]? with
      | some (some (.v _ .any)) => .ok (.lst () (q.1.map (.v ())), (unwipe (env.set j (some (.v () .any))) q.2 vs).set j (some (.lst () xs)))
      | _ => .bad)
    | none => .bad) else .bad
  | _ => .bad
theorem allV_get {xs : List (Ow V)} (h : (Ow.ers xs).all isV = true) : ∀ {i : Nat} {d : D}, (Ow.toDs xs)[i]? = some d → ∃ x, xs[i]? = some (.v x d) := by
  intro i d hd
  rw [Ow.toDs_map, List.getElem?_map] at hd
  cases e : xs[i]? with
  | none => rw [e] at hd; cases hd
  | some o =>
    rw [e] at hd
    simp only [Option.map_some, Option.some.injEq] at hd
    have hm : o ∈ xs := List.mem_of_getElem? e
    rw [Ow.ers_map, List.all_map] at h
    have := List.all_eq_true.mp h o hm
    cases o with
    | v x d' => simp only [Ow.toD] at hd; subst hd; exact ⟨x, rfl⟩
    | lst _ _ => simp [isV, Ow.er] at this
    | obj _ _ _ => simp [isV, Ow.er] at this
    | dct _ _ => simp [isV, Ow.er] at this
theorem ydh_list {x : V} {xs : List (Ow V)} {Z : Hp} {a : Addr} (hx : x = .ref a) (h : (Ow.ers xs).all isV = true) : YDh X.K (Itl X.K a) Z [.lst x xs] (Ow.toDs xs) := by
  intro W i Z' H rs s g
  subst hx
  obtain ⟨a', ea, q, g1, _, _⟩ := Good.openL (rs := rs) g
  cases ea
  refine ⟨fun d hd => ?_, fun hi => ⟨_, SqL.of q, by rw [List.length_map]; rw [Ow.toDs_map, List.length_map] at hi; exact hi⟩⟩
  obtain ⟨y, hy⟩ := allV_get h hd
  have hy' : (xs.map Ow.top)[i]? = some y := by rw [List.getElem?_map, hy]; rfl
  refine ⟨⟨_, y, SqL.of q, hy'⟩, fun z H2 hz => .inl ⟨hz.1, ?_⟩⟩
  have := hz.2 _ (SqL.of q)
  rw [hy'] at this
  cases this
  have := Reps_iff.mp g1.rep _ (List.mem_append_left _ (List.mem_of_getElem? hy))
  simpa only [Rep] using this
theorem lcR_read {W : Wld} (hW : P.ok W) {j : Nat} {x : Str} {pv : Pos} (hv : PE X (.Name x pv) (tVar j)) (hg : Blk X scope fun B => SndG P B tg t as) (hc : Blk X scope fun B => SndTs P B ifs c) (hf : Blk X scope fun B => Snd P B elt f) {vs : List Nat}
    (nd : vs.Nodup) (has : ∀ i ∈ as, i ∈ vs) {Z H : Hp} {sl : Sl} {ts : List (Ow V)} {Q : VK} (g : Good W X.K Z H (roots sl ++ ts)) (p : PostE W X sl ts Z Q (evLcR vs j t c f (ers sl))) :
    tLc (tUI X tg (.Name x pv)) (gB X scope tg) (cB X scope ifs) (eB X scope elt) vs (tops sl) H Q := by
  simp only [evLcR] at p
  split at p
  · rename_i u xs0 ho
    obtain ⟨r, hr, er⟩ := ers_get ho
    cases r with
    | v _ _ => simp [Ow.er] at er
    | obj _ _ _ => simp [Ow.er] at er
    | dct _ _ => simp [Ow.er] at er
    | lst y xs =>
      simp only [Ow.er, Ow.lst.injEq, true_and] at er
      subst er
      split at p
      · rename_i hall
        simp only [Bool.and_eq_true, decide_eq_true_eq] at hall
        have hjl : j < sl.length := (List.getElem?_eq_some_iff.mp hr).1
        rw [Ow.ers_toD, ← (show ((some (Ow.v y D.any) : Option (Ow V)).map Ow.er) = some (.v () .any) from rfl), ← ers_set] at p
        have hh : tops (sl.set j (some (.v y .any))) = tops sl := tops_set_same hr rfl
        have g0 : Good W X.K Z H (.lst y xs :: (roots (sl.set j none) ++ ts)) := g.perm ((roots_out hr).append_right ts)
        have g1 : Good W X.K Z H (roots (sl.set j (some (.v y .any))) ++ (.lst y xs :: ts)) := by
          have : Good W X.K Z H (.v y .any :: (roots (sl.set j none) ++ (.lst y xs :: ts))) := (g0.perm List.perm_middle.symm).cons_v (by simp [RepD])
          exact this.perm ((roots_in (r := .v y .any) hjl).symm.append_right _)
        generalize hsl : sl.set j (some (.v y .any)) = slh at p g1 hh
        obtain ⟨a, ea, hH, _⟩ := g0.openL
        refine ⟨_, pi_any hv, y, tops_get hr, .inl ⟨a, _, ea, SqL.of hH, ?_⟩⟩
        intro D hD
        rw [← hh]
        cases el : lcD vs t c f (Ow.toDs xs) (wipeE (ers slh) vs) with
        | none => rw [el] at p; exact p.elim
        | some qq =>
          obtain ⟨acc, eF⟩ := qq
          rw [el] at p
          simp only at p
          have p1 := aside_perm slh vs
          have g2 : Good W X.K Z H ([.lst y xs] ++ (roots (wipeS slh vs) ++ (aside slh vs ++ ts))) := by
            refine g1.perm (List.perm_middle.trans (List.Perm.cons _ ?_))
            show (roots slh ++ ts).Perm (roots (wipeS slh vs) ++ (aside slh vs ++ ts))
            rw [← List.append_assoc]
            exact (p1.trans List.perm_append_comm).append_right _
          refine lc_turns hW hg hc hf has (ydh_list ea hall.1) g2 (by rw [Ow.toDs_map, List.length_map]; simpa [Ow.ers_map] using hall.2) (by rw [wipeS_ers]; exact el) (fun Z' H' slF D xs' s' gF rF eF' tF => ?_) D hD
          have gF' : Good W X.K Z' H' (.lst (.ref D) (vOf acc xs') :: (roots slF ++ (aside slh vs ++ (.lst y xs :: ts)))) := by
            refine gF.perm (List.Perm.cons _ ?_)
            show (Ow.lst y xs :: (roots slF ++ (aside slh vs ++ ts))).Perm _
            rw [← List.append_assoc, ← List.append_assoc]
            exact List.perm_middle.symm
          obtain ⟨gg, tt⟩ := lc_end nd tF gF'
          subst eF'
          rw [← unwipeS_ers] at p
          split at p
          · rename_i u' hz
            obtain ⟨rz, hrz, erz⟩ := ers_get hz
            have hjz : j < (unwipeS slh slF vs).length := (List.getElem?_eq_some_iff.mp hrz).1
            have tz : rz.top = y := by
              have := tops_get hrz
              rw [tt, hh, tops_get hr] at this
              simp only [Option.some.injEq] at this
              exact this.symm
            have g5 : Good W X.K Z' H' (.lst (.ref D) (vOf acc xs') :: (roots ((unwipeS slh slF vs).set j (some (.lst y xs))) ++ ts)) := by
              have g6 : Good W X.K Z' H' (.lst y xs :: (roots (unwipeS slh slF vs) ++ (.lst (.ref D) (vOf acc xs') :: ts))) := by
                refine gg.perm ?_
                refine (List.Perm.cons _ List.perm_middle).trans ((List.Perm.swap _ _ _).trans (List.Perm.cons _ List.perm_middle.symm))
              exact (put_good g6 hjz).perm List.perm_middle
            refine p Z' H' ((unwipeS slh slF vs).set j (some (.lst y xs))) s' (by rw [ers_set]; rfl) ?_ (.lst (.ref D) (vOf acc xs')) g5 (by simp only [Ow.er, Ow.ers_map, vOf_er rF])
            rw [tops_set_same hrz (by rw [tz]; rfl), tt, hh]
          · exact p.elim
      · exact p.elim
  · exact p.elim
theorem snd_lcR {j : Nat} {x : Str} {pv : Pos} (hv : PE X (.Name x pv) (tVar j)) (hcm : X.calm = true) (hN : X.N.Nodup) (ok : BlkOk X.N X.env.scope scope own) (hg : Blk X scope fun B => SndG P B tg t as) (hc : Blk X scope fun B => SndTs P B ifs c) (hf : Blk X scope fun B => Snd P B elt f)
    (nd : (own.map (·.2)).Nodup) (has : ∀ i ∈ as, i ∈ own.map (·.2)) (hs : ∀ y, foldedSetIterable (.Name x pv) X.env y = pure y := by intro _; rfl) : Snd P X (.ListComp elt [⟨tg, .Name x pv, ifs, 0⟩] scope pos) (evLcR (own.map (·.2)) j t c f) :=
  fun W hW Z H sl ts Q g p => ⟨_, pe_lc hcm hN pi_U ok gB_pg cB_pt eB_pe hs, lcR_read hW hv hg hc hf nd has g p⟩
theorem snds_setLcR {j : Nat} {x : Str} {pv : Pos} {i : Nat} {y : Str} {py spos : Pos} (hv : PE X (.Name x pv) (tVar j)) (hcm : X.calm = true) (hN : X.N.Nodup) (hy : X.N[i]? = some y) (hyl : X.env.scope.names.lookup y = some .local) (hsw : swapsWith (.ListComp elt [⟨tg, .Name x pv, ifs, 0⟩] scope pos) (some (.Name y py)) spos.line X.env = pure true)
    (ok : BlkOk X.N X.env.scope scope own) (hg : Blk X scope fun B => SndG P B tg t as) (hc : Blk X scope fun B => SndTs P B ifs c) (hf : Blk X scope fun B => Snd P B elt f)
    (nd : (own.map (·.2)).Nodup) (has : ∀ i ∈ as, i ∈ own.map (·.2)) (hs : ∀ y, foldedSetIterable (.Name x pv) X.env y = pure y := by intro _; rfl) : SndS P X (.Assign [.Name y py] (.ListComp elt [⟨tg, .Name x pv, ifs, 0⟩] scope pos) spos) (evSet i (evLcR (own.map (·.2)) j t c f)) [i] :=
  fun W hW Z H sl ts D g p => ⟨_, ps_setLc hcm hN hy hyl hsw pi_U ok gB_pg cB_pt eB_pe hs, lcR_read hW hv hg hc hf nd has g (set_post p)⟩
end
end EV

set_option Elab.async false
set_option linter.all false
set_option maxRecDepth 100000
set_option maxHeartbeats 4000000
namespace EV
open PySem PySem.Spec PyProof.Rows L2

/-! ### try: body, several clauses 'except x as n' -/
/-- a clause's reading: the exception's address, its class, its dict -/
abbrev TH := Addr → Value → Option Addr → TS
/-- the ends of a suite, at whose end the name in slot i is unbound -/
def unb (i : Nat) (D : Ends) : Ends := { nx := fun σ H => D.nx (σ.set i none) H, rt := D.rt, bk := fun σ H => D.bk (σ.set i none) H, ct := fun σ H => D.ct (σ.set i none) H }
def wAll (K : PySem.W.Frag) (out : WX) (i : Nat) (D : Ends) : List (Value × TH) → WX
  | [] => out
  | h :: r => fun cls d σ H => ∃ b, PySem.W.exmOne K cls h.1 = some b ∧ (b = true → ∀ a, H a = none → h.2 a cls d (unb i D) (σ.set i (some (.ref a))) H) ∧ (b = false → wAll K out i D r cls d σ H)
inductive Clauses (X : Cx) (n : Str) : List ExceptHandler → List (Value × TH) → Prop
  | nil : Clauses X n [] []
  | cons {x : Str} {c : Value} {t : TH} {st : Stmt} {sts : List Stmt} {p1 p2 : Pos} {hs : List ExceptHandler} {l : List (Value × TH)} (named : Names X x c)
      (suite : ∀ (a : Addr) (oe : Obj) (cls : Value) (d : Option Addr) (pn : List (Addr × Obj)), Zc cls d oe → (∃ vs, oe.data = .fields vs) → PSs (X.suite a ((a, oe) :: pn)) (st :: sts) (t a cls d)) (more : Clauses X n hs l) :
      Clauses X n (.ExceptHandler (some (.Name x p1)) (some n) (st :: sts) p2 :: hs) ((c, t) :: l)
section
variable {X : Cx} {n : Str} {i : Nat} {body : List Stmt} {h0 : ExceptHandler} {hds : List ExceptHandler} {l : List (Value × TH)} {pos : Pos} {tb : WX → TS} {out : WX}
/-- an exception that was caught, in flight over the frames of X: sI the state without it -/
structure Caught (X : Cx) (pins : List (Addr × Obj)) (σ : L2.St) (H : Hp) (cls : Value) (d : Option Addr) (a : Addr) (B : Heap) (sI s : Shared) : Prop where
  inv : Inv X pins σ H sI
  ground : ∀ b o, sI.heap.get? b = some o → b ∉ frs X.stack → B.get? b = some o
  fly : HandSPX.FlyingZ B (X.env :: X.outer) a (Zc cls d) s.heap
  up : sI.heap.UpToSlots s.heap
  fresh : H a = none
  os : s.os = sI.os
  bare : AllBare s.gens
theorem Caught.here {pins : List (Addr × Obj)} {σ : L2.St} {H : Hp} {cls : Value} {d : Option Addr} {a : Addr} {B : Heap} {sI s : Shared} (k : Caught X pins σ H cls d a B sI s) : Inv X pins σ H s :=
  k.inv.landed k.ground k.fly.1 k.up k.os k.bare
theorem Caught.apart {pins : List (Addr × Obj)} {σ : L2.St} {H : Hp} {cls : Value} {d : Option Addr} {a : Addr} {B : Heap} {sI s : Shared} (k : Caught X pins σ H cls d a B sI s) (hf : X.env.frame = some X.env.locals) : a ≠ X.env.locals ∧ a ∉ X.fs := by
  obtain ⟨oe, vs, he, _, hd⟩ := k.fly.there
  have out : a ∉ frs (X.env :: X.outer) := fun m => by
    obtain ⟨_, o2, e2, nd⟩ := k.fly.2.2.1.mem m
    rw [he] at e2
    cases e2
    exact nd _ hd
  constructor
  · intro z
    exact out (List.mem_filterMap.mpr ⟨_, List.mem_cons_self, hf.trans (congrArg some z.symm)⟩)
  · intro m
    obtain ⟨fr, m1, m2⟩ := List.mem_filterMap.mp m
    exact out (List.mem_filterMap.mpr ⟨fr, List.mem_cons_of_mem _ m1, m2⟩)
/-- looking through the clauses -/
theorem clauses_run (hs : X.stack = X.env :: X.outer) (hf : X.env.frame = some X.env.locals) (hN : X.N.Nodup) (hi : X.N[i]? = some n) (hn : X.env.kindOf n = some .local) (tk : Takes X out) {pins : List (Addr × Obj)} {σ : L2.St} {H : Hp} {cls : Value} {d : Option Addr} {a : Addr} {B : Heap} {sI s : Shared} {D : Ends}
    (k : Caught X pins σ H cls d a B sI s) : ∀ {hds : List ExceptHandler} {l : List (Value × TH)}, Clauses X n hds l → wAll X.K out i D l cls d σ H → wpAny (model X.prog X.w) X.A (handleBy (.ref a) X.env hds) (SP X pins D) X.xe s := by
  obtain ⟨nloc, nfs⟩ := k.apart hf
  intro hds l hc
  induction hc with
  | nil =>
    intro w
    have again : wpAny (model X.prog X.w) X.A (setFlight (.ref a) X.env.frame) (fun _ s4 => wpAny (model X.prog X.w) X.A (throw (.ref a) : Sem Flow) (SP X pins D) X.xe s4) X.xe s := by
      rw [hf]
      refine HandSPX.setFlight_upZ (L := X.env.locals) k.fly fun h4 held up4 => wpAny_throw (tk _ _ ?_)
      have sky : Sky B X.stack a (Zc cls d) X.env.locals h4 := by rw [hs]; exact .inr (.inr held)
      exact ⟨a, B, sI, pins, σ, H, cls, d, rfl, k.inv, k.ground, k.up.trans up4, sky, k.fresh, k.os, k.bare, w⟩
    obtain ⟨_, _, _, oe, vs, T, _, _, he, _, hd, h1, _⟩ := id k.fly
    refine wpAny_handleBy_nil ?_
    unfold PySem.passOn
    have tn : ¬ ((Value.ref T == Value.none) = true) := by simp
    refine wpAny_bind (wpAny_field he hd h1 ?_)
    rw [if_neg tn]
    first
      | exact wpAny_bind (wpAny_pure (wpAny_bind again))
      | exact wpAny_bind again
  | @cons x c t st sts p1 p2 hs' l' named suite more ih =>
    rintro ⟨b, hb, yes, no⟩
    obtain ⟨oe, vs, he, hz, hd⟩ := k.fly.there
    have inSuite := k.here.suite he hd k.fresh nloc nfs
    have looks : PySem.W.Looks (model X.prog X.w) s.heap (typeOf (.ref a)) cls := fun _ _ _ _ kk qq => wpAny_typeOf_ref (kk _ _ he) (by rw [hz.1]; exact qq)
    have matches_ := PySem.W.exm_one (M := model X.prog X.w) k.here.kIn looks hb
    have name_ : ∀ {Q E : Value → Shared → Prop}, Q c s → wpAny (model X.prog X.w) (X.A.mark (some (.ref a))) (eval (.Name x p1) X.env) Q E s := by
      intro Q E q
      rcases named with ⟨g, nd, m | ⟨m, bv, nn⟩⟩
      · exact ld_glob inSuite g m q nd
      · exact ld_blt inSuite g m bv q nn nd
    refine wpAny_handleBy_cons (codeAny_handlers_test (name_ (matches_.here ?_))) (by intro q; cases q)
    cases b with
    | false => exact ih (no rfl)
    | true =>
      refine codeAny_handlers_suite_as (HandSPX.lands_againZ k.fly fun h4 fl4 up4 => ?_)
      have k4 : Caught X pins σ H cls d a B sI { s with heap := h4 } := ⟨k.inv, k.ground, fl4, k.up.trans up4, k.fresh, k.os, k.bare⟩
      obtain ⟨oe4, vs4, he4, hz4, hd4⟩ := fl4.there
      have in4 := k4.here.suite he4 hd4 k.fresh nloc nfs
      have stored : ∀ s5, Inv (X.suite a ((a, oe4) :: (X.pn ++ pins))) [] (σ.set i (some (.ref a))) H s5 → _ := fun s5 I5 => (suite a oe4 cls d (X.pn ++ pins) hz4 ⟨_, hd4⟩).run [] s5 _ H _ I5 (yes rfl a k.fresh)
      refine store_ok (v := .ref a) (X := X.suite a ((a, oe4) :: (X.pn ++ pins))) in4 hN hi (.inl hn) rfl (fun s5 I5 => wpAny_mono (stored s5 I5) (fun f s6 fin => ?_) fun _ _ z => z.elim) (.inr hn)
      have gone : ∀ {σ6 : L2.St} {H6 : Hp} {R : Shared → Prop}, Inv (X.suite a ((a, oe4) :: (X.pn ++ pins))) [] σ6 H6 s6 → (∀ s7, Inv X pins (σ6.set i none) H6 s7 → R s7) → wpAny (model X.prog X.w) X.A (do bindName X.env n .none; unbindBehindTheSuite X.env n p2) (fun _ s7 => R s7) X.xe s6 :=
        fun I6 r => gone_ok (I6.unsuite k.inv.ok) hN hi hn r
      cases f with
      | ret u =>
        rcases fin with ⟨v6, σ6, H6, I6, r6, q6⟩
        exact gone I6 fun _ I7 => ⟨v6, _, H6, I7, r6, q6⟩
      | next => rcases fin with ⟨σ6, H6, I6, q6⟩; exact gone I6 fun _ I7 => ⟨_, H6, I7, q6⟩
      | brk => rcases fin with ⟨σ6, H6, I6, q6⟩; exact gone I6 fun _ I7 => ⟨_, H6, I7, q6⟩
      | cont => rcases fin with ⟨σ6, H6, I6, q6⟩; exact gone I6 fun _ I7 => ⟨_, H6, I7, q6⟩
theorem ps_try_all (hs : X.stack = X.env :: X.outer) (hf : X.env.frame = some X.env.locals) (hN : X.N.Nodup) (hi : X.N[i]? = some n) (hn : X.env.kindOf n = some .local) (tk : Takes X out)
    (hb : ∀ (W : WX) (pn : List (Addr × Obj)) (xe : Value → Shared → Prop), Takes (X.tr pn xe) W → PassesOwn (model X.prog X.w) X.A X.env xe → PSs (X.tr pn xe) body (tb W)) (hc : Clauses X n (h0 :: hds) l) :
    PS X (.Try body (h0 :: hds) [] [] pos) (fun D σ H => tb (wAll X.K out i D l) D σ H) := by
  constructor
  intro pins s σ H D I h
  have fr : X.A.frames = some (X.env :: X.outer) := by rw [I.ok.frames, hs]
  let wish : Value → Shared → Prop := fun e s1 => wpAny (model X.prog X.w) X.A (noteFrame e X.env) (fun _ s2 => wpAny (model X.prog X.w) X.A (setFlight e none) (fun _ s3 => wpAny (model X.prog X.w) X.A (handleBy e X.env (h0 :: hds)) (SP X pins D) X.xe s3) X.xe s2) X.xe s1
  have takes : Takes (X.tr (X.pn ++ pins) wish) (wAll X.K out i D l) := by
    rintro u s' ⟨a, B, sI, pins', σ', H', cls, d, rfl, I', ground, up, sky, fresh, os, bare, w⟩
    have sky' : Sky B (X.env :: X.outer) a (Zc cls d) X.env.locals s'.heap := hs ▸ sky
    refine Sky.land Zc.steady fr hf sky' fun h3 fl3 up3 => ?_
    have k : Caught X pins σ' H' cls d a B sI { s' with heap := h3 } := ⟨I'.ofTry I.ok, ground, fl3, up.trans up3, fresh, os, bare⟩
    exact clauses_run hs hf hN hi hn tk k hc w
  have run := (hb _ _ wish takes PassesOwn.looking).run [] s σ H D (I.toTry _) h
  refine wpAny_Try_except (wpAny_mono run (fun f s1 fin => ?_) fun _ _ z => z)
  cases f with
  | ret u => rcases fin with ⟨v, σ1, H1, I1, r1, q1⟩; exact ⟨v, σ1, H1, I1.ofTry I.ok, r1, q1⟩
  | next => rcases fin with ⟨σ1, H1, I1, q1⟩; exact wpAny_execs_nil ⟨σ1, H1, I1.ofTry I.ok, q1⟩
  | brk => rcases fin with ⟨σ1, H1, I1, q1⟩; exact ⟨σ1, H1, I1.ofTry I.ok, q1⟩
  | cont => rcases fin with ⟨σ1, H1, I1, q1⟩; exact ⟨σ1, H1, I1.ofTry I.ok, q1⟩
end
end EV

set_option Elab.async false
set_option linter.all false
set_option maxRecDepth 100000
set_option maxHeartbeats 4000000
namespace EV
open PySem PySem.Spec PyProof.Rows L2

/-! ### an exception class with its own __init__ that stores its parameters -/
/-- self.f = p, one for each field, in order: (the field, the parameter's slot) -/
inductive XBody (X : Cx) : List Stmt → List (Str × Nat) → Prop
  | nil : XBody X [] []
  | cons {f y : Str} {i : Nat} {p0 p1 p2 p3 : Pos} {sts : List Stmt} {l : List (Str × Nat)} (hs : PE X (.Name "self" p0) (tVar 0)) (hv : PE X (.Name y p2) (tVar i)) (sw : swapsWith (.Name y p2) (some (.Attribute (.Name "self" p0) f p1)) p3.line X.env = pure false) (r : XBody X sts l) :
      XBody X (.Assign [.Attribute (.Name "self" p0) f p1] (.Name y p2) p3 :: sts) ((f, i) :: l)
/-- what is told of the class at C: what the written part says, and that it has none of the fields itself -/
structure XCls (K : PySem.W.Frag) (C : Addr) (fs : List Str) : Prop where
  oex : OexC K C
  no : ∀ f ∈ fs, PySem.W.findIn K (.ref C) f = some none
def SlotV (σ : L2.St) : List (Str × Nat) → List V → Prop
  | [], vs => vs = []
  | p :: l, vs => ∃ v r, vs = v :: r ∧ σ[p.2]? = some (some v) ∧ SlotV σ l r
/-- the body, once the exception has its dict -/
theorem xbody_old {X : Cx} {C a d : Addr} {σ : L2.St} {sts : List Stmt} {l : List (Str × Nat)} (B : XBody X sts l) : ∀ (K : XCls X.K C (l.map (·.1))) (h0 : σ[0]? = some (some (.ref a))) (vs : List V) (hv : SlotV σ l vs) (acc : List (Str × V)) (H : Hp) (D : Ends),
    H a = some (exo a C (some d)) → H d = some (exd d acc) → a ≠ d → acc.length + l.length ≤ 900 → D.nx σ (upd H d (exd d ((List.zip (l.map (·.1)) vs).reverse ++ acc))) → ∃ t, PSs X sts t ∧ t D σ H := by
  induction B with
  | nil =>
    intro K h0 vs hv acc H D ha hd ne hl q
    simp only [SlotV] at hv
    subst hv
    refine ⟨_, pss_nil, ?_⟩
    have : upd H d (exd d acc) = H := upd_self hd
    simp only [List.map_nil, List.zip_nil_left, List.reverse_nil, List.nil_append] at q
    rw [this] at q
    exact q
  | @cons f y i p0 p1 p2 p3 sts l hs hv sw r ih =>
    intro K h0 vs hvs acc H D ha hd ne hl q
    simp only [SlotV] at hvs
    obtain ⟨v, vs', rfl, e1, e2⟩ := hvs
    have K' : XCls X.K C (l.map (·.1)) := ⟨K.oex, fun g hg => K.no g (List.mem_cons_of_mem _ hg)⟩
    have step := ih K' h0 vs' e2 ((f, v) :: acc) (upd H d (exd d ((f, v) :: acc))) D (by rw [upd_ne ne]; exact ha) upd_same ne (by simp only [List.length_cons] at hl ⊢; omega) (by
      rw [upd_upd]
      simpa [List.reverse_cons, List.append_assoc] using q)
    obtain ⟨t, ht, qt⟩ := step
    refine ⟨_, pss_cons (ps_ost hs hv sw) ht, v, e1, .ref a, h0, a, C, rfl, K.oex, K.no f (by simp), .inr ⟨d, acc, ha, hd, by simp only [List.length_cons] at hl; omega, qt⟩⟩
/-- the body, from a fresh exception -/
theorem xbody_new {X : Cx} {C a : Addr} {σ : L2.St} {sts : List Stmt} {f0 : Str × Nat} {l : List (Str × Nat)} (B : XBody X sts (f0 :: l)) (K : XCls X.K C ((f0 :: l).map (·.1))) (h0 : σ[0]? = some (some (.ref a))) (vs : List V) (hv : SlotV σ (f0 :: l) vs) (H : Hp) (D : Ends)
    (ha : H a = some (exo a C none)) (hl : l.length ≤ 800) (q : ∀ d, H d = none → d ≠ a → D.nx σ (upd (upd (upd H d (exd d [])) a (exo a C (some d))) d (exd d (List.zip ((f0 :: l).map (·.1)) vs).reverse))) : ∃ t, PSs X sts t ∧ t D σ H := by
  cases B with
  | @cons f y i p0 p1 p2 p3 sts _ hs hvv sw r =>
    simp only [SlotV] at hv
    obtain ⟨v, vs', rfl, e1, e2⟩ := hv
    have K' : XCls X.K C (l.map (·.1)) := ⟨K.oex, fun g hg => K.no g (List.mem_cons_of_mem _ hg)⟩
    have U : PSs X sts (tUSs X sts) := pss_U
    refine ⟨_, pss_cons (ps_ost hs hvv sw) U, v, e1, .ref a, h0, a, C, rfl, K.oex, K.no f (by simp), .inl ⟨ha, fun d hd ne => ?_⟩⟩
    refine xbody_old r K' h0 vs' e2 [(f, v)] _ D (by rw [upd_same]) (by rw [upd_ne ne, upd_same]) ne.symm (by simp; omega) ?_
    have q2 := q d hd ne
    have eqH : upd (upd (upd H d (exd d [(f, v)])) a (exo a C (some d))) d (exd d ((List.zip (l.map (·.1)) vs').reverse ++ [(f, v)])) = upd (upd (upd H d (exd d [])) a (exo a C (some d))) d (exd d (List.zip (((f, i) :: l).map (·.1)) (v :: vs')).reverse) := by
      funext b
      by_cases hb : b = d
      · subst hb; rw [upd_same, upd_same]; simp
      · rw [upd_ne hb, upd_ne hb]
        by_cases hba : b = a
        · subst hba; rw [upd_same, upd_same]
        · rw [upd_ne hba, upd_ne hba, upd_ne hb, upd_ne hb]
    rw [eqH]
    exact q2
/-- what __init__ promises -/
def spXI (C : Addr) (fs : List Str) : Sp := fun vs H Q _ => ∃ (a : Addr) (xs : List V), vs = .ref a :: xs ∧ xs.length = fs.length ∧ H a = some (exo a C none) ∧ ∀ d, H d = none → d ≠ a → Q .non (upd (upd (upd H d (exd d [])) a (exo a C (some d))) d (exd d (List.zip fs xs).reverse))
section
variable {Pg : Program} {w : World} {K : PySem.W.Frag} {mg : Str → Option Value} {base : Heap}
theorem slotV_start {N : List Str} {a : Addr} : ∀ {xs : List V} {l : List (Str × Nat)} (j : Nat), (l.map (·.2)) = (List.range' (j + 1) l.length) → xs.length = l.length → ∀ (pre : List V), pre.length = j → SlotV (L2.start N (.ref a :: (pre ++ xs))) l xs
  | [], [], j, _, _, pre, _ => by simp [SlotV]
  | [], _ :: _, j, _, h, _, _ => by simp at h
  | _ :: _, [], j, _, h, _, _ => by simp at h
  | x :: xs, p :: l, j, hl, h, pre, hp => by
    simp only [List.map_cons, List.length_cons, List.range'_succ, List.cons.injEq] at hl
    simp only [SlotV]
    refine ⟨x, xs, rfl, ?_, ?_⟩
    · rw [hl.1]
      simp only [L2.start, List.map_cons, List.map_append]
      have : (some (V.ref a) :: (pre.map some ++ (some x :: xs.map some)) ++ List.replicate (N.length - (V.ref a :: (pre ++ x :: xs)).length) none)[j + 1]? = some (some x) := by
        simp only [List.cons_append, List.getElem?_cons_succ, List.append_assoc]
        rw [List.getElem?_append_right (by simp [hp])]
        simp [hp]
      simpa using this
    · have := slotV_start (N := N) (a := a) (xs := xs) (l := l) (j + 1) (by simpa [Nat.add_comm, Nat.add_left_comm] using hl.2) (by simpa using h) (pre ++ [x]) (by simp [hp])
      simpa [List.append_assoc] using this
theorem xinit_ok {x qual : Str} {params : Arguments} {body : List Stmt} {scope : Scope} {dvs : List V} {kws : List (Str × V)} {f C : Addr} {fd : FuncData} {N ps : List Str} {f0 : Str × Nat} {l : List (Str × Nat)}
    (F : FunD K x qual params body scope dvs kws f fd) (S : FnScope N ps scope) (hp : ps.length = l.length + 2) (hl : ((f0 :: l).map (·.2)) = List.range' 1 (l.length + 1)) (hl2 : l.length ≤ 800) (KC : XCls K C ((f0 :: l).map (·.1)))
    (hb : ∀ (cdv : Value) (A : Around) (outer : List PySem.Env) (s : Shared) (H : Hp) (E : XK), XBody (cxOf (L2.CX Pg w) Pg w K mg base N qual scope f cdv A outer s H E) body (f0 :: l)) :
    FnOk Pg w K mg base (L2.CX Pg w) 1 f fd ps (spXI C ((f0 :: l).map (·.1))) := by
  refine F.ok S (fun vs H Q E h => ?_) (fun cdv A outer s H vs Q E hr h => ?_)
  · obtain ⟨a, xs, rfl, hx, _⟩ := h
    simp only [List.length_cons, List.length_map] at hx ⊢
    omega
  · obtain ⟨a, xs, rfl, hx, ha, q⟩ := h
    have sv := slotV_start (N := N) (a := a) (xs := xs) (l := f0 :: l) 0 (by simpa using hl) (by simpa using hx) [] rfl
    exact xbody_new (hb cdv A outer s H E) KC (by simp [L2.start]) xs sv H _ ha hl2 fun d hd ne => q d hd ne
end

/-! ### raise C(e, ..) -/
def evRaise (c : Str) (fs : List Str) (es : List Ev) : Es := fun env => (evDs es env).out fun ds e => if ds.length = fs.length then .exc ⟨c, (List.zip fs ds).reverse⟩ e else .bad
theorem repdf_app {K : PySem.W.Frag} {Z : Hp} : ∀ {a b : List (Str × D)} {x y : List (Str × V)}, RepDf K Z a x → RepDf K Z b y → RepDf K Z (a ++ b) (x ++ y)
  | [], b, x, y, h, h' => by simp only [RepDf] at h; subst h; exact h'
  | p :: a, b, x, y, h, h' => by
    simp only [RepDf] at h
    obtain ⟨v, r, rfl, h1, h2⟩ := h
    simp only [List.cons_append, RepDf]
    exact ⟨v, r ++ y, rfl, h1, repdf_app h2 h'⟩
theorem repdf_rev {K : PySem.W.Frag} {Z : Hp} : ∀ {a : List (Str × D)} {x : List (Str × V)}, RepDf K Z a x → RepDf K Z a.reverse x.reverse
  | [], x, h => by simp only [RepDf] at h; subst h; simp [RepDf]
  | p :: a, x, h => by
    simp only [RepDf] at h
    obtain ⟨v, r, rfl, h1, h2⟩ := h
    simp only [List.reverse_cons]
    exact repdf_app (repdf_rev h2) (by simp only [RepDf]; exact ⟨v, [], rfl, h1, rfl⟩)
theorem repdf_zip {K : PySem.W.Frag} {Z : Hp} : ∀ {fs : List Str} {ds : List D} {vs : List V}, RepDs K Z ds vs → RepDf K Z (List.zip fs ds) (List.zip fs vs)
  | [], ds, vs, h => by simp [RepDf]
  | f :: fs, [], vs, h => by simp only [RepDs] at h; subst h; simp [RepDf]
  | f :: fs, d :: ds, vs, h => by
    simp only [RepDs] at h
    obtain ⟨v, r, rfl, h1, h2⟩ := h
    simp only [List.zip_cons_cons, RepDf]
    exact ⟨v, _, rfl, h1, repdf_zip h2⟩
section
variable {P : Pc} {X : Cx}
theorem snds_raise {c x : Str} {e : Expr} {es : List Expr} {gs : List Ev} {fs ps : List Str} {fI : Addr} {fd : FuncData} {p pos pos' : Pos} (hc : X.calm = true) (KC : XCls X.K (He.ga X.K c) fs) (iC : PySem.W.findIn X.K (.ref (He.ga X.K c)) "__init__" = some (some (.ref fI))) (tI : PySem.W.typeIn X.K (.ref fI) = some (.type "function"))
    (FO : FnOk X.prog X.w X.K X.mg X.base (L2.CX X.prog X.w) 1 fI fd ps (spXI (He.ga X.K c) fs)) (hr : Room 2 X.A) (hb : Binds X.K fd ps []) (hg : Gl X x) (hm : X.mg x = some (.ref (He.ga X.K c))) (hd : SndDs P X (e :: es) gs) (hz : fs.length ≤ 100)
    (hdb : (x == ("__debug__" : Str)) = false := by decide) (h1 : starEach (e :: es) X.env = (false, eval e X.env) :: starEach es X.env := by rfl) (h2 : (backTo pos (starEach es X.env)).any (·.1) = false := by rfl) :
    SndS P X (.Raise (some (.Call (.Name x p) (e :: es) [] pos)) none pos') (evRaise c fs gs) [] := by
  intro W hW Z H sl ts D g q
  have pass : Passes (L2.CX X.prog X.w) X (fun _ _ _ => False) := passL
  refine ⟨_, ps_raise hc takes_out (pmk_oex KC.oex iC tI FO hr hb .nil pass hg hm pa_U hdb h1 h2), ?_⟩
  refine hd W hW Z H sl ts _ g (PostR.imp (PostS.out q) (List.Sublist.refl _) fun ds Z1 H1 sl1 s1 t1 q g1 vs rv => ?_)
  split at q
  · rename_i hl
    refine ⟨by rw [rv.length, hl]; omega, fun a ha => ⟨a, vs, by simp, by rw [rv.length, hl], upd_same, fun d hd ne => ?_⟩⟩
    have hd1 : H1 d = none := by rwa [upd_ne ne] at hd
    refine ⟨rfl, d, _, by rw [upd_ne ne.symm, upd_same], upd_same, hd1, ?_⟩
    have eqH : upd (del (upd (upd (upd (upd H1 a (exo a (He.ga X.K c) none)) d (exd d [])) a (exo a (He.ga X.K c) (some d))) d (exd d (List.zip fs vs).reverse)) a) d (.xd (List.zip fs vs).reverse) = upd H1 d (.xd (List.zip fs vs).reverse) := by
      funext b
      by_cases hb : b = d
      · subst hb; rw [upd_same, upd_same]
      · rw [upd_ne hb, upd_ne hb]
        by_cases hba : b = a
        · subst hba; rw [del_same, ha]
        · rw [del_ne hba, upd_ne hb, upd_ne hba, upd_ne hb, upd_ne hba]
    rw [eqH]
    obtain ⟨g2, s2⟩ := g1.updZ (o := .xd (List.zip fs vs).reverse) hd1 (fun _ z => by cases z)
    rw [← t1]
    refine q _ _ sl1 _ _ s2 g2 rfl (KeepT.same rfl) ⟨rfl, .inr ⟨d, _, rfl, upd_same, ?_⟩⟩
    exact (repdf_rev (repdf_zip rv)).mono s2
  · exact q.elim
end
end EV

set_option Elab.async false
set_option linter.all false
set_option maxRecDepth 100000
set_option maxHeartbeats 4000000
namespace EV
open PySem PySem.Spec PyProof.Rows L2

/-! ### what an except suite makes of the exception's fields -/
inductive HEl where
  | s (z : Str) | f (n : Str) | u
/-- what the written part says of an exception class, for its fields to be read -/
structure XRd (K : PySem.W.Frag) (C : Addr) (fs : List Str) : Prop where
  xf : XfC K C
  no : ∀ f ∈ fs, PySem.W.findIn K (.ref C) f = some none
def HEl.v (fv : List (Str × V)) : HEl → Option V
  | .s z => some (.str z)
  | .f n => fv.lookup n
  | .u => none
def HEl.d (fs : List (Str × D)) : HEl → Option D
  | .s z => some (.str z)
  | .f n => fs.lookup n
  | .u => none
def elsV (fv : List (Str × V)) : List HEl → Option (List V)
  | [] => some []
  | h :: r => match h.v fv, elsV fv r with
    | some v, some vs => some (v :: vs)
    | _, _ => none
def elsD (fs : List (Str × D)) : List HEl → Option (List D)
  | [] => some []
  | h :: r => match h.d fs, elsD fs r with
    | some v, some vs => some (v :: vs)
    | _, _ => none
theorem els_rep {K : PySem.W.Frag} {Z : Hp} {fs : List (Str × D)} {fv : List (Str × V)} (r : RepDf K Z fs fv) : ∀ {els : List HEl} {ds : List D}, elsD fs els = some ds → ∃ vs, elsV fv els = some vs ∧ RepDs K Z ds vs
  | [], ds, h => by simp only [elsD, Option.some.injEq] at h; subst h; exact ⟨[], rfl, by simp [RepDs]⟩
  | e :: els, ds, h => by
    simp only [elsD] at h
    split at h
    · rename_i d dr h1 h2
      cases h
      obtain ⟨vs, e1, e2⟩ := els_rep r h2
      cases e with
      | s z =>
        simp only [HEl.d, Option.some.injEq] at h1
        subst h1
        exact ⟨.str z :: vs, by simp [elsV, HEl.v, e1], by simp only [RepDs]; exact ⟨_, _, rfl, by simp [RepD], e2⟩⟩
      | f n =>
        obtain ⟨x, hx, rx⟩ := (repdf_lookup (m := n) r).1 d h1
        exact ⟨x :: vs, by simp [elsV, HEl.v, hx, e1], by simp only [RepDs]; exact ⟨_, _, rfl, rx, e2⟩⟩
      | u => simp [HEl.d] at h1
    · cases h
/-- the written elements of a suite's tuple or list: texts and fields of the exception's name -/
inductive Els (X : Cx) (C : Addr) (n : Str) : List Expr → List HEl → Prop
  | nil : Els X C n [] []
  | s {z : Str} {j : Nat} {pos : Pos} {es : List Expr} {l : List HEl} (r : Els X C n es l) : Els X C n (.Constant (.str z) j pos :: es) (.s z :: l)
  | f {m : Str} {p0 pos : Pos} {es : List Expr} {l : List HEl} (no : PySem.W.findIn X.K (.ref C) m = some none) (hb : attributeBase (.Name n p0) m X.env (eval (.Name n p0) X.env) = eval (.Name n p0) X.env) (r : Els X C n es l) : Els X C n (.Attribute (.Name n p0) m pos :: es) (.f m :: l)
/-- the elements' values; nothing changes -/
def tEls (cls : Value) (d : Option Addr) (C : Addr) (i : Nat) (a : Addr) (els : List HEl) : TA := fun σ H Q => (∃ vs, elsV [] els = some vs ∧ Q vs H) ∨ σ[i]? = some (some (.ref a)) ∧ cls = .ref C ∧ ∃ dd fv vs, d = some dd ∧ H dd = some (.xd fv) ∧ elsV fv els = some vs ∧ Q vs H
theorem pa_els {X : Cx} {C a : Addr} {oe : Obj} {cls : Value} {d : Option Addr} {pn : List (Addr × Obj)} {n : Str} {i : Nat} (T : XfC X.K C) (hz : Zc cls d oe) (hf : ∃ vs, oe.data = .fields vs) (hv : ∀ p0, PE (X.suite a ((a, oe) :: pn)) (.Name n p0) (tVar i)) :
    ∀ {es : List Expr} {els : List HEl}, Els X C n es els → PA (X.suite a ((a, oe) :: pn)) es (tEls cls d C i a els) := by
  intro es els h
  induction h with
  | nil => exact ⟨fun pos pins s σ H Q I q => pa_nil.run pos pins s σ H Q I (by
      rcases q with ⟨vs, e, q⟩ | ⟨_, _, dd, fv, vs, _, _, e, q⟩ <;> (simp only [elsV, Option.some.injEq] at e; subst e; exact q))⟩
  | @s z j pos es l r ih =>
    have base : PA (X.suite a ((a, oe) :: pn)) (.Constant (.str z) j pos :: es) _ := pa_cons pe_str ih
    refine ⟨fun p pins s σ H Q I q => base.run p pins s σ H Q I ?_⟩
    rcases q with ⟨vs, e, q⟩ | ⟨h1, h2, dd, fv, vs, h3, h4, h5, q⟩
    · simp only [elsV, HEl.v] at e
      cases e2 : elsV [] l with
      | none => rw [e2] at e; cases e
      | some vs' =>
        rw [e2] at e
        cases e
        exact .inl ⟨vs', e2, q⟩
    · simp only [elsV, HEl.v] at h5
      cases e : elsV fv l with
      | none => rw [e] at h5; cases h5
      | some vs' =>
        rw [e] at h5
        cases h5
        exact .inr ⟨h1, h2, dd, fv, vs', h3, h4, e, q⟩
  | @f m p0 pos es l no hb r ih =>
    have base : PA (X.suite a ((a, oe) :: pn)) (.Attribute (.Name n p0) m pos :: es) _ := pa_cons (pe_xf (d := d) (cls := cls) T no hz hf (hv p0) hb) ih
    refine ⟨fun p pins s σ H Q I q => base.run p pins s σ H Q I ?_⟩
    rcases q with ⟨vs, e, _⟩ | ⟨h1, h2, dd, fv, vs, h3, h4, h5, q⟩
    · simp only [elsV, HEl.v, List.lookup_nil] at e
      cases e
    · simp only [elsV, HEl.v] at h5
      cases e1 : fv.lookup m with
      | none => rw [e1] at h5; cases h5
      | some v =>
        cases e : elsV fv l with
        | none => rw [e1, e] at h5; cases h5
        | some vs' =>
          rw [e1, e] at h5
          cases h5
          exact ⟨_, h1, rfl, h2, dd, fv, v, h3, h4, e1, .inr ⟨h1, h2, dd, fv, vs', h3, h4, e, q⟩⟩

/-! ### a def that calls what it got, and tells what was raised -/
def wishLen (n : Nat) (W : WX) : WX := fun cls d σ H => σ.length = n → W cls d σ H
theorem takes_len {X : Cx} {W : WX} (tk : Takes X W) : Takes X (wishLen X.N.length W) := fun u s' ⟨a, B, sI, pins, σ, H, cls, d, e, I, nb, up, sky, na, os, ag, w⟩ =>
  tk u s' ⟨a, B, sI, pins, σ, H, cls, d, e, I, nb, up, sky, na, os, ag, w I.len⟩
/-- what the clauses make of an exception: a new list or tuple of the elements -/
def HandTo (K : PySem.W.Frag) (lst : Bool) : List (Addr × List HEl) → Value → Option Addr → Hp → VK → Prop
  | [], _, _, _, _ => False
  | h :: r, cls, d, H, Q => ∃ b, PySem.W.exmOne K cls (.ref h.1) = some b ∧ (b = true → ∃ vs, ((elsV [] h.2 = some vs) ∨ cls = .ref h.1 ∧ ∃ dd fv, d = some dd ∧ H dd = some (.xd fv) ∧ elsV fv h.2 = some vs) ∧ vs.length ≤ sizeLine ∧ ∀ p, H p = none → Q (.ref p) (upd H p (if lst then .lst vs else .tup vs))) ∧
    (b = false → HandTo K lst r cls d H Q)
def TTx (K : PySem.W.Frag) (lst : Bool) (hs : List (Addr × List HEl)) : (XK → Hp → VK → Prop) → Hp → VK → Prop := fun tl H Q => tl (fun cls d H' => HandTo K lst hs cls d H' Q) H (fun _ H' => Q .non H')
/-- the clauses of such a def; lst: found = [..] at slot j, else return (..) -/
inductive TellCl (X : Cx) (n y : Str) (lst : Bool) : List ExceptHandler → List (Addr × List HEl) → Prop
  | nil : TellCl X n y lst [] []
  | consT {x : Str} {C : Addr} {es : List Expr} {els : List HEl} {k : Nat} {p1 p2 p3 p4 : Pos} {hs : List ExceptHandler} {l : List (Addr × List HEl)} (hl : lst = false) (named : Names X x (.ref C)) (xf : XfC X.K C) (he : Els X C n es els) (more : TellCl X n y lst hs l) :
      TellCl X n y lst (.ExceptHandler (some (.Name x p1)) (some n) [.Return (some (.Tuple es k p3)) p4] p2 :: hs) ((C, els) :: l)
  | consL {x : Str} {C : Addr} {es : List Expr} {els : List HEl} {p1 p2 p3 p4 p5 : Pos} {hs : List ExceptHandler} {l : List (Addr × List HEl)} (hl : lst = true) (named : Names X x (.ref C)) (xf : XfC X.K C) (he : Els X C n es els) (sw : swapsWith (.List es p3) (some (.Name y p5)) p4.line X.env = pure false) (more : TellCl X n y lst hs l) :
      TellCl X n y lst (.ExceptHandler (some (.Name x p1)) (some n) [.Assign [.Name y p5] (.List es p3) p4] p2 :: hs) ((C, els) :: l)
  | never {x : Str} {C : Addr} {p1 p2 : Pos} {s0 : Stmt} {suite : List Stmt} {hs : List ExceptHandler} {l : List (Addr × List HEl)} (named : Names X x (.ref C)) (xf : XfC X.K C) (more : TellCl X n y lst hs l) :
      TellCl X n y lst (.ExceptHandler (some (.Name x p1)) (some n) (s0 :: suite) p2 :: hs) ((C, [.u]) :: l)
def thOf (i j : Nat) (lst : Bool) (h : Addr × List HEl) : TH := fun a cls d => if lst then tAsg (tLst (tEls cls d h.1 i a h.2)) (gName j) else tRet (tTup (tEls cls d h.1 i a h.2))
theorem tell_clauses {X : Cx} {n y : Str} {lst : Bool} {i j : Nat} (hN : X.N.Nodup) (hj : X.N[j]? = some y) (hy : X.env.scope.names.lookup y = some .local) (hv : ∀ (a : Addr) (pn : List (Addr × Obj)) (p0 : Pos), PE (X.suite a pn) (.Name n p0) (tVar i)) :
    ∀ {hds : List ExceptHandler} {l : List (Addr × List HEl)}, TellCl X n y lst hds l → Clauses X n hds (l.map fun h => (.ref h.1, thOf i j lst h)) := by
  intro hds l h
  induction h with
  | nil => exact .nil
  | @consT x C es els k p1 p2 p3 p4 hs l hl named xf he more ih =>
    refine .cons named (fun a oe cls d pn hz hf => ?_) ih
    subst hl
    exact pss_one (ps_ret (pe_tup (pa_els xf hz hf (hv a _) he)))
  | @consL x C es els p1 p2 p3 p4 p5 hs l hl named xf he sw more ih =>
    refine .cons named (fun a oe cls d pn hz hf => ?_) ih
    subst hl
    exact pss_one (ps_set (X := X.suite a ((a, oe) :: pn)) hN hj (.inl hy) (pe_lst (pa_els xf hz hf (hv a _) he)) sw (.inr hy))
  | @never x C p1 p2 s0 suite hs l named xf more ih =>
    refine .cons named (fun a oe cls d pn hz hf => ⟨fun pins s σ H D I h => ?_⟩) ih
    have no : ∀ {σ : L2.St} {H : Hp} {Q : List V → Hp → Prop}, ¬ tEls cls d C i a [.u] σ H Q := by
      rintro σ H Q (⟨vs, e, _⟩ | ⟨_, _, dd, fv, vs, _, _, e, _⟩) <;> simp [elsV, HEl.v] at e
    simp only [thOf] at h
    split at h
    · simp only [tAsg, tLst] at h
      exact (no h).elim
    · simp only [tRet, tTup] at h
      exact (no h).elim
theorem hand_all {X : Cx} {lst : Bool} {i j : Nat} {out : WX} {D : Ends} {σ : L2.St} {cls : Value} {d : Option Addr} {H : Hp} {Q : VK} (hi : i < σ.length)
    (hT : lst = false → ∀ v H', Q v H' → D.rt v H') (hL : lst = true → ∀ v H' a, Q v H' → D.nx (((σ.set i (some (.ref a))).set j (some v)).set i none) H') : ∀ {l : List (Addr × List HEl)}, HandTo X.K lst l cls d H Q → wAll X.K out i D (l.map fun h => (.ref h.1, thOf i j lst h)) cls d σ H
  | [], h => h.elim
  | h :: r, ⟨b, hb, yes, no⟩ => by
    refine ⟨b, hb, fun e a ha => ?_, fun e => hand_all hi hT hL (no e)⟩
    obtain ⟨vs, hv, hz, q⟩ := yes e
    have slot : (σ.set i (some (V.ref a)))[i]? = some (some (.ref a)) := by simp [hi]
    have key : ∀ Q' : List V → Hp → Prop, Q' vs H → tEls cls d h.1 i a h.2 (σ.set i (some (.ref a))) H Q' := fun Q' q' => by
      rcases hv with ev | ⟨ec, dd, fv, ed, hd, ev⟩
      · exact .inl ⟨vs, ev, q'⟩
      · exact .inr ⟨slot, ec, dd, fv, vs, ed, hd, ev, q'⟩
    cases lst with
    | false =>
      simp only [thOf, Bool.false_eq_true, if_false]
      exact key (fun vs H => vs.length ≤ sizeLine ∧ ∀ p, H p = none → D.rt (.ref p) (upd H p (.tup vs))) ⟨hz, fun p hp => hT rfl _ _ (by simpa using q p hp)⟩
    | true =>
      simp only [thOf, if_true]
      exact key (fun vs H => vs.length ≤ sizeLine ∧ ∀ p, H p = none → D.nx (((σ.set i (some (.ref a))).set j (some (.ref p))).set i none) (upd H p (.lst vs))) ⟨hz, fun p hp => hL rfl _ _ a (by simpa using q p hp)⟩
section
variable {X : Cx} {Ng : List Str} {x a n y q : Str} {sg : Scope} {g : Addr} {cdg : Value} {hds : List ExceptHandler} {h0 : ExceptHandler} {l : List (Addr × List HEl)} {p1 p2 p3 p4 p5 p6 p7 p8 p9 : Pos} {i j : Nat}
/-- the context of such a def's body -/
abbrev tellCx (X : Cx) (Ng : List Str) (x : Str) (sg : Scope) (g : Addr) (cdg : Value) (s : Shared) (H : Hp) : Cx := (cxOf C8.CX0 X.prog X.w X.K X.mg X.base Ng x sg g cdg X.A X.stack s H C8.E0).nox
theorem try_body {s : Shared} {H : Hp} {f c' : Addr} {tl : XK → Hp → VK → Prop}
    (act : ∀ (W : WX) (pn : List (Addr × Obj)) (xe : Value → Shared → Prop) (E : XK) (p1 p2 : Pos), Takes ((cxOf C8.CX0 X.prog X.w X.K X.mg X.base Ng x sg g cdg X.A X.stack s H C8.E0).tr pn xe) W → (∀ cls d σ' H', E cls d H' → W cls d σ' H') →
      PE ((cxOf C8.CX0 X.prog X.w X.K X.mg X.base Ng x sg g cdg X.A X.stack s H C8.E0).tr pn xe) (.Call (.Name a p1) [] [] p2) (fun σZ HZ Q => σZ[0]? = some (some (.ref f)) ∧ HZ c' = some (LamX.CodeO c' q) ∧ tl E HZ Q))
    (W : WX) (pn : List (Addr × Obj)) (xe : Value → Shared → Prop) (tk : Takes ((tellCx X Ng x sg g cdg s H).tr pn xe) W) :
    PSs ((tellCx X Ng x sg g cdg s H).tr pn xe) [.Expr (.Call (.Name a p1) [] [] p2) p3] (fun D σ H => ∃ Ech : XK, (∀ cls d σ' H', σ'.length = Ng.length → Ech cls d H' → W cls d σ' H') ∧ σ[0]? = some (some (.ref f)) ∧ H c' = some (LamX.CodeO c' q) ∧ tl Ech H (fun _ H' => D.nx σ H')) := by
  refine ⟨fun pins s' σ H' D I h => ?_⟩
  obtain ⟨Ech, hW, h1, h2, h3⟩ := h
  have tk' : Takes ((cxOf C8.CX0 X.prog X.w X.K X.mg X.base Ng x sg g cdg X.A X.stack s H C8.E0).tr pn xe) (wishLen Ng.length W) := takes_len (X := (tellCx X Ng x sg g cdg s H).tr pn xe) tk
  have hp := act (wishLen Ng.length W) pn xe Ech p1 p2 tk' fun cls d σ' H' e len => hW cls d σ' H' len e
  exact (pss_one (ps_expr (pos := p3) hp (by rfl))).run pins s' σ H' D I ⟨h1, h2, h3⟩
/-- try: a() / except ..: return (..) / return None -/
theorem tellT_gives (hN : Ng.Nodup) (hn : sg.names.lookup n = some .local) (hi : Ng[i]? = some n) (h0l : 0 < Ng.length) (hv : ∀ (s : Shared) (H : Hp) (b : Addr) (pn : List (Addr × Obj)) (p0 : Pos), PE ((tellCx X Ng x sg g cdg s H).suite b pn) (.Name n p0) (tVar i))
    (hc : ∀ s H, TellCl (tellCx X Ng x sg g cdg s H) n n false (h0 :: hds) l) : LamX.GivesTo X Ng x sg g cdg [.Try [.Expr (.Call (.Name a p1) [] [] p2) p3] (h0 :: hds) [] [] p4, .Return (some (.Constant .none 0 p5)) p6] a q (TTx X.K false l) := by
  intro f c' s H Q tl act hcd h
  have hil : i < Ng.length := (List.getElem?_eq_some_iff.mp hi).1
  have cl := tell_clauses (X := tellCx X Ng x sg g cdg s H) (i := i) (j := i) hN hi hn (hv s H) (hc s H)
  refine ⟨_, pss_cons (ps_try_all (X := tellCx X Ng x sg g cdg s H) (out := fun _ _ _ _ => False) rfl rfl hN hi hn LamX.takes0 (fun W pn xe tk _ => try_body act W pn xe tk) cl) (pss_one (ps_ret pe_non)), ?_⟩
  refine ⟨fun cls d H' => HandTo X.K false l cls d H' Q, fun cls d σ' H' hl h => hand_all (X := X) (by rw [hl]; exact hil) (fun _ v H'' q => q) (fun z => by cases z) h, ?_, hcd, h⟩
  simp [L2.start]
/-- found = None / try: a() / except ..: found = [..] / return found -/
theorem tellL_gives (hN : Ng.Nodup) (hn : sg.names.lookup n = some .local) (hy : sg.names.lookup y = some .local) (hi : Ng[i]? = some n) (hj : Ng[j]? = some y) (ij : i ≠ j) (hj0 : j ≠ 0) (hv : ∀ (s : Shared) (H : Hp) (b : Addr) (pn : List (Addr × Obj)) (p0 : Pos), PE ((tellCx X Ng x sg g cdg s H).suite b pn) (.Name n p0) (tVar i))
    (hr : ∀ (s : Shared) (H : Hp) (p0 : Pos), PE (tellCx X Ng x sg g cdg s H) (.Name y p0) (tVar j))
    (hc : ∀ s H, TellCl (tellCx X Ng x sg g cdg s H) n y true (h0 :: hds) l) (sw : ∀ s H, swapsWith (.Constant .none 0 p7) (some (.Name y p8)) p6.line (tellCx X Ng x sg g cdg s H).env = pure false := by intro _ _; rfl) :
    LamX.GivesTo X Ng x sg g cdg [.Assign [.Name y p8] (.Constant .none 0 p7) p6, .Try [.Expr (.Call (.Name a p1) [] [] p2) p3] (h0 :: hds) [] [] p4, .Return (some (.Name y p5)) p9] a q (TTx X.K true l) := by
  intro f c' s H Q tl act hcd h
  have hil : i < Ng.length := (List.getElem?_eq_some_iff.mp hi).1
  have hjl : j < Ng.length := (List.getElem?_eq_some_iff.mp hj).1
  have cl := tell_clauses (X := tellCx X Ng x sg g cdg s H) (i := i) (j := j) hN hj hy (hv s H) (hc s H)
  refine ⟨_, pss_cons (ps_set (X := tellCx X Ng x sg g cdg s H) hN hj (.inl hy) pe_non (sw s H) (.inr hy))
    (pss_cons (ps_try_all (X := tellCx X Ng x sg g cdg s H) (out := fun _ _ _ _ => False) rfl rfl hN hi hn LamX.takes0 (fun W pn xe tk _ => try_body act W pn xe tk) cl) (pss_one (ps_ret (hr s H p5)))), ?_⟩
  have sl : (L2.start Ng [V.ref f]).length = Ng.length := by simp [L2.start]; omega
  have s0 : (L2.start Ng [V.ref f])[0]? = some (some (V.ref f)) := by simp [L2.start]
  have q2 : (fun (_ : V) (H' : Hp) => Q .non H') = fun _ H' => tRet (tVar j) { nx := fun _ H' => Q .non H', rt := Q } ((L2.start Ng [V.ref f]).set j (some .non)) H' := by
    funext v H'
    apply propext
    constructor
    · intro z
      exact ⟨.non, by rw [List.getElem?_set_self (by rw [sl]; exact hjl)], z⟩
    · rintro ⟨z, e, q⟩
      rw [List.getElem?_set_self (by rw [sl]; exact hjl)] at e
      cases e
      exact q
  have h' : tl (fun cls d H' => HandTo X.K true l cls d H' Q) H (fun _ H' => tRet (tVar j) { nx := fun _ H' => Q .non H', rt := Q } ((L2.start Ng [V.ref f]).set j (some .non)) H') := by
    rw [← q2]
    exact h
  have hh : ∀ (cls : Value) (d : Option Addr) (σ' : L2.St) (H' : Hp), σ'.length = Ng.length → HandTo X.K true l cls d H' Q → wAll (tellCx X Ng x sg g cdg s H).K (fun _ _ _ _ => False) i { nx := tRet (tVar j) { nx := fun _ H' => Q .non H', rt := Q }, rt := Q } (l.map fun h => (.ref h.1, thOf i j true h)) cls d σ' H' := fun cls d σ' H' hl hq =>
    hand_all (X := X) (by rw [hl]; exact hil) (fun z => by cases z) (fun _ v H'' b q => by
      refine ⟨v, ?_, q⟩
      rw [List.getElem?_set_ne ij, List.getElem?_set_self (by simp only [List.length_set]; rw [hl]; exact hjl)]) hq
  refine ⟨_, hh, ?_, hcd, h'⟩
  rw [List.getElem?_set_ne hj0]; exact s0

/-! ### x(lambda: body) -/
def handleX (cs : List Str) : List (Str × List HEl) → Ex → Option (List D)
  | [], _ => none
  | h :: r, x => if cs.contains x.c then (if x.c = h.1 then elsD x.fs h.2 else handleX cs r x) else none
/-- what such a def tells of the thunk f: None, or what its clauses make of the exception -/
def evTell (lst : Bool) (cs : List Str) (hs : List (Str × List HEl)) (f : Ev) : Ev := fun env => match f env with
  | .ok p => .ok (.v () .non, p.2)
  | .exc x e => (match handleX cs hs x with
    | some ds => if ds.length ≤ sizeLine then .ok (if lst then .lst () (ds.map (.v ())) else .v () (.tup ds), e) else .bad
    | none => .bad)
  | .bad => .bad
theorem hand_post {P : Pc} {W : Wld} {lst : Bool} {cs : List Str} {Z H : Hp} {sl : Sl} {ts : List (Ow V)} {Q : VK} {x : Ex} {cls : Value} {d : Option Addr} (g : Good W X.K Z H (roots sl ++ ts)) (rx : RepX X.K Z x cls d) {ds : List D} (hz : ds.length ≤ sizeLine)
    (fin : ∀ Z' H' oa, Sub Z Z' → Good W X.K Z' H' (oa :: (roots sl ++ ts)) → oa.er = (if lst then .lst () (ds.map (.v ())) else .v () (.tup ds)) → Q oa.top H') : ∀ {hs : List (Str × List HEl)},
    (∀ c ∈ cs, ∀ h ∈ hs, PySem.W.exmOne X.K (.ref (He.ga X.K c)) (.ref (He.ga X.K h.1)) = some (decide (c = h.1))) → handleX cs hs x = some ds → HandTo X.K lst (hs.map fun h => (He.ga X.K h.1, h.2)) cls d H Q
  | [], hm, h => by simp [handleX] at h
  | h :: r, hm, he => by
    obtain ⟨rfl, rx2⟩ := rx
    simp only [handleX] at he
    split at he
    · rename_i hc
      have hc' : x.c ∈ cs := by simpa using hc
      refine ⟨_, hm x.c hc' h (by simp), fun e => ?_, fun e => ?_⟩
      · have e' : x.c = h.1 := of_decide_eq_true e
        rw [if_pos e'] at he
        rcases rx2 with ⟨e1, e2⟩ | ⟨da, fv, e1, e2, rf⟩
        · rw [e1] at he
          obtain ⟨vs, ev, rv⟩ := els_rep (K := X.K) (Z := Z) (fs := []) (fv := []) (by simp [RepDf]) he
          refine ⟨vs, .inl ev, by rw [rv.length]; exact hz, fun p hp => ?_⟩
          cases lst with
          | false =>
            obtain ⟨Z', s', g'⟩ := new_tup (X := X) g rv hp
            exact fin Z' _ _ s' g' rfl
          | true => exact fin Z _ _ (Sub.refl _) (new_lst (X := X) g rv hp) (by simp only [Ow.er, Ow.ers_map, vOf_er rv, if_true])
        · obtain ⟨vs, ev, rv⟩ := els_rep rf he
          refine ⟨vs, .inr ⟨by rw [e'], da, fv, e1, g.sub _ _ e2, ev⟩, by rw [rv.length]; exact hz, fun p hp => ?_⟩
          cases lst with
          | false =>
            obtain ⟨Z', s', g'⟩ := new_tup (X := X) g rv hp
            exact fin Z' _ _ s' g' rfl
          | true => exact fin Z _ _ (Sub.refl _) (new_lst (X := X) g rv hp) (by simp only [Ow.er, Ow.ers_map, vOf_er rv, if_true])
      · have e' : ¬ x.c = h.1 := of_decide_eq_false e
        rw [if_neg e'] at he
        exact hand_post (P := P) g ⟨rfl, rx2⟩ hz fin (fun c hc h' hh => hm c hc h' (List.mem_cons_of_mem _ hh)) he
    · cases he
/-! the lambda's body -/
def PostL (W : Wld) (K : PySem.W.Frag) (sl : Sl) (ts : List (Ow V)) (Z : Hp) (Q : VK) (E : XK) : R (O × Env) → Prop
  | .ok p => ∀ Z' H' sl' oa, Sub Z Z' → Good W K Z' H' (oa :: (roots sl' ++ ts)) → oa.er = p.1 → ers sl' = p.2 → tops sl' = tops sl → Q oa.top H'
  | .exc x env => ∀ Z' H' sl' c d, Sub Z Z' → Good W K Z' H' (roots sl' ++ ts) → ers sl' = env → tops sl' = tops sl → RepX K Z' x c d → E c d H'
  | .bad => False
def tLamB (P : Pc) (K : PySem.W.Frag) (f : Ev) (E : XK) : TE := fun σ H Q => ∃ (W : Wld) (Z : Hp) (sl : Sl) (ts : List (Ow V)), P.ok W ∧ σ = tops sl ∧ Good W K Z H (roots sl ++ ts) ∧ PostL W K sl ts Z Q E (f (ers sl))
theorem lam_body {P : Pc} {X : Cx} {A : Around} {outer : List PySem.Env} {s : Shared} {H : Hp} {E : XK} {scope : Scope} {fa c' : Addr} {body : Expr} {f : Ev} (hb : Snd P (LamX.lamCx X A outer s H E scope fa c') body f) : PE (LamX.lamCx X A outer s H E scope fa c') body (tLamB P X.K f E) := by
  refine ⟨fun pins s1 σ H1 Q I h => ?_⟩
  obtain ⟨W, Z, sl, ts, hW, rfl, g, p⟩ := h
  refine pe_U.run pins s1 _ H1 Q I (hb W hW Z H1 sl ts Q g ?_)
  have tk : Takes (LamX.lamCx X A outer s H E scope fa c') (fun cls d _ H => E cls d H) := takes_of rfl rfl rfl rfl
  cases e : f (ers sl) with
  | bad => rw [e] at p; exact p
  | ok q => rw [e] at p; exact fun Z' H' sl' s' er t oa g' eo => p Z' H' sl' oa s' g' eo er t
  | exc x env => rw [e] at p; exact fun Z' H' sl' c d s' g' er t r => ⟨_, tk, p Z' H' sl' c d s' g' er t r⟩
theorem snd_lam {P : Pc} {X : Cx} {lst : Bool} {cs : List Str} {hs : List (Str × List HEl)} {fb : Ev} {x a : Str} {g c Pt : Addr} {k : Nat} {pg : Arguments} {bg : List Stmt} {sg : Scope} {dV kV doc pm cdv ct oc : Value} {an od : Option Addr} {osl : Array (Option Value)} {Ng : List Str}
    {params : Arguments} {body : Expr} {scope : Scope} {p lpos pos : Pos} (hg : Gl X x) (hm : X.mg x = some (.ref g)) (hk : PySem.W.keepIn X.K (.ref g) = true)
    (lk : X.K.lookup g = some ⟨oc, od, .func (PySem.W.fnOf x x pg bg sg dV kV doc pm an cdv ct), osl⟩) (hcg : PySem.W.codeIn X.K cdv x = true) (hb : L2.Binds X.K (PySem.W.fnOf x x pg bg sg dV kV doc pm an cdv ct) [a] []) (Sg : FnScope Ng [a] sg) (hNg : Ng[0]? = some a) (hva : Vis sg a)
    (hG : LamX.GivesTo X Ng x sg g cdv bg a (X.env.qual ++ "<lambda>") (TTx X.K lst (hs.map fun h => (He.ga X.K h.1, h.2))))
    (TB : LamX.TabB X.base X.mg c Pt) (hcode : X.env.code = .ref c) (hmT : (Pt, X.env.qual ++ "<lambda>") ∈ P.T) (hu : ∀ p ∈ P.T, p.1 = Pt → p.2 = X.env.qual ++ "<lambda>") (hr : Room (k + 2) X.A) (L : LamX.LamS X.env.scope scope) (hdef : defaultsOf params X.env = ([], []))
    (hbind : ∀ (q : Str) (cl : List (Str × Addr)) (pm cv ctv : Value), bindArgs (PySem.W.kla_fn "<lambda>" q params body scope cl pm cv ctv) ⟨[], []⟩ = pure [])
    (hx : ∀ c ∈ cs, ∀ h ∈ hs, PySem.W.exmOne X.K (.ref (He.ga X.K c)) (.ref (He.ga X.K h.1)) = some (decide (c = h.1)))
    (hbody : ∀ (A : Around) (outer : List PySem.Env) (s : Shared) (H : Hp) (E : XK) (f c' : Addr), Room k (A.deeper (LamX.lamEnv X scope s.heap.objs.size f c')) → Snd P (LamX.lamCx X A outer s H E scope f c') body fb)
    (hdb : (x == ("__debug__" : Str)) = false := by decide) (hd : (a == ("__debug__" : Str)) = false := by decide) (hcd : (a == ("__classdict__" : Str)) = false := by decide) :
    Snd P X (.Call (.Name x p) [.Lambda params body scope lpos] [] pos) (evTell lst cs hs fb) := by
  intro W hW Z H sl ts Q gd q
  refine ⟨_, LamX.pe_lamcall (t := fun E => tLamB P X.K fb E) hg hm hk lk hcg hb Sg hNg hva hG TB hcode hmT hu hr L hdef hbind (fun A outer s H E f c' hr2 => lam_body (hbody A outer s H E f c' hr2)) hdb hd hcd, ?_, ?_⟩
  · rw [← hW.1]; exact W.tabs gd.aux
  intro H1 eN T1
  rw [← hW.1] at T1
  have g1 := gd.ext eN T1
  refine ⟨W, Z, sl, ts, hW, rfl, g1, ?_⟩
  simp only [evTell] at q
  cases e : fb (ers sl) with
  | bad => rw [e] at q; exact q
  | ok p =>
    rw [e] at q
    exact fun Z' H' sl' oa s' g' eo er t => q Z' H' sl' s' er t (.v .non .non) (g'.tail.cons_v (by simp [RepD])) rfl
  | exc x1 env =>
    rw [e] at q
    intro Z' H' sl' c d s' g' er t rx
    simp only at q
    cases eh : handleX cs hs x1 with
    | none => rw [eh] at q; exact q.elim
    | some ds =>
      rw [eh] at q
      simp only at q
      split at q
      · rename_i hz
        refine hand_post (P := P) g' rx hz (fun Z2 H2 oa s2 g2 eo => ?_) hx eh
        exact q Z2 H2 sl' (s'.trans s2) er t oa g2 eo
      · exact q.elim
end
end EV

set_option Elab.async false
set_option linter.all false
set_option maxRecDepth 100000
set_option maxHeartbeats 4000000
namespace EV
open PySem PySem.Spec PyProof.Rows L2
section
variable {X : Cx}

/-! ### any rule of an operation -/
def oU (X : Cx) (f : Value → Value → Sem Value) : R2 := fun x y H Q => ∃ r, OpR X f r ∧ r x y H Q
theorem op_U {f : Value → Value → Sem Value} : OpR X f (oU X f) := fun pins s σ H x y v u Q I rx ry ⟨r, h, q⟩ => h pins s σ H x y v u Q I rx ry q
def uU (X : Cx) (f : Value → Sem Value) : V → Hp → VK → Prop := fun x H Q => ∃ r, UnR X f r ∧ r x H Q
theorem un_U {f : Value → Sem Value} : UnR X f (uU X f) := fun pins s σ H x v Q I rx ⟨r, h, q⟩ => h pins s σ H x v Q I rx q
def iU (X : Cx) : R2 := fun x y H Q => ∃ r, IxR X r ∧ r x y H Q
theorem ix_U : IxR X (iU X) := fun va sl pins s σ H x y v u Q I rx ry ⟨r, h, q⟩ hs => h va sl pins s σ H x y v u Q I rx ry q hs
def cU (X : Cx) (f : Value) : List V → Hp → VK → Prop := fun vs H Q => ∃ r, CallR X f r ∧ r vs H Q
theorem call_U {f : Value} : CallR X f (cU X f) := fun pins s σ H xs us Q I r ⟨_, h, q⟩ => h pins s σ H xs us Q I r q
def sU (X : Cx) : V → Option Int → Option Int → Hp → VK → Prop := fun x lo hi H Q => ∃ r, SlR X r ∧ r x lo hi H Q
theorem sl_U : SlR X (sU X) := fun pins s σ H x v vl vu lo hi sl Q I rx hs pl pu ⟨_, h, q⟩ => h pins s σ H x v vl vu lo hi sl Q I rx hs pl pu q

/-! ### arguments from the left -/
theorem tUA_nil {σ : L2.St} {H : Hp} {k : List V → Hp → Prop} (h : k [] H) : tUA X [] σ H k := ⟨_, pa_nil, h⟩
/-- no starred one among them -/
inductive Stars (X : Cx) : List Expr → Prop
  | nil : Stars X []
  | cons {e : Expr} {es : List Expr} (h : starEach (e :: es) X.env = (false, eval e X.env) :: starEach es X.env) (r : Stars X es) : Stars X (e :: es)
theorem seq_pa : ∀ {es : List Expr} {σ : L2.St} {H : Hp} {k : List V → Hp → Prop}, Stars X es → seqU X es σ H k → tUA X es σ H k
  | [], σ, H, k, _, h => tUA_nil h
  | e :: es, σ, H, k, st, h => by
    cases st with
    | cons h1 st =>
      refine ⟨_, pa_cons (t := fun σ H Q => seqU X es σ H Q) pe_U ⟨fun pos pins s σ H Q I q => pa_U.run pos pins s σ H Q I (seq_pa st q)⟩ h1, ?_⟩
      exact h
variable {x : Str} {p pos : Pos} {e : Expr} {es : List Expr} {id T : String}
theorem sh_callB (hg : Gl X x) (hm : X.mg x = none) (hv : bootBuiltins x = some (.builtin id)) (hn : x ≠ "__name__" := by decide) (hdb : (x == ("__debug__" : Str)) = false := by decide)
    (st : Stars X (e :: es) := by first | exact .cons rfl .nil | exact .cons rfl (.cons rfl .nil) | exact .cons rfl (.cons rfl (.cons rfl .nil)))
    (h1 : starEach (e :: es) X.env = (false, eval e X.env) :: starEach es X.env := by rfl) (h2 : (backTo pos (starEach es X.env)).any (·.1) = false := by rfl) :
    ∀ σ H Q, seqU X (e :: es) σ H (fun vs H' => cU X (.builtin id) vs H' Q) → tU X (.Call (.Name x p) (e :: es) [] pos) σ H Q := by
  intro σ H Q h
  exact ⟨_, pe_callB call_U hg hm hv pa_U hn hdb h1 h2, seq_pa st h⟩
theorem sh_callTy (hg : Gl X x) (hm : X.mg x = none) (hv : bootBuiltins x = some (.type T)) (hn : x ≠ "__name__" := by decide) (hdb : (x == ("__debug__" : Str)) = false := by decide)
    (st : Stars X (e :: es) := by first | exact .cons rfl .nil | exact .cons rfl (.cons rfl .nil) | exact .cons rfl (.cons rfl (.cons rfl .nil)))
    (h1 : starEach (e :: es) X.env = (false, eval e X.env) :: starEach es X.env := by rfl) (h2 : (backTo pos (starEach es X.env)).any (·.1) = false := by rfl) :
    ∀ σ H Q, seqU X (e :: es) σ H (fun vs H' => cU X (.type T) vs H' Q) → tU X (.Call (.Name x p) (e :: es) [] pos) σ H Q := by
  intro σ H Q h
  exact ⟨_, pe_callTy call_U hg hm hv pa_U hn hdb h1 h2, seq_pa st h⟩
end

/-! ### == -/
mutual
def D.py : D → Option PyData
  | .non => some .none
  | .bl b => some (.bool b)
  | .int i => some (.int i)
  | .str s => some (.str s)
  | .tup xs => (D.pys xs).map .tuple
  | .lst xs => (D.pys xs).map .list
  | _ => none
def D.pys : List D → Option (List PyData)
  | [] => some []
  | x :: r => match x.py, D.pys r with
    | some a, some b => some (a :: b)
    | _, _ => none
end
mutual
theorem rep_dp {K : PySem.W.Frag} {Z H : Hp} (s : Sub Z H) : ∀ {d : D} {x : V} {p : PyData}, RepD K Z d x → d.py = some p → Dp K H x p
  | .any, x, p, h, e => by simp [D.py] at e
  | .non, x, p, h, e => by simp only [D.py, Option.some.injEq] at e; simp only [RepD] at h; subst e h; exact .non
  | .bl b, x, p, h, e => by simp only [D.py, Option.some.injEq] at e; simp only [RepD] at h; subst e h; exact .bl b
  | .int b, x, p, h, e => by simp only [D.py, Option.some.injEq] at e; simp only [RepD] at h; subst e h; exact .int b
  | .str b, x, p, h, e => by simp only [D.py, Option.some.injEq] at e; simp only [RepD] at h; subst e h; exact .str b
  | .tup ds, x, p, h, e => by
    simp only [D.py, Option.map_eq_some_iff] at e
    obtain ⟨ps, e, rfl⟩ := e
    simp only [RepD] at h
    obtain ⟨a, vs, rfl, q, r⟩ := h
    exact .tup (s.seqT q) (rep_dps s r e)
  | .lst ds, x, p, h, e => by
    simp only [D.py, Option.map_eq_some_iff] at e
    obtain ⟨ps, e, rfl⟩ := e
    simp only [RepD] at h
    obtain ⟨a, vs, rfl, q, r⟩ := h
    exact .lst (SqL.of (s _ _ q)) (rep_dps s r e)
  | .obj _ _, x, p, h, e => by simp [D.py] at e
  | .exo _ _, x, p, h, e => by simp [D.py] at e
  | .dct _, x, p, h, e => by simp [D.py] at e
  | .scr _, x, p, h, e => by simp [D.py] at e
theorem rep_dps {K : PySem.W.Frag} {Z H : Hp} (s : Sub Z H) : ∀ {ds : List D} {vs : List V} {ps : List PyData}, RepDs K Z ds vs → D.pys ds = some ps → DpAll K H vs ps
  | [], vs, ps, h, e => by
    simp only [D.pys, Option.some.injEq] at e
    simp only [RepDs] at h
    subst e h
    exact .nil
  | d :: ds, vs, ps, h, e => by
    simp only [D.pys] at e
    simp only [RepDs] at h
    obtain ⟨x, r, rfl, h1, h2⟩ := h
    split at e
    · rename_i e1 e2
      cases e
      exact .cons (rep_dp s h1 e1) (rep_dps s h2 e2)
    · cases e
end
theorem top_dp {K : PySem.W.Frag} {Z H : Hp} (s : Sub Z H) {d : D} {x : V} {p : PyData} (h : RepTop K Z H d x) (e : d.py = some p) : Dp K H x p := by
  rcases h with h | ⟨ds, a, vs, rfl, rfl, q, r⟩ | ⟨ds, a, vs, rfl, _⟩
  · exact rep_dp s h e
  · simp only [D.py, Option.map_eq_some_iff] at e
    obtain ⟨ps, e, rfl⟩ := e
    exact .lst (SqL.of q) (rep_dps s r e)
  · simp [D.py] at e
/-- none, a bool, an int, a text -/
def D.fl : D → Option V
  | .non => some .non
  | .bl b => some (.bl b)
  | .int i => some (.int i)
  | .str s => some (.str s)
  | _ => none
def fls : List D → Option (List V)
  | [] => some []
  | d :: r => match d.fl, fls r with
    | some x, some xs => some (x :: xs)
    | _, _ => none
theorem fl_rep {K : PySem.W.Frag} {Z : Hp} {d : D} {x y : V} (h : RepD K Z d x) (e : d.fl = some y) : x = y ∧ flatV y = true := by
  cases d <;> simp only [D.fl, Option.some.injEq] at e <;> (try cases e) <;> (simp only [RepD] at h; subst h; exact ⟨rfl, rfl⟩)
theorem fl_top {K : PySem.W.Frag} {Z H : Hp} {d : D} {x y : V} (h : RepTop K Z H d x) (e : d.fl = some y) : x = y ∧ flatV y = true := by
  rcases h with h | ⟨ds, a, vs, rfl, rfl, q, r⟩ | ⟨ds, a, vs, rfl, _⟩
  · exact fl_rep h e
  · simp [D.fl] at e
  · simp [D.fl] at e
theorem fls_rep {K : PySem.W.Frag} {Z : Hp} : ∀ {ds : List D} {vs ys : List V}, RepDs K Z ds vs → fls ds = some ys → vs = ys ∧ ys.all flatV = true
  | [], vs, ys, h, e => by
    simp only [fls, Option.some.injEq] at e
    simp only [RepDs] at h
    subst e h
    exact ⟨rfl, rfl⟩
  | d :: ds, vs, ys, h, e => by
    simp only [fls] at e
    simp only [RepDs] at h
    obtain ⟨x, r, rfl, h1, h2⟩ := h
    split at e
    · rename_i e1 e2
      cases e
      obtain ⟨a1, a2⟩ := fl_rep h1 e1
      obtain ⟨b1, b2⟩ := fls_rep h2 e2
      subst a1 b1
      exact ⟨rfl, by simp [a2, b2]⟩
    · cases e
def eqP (d e : D) : Option Bool := match d.py, e.py with
  | some a, some b => if SeqAt.shaped a && SeqAt.shaped b then some (PyData.eqv a b) else none
  | _, _ => none
def eqD (d e : D) : Option Bool := match d.fl, e.fl with
  | some x, some y => if scal x y then some (decide (x = y)) else eqP d e
  | _, _ => eqP d e
section
variable {X : Cx} {Z H : Hp} {d e : D} {x y : V} {b : Bool} {Q : VK}
theorem eq_rule (hu : X.A.units + 64 < cLine) (s : Sub Z H) (h1 : RepTop X.K Z H d x) (h2 : RepTop X.K Z H e y) (h : eqD d e = some b) (q : Q (.bl b) H) : oU X (compareOp .Eq) x y H Q := by
  have deep : eqP d e = some b → oU X (compareOp .Eq) x y H Q := fun h => by
    simp only [eqP] at h
    split at h
    · rename_i p1 p2 e1 e2
      split at h
      · rename_i hs
        cases h
        simp only [Bool.and_eq_true] at hs
        exact ⟨_, op_eqD hu, _, _, top_dp s h1 e1, top_dp s h2 e2, hs.1, hs.2, q⟩
      · cases h
    · cases h
  simp only [eqD] at h
  split at h
  · rename_i e1 e2
    obtain ⟨rfl, _⟩ := fl_top h1 e1
    obtain ⟨rfl, _⟩ := fl_top h2 e2
    split at h
    · rename_i hs
      cases h
      exact ⟨_, op_eq, hs, q⟩
    · exact deep h
  · exact deep h
theorem ne_rule (hu : X.A.units + 64 < cLine) (s : Sub Z H) (h1 : RepTop X.K Z H d x) (h2 : RepTop X.K Z H e y) (h : eqD d e = some b) (q : Q (.bl (!b)) H) : oU X (compareOp .NotEq) x y H Q := by
  have deep : eqP d e = some b → oU X (compareOp .NotEq) x y H Q := fun h => by
    simp only [eqP] at h
    split at h
    · rename_i p1 p2 e1 e2
      split at h
      · rename_i hs
        cases h
        simp only [Bool.and_eq_true] at hs
        exact ⟨_, op_neD hu, _, _, top_dp s h1 e1, top_dp s h2 e2, hs.1, hs.2, q⟩
      · cases h
    · cases h
  simp only [eqD] at h
  split at h
  · rename_i e1 e2
    obtain ⟨rfl, _⟩ := fl_top h1 e1
    obtain ⟨rfl, _⟩ := fl_top h2 e2
    split at h
    · rename_i hs
      cases h
      exact ⟨_, op_ne, hs, q⟩
    · exact deep h
  · exact deep h
def oB (o : Option Bool) : Option O := o.map fun b => .v () (.bl b)
def pEq : List D → Option O
  | [d, e] => oB (eqD d e)
  | _ => none
def pNe : List D → Option O
  | [d, e] => oB ((eqD d e).map not)
  | _ => none
theorem prim_eq (hu : X.A.units + 64 < cLine) : PrimOk X (r2 (oU X (compareOp .Eq))) pEq := by
  intro W Z H rs ds vs o Q g rv e q
  unfold pEq at e
  split at e
  · simp only [oB, Option.map_eq_some_iff] at e
    obtain ⟨b, e, rfl⟩ := e
    obtain ⟨x, y, rfl, hx, hy⟩ := tops2 rv
    exact eq_rule hu g.sub hx hy e (fin_v g (by simp [RepD]) q)
  · cases e
theorem prim_ne (hu : X.A.units + 64 < cLine) : PrimOk X (r2 (oU X (compareOp .NotEq))) pNe := by
  intro W Z H rs ds vs o Q g rv e q
  unfold pNe at e
  split at e
  · simp only [oB, Option.map_eq_some_iff] at e
    obtain ⟨b, ⟨b0, e, rfl⟩, rfl⟩ := e
    obtain ⟨x, y, rfl, hx, hy⟩ := tops2 rv
    exact ne_rule hu g.sub hx hy e (fin_v g (by simp [RepD]) q)
  · cases e

/-! ### in -/
def inD (d c : D) : Option Bool := match c with
  | .str z => (match d with
    | .str y => some (!(Builtin.Str.occurrences z y 0 z.length 1).isEmpty)
    | _ => none)
  | .lst cs => (match d.fl, fls cs with
    | some x, some xs => some (inV x xs)
    | _, _ => match d.py, D.pys cs with
      | some a, some bs => if SeqAt.shaped a && SeqAt.shaped (.list bs) then some (bs.any fun z => PyData.eqv z a) else none
      | _, _ => none)
  | .tup cs => (match d.fl, fls cs with
    | some x, some xs => some (inV x xs)
    | _, _ => none)
  | _ => none
theorem top_seq (s : Sub Z H) {ds : List D} (h : RepTop X.K Z H (.lst ds) y) : ∃ a vs, y = .ref a ∧ SqL X.K H a vs ∧ RepDs X.K Z ds vs := by
  obtain ⟨a, vs, rfl, q, r⟩ := h.lst s
  exact ⟨a, vs, rfl, SqL.of q, r⟩
theorem top_tup (s : Sub Z H) {ds : List D} (h : RepTop X.K Z H (.tup ds) y) : ∃ a vs, y = .ref a ∧ SqT X.K H a vs ∧ RepDs X.K Z ds vs := by
  have := h.v
  simp only [RepD] at this
  obtain ⟨a, vs, rfl, q, r⟩ := this
  exact ⟨a, vs, rfl, s.seqT q, r⟩
theorem in_rule (hu : X.A.units + 65 < cLine) (s : Sub Z H) (h1 : RepTop X.K Z H d x) (h2 : RepTop X.K Z H e y) (h : inD d e = some b) (neg : Bool) (q : Q (.bl (if neg then !b else b)) H) : oU X (compareOp (if neg then .NotIn else .In)) x y H Q := by
  have flat : ∀ {cs : List D} {x0 : V} {xs : List V} {a : Addr} {vs : List V}, (SqL X.K H a vs ∨ SqT X.K H a vs) → y = .ref a → RepDs X.K Z cs vs → d.fl = some x0 → fls cs = some xs → inV x0 xs = b → oU X (compareOp (if neg then .NotIn else .In)) x y H Q := by
    intro cs x0 xs a vs sq ey r e1 e2 eb
    obtain ⟨rfl, f1⟩ := fl_top h1 e1
    obtain ⟨rfl, f2⟩ := fls_rep r e2
    subst ey
    cases neg with
    | true => exact ⟨_, op_notIn_seq, a, vs, rfl, sq, f1, f2, by simpa [eb] using q⟩
    | false => exact ⟨_, op_in_seq, a, vs, rfl, sq, f1, f2, by simpa [eb] using q⟩
  unfold inD at h
  split at h
  · split at h
    · cases h
      cases h1.str; cases h2.str
      cases neg with
      | true => exact ⟨_, op_notIn_str, _, _, rfl, rfl, by simpa using q⟩
      | false => exact ⟨_, op_in_str, _, _, rfl, rfl, by simpa using q⟩
    · cases h
  · obtain ⟨a, vs, ey, sq, r⟩ := top_seq s h2
    split at h
    · rename_i e1 e2
      exact flat (.inl sq) ey r e1 e2 (Option.some.inj h)
    · split at h
      · rename_i p1 p2 e1 e2
        split at h
        · rename_i hs
          simp only [Bool.and_eq_true] at hs
          cases h
          subst ey
          cases neg with
          | true => exact ⟨_, op_notInD hu, _, _, top_dp s h1 e1, .lst sq (rep_dps s r e2), hs.1, hs.2, by simpa using q⟩
          | false => exact ⟨_, op_inD hu, _, _, top_dp s h1 e1, .lst sq (rep_dps s r e2), hs.1, hs.2, by simpa using q⟩
        · cases h
      · cases h
  · obtain ⟨a, vs, ey, sq, r⟩ := top_tup s h2
    split at h
    · rename_i e1 e2
      exact flat (.inr sq) ey r e1 e2 (Option.some.inj h)
    · cases h
  · cases h
def pIn : List D → Option O
  | [d, e] => oB (inD d e)
  | _ => none
def pNotIn : List D → Option O
  | [d, e] => oB ((inD d e).map not)
  | _ => none
theorem prim_in (hu : X.A.units + 65 < cLine) : PrimOk X (r2 (oU X (compareOp .In))) pIn := by
  intro W Z H rs ds vs o Q g rv e q
  unfold pIn at e
  split at e
  · simp only [oB, Option.map_eq_some_iff] at e
    obtain ⟨b, e, rfl⟩ := e
    obtain ⟨x, y, rfl, hx, hy⟩ := tops2 rv
    exact in_rule hu g.sub hx hy e false (fin_v g (by simp [RepD]) q)
  · cases e
theorem prim_notIn (hu : X.A.units + 65 < cLine) : PrimOk X (r2 (oU X (compareOp .NotIn))) pNotIn := by
  intro W Z H rs ds vs o Q g rv e q
  unfold pNotIn at e
  split at e
  · simp only [oB, Option.map_eq_some_iff] at e
    obtain ⟨b, ⟨b0, e, rfl⟩, rfl⟩ := e
    obtain ⟨x, y, rfl, hx, hy⟩ := tops2 rv
    exact in_rule hu g.sub hx hy e true (fin_v g (by simp [RepD]) q)
  · cases e
end
end EV

set_option Elab.async false
set_option linter.all false
set_option maxRecDepth 100000
set_option maxHeartbeats 4000000
namespace EV
open PySem PySem.Spec PyProof.Rows L2
section
variable {X : Cx} {Z H : Hp} {d e : D} {x y : V} {b : Bool} {Q : VK}

/-! ### new things -/
/-- a new list of frozen items | a new tuple -/
def newL (ds : List D) : O := .lst () (ds.map (.v ()))
def newT (ds : List D) : O := .v () (.tup ds)
theorem fin_l {W : Wld} {rs : List (Ow V)} {ds : List D} {vs : List V} {p : Addr} (g : Good W X.K Z H rs) (r : RepDs X.K Z ds vs) (hp : H p = none)
    (q : ∀ Z' H' oa, Sub Z Z' → Good W X.K Z' H' (oa :: rs) → oa.er = newL ds → Q oa.top H') : Q (.ref p) (upd H p (.lst vs)) :=
  q Z _ _ (Sub.refl _) (new_lst g r hp) (by simp only [Ow.er, Ow.ers_map, vOf_er r]; rfl)
theorem fin_t {W : Wld} {rs : List (Ow V)} {ds : List D} {vs : List V} {p : Addr} (g : Good W X.K Z H rs) (r : RepDs X.K Z ds vs) (hp : H p = none)
    (q : ∀ Z' H' oa, Sub Z Z' → Good W X.K Z' H' (oa :: rs) → oa.er = newT ds → Q oa.top H') : Q (.ref p) (upd H p (.tup vs)) := by
  obtain ⟨Z', s, g'⟩ := new_tup (X := X) g r hp
  exact q Z' _ _ s g' rfl
/-- a list or a tuple, or what a sequence holds -/
theorem top_any (s : Sub Z H) : (∃ ds, d = .lst ds ∧ RepTop X.K Z H d x) ∨ (∃ ds, d = .tup ds ∧ RepTop X.K Z H d x) → ∃ a ds vs, x = .ref a ∧ (d = .lst ds ∧ SqL X.K H a vs ∨ d = .tup ds ∧ SqT X.K H a vs) ∧ RepDs X.K Z ds vs := by
  rintro (⟨ds, rfl, h⟩ | ⟨ds, rfl, h⟩)
  · obtain ⟨a, vs, rfl, q, r⟩ := top_seq s h
    exact ⟨a, ds, vs, rfl, .inl ⟨rfl, q⟩, r⟩
  · obtain ⟨a, vs, rfl, q, r⟩ := top_tup s h
    exact ⟨a, ds, vs, rfl, .inr ⟨rfl, q⟩, r⟩

/-! ### arithmetic -/
def okMul (i j : Int) : Bool := decide ((Builtin.Int.intBits i : Int) + (Builtin.Int.intBits j : Int) ≤ 134217728)
def pSum : List D → Option O
  | [.int i, .int j] => some (.v () (.int (i + j)))
  | [.str i, .str j] => if i.length + j.length ≤ sizeLine then some (.v () (.str (i ++ j))) else none
  | [.tup i, .tup j] => if i.length + j.length ≤ sizeLine ∧ i ≠ [] then some (newT (i ++ j)) else none
  | [.lst i, .lst j] => if i.length + j.length ≤ sizeLine then some (newL (i ++ j)) else none
  | _ => none
theorem prim_sum : PrimOk X (r2 (oU X (binaryOp .Add))) pSum := by
  intro W Z H rs ds vs o Q g rv e q
  unfold pSum at e
  split at e
  · cases e
    obtain ⟨x, y, rfl, hx, hy⟩ := tops2 rv
    cases hx.int; cases hy.int
    exact ⟨_, op_add, _, _, rfl, rfl, fin_v g (by simp [RepD]) q⟩
  · split at e
    · cases e
      obtain ⟨x, y, rfl, hx, hy⟩ := tops2 rv
      cases hx.str; cases hy.str
      exact ⟨_, op_add_str, _, _, rfl, rfl, by assumption, fin_v g (by simp [RepD]) q⟩
    · cases e
  · split at e
    · rename_i i j hc
      cases e
      obtain ⟨x, y, rfl, hx, hy⟩ := tops2 rv
      obtain ⟨a, us, rfl, q1, r1⟩ := top_tup g.sub hx
      obtain ⟨b, ws, rfl, q2, r2⟩ := top_tup g.sub hy
      refine ⟨_, op_catT, a, b, us, ws, rfl, rfl, q1, q2, ?_, ?_, fun e => ?_, fun _ p hp => fin_t g (r1.app r2) hp q⟩
      · intro e; subst e
        have := r1.length
        exact hc.2 (List.length_eq_zero_iff.mp (by simpa using this.symm))
      · rw [r1.length, r2.length]; exact hc.1
      · subst e
        have := r2.length
        have ej : j = [] := List.length_eq_zero_iff.mp (by simpa using this.symm)
        subst ej
        refine fin_v (d := .tup i) g ?_ (fun Z' H' oa s g' eo => q Z' H' oa s g' (by rw [eo]; simp [newT]))
        have := hx.v
        exact this
    · cases e
  · split at e
    · rename_i i j hc
      cases e
      obtain ⟨x, y, rfl, hx, hy⟩ := tops2 rv
      obtain ⟨a, us, rfl, q1, r1⟩ := hx.lst g.sub
      obtain ⟨b, ws, rfl, q2, r2⟩ := hy.lst g.sub
      exact ⟨_, op_cat, a, b, us, ws, rfl, rfl, q1, q2, by rw [r1.length, r2.length]; exact hc, fun p hp => fin_l g (r1.app r2) hp q⟩
    · cases e
  · cases e
def pSub : List D → Option O
  | [.int i, .int j] => some (.v () (.int (i - j)))
  | _ => none
theorem prim_sub : PrimOk X (r2 (oU X (binaryOp .Sub))) pSub := by
  intro W Z H rs ds vs o Q g rv e q
  unfold pSub at e
  split at e
  · cases e
    obtain ⟨x, y, rfl, hx, hy⟩ := tops2 rv
    cases hx.int; cases hy.int
    exact ⟨_, op_sub, _, _, rfl, rfl, fin_v g (by simp [RepD]) q⟩
  · cases e
/-- a text times an int -/
def mulS (z : Str) (k : Int) : Str := if k < 1 then Str.empty else if (k == 1 || z.length == 0) = true then z else ⟨(List.replicate k.toNat z.cps).foldl (· ++ ·) #[]⟩
theorem foldA (z : Array Nat) : ∀ (k : Nat) (acc : Array Nat), ((List.replicate k z).foldl (· ++ ·) acc).size = acc.size + k * z.size
  | 0, acc => by simp
  | k + 1, acc => by
    rw [List.replicate_succ, List.foldl_cons, foldA z k (acc ++ z), Array.size_append, Nat.add_mul]
    omega
theorem op_mulS : OpR X (binaryOp .Mult) (fun x y H Q => ∃ z k, x = .str z ∧ y = .int k ∧ -1000000 ≤ k ∧ k ≤ 1000000 ∧ z.length * k.toNat ≤ sizeLine ∧ Q (.str (mulS z k)) H) := by
  intro pins s σ H x y v u Q I rx ry h
  obtain ⟨z, k, rfl, rfl, h1, h2, hz, q⟩ := h
  obtain ⟨t, rfl⟩ := rx
  obtain ⟨t', rfl⟩ := ry
  refine PySem.P.mul_str ?_ ?_ ?_ ?_
  · have a1 : ¬ k < -(2 ^ 63 : Int) := by omega
    have a2 : ¬ k ≥ 2 ^ 63 := by omega
    rw [decide_eq_false a1, decide_eq_false a2]; rfl
  · intro hk _ hgt
    have hk1 : 0 < k := by omega
    have hs : sizeLine ≤ 9223372036854775807 := by decide
    have e1 : ((z.length * k.toNat : Nat) : Int) = (z.length : Int) * k := by
      rw [Int.natCast_mul]
      congr 1
      omega
    have h5 : (z.length : Int) * k ≤ 2 ^ 63 - 1 := by
      rw [← e1]
      omega
    have := (Int.le_ediv_iff_mul_le hk1).mpr h5
    omega
  · intro _ _
    simp only [Builtin.Str.tooLong, decide_eq_false_iff_not]
    omega
  · unfold mulS at q
    split
    · rename_i c
      rw [if_pos c] at q
      exact ⟨by decide, .str Str.empty, H, I.tok _, ⟨_, rfl⟩, q⟩
    · rename_i c
      rw [if_neg c] at q
      split
      · rename_i c2
        rw [if_pos c2] at q
        exact ⟨.str z, H, I, ⟨_, rfl⟩, q⟩
      · rename_i c2
        rw [if_neg c2] at q
        refine ⟨?_, .str _, H, I.tok _, ⟨_, rfl⟩, q⟩
        have := foldA z.cps k.toNat #[]
        show ((List.replicate k.toNat z.cps).foldl (· ++ ·) #[]).size ≤ sizeLine
        rw [this, Nat.mul_comm]
        simpa [Str.length] using hz
def pMul : List D → Option O
  | [.int i, .int j] => if okMul i j then some (.v () (.int (i * j))) else none
  | [.str z, .int k] => if -1000000 ≤ k ∧ k ≤ 1000000 ∧ z.length * k.toNat ≤ sizeLine then some (.v () (.str (mulS z k))) else none
  | _ => none
theorem prim_mul : PrimOk X (r2 (oU X (binaryOp .Mult))) pMul := by
  intro W Z H rs ds vs o Q g rv e q
  unfold pMul at e
  split at e
  · split at e
    · rename_i hc
      cases e
      obtain ⟨x, y, rfl, hx, hy⟩ := tops2 rv
      cases hx.int; cases hy.int
      exact ⟨_, op_mulX, _, _, rfl, rfl, by simpa [okMul, CMulX] using hc, fin_v g (by simp [RepD]) q⟩
    · cases e
  · split at e
    · rename_i hc
      cases e
      obtain ⟨x, y, rfl, hx, hy⟩ := tops2 rv
      cases hx.str; cases hy.int
      exact ⟨_, op_mulS, _, _, rfl, rfl, hc.1, hc.2.1, hc.2.2, fin_v g (by simp [RepD]) q⟩
    · cases e
  · cases e
def pFdiv : List D → Option O
  | [.int i, .int j] => if 0 < j ∧ j < 1073741824 then some (.v () (.int (i / j))) else none
  | _ => none
theorem prim_fdiv : PrimOk X (r2 (oU X (binaryOp .FloorDiv))) pFdiv := by
  intro W Z H rs ds vs o Q g rv e q
  unfold pFdiv at e
  split at e
  · split at e
    · rename_i hc
      cases e
      obtain ⟨x, y, rfl, hx, hy⟩ := tops2 rv
      cases hx.int; cases hy.int
      exact ⟨_, op_fdiv, _, _, rfl, rfl, hc, fin_v g (by simp [RepD]) q⟩
    · cases e
  · cases e
def pMod : List D → Option O
  | [.int i, .int j] => if 0 < j then some (.v () (.int (i % j))) else none
  | _ => none
theorem prim_mod : PrimOk X (r2 (oU X (binaryOp .Mod))) pMod := by
  intro W Z H rs ds vs o Q g rv e q
  unfold pMod at e
  split at e
  · split at e
    · rename_i hc
      cases e
      obtain ⟨x, y, rfl, hx, hy⟩ := tops2 rv
      cases hx.int; cases hy.int
      exact ⟨_, op_mod, _, _, rfl, rfl, hc, fin_v g (by simp [RepD]) q⟩
    · cases e
  · cases e
def pPow : List D → Option O
  | [.int i, .int j] => if 0 ≤ j ∧ j ≤ 1000000 ∧ i.natAbs < 2 ^ 64 then some (.v () (.int (i ^ j.toNat))) else none
  | _ => none
theorem prim_pow : PrimOk X (r2 (oU X (binaryOp .Pow))) pPow := by
  intro W Z H rs ds vs o Q g rv e q
  unfold pPow at e
  split at e
  · split at e
    · rename_i hc
      cases e
      obtain ⟨x, y, rfl, hx, hy⟩ := tops2 rv
      cases hx.int; cases hy.int
      exact ⟨_, op_pow, _, _, rfl, rfl, hc, fin_v g (by simp [RepD]) q⟩
    · cases e
  · cases e
def pNeg : List D → Option O
  | [.int i] => some (.v () (.int (-i)))
  | _ => none
theorem prim_neg : PrimOk X (r1 (uU X (unaryOp .USub))) pNeg := by
  intro W Z H rs ds vs o Q g rv e q
  unfold pNeg at e
  split at e
  · cases e
    obtain ⟨x, rfl, hx⟩ := tops1 rv
    cases hx.int
    exact ⟨_, un_neg, _, rfl, fin_v g (by simp [RepD]) q⟩
  · cases e

/-! ### comparisons of ints -/
def pCmp (f : Int → Int → Bool) : List D → Option O
  | [.int i, .int j] => some (.v () (.bl (f i j)))
  | _ => none
theorem prim_cmp {op : CmpOp} {f : Int → Int → Bool} (ho : OpR X (compareOp op) (rI0 fun i j => .bl (f i j))) : PrimOk X (r2 (oU X (compareOp op))) (pCmp f) := by
  intro W Z H rs ds vs o Q g rv e q
  unfold pCmp at e
  split at e
  · cases e
    obtain ⟨x, y, rfl, hx, hy⟩ := tops2 rv
    cases hx.int; cases hy.int
    exact ⟨_, ho, _, _, rfl, rfl, fin_v g (by simp [RepD]) q⟩
  · cases e
def ltI (i j : Int) : Bool := decide (i < j)
def leI (i j : Int) : Bool := decide (i ≤ j)
def gtI (i j : Int) : Bool := decide (j < i)
def geI (i j : Int) : Bool := decide (j ≤ i)
theorem prim_lt : PrimOk X (r2 (oU X (compareOp .Lt))) (pCmp ltI) := prim_cmp op_lt
theorem prim_le : PrimOk X (r2 (oU X (compareOp .LtE))) (pCmp leI) := prim_cmp op_le
theorem prim_gt : PrimOk X (r2 (oU X (compareOp .Gt))) (pCmp gtI) := prim_cmp op_gt
theorem prim_ge : PrimOk X (r2 (oU X (compareOp .GtE))) (pCmp geI) := prim_cmp op_ge

/-! ### is -/
def isNon : D → Option Bool
  | .any => none
  | .non => some true
  | _ => some false
def isBl (b : Bool) : D → Option Bool
  | .any => none
  | .bl a => some (decide (a = b))
  | _ => some false
theorem top_ref {ds : List D} {fs : List (Str × D)} {ps : List (Key × D)} {c : Str} (h : RepTop X.K Z H d x) (hd : d = .tup ds ∨ d = .lst ds ∨ d = .obj c fs ∨ d = .exo c fs ∨ d = .dct ps) : ∃ a, x = .ref a := by
  rcases h with h | ⟨_, a, _, _, rfl, _⟩ | ⟨_, a, _, _, rfl, _⟩
  · rcases hd with rfl | rfl | rfl | rfl | rfl <;> simp only [RepD] at h
    · obtain ⟨a, _, rfl, _⟩ := h; exact ⟨a, rfl⟩
    · obtain ⟨a, _, rfl, _⟩ := h; exact ⟨a, rfl⟩
    · obtain ⟨a, _, _, rfl, _⟩ := h; exact ⟨a, rfl⟩
    · obtain ⟨a, rfl, _⟩ := h; exact ⟨a, rfl⟩
    · obtain ⟨a, _, rfl, _⟩ := h; exact ⟨a, rfl⟩
  · exact ⟨a, rfl⟩
  · exact ⟨a, rfl⟩
theorem top_shape (h : RepTop X.K Z H d x) : match d with
    | .any => True
    | .non => x = .non
    | .bl b => x = .bl b
    | .int i => x = .int i
    | .str s => x = .str s
    | _ => ∃ a, x = .ref a := by
  cases d with
  | any => trivial
  | non => exact h.non
  | bl b => exact h.bl
  | int i => exact h.int
  | str s => exact h.str
  | tup ds => exact top_ref (ds := ds) (fs := []) (ps := []) (c := "") h (.inl rfl)
  | lst ds => exact top_ref (ds := ds) (fs := []) (ps := []) (c := "") h (.inr (.inl rfl))
  | obj c fs => exact top_ref (ds := []) (fs := fs) (ps := []) (c := c) h (.inr (.inr (.inl rfl)))
  | exo c fs => exact top_ref (ds := []) (fs := fs) (ps := []) (c := c) h (.inr (.inr (.inr (.inl rfl))))
  | dct ps => exact top_ref (ds := []) (fs := []) (ps := ps) (c := "") h (.inr (.inr (.inr (.inr rfl))))
  | scr ds =>
    have := h.v
    simp only [RepD] at this
    obtain ⟨a, _, rfl, _⟩ := this
    exact ⟨a, rfl⟩
theorem isNon_rep (h : RepTop X.K Z H d x) (e : isNon d = some b) : decide (x = .non) = b := by
  have := top_shape h
  cases d <;> simp only [isNon, Option.some.injEq] at e <;> (try cases e) <;> (first | (obtain ⟨a, rfl⟩ := this; rfl) | (subst this; rfl))
theorem op_isBX (bb : Bool) : OpR X (compareOp .Is) (fun x y H Q => y = .bl bb ∧ (∀ a, x ≠ .ty a) ∧ Q (.bl (decide (x = .bl bb))) H) := by
  intro pins s σ H x y v u Q I rx ry h
  obtain ⟨rfl, nt, q⟩ := h
  cases (show u = Value.bool bb from ry)
  cases x with
  | bl a =>
    cases (show v = Value.bool a from rx)
    by_cases e : a = bb
    · subst e
      exact wpAny_is_self rfl ⟨.bl true, H, I, rfl, by simpa using q⟩
    · exact wpAny_is_other rfl (fun z => e (Value.bool.inj z)) ⟨.bl false, H, I, rfl, by simpa [e] using q⟩
  | non => cases (show v = Value.none from rx); exact wpAny_is_other rfl (fun z => nomatch z) ⟨.bl false, H, I, rfl, by simpa using q⟩
  | int i => obtain ⟨t, rfl⟩ := rx; exact wpAny_is_other rfl (fun z => nomatch z) ⟨.bl false, H, I, rfl, by simpa using q⟩
  | str i => obtain ⟨t, rfl⟩ := rx; exact wpAny_is_other rfl (fun z => nomatch z) ⟨.bl false, H, I, rfl, by simpa using q⟩
  | byt i => obtain ⟨t, rfl⟩ := rx; exact wpAny_is_other rfl (fun z => nomatch z) ⟨.bl false, H, I, rfl, by simpa using q⟩
  | flt i => obtain ⟨t, rfl⟩ := rx; exact wpAny_is_other rfl (fun z => nomatch z) ⟨.bl false, H, I, rfl, by simpa using q⟩
  | ref a => cases (show v = Value.ref a from rx); exact wpAny_is_other rfl (fun z => nomatch z) ⟨.bl false, H, I, rfl, by simpa using q⟩
  | ty a => exact absurd rfl (nt a)
theorem isBl_rep {bb : Bool} (h : RepTop X.K Z H d x) (e : isBl bb d = some b) : decide (x = .bl bb) = b ∧ ∀ a, x ≠ .ty a := by
  have := top_shape h
  cases d <;> simp only [isBl, Option.some.injEq] at e <;> (try cases e) <;> (first | (obtain ⟨a, rfl⟩ := this; exact ⟨rfl, fun _ z => nomatch z⟩) | (rw [this]; exact ⟨by simp, fun _ z => nomatch z⟩))
def pIs : List D → Option O
  | [d, .non] => oB (isNon d)
  | [d, .bl b] => oB (isBl b d)
  | _ => none
def pIsNot : List D → Option O
  | [d, .non] => oB ((isNon d).map not)
  | _ => none
theorem prim_is : PrimOk X (r2 (oU X (compareOp .Is))) pIs := by
  intro W Z H rs ds vs o Q g rv e q
  unfold pIs at e
  split at e
  · simp only [oB, Option.map_eq_some_iff] at e
    obtain ⟨b, e, rfl⟩ := e
    obtain ⟨x, y, rfl, hx, hy⟩ := tops2 rv
    cases hy.non
    exact ⟨_, op_isN, rfl, by rw [isNon_rep hx e]; exact fin_v g (by simp [RepD]) q⟩
  · simp only [oB, Option.map_eq_some_iff] at e
    obtain ⟨b, e, rfl⟩ := e
    obtain ⟨x, y, rfl, hx, hy⟩ := tops2 rv
    cases hy.bl
    obtain ⟨e1, e2⟩ := isBl_rep hx e
    exact ⟨_, op_isBX _, rfl, e2, by rw [e1]; exact fin_v g (by simp [RepD]) q⟩
  · cases e
theorem prim_isNot : PrimOk X (r2 (oU X (compareOp .IsNot))) pIsNot := by
  intro W Z H rs ds vs o Q g rv e q
  unfold pIsNot at e
  split at e
  · simp only [oB, Option.map_eq_some_iff] at e
    obtain ⟨b, ⟨b0, e, rfl⟩, rfl⟩ := e
    obtain ⟨x, y, rfl, hx, hy⟩ := tops2 rv
    cases hy.non
    exact ⟨_, op_notN, rfl, by rw [isNon_rep hx e]; exact fin_v g (by simp [RepD]) q⟩
  · cases e

/-! ### len, subscripts, slices -/
def lenD : D → Option Nat
  | .str z => if z.length ≤ sizeLine then some z.length else none
  | .tup ds => some ds.length
  | .lst ds => some ds.length
  | _ => none
def pLen : List D → Option O
  | [d] => (lenD d).map fun (n : Nat) => .v () (.int (n : Int))
  | _ => none
theorem prim_len : PrimOk X (cU X (.builtin "len")) pLen := by
  intro W Z H rs ds vs o Q g rv e q
  unfold pLen at e
  split at e
  · rename_i d
    simp only [Option.map_eq_some_iff] at e
    obtain ⟨n, e, rfl⟩ := e
    obtain ⟨x, rfl, hx⟩ := tops1 rv
    refine ⟨_, call_len, x, n, rfl, ?_, fin_v g (by simp [RepD]) q⟩
    cases d <;> simp only [lenD, Option.some.injEq] at e <;> (try cases e)
    · split at e
      · cases e
        cases hx.str
        exact ⟨by assumption, rfl⟩
      · cases e
    · obtain ⟨a, vs, rfl, q1, r1⟩ := top_tup g.sub hx
      exact .inr ⟨vs, q1, r1.length.symm⟩
    · obtain ⟨a, vs, rfl, q1, r1⟩ := top_seq g.sub hx
      exact .inl ⟨vs, q1, r1.length.symm⟩
  · cases e
def ixD (d i : D) : Option D := match d, i with
  | .lst xs, .int i => atI xs i
  | .tup xs, .int i => atI xs i
  | .str z, .int i => if z.length ≤ sizeLine then (atI z.cps.toList i).map fun c => .str ⟨#[c]⟩ else none
  | _, _ => none
def pIx : List D → Option O
  | [d, i] => (ixD d i).map (.v ())
  | _ => none
theorem atI_rep {K : PySem.W.Frag} {ds : List D} {vs : List V} {i : Int} (r : RepDs K Z ds vs) (h : atI ds i = some d) : ∃ v, atI vs i = some v ∧ RepD K Z d v := by
  unfold atI at h ⊢
  rw [r.length]
  cases e : ixN ds.length i with
  | none => rw [e] at h; simp at h
  | some j =>
    rw [e] at h
    simp only [Option.bind_some] at h ⊢
    exact r.get h
theorem prim_ix : PrimOk X (r2 (iU X)) pIx := by
  intro W Z H rs ds vs o Q g rv e q
  unfold pIx at e
  split at e
  · rename_i d i
    simp only [Option.map_eq_some_iff] at e
    obtain ⟨n, e, rfl⟩ := e
    obtain ⟨x, y, rfl, hx, hy⟩ := tops2 rv
    unfold ixD at e
    split at e
    · cases hy.int
      obtain ⟨a, vs, rfl, q1, r1⟩ := top_seq g.sub hx
      obtain ⟨v, e1, r2⟩ := atI_rep r1 e
      exact ⟨_, ix_list, a, vs, _, v, rfl, rfl, q1, e1, fin_v g r2 q⟩
    · cases hy.int
      obtain ⟨a, vs, rfl, q1, r1⟩ := top_tup g.sub hx
      obtain ⟨v, e1, r2⟩ := atI_rep r1 e
      exact ⟨_, ix_tup, a, vs, _, v, rfl, rfl, q1, e1, fin_v g r2 q⟩
    · split at e
      · cases hy.int; cases hx.str
        simp only [Option.map_eq_some_iff] at e
        obtain ⟨c, e, rfl⟩ := e
        exact ⟨_, ix_str, _, _, c, rfl, rfl, by assumption, e, fin_v g (by simp [RepD]) q⟩
      · cases e
    · cases e
  · cases e
/-- the items of xs[lo:hi] -/
def cutD {α : Type} (xs : List α) (lo hi : Option Int) : List α := (xs.drop (HT.sIx xs.length 0 lo)).take (HT.sIx xs.length xs.length hi - HT.sIx xs.length 0 lo)
theorem RepDs.drop {K : PySem.W.Frag} : ∀ {ds : List D} {vs : List V} (n : Nat), RepDs K Z ds vs → RepDs K Z (ds.drop n) (vs.drop n)
  | ds, vs, 0, h => by simpa using h
  | [], vs, n + 1, h => by simp only [RepDs] at h; subst h; simp [RepDs]
  | d :: ds, vs, n + 1, h => by
    simp only [RepDs] at h
    obtain ⟨x, r, rfl, h1, h2⟩ := h
    simpa using RepDs.drop n h2
theorem RepDs.take {K : PySem.W.Frag} : ∀ {ds : List D} {vs : List V} (n : Nat), RepDs K Z ds vs → RepDs K Z (ds.take n) (vs.take n)
  | ds, vs, 0, h => by simp [RepDs]
  | [], vs, n + 1, h => by simp only [RepDs] at h; subst h; simp [RepDs]
  | d :: ds, vs, n + 1, h => by
    simp only [RepDs] at h
    obtain ⟨x, r, rfl, h1, h2⟩ := h
    simp only [List.take_succ_cons, RepDs]
    exact ⟨x, _, rfl, h1, RepDs.take n h2⟩
theorem cut_rep {K : PySem.W.Frag} {ds : List D} {vs : List V} {lo hi : Option Int} (r : RepDs K Z ds vs) : RepDs K Z (cutD ds lo hi) (cutV vs lo hi) := by
  unfold cutD cutV
  rw [r.length]
  exact (r.drop _).take _
def slD (d : D) (lo hi : Option Int) : Option O := match d with
  | .lst xs => some (newL (cutD xs lo hi))
  | .tup xs => some (newT (cutD xs lo hi))
  | .str z => if z.length ≤ sizeLine then some (.v () (.str (Txt.slice z lo hi))) else none
  | _ => none
theorem sIx_whole (n : Nat) {α : Type} (xs : List α) {lo hi : Option Int} (h : HT.sIx xs.length 0 lo = 0 ∧ HT.sIx xs.length xs.length hi = xs.length) : cutD xs lo hi = xs := by
  unfold cutD
  rw [h.1, h.2]
  simp
theorem slD_ok {W : Wld} {rs : List (Ow V)} {lo hi : Option Int} {o : O} (g : Good W X.K Z H rs) (hx : RepTop X.K Z H d x) (e : slD d lo hi = some o) (q : ∀ Z' H' oa, Sub Z Z' → Good W X.K Z' H' (oa :: rs) → oa.er = o → Q oa.top H') : sU X x lo hi H Q := by
  unfold slD at e
  split at e
  · cases e
    obtain ⟨a, vs, rfl, q1, r1⟩ := top_seq g.sub hx
    exact ⟨_, sl_list, a, vs, rfl, q1, fun p hp => fin_l g (cut_rep r1) hp q⟩
  · rename_i xs
    cases e
    obtain ⟨a, vs, rfl, q1, r1⟩ := top_tup g.sub hx
    refine ⟨_, sl_tupA, a, vs, rfl, q1, fun hw => ?_, fun _ p hp => fin_t g (cut_rep r1) hp q⟩
    rw [r1.length] at hw
    refine fin_v (d := .tup xs) g hx.v fun Z' H' oa s g' eo => q Z' H' oa s g' ?_
    rw [eo, sIx_whole 0 xs hw]; rfl
  · split at e
    · cases e
      cases hx.str
      exact ⟨_, C8.sl_txt, _, rfl, by assumption, fin_v g (by simp [RepD]) q⟩
    · cases e
  · cases e
def optI : Option D → Option (Option Int)
  | none => some none
  | some (.int i) => some (some i)
  | _ => none
def pSl (b1 b2 : Bool) : List D → Option O := fun ds => match b1, b2, ds with
  | false, false, [d] => slD d none none
  | true, false, [d, .int i] => slD d (some i) none
  | false, true, [d, .int j] => slD d none (some j)
  | true, true, [d, .int i, .int j] => slD d (some i) (some j)
  | _, _, _ => none
def rSl (X : Cx) (b1 b2 : Bool) : List V → Hp → VK → Prop := fun vs H Q => match b1, b2, vs with
  | false, false, [x] => sU X x none none H Q
  | true, false, [x, y] => ∃ i, y = .int i ∧ sU X x (some i) none H Q
  | false, true, [x, y] => ∃ i, y = .int i ∧ sU X x none (some i) H Q
  | true, true, [x, y, z] => ∃ i j, y = .int i ∧ z = .int j ∧ sU X x (some i) (some j) H Q
  | _, _, _ => False
theorem prim_sl {b1 b2 : Bool} : PrimOk X (rSl X b1 b2) (pSl b1 b2) := by
  intro W Z H rs ds vs o Q g rv e q
  unfold pSl at e
  split at e
  · obtain ⟨x, rfl, hx⟩ := tops1 rv
    exact slD_ok g hx e q
  · obtain ⟨x, y, rfl, hx, hy⟩ := tops2 rv
    exact ⟨_, hy.int, slD_ok g hx e q⟩
  · obtain ⟨x, y, rfl, hx, hy⟩ := tops2 rv
    exact ⟨_, hy.int, slD_ok g hx e q⟩
  · simp only [RepTops] at rv
    obtain ⟨x, _, rfl, hx, y, _, rfl, hy, z, _, rfl, hz, rfl⟩ := rv
    exact ⟨_, _, hy.int, hz.int, slD_ok g hx e q⟩
  · cases e
variable {ea lo hi : Expr} {pos p2 : Pos}
theorem sh_sl00 : ∀ σ H Q, seqU X [ea] σ H (fun vs H' => rSl X false false vs H' Q) → tU X (.Subscript ea (.Slice none none none p2) pos) σ H Q := fun σ H Q h => ⟨_, pe_slice sl_U pe_U po_none po_none, h⟩
theorem sh_sl10 : ∀ σ H Q, seqU X [ea, lo] σ H (fun vs H' => rSl X true false vs H' Q) → tU X (.Subscript ea (.Slice (some lo) none none p2) pos) σ H Q := fun σ H Q h => ⟨_, pe_slice sl_U pe_U (po_some pe_U) po_none, h⟩
theorem sh_sl01 : ∀ σ H Q, seqU X [ea, hi] σ H (fun vs H' => rSl X false true vs H' Q) → tU X (.Subscript ea (.Slice none (some hi) none p2) pos) σ H Q := fun σ H Q h => ⟨_, pe_slice sl_U pe_U po_none (po_some pe_U), h⟩
theorem pe_slice2 {te tl th : TE} (he : PE X ea te) (hl : PE X lo tl) (hu : PE X hi th) : PE X (.Subscript ea (.Slice (some lo) (some hi) none p2) pos) (fun σ H Q => te σ H fun x H1 => tl σ H1 fun y H2 => th σ H2 fun z H3 => ∃ i j, y = .int i ∧ z = .int j ∧ sU X x (some i) (some j) H3 Q) := by
  constructor
  intro pins s σ H Q I h
  refine Subscript_ (thn (he.run pins s σ H _ I h) fun v s1 ⟨x, Ha, Ia, ra, qa⟩ => wpAny_Slice ?_)
  rw [evalPart_some, evalPart_some]
  refine thn (hl.run pins s1 σ Ha _ Ia qa) fun vl s2 ⟨y, Hb, Ib, rb, qb⟩ => thn (hu.run pins s2 σ Hb _ Ib qb) fun vu s3 ⟨z, Hc, Ic, rc, i, j, ey, ez, r, hr, q⟩ => ?_
  subst ey ez
  obtain ⟨ti, rfl⟩ := rb
  obtain ⟨tj, rfl⟩ := rc
  rw [evalPart_none]
  refine wpAny_pure ?_
  have I4 : Inv X pins σ Hc { s3 with heap := s3.heap.push { cls := .type "slice", data := .fields #[.int i ti, .int j tj, .none] } } := Ic.kept (t' := s3.toks) fun b ob q => Heap.get?_push_of_some _ q
  obtain ⟨T, id, hT, ht, hg⟩ := hr pins { s3 with heap := s3.heap.push { cls := .type "slice", data := .fields #[.int i ti, .int j tj, .none] } } σ Hc x v (.int i ti) (.int j tj) (some i) (some j) s3.heap.objs.size Q I4 ra (Heap.IsSliceOf.new ..) (.int i ti) (.int j tj) q
  exact tail_any (ops := [.ref s3.heap.objs.size, v]) ht hT hg (by with_unfolding_all rfl)
theorem sh_sl11 : ∀ σ H Q, seqU X [ea, lo, hi] σ H (fun vs H' => rSl X true true vs H' Q) → tU X (.Subscript ea (.Slice (some lo) (some hi) none p2) pos) σ H Q := fun σ H Q h => ⟨_, pe_slice2 pe_U pe_U pe_U, h⟩
end
end EV

set_option Elab.async false
set_option linter.all false
set_option maxRecDepth 100000
set_option maxHeartbeats 4000000
namespace EV
open PySem PySem.Spec PyProof.Rows L2
section
variable {X : Cx} {P : Pc} {Z H : Hp} {d : D} {x y : V} {b : Bool} {Q : VK}

/-! ### isinstance -/
def tyN : D → Option String
  | .non => some "NoneType"
  | .bl _ => some "bool"
  | .int _ => some "int"
  | .str _ => some "str"
  | .tup _ => some "tuple"
  | .lst _ => some "list"
  | .dct _ => some "dict"
  | _ => none
theorem seqT_ty {K : PySem.W.Frag} {H : Hp} {a : Addr} {xs : List V} (h : SqT K H a xs) : TyX K H (.ref a) (.type "tuple") := by
  rcases h with (h | ⟨o, h⟩) | ⟨o, its, n, h, c, _⟩
  · exact .base (.tup h)
  · exact .fTuple h
  · exact .kTuple h c
theorem ty_rep {n : String} (s : Sub Z H) (h : RepTop X.K Z H d x) (e : tyN d = some n) : TyX X.K H x (.type n) := by
  cases d <;> simp only [tyN, Option.some.injEq] at e <;> (try cases e)
  · cases h.non; exact .base .non
  · cases h.bl; exact .base (.bl _)
  · cases h.int; exact .base (.int _)
  · cases h.str; exact .base (.str _)
  · obtain ⟨a, vs, rfl, q, _⟩ := top_tup s h; exact seqT_ty q
  · obtain ⟨a, vs, rfl, q, _⟩ := h.lst s; exact .base (.lst q)
  · obtain ⟨a, vs, rfl, q, _⟩ := h.dct s; exact .base (.dK q)
/-- what the classes of the package must say for isinstance -/
structure InsTy (K : PySem.W.Frag) (C : Addr) : Prop where
  cl : Cls K C
  ha : PySem.W.findIn K (.ref C) "__class__" = some (some (.builtin "object.__class__"))
  hn : PySem.W.specialIn K (.builtin "object.__class__") "__get__" = some (some (.builtin "getset_descriptor.__get__"))
  htk : PySem.W.takesIn K (.builtin "object.__class__") = some true
  hm : PySem.W.mroIn K C (.type "object") = some true
/-- the answers: by the built-in type, by the own class -/
def isiD (ans : String → Option Bool) (own : Str → Option Bool) : D → Option Bool
  | .obj c _ => own c
  | d => (tyN d).bind ans
def pIsi (ans : String → Option Bool) (own : Str → Option Bool) : List D → Option O
  | [d] => oB (isiD ans own d)
  | _ => none
structure AnsOk (K : PySem.W.Frag) (us : List Value) (ans : String → Option Bool) (own : Str → Option Bool) : Prop where
  ans : ∀ n b, ans n = some b → PySem.W.kitAny K (.type n) us = some b
  own : ∀ c b, own c = some b → InsTy K (He.ga K c) ∧ PySem.W.kitAny K (.ref (He.ga K c)) us = some b
theorem isi_ty {us : List Value} {ans : String → Option Bool} {own : Str → Option Bool} (A : AnsOk X.K us ans own) (s : Sub Z H) (h : RepTop X.K Z H d x) (e : isiD ans own d = some b) : ∃ t, TyX X.K H x t ∧ PySem.W.kitAny X.K t us = some b := by
  have plain : (tyN d).bind ans = some b → ∃ t, TyX X.K H x t ∧ PySem.W.kitAny X.K t us = some b := fun e => by
    obtain ⟨n, e1, e2⟩ := Option.bind_eq_some_iff.mp e
    exact ⟨_, ty_rep s h e1, A.ans n b e2⟩
  cases d with
  | obj c fs =>
    obtain ⟨I, k⟩ := A.own c b e
    have := h.v
    simp only [RepD] at this
    obtain ⟨a, dx, fv, rfl, q, _⟩ := this
    exact ⟨_, .base (.ins (s _ _ q) I.cl I.ha I.hn I.htk I.hm), k⟩
  | _ => exact plain e
/-- isinstance(e, T) -/
def rIsi1 (K : PySem.W.Frag) (u : Value) : V → Hp → VK → Prop := fun x H Q => ∃ t b, TyX K H x t ∧ PySem.W.kitOne K t u = some b ∧ Q (.bl b) H
theorem kit_one {K : PySem.W.Frag} {t u : Value} {b : Bool} (h : PySem.W.kitAny K t [u] = some b) : PySem.W.kitOne K t u = some b := by
  unfold PySem.W.kitAny at h
  cases e : PySem.W.kitOne K t u with
  | none => rw [e] at h; cases h
  | some c =>
    rw [e] at h
    cases c with
    | true => exact h
    | false => simpa [PySem.W.kitAny] using h
theorem prim_isi {u : Value} {ans : String → Option Bool} {own : Str → Option Bool} (A : AnsOk X.K [u] ans own) : PrimOk X (r1 (rIsi1 X.K u)) (pIsi ans own) := by
  intro W Z H rs ds vs o Q g rv e q
  unfold pIsi at e
  split at e
  · simp only [oB, Option.map_eq_some_iff] at e
    obtain ⟨b, e, rfl⟩ := e
    obtain ⟨x, rfl, hx⟩ := tops1 rv
    obtain ⟨t, h1, h2⟩ := isi_ty A g.sub hx e
    exact ⟨t, b, h1, kit_one h2, fin_v g (by simp [RepD]) q⟩
  · cases e
variable {p pos tpos : Pos} {e ec : Expr} {v : V} {u : Value}
theorem sh_isi (hg : Gl X "isinstance") (hm : X.mg "isinstance" = none) (hc : PE X ec (tC v)) (hv : ClsV v u)
    (h1 : starEach [e, ec] X.env = (false, eval e X.env) :: starEach [ec] X.env := by rfl) (h0 : starEach [ec] X.env = (false, eval ec X.env) :: starEach [] X.env := by rfl) (h2 : (backTo pos (starEach [ec] X.env)).any (·.1) = false := by rfl) :
    ∀ σ H Q, seqU X [e] σ H (fun vs H' => r1 (rIsi1 X.K u) vs H' Q) → tU X (.Call (.Name "isinstance" p) [e, ec] [] pos) σ H Q := by
  intro σ H Q h
  refine ⟨_, pe_callB (call_isi (X := X)) hg hm PyProof.Rows.boot_isinstance (pa_cons pe_U (pa_cons hc pa_nil h0) h1) (by decide) (by decide) h1 h2, ?_⟩
  obtain ⟨t, ht, q⟩ := h
  refine ⟨_, PE.mono ht, _, q, fun x H1 ⟨t, b, h1, h2, q⟩ => ?_⟩
  exact ⟨x, v, t, u, b, rfl, hv, h1, h2, q⟩
/-- isinstance(e, (T, ..)) -/
def rIsiN (K : PySem.W.Frag) (cs : List V) (us : List Value) : V → Hp → VK → Prop := fun x H Q => ∀ T, H T = none → ∃ t b, TyX K (upd H T (.tup cs)) x t ∧ PySem.W.kitAny K t us = some b ∧ Q (.bl b) (upd H T (.tup cs))
theorem RepTop.upd {K : PySem.W.Frag} {T : Addr} {o : HO} (hT : H T = none) (h : RepTop K Z H d x) : RepTop K Z (upd H T o) d x := by
  rcases h with h | ⟨ds, a, vs, e1, e2, q, r⟩ | ⟨ds, a, vs, e1, e2, q, r⟩
  · exact .inl h
  · exact .inr (.inl ⟨ds, a, vs, e1, e2, by rw [upd_ne (ne_of_none q hT)]; exact q, r⟩)
  · exact .inr (.inr ⟨ds, a, vs, e1, e2, by rw [upd_ne (ne_of_none q hT)]; exact q, r⟩)
theorem prim_isiN {cs : List V} {us : List Value} {ans : String → Option Bool} {own : Str → Option Bool} (A : AnsOk X.K us ans own) : PrimOk X (r1 (rIsiN X.K cs us)) (pIsi ans own) := by
  intro W Z H rs ds vs o Q g rv e q
  unfold pIsi at e
  split at e
  · simp only [oB, Option.map_eq_some_iff] at e
    obtain ⟨b, e, rfl⟩ := e
    obtain ⟨x, rfl, hx⟩ := tops1 rv
    intro T hT
    have g2 := g.upd (o := .tup cs) hT
    obtain ⟨t, h1, h2⟩ := isi_ty A g2.sub (hx.upd hT) e
    exact ⟨t, b, h1, h2, fin_v g2 (by simp [RepD]) q⟩
  · cases e
theorem sh_isiN {k : Nat} {ecs : List Expr} {tc : TA} {cs : List V} {us : List Value} (hg : Gl X "isinstance") (hm : X.mg "isinstance" = none) (hc : PA X ecs tc) (hcv : ∀ σ H (Q : List V → Hp → Prop), Q cs H → tc σ H Q) (hl : cs.length ≤ 100) (hv : Paired ClsV cs us)
    (h1 : starEach [e, .Tuple ecs k tpos] X.env = (false, eval e X.env) :: starEach [.Tuple ecs k tpos] X.env := by rfl) (h0 : starEach [.Tuple ecs k tpos] X.env = (false, eval (.Tuple ecs k tpos) X.env) :: starEach [] X.env := by rfl) (h2 : (backTo pos (starEach [.Tuple ecs k tpos] X.env)).any (·.1) = false := by rfl) :
    ∀ σ H Q, seqU X [e] σ H (fun vs H' => r1 (rIsiN X.K cs us) vs H' Q) → tU X (.Call (.Name "isinstance" p) [e, .Tuple ecs k tpos] [] pos) σ H Q := by
  intro σ H Q h
  refine ⟨_, pe_callB (call_isiT (X := X)) hg hm PyProof.Rows.boot_isinstance (pa_cons pe_U (pa_cons (pe_tup hc) pa_nil h0) h1) (by decide) (by decide) h1 h2, ?_⟩
  obtain ⟨t, ht, q⟩ := h
  refine ⟨_, PE.mono ht, _, q, fun x H1 q => ?_⟩
  refine hcv σ H1 _ ⟨by have : (100 : Nat) ≤ sizeLine := by decide
                        omega, fun T hT => ?_⟩
  obtain ⟨t, b, h1, h2, q⟩ := q T hT
  exact ⟨x, T, cs, t, us, b, rfl, upd_same, hv, h1, h2, q⟩

/-! ### conversions -/
def pStr : List D → Option O
  | [.int i] => if i.natAbs.log2 < 1920 then some (.v () (.str (toString i))) else none
  | [.str a] => some (.v () (.str a))
  | _ => none
theorem prim_str : PrimOk X (cU X (.type "str")) pStr := by
  intro W Z H rs ds vs o Q g rv e q
  unfold pStr at e
  split at e
  · split at e
    · cases e
      obtain ⟨x, rfl, hx⟩ := tops1 rv
      cases hx.int
      exact ⟨_, call_str_int, _, rfl, by assumption, fin_v g (by simp [RepD]) q⟩
    · cases e
  · cases e
    obtain ⟨x, rfl, hx⟩ := tops1 rv
    cases hx.str
    exact ⟨_, SkE.call_str_str, _, rfl, fin_v g (by simp [RepD]) q⟩
  · cases e
def pInt : List D → Option O
  | [.int i] => some (.v () (.int i))
  | [.bl k] => some (.v () (.int (if k then 1 else 0)))
  | [.str a] => if a.length ≤ 640 then (PySem.intText? a).map fun n => .v () (.int n) else none
  | _ => none
theorem prim_int : PrimOk X (cU X (.type "int")) pInt := by
  intro W Z H rs ds vs o Q g rv e q
  unfold pInt at e
  split at e
  · cases e
    obtain ⟨x, rfl, hx⟩ := tops1 rv
    cases hx.int
    exact ⟨_, call_int1, .inl ⟨_, rfl, fin_v g (by simp [RepD]) q⟩⟩
  · cases e
    obtain ⟨x, rfl, hx⟩ := tops1 rv
    cases hx.bl
    exact ⟨_, call_int1, .inr ⟨_, rfl, fin_v g (by simp [RepD]) q⟩⟩
  · split at e
    · simp only [Option.map_eq_some_iff] at e
      obtain ⟨n, e, rfl⟩ := e
      obtain ⟨x, rfl, hx⟩ := tops1 rv
      cases hx.str
      exact ⟨_, call_int_str, _, n, rfl, e, by assumption, fin_v g (by simp [RepD]) q⟩
    · cases e
  · cases e
def pTuple : List D → Option O
  | [.lst ds] => some (newT ds)
  | [.tup ds] => some (newT ds)
  | _ => none
theorem prim_tuple : PrimOk X (cU X (.type "tuple")) pTuple := by
  intro W Z H rs ds vs o Q g rv e q
  unfold pTuple at e
  split at e
  · cases e
    obtain ⟨x, rfl, hx⟩ := tops1 rv
    obtain ⟨a, vs, rfl, q1, r1⟩ := top_seq g.sub hx
    exact ⟨_, call_tuple_of, a, vs, rfl, .inl ⟨q1, fun l hl => fin_t g r1 hl q⟩⟩
  · rename_i ds
    cases e
    obtain ⟨x, rfl, hx⟩ := tops1 rv
    obtain ⟨a, vs, rfl, q1, r1⟩ := top_tup g.sub hx
    exact ⟨_, call_tuple_of, a, vs, rfl, .inr ⟨q1, fin_v (d := .tup ds) g hx.v q⟩⟩
  · cases e
def pList : List D → Option O
  | [.lst ds] => some (newL ds)
  | [.scr ds] => some (newL ds)
  | [.tup ds] => some (newL ds)
  | _ => none
theorem prim_list : PrimOk X (cU X (.type "list")) pList := by
  intro W Z H rs ds vs o Q g rv e q
  unfold pList at e
  split at e
  rotate_left
  · cases e
    obtain ⟨x, rfl, hx⟩ := tops1 rv
    have := hx.v
    simp only [RepD] at this
    obtain ⟨a, vs, rfl, q1, r1⟩ := this
    exact ⟨_, call_list_of, a, vs, rfl, .inl (g.sub.seqL q1), fun l hl => fin_l g r1 hl q⟩
  rotate_left 2
  · cases e
    obtain ⟨x, rfl, hx⟩ := tops1 rv
    obtain ⟨a, vs, rfl, q1, r1⟩ := top_seq g.sub hx
    exact ⟨_, call_list_of, a, vs, rfl, .inl q1, fun l hl => fin_l g r1 hl q⟩
  · cases e
    obtain ⟨x, rfl, hx⟩ := tops1 rv
    obtain ⟨a, vs, rfl, q1, r1⟩ := top_tup g.sub hx
    exact ⟨_, call_list_of, a, vs, rfl, .inr q1, fun l hl => fin_l g r1 hl q⟩
  · cases e
def pMax2 : List D → Option O
  | [.int i, .int j] => some (.v () (.int (if j > i then j else i)))
  | _ => none
theorem prim_max2 (hc : X.calm = true) : PrimOk X (cU X (.builtin "max")) pMax2 := by
  intro W Z H rs ds vs o Q g rv e q
  unfold pMax2 at e
  split at e
  · cases e
    obtain ⟨x, y, rfl, hx, hy⟩ := tops2 rv
    cases hx.int; cases hy.int
    exact ⟨_, call_max2 hc, _, _, rfl, fin_v g (by simp [RepD]) q⟩
  · cases e
def pMin2 : List D → Option O
  | [.int i, .int j] => some (.v () (.int (if j < i then j else i)))
  | _ => none
theorem prim_min2 (hc : X.calm = true) : PrimOk X (cU X (.builtin "min")) pMin2 := by
  intro W Z H rs ds vs o Q g rv e q
  unfold pMin2 at e
  split at e
  · cases e
    obtain ⟨x, y, rfl, hx, hy⟩ := tops2 rv
    cases hx.int; cases hy.int
    exact ⟨_, call_min2 hc, _, _, rfl, fin_v g (by simp [RepD]) q⟩
  · cases e

/-! ### methods of texts -/
def mU (X : Cx) (id : String) : V → List V → Hp → VK → Prop := fun x xs H Q => ∃ r, MtR X id r ∧ r x xs H Q
theorem mt_U {id : String} : MtR X id (mU X id) := fun pins s σ H x xs v us Q I rx rs ⟨r, h, q⟩ => h pins s σ H x xs v us Q I rx rs q
/-- the receiver, a text, then the arguments -/
def evStrM (fo : Ev) (ops : List Opd) (pp : List D → Option O) : Ev := fun env => (fo env).bind fun o e1 => match o.toD with
  | .str z => (evOps ops e1).bind fun ds e2 => match pp (.str z :: ds) with
    | some r => .ok (r, e2)
    | none => .bad
  | _ => .bad
def rM (X : Cx) (id : String) : List V → Hp → VK → Prop := fun vs H Q => match vs with
  | x :: xs => mU X id x xs H Q
  | [] => False
theorem snd_strM1 {o a : Expr} {fo : Ev} {op : Opd} {pp : List D → Option O} {id : String} {name : Str} {apos : Pos} (slot : Slot "str" name id) (ty : typeOf (.builtin id) = pure (.type "method_descriptor")) (ho : Snd P X o fo) (ha : SndO P X [a] [op]) (hp : PrimOk X (rM X id) pp)
    (hs : starEach [a] X.env = [(false, eval a X.env)] := by rfl) (hbase : attributeBase o name X.env (eval o X.env) = eval o X.env := by rfl) (hline : (apos.endLine == pos.line) = true := by rfl) :
    Snd P X (.Call (.Attribute o name apos) [a] [] pos) (evStrM fo [op] pp) := by
  intro W hW Z H sl ts Q g q
  refine ⟨_, pe_m1 slot ty mt_U pe_U pe_U hs hbase hline, ?_⟩
  refine ho W hW Z H sl ts _ g (PostR.imp (PostR.bind q) (List.Sublist.refl _) fun oo Z1 H1 sl1 s1 t1 q oa g1 eo => ?_)
  obtain ⟨Z2, s2, g2⟩ := g1.freeze
  have rd := g2.v
  rw [← Ow.er_toD, eo] at rd
  split at q
  · rename_i z e1
    rw [e1] at rd
    simp only [RepD] at rd
    refine ⟨⟨z, rd⟩, ?_⟩
    rw [← t1]
    have h1 : seqU X [a] (tops sl1) H1 (fun vs H2 => mU X id oa.top vs H2 Q) := by
      refine ha W hW Z2 H1 sl1 ts _ g2.tail ?_
      have q' := PostR.bind q
      generalize evOps [op] (ers sl1) = r at q'
      cases r with
      | bad => exact q'
      | exc x env => exact fun Z3 H3 sl3 c d s3 g3 e3 t3 r3 => q' Z3 H3 sl3 c d (s2.trans s3) g3 e3 t3 r3
      | ok pr =>
        intro Z3 H3 sl3 s3 e3 t3 g3 vs rv
        have q2 := q' Z3 H3 sl3 (s2.trans s3) e3 t3
        simp only at q2
        cases ep : pp (.str z :: pr.1) with
        | none => rw [ep] at q2; exact q2.elim
        | some r =>
          rw [ep] at q2
          refine hp W Z3 H3 _ (.str z :: pr.1) (oa.top :: vs) r Q g3 ?_ ep fun Z4 H4 ob s4 g4 e4 => q2 Z4 H4 sl3 s4 rfl rfl ob g4 e4
          simp only [RepTops]
          exact ⟨_, _, rfl, .inl (by simp only [RepD]; exact rd), rv⟩
    obtain ⟨t, ht, qq⟩ := h1
    exact ⟨t, ht, qq⟩
  · exact q.elim
def strsD (zs : List Str) : List D := zs.map .str
theorem strs_rep {K : PySem.W.Frag} {Z : Hp} : ∀ zs : List Str, RepDs K Z (strsD zs) (zs.map V.str)
  | [] => by simp [strsD, RepDs]
  | z :: zs => by
    simp only [strsD, List.map_cons, RepDs]
    exact ⟨_, _, rfl, by simp [RepD], strs_rep zs⟩
def pSplit : List D → Option O
  | [.str a, .str b] => if (b.length == 0) = false ∧ a.length + 2 ≤ sizeLine then some (newL (strsD (Txt.split a b))) else none
  | _ => none
theorem prim_split : PrimOk X (rM X "str.split") pSplit := by
  intro W Z H rs ds vs o Q g rv e q
  unfold pSplit at e
  split at e
  · split at e
    · rename_i hc
      cases e
      obtain ⟨x, y, rfl, hx, hy⟩ := tops2 rv
      cases hx.str; cases hy.str
      exact ⟨_, mt_split, _, _, rfl, rfl, hc.1, hc.2, fun p hp => fin_l g (strs_rep _) hp q⟩
    · cases e
  · cases e
def getStrs : List D → Option (List Str)
  | [] => some []
  | .str z :: r => (getStrs r).map (z :: ·)
  | _ => none
theorem getStrs_rep {K : PySem.W.Frag} {Z : Hp} : ∀ {ds : List D} {vs : List V} {zs : List Str}, RepDs K Z ds vs → getStrs ds = some zs → vs = zs.map V.str
  | [], vs, zs, h, e => by simp only [getStrs, Option.some.injEq] at e; simp only [RepDs] at h; subst e h; rfl
  | d :: ds, vs, zs, h, e => by
    cases d with
    | str z =>
      simp only [getStrs, Option.map_eq_some_iff] at e
      obtain ⟨r, e, rfl⟩ := e
      simp only [RepDs] at h
      obtain ⟨x, rr, rfl, h1, h2⟩ := h
      simp only [RepD] at h1
      rw [h1, getStrs_rep h2 e]; rfl
    | _ => simp [getStrs] at e
def joinD (a : Str) (ds : List D) : Option O := (getStrs ds).bind fun ys => if (ys.map (·.length)).sum + ys.length * a.length ≤ 16777216 then some (.v () (.str (Txt.join a ys))) else none
def pJoin : List D → Option O
  | [.str a, .lst ds] => joinD a ds
  | [.str a, .tup ds] => joinD a ds
  | _ => none
theorem prim_join : PrimOk X (rM X "str.join") pJoin := by
  intro W Z H rs ds vs o Q g rv e q
  have fin : ∀ {a : Str} {ds : List D} {p : Addr} {vs : List V}, joinD a ds = some o → (SqL X.K H p vs ∨ SqT X.K H p vs) → RepDs X.K Z ds vs → rM X "str.join" [.str a, .ref p] H Q := by
    intro a ds p vs e sq r
    obtain ⟨ys, e1, e2⟩ := Option.bind_eq_some_iff.mp e
    split at e2
    · cases e2
      have := getStrs_rep r e1
      subst this
      exact ⟨_, mt_join, a, p, ys, rfl, rfl, sq, by assumption, fin_v g (by simp [RepD]) q⟩
    · cases e2
  unfold pJoin at e
  split at e
  · obtain ⟨x, y, rfl, hx, hy⟩ := tops2 rv
    cases hx.str
    obtain ⟨a, vs, rfl, q1, r1⟩ := top_seq g.sub hy
    exact fin e (.inl q1) r1
  · obtain ⟨x, y, rfl, hx, hy⟩ := tops2 rv
    cases hx.str
    obtain ⟨a, vs, rfl, q1, r1⟩ := top_tup g.sub hy
    exact fin e (.inr q1) r1
  · cases e
end
end EV

set_option Elab.async false
set_option linter.all false
set_option maxRecDepth 100000
set_option maxHeartbeats 4000000
namespace EV
open PySem PySem.Spec PyProof.Rows L2
section
variable {X : Cx} {P : Pc} {tg : Expr} {p pos tpos : Pos}

/-! ### range, enumerate, zip, reversed -/
def rngD (lo : Int) (n : Nat) : List D := (List.range n).map fun i => .int (lo + (i : Nat))
theorem yd_range {K : PySem.W.Frag} {Z : Hp} {lo : Int} {n : Nat} : YD K (Itr lo n) Z (rngD lo n) := fun i H s => by
  refine ⟨fun d hd => ?_, fun hi => show n ≤ i by simpa [rngD] using hi⟩
  simp only [rngD, List.getElem?_map] at hd
  by_cases hn : i < n
  · rw [List.getElem?_range hn] at hd
    simp only [Option.map_some, Option.some.injEq] at hd
    subst hd
    exact ⟨hn, fun x H' hy => .inl ⟨hy.1, by simp only [RepD]; exact hy.2⟩⟩
  · rw [List.getElem?_eq_none (by simpa using hn)] at hd
    cases hd
def evArgI (fs : List Ev) (k : List D → Option (List D)) : EvI := fun env => (evDs fs env).bind fun ds e => match k ds with
  | some xs => .ok (xs, e)
  | none => .bad
theorem sndi_of {iter : Expr} {es : List Expr} {fs : List Ev} {k : List D → Option (List D)} {it : List V → Hp → (It → Hp → Prop) → Prop} (hpi : PI X tg iter (fun σ H R => tUA X es σ H fun vs H1 => it vs H1 R)) (ha : SndDs P X es fs)
    (hk : ∀ (Z H : Hp) (ds : List D) (vs : List V) (xs : List D) (R : It → Hp → Prop), Sub Z H → RepDs X.K Z ds vs → k ds = some xs → (∀ J, YD X.K J Z xs → R J H) → it vs H R) : SndI P X tg iter (evArgI fs k) := by
  intro W hW Z H sl ts R g q
  refine ⟨_, hpi, ?_⟩
  refine ha W hW Z H sl ts _ g (PostR.imp (PostR.bind q) (List.Sublist.refl _) fun ds Z1 H1 sl1 s1 t1 q g1 vs rv => ?_)
  cases e : k ds with
  | none => rw [e] at q; exact q.elim
  | some xs =>
    rw [e] at q
    exact hk Z1 H1 ds vs xs R g1.sub rv e fun J hJ => q Z1 H1 sl1 (Sub.refl _) rfl rfl g1 J hJ
def okR (n : Int) : Bool := decide (-(2 ^ 62) ≤ n ∧ n < 2 ^ 62)
def kRange1 : List D → Option (List D)
  | [.int n] => if okR n then some (rngD 0 n.toNat) else none
  | _ => none
def kRange2 : List D → Option (List D)
  | [.int a, .int b] => if okR a && okR b then some (rngD a (b - a).toNat) else none
  | _ => none
theorem reps1 {K : PySem.W.Frag} {Z : Hp} {d : D} {vs : List V} (h : RepDs K Z [d] vs) : ∃ x, vs = [x] ∧ RepD K Z d x := by
  simp only [RepDs] at h
  obtain ⟨x, _, rfl, h1, rfl⟩ := h
  exact ⟨x, rfl, h1⟩
theorem reps2 {K : PySem.W.Frag} {Z : Hp} {d e : D} {vs : List V} (h : RepDs K Z [d, e] vs) : ∃ x y, vs = [x, y] ∧ RepD K Z d x ∧ RepD K Z e y := by
  simp only [RepDs] at h
  obtain ⟨x, _, rfl, h1, y, _, rfl, h2, rfl⟩ := h
  exact ⟨x, y, rfl, h1, h2⟩
theorem sndi_range1 {a : Expr} {f : Ev} (hg : Gl X "range") (hm : X.mg "range" = none) (ha : SndDs P X [a] [f]) (hs : starEach [a] X.env = [(false, eval a X.env)] := by rfl) : SndI P X tg (.Call (.Name "range" p) [a] [] pos) (evArgI [f] kRange1) := by
  refine sndi_of (pi_range1 hg hm pa_U hs) ha fun Z H ds vs xs R s r e q => ?_
  unfold kRange1 at e
  split at e
  · split at e
    · rename_i hc
      cases e
      obtain ⟨x, rfl, h1⟩ := reps1 r
      simp only [RepD] at h1
      subst h1
      have := of_decide_eq_true hc
      exact ⟨_, rfl, this.1, this.2, q _ yd_range⟩
    · cases e
  · cases e
theorem sndi_range2 {a b : Expr} {f g : Ev} (hg : Gl X "range") (hm : X.mg "range" = none) (ha : SndDs P X [a, b] [f, g]) (hs : starEach [a, b] X.env = [(false, eval a X.env), (false, eval b X.env)] := by rfl) (hs2 : starEach [b] X.env = [(false, eval b X.env)] := by rfl) : SndI P X tg (.Call (.Name "range" p) [a, b] [] pos) (evArgI [f, g] kRange2) := by
  refine sndi_of (pi_range2 hg hm pa_U hs hs2) ha fun Z H ds vs xs R s r e q => ?_
  unfold kRange2 at e
  split at e
  · split at e
    · rename_i hc
      cases e
      obtain ⟨x, y, rfl, h1, h2⟩ := reps2 r
      simp only [RepD] at h1 h2
      subst h1 h2
      simp only [Bool.and_eq_true] at hc
      have h1 := of_decide_eq_true hc.1
      have h2 := of_decide_eq_true hc.2
      exact ⟨_, _, rfl, ⟨h1.1, h1.2, h2.1, h2.2⟩, q _ yd_range⟩
    · cases e
  · cases e
def enumD (ds : List D) : List D := ds.mapIdx fun i d => .tup [.int (i : Nat), d]
def kEnum : List D → Option (List D)
  | [.lst ds] => some (enumD ds)
  | _ => none
theorem sndi_enum {e : Expr} {f : Ev} {elts : List Expr} {kk : Nat} (hg : Gl X "enumerate") (hm : X.mg "enumerate" = none) (ha : SndDs P X [e] [f]) (hs : starEach [e] X.env = [(false, eval e X.env)] := by rfl) : SndI P X (.Tuple elts kk tpos) (.Call (.Name "enumerate" p) [e] [] pos) (evArgI [f] kEnum) := by
  refine sndi_of (pi_enum hg hm pa_U hs) ha fun Z H ds vs xs R s r e q => ?_
  unfold kEnum at e
  split at e
  · rename_i ds
    cases e
    obtain ⟨x, rfl, h1⟩ := reps1 r
    simp only [RepD] at h1
    obtain ⟨a, us, rfl, qz, r1⟩ := h1
    refine ⟨a, us, rfl, SqL.of (s _ _ qz), q _ fun i H' s' => ⟨fun d hd => ?_, fun hi => ⟨us, SqL.of (s' _ _ qz), by rw [r1.length]; simpa [enumD] using hi⟩⟩⟩
    simp only [enumD, List.getElem?_mapIdx, Option.map_eq_some_iff] at hd
    obtain ⟨d0, hd, rfl⟩ := hd
    obtain ⟨v, hv, rv⟩ := r1.get hd
    refine ⟨⟨us, v, SqL.of (s' _ _ qz), hv⟩, fun x H2 hy => .inr ?_⟩
    obtain ⟨T, x0, ex, hT, hH, hx⟩ := hy
    have e1 := hx us (SqL.of (s' _ _ qz))
    rw [hv] at e1
    cases e1
    exact ⟨T, _, _, hT, hH, ex, rfl, by simp only [RepDs, RepD]; exact ⟨_, _, rfl, rfl, _, _, rfl, rv, rfl⟩⟩
  · cases e
def zipD (xs ys : List D) : List D := List.zipWith (fun a b => .tup [a, b]) xs ys
def kZip : List D → Option (List D)
  | [.lst xs, .lst ys] => some (zipD xs ys)
  | [.tup xs, .tup ys] => some (zipD xs ys)
  | _ => none
theorem zip_get {xs ys : List D} {i : Nat} {d : D} (h : (zipD xs ys)[i]? = some d) : ∃ a b, xs[i]? = some a ∧ ys[i]? = some b ∧ d = .tup [a, b] := by
  simp only [zipD, List.getElem?_zipWith] at h
  cases e1 : xs[i]? with
  | none => rw [e1] at h; simp at h
  | some a =>
    cases e2 : ys[i]? with
    | none => rw [e1, e2] at h; simp at h
    | some b =>
      rw [e1, e2] at h
      simp only [Option.some.injEq] at h
      exact ⟨a, b, rfl, rfl, h.symm⟩
theorem sndi_zip {e e2 : Expr} {f g : Ev} {elts : List Expr} {kk : Nat} (hg : Gl X "zip") (hm : X.mg "zip" = none) (ha : SndDs P X [e, e2] [f, g]) (hs : starEach [e, e2] X.env = (false, eval e X.env) :: starEach [e2] X.env := by rfl) (hpl : (backTo pos (starEach [e2] X.env)).any (·.1) = false := by rfl) :
    SndI P X (.Tuple elts kk tpos) (.Call (.Name "zip" p) [e, e2] [] pos) (evArgI [f, g] kZip) := by
  refine sndi_of (RZ.pi_zipA hg hm pa_U hs hpl) ha fun Z H ds vs xs R s r e q => ?_
  unfold kZip at e
  split at e
  · rename_i xs ys
    cases e
    obtain ⟨x, y, rfl, h1, h2⟩ := reps2 r
    simp only [RepD] at h1 h2
    obtain ⟨a, us, rfl, qa, r1⟩ := h1
    obtain ⟨b, ws, rfl, qb, r2⟩ := h2
    refine ⟨a, b, us, ws, rfl, .inl ⟨SqL.of (s _ _ qa), SqL.of (s _ _ qb), q _ fun i H' s' => ⟨fun d hd => ?_, fun hi => ⟨us, ws, SqL.of (s' _ _ qa), SqL.of (s' _ _ qb), by rw [r1.length, r2.length]; simp only [zipD, List.length_zipWith] at hi; omega⟩⟩⟩⟩
    obtain ⟨d1, d2, g1, g2, rfl⟩ := zip_get hd
    obtain ⟨v, hv, rv⟩ := r1.get g1
    obtain ⟨w, hw, rw'⟩ := r2.get g2
    refine ⟨⟨us, ws, v, w, SqL.of (s' _ _ qa), SqL.of (s' _ _ qb), hv, hw⟩, fun x H2 hy => .inr ?_⟩
    obtain ⟨T, x0, y0, ex, hT, hH, hx, hy⟩ := hy
    have e1 := hx us (SqL.of (s' _ _ qa))
    have e2 := hy ws (SqL.of (s' _ _ qb))
    rw [hv] at e1; rw [hw] at e2
    cases e1; cases e2
    exact ⟨T, _, _, hT, hH, ex, rfl, by simp only [RepDs]; exact ⟨_, _, rfl, rv, _, _, rfl, rw', rfl⟩⟩
  · rename_i xs ys
    cases e
    obtain ⟨x, y, rfl, h1, h2⟩ := reps2 r
    simp only [RepD] at h1 h2
    obtain ⟨a, us, rfl, qa, r1⟩ := h1
    obtain ⟨b, ws, rfl, qb, r2⟩ := h2
    refine ⟨a, b, us, ws, rfl, .inr ⟨s.seqT qa, s.seqT qb, q _ fun i H' s' => ⟨fun d hd => ?_, fun hi => ⟨us, ws, s'.seqT qa, s'.seqT qb, by rw [r1.length, r2.length]; simp only [zipD, List.length_zipWith] at hi; omega⟩⟩⟩⟩
    obtain ⟨d1, d2, g1, g2, rfl⟩ := zip_get hd
    obtain ⟨v, hv, rv⟩ := r1.get g1
    obtain ⟨w, hw, rw'⟩ := r2.get g2
    refine ⟨⟨us, ws, v, w, s'.seqT qa, s'.seqT qb, hv, hw⟩, fun x H2 hy => .inr ?_⟩
    obtain ⟨T, x0, y0, ex, hT, hH, hx, hy⟩ := hy
    have e1 := hx us (s'.seqT qa)
    have e2 := hy ws (s'.seqT qb)
    rw [hv] at e1; rw [hw] at e2
    cases e1; cases e2
    exact ⟨T, _, _, hT, hH, ex, rfl, by simp only [RepDs]; exact ⟨_, _, rfl, rv, _, _, rfl, rw', rfl⟩⟩
  · cases e

/-! ### lists of one's own: append, pop -/
variable {i : Nat} {y : Str} {p0 apos cpos : Pos} {e : Expr} {f : Ev}
/-- y.append(e) -/
def evAppend (i : Nat) (f : Ev) : Ev := fun env => match env[i]? with
  | some (some (.lst _ _)) => (f env).bind fun o e1 => (match e1[i]? with
    | some (some (.lst _ xs)) => if xs.length < sizeLine then .ok (.v () .non, e1.set i (some (.lst () (xs ++ [o])))) else .bad
    | _ => .bad)
  | _ => .bad
theorem lst_slot {W : Wld} {Z H : Hp} {sl : Sl} {ts : List (Ow V)} {u : Unit} {xs : List O} (h : (ers sl)[i]? = some (some (.lst u xs))) : ∃ x ys, sl[i]? = some (some (.lst x ys)) ∧ Ow.ers ys = xs := by
  obtain ⟨r, hr, er⟩ := ers_get h
  cases r with
  | lst x ys => simp only [Ow.er, Ow.lst.injEq, true_and] at er; exact ⟨x, ys, hr, er⟩
  | v _ _ => simp [Ow.er] at er
  | obj _ _ _ => simp [Ow.er] at er
  | dct _ _ => simp [Ow.er] at er
/-- an owned list in slot i, given other items -/
theorem lst_put {W : Wld} {Z H : Hp} {sl : Sl} {ts : List (Ow V)} {x : V} {ys : List (Ow V)} {new : List (Ow V)} {rs : List (Ow V)} (hr : sl[i]? = some (some (.lst x ys))) (g : Good W X.K Z H (rs ++ (roots sl ++ ts)))
    (ht : (new ++ (roots (sl.set i none) ++ ts)).Sublist ((ys ++ rs) ++ (roots (sl.set i none) ++ ts)) ∨ ∃ l, (new ++ (roots (sl.set i none) ++ ts)).Perm l ∧ l.Sublist ((ys ++ rs) ++ (roots (sl.set i none) ++ ts))) :
    ∃ a, x = .ref a ∧ H a = some (.lst (ys.map Ow.top)) ∧ Good W X.K Z (upd H a (.lst (new.map Ow.top))) (roots (sl.set i (some (.lst x new))) ++ ts) ∧ ers (sl.set i (some (.lst x new))) = (ers sl).set i (some (.lst () (Ow.ers new))) ∧ tops (sl.set i (some (.lst x new))) = tops sl := by
  have hl : i < sl.length := (List.getElem?_eq_some_iff.mp hr).1
  have g1 : Good W X.K Z H (.lst x ys :: (rs ++ (roots (sl.set i none) ++ ts))) := by
    refine g.perm ?_
    refine (((roots_out hr).append_right ts).append_left rs).trans ?_
    exact List.perm_middle
  obtain ⟨a, rfl, q, g2, hn, hz⟩ := g1.openL
  rw [← List.append_assoc] at g2 hn
  have key : ∃ l, (new ++ (roots (sl.set i none) ++ ts)).Perm l ∧ l.Sublist ((ys ++ rs) ++ (roots (sl.set i none) ++ ts)) := by
    rcases ht with h | h
    · exact ⟨_, .refl _, h⟩
    · exact h
  obtain ⟨l, pm, sb⟩ := key
  have g3 : Good W X.K Z H (new ++ (roots (sl.set i none) ++ ts)) := (g2.sublist sb).perm pm.symm
  have hn3 : a ∉ Ow.fps (new ++ (roots (sl.set i none) ++ ts)) := fun hm => hn ((fps_sub sb).subset ((fps_perm pm).mem_iff.mp hm))
  have g4 := g3.closeL hn3 hz (.inr ⟨_, q, rfl⟩)
  refine ⟨a, rfl, q, g4.perm ((roots_in (r := Ow.lst (.ref a) new) hl).append_right ts).symm, ?_, tops_set_same hr rfl⟩
  rw [ers_set]
  rfl
theorem snd_append (hv : PE X (.Name y p0) (tVar i)) (he : Snd P X e f) (hbase : attributeBase (.Name y p0) "append" X.env (eval (.Name y p0) X.env) = eval (.Name y p0) X.env := by rfl)
    (hfew : ((backTo cpos (starEach [e] X.env)).all (fun x => !x.1) && (backToKw cpos (keywordEach [] X.env)).all (fun x => x.1.isSome)
      && decide (([e] : List Expr).length + ([] : List Keyword).length + (if ([] : List Keyword).isEmpty then 0 else 1) < 30)) = true := by rfl)
    (hline : (apos.endLine == cpos.line) = true := by rfl) (hs : starEach [e] X.env = (false, eval e X.env) :: starEach [] X.env := by rfl) :
    Snd P X (.Call (.Attribute (.Name y p0) "append" apos) [e] [] cpos) (evAppend i f) := by
  intro W hW Z H sl ts Q g q
  refine ⟨_, pe_bm PySem.F.plainAttrs_list PySem.F.slot_list_append PySem.F.type_list_append mt_append hv (pa_cons pe_U pa_nil hs) hbase hfew hline hs rfl, ?_⟩
  simp only [evAppend] at q
  split at q
  · rename_i u xs h0
    obtain ⟨x0, ys0, hr0, _⟩ := lst_slot (W := W) (Z := Z) (H := H) (ts := ts) h0
    have g0 : Good W X.K Z H (.lst x0 ys0 :: (roots (sl.set i none) ++ ts)) := g.perm ((roots_out hr0).append_right ts)
    obtain ⟨a0, rfl, q0, _⟩ := g0.openL
    refine ⟨_, tops_get hr0, .inl ⟨rfl, _, SqL.of q0⟩, ?_⟩
    refine he W hW Z H sl ts _ g (PostR.imp (PostR.bind q) (List.Sublist.refl _) fun o Z1 H1 sl1 s1 t1 q oa g1 eo => ?_)
    split at q
    · rename_i u1 xs1 h1
      split at q
      · rename_i hlen
        obtain ⟨x1, ys1, hr1, ey⟩ := lst_slot (W := W) (Z := Z) (H := H) (ts := ts) h1
        have et : x1 = .ref a0 := by
          have a1 := tops_get hr1
          rw [t1, tops_get hr0] at a1
          simpa [Ow.top] using a1.symm
        subst et
        obtain ⟨a, ea, qa, g2, e2, t2⟩ := lst_put (rs := [oa]) (new := ys1 ++ [oa]) hr1 g1 (.inl (List.Sublist.refl _))
        cases ea
        refine ⟨a0, _, oa.top, rfl, rfl, qa, ?_, ?_⟩
        · rw [List.length_map, ← (by rw [Ow.ers_map, List.length_map] : (Ow.ers ys1).length = ys1.length), ey]; exact hlen
        · have := q Z1 _ (sl1.set i (some (.lst (.ref a0) (ys1 ++ [oa])))) (Sub.refl _) (by rw [e2, Ow.ers_map, List.map_append, ← Ow.ers_map, ey, List.map_singleton, eo]) t2 (.v .non .non) (g2.cons_v (by simp [RepD])) rfl
          rw [List.map_append, List.map_singleton] at this
          exact this
      · exact q.elim
    · exact q.elim
  · exact q.elim
/-- y.pop(e) -/
def evPop (i : Nat) (f : Ev) : Ev := fun env => match env[i]? with
  | some (some (.lst _ _)) => (f env).bind fun o e1 => (match o.toD, e1[i]? with
    | .int j, some (some (.lst _ xs)) => if -(2 ^ 63) ≤ j ∧ j < 2 ^ 63 then (match seqIndex? j xs.length with
        | some k => (match xs[k]? with
          | some it => .ok (it, e1.set i (some (.lst () (xs.eraseIdx k))))
          | none => .bad)
        | none => .bad) else .bad
    | _, _ => .bad)
  | _ => .bad
theorem erase_perm {α : Type} : ∀ {l : List α} {k : Nat} {x : α}, l[k]? = some x → l.Perm (x :: l.eraseIdx k)
  | [], k, x, h => by simp at h
  | y :: l, 0, x, h => by simp at h; subst h; simp
  | y :: l, k + 1, x, h => by
    simp at h
    simp only [List.eraseIdx_cons_succ]
    exact ((erase_perm h).cons y).trans (List.Perm.swap _ _ _)
theorem map_erase {α β : Type} (g : α → β) : ∀ (l : List α) (k : Nat), (l.eraseIdx k).map g = (l.map g).eraseIdx k
  | [], k => by simp
  | y :: l, 0 => by simp
  | y :: l, k + 1 => by simp [map_erase g l k]
theorem snd_pop (hv : PE X (.Name y p0) (tVar i)) (he : Snd P X e f) (hbase : attributeBase (.Name y p0) "pop" X.env (eval (.Name y p0) X.env) = eval (.Name y p0) X.env := by rfl)
    (hfew : ((backTo cpos (starEach [e] X.env)).all (fun x => !x.1) && (backToKw cpos (keywordEach [] X.env)).all (fun x => x.1.isSome)
      && decide (([e] : List Expr).length + ([] : List Keyword).length + (if ([] : List Keyword).isEmpty then 0 else 1) < 30)) = true := by rfl)
    (hline : (apos.endLine == cpos.line) = true := by rfl) (hs : starEach [e] X.env = (false, eval e X.env) :: starEach [] X.env := by rfl) :
    Snd P X (.Call (.Attribute (.Name y p0) "pop" apos) [e] [] cpos) (evPop i f) := by
  intro W hW Z H sl ts Q g q
  refine ⟨_, pe_bm PySem.F.plainAttrs_list PySem.F.slot_list_pop PySem.F.type_list_pop mt_popAt hv (pa_cons pe_U pa_nil hs) hbase hfew hline hs rfl, ?_⟩
  simp only [evPop] at q
  split at q
  · rename_i u xs h0
    obtain ⟨x0, ys0, hr0, _⟩ := lst_slot (W := W) (Z := Z) (H := H) (ts := ts) h0
    have g0 : Good W X.K Z H (.lst x0 ys0 :: (roots (sl.set i none) ++ ts)) := g.perm ((roots_out hr0).append_right ts)
    obtain ⟨a0, rfl, q0, _⟩ := g0.openL
    refine ⟨_, tops_get hr0, .inl ⟨rfl, _, SqL.of q0⟩, ?_⟩
    refine he W hW Z H sl ts _ g (PostR.imp (PostR.bind q) (List.Sublist.refl _) fun o Z1 H1 sl1 s1 t1 q oa g1 eo => ?_)
    obtain ⟨Z2, s2, g2⟩ := g1.freeze
    have rd := g2.v
    rw [← Ow.er_toD, eo] at rd
    split at q
    · rename_i j u1 xs1 ej h1
      rw [ej] at rd
      simp only [RepD] at rd
      split at q
      · rename_i hb
        split at q
        · rename_i k hk
          split at q
          · rename_i it hit
            obtain ⟨x1, ys1, hr1, ey⟩ := lst_slot (W := W) (Z := Z) (H := H) (ts := ts) h1
            have et : x1 = .ref a0 := by
              have a1 := tops_get hr1
              rw [t1, tops_get hr0] at a1
              simpa [Ow.top] using a1.symm
            subst et
            have hy : ∃ w, ys1[k]? = some w ∧ w.er = it := by
              rw [← ey, Ow.ers_map, List.getElem?_map] at hit
              cases e1 : ys1[k]? with
              | none => rw [e1] at hit; simp at hit
              | some w => rw [e1] at hit; exact ⟨w, rfl, by simpa using hit⟩
            obtain ⟨w, hw, ew⟩ := hy
            have hl : i < sl1.length := (List.getElem?_eq_some_iff.mp hr1).1
            have g3 : Good W X.K Z2 H1 (.lst (.ref a0) ys1 :: (roots (sl1.set i none) ++ ts)) := g2.tail.perm ((roots_out hr1).append_right ts)
            obtain ⟨a, ea, qa, g4, hn, hz⟩ := g3.openL
            cases ea
            have pm : (ys1 ++ (roots (sl1.set i none) ++ ts)).Perm (ys1.eraseIdx k ++ (w :: (roots (sl1.set i none) ++ ts))) := ((erase_perm hw).append_right _).trans List.perm_middle.symm
            have g5 := (g4.perm pm).closeL (fun hm => hn ((fps_perm pm).mem_iff.mpr hm)) hz (.inr ⟨_, qa, rfl⟩)
            have g6 : Good W X.K Z2 (upd H1 a0 (.lst ((ys1.eraseIdx k).map Ow.top))) (w :: (roots (sl1.set i (some (.lst (.ref a0) (ys1.eraseIdx k)))) ++ ts)) := by
              refine g5.perm ((List.Perm.swap _ _ _).trans ?_)
              exact (((roots_in (r := Ow.lst (.ref a0) (ys1.eraseIdx k)) hl).append_right ts).symm.cons w)
            have lens : (ys1.map Ow.top).length = xs1.length := by rw [← ey, Ow.ers_map]; simp
            refine ⟨a0, _, j, k, w.top, rfl, by rw [rd], qa, hb.1, hb.2, by rw [lens]; exact hk, by rw [List.getElem?_map, hw]; rfl, ?_⟩
            rw [← map_erase]
            refine q Z2 _ (sl1.set i (some (.lst (.ref a0) (ys1.eraseIdx k)))) s2 ?_ (tops_set_same hr1 rfl) w g6 ew
            rw [ers_set]
            simp only [Option.map_some, Ow.er, Ow.ers_map, map_erase, ← ey]
          · exact q.elim
        · exact q.elim
      · exact q.elim
    · exact q.elim
  · exact q.elim
end
end EV

set_option Elab.async false
set_option linter.all false
set_option maxRecDepth 100000
set_option maxHeartbeats 4000000
namespace EV
open PySem PySem.Spec PyProof.Rows L2
section
variable {X : Cx} {P : Pc}

/-! ### several results, each with what it owns -/
def evOs : List Ev → Ea
  | [], env => .ok ([], env)
  | f :: fs, env => (f env).bind fun o e1 => (evOs fs e1).bind fun os e2 => .ok (o :: os, e2)
theorem sndA_nil : SndA P X [] (evOs []) := fun W hW Z H sl ts Q g p => ⟨_, pa_nil, p Z H sl (Sub.refl _) rfl rfl [] g rfl⟩
theorem sndA_cons {e : Expr} {es : List Expr} {f : Ev} {fs : List Ev} (h : Snd P X e f) (hs : SndA P X es (evOs fs)) (hst : starEach (e :: es) X.env = (false, eval e X.env) :: starEach es X.env := by rfl) : SndA P X (e :: es) (evOs (f :: fs)) := by
  intro W hW Z H sl ts Q g p
  refine ⟨_, pa_cons pe_U pa_U hst, ?_⟩
  simp only [evOs] at p
  refine h W hW Z H sl ts _ g (PostR.imp (PostR.bind p) (List.Sublist.refl _) fun o Z1 H1 sl1 s1 t1 q oa g1 eo => ?_)
  rw [← t1]
  refine hs W hW Z1 H1 sl1 (oa :: ts) _ (g1.perm List.perm_middle.symm) (PostR.imp (PostR.bind q) (List.sublist_cons_self _ _) fun os Z2 H2 sl2 s2 t2 q2 oas g2 eos => ?_)
  refine q2 Z2 H2 sl2 (Sub.refl _) rfl rfl (oa :: oas) ?_ (by rw [List.map_cons, eo, eos])
  refine g2.perm ?_
  show (oas ++ (roots sl2 ++ oa :: ts)).Perm (oa :: (oas ++ (roots sl2 ++ ts)))
  rw [← List.append_assoc, ← List.append_assoc]
  exact List.perm_middle

/-! ### targets that take what is owned -/
abbrev TgO := O → Env → Option Env
def SndGO (P : Pc) (X : Cx) (tg : Expr) (t : TgO) (as : List Nat) : Prop := ∀ W, P.ok W → ∀ Z H sl ts oa Q, Good W X.K Z H (oa :: (roots sl ++ ts)) → PostG W X as sl ts Z Q (t oa.er (ers sl)) → tUG X tg oa.top (tops sl) H Q
def tgoName (i : Nat) : TgO := fun o env => some (env.set i (some o))
def tgoFld (cs : List Str) (f : Str) (i : Nat) : TgO := fun o env => setFld cs f i o env
def tgoFrz (t : Tg) : TgO := fun o env => t o.toD env
variable {pos : Pos}
theorem sndgo_name {i : Nat} {x : Str} (hl : X.N[i]? = some x) (hN : X.N.Nodup) (hx : Loc X.env.scope x) (hf : X.fn x = true ∨ X.env.scope.names.lookup x = some .local := by first | exact .inl rfl | exact .inr rfl | assumption) : SndGO P X (.Name x pos) (tgoName i) [i] := by
  intro W hW Z H sl ts oa Q g p
  refine ⟨_, pg_name hN hl hx hf, ?_⟩
  show Q ((tops sl).set i (some oa.top)) H
  by_cases hi : i < sl.length
  · have := p Z H (sl.set i (some oa)) (Sub.refl _) (put_good g hi) (by rw [ers_set]; rfl) KeepT.set
    rwa [tops_set] at this
  · have e1 : (tops sl).set i (some oa.top) = tops sl := List.set_eq_of_length_le (by simpa using hi)
    rw [e1]
    exact p Z H sl (Sub.refl _) g.tail (by rw [List.set_eq_of_length_le (by simpa using hi)]) (KeepT.same rfl)
theorem sndgo_fld {cs : List Str} {i : Nat} {y f : Str} {p0 : Pos} (hv : PE X (.Name y p0) (tVar i)) (hf : FldOk X.K cs f) : SndGO P X (.Attribute (.Name y p0) f pos) (tgoFld cs f i) [] := by
  intro W hW Z H sl ts oa Q g p
  refine ⟨_, pg_fldU hv, ?_⟩
  simp only [tgoFld] at p
  cases e1 : setFld cs f i oa.er (ers sl) with
  | none => rw [e1] at p; exact p.elim
  | some env =>
    rw [e1] at p
    obtain ⟨a, c, dx, fs, sl2, h1, h2, h3, h5, h6, h7, h8⟩ := setFld_ok hf g e1
    refine ⟨.ref a, h1, a, _, dx, fs, rfl, h2, (hf c h3).1, (hf c h3).2, h5, ?_⟩
    have := p Z _ sl2 (Sub.refl _) h6 h7 (KeepT.same h8)
    rwa [h8] at this
theorem sndgo_frz {tg : Expr} {t : Tg} {as : List Nat} (h : SndG P X tg t as) : SndGO P X tg (tgoFrz t) as := by
  intro W hW Z H sl ts oa Q g p
  obtain ⟨Z2, s2, g2⟩ := g.freeze
  refine h W hW Z2 H sl ts oa.top oa.toD Q g2.tail g2.v ?_
  simp only [tgoFrz, Ow.er_toD] at p
  cases e : t oa.toD (ers sl) with
  | none => rw [e] at p; exact p.elim
  | some env => rw [e] at p; exact fun Z' H' sl' s' g' e' k' => p Z' H' sl' (s2.trans s') g' e' k'
/-- one after another -/
def goAll : List TgO → List O → Env → Option Env
  | [], [], env => some env
  | t :: ts, o :: os, env => (t o env).bind fun e => goAll ts os e
  | _, _, _ => none
inductive SndGOs (P : Pc) (X : Cx) : List Expr → List TgO → List Nat → Prop
  | nil : SndGOs P X [] [] []
  | cons {e : Expr} {es : List Expr} {t : TgO} {ts : List TgO} {as bs : List Nat} (h : SndGO P X e t as) (hs : SndGOs P X es ts bs) (ha : (assignEach (e :: es) X.env).map (·.2) = assign e X.env :: (assignEach es X.env).map (·.2)) : SndGOs P X (e :: es) (t :: ts) (as ++ bs)
theorem goAll_run {W : Wld} (hW : P.ok W) : ∀ {es : List Expr} {tgs : List TgO} {as : List Nat}, SndGOs P X es tgs as → ∀ {Z H : Hp} {sl : Sl} {ts : List (Ow V)} {oas : List (Ow V)} {Q : L2.St → Hp → Prop}, Good W X.K Z H (oas ++ (roots sl ++ ts)) →
    PostG W X as sl ts Z Q (goAll tgs (oas.map Ow.er) (ers sl)) → tUGs X es (oas.map Ow.top) (tops sl) H Q := by
  intro es tgs as h
  induction h with
  | nil =>
    intro Z H sl ts oas Q g p
    cases oas with
    | nil => exact ⟨_, pgs_nil, rfl, p Z H sl (Sub.refl _) g rfl (KeepT.same rfl)⟩
    | cons _ _ => exact p.elim
  | @cons e es t tr as bs h hs ha ih =>
    intro Z H sl ts oas Q g p
    cases oas with
    | nil => exact p.elim
    | cons oa oas =>
      refine ⟨_, pgs_cons pg_U pgs_U ha, oa.top, _, rfl, ?_⟩
      refine h W hW Z H sl (oas ++ ts) oa _ (g.perm ?_) ?_
      · show (oa :: (oas ++ (roots sl ++ ts))).Perm (oa :: (roots sl ++ (oas ++ ts)))
        refine List.Perm.cons _ ?_
        rw [← List.append_assoc, ← List.append_assoc]
        exact List.perm_append_comm.append_right _
      simp only [List.map_cons, goAll] at p
      cases e1 : t oa.er (ers sl) with
      | none => rw [e1] at p; exact p.elim
      | some env =>
        rw [e1] at p
        simp only [Option.bind_some] at p
        intro Z1 H1 sl1 s1 g1 e2 k1
        subst e2
        refine ih (Z := Z1) (H := H1) (sl := sl1) (ts := ts) (oas := oas) (g1.perm ?_) ?_
        · rw [← List.append_assoc, ← List.append_assoc]
          exact List.perm_append_comm.append_right _
        cases e3 : goAll tr (oas.map Ow.er) (ers sl1) with
        | none => rw [e3] at p; exact p.elim
        | some env2 => rw [e3] at p; exact fun Z2 H2 sl2 s2 g2 e2 k2 => p Z2 H2 sl2 (s1.trans s2) g2 e2 (k1.trans k2)

/-! ### a, b, .. = x, y, .. -/
def evPar (fs : List Ev) (tgs : List TgO) : Es := fun env => (evOs fs env).out fun os e => if os.length ≤ 100 then (match goAll tgs os e with
  | some e2 => .nx e2
  | none => .bad) else .bad
theorem goAll_len : ∀ {tgs : List TgO} {os : List O} {env e : Env}, goAll tgs os env = some e → os.length = tgs.length
  | [], [], _, _, _ => rfl
  | [], _ :: _, _, _, h => by simp [goAll] at h
  | _ :: _, [], _, _, h => by simp [goAll] at h
  | t :: tgs, o :: os, env, e, h => by
    simp only [goAll] at h
    cases e1 : t o env with
    | none => rw [e1] at h; cases h
    | some e2 => rw [e1] at h; simp [goAll_len h]
theorem gos_len {es : List Expr} {tgs : List TgO} {as : List Nat} (h : SndGOs P X es tgs as) : es.length = tgs.length := by induction h <;> simp_all
variable {es tges : List Expr} {fs : List Ev} {tgs : List TgO} {as : List Nat} {k k2 : Nat} {pt pt2 : Pos}
/-- the tuple is made, then taken apart -/
theorem snds_par (hc : X.calm = true) (he : SndA P X es (evOs fs)) (hg : SndGOs P X tges tgs as) (hn : (assignEach tges X.env).length = tges.length := by rfl) (hst : (assignEach tges X.env).findIdx? (·.1) = none := by rfl)
    (hs : swapsWithSole [.Tuple tges k pt] (.Tuple es k2 pt2) pos.line X.env = pure false := by rfl) (hw : swappedStores [.Tuple tges k pt] (.Tuple es k2 pt2) X.env = pure none := by rfl)
    (h1 : (assignEach [.Tuple tges k pt] X.env).map (·.2) = [assign (.Tuple tges k pt) X.env] := by rfl) : SndS P X (.Assign [.Tuple tges k pt] (.Tuple es k2 pt2) pos) (evPar fs tgs) as := by
  intro W hW Z H sl ts D g p
  refine ⟨_, ps_asg (pe_tup pa_U) (pg_tup (n := tges.length) hc pgs_U hn hst) hs hw h1, ?_⟩
  refine he W hW Z H sl ts _ g (PostR.imp (PostS.out p) (List.Sublist.refl _) fun os Z1 H1 sl1 s1 t1 q oas g1 eo => ?_)
  subst eo
  split at q
  · rename_i hz
    rw [List.length_map] at hz
    refine ⟨by rw [List.length_map]; have : (100 : Nat) ≤ sizeLine := by decide
               omega, fun pp hp => ?_⟩
    cases e1 : goAll tgs (oas.map Ow.er) (ers sl1) with
    | none => rw [e1] at q; exact q.elim
    | some env =>
      rw [e1] at q
      have hl := goAll_len e1
      refine ⟨pp, oas.map Ow.top, rfl, SqT.of upd_same, by rw [List.length_map, gos_len hg, ← hl, List.length_map], ?_⟩
      rw [← t1]
      refine goAll_run hW hg (g1.upd hp) ?_
      rw [e1]
      exact fun Z' H' sl' s' g' e' k' => q Z' H' sl' s' g' e' k'
  · exact q.elim
/-- two or three names: stored from the right -/
theorem snds_par2 {i j : Nat} {x y : Str} {a b : Expr} {px py : Pos} (hc : X.calm = true) (hN : X.N.Nodup) (hi : X.N[i]? = some x) (hj : X.N[j]? = some y) (hij : i ≠ j)
    (hx : X.env.scope.names.lookup x = some .local) (hy : X.env.scope.names.lookup y = some .local) (he : SndA P X [a, b] (evOs fs))
    (hw : swappedStores [.Tuple [.Name x px, .Name y py] k pt] (.Tuple [a, b] k2 pt2) X.env = pure (some [x, y]))
    (hs : swapsWithSole [.Tuple [.Name x px, .Name y py] k pt] (.Tuple [a, b] k2 pt2) pos.line X.env = pure false := by rfl) :
    SndS P X (.Assign [.Tuple [.Name x px, .Name y py] k pt] (.Tuple [a, b] k2 pt2) pos) (evPar fs [tgoName i, tgoName j]) [i, j] := by
  intro W hW Z H sl ts D g p
  refine ⟨_, ps_par hc hN hi hj hij hx hy pa_U hw hs, ?_⟩
  refine he W hW Z H sl ts _ g (PostR.imp (PostS.out p) (List.Sublist.refl _) fun os Z1 H1 sl1 s1 t1 q oas g1 eo => ?_)
  subst eo
  split at q
  · match oas, q, g1 with
    | [oa, ob], q, g1 =>
      simp only [List.map_cons, List.map_nil, goAll, tgoName, Option.bind_some] at q
      refine ⟨oa.top, ob.top, rfl, ?_⟩
      rw [← t1]
      have put : ∀ {sl : Sl} {n : Nat} {o : Ow V} {rs : List (Ow V)}, Good W X.K Z1 H1 (o :: (roots sl ++ rs)) → Good W X.K Z1 H1 (roots (sl.set n (some o)) ++ rs) := fun {sl n o rs} g => by
        by_cases hn : n < sl.length
        · exact put_good g hn
        · rw [List.set_eq_of_length_le (by simpa using hn)]; exact g.tail
      have g2 : Good W X.K Z1 H1 (roots (sl1.set i (some oa)) ++ (ob :: ts)) := put (g1.perm (show (oa :: (ob :: (roots sl1 ++ ts))).Perm (oa :: (roots sl1 ++ (ob :: ts))) from List.Perm.cons _ List.perm_middle.symm))
      have g3 : Good W X.K Z1 H1 (roots ((sl1.set i (some oa)).set j (some ob)) ++ ts) := put (g2.perm List.perm_middle)
      have := q Z1 H1 _ (Sub.refl _) g3 (by rw [ers_set, ers_set]; rfl) (KeepT.trans (as := [i]) (bs := [j]) KeepT.set KeepT.set)
      rwa [tops_set, tops_set] at this
    | [], q, _ => exact q.elim
    | [_], q, _ => exact q.elim
    | _ :: _ :: _ :: _, q, _ => exact q.elim
  · exact q.elim
theorem snds_par3 {i j l : Nat} {x y z : Str} {a b c : Expr} {px py pz : Pos} (hc : X.calm = true) (hN : X.N.Nodup) (hi : X.N[i]? = some x) (hj : X.N[j]? = some y) (hl : X.N[l]? = some z) (hij : i ≠ j) (hil : i ≠ l) (hjl : j ≠ l)
    (hx : X.env.scope.names.lookup x = some .local) (hy : X.env.scope.names.lookup y = some .local) (hz : X.env.scope.names.lookup z = some .local) (he : SndA P X [a, b, c] (evOs fs))
    (hw : swappedStores [.Tuple [.Name x px, .Name y py, .Name z pz] k pt] (.Tuple [a, b, c] k2 pt2) X.env = pure (some [x, y, z]))
    (hs : swapsWithSole [.Tuple [.Name x px, .Name y py, .Name z pz] k pt] (.Tuple [a, b, c] k2 pt2) pos.line X.env = pure false := by rfl) :
    SndS P X (.Assign [.Tuple [.Name x px, .Name y py, .Name z pz] k pt] (.Tuple [a, b, c] k2 pt2) pos) (evPar fs [tgoName i, tgoName j, tgoName l]) [i, j, l] := by
  intro W hW Z H sl ts D g p
  refine ⟨_, ps_par3 hc hN hi hj hl hij hil hjl hx hy hz pa_U hw hs, ?_⟩
  refine he W hW Z H sl ts _ g (PostR.imp (PostS.out p) (List.Sublist.refl _) fun os Z1 H1 sl1 s1 t1 q oas g1 eo => ?_)
  subst eo
  split at q
  · match oas, q, g1 with
    | [oa, ob, oc], q, g1 =>
      simp only [List.map_cons, List.map_nil, goAll, tgoName, Option.bind_some] at q
      refine ⟨oa.top, ob.top, oc.top, rfl, ?_⟩
      rw [← t1]
      have put : ∀ {sl : Sl} {n : Nat} {o : Ow V} {rs : List (Ow V)}, Good W X.K Z1 H1 (o :: (roots sl ++ rs)) → Good W X.K Z1 H1 (roots (sl.set n (some o)) ++ rs) := fun {sl n o rs} g => by
        by_cases hn : n < sl.length
        · exact put_good g hn
        · rw [List.set_eq_of_length_le (by simpa using hn)]; exact g.tail
      have g2 : Good W X.K Z1 H1 (roots (sl1.set i (some oa)) ++ (ob :: oc :: ts)) := put (g1.perm (show (oa :: (ob :: (oc :: (roots sl1 ++ ts)))).Perm (oa :: (roots sl1 ++ (ob :: oc :: ts))) from List.Perm.cons _ ((List.Perm.cons ob (show (oc :: (roots sl1 ++ ts)).Perm (roots sl1 ++ oc :: ts) from List.perm_middle.symm)).trans (show (ob :: (roots sl1 ++ oc :: ts)).Perm (roots sl1 ++ ob :: (oc :: ts)) from List.perm_middle.symm))))
      have g3 : Good W X.K Z1 H1 (roots ((sl1.set i (some oa)).set j (some ob)) ++ (oc :: ts)) := put (g2.perm List.perm_middle)
      have g4 : Good W X.K Z1 H1 (roots (((sl1.set i (some oa)).set j (some ob)).set l (some oc)) ++ ts) := put (g3.perm List.perm_middle)
      have := q Z1 H1 _ (Sub.refl _) g4 (by rw [ers_set, ers_set, ers_set]; rfl) (KeepT.trans (as := [i]) (bs := [j, l]) KeepT.set (KeepT.trans (as := [j]) (bs := [l]) KeepT.set KeepT.set))
      rwa [tops_set, tops_set, tops_set] at this
    | [], q, _ => exact q.elim
    | [_], q, _ => exact q.elim
    | [_, _], q, _ => exact q.elim
    | _ :: _ :: _ :: _ :: _, q, _ => exact q.elim
  · exact q.elim
/-- t1, t2 = e, any expression -/
def evAsgO (f : Ev) (t : TgO) : Es := fun env => (f env).out fun o e => match t o e with
  | some e2 => .nx e2
  | none => .bad
theorem snds_asg {tg e : Expr} {f : Ev} {t : TgO} (he : Snd P X e f) (hg : SndGO P X tg t as) (hs : swapsWithSole [tg] e pos.line X.env = pure false := by rfl) (hw : swappedStores [tg] e X.env = pure none := by rfl)
    (h1 : (assignEach [tg] X.env).map (·.2) = [assign tg X.env] := by rfl) : SndS P X (.Assign [tg] e pos) (evAsgO f t) as := by
  intro W hW Z H sl ts D g p
  refine ⟨_, ps_asg pe_U pg_U hs hw h1, ?_⟩
  refine he W hW Z H sl ts _ g (PostR.imp (PostS.out p) (List.Sublist.refl _) fun o Z1 H1 sl1 s1 t1 q oa g1 eo => ?_)
  rw [← t1]
  refine hg W hW Z1 H1 sl1 ts oa _ g1 ?_
  rw [eo]
  cases e1 : t o (ers sl1) with
  | none => rw [e1] at q; exact q.elim
  | some env => rw [e1] at q; exact fun Z' H' sl' s' g' e' k' => q Z' H' sl' s' g' e' k'

/-! ### name op= e -/
def evAug (i : Nat) (pp : List D → Option O) (f : Ev) : Es := fun env => match env[i]? with
  | some (some (.v _ d)) => (f env).out fun o e => match pp [d, o.toD] with
    | some r => .nx (e.set i (some r))
    | none => .bad
  | _ => .bad
theorem snds_aug {i : Nat} {x : Str} {e : Expr} {f : Ev} {op : Operator} {pp : List D → Option O} {pos' : Pos} (hl : X.N[i]? = some x) (hN : X.N.Nodup) (hx : Loc X.env.scope x) (he : Snd P X e f) (hp : PrimOk X (r2 (oU X (inplaceOp op))) pp)
    (hf : X.fn x = true ∨ X.env.scope.names.lookup x = some .local := by first | exact .inl rfl | exact .inr rfl | assumption) : SndS P X (.AugAssign (.Name x pos') op e pos) (evAug i pp f) [i] := by
  intro W hW Z H sl ts D g p
  refine ⟨_, ps_aug hN hl hx pe_U (op_U (X := X)) hf, ?_⟩
  simp only [evAug] at p
  split at p
  · rename_i u d h0
    obtain ⟨r, hr, er⟩ := ers_get h0
    cases r with
    | v xv dv =>
      simp only [Ow.er, Ow.v.injEq, true_and] at er
      subst er
      refine ⟨xv, tops_get hr, ?_⟩
      have hd := (g.perm ((roots_out hr).append_right ts)).v
      refine he W hW Z H sl ts _ g (PostR.imp (PostS.out p) (List.Sublist.refl _) fun o Z1 H1 sl1 s1 t1 q oa g1 eo => ?_)
      obtain ⟨Z2, s2, g2⟩ := g1.freeze
      have rd := g2.v
      rw [← Ow.er_toD, eo] at rd
      cases e1 : pp [dv, o.toD] with
      | none => rw [e1] at q; exact q.elim
      | some ro =>
        rw [e1] at q
        refine hp W Z2 H1 (roots sl1 ++ ts) [dv, o.toD] [xv, oa.top] ro _ g2.tail ?_ e1 fun Z3 H3 ob s3 g3 e3 => ?_
        · simp only [RepTops]
          exact ⟨_, _, rfl, .inl (hd.mono (s1.trans s2)), _, _, rfl, .inl rd, rfl⟩
        · rw [← t1]
          have hi : i < sl1.length := by
            have h1 : i < sl.length := (List.getElem?_eq_some_iff.mp hr).1
            have h2 := congrArg List.length t1
            simp only [tops_length] at h2
            omega
          have := q Z3 H3 (sl1.set i (some ob)) (s2.trans s3) (put_good g3 hi) (by rw [ers_set, ← e3]; rfl) KeepT.set
          rwa [tops_set] at this
    | lst _ _ => simp [Ow.er] at er
    | obj _ _ _ => simp [Ow.er] at er
    | dct _ _ => simp [Ow.er] at er
  · exact p.elim
theorem prim_iadd : PrimOk X (r2 (oU X (inplaceOp .Add))) pAdd := by
  intro W Z H rs ds vs o Q g rv e q
  unfold pAdd at e
  split at e
  · cases e
    obtain ⟨x, y, rfl, hx, hy⟩ := tops2 rv
    cases hx.int; cases hy.int
    exact ⟨_, iop_add, _, _, rfl, rfl, fin_v g (by simp [RepD]) q⟩
  · split at e
    · cases e
      obtain ⟨x, y, rfl, hx, hy⟩ := tops2 rv
      cases hx.str; cases hy.str
      exact ⟨_, iop_add_str, _, _, rfl, rfl, by assumption, fin_v g (by simp [RepD]) q⟩
    · cases e
  · cases e
theorem prim_isub : PrimOk X (r2 (oU X (inplaceOp .Sub))) pSub := by
  intro W Z H rs ds vs o Q g rv e q
  unfold pSub at e
  split at e
  · cases e
    obtain ⟨x, y, rfl, hx, hy⟩ := tops2 rv
    cases hx.int; cases hy.int
    exact ⟨_, iop_sub, _, _, rfl, rfl, fin_v g (by simp [RepD]) q⟩
  · cases e
end
end EV

set_option Elab.async false
set_option linter.all false
set_option maxRecDepth 100000
set_option maxHeartbeats 4000000
namespace EV
open PySem PySem.Spec PyProof.Rows L2
section
variable {X : Cx} {P : Pc}

/-! ### dicts of ints and texts -/
def keyD : D → Option Key
  | .int i => some (.inl i)
  | .str s => some (.inr s)
  | _ => none
def valA {α : Type} (ps : List (Key × α)) (k : Key) : Option α := (ps.find? fun p => decide (p.1 = k)).map (·.2)
theorem keyD_top {K : PySem.W.Frag} {Z H : Hp} {d : D} {x : V} {k : Key} (h : RepTop K Z H d x) (e : keyD d = some k) : x = kV k := by
  cases d <;> simp only [keyD, Option.some.injEq] at e <;> (try cases e)
  · exact h.int
  · exact h.str
theorem valA_rep {K : PySem.W.Frag} {Z : Hp} {k : Key} : ∀ {ps : List (Key × D)} {vs : List (Key × V)}, RepDk K Z ps vs → (∀ d, valA ps k = some d → ∃ v, valV vs k = some v ∧ RepD K Z d v) ∧ (valA ps k = none → valV vs k = none)
  | [], vs, h => by simp only [RepDk] at h; subst h; simp [valA, valV]
  | (j, d) :: ps, vs, h => by
    simp only [RepDk] at h
    obtain ⟨x, r, rfl, h1, h2⟩ := h
    have ih := valA_rep (k := k) h2
    by_cases hj : j = k
    · simp only [valA, valV, List.find?_cons, hj, decide_true, Option.map_some]
      exact ⟨fun d' e => ⟨x, rfl, by cases e; exact h1⟩, fun e => by cases e⟩
    · simp only [valA, valV, List.find?_cons, hj, decide_false] at ih ⊢
      exact ih
theorem ix_dict (hu : X.A.units + 1 < cLine) : IxR X (fun x y H Q => ∃ a v, x = .ref a ∧ DGet H a y (some v) ∧ Q v H) := by
  intro value slice pins s σ H x y v u Q I rx ry h hs
  obtain ⟨a, z, rfl, g, q⟩ := h
  cases (show v = Value.ref a from rx)
  exact tail_any (ops := [.ref a, u]) (dict_typeIs I g) PySem.F.slot_dict_getitem.lookup (d_getItem hu I g ry fun w' s3 I3 rw' => ⟨z, H, I3, rw', q⟩) hs
def ixA (d i : D) : Option D := match d with
  | .dct ps => (keyD i).bind (valA ps)
  | _ => ixD d i
def pIxA : List D → Option O
  | [d, i] => (ixA d i).map (.v ())
  | _ => none
theorem prim_ixA (hu : X.A.units + 1 < cLine) : PrimOk X (r2 (iU X)) pIxA := by
  intro W Z H rs ds vs o Q g rv e q
  unfold pIxA at e
  split at e
  · rename_i d i
    have plain : (ixD d i).map (Ow.v ()) = some o → r2 (iU X) vs H Q := fun e => prim_ix W Z H rs [d, i] vs o Q g rv e q
    unfold ixA at e
    split at e
    · rename_i ps
      simp only [Option.map_eq_some_iff] at e
      obtain ⟨n, e, rfl⟩ := e
      obtain ⟨k, ek, ev⟩ := Option.bind_eq_some_iff.mp e
      obtain ⟨x, y, rfl, hx, hy⟩ := tops2 rv
      obtain ⟨a, us, rfl, q1, r1⟩ := hx.dct g.sub
      obtain ⟨v, hv, rv2⟩ := (valA_rep (k := k) r1).1 _ ev
      cases keyD_top hy ek
      exact ⟨_, ix_dict hu, a, v, rfl, hv ▸ DGet.k q1, fin_v g rv2 q⟩
    · exact plain e
  · cases e
theorem op_inK (hu : X.A.units + 1 < cLine) (neg : Bool) : OpR X (compareOp (if neg then .NotIn else .In)) (fun x y H Q => ∃ a o, y = .ref a ∧ DGet H a x o ∧ Q (.bl (if neg then !o.isSome else o.isSome)) H) := by
  intro pins s σ H x y v u Q I rx ry h
  obtain ⟨a, o, rfl, g, q⟩ := h
  cases (show u = Value.ref a from ry)
  cases neg with
  | true => exact d_notIn hu I g rx fun s3 I3 => ⟨.bl (!o.isSome), H, I3, rfl, by simpa using q⟩
  | false => exact d_in hu I g rx fun s3 I3 => ⟨.bl o.isSome, H, I3, rfl, by simpa using q⟩
def inA (d c : D) : Option Bool := match c with
  | .dct ps => (keyD d).map fun k => (valA ps k).isSome
  | _ => inD d c
def pInA : List D → Option O
  | [d, e] => oB (inA d e)
  | _ => none
def pNotInA : List D → Option O
  | [d, e] => oB ((inA d e).map not)
  | _ => none
theorem inA_rule {Z H : Hp} {d e : D} {x y : V} {b : Bool} {Q : VK} (hu : X.A.units + 65 < cLine) (s : Sub Z H) (h1 : RepTop X.K Z H d x) (h2 : RepTop X.K Z H e y) (h : inA d e = some b) (neg : Bool) (q : Q (.bl (if neg then !b else b)) H) : oU X (compareOp (if neg then .NotIn else .In)) x y H Q := by
  unfold inA at h
  split at h
  · rename_i ps
    simp only [Option.map_eq_some_iff] at h
    obtain ⟨k, ek, rfl⟩ := h
    obtain ⟨a, us, rfl, q1, r1⟩ := h2.dct s
    cases keyD_top h1 ek
    refine ⟨_, op_inK (by omega) neg, a, _, rfl, DGet.k q1, ?_⟩
    have : (valV us k).isSome = (valA ps k).isSome := by
      have := valA_rep (k := k) r1
      cases e : valA ps k with
      | none => rw [this.2 e]; rfl
      | some d0 => obtain ⟨v, hv, _⟩ := this.1 _ e; rw [hv]; rfl
    rw [this]; exact q
  · exact in_rule hu s h1 h2 h neg q
theorem prim_inA (hu : X.A.units + 65 < cLine) : PrimOk X (r2 (oU X (compareOp .In))) pInA := by
  intro W Z H rs ds vs o Q g rv e q
  unfold pInA at e
  split at e
  · simp only [oB, Option.map_eq_some_iff] at e
    obtain ⟨b, e, rfl⟩ := e
    obtain ⟨x, y, rfl, hx, hy⟩ := tops2 rv
    exact inA_rule hu g.sub hx hy e false (fin_v g (by simp [RepD]) q)
  · cases e
theorem prim_notInA (hu : X.A.units + 65 < cLine) : PrimOk X (r2 (oU X (compareOp .NotIn))) pNotInA := by
  intro W Z H rs ds vs o Q g rv e q
  unfold pNotInA at e
  split at e
  · simp only [oB, Option.map_eq_some_iff] at e
    obtain ⟨b, ⟨b0, e, rfl⟩, rfl⟩ := e
    obtain ⟨x, y, rfl, hx, hy⟩ := tops2 rv
    exact inA_rule hu g.sub hx hy e true (fin_v g (by simp [RepD]) q)
  · cases e

/-! ### y[k] = e, y an own list or dict -/
def putA {α : Type} (ps : List (Key × α)) (k : Key) (v : α) : List (Key × α) := if ps.any (fun p => decide (p.1 = k)) then ps.map (fun p => if p.1 = k then (p.1, v) else p) else ps ++ [(k, v)]
theorem putA_map {α β : Type} (g : α → β) (ps : List (Key × α)) (k : Key) (v : α) : (putA ps k v).map (fun p => (p.1, g p.2)) = putA (ps.map fun p => (p.1, g p.2)) k (g v) := by
  have e : (ps.map fun p => (p.1, g p.2)).any (fun p => decide (p.1 = k)) = ps.any fun p => decide (p.1 = k) := by
    induction ps <;> simp_all
  unfold putA
  rw [e]
  split
  · rw [List.map_map, List.map_map]
    apply List.map_congr_left
    intro p _
    simp only [Function.comp]
    split <;> rfl
  · rw [List.map_append]; rfl
theorem putA_sub {α : Type} {k : Key} {v : α} : ∀ {ps : List (Key × α)}, (ps.map (·.1)).Nodup → ∃ l, ((putA ps k v).map (·.2)).Perm (v :: l) ∧ l.Sublist (ps.map (·.2)) := by
  intro ps nd
  unfold putA
  split
  · rename_i h
    induction ps with
    | nil => simp at h
    | cons p ps ih =>
      obtain ⟨j, x⟩ := p
      simp only [List.map_cons, List.nodup_cons] at nd
      by_cases hj : j = k
      · have same : ps.map (fun p => if p.1 = k then (p.1, v) else p) = ps := by
          have : ∀ p ∈ ps, (if p.1 = k then (p.1, v) else p) = p := fun p hp => by
            rw [if_neg]
            intro e
            exact nd.1 (by rw [hj, ← e]; exact List.mem_map_of_mem hp)
          exact (List.map_congr_left this).trans (List.map_id _)
        refine ⟨ps.map (·.2), ?_, List.sublist_cons_self _ _⟩
        simp only [List.map_cons, same, if_pos hj]
        exact .refl _
      · simp only [List.any_cons, hj, decide_false, Bool.false_or] at h
        obtain ⟨l, h1, h2⟩ := ih nd.2 h
        refine ⟨x :: l, ?_, h2.cons_cons x⟩
        simp only [List.map_cons, if_neg hj]
        exact (h1.cons x).trans (List.Perm.swap _ _ _)
  · refine ⟨ps.map (·.2), ?_, List.Sublist.refl _⟩
    rw [List.map_append, List.map_singleton]
    exact List.perm_append_comm
theorem putA_putK {kvs : List (Key × V)} {k : Key} {v : V} : putA kvs k v = putK kvs k v := rfl
theorem keys_map {α β : Type} (g : α → β) (ps : List (Key × α)) : (ps.map fun p => (p.1, g p.2)).map (·.1) = ps.map (·.1) := by rw [List.map_map]; rfl
/-- the slot i holds a list or dict of its own: its item at k becomes o -/
def setSub (i : Nat) (k : D) (o : O) (env : Env) : Option Env := match env[i]? with
  | some (some (.lst _ xs)) => (match k with
    | .int j => (ixN xs.length j).map fun n => env.set i (some (.lst () (xs.set n o)))
    | _ => none)
  | some (some (.dct _ ps)) => (keyD k).bind fun j => if (ps.map (·.1)).Nodup ∧ ps.length < sizeLine then some (env.set i (some (.dct () (putA ps j o)))) else none
  | _ => none
def tgoSub (i : Nat) (fk : Ev) : TgO := fun o env => match env[i]? with
  | some (some _) => (match fk env with
    | .ok p => setSub i p.1.toD o p.2
    | _ => none)
  | _ => none
def psU (X : Cx) : TSet := fun o i v H Q => ∃ t : TSet, PSet X t ∧ t o i v H Q
theorem ps_set_U : PSet X (psU X) := fun pins s σ H o i v ov iv u Q I ro ri rv ⟨_, h, q⟩ => h pins s σ H o i v ov iv u Q I ro ri rv q
theorem set_perm {α : Type} : ∀ {l : List α} {n : Nat} {x : α}, n < l.length → ∃ r, (l.set n x).Perm (x :: r) ∧ r.Sublist l
  | [], n, x, h => by simp at h
  | y :: l, 0, x, h => ⟨l, by simp, List.sublist_cons_self _ _⟩
  | y :: l, n + 1, x, h => by
    obtain ⟨r, h1, h2⟩ := set_perm (x := x) (show n < l.length by simpa using h)
    exact ⟨y :: r, by simp only [List.set_cons_succ]; exact (h1.cons y).trans (List.Perm.swap _ _ _), h2.cons_cons y⟩
theorem map_set {α β : Type} (g : α → β) : ∀ (l : List α) (n : Nat) (x : α), (l.set n x).map g = (l.map g).set n (g x)
  | [], n, x => by simp
  | y :: l, 0, x => by simp
  | y :: l, n + 1, x => by simp [map_set g l n x]
theorem setSub_ok {W : Wld} {Z H : Hp} {sl : Sl} {ts : List (Ow V)} {i : Nat} {k : D} {y : V} {oa : Ow V} {env : Env} {Q : Hp → Prop} (hu : X.A.units + 1 < cLine) (g : Good W X.K Z H (oa :: (roots sl ++ ts))) (hk : RepD X.K Z k y) (h : setSub i k oa.er (ers sl) = some env)
    (q : ∀ H' (sl' : Sl), Good W X.K Z H' (roots sl' ++ ts) → ers sl' = env → tops sl' = tops sl → Q H') : ∃ x, (tops sl)[i]? = some (some x) ∧ psU X x y oa.top H Q := by
  simp only [setSub] at h
  split at h
  · rename_i u xs h0
    split at h
    · rename_i j
      simp only [RepD] at hk
      subst hk
      simp only [Option.map_eq_some_iff] at h
      obtain ⟨n, hn, rfl⟩ := h
      obtain ⟨x1, ys1, hr1, ey⟩ := lst_slot (W := W) (Z := Z) (H := H) (ts := ts) h0
      have hlen : xs.length = ys1.length := by rw [← ey, Ow.ers_map, List.length_map]
      rw [hlen] at hn
      have hlt : n < ys1.length := (ixN_seq hn).2.1
      obtain ⟨r, p1, p2⟩ := set_perm (x := oa) hlt
      have p3 : (ys1.set n oa).Perm (r ++ [oa]) := p1.trans (List.perm_append_comm (l₁ := [oa]) (l₂ := r))
      obtain ⟨a, rfl, qa, g2, e2, t2⟩ := lst_put (rs := [oa]) (new := ys1.set n oa) hr1 g (.inr ⟨(r ++ [oa]) ++ (roots (sl.set i none) ++ ts), p3.append_right _, (p2.append (List.Sublist.refl _)).append (List.Sublist.refl _)⟩)
      exact ⟨_, tops_get hr1, _, set_list, a, _, j, n, rfl, rfl, qa, by rw [List.length_map]; exact hn, by
        rw [← map_set]
        exact q _ _ g2 (by rw [e2, ← ey, Ow.ers_map, map_set, Ow.ers_map]) t2⟩
    · cases h
  · rename_i u ps h0
    obtain ⟨j, ek, h⟩ := Option.bind_eq_some_iff.mp h
    split at h
    · rename_i hc
      cases h
      obtain ⟨r, hr, er⟩ := ers_get h0
      cases r with
      | dct x fs =>
        simp only [Ow.er, Ow.dct.injEq, true_and] at er
        have hl : i < sl.length := (List.getElem?_eq_some_iff.mp hr).1
        have g1 : Good W X.K Z H (.dct x fs :: (oa :: (roots (sl.set i none) ++ ts))) := (g.perm (((roots_out hr).append_right ts).cons oa)).perm (List.Perm.swap _ _ _)
        obtain ⟨a, rfl, qa, g2, hn, hz⟩ := g1.openK
        have nd : (fs.map (·.1)).Nodup := by
          have := hc.1
          rw [← er, Ow.erk_map, keys_map] at this
          exact this
        obtain ⟨l, l1, l2⟩ := putA_sub (k := j) (v := oa) nd
        have sb : ((putA fs j oa).map (·.2) ++ (roots (sl.set i none) ++ ts)).Perm (l ++ (oa :: (roots (sl.set i none) ++ ts))) := (l1.append_right _).trans List.perm_middle.symm
        have sb3 : (l ++ (oa :: (roots (sl.set i none) ++ ts))).Sublist (fs.map (·.2) ++ (oa :: (roots (sl.set i none) ++ ts))) := l2.append (List.Sublist.refl _)
        have g3 : Good W X.K Z H ((putA fs j oa).map (·.2) ++ (roots (sl.set i none) ++ ts)) := (g2.sublist sb3).perm sb.symm
        have hn3 : a ∉ Ow.fps ((putA fs j oa).map (·.2) ++ (roots (sl.set i none) ++ ts)) := fun hm => hn ((fps_sub sb3).subset ((fps_perm sb).mem_iff.mp hm))
        have g4 := Good.closeK g3 hn3 hz (.inr ⟨_, qa, rfl⟩)
        have top : RepTop X.K Z H k y := .inl hk
        cases keyD_top top ek
        refine ⟨_, tops_get hr, _, L2.set_dict hu, a, _, rfl, DPut.k qa ?_, ?_⟩
        · have := hc.2
          rw [← er, Ow.erk_map, List.length_map] at this
          rw [List.length_map]; exact this
        · rw [← putA_putK, ← putA_map Ow.top]
          refine q _ (sl.set i (some (.dct (.ref a) (putA fs j oa)))) (g4.perm ((roots_in (r := Ow.dct (.ref a) (putA fs j oa)) hl).append_right ts).symm) ?_ (tops_set_same hr rfl)
          rw [ers_set]
          simp only [Option.map_some, Ow.er, Ow.erk_map, putA_map, ← er]
      | v _ _ => simp [Ow.er] at er
      | lst _ _ => simp [Ow.er] at er
      | obj _ _ _ => simp [Ow.er] at er
    · cases h
  · cases h
variable {pos p0 : Pos} {i : Nat} {y : Str} {ek : Expr} {fk : Ev}
theorem sndgo_sub (hu : X.A.units + 1 < cLine) (hv : PE X (.Name y p0) (tVar i)) (hk : Snd P X ek fk)
    (ha : ∀ v, assign (.Subscript (.Name y p0) ek pos) X.env v = (do
      let ov ← holding [v] (eval (.Name y p0) X.env)
      let iv ← holding [v, ov] (eval ek X.env)
      standAt pos
      holding [v, ov, iv] (setItem ov iv v)
      release [v, ov, iv] []) := by intro _; rfl) : SndGO P X (.Subscript (.Name y p0) ek pos) (tgoSub i fk) [] := by
  intro W hW Z H sl ts oa Q g p
  refine ⟨_, pg_sub hv pe_U ps_set_U ha, ?_⟩
  simp only [tgoSub] at p
  split at p
  · rename_i o0 ho
    obtain ⟨r0, hr0, _⟩ := ers_get ho
    cases e1 : fk (ers sl) with
    | ok pr =>
      rw [e1] at p
      simp only at p
      cases e2 : setSub i pr.1.toD oa.er pr.2 with
      | none => rw [e2] at p; exact p.elim
      | some env =>
        rw [e2] at p
        have hx := tops_get hr0
        refine ⟨_, hx, ?_⟩
        refine hk W hW Z H sl (oa :: ts) _ (g.perm List.perm_middle.symm) ?_
        rw [e1]
        intro Z1 H1 sl1 s1 er1 t1 ob g1 eo
        obtain ⟨Z2, s2, g2⟩ := g1.freeze
        have rd := g2.v
        rw [← Ow.er_toD, eo] at rd
        rw [← er1] at e2
        obtain ⟨x', hx', hq⟩ := setSub_ok (i := i) (Q := fun H3 => Q (tops sl) H3) hu (g2.tail.perm List.perm_middle) rd e2 fun H' sl' g' e' t' => by
          have := p Z2 H' sl' (s1.trans s2) g' e' (KeepT.same (t'.trans t1))
          rwa [t', t1] at this
        rw [t1, hx] at hx'
        cases hx'
        exact hq
    | exc x env => rw [e1] at p; exact p.elim
    | bad => rw [e1] at p; exact p.elim
  · exact p.elim

/-! ### dict displays with texts for keys -/
def evDictV : List (Str × Ev) → Ea
  | [], env => .ok ([], env)
  | f :: fs, env => (f.2 env).bind fun o e1 => (evDictV fs e1).bind fun os e2 => .ok (o :: os, e2)
def zipK (ks : List Str) (os : List O) : List (Key × O) := List.zip (ks.map .inr) os
/-- distinct keys, at most 15 -/
def evDict (fs : List (Str × Ev)) : Ev := fun env => (evDictV fs env).bind fun os e => .ok (.dct () (zipK (fs.map (·.1)) os), e)
def evFrz (f : Ev) : Ev := fun env => (f env).bind fun o e => .ok (.v () o.toD, e)
theorem snd_frz {e : Expr} {f : Ev} (h : Snd P X e f) : Snd P X e (evFrz f) := by
  intro W hW Z H sl ts Q g p
  refine h W hW Z H sl ts _ g (PostR.imp (PostR.bind p) (List.Sublist.refl _) fun o Z1 H1 sl1 s1 t1 q oa g1 eo => ?_)
  obtain ⟨Z2, s2, g2⟩ := g1.freeze
  exact q Z2 H1 sl1 s2 rfl rfl (.v oa.top oa.toD) g2 (by rw [← eo, ← Ow.er_toD]; rfl)
/-- the pairs of a display -/
inductive Pairs (P : Pc) (X : Cx) (pos : Pos) : List (Option Expr) → List Expr → List (Str × Ev) → Prop
  | nil : Pairs P X pos [] [] []
  | cons {k : Str} {j : Nat} {pk : Pos} {v : Expr} {ks : List (Option Expr)} {vs : List Expr} {f : Ev} {fs : List (Str × Ev)} (h : Snd P X v f) (r : Pairs P X pos ks vs fs) : Pairs P X pos (some (.Constant (.str k) j pk) :: ks) (v :: vs) ((k, f) :: fs)
/-- readings of a display's pairs -/
def trsOf (X : Cx) : List (Option Expr) → List Expr → List (TE × TE)
  | some k :: ks, v :: vs => (tU X k, tU X v) :: trsOf X ks vs
  | _, _ => []
theorem pps_of {ks : List (Option Expr)} {vs : List Expr} {fs : List (Str × Ev)} (h : Pairs P X pos ks vs fs) : PPs X pos ks vs (trsOf X ks vs) := by
  induction h with
  | nil => exact pps_nil
  | cons h r ih => exact pps_cons pe_U pe_U ih
theorem pairs_run {W : Wld} (hW : P.ok W) {ks : List (Option Expr)} {vs : List Expr} {fs : List (Str × Ev)} (h : Pairs P X pos ks vs fs) : ∀ {Z H : Hp} {sl : Sl} {ts : List (Ow V)} {Q : List (V × V) → Hp → Prop}, Good W X.K Z H (roots sl ++ ts) →
    PostR W X sl ts Z (fun os Z' H' sl' => ∀ oas : List (Ow V), Good W X.K Z' H' (oas ++ (roots sl' ++ ts)) → oas.map Ow.er = os → oas.length = fs.length → Q (List.zip (fs.map fun p => V.str p.1) (oas.map Ow.top)) H') (evDictV fs (ers sl)) → tPairs (trsOf X ks vs) (tops sl) H Q := by
  induction h with
  | nil => intro Z H sl ts Q g p; exact p Z H sl (Sub.refl _) rfl rfl [] g rfl rfl
  | @cons k j pk v ks vs f fs h r ih =>
    intro Z H sl ts Q g p
    simp only [trsOf, tPairs]
    refine ⟨_, pe_str, ?_⟩
    simp only [evDictV] at p
    refine h W hW Z H sl ts _ g (PostR.imp (PostR.bind p) (List.Sublist.refl _) fun o Z1 H1 sl1 s1 t1 q oa g1 eo => ?_)
    rw [← t1]
    refine ih (Z := Z1) (H := H1) (sl := sl1) (ts := oa :: ts) (g1.perm List.perm_middle.symm) (PostR.imp (PostR.bind q) (List.sublist_cons_self _ _) fun os Z2 H2 sl2 s2 t2 q2 oas g2 eos hl => ?_)
    refine q2 Z2 H2 sl2 (Sub.refl _) rfl rfl (oa :: oas) ?_ (by rw [List.map_cons, eo, eos]) (by simp [hl])
    refine g2.perm ?_
    show (oas ++ (roots sl2 ++ oa :: ts)).Perm (oa :: (oas ++ (roots sl2 ++ ts)))
    rw [← List.append_assoc, ← List.append_assoc]
    exact List.perm_middle
theorem merge_nodup : ∀ {more kvs : List (Key × V)}, ((kvs ++ more).map (·.1)).Nodup → mergeK kvs more = kvs ++ more
  | [], kvs, _ => by simp [mergeK]
  | p :: more, kvs, h => by
    have hp : putK kvs p.1 p.2 = kvs ++ [p] := by
      unfold putK
      rw [if_neg]
      simp only [Bool.not_eq_true, List.any_eq_false, decide_eq_true_eq]
      intro x hx e
      rw [List.map_append, List.map_cons] at h
      exact (List.nodup_append.mp h).2.2 x.1 (List.mem_map_of_mem hx) p.1 List.mem_cons_self e
    have := merge_nodup (more := more) (kvs := kvs ++ [p]) (by simpa using h)
    simp only [mergeK, List.foldl_cons] at this ⊢
    rw [hp, this]
    simp
theorem zip_top {ks : List Str} {oas : List (Ow V)} : (List.zip (ks.map Sum.inr) oas : List (Key × Ow V)).map (fun p => (p.1, p.2.top)) = List.zip (ks.map Sum.inr) (oas.map Ow.top) := by
  induction ks generalizing oas with
  | nil => simp
  | cons k ks ih => cases oas <;> simp [ih]
theorem zip_er {ks : List Str} {oas : List (Ow V)} : Ow.erk (List.zip (ks.map Sum.inr) oas : List (Key × Ow V)) = zipK ks (oas.map Ow.er) := by
  induction ks generalizing oas with
  | nil => simp [zipK, Ow.erk]
  | cons k ks ih =>
    cases oas with
    | nil => simp [zipK, Ow.erk]
    | cons o oas => simp only [List.map_cons, List.zip_cons_cons, Ow.erk, zipK, ih]
theorem zip_snd {ks : List Str} {oas : List (Ow V)} (h : oas.length = ks.length) : (List.zip (ks.map Sum.inr) oas : List (Key × Ow V)).map (·.2) = oas := by
  induction ks generalizing oas with
  | nil => cases oas <;> simp_all
  | cons k ks ih =>
    cases oas with
    | nil => simp at h
    | cons o oas => simp at h; simp [ih h]
theorem zip_kv : ∀ {ks : List Str} {vs : List V}, List.zip (ks.map V.str) vs = (List.zip (ks.map Sum.inr) vs : List (Key × V)).map (fun kv => (kV kv.1, kv.2))
  | [], vs => by simp
  | k :: ks, [] => by simp
  | k :: ks, v :: vs => by simp [zip_kv (ks := ks) (vs := vs), kV]
theorem snd_dict {ks : List (Option Expr)} {vs : List Expr} {fs : List (Str × Ev)} (h : Pairs P X pos ks vs fs) (nd : (fs.map (·.1)).Nodup := by decide) (hall : ks.all (·.isSome) = true := by rfl) (hl : ks.length = vs.length := by rfl) (h0 : ks ≠ [] := by simp) (h15 : ks.length ≤ 15 := by decide) (hf : fs.length ≤ 15 := by decide) :
    Snd P X (.Dict ks vs pos) (evDict fs) := by
  intro W hW Z H sl ts Q g p
  refine ⟨_, pe_disp (pps_of h) hall hl h0 h15, fun pa hp => ?_⟩
  have g0 : Good W X.K Z (upd H pa (.dK [])) (.dct (.ref pa) [] :: (roots sl ++ ts)) := by
    have := Good.closeK (K := X.K) (fs := []) (rs := roots sl ++ ts) (a := pa) (by simpa using g) (by simpa using g.new hp) (Sub.none g.sub hp) (.inl hp)
    simpa using this
  refine pairs_run hW h (g0.perm List.perm_middle.symm) (PostR.imp (PostR.bind p) (List.sublist_cons_self _ _) fun os Z1 H1 sl1 s1 t1 q oas g1 eo hlen => ?_)
  have g2 : Good W X.K Z1 H1 (.dct (.ref pa) [] :: (oas ++ (roots sl1 ++ ts))) := by
    refine g1.perm ?_
    rw [← List.append_assoc, ← List.append_assoc]
    exact List.perm_middle
  obtain ⟨a, ea, qa, g3, hn, hz⟩ := g2.openK
  cases ea
  refine ⟨by simpa using qa, List.zip ((fs.map (·.1)).map Sum.inr) (oas.map Ow.top), ?_, ?_, ?_⟩
  · rw [← zip_kv, List.map_map]; rfl
  · rw [List.length_zip]; simp only [List.length_map]; omega
  · have nk : ((List.zip ((fs.map (·.1)).map Sum.inr) (oas.map Ow.top) : List (Key × V)).map (·.1)).Nodup := by
      have : (List.zip ((fs.map (·.1)).map Sum.inr) (oas.map Ow.top) : List (Key × V)).map (·.1) = (fs.map (·.1)).map Sum.inr := List.map_fst_zip (by simp [hlen])
      rw [this]
      exact List.pairwise_map.mpr (List.Pairwise.imp (fun h e => h (Sum.inr.inj e)) nd)
    rw [merge_nodup (by simpa using nk), List.nil_append, ← zip_top]
    have ez : (List.zip ((fs.map (·.1)).map Sum.inr) oas : List (Key × Ow V)).map (·.2) = oas := zip_snd (by simp [hlen])
    have g4 := Good.closeK (K := X.K) (fs := List.zip ((fs.map (·.1)).map Sum.inr) oas) (rs := roots sl1 ++ ts) (a := pa) (by rw [ez]; simpa using g3) (by rw [ez]; simpa using hn) hz (.inr ⟨_, qa, rfl⟩)
    refine q Z1 _ sl1 (Sub.refl _) rfl rfl _ g4 ?_
    simp only [Ow.er, zip_er, eo]
theorem snd_dict0 : Snd P X (.Dict [] [] pos) (evDict []) := by
  intro W hW Z H sl ts Q g p
  refine ⟨_, pe_dnewK, fun pa hp => ?_⟩
  have g0 : Good W X.K Z (upd H pa (.dK [])) (.dct (.ref pa) [] :: (roots sl ++ ts)) := by
    have := Good.closeK (K := X.K) (fs := []) (rs := roots sl ++ ts) (a := pa) (by simpa using g) (by simpa using g.new hp) (Sub.none g.sub hp) (.inl hp)
    simpa using this
  exact p Z _ sl (Sub.refl _) rfl rfl _ g0 rfl
end
end EV

set_option Elab.async false
set_option linter.all false
set_option maxRecDepth 100000
set_option maxHeartbeats 4000000
namespace EV
open PySem PySem.Spec PyProof.Rows L2
section
variable {X : Cx} {P : Pc}

/-! ### names -/
theorem nv {i : Nat} {x : Str} {pos : Pos} (h : X.N[i]? = some x := by rfl) (v : Vis X.env.scope x := by first | exact .inl rfl | exact .inr (.inl rfl) | exact .inr (.inr rfl)) (hd : (x == ("__debug__" : Str)) = false := by decide) (hc : (x == ("__classdict__" : Str)) = false := by decide) : PE X (.Name x pos) (tVar i) := pe_var h v hd hc
theorem snd_glob {x : Str} {v : V} {u : Value} {d : D} {pos : Pos} (hg : Gl X x) (hm : X.mg x = some u) (r : RelV v u) (rd : ∀ Z, RepD X.K Z d v) (hd : (x == ("__debug__" : Str)) = false := by decide) : Snd P X (.Name x pos) (evLit d) := snd_of_c (pe_glob hg hm r hd) rd

/-! ### all, any, sum, max, min of a list -/
def getBls : List D → Option (List Bool)
  | [] => some []
  | .bl b :: r => (getBls r).map (b :: ·)
  | _ => none
theorem getBls_rep {K : PySem.W.Frag} {Z : Hp} : ∀ {ds : List D} {vs : List V} {bs : List Bool}, RepDs K Z ds vs → getBls ds = some bs → vs = bs.map V.bl
  | [], vs, bs, h, e => by simp only [getBls, Option.some.injEq] at e; simp only [RepDs] at h; subst e h; rfl
  | d :: ds, vs, bs, h, e => by
    cases d with
    | bl b =>
      simp only [getBls, Option.map_eq_some_iff] at e
      obtain ⟨r, e, rfl⟩ := e
      simp only [RepDs] at h
      obtain ⟨x, rr, rfl, h1, h2⟩ := h
      simp only [RepD] at h1
      rw [h1, getBls_rep h2 e]; rfl
    | _ => simp [getBls] at e
def getInts : List D → Option (List Int)
  | [] => some []
  | .int b :: r => (getInts r).map (b :: ·)
  | _ => none
theorem getInts_rep {K : PySem.W.Frag} {Z : Hp} : ∀ {ds : List D} {vs : List V} {bs : List Int}, RepDs K Z ds vs → getInts ds = some bs → vs = bs.map V.int
  | [], vs, bs, h, e => by simp only [getInts, Option.some.injEq] at e; simp only [RepDs] at h; subst e h; rfl
  | d :: ds, vs, bs, h, e => by
    cases d with
    | int b =>
      simp only [getInts, Option.map_eq_some_iff] at e
      obtain ⟨r, e, rfl⟩ := e
      simp only [RepDs] at h
      obtain ⟨x, rr, rfl, h1, h2⟩ := h
      simp only [RepD] at h1
      rw [h1, getInts_rep h2 e]; rfl
    | _ => simp [getInts] at e
def pAll : List D → Option O
  | [.lst ds] => (getBls ds).map fun bs => .v () (.bl (bs.all id))
  | _ => none
def pAny : List D → Option O
  | [.lst ds] => (getBls ds).map fun bs => .v () (.bl (bs.any id))
  | _ => none
def pSumL : List D → Option O
  | [.lst ds] => (getInts ds).map fun ns => .v () (.int ns.sum)
  | _ => none
theorem prim_all (hc : X.calm = true) : PrimOk X (cU X (.builtin "all")) pAll := by
  intro W Z H rs ds vs o Q g rv e q
  unfold pAll at e
  split at e
  · simp only [Option.map_eq_some_iff] at e
    obtain ⟨bs, e, rfl⟩ := e
    obtain ⟨x, rfl, hx⟩ := tops1 rv
    obtain ⟨a, vs, rfl, q1, r1⟩ := top_seq g.sub hx
    have := getBls_rep r1 e
    subst this
    exact ⟨_, cr_all hc, a, bs, rfl, q1, fin_v g (by simp [RepD]) q⟩
  · cases e
theorem prim_any (hc : X.calm = true) : PrimOk X (cU X (.builtin "any")) pAny := by
  intro W Z H rs ds vs o Q g rv e q
  unfold pAny at e
  split at e
  · simp only [Option.map_eq_some_iff] at e
    obtain ⟨bs, e, rfl⟩ := e
    obtain ⟨x, rfl, hx⟩ := tops1 rv
    obtain ⟨a, vs, rfl, q1, r1⟩ := top_seq g.sub hx
    have := getBls_rep r1 e
    subst this
    exact ⟨_, cr_any hc, a, bs, rfl, q1, fin_v g (by simp [RepD]) q⟩
  · cases e
theorem prim_sumL (hc : X.calm = true) : PrimOk X (cU X (.builtin "sum")) pSumL := by
  intro W Z H rs ds vs o Q g rv e q
  unfold pSumL at e
  split at e
  · simp only [Option.map_eq_some_iff] at e
    obtain ⟨ns, e, rfl⟩ := e
    obtain ⟨x, rfl, hx⟩ := tops1 rv
    obtain ⟨a, vs, rfl, q1, r1⟩ := top_seq g.sub hx
    have := getInts_rep r1 e
    subst this
    exact ⟨_, cr_sum hc, a, ns, rfl, q1, fin_v g (by simp [RepD]) q⟩
  · cases e
/-- the greatest, the least -/
def maxI : List Int → Option Int
  | [] => none
  | n :: r => some (r.foldl max n)
def minI : List Int → Option Int
  | [] => none
  | n :: r => some (r.foldl min n)
theorem foldl_max {r : List Int} : ∀ {n : Int}, (r.foldl max n = n ∨ r.foldl max n ∈ r) ∧ n ≤ r.foldl max n ∧ ∀ y ∈ r, y ≤ r.foldl max n := by
  induction r with
  | nil => intro n; simp
  | cons a r ih =>
    intro n
    obtain ⟨h1, h2, h3⟩ := ih (n := max n a)
    simp only [List.foldl_cons]
    refine ⟨?_, by omega, ?_⟩
    · rcases h1 with h1 | h1
      · rcases Int.le_total n a with h | h
        · right; rw [h1]; rw [Int.max_eq_right h]; simp
        · left; rw [h1]; rw [Int.max_eq_left h]
      · exact .inr (List.mem_cons_of_mem _ h1)
    · intro y hy
      rcases List.mem_cons.mp hy with rfl | hy
      · omega
      · exact h3 y hy
theorem foldl_min {r : List Int} : ∀ {n : Int}, (r.foldl min n = n ∨ r.foldl min n ∈ r) ∧ r.foldl min n ≤ n ∧ ∀ y ∈ r, r.foldl min n ≤ y := by
  induction r with
  | nil => intro n; simp
  | cons a r ih =>
    intro n
    obtain ⟨h1, h2, h3⟩ := ih (n := min n a)
    simp only [List.foldl_cons]
    refine ⟨?_, by omega, ?_⟩
    · rcases h1 with h1 | h1
      · rcases Int.le_total n a with h | h
        · left; rw [h1]; rw [Int.min_eq_left h]
        · right; rw [h1]; rw [Int.min_eq_right h]; simp
      · exact .inr (List.mem_cons_of_mem _ h1)
    · intro y hy
      rcases List.mem_cons.mp hy with rfl | hy
      · omega
      · exact h3 y hy
theorem maxI_spec {ns : List Int} {m m' : Int} (h : maxI ns = some m) (h1 : m' ∈ ns) (h2 : ∀ y ∈ ns, y ≤ m') : m' = m := by
  cases ns with
  | nil => cases h
  | cons n r =>
    simp only [maxI, Option.some.injEq] at h
    obtain ⟨a1, a2, a3⟩ := foldl_max (r := r) (n := n)
    rw [h] at a1 a2 a3
    have hm : m ∈ n :: r := by
      rcases a1 with e | e
      · rw [e]; simp
      · exact List.mem_cons_of_mem _ e
    have u1 := h2 m hm
    rcases List.mem_cons.mp h1 with e | e
    · subst e; omega
    · have := a3 m' e; omega
theorem minI_spec {ns : List Int} {m m' : Int} (h : minI ns = some m) (h1 : m' ∈ ns) (h2 : ∀ y ∈ ns, m' ≤ y) : m' = m := by
  cases ns with
  | nil => cases h
  | cons n r =>
    simp only [minI, Option.some.injEq] at h
    obtain ⟨a1, a2, a3⟩ := foldl_min (r := r) (n := n)
    rw [h] at a1 a2 a3
    have hm : m ∈ n :: r := by
      rcases a1 with e | e
      · rw [e]; simp
      · exact List.mem_cons_of_mem _ e
    have u1 := h2 m hm
    rcases List.mem_cons.mp h1 with e | e
    · subst e; omega
    · have := a3 m' e; omega
def pMaxL : List D → Option O
  | [.lst ds] => (getInts ds).bind fun ns => (maxI ns).map fun m => .v () (.int m)
  | _ => none
def pMinL : List D → Option O
  | [.lst ds] => (getInts ds).bind fun ns => (minI ns).map fun m => .v () (.int m)
  | _ => none
theorem prim_maxL (hc : X.calm = true) : PrimOk X (cU X (.builtin "max")) pMaxL := by
  intro W Z H rs ds vs o Q g rv e q
  unfold pMaxL at e
  split at e
  · obtain ⟨ns, e1, e2⟩ := Option.bind_eq_some_iff.mp e
    simp only [Option.map_eq_some_iff] at e2
    obtain ⟨m, e2, rfl⟩ := e2
    obtain ⟨x, rfl, hx⟩ := tops1 rv
    obtain ⟨a, vs, rfl, q1, r1⟩ := top_seq g.sub hx
    have := getInts_rep r1 e1
    subst this
    refine ⟨_, cr_max hc, a, ns, rfl, q1, ?_, fun m' h1 h2 => ?_⟩
    · cases ns with
      | nil => cases e2
      | cons => simp
    · rw [maxI_spec e2 h1 h2]; exact fin_v g (by simp [RepD]) q
  · cases e
theorem prim_minL (hc : X.calm = true) : PrimOk X (cU X (.builtin "min")) pMinL := by
  intro W Z H rs ds vs o Q g rv e q
  unfold pMinL at e
  split at e
  · obtain ⟨ns, e1, e2⟩ := Option.bind_eq_some_iff.mp e
    simp only [Option.map_eq_some_iff] at e2
    obtain ⟨m, e2, rfl⟩ := e2
    obtain ⟨x, rfl, hx⟩ := tops1 rv
    obtain ⟨a, vs, rfl, q1, r1⟩ := top_seq g.sub hx
    have := getInts_rep r1 e1
    subst this
    refine ⟨_, cr_min hc, a, ns, rfl, q1, ?_, fun m' h1 h2 => ?_⟩
    · cases ns with
      | nil => cases e2
      | cons => simp
    · rw [minI_spec e2 h1 h2]; exact fin_v g (by simp [RepD]) q
  · cases e

end
/-! ### what is called: a def, a method, a class -/
section
variable {Pg : Program} {w : World} {K : PySem.W.Frag} {mg : Str → Option Value} {base : Heap} {T : List (Addr × Str)}
structure CalF (Pg : Program) (w : World) (K : PySem.W.Frag) (mg : Str → Option Value) (base : Heap) (T : List (Addr × Str)) (k : Nat) (x : Str) (n : Nat) (dd : List D) (F : Fn) : Prop where
  ex : ∃ (f : Addr) (fd : FuncData) (ps : List Str) (dvs : List V) (ds : List Value), mg x = some (.ref f) ∧ PySem.W.keepIn K (.ref f) = true ∧ L2.Binds K fd ps ds ∧ Vals dvs ds ∧ (∀ Z, RepDs K Z dd dvs) ∧ n + dvs.length = ps.length ∧ FnOk Pg w K mg base (L2.CX Pg w) k f fd ps (spOf T K ps.length F)
structure MetF (Pg : Program) (w : World) (K : PySem.W.Frag) (mg : Str → Option Value) (base : Heap) (T : List (Addr × Str)) (k : Nat) (c m : Str) (n : Nat) (dd : List D) (F : Fn) : Prop where
  ex : ∃ (f : Addr) (fd : FuncData) (ps : List Str) (dvs : List V) (ds : List Value), Cls K (He.ga K c) ∧ Meth K (He.ga K c) m f ∧ L2.Binds K fd ps ds ∧ Vals dvs ds ∧ (∀ Z, RepDs K Z dd dvs) ∧ n + 1 + dvs.length = ps.length ∧ FnOk Pg w K mg base (L2.CX Pg w) k f fd ps (spOf T K ps.length F)
structure MkF (Pg : Program) (w : World) (K : PySem.W.Frag) (mg : Str → Option Value) (base : Heap) (T : List (Addr × Str)) (k : Nat) (c : Str) (n : Nat) (dd : List D) (F : Fn) : Prop where
  ex : ∃ (f : Addr) (fd : FuncData) (ps : List Str) (dvs : List V) (ds : List Value), Mk K (He.ga K c) f ∧ mg c = some (.ref (He.ga K c)) ∧ L2.Binds K fd ps ds ∧ Vals dvs ds ∧ (∀ Z, RepDs K Z dd dvs) ∧ 1 + n + dvs.length = ps.length ∧ FnOk Pg w K mg base (L2.CX Pg w) k f fd ps (spOf T K ps.length F)
/-- an exception class with an __init__ that stores its parameters -/
structure XF (Pg : Program) (w : World) (K : PySem.W.Frag) (mg : Str → Option Value) (base : Heap) (c : Str) (fs : List Str) : Prop where
  ex : ∃ (f : Addr) (fd : FuncData) (ps : List Str), mg c = some (.ref (He.ga K c)) ∧ XCls K (He.ga K c) fs ∧ PySem.W.findIn K (.ref (He.ga K c)) "__init__" = some (some (.ref f)) ∧ PySem.W.typeIn K (.ref f) = some (.type "function") ∧ L2.Binds K fd ps [] ∧ FnOk Pg w K mg base (L2.CX Pg w) 1 f fd ps (spXI (He.ga K c) fs)
end
section
variable {X : Cx} {P : Pc} {k j n : Nat} {x m c y : Str} {p p0 pos pos' apos : Pos} {e o : Expr} {es : List Expr} {as : List Arg} {dd : List D} {F : Fn} {i : Nat} {fo : Ev}
theorem callF (C : CalF X.prog X.w X.K X.mg X.base P.T k x n dd F) (hr : Room j X.A) (hk : k ≤ j) (ha : SndA2 P X (e :: es) as) (hg : Gl X x := by rfl) (hn : as.length = n := by rfl) (hdb : (x == ("__debug__" : Str)) = false := by decide) (h1 : starEach (e :: es) X.env = (false, eval e X.env) :: starEach es X.env := by rfl) (h2 : (backTo pos (starEach es X.env)).any (·.1) = false := by rfl) :
    Snd P X (.Call (.Name x p) (e :: es) [] pos) (evCall F as dd) := by
  obtain ⟨f, fd, ps, dvs, ds, h3, h4, h5, h6, h7, h8, h9⟩ := C.ex
  exact snd_call h9 (hr.mono hk) hg h3 h4 h5 h6 h7 ha (by rw [hn]; exact h8) hdb h1 h2
theorem callF0 (C : CalF X.prog X.w X.K X.mg X.base P.T k x 0 dd F) (hr : Room j X.A) (hk : k ≤ j) (hg : Gl X x := by rfl) (hdb : (x == ("__debug__" : Str)) = false := by decide) : Snd P X (.Call (.Name x p) [] [] pos) (evCall F [] dd) := by
  obtain ⟨f, fd, ps, dvs, ds, h3, h4, h5, h6, h7, h8, h9⟩ := C.ex
  exact snd_call0 h9 (hr.mono hk) hg h3 h4 h5 h6 h7 (by omega) hdb
theorem methF {pl : Sem Bool} (C : MetF X.prog X.w X.K X.mg X.base P.T k c m n dd F) (hr : Room j X.A) (hk : k ≤ j) (ho : Snd P X o fo) (ha : SndA2 P X (e :: es) as) (hn : as.length = n := by rfl) (h1 : starEach (e :: es) X.env = (false, eval e X.env) :: starEach es X.env := by rfl) (h2 : (backTo pos (starEach es X.env)).any (·.1) = false := by rfl)
    (ht : eval (.Call (.Attribute o m apos) (e :: es) [] pos) X.env = (do
      let v ← eval o X.env
      standAt apos.atName
      let (g, first) ← holding [v] (getMethod v m pl)
      callWith pos g first (backTo pos (starEach (e :: es) X.env)) (backToKw pos (keywordEach [] X.env))) := by rfl) : Snd P X (.Call (.Attribute o m apos) (e :: es) [] pos) (evCall F (.e (evRecv c m fo) :: as) dd) := by
  obtain ⟨f, fd, ps, dvs, ds, h3, h4, h5, h6, h7, h8, h9⟩ := C.ex
  exact snd_meth (pl := pl) h3 h4 h9 (hr.mono hk) h5 h6 h7 ho ha (by rw [hn]; exact h8) h1 h2 ht
theorem methF0 {pl : Sem Bool} (C : MetF X.prog X.w X.K X.mg X.base P.T k c m 0 dd F) (hr : Room j X.A) (hk : k ≤ j) (ho : Snd P X o fo)
    (ht : eval (.Call (.Attribute o m apos) [] [] pos) X.env = (do
      let v ← eval o X.env
      standAt apos.atName
      let (g, first) ← holding [v] (getMethod v m pl)
      callWith pos g first (backTo pos (starEach [] X.env)) (backToKw pos (keywordEach [] X.env))) := by rfl) : Snd P X (.Call (.Attribute o m apos) [] [] pos) (evCall F [.e (evRecv c m fo)] dd) := by
  obtain ⟨f, fd, ps, dvs, ds, h3, h4, h5, h6, h7, h8, h9⟩ := C.ex
  exact snd_meth0 (pl := pl) h3 h4 h9 (hr.mono hk) h5 h6 h7 ho (by omega) ht
theorem methLF {pl : Sem Bool} (C : MetF X.prog X.w X.K X.mg X.base P.T k c m n dd F) (hr : Room j X.A) (hk : k ≤ j) (hv : PE X (.Name y p0) (tVar i)) (ha : SndA2 P X (e :: es) as) (hn : as.length = n := by rfl) (h1 : starEach (e :: es) X.env = (false, eval e X.env) :: starEach es X.env := by rfl) (h2 : (backTo pos (starEach es X.env)).any (·.1) = false := by rfl)
    (ht : eval (.Call (.Attribute (.Name y p0) m apos) (e :: es) [] pos) X.env = (do
      let v ← eval (.Name y p0) X.env
      standAt apos.atName
      let (g, first) ← holding [v] (getMethod v m pl)
      callWith pos g first (backTo pos (starEach (e :: es) X.env)) (backToKw pos (keywordEach [] X.env))) := by rfl) : Snd P X (.Call (.Attribute (.Name y p0) m apos) (e :: es) [] pos) (evMethL c m F i as dd) := by
  obtain ⟨f, fd, ps, dvs, ds, h3, h4, h5, h6, h7, h8, h9⟩ := C.ex
  exact snd_methL (pl := pl) hv h3 h4 h9 (hr.mono hk) h5 h6 h7 ha (by rw [hn]; exact h8) h1 h2 ht
theorem methLF0 {pl : Sem Bool} (C : MetF X.prog X.w X.K X.mg X.base P.T k c m 0 dd F) (hr : Room j X.A) (hk : k ≤ j) (hv : PE X (.Name y p0) (tVar i))
    (ht : eval (.Call (.Attribute (.Name y p0) m apos) [] [] pos) X.env = (do
      let v ← eval (.Name y p0) X.env
      standAt apos.atName
      let (g, first) ← holding [v] (getMethod v m pl)
      callWith pos g first (backTo pos (starEach [] X.env)) (backToKw pos (keywordEach [] X.env))) := by rfl) : Snd P X (.Call (.Attribute (.Name y p0) m apos) [] [] pos) (evMethL c m F i [] dd) := by
  obtain ⟨f, fd, ps, dvs, ds, h3, h4, h5, h6, h7, h8, h9⟩ := C.ex
  exact snd_methL0 (pl := pl) hv h3 h4 h9 (hr.mono hk) h5 h6 h7 (by omega) ht
theorem makeF (C : MkF X.prog X.w X.K X.mg X.base P.T k c n dd F) (hr : Room j X.A) (hk : k + 1 ≤ j) (ha : SndA2 P X (e :: es) as) (hg : Gl X c := by rfl) (hn : as.length = n := by rfl) (hdb : (c == ("__debug__" : Str)) = false := by decide) (h1 : starEach (e :: es) X.env = (false, eval e X.env) :: starEach es X.env := by rfl) (h2 : (backTo pos (starEach es X.env)).any (·.1) = false := by rfl) :
    Snd P X (.Call (.Name c p) (e :: es) [] pos) (evMake c F as dd) := by
  obtain ⟨f, fd, ps, dvs, ds, h3, h4, h5, h6, h7, h8, h9⟩ := C.ex
  exact snd_make h3 h9 (hr.mono hk) hg h4 h5 h6 h7 ha (by rw [hn]; exact h8) hdb h1 h2
theorem makeF0 (C : MkF X.prog X.w X.K X.mg X.base P.T k c 0 dd F) (hr : Room j X.A) (hk : k + 1 ≤ j) (hg : Gl X c := by rfl) (hdb : (c == ("__debug__" : Str)) = false := by decide) : Snd P X (.Call (.Name c p) [] [] pos) (evMake c F [] dd) := by
  obtain ⟨f, fd, ps, dvs, ds, h3, h4, h5, h6, h7, h8, h9⟩ := C.ex
  exact snd_make0 h3 h9 (hr.mono hk) hg h4 h5 h6 h7 (by omega) hdb
theorem raiseF {fs : List Str} {gs : List Ev} (C : XF X.prog X.w X.K X.mg X.base c fs) (hr : Room j X.A) (hk : 2 ≤ j) (hc : X.calm = true) (hd : SndDs P X (e :: es) gs) (hz : fs.length ≤ 100 := by decide) (hg : Gl X c := by rfl) (hdb : (c == ("__debug__" : Str)) = false := by decide) (h1 : starEach (e :: es) X.env = (false, eval e X.env) :: starEach es X.env := by rfl) (h2 : (backTo pos (starEach es X.env)).any (·.1) = false := by rfl) :
    SndS P X (.Raise (some (.Call (.Name c p) (e :: es) [] pos)) none pos') (evRaise c fs gs) [] := by
  obtain ⟨f, fd, ps, h3, h4, h5, h6, h7, h8⟩ := C.ex
  exact snds_raise hc h4 h5 h6 h8 (hr.mono hk) h7 hg h3 hd hz hdb h1 h2
end
end EV

set_option Elab.async false
set_option linter.all false
set_option maxRecDepth 100000
set_option maxHeartbeats 4000000
namespace EV
open PySem PySem.Spec PyProof.Rows L2
theorem u65 {k : Nat} {A : Around} (r : Room k A) : A.units + 65 < cLine := by have := r.un; omega
theorem u64 {k : Nat} {A : Around} (r : Room k A) : A.units + 64 < cLine := by have := r.un; omega
theorem u1 {k : Nat} {A : Around} (r : Room k A) : A.units + 1 < cLine := by have := r.un; omega
/-- the code object of the def at f -/
def codeAt (K : PySem.W.Frag) (f : Addr) : Value := match K.lookup f with
  | some ⟨_, _, .func fd, _⟩ => fd.code
  | _ => .none
def keepB (keep : List Bool) (as : List Nat) : Bool := as.all fun j => !(keep.getD j false)
theorem keep_of {keep : List Bool} {as : List Nat} (h : keepB keep as = true) : ∀ j, keep[j]? = some true → j ∉ as := fun j hj hm => by
  have := List.all_eq_true.mp h j hm
  rw [List.getD_eq_getElem?_getD, hj] at this
  simp at this
section
variable {Pg : Program} {T : List (Addr × Str)} {w : World} {K : PySem.W.Frag} {mg : Str → Option Value} {base : Heap}
theorem bad_ok {f : Addr} {fd : FuncData} {ps : List Str} {k : Nat} : FnOk Pg w K mg base (L2.CX Pg w) k f fd ps (spOf T K ps.length (fun _ => .bad)) := by
  refine ⟨fun vs H Q E h => h.1, ?_⟩
  intro A outer s H args us vs Q E hr e0 hb r h
  obtain ⟨_, W, Z, oas, ts, _, _, _, p⟩ := h
  exact p.elim
/-- def_ok, its code object known -/
theorem def_okC {x qual : Str} {params : Arguments} {body : List Stmt} {scope : Scope} {dvs : List V} {kws : List (Str × V)} {f : Addr} {fd : FuncData} {N ps : List Str} {k : Nat} {keep : List Bool} {g : Es} {as : List Nat}
    (F : FunD K x qual params body scope dvs kws f fd) (S : FnScope N ps scope) (hk : keep.length = ps.length) (has : keepB keep as = true)
    (hb : ∀ (A : Around) (outer : List PySem.Env) (s : Shared) (H : Hp) (E : XK), Room k (cxOf (L2.CX Pg w) Pg w K mg base N qual scope f (codeAt K f) A outer s H E).A → SndSs (pT T) (cxOf (L2.CX Pg w) Pg w K mg base N qual scope f (codeAt K f) A outer s H E) body g as) :
    FnOk Pg w K mg base (L2.CX Pg w) (k + 1) f fd ps (spOf T K ps.length (evDef keep N.length g)) := by
  obtain ⟨oc, od, dV, kV, doc, pm, an, cdv, ct, osl, rfl, lk, hcd, hD, hK⟩ := F.ex
  have ec : codeAt K f = cdv := by unfold codeAt; rw [lk]
  rw [ec] at hb
  have F2 : FunD K x qual params body scope dvs kws f (PySem.W.fnOf x qual params body scope dV kV doc pm an cdv ct) := F
  refine fn_of lk hcd S (fun vs H Q E h => h.1) (fun A outer s H vs Q E hr h => ?_)
  exact def_run (T := T) hk (keep_of has) (hb A outer s H E hr) h
end
end EV

set_option Elab.async false
set_option linter.all false
set_option maxRecDepth 100000
set_option maxHeartbeats 4000000
namespace EV
open PySem PySem.Spec PyProof.Rows L2
/-- a def of one parameter that calls it and tells what was raised -/
structure TelF (Pg : Program) (w : World) (K : PySem.W.Frag) (mg : Str → Option Value) (base : Heap) (x a : Str) (lst : Bool) (hs : List (Str × List HEl)) : Prop where
  ex : ∃ (g : Addr) (pg : Arguments) (bg : List Stmt) (sg : Scope) (dV kV doc pm cdv ct oc : Value) (an od : Option Addr) (osl : Array (Option Value)) (Ng : List Str), mg x = some (.ref g) ∧ PySem.W.keepIn K (.ref g) = true ∧
    K.lookup g = some ⟨oc, od, .func (PySem.W.fnOf x x pg bg sg dV kV doc pm an cdv ct), osl⟩ ∧ PySem.W.codeIn K cdv x = true ∧ L2.Binds K (PySem.W.fnOf x x pg bg sg dV kV doc pm an cdv ct) [a] [] ∧ FnScope Ng [a] sg ∧ Ng[0]? = some a ∧ Vis sg a ∧
    ∀ (X : Cx) (q : Str), X.prog = Pg → X.w = w → X.K = K → X.mg = mg → X.base = base → LamX.GivesTo X Ng x sg g cdv bg a q (TTx K lst (hs.map fun h => (He.ga K h.1, h.2)))
section
variable {Pg : Program} {w : World} {K : PySem.W.Frag} {mg : Str → Option Value} {base : Heap}
theorem telF_of {x a : Str} {lst : Bool} {hs : List (Str × List HEl)} {pg : Arguments} {bg : List Stmt} {sg : Scope} {g : Addr} {fd : FuncData} {Ng : List Str} (hm : mg x = some (.ref g)) (F : FunD K x x pg bg sg [] [] g fd) (S : FnScope Ng [a] sg) (h0 : Ng[0]? = some a) (va : Vis sg a)
    (hb : L2.Binds K fd [a] []) (hG : ∀ (cdv : Value) (X : Cx) (q : Str), X.prog = Pg → X.w = w → X.K = K → X.mg = mg → X.base = base → LamX.GivesTo X Ng x sg g cdv bg a q (TTx K lst (hs.map fun h => (He.ga K h.1, h.2)))) : TelF Pg w K mg base x a lst hs := by
  obtain ⟨oc, od, dV, kV, doc, pm, an, cdv, ct, osl, rfl, lk, hcd, hD, hK⟩ := F.ex
  exact ⟨g, pg, bg, sg, dV, kV, doc, pm, cdv, ct, oc, an, od, osl, Ng, hm, F.kp, lk, hcd, hb, S, h0, va, hG cdv⟩
end
theorem telF {P : Pc} {X : Cx} {lst : Bool} {hs : List (Str × List HEl)} {fb : Ev} {x a : Str} {c Pt : Addr} {k : Nat} {params : Arguments} {body : Expr} {scope : Scope} {p lpos pos : Pos} (cs : List Str) (C : TelF X.prog X.w X.K X.mg X.base x a lst hs)
    (TB : LamX.TabB X.base X.mg c Pt) (hcode : X.env.code = .ref c) (hmT : (Pt, X.env.qual ++ "<lambda>") ∈ P.T) (hu : ∀ p ∈ P.T, p.1 = Pt → p.2 = X.env.qual ++ "<lambda>") (hr : Room (k + 2) X.A)
    (hx : ∀ c ∈ cs, ∀ h ∈ hs, PySem.W.exmOne X.K (.ref (He.ga X.K c)) (.ref (He.ga X.K h.1)) = some (decide (c = h.1)))
    (hbody : ∀ (A : Around) (outer : List PySem.Env) (s : Shared) (H : Hp) (E : XK) (f c' : Addr), Room k (LamX.lamCx X A outer s H E scope f c').A → Snd P (LamX.lamCx X A outer s H E scope f c') body fb)
    (L : LamX.LamS X.env.scope scope := by exact LamX.lamS_by (by kernel_rfl)) (hdef : defaultsOf params X.env = ([], []) := by rfl)
    (hbind : ∀ (q : Str) (cl : List (Str × Addr)) (pm cv ctv : Value), bindArgs (PySem.W.kla_fn "<lambda>" q params body scope cl pm cv ctv) ⟨[], []⟩ = pure [] := by intros; rfl)
    (hg : Gl X x := by rfl) (hdb : (x == ("__debug__" : Str)) = false := by decide) (hd : (a == ("__debug__" : Str)) = false := by decide) (hcd : (a == ("__classdict__" : Str)) = false := by decide) :
    Snd P X (.Call (.Name x p) [.Lambda params body scope lpos] [] pos) (evTell lst cs hs fb) := by
  obtain ⟨g, pg, bg, sg, dV, kV, doc, pm, cdv, ct, oc, an, od, osl, Ng, h1, h2, h3, h4, h5, h6, h7, h8, h9⟩ := C.ex
  exact snd_lam hg h1 h2 h3 h4 h5 h6 h7 h8 (h9 X _ rfl rfl rfl rfl rfl) TB hcode hmT hu hr L hdef hbind hx hbody hdb hd hcd
end EV

set_option Elab.async false
set_option linter.all false
set_option maxRecDepth 100000
set_option maxHeartbeats 4000000
namespace EV
open PySem PySem.Spec PyProof.Rows L2

/-! ### what the head sees of the classes -/
def oexB (K : PySem.W.Frag) (C : Addr) : Bool := (match K.lookup C with
  | some ⟨.type "type", _, .cls cd, sl⟩ => (match cd.mro, sl.toList, cd.hasDict with
    | .ref D :: bm, [_, _, _, _, some (.builtin n), _], true => D == C && (n == "ValueError.__new__" && (!cd.hasDel && PySem.HandSPX.refsVE bm))
    | _, _, _ => false)
  | _ => false) && (decide (PySem.W.findIn K (.ref C) "__setattr__" = some (some (.builtin "object.__setattr__"))) && (decide (PySem.W.subIn K (.ref C) (.type "BaseException") = some true) && (decide (PySem.W.typeIn K (.ref C) = some (.type "type")) && PySem.W.keepIn K (.ref C))))
theorem oexB_ok {K : PySem.W.Frag} {C : Addr} (h : oexB K C = true) : OexC K C := by
  obtain ⟨h1, h⟩ := Bool.and_eq_true_iff.mp h
  obtain ⟨h2, h⟩ := Bool.and_eq_true_iff.mp h
  obtain ⟨h3, h⟩ := Bool.and_eq_true_iff.mp h
  obtain ⟨h4, h5⟩ := Bool.and_eq_true_iff.mp h
  refine ⟨?_, of_decide_eq_true h2, of_decide_eq_true h3, of_decide_eq_true h4, h5⟩
  split at h1
  · rename_i dd cd sl lk
    split at h1
    · rename_i D bm k0 k1 k2 k3 n k5 hm hs hdict
      simp only [Bool.and_eq_true, beq_iff_eq, Bool.not_eq_true'] at h1
      obtain ⟨eD, en, hdel, hbm⟩ := h1
      obtain ⟨f1, f2, f3, f4, f5, f6, f7, f8, f9, f10, f11⟩ := cd
      dsimp only at hm hdel hdict
      subst hm hdel hdict eD en
      have es : sl = #[k0, k1, k2, k3, some (.builtin "ValueError.__new__"), k5] := by
        cases sl with
        | mk l =>
          simp only at hs
          rw [hs]
      subst es
      exact ⟨f1, f5, f4, f2, bm, f7, f8, f9, f10, dd, k0, k1, k2, k3, k5, lk, hbm⟩
    · cases h1
  · cases h1
def xclsB (K : PySem.W.Frag) (C f : Addr) (fs : List Str) : Bool := oexB K C && (fs.all (fun x => decide (PySem.W.findIn K (.ref C) x = some none)) && (decide (PySem.W.findIn K (.ref C) "__init__" = some (some (.ref f))) && decide (PySem.W.typeIn K (.ref f) = some (.type "function"))))
section
variable {Pg : Program} {w : World} {K : PySem.W.Frag} {mg : Str → Option Value} {base : Heap}
theorem xf_of {c qual : Str} {params : Arguments} {body : List Stmt} {scope : Scope} {f : Addr} {fd : FuncData} {N ps : List Str} {f0 : Str × Nat} {l : List (Str × Nat)} (hm : mg c = some (.ref (He.ga K c))) (hB : xclsB K (He.ga K c) f ((f0 :: l).map (·.1)) = true)
    (F : FunD K "__init__" qual params body scope [] [] f fd) (S : FnScope N ps scope) (hp : ps.length = l.length + 2) (hl : ((f0 :: l).map (·.2)) = List.range' 1 (l.length + 1)) (hl2 : l.length ≤ 800) (hbd : L2.Binds K fd ps [])
    (hb : ∀ (cdv : Value) (A : Around) (outer : List PySem.Env) (s : Shared) (H : Hp) (E : XK), XBody (cxOf (L2.CX Pg w) Pg w K mg base N qual scope f cdv A outer s H E) body (f0 :: l)) : XF Pg w K mg base c ((f0 :: l).map (·.1)) := by
  obtain ⟨h1, h⟩ := Bool.and_eq_true_iff.mp hB
  obtain ⟨h2, h⟩ := Bool.and_eq_true_iff.mp h
  obtain ⟨h3, h4⟩ := Bool.and_eq_true_iff.mp h
  have KC : XCls K (He.ga K c) ((f0 :: l).map (·.1)) := ⟨oexB_ok h1, fun x hx => of_decide_eq_true (List.all_eq_true.mp h2 x hx)⟩
  exact ⟨f, fd, ps, hm, KC, of_decide_eq_true h3, of_decide_eq_true h4, hbd, xinit_ok F S hp hl hl2 KC hb⟩
theorem cd_of {x qual : Str} {params : Arguments} {body : List Stmt} {scope : Scope} {dvs : List V} {kws : List (Str × V)} {p : Str × Option Str} {fd : FuncData} (F : FunD K x qual params body scope dvs kws (He.fAd K p) fd) : codeAt K (He.fAd K p) = .ref (He.cT K p).1 := by
  obtain ⟨oc, od, dV, kV, doc, pm, an, cdv, ct, osl, rfl, lk, hcd, hD, hK⟩ := F.ex
  obtain ⟨c, rfl⟩ := He.codeIn_ref hcd
  have e1 : codeAt K (He.fAd K p) = .ref c := by unfold codeAt; rw [lk]
  rw [e1]
  exact congrArg Value.ref (He.codeOf_eq lk rfl).symm
end
theorem ans_ty {K : PySem.W.Frag} {us : List Value} {ans : String → Option Bool} (h : ∀ n b, ans n = some b → PySem.W.kitAny K (.type n) us = some b) : AnsOk K us ans (fun _ => none) := ⟨h, fun _ _ e => nomatch e⟩
theorem fa_of {fa : List He.Fa} {K : PySem.W.Frag} (c : fa.all (fun f => f.ok K) = true) (i : Nat) {f : He.Fa} (h : fa[i]? = some f := by rfl) : f.ok K = true := List.all_eq_true.mp c f (List.mem_of_getElem? h)
theorem tup_const {K : PySem.W.Frag} {x : Str} {vs : List He.Dv} {ds : List D} (h : He.tupB K x vs = true) (r : ∀ Z, RepDs K Z ds (vs.map (He.Dv.v K))) : ∀ Z, RepD K Z (.tup ds) (.ref (He.ga K x)) := fun Z => by
  simp only [RepD]
  exact ⟨_, _, rfl, He.tupB_ok h Z, r Z⟩
end EV

set_option Elab.async false
set_option linter.all false
set_option maxRecDepth 100000
set_option maxHeartbeats 4000000
namespace EV
open PySem PySem.Spec PyProof.Rows L2
theorem codeO_mut {c : Addr} {q : Str} : isMut (LamX.CodeO c q) = false := rfl
theorem tabs_keep {T : List (Addr × Str)} {H H' : Hp} (t : LamX.Tabs T H) (e : ∀ b o, H b = some o → isMut o = false → H' b = some o) : LamX.Tabs T H' := fun p hp => by
  obtain ⟨ps, h1, h2, h3⟩ := t p hp
  refine ⟨ps, e _ _ h1 rfl, h2, fun pos cv hc => ?_⟩
  obtain ⟨c, e1, e2⟩ := h3 pos cv hc
  exact ⟨c, e1, e _ _ e2 codeO_mut⟩
/-- the world of a law: its tables of code objects -/
def wT (T : List (Addr × Str)) : Wld where
  T := T
  U := fun _ H => LamX.Tabs T H
  new := fun u hp => tabs_keep u fun b o e _ => by rw [upd_ne (ne_of_none e hp)]; exact e
  muta := fun u ha hm _ => tabs_keep u fun b o e ho => by
    rw [upd_ne]
    · exact e
    · intro z
      rw [z, ha] at e
      rw [← Option.some.inj e, hm] at ho
      cases ho
  grow := fun u _ _ => u
  tab := fun _ _ t => t
  tabs := fun u => u
/-- the law's promise -/
def spL (T : List (Addr × Str)) (K : PySem.W.Frag) (F : Nat → Fn) : Sp := fun vs H Q E => ∃ n, spOf T K 1 (F n) vs H Q E
theorem spL_script {T : List (Addr × Str)} {K : PySem.W.Frag} {F : Nat → Fn} {H : Hp} {a : Addr} {ns : List Int} (hT : LamX.Tabs T H) (hS : SqL K H a (ns.map V.int)) {n : Nat} {back : Env} (h : F n [.v () (.scr (ns.map .int))] = .ok (.v () (.bl true)) back) :
    spL T K F [.ref a] H (fun v _ => v = .bl true) fun _ _ _ => False := by
  have inR : ∀ Z, RepDs K Z (ns.map .int) (ns.map V.int) := fun Z => by
    clear hS h
    induction ns with
    | nil => simp [RepDs]
    | cons n ns ih => simp only [List.map_cons, RepDs]; exact ⟨_, _, rfl, by simp [RepD], ih⟩
  have fin : ∀ Z : Hp, Sub Z H → (∀ b ps, Z b ≠ some (.tbl ps)) → SqL K Z a (ns.map V.int) → spL T K F [.ref a] H (fun v _ => v = .bl true) fun _ _ _ => False := fun Z s nt q => by
    refine ⟨n, rfl, wT T, Z, [.v (.ref a) (.scr (ns.map .int))], [], rfl, rfl, ⟨hT, s, ?_, ?_, ?_, nt⟩, ?_⟩
    · simp only [List.append_nil, Reps, Rep, RepD]
      exact ⟨⟨a, _, rfl, q, inR Z⟩, trivial⟩
    · simp [Ow.fps, Ow.fp]
    · simp [Ow.fps, Ow.fp]
    · show PostF _ _ _ _ _ _ _ (F n [.v () (.scr (ns.map .int))])
      rw [h]
      intro Z' H' slb oa s' g eo eb ht
      cases oa with
      | v x d =>
        simp only [Ow.er, Ow.v.injEq, true_and] at eo
        subst eo
        have := g.v
        simp only [RepD] at this
        exact this
      | lst _ _ => simp [Ow.er] at eo
      | obj _ _ _ => simp [Ow.er] at eo
      | dct _ _ => simp [Ow.er] at eo
  rcases hS with (hS | ⟨o, hS⟩) | hS
  · refine fin (fun b => if b = a then H a else none) (fun b o e => ?_) (fun b ps e => ?_) (.inl (.inl (by simp [hS])))
    · dsimp only at e
      split at e
      · rename_i hb; rw [hb]; exact e
      · cases e
    · split at e
      · rw [hS] at e; cases e
      · cases e
  · refine fin (fun b => if b = a then H a else none) (fun b o e => ?_) (fun b ps e => ?_) (.inl (.inr ⟨o, by simp [hS]⟩))
    · dsimp only at e
      split at e
      · rename_i hb; rw [hb]; exact e
      · cases e
    · split at e
      · rw [hS] at e; cases e
      · cases e
  · exact fin (fun _ => none) (fun _ _ e => by cases e) (fun _ _ e => by cases e) (.inr hS)
theorem law_at {l : PySem.W.OpenLaw} {w : World} {K : PySem.W.Frag} {mg : Str → Option Value} {fa : Addr} {h : Heap} {k n0 : Nat} {x : Str} {fd : FuncData} {T : List (Addr × Str)} {cs : List (Addr × Addr)} {F : Nat → Fn}
    (hT : ∀ p ∈ cs, h.get? p.2 = some { cls := .none, data := .fields #[] }) (nT : ∀ p ∈ cs, K.lookup p.2 = none) (C : ∀ p ∈ cs, PySem.W.CodeHd h p.1 p.2) (hb : ∀ (s : Shared) (u : Value), BindsTo s fd ⟨[u], []⟩ [(x, u)])
    (hTm : ∀ p ∈ T, p.1 ∈ cs.map (·.2)) (law : ∀ ns : List Int, ns.length ≤ n0 → (∀ z ∈ ns, Builtin.Int.intBits z ≤ 1048576) → ∃ n back, F n [.v () (.scr (ns.map .int))] = .ok (.v () (.bl true)) back)
    (ok : ∀ base : Heap, K.In base → base.Ns mainGlobals mg → (∀ p ∈ cs, LamX.TabB base mg p.1 p.2) → ∀ n, FnOk l.prog w K mg base (L2.CX l.prog w) k fa fd [x] (spOf T K 1 (F n))) : LamX.LawAtS l w K (L2.CX l.prog w) k n0 x mg fa h := by
  refine ⟨fd, cs, spL T K F, hT, nT, C, hb, fun H a ns hl hbits hH hS => ?_, fun base KB G TB => ?_⟩
  · obtain ⟨n, back, e⟩ := law ns hl hbits
    refine spL_script (fun p hp => ?_) hS e
    obtain ⟨c, hc, ec⟩ := List.mem_map.mp (hTm p hp)
    have := hH c hc
    rw [ec] at this
    exact LamX.TabS.nil this
  · refine ⟨fun vs H Q E ⟨n, h⟩ => (ok base KB G TB n).len vs H Q E h, ?_⟩
    intro A outer s H args us vs Q E hr e0 hbd r ⟨n, h⟩
    exact (ok base KB G TB n).run A outer s H args us vs Q E hr e0 hbd r h
theorem cx_no {P : Program} {w : World} {H : Hp} {s : Shared} {e : Value} {s' : Shared} (h : L2.CX P w [] H s (fun _ _ _ => False) e s') : False := by
  obtain ⟨_, _, _, _, _, _, _, _, _, _, _, _, z⟩ := h
  exact z
end EV

set_option Elab.async false
set_option linter.all false
set_option maxRecDepth 100000
set_option maxHeartbeats 4000000
namespace EV
open PySem PySem.Spec PyProof.Rows L2
abbrev prg : Program := PySem.Challenge.pw_everycloth_k02_whole_tokens
def top (i : Nat) : Stmt := prg.main.body.getD i (.Pass ⟨0, 0, 0, 0⟩)
abbrev st_is_run_sign : Stmt := top 19
abbrev st_is_numeral : Stmt := top 20
abbrev st_kind_of : Stmt := top 21
abbrev st_is_name : Stmt := top 22
abbrev st_Scanner_init : Stmt := inClass (top 23) 0
abbrev st_Scanner_is_over : Stmt := inClass (top 23) 1
abbrev st_Scanner_skip : Stmt := inClass (top 23) 2
abbrev st_Scanner_pass_gap : Stmt := inClass (top 23) 3
abbrev st_Scanner_token : Stmt := inClass (top 23) 4
abbrev st_tokens : Stmt := top 24
abbrev st__law_pen : Stmt := top 26
abbrev st__law_draw : Stmt := top 27
abbrev st__law_pick : Stmt := top 28
abbrev st__law_shuffled : Stmt := top 29
abbrev st__law_name : Stmt := top 30
abbrev st__law_names : Stmt := top 31
abbrev st__law_same : Stmt := top 32
abbrev st__law_keys : Stmt := top 34
abbrev st__law_is_name : Stmt := top 35
abbrev st__law_is_number : Stmt := top 36
abbrev st__law_kind_of_word : Stmt := top 37
abbrev st__law_due : Stmt := top 38
abbrev st__law_is_told : Stmt := top 39
abbrev st_law : Stmt := top 40
def c_FIGURES : D := (.str "0123456789")
def c_KEYS : D := (.tup [(.str "cloth"), (.str "shafts"), (.str "threading"), (.str "tie"), (.str "treadling"), (.str "warp"), (.str "weft"), (.str "times"), (.str "and")])
def c_LETTERS : D := (.str "abcdefghijklmnopqrstuvwxyz")
def c_LONGEST_NAME : D := (.int 12)
def c_LONGEST_NUMBER : D := (.int 3)
def c_SIGNS : D := (.tup [(.str "{"), (.str "}"), (.str "("), (.str ")"), (.str ","), (.str ";"), (.str ":")])
def a_str : String → Option Bool := fun n => (PySem.W.kitAny [] (.type n) [.type "str"])
def w_str : Str → Option Bool := fun _ => none
def a_tuple : String → Option Bool := fun n => (PySem.W.kitAny [] (.type n) [.type "tuple"])
def w_tuple : Str → Option Bool := fun _ => none
def a_int : String → Option Bool := fun n => (PySem.W.kitAny [] (.type n) [.type "int"])
def w_int : Str → Option Bool := fun _ => none
def a_bool : String → Option Bool := fun n => (PySem.W.kitAny [] (.type n) [.type "bool"])
def w_bool : Str → Option Bool := fun _ => none
def Tk (K : PySem.W.Frag) : List (Addr × Str) := [((He.cT K ("_law_is_told", none)).2, ("_law_is_told" : Str) ++ ".<locals>." ++ "<lambda>"), ((He.cT K ("law", none)).2, ("law" : Str) ++ ".<locals>." ++ "<lambda>")]
abbrev csX : List Str := ["Misread"]
abbrev hs__law_why : List (Str × List HEl) := [("Misread", [.s "read", .f "line", .f "column"]), ("Misplaced", [.s "placed", .f "line", .f "column", .f "why", .f "name"]), ("BadText", [.s "text", .f "line", .f "word"]), ("BadName", [.u]), ("NotThere", [.u]), ("TakenName", [.u]), ("BadNumber", [.u]), ("BadRow", [.u]), ("Unlike", [.s "unlike", .f "what"]), ("TooMany", [.s "many", .f "what", .f "many", .f "limit"])]
abbrev st__law_why : Stmt := top 33
structure Hd (Pg : Program) (w : World) (K : PySem.W.Frag) (mg : Str → Option Value) (base : Heap) : Prop where
  fr_all : mg "all" = none
  fr_bool : mg "bool" = none
  fr_int : mg "int" = none
  fr_isinstance : mg "isinstance" = none
  fr_len : mg "len" = none
  fr_list : mg "list" = none
  fr_max : mg "max" = none
  fr_range : mg "range" = none
  fr_str : mg "str" = none
  fr_tuple : mg "tuple" = none
  fr_zip : mg "zip" = none
  gl_BadName : mg "BadName" = some (.ref (He.ga K "BadName"))
  gl_BadNumber : mg "BadNumber" = some (.ref (He.ga K "BadNumber"))
  gl_BadRow : mg "BadRow" = some (.ref (He.ga K "BadRow"))
  gl_BadText : mg "BadText" = some (.ref (He.ga K "BadText"))
  gl_Misplaced : mg "Misplaced" = some (.ref (He.ga K "Misplaced"))
  gl_Misread : mg "Misread" = some (.ref (He.ga K "Misread"))
  gl_NotThere : mg "NotThere" = some (.ref (He.ga K "NotThere"))
  gl_Scanner : mg "Scanner" = some (.ref (He.ga K "Scanner"))
  gl_TakenName : mg "TakenName" = some (.ref (He.ga K "TakenName"))
  gl_TooMany : mg "TooMany" = some (.ref (He.ga K "TooMany"))
  gl_Unlike : mg "Unlike" = some (.ref (He.ga K "Unlike"))
  gl__law_draw : mg "_law_draw" = some (.ref (He.ga K "_law_draw"))
  gl__law_due : mg "_law_due" = some (.ref (He.ga K "_law_due"))
  gl__law_is_name : mg "_law_is_name" = some (.ref (He.ga K "_law_is_name"))
  gl__law_is_number : mg "_law_is_number" = some (.ref (He.ga K "_law_is_number"))
  gl__law_is_told : mg "_law_is_told" = some (.ref (He.ga K "_law_is_told"))
  gl__law_keys : mg "_law_keys" = some (.ref (He.ga K "_law_keys"))
  gl__law_kind_of_word : mg "_law_kind_of_word" = some (.ref (He.ga K "_law_kind_of_word"))
  gl__law_name : mg "_law_name" = some (.ref (He.ga K "_law_name"))
  gl__law_names : mg "_law_names" = some (.ref (He.ga K "_law_names"))
  gl__law_pen : mg "_law_pen" = some (.ref (He.ga K "_law_pen"))
  gl__law_pick : mg "_law_pick" = some (.ref (He.ga K "_law_pick"))
  gl__law_same : mg "_law_same" = some (.ref (He.ga K "_law_same"))
  gl__law_shuffled : mg "_law_shuffled" = some (.ref (He.ga K "_law_shuffled"))
  gl__law_why : mg "_law_why" = some (.ref (He.ga K "_law_why"))
  gl_is_name : mg "is_name" = some (.ref (He.ga K "is_name"))
  gl_is_numeral : mg "is_numeral" = some (.ref (He.ga K "is_numeral"))
  gl_is_run_sign : mg "is_run_sign" = some (.ref (He.ga K "is_run_sign"))
  gl_kind_of : mg "kind_of" = some (.ref (He.ga K "kind_of"))
  gl_law : mg "law" = some (.ref (He.ga K "law"))
  gl_tokens : mg "tokens" = some (.ref (He.ga K "tokens"))
  cs_FIGURES : ∃ t, mg "FIGURES" = some (.str "0123456789" t)
  cs_KEYS : mg "KEYS" = some (.ref (He.ga K "KEYS")) ∧ ∀ Z, RepD K Z c_KEYS (.ref (He.ga K "KEYS"))
  cs_LETTERS : ∃ t, mg "LETTERS" = some (.str "abcdefghijklmnopqrstuvwxyz" t)
  cs_LONGEST_NAME : ∃ t, mg "LONGEST_NAME" = some (.int 12 t)
  cs_LONGEST_NUMBER : ∃ t, mg "LONGEST_NUMBER" = some (.int 3 t)
  cs_SIGNS : mg "SIGNS" = some (.ref (He.ga K "SIGNS")) ∧ ∀ Z, RepD K Z c_SIGNS (.ref (He.ga K "SIGNS"))
  fd_is_run_sign : ∃ fd, FunD K "is_run_sign" "is_run_sign" (defArgs st_is_run_sign) (defBody st_is_run_sign) (defScope st_is_run_sign) [] [] (He.ga K "is_run_sign") fd
  fd_is_numeral : ∃ fd, FunD K "is_numeral" "is_numeral" (defArgs st_is_numeral) (defBody st_is_numeral) (defScope st_is_numeral) [] [] (He.ga K "is_numeral") fd
  fd_kind_of : ∃ fd, FunD K "kind_of" "kind_of" (defArgs st_kind_of) (defBody st_kind_of) (defScope st_kind_of) [] [] (He.ga K "kind_of") fd
  fd_is_name : ∃ fd, FunD K "is_name" "is_name" (defArgs st_is_name) (defBody st_is_name) (defScope st_is_name) [] [] (He.ga K "is_name") fd
  fd_Scanner_init : ∃ fd, FunD K "__init__" "Scanner.__init__" (defArgs st_Scanner_init) (defBody st_Scanner_init) (defScope st_Scanner_init) [] [] (He.ma K (He.ga K "Scanner") "__init__") fd
  mk_Scanner : Mk K (He.ga K "Scanner") (He.ma K (He.ga K "Scanner") "__init__")
  fd_Scanner_is_over : ∃ fd, FunD K "is_over" "Scanner.is_over" (defArgs st_Scanner_is_over) (defBody st_Scanner_is_over) (defScope st_Scanner_is_over) [] [] (He.ma K (He.ga K "Scanner") "is_over") fd
  me_Scanner_is_over : Meth K (He.ga K "Scanner") "is_over" (He.ma K (He.ga K "Scanner") "is_over")
  fd_Scanner_skip : ∃ fd, FunD K "skip" "Scanner.skip" (defArgs st_Scanner_skip) (defBody st_Scanner_skip) (defScope st_Scanner_skip) [] [] (He.ma K (He.ga K "Scanner") "skip") fd
  me_Scanner_skip : Meth K (He.ga K "Scanner") "skip" (He.ma K (He.ga K "Scanner") "skip")
  fd_Scanner_pass_gap : ∃ fd, FunD K "pass_gap" "Scanner.pass_gap" (defArgs st_Scanner_pass_gap) (defBody st_Scanner_pass_gap) (defScope st_Scanner_pass_gap) [] [] (He.ma K (He.ga K "Scanner") "pass_gap") fd
  me_Scanner_pass_gap : Meth K (He.ga K "Scanner") "pass_gap" (He.ma K (He.ga K "Scanner") "pass_gap")
  fd_Scanner_token : ∃ fd, FunD K "token" "Scanner.token" (defArgs st_Scanner_token) (defBody st_Scanner_token) (defScope st_Scanner_token) [] [] (He.ma K (He.ga K "Scanner") "token") fd
  me_Scanner_token : Meth K (He.ga K "Scanner") "token" (He.ma K (He.ga K "Scanner") "token")
  fd_tokens : ∃ fd, FunD K "tokens" "tokens" (defArgs st_tokens) (defBody st_tokens) (defScope st_tokens) [] [] (He.ga K "tokens") fd
  fd__law_pen : ∃ fd, FunD K "_law_pen" "_law_pen" (defArgs st__law_pen) (defBody st__law_pen) (defScope st__law_pen) [] [] (He.ga K "_law_pen") fd
  fd__law_draw : ∃ fd, FunD K "_law_draw" "_law_draw" (defArgs st__law_draw) (defBody st__law_draw) (defScope st__law_draw) [] [] (He.ga K "_law_draw") fd
  fd__law_pick : ∃ fd, FunD K "_law_pick" "_law_pick" (defArgs st__law_pick) (defBody st__law_pick) (defScope st__law_pick) [] [] (He.ga K "_law_pick") fd
  fd__law_shuffled : ∃ fd, FunD K "_law_shuffled" "_law_shuffled" (defArgs st__law_shuffled) (defBody st__law_shuffled) (defScope st__law_shuffled) [] [] (He.ga K "_law_shuffled") fd
  fd__law_name : ∃ fd, FunD K "_law_name" "_law_name" (defArgs st__law_name) (defBody st__law_name) (defScope st__law_name) [] [] (He.ga K "_law_name") fd
  fd__law_names : ∃ fd, FunD K "_law_names" "_law_names" (defArgs st__law_names) (defBody st__law_names) (defScope st__law_names) [] [] (He.ga K "_law_names") fd
  fd__law_same : ∃ fd, FunD K "_law_same" "_law_same" (defArgs st__law_same) (defBody st__law_same) (defScope st__law_same) [] [] (He.ga K "_law_same") fd
  fd__law_keys : ∃ fd, FunD K "_law_keys" "_law_keys" (defArgs st__law_keys) (defBody st__law_keys) (defScope st__law_keys) [] [] (He.ga K "_law_keys") fd
  fd__law_is_name : ∃ fd, FunD K "_law_is_name" "_law_is_name" (defArgs st__law_is_name) (defBody st__law_is_name) (defScope st__law_is_name) [] [] (He.ga K "_law_is_name") fd
  fd__law_is_number : ∃ fd, FunD K "_law_is_number" "_law_is_number" (defArgs st__law_is_number) (defBody st__law_is_number) (defScope st__law_is_number) [] [] (He.ga K "_law_is_number") fd
  fd__law_kind_of_word : ∃ fd, FunD K "_law_kind_of_word" "_law_kind_of_word" (defArgs st__law_kind_of_word) (defBody st__law_kind_of_word) (defScope st__law_kind_of_word) [] [] (He.ga K "_law_kind_of_word") fd
  fd__law_due : ∃ fd, FunD K "_law_due" "_law_due" (defArgs st__law_due) (defBody st__law_due) (defScope st__law_due) [] [] (He.ga K "_law_due") fd
  fd__law_is_told : ∃ fd, FunD K "_law_is_told" "_law_is_told" (defArgs st__law_is_told) (defBody st__law_is_told) (defScope st__law_is_told) [] [] (He.ga K "_law_is_told") fd
  fd_law : ∃ fd, FunD K "law" "law" (defArgs st_law) (defBody st_law) (defScope st_law) [] [] (He.ga K "law") fd
  cl_Scanner : Cls K (He.ga K "Scanner")
  na_Scanner_at : NoAttr K (He.ga K "Scanner") "at"
  na_Scanner_column : NoAttr K (He.ga K "Scanner") "column"
  na_Scanner_line : NoAttr K (He.ga K "Scanner") "line"
  na_Scanner_text : NoAttr K (He.ga K "Scanner") "text"
  tb__law_is_told : LamX.TabB base mg (He.cT K ("_law_is_told", none)).1 (He.cT K ("_law_is_told", none)).2
  cd__law_is_told : codeAt K (He.ga K "_law_is_told") = .ref (He.cT K ("_law_is_told", none)).1
  tb_law : LamX.TabB base mg (He.cT K ("law", none)).1 (He.cT K ("law", none)).2
  cd_law : codeAt K (He.ga K "law") = .ref (He.cT K ("law", none)).1
  ne__law_is_told_law : (He.cT K ("_law_is_told", none)).2 ≠ (He.cT K ("law", none)).2
  ne_law__law_is_told : (He.cT K ("law", none)).2 ≠ (He.cT K ("_law_is_told", none)).2
  fd__law_why : ∃ fd, FunD K "_law_why" "_law_why" (defArgs st__law_why) (defBody st__law_why) (defScope st__law_why) [] [] (He.ga K "_law_why") fd
  ex__law_why : ∀ c ∈ csX, ∀ h ∈ hs__law_why, PySem.W.exmOne K (.ref (He.ga K c)) (.ref (He.ga K h.1)) = some (decide (c = h.1))
  xfc_BadName : XfC K (He.ga K "BadName")
  xfc_BadNumber : XfC K (He.ga K "BadNumber")
  xfc_BadRow : XfC K (He.ga K "BadRow")
  nf_BadText_line : PySem.W.findIn K (.ref (He.ga K "BadText")) "line" = some none
  nf_BadText_word : PySem.W.findIn K (.ref (He.ga K "BadText")) "word" = some none
  xfc_BadText : XfC K (He.ga K "BadText")
  nf_Misplaced_column : PySem.W.findIn K (.ref (He.ga K "Misplaced")) "column" = some none
  nf_Misplaced_line : PySem.W.findIn K (.ref (He.ga K "Misplaced")) "line" = some none
  nf_Misplaced_name : PySem.W.findIn K (.ref (He.ga K "Misplaced")) "name" = some none
  nf_Misplaced_why : PySem.W.findIn K (.ref (He.ga K "Misplaced")) "why" = some none
  xfc_Misplaced : XfC K (He.ga K "Misplaced")
  nf_Misread_column : PySem.W.findIn K (.ref (He.ga K "Misread")) "column" = some none
  nf_Misread_line : PySem.W.findIn K (.ref (He.ga K "Misread")) "line" = some none
  xfc_Misread : XfC K (He.ga K "Misread")
  xfc_NotThere : XfC K (He.ga K "NotThere")
  xfc_TakenName : XfC K (He.ga K "TakenName")
  nf_TooMany_limit : PySem.W.findIn K (.ref (He.ga K "TooMany")) "limit" = some none
  nf_TooMany_many : PySem.W.findIn K (.ref (He.ga K "TooMany")) "many" = some none
  nf_TooMany_what : PySem.W.findIn K (.ref (He.ga K "TooMany")) "what" = some none
  xfc_TooMany : XfC K (He.ga K "TooMany")
  nf_Unlike_what : PySem.W.findIn K (.ref (He.ga K "Unlike")) "what" = some none
  xfc_Unlike : XfC K (He.ga K "Unlike")
  xf_Misread : XF Pg w K mg base "Misread" ["line", "column"]
  an_str : AnsOk K [.type "str"] a_str w_str
  an_tuple : AnsOk K [.type "tuple"] a_tuple w_tuple
  an_int : AnsOk K [.type "int"] a_int w_int
  an_bool : AnsOk K [.type "bool"] a_bool w_bool
section
variable {Pg : Program} {w : World} {K : PySem.W.Frag} {mg : Str → Option Value} {base : Heap} {T : List (Addr × Str)}
theorem fldok_at (h : Hd Pg w K mg base) : FldOk K ["Scanner"] "at" := by
  intro c hc
  simp only [List.mem_cons, List.not_mem_nil, or_false] at hc
  rcases hc with rfl
  · exact ⟨h.cl_Scanner, h.na_Scanner_at⟩
theorem fldok1_Scanner_at (h : Hd Pg w K mg base) : FldOk K ["Scanner"] "at" := by
  intro c hc
  simp only [List.mem_cons, List.not_mem_nil, or_false] at hc
  subst hc
  exact ⟨h.cl_Scanner, h.na_Scanner_at⟩
theorem fldok_column (h : Hd Pg w K mg base) : FldOk K ["Scanner"] "column" := by
  intro c hc
  simp only [List.mem_cons, List.not_mem_nil, or_false] at hc
  rcases hc with rfl
  · exact ⟨h.cl_Scanner, h.na_Scanner_column⟩
theorem fldok1_Scanner_column (h : Hd Pg w K mg base) : FldOk K ["Scanner"] "column" := by
  intro c hc
  simp only [List.mem_cons, List.not_mem_nil, or_false] at hc
  subst hc
  exact ⟨h.cl_Scanner, h.na_Scanner_column⟩
theorem fldok_line (h : Hd Pg w K mg base) : FldOk K ["Scanner"] "line" := by
  intro c hc
  simp only [List.mem_cons, List.not_mem_nil, or_false] at hc
  rcases hc with rfl
  · exact ⟨h.cl_Scanner, h.na_Scanner_line⟩
theorem fldok1_Scanner_line (h : Hd Pg w K mg base) : FldOk K ["Scanner"] "line" := by
  intro c hc
  simp only [List.mem_cons, List.not_mem_nil, or_false] at hc
  subst hc
  exact ⟨h.cl_Scanner, h.na_Scanner_line⟩
theorem fldok_text (h : Hd Pg w K mg base) : FldOk K ["Scanner"] "text" := by
  intro c hc
  simp only [List.mem_cons, List.not_mem_nil, or_false] at hc
  rcases hc with rfl
  · exact ⟨h.cl_Scanner, h.na_Scanner_text⟩
theorem fldok1_Scanner_text (h : Hd Pg w K mg base) : FldOk K ["Scanner"] "text" := by
  intro c hc
  simp only [List.mem_cons, List.not_mem_nil, or_false] at hc
  subst hc
  exact ⟨h.cl_Scanner, h.na_Scanner_text⟩
theorem memT__law_is_told (h : Hd Pg w K mg base) : ((He.cT K ("_law_is_told", none)).2, ("_law_is_told" : Str) ++ ".<locals>." ++ "<lambda>") ∈ (pT (Tk K)).T := List.mem_cons_self
theorem onlyT__law_is_told (h : Hd Pg w K mg base) : ∀ p ∈ (pT (Tk K)).T, p.1 = (He.cT K ("_law_is_told", none)).2 → p.2 = ("_law_is_told" : Str) ++ ".<locals>." ++ "<lambda>" := by
  intro p hp e
  simp only [pT, Tk, List.mem_cons, List.not_mem_nil, or_false] at hp
  rcases hp with rfl | rfl
  · rfl
  · exact absurd e h.ne_law__law_is_told
theorem memT_law (h : Hd Pg w K mg base) : ((He.cT K ("law", none)).2, ("law" : Str) ++ ".<locals>." ++ "<lambda>") ∈ (pT (Tk K)).T := (List.mem_cons_of_mem _ List.mem_cons_self)
theorem onlyT_law (h : Hd Pg w K mg base) : ∀ p ∈ (pT (Tk K)).T, p.1 = (He.cT K ("law", none)).2 → p.2 = ("law" : Str) ++ ".<locals>." ++ "<lambda>" := by
  intro p hp e
  simp only [pT, Tk, List.mem_cons, List.not_mem_nil, or_false] at hp
  rcases hp with rfl | rfl
  · exact absurd e h.ne__law_is_told_law
  · rfl
theorem sc__law_why : FnScope ["call", "found", "error"] ["call"] (defScope st__law_why) := ⟨rfl, rfl, rfl, by decide +kernel, rfl, by decide +kernel, by decide +kernel⟩
theorem tel__law_why (h : Hd Pg w K mg base) : TelF Pg w K mg base "_law_why" "call" true hs__law_why := by
  obtain ⟨fd, F⟩ := h.fd__law_why
  refine telF_of h.gl__law_why F sc__law_why rfl (.inl rfl) (F.bindsN fun _ _ _ _ _ _ us hl => match us, hl with | [_], _ => rfl) (fun cdv X q e1 e2 e3 e4 e5 => ?_)
  subst e1 e2 e3 e4 e5
  exact tellL_gives (i := 2) (j := 1) sc__law_why.nd rfl rfl rfl rfl (by decide) (by decide) (fun _ _ _ _ _ => nv) (fun _ _ _ => nv) (fun s H => (.consL rfl ⟨rfl, by decide, .inl h.gl_Misread⟩ h.xfc_Misread (.s (.f h.nf_Misread_line (by rfl) (.f h.nf_Misread_column (by rfl) .nil))) (by rfl) (.consL rfl ⟨rfl, by decide, .inl h.gl_Misplaced⟩ h.xfc_Misplaced (.s (.f h.nf_Misplaced_line (by rfl) (.f h.nf_Misplaced_column (by rfl) (.f h.nf_Misplaced_why (by rfl) (.f h.nf_Misplaced_name (by rfl) .nil))))) (by rfl) (.consL rfl ⟨rfl, by decide, .inl h.gl_BadText⟩ h.xfc_BadText (.s (.f h.nf_BadText_line (by rfl) (.f h.nf_BadText_word (by rfl) .nil))) (by rfl) (.never ⟨rfl, by decide, .inl h.gl_BadName⟩ h.xfc_BadName (.never ⟨rfl, by decide, .inl h.gl_NotThere⟩ h.xfc_NotThere (.never ⟨rfl, by decide, .inl h.gl_TakenName⟩ h.xfc_TakenName (.never ⟨rfl, by decide, .inl h.gl_BadNumber⟩ h.xfc_BadNumber (.never ⟨rfl, by decide, .inl h.gl_BadRow⟩ h.xfc_BadRow (.consL rfl ⟨rfl, by decide, .inl h.gl_Unlike⟩ h.xfc_Unlike (.s (.f h.nf_Unlike_what (by rfl) .nil)) (by rfl) (.consL rfl ⟨rfl, by decide, .inl h.gl_TooMany⟩ h.xfc_TooMany (.s (.f h.nf_TooMany_what (by rfl) (.f h.nf_TooMany_many (by rfl) (.f h.nf_TooMany_limit (by rfl) .nil)))) (by rfl) .nil)))))))))))
theorem gl_FIGURES {X : Cx} {P : Pc} {pos : Pos} (h : Hd Pg w X.K X.mg base) (hg : Gl X "FIGURES") : Snd P X (.Name "FIGURES" pos) (evLit c_FIGURES) := by
  obtain ⟨t, e⟩ := h.cs_FIGURES
  exact snd_glob (v := .str "0123456789") hg e ⟨t, rfl⟩ (fun _ => by simp [c_FIGURES, RepD])
theorem gl_KEYS {X : Cx} {P : Pc} {pos : Pos} (h : Hd Pg w X.K X.mg base) (hg : Gl X "KEYS") : Snd P X (.Name "KEYS" pos) (evLit c_KEYS) := by
  exact snd_glob (v := .ref (He.ga X.K "KEYS")) hg h.cs_KEYS.1 rfl h.cs_KEYS.2
theorem gl_LETTERS {X : Cx} {P : Pc} {pos : Pos} (h : Hd Pg w X.K X.mg base) (hg : Gl X "LETTERS") : Snd P X (.Name "LETTERS" pos) (evLit c_LETTERS) := by
  obtain ⟨t, e⟩ := h.cs_LETTERS
  exact snd_glob (v := .str "abcdefghijklmnopqrstuvwxyz") hg e ⟨t, rfl⟩ (fun _ => by simp [c_LETTERS, RepD])
theorem gl_LONGEST_NAME {X : Cx} {P : Pc} {pos : Pos} (h : Hd Pg w X.K X.mg base) (hg : Gl X "LONGEST_NAME") : Snd P X (.Name "LONGEST_NAME" pos) (evLit c_LONGEST_NAME) := by
  obtain ⟨t, e⟩ := h.cs_LONGEST_NAME
  exact snd_glob (v := .int 12) hg e ⟨t, rfl⟩ (fun _ => by simp [c_LONGEST_NAME, RepD])
theorem gl_LONGEST_NUMBER {X : Cx} {P : Pc} {pos : Pos} (h : Hd Pg w X.K X.mg base) (hg : Gl X "LONGEST_NUMBER") : Snd P X (.Name "LONGEST_NUMBER" pos) (evLit c_LONGEST_NUMBER) := by
  obtain ⟨t, e⟩ := h.cs_LONGEST_NUMBER
  exact snd_glob (v := .int 3) hg e ⟨t, rfl⟩ (fun _ => by simp [c_LONGEST_NUMBER, RepD])
theorem gl_SIGNS {X : Cx} {P : Pc} {pos : Pos} (h : Hd Pg w X.K X.mg base) (hg : Gl X "SIGNS") : Snd P X (.Name "SIGNS" pos) (evLit c_SIGNS) := by
  exact snd_glob (v := .ref (He.ga X.K "SIGNS")) hg h.cs_SIGNS.1 rfl h.cs_SIGNS.2
/-! is_run_sign -/
def g_is_run_sign (n : Nat) : Es := (evRet (evVor (evPrim pInA [.r 0, .e (evLit c_LETTERS)]) (evPrim pInA [.r 0, .e (evLit c_FIGURES)])))
def as_is_run_sign : List Nat := []
def F_is_run_sign (n : Nat) : Fn := evDef [true] 1 (g_is_run_sign n)
theorem sc_is_run_sign : FnScope ["sign"] ["sign"] (defScope st_is_run_sign) := ⟨rfl, rfl, rfl, by decide +kernel, rfl, by decide +kernel, by decide +kernel⟩
theorem b_is_run_sign (n : Nat) (h : Hd Pg w K mg base)  (A : Around) (outer : List PySem.Env) (s : Shared) (H : Hp) (E : XK) (hr : Room 0 (cxOf (L2.CX Pg w) Pg w K mg base ["sign"] "is_run_sign" (defScope st_is_run_sign) (He.ga K "is_run_sign") (codeAt K (He.ga K "is_run_sign")) A outer s H E).A) :
    SndSs (pT (Tk K)) (cxOf (L2.CX Pg w) Pg w K mg base ["sign"] "is_run_sign" (defScope st_is_run_sign) (He.ga K "is_run_sign") (codeAt K (He.ga K "is_run_sign")) A outer s H E) (defBody st_is_run_sign) (g_is_run_sign n) as_is_run_sign := by
  have sc := sc_is_run_sign
  exact (snds_one (snds_ret (snd_or (snd_prim (sh_cmp op_U (by rfl)) (sndo_r nv (sndo_e (gl_LETTERS h rfl) sndo_nil)) (prim_inA (u65 hr))) (snd_one (snd_prim (sh_cmp op_U (by rfl)) (sndo_r nv (sndo_e (gl_FIGURES h rfl) sndo_nil)) (prim_inA (u65 hr)))))))
theorem ok_is_run_sign (n : Nat) (h : Hd Pg w K mg base) : CalF Pg w K mg base (Tk K) 1 "is_run_sign" 1 [] (F_is_run_sign n) := by
  obtain ⟨fd, F⟩ := h.fd_is_run_sign
  exact ⟨_, fd, ["sign"], [], [], h.gl_is_run_sign, F.kp, (F.bindsN fun _ _ _ _ _ _ us hl => match us, hl with | [_], _ => rfl), .nil, fun _ => by simp [RepDs], rfl, def_okC (as := as_is_run_sign) F sc_is_run_sign rfl (by decide) (fun A outer s H E hr => b_is_run_sign n h  A outer s H E hr)⟩
/-! is_numeral -/
def g_is_numeral (n : Nat) : Es := (evSeq (evIf (evTor (evTnot (evTest (evPrim pAll [.e (evLc [1] (evItE (evVar 0)) (tgName 1) evTrue (evPrim pInA [.r 1, .e (evLit c_FIGURES)]))]))) (evPrimT (pCmp gtI) [.e (evPrim pLen [.r 0]), .e (evLit c_LONGEST_NUMBER)])) (evRet (evLit (.bl false))) evNil) (evRet (evVor (evPrim pEq [.r 0, .e (evLit (.str "0"))]) (evPrim pNe [.e (evPrim pIxA [.r 0, .e (evLit (.int 0))]), .e (evLit (.str "0"))]))))
def as_is_numeral : List Nat := (([] ++ []) ++ [])
def F_is_numeral (n : Nat) : Fn := evDef [true] 2 (g_is_numeral n)
theorem sc_is_numeral : FnScope ["run", "sign"] ["run"] (defScope st_is_numeral) := ⟨rfl, rfl, rfl, by decide +kernel, rfl, by decide +kernel, by decide +kernel⟩
theorem b_is_numeral (n : Nat) (h : Hd Pg w K mg base)  (A : Around) (outer : List PySem.Env) (s : Shared) (H : Hp) (E : XK) (hr : Room 0 (cxOf (L2.CX Pg w) Pg w K mg base ["run", "sign"] "is_numeral" (defScope st_is_numeral) (He.ga K "is_numeral") (codeAt K (He.ga K "is_numeral")) A outer s H E).A) :
    SndSs (pT (Tk K)) (cxOf (L2.CX Pg w) Pg w K mg base ["run", "sign"] "is_numeral" (defScope st_is_numeral) (He.ga K "is_numeral") (codeAt K (He.ga K "is_numeral")) A outer s H E) (defBody st_is_numeral) (g_is_numeral n) as_is_numeral := by
  have sc := sc_is_numeral
  exact (snds_cons (snds_if (SndW.t (sndw_or (sndt_not (sndt_truth (snd_prim (sh_callB rfl h.fr_all boot_all) (sndo_e (snd_lc rfl sc.nd (own := [("sign", 1)]) (blkOk_by (by kernel_rfl)) (sndi_e (snd_var nv)) (fun _ _ _ _ _ => (sndg_name rfl sc.nd (.inl rfl))) (fun _ _ _ _ _ => sndts_nil) (fun _ _ _ _ _ => (snd_prim (sh_cmp op_U (by rfl)) (sndo_r nv (sndo_e (gl_FIGURES h rfl) sndo_nil)) (prim_inA (u65 hr)))) (by decide) (by decide)) sndo_nil) (prim_all rfl)))) (sndw_or1 (sndt_prim (sh_cmpT op_U (by rfl)) (sndo_e (snd_prim (sh_callB rfl h.fr_len boot_len) (sndo_r nv sndo_nil) prim_len) (sndo_e (gl_LONGEST_NUMBER h rfl) sndo_nil)) prim_gt)))) (snds_one (snds_ret snd_bl)) snds_nil) (snds_one (snds_ret (snd_or (snd_prim (sh_cmp op_U (by rfl)) (sndo_r nv (sndo_e snd_str sndo_nil)) (prim_eq (u64 hr))) (snd_one (snd_prim (sh_cmp op_U (by rfl)) (sndo_e (snd_prim (sh_ix ix_U (fun _ _ => rfl)) (sndo_r nv (sndo_e snd_int sndo_nil)) (prim_ixA (u1 hr))) (sndo_e snd_str sndo_nil)) (prim_ne (u64 hr))))))))
theorem ok_is_numeral (n : Nat) (h : Hd Pg w K mg base) : CalF Pg w K mg base (Tk K) 1 "is_numeral" 1 [] (F_is_numeral n) := by
  obtain ⟨fd, F⟩ := h.fd_is_numeral
  exact ⟨_, fd, ["run"], [], [], h.gl_is_numeral, F.kp, (F.bindsN fun _ _ _ _ _ _ us hl => match us, hl with | [_], _ => rfl), .nil, fun _ => by simp [RepDs], rfl, def_okC (as := as_is_numeral) F sc_is_numeral rfl (by decide) (fun A outer s H E hr => b_is_numeral n h  A outer s H E hr)⟩
/-! kind_of -/
def g_kind_of (n : Nat) : Es := (evSeq (evIf (evPrimT pInA [.r 0, .e (evLit c_KEYS)]) (evRet (evLit (.str "key"))) evNil) (evSeq (evIf (evPrimT pInA [.e (evPrim pIxA [.r 0, .e (evLit (.int 0))]), .e (evLit c_LETTERS)]) (evRet (evIfe (evPrimT (pCmp leI) [.e (evPrim pLen [.r 0]), .e (evLit c_LONGEST_NAME)]) (evLit (.str "name")) (evLit .non))) evNil) (evRet (evIfe (evTest (evCall (F_is_numeral n) [.l 0] [])) (evLit (.str "number")) (evLit .non)))))
def as_kind_of : List Nat := (([] ++ []) ++ (([] ++ []) ++ []))
def F_kind_of (n : Nat) : Fn := evDef [true] 1 (g_kind_of n)
theorem sc_kind_of : FnScope ["run"] ["run"] (defScope st_kind_of) := ⟨rfl, rfl, rfl, by decide +kernel, rfl, by decide +kernel, by decide +kernel⟩
theorem b_kind_of (n : Nat) (h : Hd Pg w K mg base) (c_is_numeral : CalF Pg w K mg base (Tk K) 1 "is_numeral" 1 [] (F_is_numeral n)) (A : Around) (outer : List PySem.Env) (s : Shared) (H : Hp) (E : XK) (hr : Room 1 (cxOf (L2.CX Pg w) Pg w K mg base ["run"] "kind_of" (defScope st_kind_of) (He.ga K "kind_of") (codeAt K (He.ga K "kind_of")) A outer s H E).A) :
    SndSs (pT (Tk K)) (cxOf (L2.CX Pg w) Pg w K mg base ["run"] "kind_of" (defScope st_kind_of) (He.ga K "kind_of") (codeAt K (He.ga K "kind_of")) A outer s H E) (defBody st_kind_of) (g_kind_of n) as_kind_of := by
  have sc := sc_kind_of
  exact (snds_cons (snds_if (sndt_prim (sh_cmpT op_U (by rfl)) (sndo_r nv (sndo_e (gl_KEYS h rfl) sndo_nil)) (prim_inA (u65 hr))) (snds_one (snds_ret snd_str)) snds_nil) (snds_cons (snds_if (sndt_prim (sh_cmpT op_U (by rfl)) (sndo_e (snd_prim (sh_ix ix_U (fun _ _ => rfl)) (sndo_r nv (sndo_e snd_int sndo_nil)) (prim_ixA (u1 hr))) (sndo_e (gl_LETTERS h rfl) sndo_nil)) (prim_inA (u65 hr))) (snds_one (snds_ret (snd_ife (sndt_prim (sh_cmpT op_U (by rfl)) (sndo_e (snd_prim (sh_callB rfl h.fr_len boot_len) (sndo_r nv sndo_nil) prim_len) (sndo_e (gl_LONGEST_NAME h rfl) sndo_nil)) prim_le) snd_str snd_non))) snds_nil) (snds_one (snds_ret (snd_ife (sndt_truth (callF c_is_numeral hr (by decide) (snda_l nv snda_nil))) snd_str snd_non)))))
theorem ok_kind_of (n : Nat) (h : Hd Pg w K mg base) : CalF Pg w K mg base (Tk K) 2 "kind_of" 1 [] (F_kind_of n) := by
  obtain ⟨fd, F⟩ := h.fd_kind_of
  exact ⟨_, fd, ["run"], [], [], h.gl_kind_of, F.kp, (F.bindsN fun _ _ _ _ _ _ us hl => match us, hl with | [_], _ => rfl), .nil, fun _ => by simp [RepDs], rfl, def_okC (as := as_kind_of) F sc_kind_of rfl (by decide) (fun A outer s H E hr => b_kind_of n h (ok_is_numeral n h) A outer s H E hr)⟩
/-! is_name -/
def g_is_name (n : Nat) : Es := (evSeq (evIf (evTor (evTnot (evTest (evPrim (pIsi a_str w_str) [.r 0]))) (evTor (evPrimT pEq [.r 0, .e (evLit (.str ""))]) (evTnot (evTest (evPrim pAll [.e (evLc [1] (evItE (evVar 0)) (tgName 1) evTrue (evCall (F_is_run_sign n) [.l 1] []))]))))) (evRet (evLit (.bl false))) evNil) (evRet (evPrim pEq [.e (evCall (F_kind_of n) [.l 0] []), .e (evLit (.str "name"))])))
def as_is_name : List Nat := (([] ++ []) ++ [])
def F_is_name (n : Nat) : Fn := evDef [true] 2 (g_is_name n)
theorem sc_is_name : FnScope ["value", "sign"] ["value"] (defScope st_is_name) := ⟨rfl, rfl, rfl, by decide +kernel, rfl, by decide +kernel, by decide +kernel⟩
theorem b_is_name (n : Nat) (h : Hd Pg w K mg base) (c_is_run_sign : CalF Pg w K mg base (Tk K) 1 "is_run_sign" 1 [] (F_is_run_sign n)) (c_kind_of : CalF Pg w K mg base (Tk K) 2 "kind_of" 1 [] (F_kind_of n)) (A : Around) (outer : List PySem.Env) (s : Shared) (H : Hp) (E : XK) (hr : Room 2 (cxOf (L2.CX Pg w) Pg w K mg base ["value", "sign"] "is_name" (defScope st_is_name) (He.ga K "is_name") (codeAt K (He.ga K "is_name")) A outer s H E).A) :
    SndSs (pT (Tk K)) (cxOf (L2.CX Pg w) Pg w K mg base ["value", "sign"] "is_name" (defScope st_is_name) (He.ga K "is_name") (codeAt K (He.ga K "is_name")) A outer s H E) (defBody st_is_name) (g_is_name n) as_is_name := by
  have sc := sc_is_name
  exact (snds_cons (snds_if (SndW.t (sndw_or (sndt_not (sndt_truth (snd_prim (sh_isi rfl h.fr_isinstance (pe_bltn (v := .ty "str") rfl h.fr_str boot_str rfl) (.ty _)) (sndo_r nv sndo_nil) (prim_isi h.an_str)))) (sndw_or (sndt_prim (sh_cmpT op_U (by rfl)) (sndo_r nv (sndo_e snd_str sndo_nil)) (prim_eq (u64 hr))) (sndw_or1 (sndt_not (sndt_truth (snd_prim (sh_callB rfl h.fr_all boot_all) (sndo_e (snd_lc rfl sc.nd (own := [("sign", 1)]) (blkOk_by (by kernel_rfl)) (sndi_e (snd_var nv)) (fun _ _ _ _ _ => (sndg_name rfl sc.nd (.inl rfl))) (fun _ _ _ _ _ => sndts_nil) (fun _ _ _ _ _ => (callF c_is_run_sign hr (by decide) (snda_l nv snda_nil))) (by decide) (by decide)) sndo_nil) (prim_all rfl)))))))) (snds_one (snds_ret snd_bl)) snds_nil) (snds_one (snds_ret (snd_prim (sh_cmp op_U (by rfl)) (sndo_e (callF c_kind_of hr (by decide) (snda_l nv snda_nil)) (sndo_e snd_str sndo_nil)) (prim_eq (u64 hr))))))
theorem ok_is_name (n : Nat) (h : Hd Pg w K mg base) : CalF Pg w K mg base (Tk K) 3 "is_name" 1 [] (F_is_name n) := by
  obtain ⟨fd, F⟩ := h.fd_is_name
  exact ⟨_, fd, ["value"], [], [], h.gl_is_name, F.kp, (F.bindsN fun _ _ _ _ _ _ us hl => match us, hl with | [_], _ => rfl), .nil, fun _ => by simp [RepDs], rfl, def_okC (as := as_is_name) F sc_is_name rfl (by decide) (fun A outer s H E hr => b_is_name n h (ok_is_run_sign n h) (ok_kind_of n h) A outer s H E hr)⟩
/-! Scanner.__init__ -/
def g_Scanner_init (n : Nat) : Es := (evSeq (evFldSet ["Scanner"] "text" 0 (evVar 1)) (evSeq (evFldSet ["Scanner"] "at" 0 (evLit (.int 0))) (evSeq (evFldSet ["Scanner"] "line" 0 (evLit (.int 1))) (evFldSet ["Scanner"] "column" 0 (evLit (.int 1))))))
def as_Scanner_init : List Nat := ([] ++ ([] ++ ([] ++ [])))
def F_Scanner_init (n : Nat) : Fn := evDef [true, true] 2 (g_Scanner_init n)
theorem sc_Scanner_init : FnScope ["self", "text"] ["self", "text"] (defScope st_Scanner_init) := ⟨rfl, rfl, rfl, by decide +kernel, rfl, by decide +kernel, by decide +kernel⟩
theorem b_Scanner_init (n : Nat) (h : Hd Pg w K mg base)  (A : Around) (outer : List PySem.Env) (s : Shared) (H : Hp) (E : XK) (hr : Room 0 (cxOf (L2.CX Pg w) Pg w K mg base ["self", "text"] "Scanner.__init__" (defScope st_Scanner_init) (He.ma K (He.ga K "Scanner") "__init__") (codeAt K (He.ma K (He.ga K "Scanner") "__init__")) A outer s H E).A) :
    SndSs (pT (Tk K)) (cxOf (L2.CX Pg w) Pg w K mg base ["self", "text"] "Scanner.__init__" (defScope st_Scanner_init) (He.ma K (He.ga K "Scanner") "__init__") (codeAt K (He.ma K (He.ga K "Scanner") "__init__")) A outer s H E) (defBody st_Scanner_init) (g_Scanner_init n) as_Scanner_init := by
  have sc := sc_Scanner_init
  exact (snds_cons (snds_fld nv (fldok_text h) (snd_var nv)) (snds_cons (snds_fld nv (fldok_at h) snd_int) (snds_cons (snds_fld nv (fldok_line h) snd_int) (snds_one (snds_fld nv (fldok_column h) snd_int)))))
theorem ok_Scanner_init (n : Nat) (h : Hd Pg w K mg base) : MkF Pg w K mg base (Tk K) 1 "Scanner" 1 [] (F_Scanner_init n) := by
  obtain ⟨fd, F⟩ := h.fd_Scanner_init
  exact ⟨_, fd, ["self", "text"], [], [], h.mk_Scanner, h.gl_Scanner, (F.bindsN fun _ _ _ _ _ _ us hl => match us, hl with | [_, _], _ => rfl), .nil, fun _ => by simp [RepDs], rfl, def_okC (as := as_Scanner_init) F sc_Scanner_init rfl (by decide) (fun A outer s H E hr => b_Scanner_init n h  A outer s H E hr)⟩
/-! Scanner.is_over -/
def g_Scanner_is_over (n : Nat) : Es := (evRet (evPrim pEq [.e (evFldL ["Scanner"] "at" 0), .e (evPrim pLen [.e (evFldL ["Scanner"] "text" 0)])]))
def as_Scanner_is_over : List Nat := []
def F_Scanner_is_over (n : Nat) : Fn := evDef [true] 1 (g_Scanner_is_over n)
theorem sc_Scanner_is_over : FnScope ["self"] ["self"] (defScope st_Scanner_is_over) := ⟨rfl, rfl, rfl, by decide +kernel, rfl, by decide +kernel, by decide +kernel⟩
theorem b_Scanner_is_over (n : Nat) (h : Hd Pg w K mg base)  (A : Around) (outer : List PySem.Env) (s : Shared) (H : Hp) (E : XK) (hr : Room 0 (cxOf (L2.CX Pg w) Pg w K mg base ["self"] "Scanner.is_over" (defScope st_Scanner_is_over) (He.ma K (He.ga K "Scanner") "is_over") (codeAt K (He.ma K (He.ga K "Scanner") "is_over")) A outer s H E).A) :
    SndSs (pT (Tk K)) (cxOf (L2.CX Pg w) Pg w K mg base ["self"] "Scanner.is_over" (defScope st_Scanner_is_over) (He.ma K (He.ga K "Scanner") "is_over") (codeAt K (He.ma K (He.ga K "Scanner") "is_over")) A outer s H E) (defBody st_Scanner_is_over) (g_Scanner_is_over n) as_Scanner_is_over := by
  have sc := sc_Scanner_is_over
  exact (snds_one (snds_ret (snd_prim (sh_cmp op_U (by rfl)) (sndo_e (snd_fldL nv (fldok_at h)) (sndo_e (snd_prim (sh_callB rfl h.fr_len boot_len) (sndo_e (snd_fldL nv (fldok_text h)) sndo_nil) prim_len) sndo_nil)) (prim_eq (u64 hr)))))
theorem ok_Scanner_is_over (n : Nat) (h : Hd Pg w K mg base) : MetF Pg w K mg base (Tk K) 1 "Scanner" "is_over" 0 [] (F_Scanner_is_over n) := by
  obtain ⟨fd, F⟩ := h.fd_Scanner_is_over
  exact ⟨_, fd, ["self"], [], [], h.cl_Scanner, h.me_Scanner_is_over, (F.bindsN fun _ _ _ _ _ _ us hl => match us, hl with | [_], _ => rfl), .nil, fun _ => by simp [RepDs], rfl, def_okC (as := as_Scanner_is_over) F sc_Scanner_is_over rfl (by decide) (fun A outer s H E hr => b_Scanner_is_over n h  A outer s H E hr)⟩
/-! Scanner.skip -/
def g_Scanner_skip (n : Nat) : Es := (evSeq (evFldAug ["Scanner"] "at" 0 pAdd (evVar 1)) (evFldAug ["Scanner"] "column" 0 pAdd (evVar 1)))
def as_Scanner_skip : List Nat := ([] ++ [])
def F_Scanner_skip (n : Nat) : Fn := evDef [true, true] 2 (g_Scanner_skip n)
theorem sc_Scanner_skip : FnScope ["self", "many"] ["self", "many"] (defScope st_Scanner_skip) := ⟨rfl, rfl, rfl, by decide +kernel, rfl, by decide +kernel, by decide +kernel⟩
theorem b_Scanner_skip (n : Nat) (h : Hd Pg w K mg base)  (A : Around) (outer : List PySem.Env) (s : Shared) (H : Hp) (E : XK) (hr : Room 0 (cxOf (L2.CX Pg w) Pg w K mg base ["self", "many"] "Scanner.skip" (defScope st_Scanner_skip) (He.ma K (He.ga K "Scanner") "skip") (codeAt K (He.ma K (He.ga K "Scanner") "skip")) A outer s H E).A) :
    SndSs (pT (Tk K)) (cxOf (L2.CX Pg w) Pg w K mg base ["self", "many"] "Scanner.skip" (defScope st_Scanner_skip) (He.ma K (He.ga K "Scanner") "skip") (codeAt K (He.ma K (He.ga K "Scanner") "skip")) A outer s H E) (defBody st_Scanner_skip) (g_Scanner_skip n) as_Scanner_skip := by
  have sc := sc_Scanner_skip
  exact (snds_cons (snds_fldAug nv (fldok1_Scanner_at h) (snd_var nv) op_U prim_iadd) (snds_one (snds_fldAug nv (fldok1_Scanner_column h) (snd_var nv) op_U prim_iadd)))
theorem ok_Scanner_skip (n : Nat) (h : Hd Pg w K mg base) : MetF Pg w K mg base (Tk K) 1 "Scanner" "skip" 1 [] (F_Scanner_skip n) := by
  obtain ⟨fd, F⟩ := h.fd_Scanner_skip
  exact ⟨_, fd, ["self", "many"], [], [], h.cl_Scanner, h.me_Scanner_skip, (F.bindsN fun _ _ _ _ _ _ us hl => match us, hl with | [_, _], _ => rfl), .nil, fun _ => by simp [RepDs], rfl, def_okC (as := as_Scanner_skip) F sc_Scanner_skip rfl (by decide) (fun A outer s H E hr => b_Scanner_skip n h  A outer s H E hr)⟩
/-! Scanner.pass_gap -/
def g_Scanner_pass_gap (n : Nat) : Es := (evSeq (evSet 1 (evPrim pIxA [.e (evFldL ["Scanner"] "text" 0), .e (evFldL ["Scanner"] "at" 0)])) (evSeq (evIf (evPrimT pEq [.r 1, .e (evLit (.str "\n"))]) (evPar [(evPrim pSum [.e (evFldL ["Scanner"] "at" 0), .e (evLit (.int 1))]), (evPrim pSum [.e (evFldL ["Scanner"] "line" 0), .e (evLit (.int 1))]), (evLit (.int 1))] [(tgoFld ["Scanner"] "at" 0), (tgoFld ["Scanner"] "line" 0), (tgoFld ["Scanner"] "column" 0)]) (evIf (evPrimT pEq [.r 1, .e (evLit (.str " "))]) (evXp (evMethL "Scanner" "skip" (F_Scanner_skip n) 0 [.e (evLit (.int 1))] [])) (evIf (evPrimT pEq [.r 1, .e (evLit (.str "#"))]) (evXp (evMethL "Scanner" "skip" (F_Scanner_skip n) 0 [.e (evPrim pLen [.e (evPrim pIxA [.e (evStrM (evPrim (pSl true false) [.e (evFldL ["Scanner"] "text" 0), .e (evFldL ["Scanner"] "at" 0)]) [.e (evLit (.str "\n"))] pSplit), .e (evLit (.int 0))])])] [])) evNil))) (evRet (evPrim pInA [.r 1, .e (evLit (.str "\n #"))]))))
def as_Scanner_pass_gap : List Nat := ([1] ++ ((([] ++ ([] ++ ([] ++ []))) ++ ([] ++ ([] ++ []))) ++ []))
def F_Scanner_pass_gap (n : Nat) : Fn := evDef [true] 2 (g_Scanner_pass_gap n)
theorem sc_Scanner_pass_gap : FnScope ["self", "sign"] ["self"] (defScope st_Scanner_pass_gap) := ⟨rfl, rfl, rfl, by decide +kernel, rfl, by decide +kernel, by decide +kernel⟩
theorem b_Scanner_pass_gap (n : Nat) (h : Hd Pg w K mg base) (c_Scanner_skip : MetF Pg w K mg base (Tk K) 1 "Scanner" "skip" 1 [] (F_Scanner_skip n)) (A : Around) (outer : List PySem.Env) (s : Shared) (H : Hp) (E : XK) (hr : Room 1 (cxOf (L2.CX Pg w) Pg w K mg base ["self", "sign"] "Scanner.pass_gap" (defScope st_Scanner_pass_gap) (He.ma K (He.ga K "Scanner") "pass_gap") (codeAt K (He.ma K (He.ga K "Scanner") "pass_gap")) A outer s H E).A) :
    SndSs (pT (Tk K)) (cxOf (L2.CX Pg w) Pg w K mg base ["self", "sign"] "Scanner.pass_gap" (defScope st_Scanner_pass_gap) (He.ma K (He.ga K "Scanner") "pass_gap") (codeAt K (He.ma K (He.ga K "Scanner") "pass_gap")) A outer s H E) (defBody st_Scanner_pass_gap) (g_Scanner_pass_gap n) as_Scanner_pass_gap := by
  have sc := sc_Scanner_pass_gap
  exact (snds_cons (snds_set rfl sc.nd (.inl rfl) (snd_prim (sh_ix ix_U (fun _ _ => rfl)) (sndo_e (snd_fldL nv (fldok_text h)) (sndo_e (snd_fldL nv (fldok_at h)) sndo_nil)) (prim_ixA (u1 hr)))) (snds_cons (snds_if (sndt_prim (sh_cmpT op_U (by rfl)) (sndo_r nv (sndo_e snd_str sndo_nil)) (prim_eq (u64 hr))) (snds_one (snds_par rfl (sndA_cons (snd_prim (sh_bin op_U) (sndo_e (snd_fldL nv (fldok_at h)) (sndo_e snd_int sndo_nil)) prim_sum) (sndA_cons (snd_prim (sh_bin op_U) (sndo_e (snd_fldL nv (fldok_line h)) (sndo_e snd_int sndo_nil)) prim_sum) (sndA_cons snd_int sndA_nil))) (.cons (sndgo_fld nv (fldok_at h)) (.cons (sndgo_fld nv (fldok_line h)) (.cons (sndgo_fld nv (fldok_column h)) .nil rfl) rfl) rfl))) (snds_one (snds_if (sndt_prim (sh_cmpT op_U (by rfl)) (sndo_r nv (sndo_e snd_str sndo_nil)) (prim_eq (u64 hr))) (snds_one (snds_xp (methLF c_Scanner_skip hr (by decide) nv (snda_e snd_int snda_nil)))) (snds_one (snds_if (sndt_prim (sh_cmpT op_U (by rfl)) (sndo_r nv (sndo_e snd_str sndo_nil)) (prim_eq (u64 hr))) (snds_one (snds_xp (methLF c_Scanner_skip hr (by decide) nv (snda_e (snd_prim (sh_callB rfl h.fr_len boot_len) (sndo_e (snd_prim (sh_ix ix_U (fun _ _ => rfl)) (sndo_e (snd_strM1 PySem.F.slot_str_split PySem.F.type_str_split (snd_prim sh_sl10 (sndo_e (snd_fldL nv (fldok_text h)) (sndo_e (snd_fldL nv (fldok_at h)) sndo_nil)) prim_sl) (sndo_e snd_str sndo_nil) prim_split) (sndo_e snd_int sndo_nil)) (prim_ixA (u1 hr))) sndo_nil) prim_len) snda_nil)))) snds_nil))))) (snds_one (snds_ret (snd_prim (sh_cmp op_U (by rfl)) (sndo_r nv (sndo_e snd_str sndo_nil)) (prim_inA (u65 hr)))))))
theorem ok_Scanner_pass_gap (n : Nat) (h : Hd Pg w K mg base) : MetF Pg w K mg base (Tk K) 2 "Scanner" "pass_gap" 0 [] (F_Scanner_pass_gap n) := by
  obtain ⟨fd, F⟩ := h.fd_Scanner_pass_gap
  exact ⟨_, fd, ["self"], [], [], h.cl_Scanner, h.me_Scanner_pass_gap, (F.bindsN fun _ _ _ _ _ _ us hl => match us, hl with | [_], _ => rfl), .nil, fun _ => by simp [RepDs], rfl, def_okC (as := as_Scanner_pass_gap) F sc_Scanner_pass_gap rfl (by decide) (fun A outer s H E hr => b_Scanner_pass_gap n h (ok_Scanner_skip n h) A outer s H E hr)⟩
/-! Scanner.token -/
def g_Scanner_token (n : Nat) : Es := (evSeq (evPar [(evTup [(evFldL ["Scanner"] "line" 0), (evFldL ["Scanner"] "column" 0)]), (evLit (.int 0))] [(tgoName 1), (tgoName 2)]) (evSeq (whileN (evTand (evPrimT (pCmp ltI) [.e (evPrim pSum [.e (evFldL ["Scanner"] "at" 0), .r 2]), .e (evPrim pLen [.e (evFldL ["Scanner"] "text" 0)])]) (evTest (evCall (F_is_run_sign n) [.e (evPrim pIxA [.e (evFldL ["Scanner"] "text" 0), .e (evPrim pSum [.e (evFldL ["Scanner"] "at" 0), .r 2])])] []))) (evAug 2 pAdd (evLit (.int 1))) n) (evSeq (evSet 3 (evPrim (pSl true true) [.e (evFldL ["Scanner"] "text" 0), .e (evFldL ["Scanner"] "at" 0), .e (evPrim pSum [.e (evFldL ["Scanner"] "at" 0), .e (evPrim pMax2 [.e (evLit (.int 1)), .r 2])])])) (evSeq (evSet 4 (evIfe (evPrimT (pCmp gtI) [.r 2, .e (evLit (.int 0))]) (evCall (F_kind_of n) [.l 3] []) (evIfe (evPrimT pInA [.r 3, .e (evLit c_SIGNS)]) (evLit (.str "sign")) (evLit .non)))) (evSeq (evIf (evPrimT pIs [.r 4, .e (evLit .non)]) (evRaise "Misread" ["line", "column"] [(evFldL ["Scanner"] "line" 0), (evFldL ["Scanner"] "column" 0)]) evNil) (evSeq (evXp (evMethL "Scanner" "skip" (F_Scanner_skip n) 0 [.e (evPrim pLen [.r 3])] [])) (evRet (evTup [(evVar 4), (evVar 3), (evVar 1)]))))))))
def as_Scanner_token : List Nat := ([1, 2] ++ ([2] ++ ([3] ++ ([4] ++ (([] ++ []) ++ ([] ++ []))))))
def F_Scanner_token (n : Nat) : Fn := evDef [true] 5 (g_Scanner_token n)
theorem sc_Scanner_token : FnScope ["self", "place", "many", "word", "kind"] ["self"] (defScope st_Scanner_token) := ⟨rfl, rfl, rfl, by decide +kernel, rfl, by decide +kernel, by decide +kernel⟩
theorem b_Scanner_token (n : Nat) (h : Hd Pg w K mg base) (c_is_run_sign : CalF Pg w K mg base (Tk K) 1 "is_run_sign" 1 [] (F_is_run_sign n)) (c_kind_of : CalF Pg w K mg base (Tk K) 2 "kind_of" 1 [] (F_kind_of n)) (c_Scanner_skip : MetF Pg w K mg base (Tk K) 1 "Scanner" "skip" 1 [] (F_Scanner_skip n)) (A : Around) (outer : List PySem.Env) (s : Shared) (H : Hp) (E : XK) (hr : Room 2 (cxOf (L2.CX Pg w) Pg w K mg base ["self", "place", "many", "word", "kind"] "Scanner.token" (defScope st_Scanner_token) (He.ma K (He.ga K "Scanner") "token") (codeAt K (He.ma K (He.ga K "Scanner") "token")) A outer s H E).A) :
    SndSs (pT (Tk K)) (cxOf (L2.CX Pg w) Pg w K mg base ["self", "place", "many", "word", "kind"] "Scanner.token" (defScope st_Scanner_token) (He.ma K (He.ga K "Scanner") "token") (codeAt K (He.ma K (He.ga K "Scanner") "token")) A outer s H E) (defBody st_Scanner_token) (g_Scanner_token n) as_Scanner_token := by
  have sc := sc_Scanner_token
  exact (snds_cons (snds_par2 rfl sc.nd rfl rfl (by decide) rfl rfl (sndA_cons (snd_tup (sndd_cons (snd_fldL nv (fldok_line h)) (sndd_cons (snd_fldL nv (fldok_column h)) sndd_nil))) (sndA_cons snd_int sndA_nil)) (by rfl)) (snds_cons (snds_while n (passes_of rfl) (SndW.t (sndw_and (sndt_prim (sh_cmpT op_U (by rfl)) (sndo_e (snd_prim (sh_bin op_U) (sndo_e (snd_fldL nv (fldok_at h)) (sndo_r nv sndo_nil)) prim_sum) (sndo_e (snd_prim (sh_callB rfl h.fr_len boot_len) (sndo_e (snd_fldL nv (fldok_text h)) sndo_nil) prim_len) sndo_nil)) prim_lt) (sndw_and1 (sndt_truth (callF c_is_run_sign hr (by decide) (snda_e (snd_prim (sh_ix ix_U (fun _ _ => rfl)) (sndo_e (snd_fldL nv (fldok_text h)) (sndo_e (snd_prim (sh_bin op_U) (sndo_e (snd_fldL nv (fldok_at h)) (sndo_r nv sndo_nil)) prim_sum) sndo_nil)) (prim_ixA (u1 hr))) snda_nil)))))) (snds_one (snds_aug rfl sc.nd (.inl rfl) snd_int prim_iadd))) (snds_cons (snds_set rfl sc.nd (.inl rfl) (snd_prim sh_sl11 (sndo_e (snd_fldL nv (fldok_text h)) (sndo_e (snd_fldL nv (fldok_at h)) (sndo_e (snd_prim (sh_bin op_U) (sndo_e (snd_fldL nv (fldok_at h)) (sndo_e (snd_prim (sh_callB rfl h.fr_max boot_max) (sndo_e snd_int (sndo_r nv sndo_nil)) (prim_max2 rfl)) sndo_nil)) prim_sum) sndo_nil))) prim_sl)) (snds_cons (snds_set rfl sc.nd (.inl rfl) (snd_ife (sndt_prim (sh_cmpT op_U (by rfl)) (sndo_r nv (sndo_e snd_int sndo_nil)) prim_gt) (callF c_kind_of hr (by decide) (snda_l nv snda_nil)) (snd_ife (sndt_prim (sh_cmpT op_U (by rfl)) (sndo_r nv (sndo_e (gl_SIGNS h rfl) sndo_nil)) (prim_inA (u65 hr))) snd_str snd_non))) (snds_cons (snds_if (sndt_prim (sh_cmpT op_U (by rfl)) (sndo_r nv (sndo_e snd_non sndo_nil)) prim_is) (snds_one (raiseF h.xf_Misread hr (by decide) rfl (sndd_cons (snd_fldL nv (fldok_line h)) (sndd_cons (snd_fldL nv (fldok_column h)) sndd_nil)))) snds_nil) (snds_cons (snds_xp (methLF c_Scanner_skip hr (by decide) nv (snda_e (snd_prim (sh_callB rfl h.fr_len boot_len) (sndo_r nv sndo_nil) prim_len) snda_nil))) (snds_one (snds_ret (snd_tup (sndd_cons (snd_var nv) (sndd_cons (snd_var nv) (sndd_cons (snd_var nv) sndd_nil))))))))))))
theorem ok_Scanner_token (n : Nat) (h : Hd Pg w K mg base) : MetF Pg w K mg base (Tk K) 3 "Scanner" "token" 0 [] (F_Scanner_token n) := by
  obtain ⟨fd, F⟩ := h.fd_Scanner_token
  exact ⟨_, fd, ["self"], [], [], h.cl_Scanner, h.me_Scanner_token, (F.bindsN fun _ _ _ _ _ _ us hl => match us, hl with | [_], _ => rfl), .nil, fun _ => by simp [RepDs], rfl, def_okC (as := as_Scanner_token) F sc_Scanner_token rfl (by decide) (fun A outer s H E hr => b_Scanner_token n h (ok_is_run_sign n h) (ok_kind_of n h) (ok_Scanner_skip n h) A outer s H E hr)⟩
/-! tokens -/
def g_tokens (n : Nat) : Es := (evSeq (evIf (evTnot (evTest (evPrim (pIsi a_str w_str) [.r 0]))) (evRaise "Misread" ["line", "column"] [(evLit (.int 0)), (evLit (.int 0))]) evNil) (evSeq (evPar [(evMake "Scanner" (F_Scanner_init n) [.l 0] []), (evLst [])] [(tgoName 1), (tgoName 2)]) (evSeq (whileN (evTnot (evTest (evMethL "Scanner" "is_over" (F_Scanner_is_over n) 1 [] []))) (evIf (evTnot (evTest (evMethL "Scanner" "pass_gap" (F_Scanner_pass_gap n) 1 [] []))) (evXp (evAppend 2 (evMethL "Scanner" "token" (F_Scanner_token n) 1 [] []))) evNil) n) (evSeq (evXp (evAppend 2 (evTup [(evLit (.str "end")), (evLit (.str "")), (evTup [(evFldL ["Scanner"] "line" 1), (evFldL ["Scanner"] "column" 1)])]))) (evRet (evPrim pTuple [.r 2]))))))
def as_tokens : List Nat := (([] ++ []) ++ ([1, 2] ++ (([] ++ []) ++ ([] ++ []))))
def F_tokens (n : Nat) : Fn := evDef [true] 3 (g_tokens n)
theorem sc_tokens : FnScope ["text", "scanner", "found"] ["text"] (defScope st_tokens) := ⟨rfl, rfl, rfl, by decide +kernel, rfl, by decide +kernel, by decide +kernel⟩
theorem b_tokens (n : Nat) (h : Hd Pg w K mg base) (c_Scanner_init : MkF Pg w K mg base (Tk K) 1 "Scanner" 1 [] (F_Scanner_init n)) (c_Scanner_is_over : MetF Pg w K mg base (Tk K) 1 "Scanner" "is_over" 0 [] (F_Scanner_is_over n)) (c_Scanner_pass_gap : MetF Pg w K mg base (Tk K) 2 "Scanner" "pass_gap" 0 [] (F_Scanner_pass_gap n)) (c_Scanner_token : MetF Pg w K mg base (Tk K) 3 "Scanner" "token" 0 [] (F_Scanner_token n)) (A : Around) (outer : List PySem.Env) (s : Shared) (H : Hp) (E : XK) (hr : Room 3 (cxOf (L2.CX Pg w) Pg w K mg base ["text", "scanner", "found"] "tokens" (defScope st_tokens) (He.ga K "tokens") (codeAt K (He.ga K "tokens")) A outer s H E).A) :
    SndSs (pT (Tk K)) (cxOf (L2.CX Pg w) Pg w K mg base ["text", "scanner", "found"] "tokens" (defScope st_tokens) (He.ga K "tokens") (codeAt K (He.ga K "tokens")) A outer s H E) (defBody st_tokens) (g_tokens n) as_tokens := by
  have sc := sc_tokens
  exact (snds_cons (snds_if (sndt_not (sndt_truth (snd_prim (sh_isi rfl h.fr_isinstance (pe_bltn (v := .ty "str") rfl h.fr_str boot_str rfl) (.ty _)) (sndo_r nv sndo_nil) (prim_isi h.an_str)))) (snds_one (raiseF h.xf_Misread hr (by decide) rfl (sndd_cons snd_int (sndd_cons snd_int sndd_nil)))) snds_nil) (snds_cons (snds_par2 rfl sc.nd rfl rfl (by decide) rfl rfl (sndA_cons (makeF c_Scanner_init hr (by decide) (snda_l nv snda_nil)) (sndA_cons (snd_lst sndd_nil) sndA_nil)) (by rfl)) (snds_cons (snds_while n (passes_of rfl) (sndt_not (sndt_truth (methLF0 c_Scanner_is_over hr (by decide) nv))) (snds_one (snds_if (sndt_not (sndt_truth (methLF0 c_Scanner_pass_gap hr (by decide) nv))) (snds_one (snds_xp (snd_append nv (methLF0 c_Scanner_token hr (by decide) nv)))) snds_nil))) (snds_cons (snds_xp (snd_append nv (snd_tup (sndd_cons snd_str (sndd_cons snd_str (sndd_cons (snd_tup (sndd_cons (snd_fldL nv (fldok_line h)) (sndd_cons (snd_fldL nv (fldok_column h)) sndd_nil))) sndd_nil)))))) (snds_one (snds_ret (snd_prim (sh_callTy rfl h.fr_tuple boot_tuple) (sndo_r nv sndo_nil) prim_tuple)))))))
theorem ok_tokens (n : Nat) (h : Hd Pg w K mg base) : CalF Pg w K mg base (Tk K) 4 "tokens" 1 [] (F_tokens n) := by
  obtain ⟨fd, F⟩ := h.fd_tokens
  exact ⟨_, fd, ["text"], [], [], h.gl_tokens, F.kp, (F.bindsN fun _ _ _ _ _ _ us hl => match us, hl with | [_], _ => rfl), .nil, fun _ => by simp [RepDs], rfl, def_okC (as := as_tokens) F sc_tokens rfl (by decide) (fun A outer s H E hr => b_tokens n h (ok_Scanner_init n h) (ok_Scanner_is_over n h) (ok_Scanner_pass_gap n h) (ok_Scanner_token n h) A outer s H E hr)⟩
/-! _law_pen -/
def g__law_pen (n : Nat) : Es := (evSeq (evSet 1 (evLit (.int 61))) (evSeq (evFor (evItE (evVar 0)) (tgName 2) (evSet 1 (evPrim pMod [.e (evPrim pInt [.e (evPrim pSum [.e (evPrim pMul [.r 1, .e (evLit (.int 227))]), .r 2])]), .e (evLit (.int 1000000787))]))) (evRet (evDict [("cells", evFrz (evPrim pList [.r 0])), ("at", evFrz (evLit (.int 0))), ("digits", evFrz (evLit (.int 0))), ("count", evFrz (evLit (.int 0))), ("fold", evFrz (evVar 1))]))))
def as__law_pen : List Nat := ([1] ++ (([2] ++ [1]) ++ []))
def F__law_pen (n : Nat) : Fn := evDef [true] 3 (g__law_pen n)
theorem sc__law_pen : FnScope ["script", "fold", "cell"] ["script"] (defScope st__law_pen) := ⟨rfl, rfl, rfl, by decide +kernel, rfl, by decide +kernel, by decide +kernel⟩
theorem b__law_pen (n : Nat) (h : Hd Pg w K mg base)  (A : Around) (outer : List PySem.Env) (s : Shared) (H : Hp) (E : XK) (hr : Room 0 (cxOf (L2.CX Pg w) Pg w K mg base ["script", "fold", "cell"] "_law_pen" (defScope st__law_pen) (He.ga K "_law_pen") (codeAt K (He.ga K "_law_pen")) A outer s H E).A) :
    SndSs (pT (Tk K)) (cxOf (L2.CX Pg w) Pg w K mg base ["script", "fold", "cell"] "_law_pen" (defScope st__law_pen) (He.ga K "_law_pen") (codeAt K (He.ga K "_law_pen")) A outer s H E) (defBody st__law_pen) (g__law_pen n) as__law_pen := by
  have sc := sc__law_pen
  exact (snds_cons (snds_set rfl sc.nd (.inl rfl) snd_int) (snds_cons (snds_for (passes_of rfl) rfl (sndi_e (snd_var nv)) (sndg_name rfl sc.nd (.inl rfl)) (snds_one (snds_set rfl sc.nd (.inl rfl) (snd_prim (sh_bin op_U) (sndo_e (snd_prim (sh_callTy rfl h.fr_int boot_int) (sndo_e (snd_prim (sh_bin op_U) (sndo_e (snd_prim (sh_bin op_U) (sndo_r nv (sndo_e snd_int sndo_nil)) prim_mul) (sndo_r nv sndo_nil)) prim_sum) sndo_nil) prim_int) (sndo_e snd_int sndo_nil)) prim_mod)))) (snds_one (snds_ret (snd_dict (.cons (snd_frz (snd_prim (sh_callTy rfl h.fr_list boot_list) (sndo_r nv sndo_nil) prim_list)) (.cons (snd_frz snd_int) (.cons (snd_frz snd_int) (.cons (snd_frz snd_int) (.cons (snd_frz (snd_var nv)) .nil))))))))))
theorem ok__law_pen (n : Nat) (h : Hd Pg w K mg base) : CalF Pg w K mg base (Tk K) 1 "_law_pen" 1 [] (F__law_pen n) := by
  obtain ⟨fd, F⟩ := h.fd__law_pen
  exact ⟨_, fd, ["script"], [], [], h.gl__law_pen, F.kp, (F.bindsN fun _ _ _ _ _ _ us hl => match us, hl with | [_], _ => rfl), .nil, fun _ => by simp [RepDs], rfl, def_okC (as := as__law_pen) F sc__law_pen rfl (by decide) (fun A outer s H E hr => b__law_pen n h  A outer s H E hr)⟩
/-! _law_draw -/
def g__law_draw (n : Nat) : Es := (evSeq (evAsgO (evPrim pSum [.e (evPrim pIxA [.r 0, .e (evLit (.str "count"))]), .e (evLit (.int 1))]) (tgoSub 0 (evLit (.str "count")))) (evSeq (evIf (evTand (evPrimT pEq [.e (evPrim pIxA [.r 0, .e (evLit (.str "digits"))]), .e (evLit (.int 0))]) (evPrimT (pCmp ltI) [.e (evPrim pIxA [.r 0, .e (evLit (.str "at"))]), .e (evPrim pLen [.e (evPrim pIxA [.r 0, .e (evLit (.str "cells"))])])])) (evSeq (evSet 2 (evPrim pIxA [.e (evPrim pIxA [.r 0, .e (evLit (.str "cells"))]), .e (evPrim pIxA [.r 0, .e (evLit (.str "at"))])])) (evSeq (evAsgO (evPrim pSum [.e (evPrim pIxA [.r 0, .e (evLit (.str "at"))]), .e (evLit (.int 1))]) (tgoSub 0 (evLit (.str "at")))) (evIf (evPrimT (pCmp geI) [.r 2, .e (evPrim pPow [.e (evLit (.int 10)), .e (evLit (.int 18))])]) (evAsgO (evPrim pSub [.r 2, .e (evPrim pPow [.e (evLit (.int 10)), .e (evLit (.int 18))])]) (tgoSub 0 (evLit (.str "digits")))) (evAsgO (evPrim pMod [.e (evPrim pInt [.e (evPrim pSum [.e (evPrim pMul [.e (evPrim pIxA [.r 0, .e (evLit (.str "fold"))]), .e (evLit (.int 70249))]), .r 2])]), .e (evLit (.int 2147482937))]) (tgoSub 0 (evLit (.str "fold"))))))) evNil) (evSeq (evIf (evPrimT (pCmp gtI) [.e (evPrim pIxA [.r 0, .e (evLit (.str "digits"))]), .e (evLit (.int 0))]) (evSeq (evSet 3 (evPrim pMod [.e (evPrim pInt [.e (evPrim pIxA [.r 0, .e (evLit (.str "digits"))])]), .r 1])) (evSeq (evAsgO (evPrim pFdiv [.e (evPrim pIxA [.r 0, .e (evLit (.str "digits"))]), .r 1]) (tgoSub 0 (evLit (.str "digits")))) (evRetMove 3))) evNil) (evSeq (evSet 4 (evPrim pSum [.e (evPrim pSum [.e (evPrim pIxA [.r 0, .e (evLit (.str "fold"))]), .e (evPrim pMul [.e (evPrim pIxA [.r 0, .e (evLit (.str "count"))]), .e (evLit (.int 8039))])]), .e (evLit (.int 139))])) (evRet (evPrim pMod [.e (evPrim pFdiv [.e (evPrim pInt [.e (evPrim pMod [.e (evPrim pPow [.r 4, .e (evLit (.int 17))]), .e (evLit (.int 2305843009213693951))])]), .e (evLit (.int 128))]), .r 1]))))))
def as__law_draw : List Nat := ([] ++ ((([2] ++ ([] ++ ([] ++ []))) ++ []) ++ ((([3] ++ ([] ++ [3])) ++ []) ++ ([4] ++ []))))
def F__law_draw (n : Nat) : Fn := evDef [true, true] 5 (g__law_draw n)
theorem sc__law_draw : FnScope ["pen", "many", "cell", "digit", "blend"] ["pen", "many"] (defScope st__law_draw) := ⟨rfl, rfl, rfl, by decide +kernel, rfl, by decide +kernel, by decide +kernel⟩
theorem b__law_draw (n : Nat) (h : Hd Pg w K mg base)  (A : Around) (outer : List PySem.Env) (s : Shared) (H : Hp) (E : XK) (hr : Room 0 (cxOf (L2.CX Pg w) Pg w K mg base ["pen", "many", "cell", "digit", "blend"] "_law_draw" (defScope st__law_draw) (He.ga K "_law_draw") (codeAt K (He.ga K "_law_draw")) A outer s H E).A) :
    SndSs (pT (Tk K)) (cxOf (L2.CX Pg w) Pg w K mg base ["pen", "many", "cell", "digit", "blend"] "_law_draw" (defScope st__law_draw) (He.ga K "_law_draw") (codeAt K (He.ga K "_law_draw")) A outer s H E) (defBody st__law_draw) (g__law_draw n) as__law_draw := by
  have sc := sc__law_draw
  exact (snds_cons (snds_asg (snd_prim (sh_bin op_U) (sndo_e (snd_prim (sh_ix ix_U (fun _ _ => rfl)) (sndo_r nv (sndo_e snd_str sndo_nil)) (prim_ixA (u1 hr))) (sndo_e snd_int sndo_nil)) prim_sum) (sndgo_sub (u1 hr) nv snd_str)) (snds_cons (snds_if (SndW.t (sndw_and (sndt_prim (sh_cmpT op_U (by rfl)) (sndo_e (snd_prim (sh_ix ix_U (fun _ _ => rfl)) (sndo_r nv (sndo_e snd_str sndo_nil)) (prim_ixA (u1 hr))) (sndo_e snd_int sndo_nil)) (prim_eq (u64 hr))) (sndw_and1 (sndt_prim (sh_cmpT op_U (by rfl)) (sndo_e (snd_prim (sh_ix ix_U (fun _ _ => rfl)) (sndo_r nv (sndo_e snd_str sndo_nil)) (prim_ixA (u1 hr))) (sndo_e (snd_prim (sh_callB rfl h.fr_len boot_len) (sndo_e (snd_prim (sh_ix ix_U (fun _ _ => rfl)) (sndo_r nv (sndo_e snd_str sndo_nil)) (prim_ixA (u1 hr))) sndo_nil) prim_len) sndo_nil)) prim_lt)))) (snds_cons (snds_set rfl sc.nd (.inl rfl) (snd_prim (sh_ix ix_U (fun _ _ => rfl)) (sndo_e (snd_prim (sh_ix ix_U (fun _ _ => rfl)) (sndo_r nv (sndo_e snd_str sndo_nil)) (prim_ixA (u1 hr))) (sndo_e (snd_prim (sh_ix ix_U (fun _ _ => rfl)) (sndo_r nv (sndo_e snd_str sndo_nil)) (prim_ixA (u1 hr))) sndo_nil)) (prim_ixA (u1 hr)))) (snds_cons (snds_asg (snd_prim (sh_bin op_U) (sndo_e (snd_prim (sh_ix ix_U (fun _ _ => rfl)) (sndo_r nv (sndo_e snd_str sndo_nil)) (prim_ixA (u1 hr))) (sndo_e snd_int sndo_nil)) prim_sum) (sndgo_sub (u1 hr) nv snd_str)) (snds_one (snds_if (sndt_prim (sh_cmpT op_U (by rfl)) (sndo_r nv (sndo_e (snd_prim (sh_bin op_U) (sndo_e snd_int (sndo_e snd_int sndo_nil)) prim_pow) sndo_nil)) prim_ge) (snds_one (snds_asg (snd_prim (sh_bin op_U) (sndo_r nv (sndo_e (snd_prim (sh_bin op_U) (sndo_e snd_int (sndo_e snd_int sndo_nil)) prim_pow) sndo_nil)) prim_sub) (sndgo_sub (u1 hr) nv snd_str))) (snds_one (snds_asg (snd_prim (sh_bin op_U) (sndo_e (snd_prim (sh_callTy rfl h.fr_int boot_int) (sndo_e (snd_prim (sh_bin op_U) (sndo_e (snd_prim (sh_bin op_U) (sndo_e (snd_prim (sh_ix ix_U (fun _ _ => rfl)) (sndo_r nv (sndo_e snd_str sndo_nil)) (prim_ixA (u1 hr))) (sndo_e snd_int sndo_nil)) prim_mul) (sndo_r nv sndo_nil)) prim_sum) sndo_nil) prim_int) (sndo_e snd_int sndo_nil)) prim_mod) (sndgo_sub (u1 hr) nv snd_str))))))) snds_nil) (snds_cons (snds_if (sndt_prim (sh_cmpT op_U (by rfl)) (sndo_e (snd_prim (sh_ix ix_U (fun _ _ => rfl)) (sndo_r nv (sndo_e snd_str sndo_nil)) (prim_ixA (u1 hr))) (sndo_e snd_int sndo_nil)) prim_gt) (snds_cons (snds_set rfl sc.nd (.inl rfl) (snd_prim (sh_bin op_U) (sndo_e (snd_prim (sh_callTy rfl h.fr_int boot_int) (sndo_e (snd_prim (sh_ix ix_U (fun _ _ => rfl)) (sndo_r nv (sndo_e snd_str sndo_nil)) (prim_ixA (u1 hr))) sndo_nil) prim_int) (sndo_r nv sndo_nil)) prim_mod)) (snds_cons (snds_asg (snd_prim (sh_bin op_U) (sndo_e (snd_prim (sh_ix ix_U (fun _ _ => rfl)) (sndo_r nv (sndo_e snd_str sndo_nil)) (prim_ixA (u1 hr))) (sndo_r nv sndo_nil)) prim_fdiv) (sndgo_sub (u1 hr) nv snd_str)) (snds_one (snds_retMove nv)))) snds_nil) (snds_cons (snds_set rfl sc.nd (.inl rfl) (snd_prim (sh_bin op_U) (sndo_e (snd_prim (sh_bin op_U) (sndo_e (snd_prim (sh_ix ix_U (fun _ _ => rfl)) (sndo_r nv (sndo_e snd_str sndo_nil)) (prim_ixA (u1 hr))) (sndo_e (snd_prim (sh_bin op_U) (sndo_e (snd_prim (sh_ix ix_U (fun _ _ => rfl)) (sndo_r nv (sndo_e snd_str sndo_nil)) (prim_ixA (u1 hr))) (sndo_e snd_int sndo_nil)) prim_mul) sndo_nil)) prim_sum) (sndo_e snd_int sndo_nil)) prim_sum)) (snds_one (snds_ret (snd_prim (sh_bin op_U) (sndo_e (snd_prim (sh_bin op_U) (sndo_e (snd_prim (sh_callTy rfl h.fr_int boot_int) (sndo_e (snd_prim (sh_bin op_U) (sndo_e (snd_prim (sh_bin op_U) (sndo_r nv (sndo_e snd_int sndo_nil)) prim_pow) (sndo_e snd_int sndo_nil)) prim_mod) sndo_nil) prim_int) (sndo_e snd_int sndo_nil)) prim_fdiv) (sndo_r nv sndo_nil)) prim_mod)))))))
theorem ok__law_draw (n : Nat) (h : Hd Pg w K mg base) : CalF Pg w K mg base (Tk K) 1 "_law_draw" 2 [] (F__law_draw n) := by
  obtain ⟨fd, F⟩ := h.fd__law_draw
  exact ⟨_, fd, ["pen", "many"], [], [], h.gl__law_draw, F.kp, (F.bindsN fun _ _ _ _ _ _ us hl => match us, hl with | [_, _], _ => rfl), .nil, fun _ => by simp [RepDs], rfl, def_okC (as := as__law_draw) F sc__law_draw rfl (by decide) (fun A outer s H E hr => b__law_draw n h  A outer s H E hr)⟩
/-! _law_pick -/
def g__law_pick (n : Nat) : Es := (evRet (evPrim pIxA [.r 1, .e (evCall (F__law_draw n) [.l 0, .e (evPrim pLen [.r 1])] [])]))
def as__law_pick : List Nat := []
def F__law_pick (n : Nat) : Fn := evDef [true, true] 2 (g__law_pick n)
theorem sc__law_pick : FnScope ["pen", "some"] ["pen", "some"] (defScope st__law_pick) := ⟨rfl, rfl, rfl, by decide +kernel, rfl, by decide +kernel, by decide +kernel⟩
theorem b__law_pick (n : Nat) (h : Hd Pg w K mg base) (c__law_draw : CalF Pg w K mg base (Tk K) 1 "_law_draw" 2 [] (F__law_draw n)) (A : Around) (outer : List PySem.Env) (s : Shared) (H : Hp) (E : XK) (hr : Room 1 (cxOf (L2.CX Pg w) Pg w K mg base ["pen", "some"] "_law_pick" (defScope st__law_pick) (He.ga K "_law_pick") (codeAt K (He.ga K "_law_pick")) A outer s H E).A) :
    SndSs (pT (Tk K)) (cxOf (L2.CX Pg w) Pg w K mg base ["pen", "some"] "_law_pick" (defScope st__law_pick) (He.ga K "_law_pick") (codeAt K (He.ga K "_law_pick")) A outer s H E) (defBody st__law_pick) (g__law_pick n) as__law_pick := by
  have sc := sc__law_pick
  exact (snds_one (snds_ret (snd_prim (sh_ix ix_U (fun _ _ => rfl)) (sndo_r nv (sndo_e (callF c__law_draw hr (by decide) (snda_l nv (snda_e (snd_prim (sh_callB rfl h.fr_len boot_len) (sndo_r nv sndo_nil) prim_len) snda_nil))) sndo_nil)) (prim_ixA (u1 hr)))))
theorem ok__law_pick (n : Nat) (h : Hd Pg w K mg base) : CalF Pg w K mg base (Tk K) 2 "_law_pick" 2 [] (F__law_pick n) := by
  obtain ⟨fd, F⟩ := h.fd__law_pick
  exact ⟨_, fd, ["pen", "some"], [], [], h.gl__law_pick, F.kp, (F.bindsN fun _ _ _ _ _ _ us hl => match us, hl with | [_, _], _ => rfl), .nil, fun _ => by simp [RepDs], rfl, def_okC (as := as__law_pick) F sc__law_pick rfl (by decide) (fun A outer s H E hr => b__law_pick n h (ok__law_draw n h) A outer s H E hr)⟩
/-! _law_shuffled -/
def g__law_shuffled (n : Nat) : Es := (evSeq (evPar [(evPrim pList [.r 1]), (evLst [])] [(tgoName 2), (tgoName 3)]) (evSeq (evFor (evArgI [(evPrim pLen [.r 1])] kRange1) (tgName 4) (evXp (evAppend 3 (evPop 2 (evCall (F__law_draw n) [.l 0, .e (evPrim pLen [.r 2])] []))))) (evRetMove 3)))
def as__law_shuffled : List Nat := ([2, 3] ++ (([4] ++ []) ++ [3]))
def F__law_shuffled (n : Nat) : Fn := evDef [true, true] 5 (g__law_shuffled n)
theorem sc__law_shuffled : FnScope ["pen", "some", "left", "found", "lap"] ["pen", "some"] (defScope st__law_shuffled) := ⟨rfl, rfl, rfl, by decide +kernel, rfl, by decide +kernel, by decide +kernel⟩
theorem b__law_shuffled (n : Nat) (h : Hd Pg w K mg base) (c__law_draw : CalF Pg w K mg base (Tk K) 1 "_law_draw" 2 [] (F__law_draw n)) (A : Around) (outer : List PySem.Env) (s : Shared) (H : Hp) (E : XK) (hr : Room 1 (cxOf (L2.CX Pg w) Pg w K mg base ["pen", "some", "left", "found", "lap"] "_law_shuffled" (defScope st__law_shuffled) (He.ga K "_law_shuffled") (codeAt K (He.ga K "_law_shuffled")) A outer s H E).A) :
    SndSs (pT (Tk K)) (cxOf (L2.CX Pg w) Pg w K mg base ["pen", "some", "left", "found", "lap"] "_law_shuffled" (defScope st__law_shuffled) (He.ga K "_law_shuffled") (codeAt K (He.ga K "_law_shuffled")) A outer s H E) (defBody st__law_shuffled) (g__law_shuffled n) as__law_shuffled := by
  have sc := sc__law_shuffled
  exact (snds_cons (snds_par2 rfl sc.nd rfl rfl (by decide) rfl rfl (sndA_cons (snd_prim (sh_callTy rfl h.fr_list boot_list) (sndo_r nv sndo_nil) prim_list) (sndA_cons (snd_lst sndd_nil) sndA_nil)) (by rfl)) (snds_cons (snds_for (passes_of rfl) rfl (sndi_range1 rfl h.fr_range (sndd_cons (snd_prim (sh_callB rfl h.fr_len boot_len) (sndo_r nv sndo_nil) prim_len) sndd_nil)) (sndg_name rfl sc.nd (.inl rfl)) (snds_one (snds_xp (snd_append nv (snd_pop nv (callF c__law_draw hr (by decide) (snda_l nv (snda_e (snd_prim (sh_callB rfl h.fr_len boot_len) (sndo_r nv sndo_nil) prim_len) snda_nil)))))))) (snds_one (snds_retMove nv))))
theorem ok__law_shuffled (n : Nat) (h : Hd Pg w K mg base) : CalF Pg w K mg base (Tk K) 2 "_law_shuffled" 2 [] (F__law_shuffled n) := by
  obtain ⟨fd, F⟩ := h.fd__law_shuffled
  exact ⟨_, fd, ["pen", "some"], [], [], h.gl__law_shuffled, F.kp, (F.bindsN fun _ _ _ _ _ _ us hl => match us, hl with | [_, _], _ => rfl), .nil, fun _ => by simp [RepDs], rfl, def_okC (as := as__law_shuffled) F sc__law_shuffled rfl (by decide) (fun A outer s H E hr => b__law_shuffled n h (ok__law_draw n h) A outer s H E hr)⟩
/-! _law_name -/
def g__law_name (n : Nat) : Es := (evSeq (evSet 2 (evLit (.str ""))) (evSeq (evFor (evArgI [(evPrim pSum [.e (evLit (.int 1)), .e (evCall (F__law_draw n) [.l 0, .e (evLit (.int 8))] [])])] kRange1) (tgName 3) (evSet 2 (evPrim pSum [.r 2, .e (evPrim pIxA [.e (evLit (.str "abcdefghijklmnopqrstuvwxyz")), .e (evCall (F__law_draw n) [.l 0, .e (evLit (.int 26))] [])])]))) (evSeq (evSet 4 (evPrim pSum [.e (evLit (.int 1)), .e (evCall (F__law_draw n) [.l 0, .e (evPrim pLen [.r 2])] [])])) (evRet (evPrim pSum [.e (evPrim pSum [.e (evPrim (pSl false true) [.r 2, .r 4]), .e (evPrim pStr [.r 1])]), .e (evPrim (pSl true false) [.r 2, .r 4])])))))
def as__law_name : List Nat := ([2] ++ (([3] ++ [2]) ++ ([4] ++ [])))
def F__law_name (n : Nat) : Fn := evDef [true, true] 5 (g__law_name n)
theorem sc__law_name : FnScope ["pen", "index", "word", "spot", "place"] ["pen", "index"] (defScope st__law_name) := ⟨rfl, rfl, rfl, by decide +kernel, rfl, by decide +kernel, by decide +kernel⟩
theorem b__law_name (n : Nat) (h : Hd Pg w K mg base) (c__law_draw : CalF Pg w K mg base (Tk K) 1 "_law_draw" 2 [] (F__law_draw n)) (A : Around) (outer : List PySem.Env) (s : Shared) (H : Hp) (E : XK) (hr : Room 1 (cxOf (L2.CX Pg w) Pg w K mg base ["pen", "index", "word", "spot", "place"] "_law_name" (defScope st__law_name) (He.ga K "_law_name") (codeAt K (He.ga K "_law_name")) A outer s H E).A) :
    SndSs (pT (Tk K)) (cxOf (L2.CX Pg w) Pg w K mg base ["pen", "index", "word", "spot", "place"] "_law_name" (defScope st__law_name) (He.ga K "_law_name") (codeAt K (He.ga K "_law_name")) A outer s H E) (defBody st__law_name) (g__law_name n) as__law_name := by
  have sc := sc__law_name
  exact (snds_cons (snds_set rfl sc.nd (.inl rfl) snd_str) (snds_cons (snds_for (passes_of rfl) rfl (sndi_range1 rfl h.fr_range (sndd_cons (snd_prim (sh_bin op_U) (sndo_e snd_int (sndo_e (callF c__law_draw hr (by decide) (snda_l nv (snda_e snd_int snda_nil))) sndo_nil)) prim_sum) sndd_nil)) (sndg_name rfl sc.nd (.inl rfl)) (snds_one (snds_set rfl sc.nd (.inl rfl) (snd_prim (sh_bin op_U) (sndo_r nv (sndo_e (snd_prim (sh_ix ix_U (fun _ _ => rfl)) (sndo_e snd_str (sndo_e (callF c__law_draw hr (by decide) (snda_l nv (snda_e snd_int snda_nil))) sndo_nil)) (prim_ixA (u1 hr))) sndo_nil)) prim_sum)))) (snds_cons (snds_set rfl sc.nd (.inl rfl) (snd_prim (sh_bin op_U) (sndo_e snd_int (sndo_e (callF c__law_draw hr (by decide) (snda_l nv (snda_e (snd_prim (sh_callB rfl h.fr_len boot_len) (sndo_r nv sndo_nil) prim_len) snda_nil))) sndo_nil)) prim_sum)) (snds_one (snds_ret (snd_prim (sh_bin op_U) (sndo_e (snd_prim (sh_bin op_U) (sndo_e (snd_prim sh_sl01 (sndo_r nv (sndo_r nv sndo_nil)) prim_sl) (sndo_e (snd_prim (sh_callTy rfl h.fr_str boot_str) (sndo_r nv sndo_nil) prim_str) sndo_nil)) prim_sum) (sndo_e (snd_prim sh_sl10 (sndo_r nv (sndo_r nv sndo_nil)) prim_sl) sndo_nil)) prim_sum))))))
theorem ok__law_name (n : Nat) (h : Hd Pg w K mg base) : CalF Pg w K mg base (Tk K) 2 "_law_name" 2 [] (F__law_name n) := by
  obtain ⟨fd, F⟩ := h.fd__law_name
  exact ⟨_, fd, ["pen", "index"], [], [], h.gl__law_name, F.kp, (F.bindsN fun _ _ _ _ _ _ us hl => match us, hl with | [_, _], _ => rfl), .nil, fun _ => by simp [RepDs], rfl, def_okC (as := as__law_name) F sc__law_name rfl (by decide) (fun A outer s H E hr => b__law_name n h (ok__law_draw n h) A outer s H E hr)⟩
/-! _law_names -/
def g__law_names (n : Nat) : Es := (evRet (evCall (F__law_shuffled n) [.l 0, .e (evLc [2] (evArgI [(evVar 1)] kRange1) (tgName 2) evTrue (evCall (F__law_name n) [.l 0, .l 2] []))] []))
def as__law_names : List Nat := []
def F__law_names (n : Nat) : Fn := evDef [true, true] 3 (g__law_names n)
theorem sc__law_names : FnScope ["pen", "many", "index"] ["pen", "many"] (defScope st__law_names) := ⟨rfl, rfl, rfl, by decide +kernel, rfl, by decide +kernel, by decide +kernel⟩
theorem b__law_names (n : Nat) (h : Hd Pg w K mg base) (c__law_shuffled : CalF Pg w K mg base (Tk K) 2 "_law_shuffled" 2 [] (F__law_shuffled n)) (c__law_name : CalF Pg w K mg base (Tk K) 2 "_law_name" 2 [] (F__law_name n)) (A : Around) (outer : List PySem.Env) (s : Shared) (H : Hp) (E : XK) (hr : Room 2 (cxOf (L2.CX Pg w) Pg w K mg base ["pen", "many", "index"] "_law_names" (defScope st__law_names) (He.ga K "_law_names") (codeAt K (He.ga K "_law_names")) A outer s H E).A) :
    SndSs (pT (Tk K)) (cxOf (L2.CX Pg w) Pg w K mg base ["pen", "many", "index"] "_law_names" (defScope st__law_names) (He.ga K "_law_names") (codeAt K (He.ga K "_law_names")) A outer s H E) (defBody st__law_names) (g__law_names n) as__law_names := by
  have sc := sc__law_names
  exact (snds_one (snds_ret (callF c__law_shuffled hr (by decide) (snda_l nv (snda_e (snd_lc rfl sc.nd (own := [("index", 2)]) (blkOk_by (by kernel_rfl)) (sndi_range1 rfl h.fr_range (sndd_cons (snd_var nv) sndd_nil)) (fun _ _ _ _ _ => (sndg_name rfl sc.nd (.inl rfl))) (fun _ _ _ _ _ => sndts_nil) (fun _ _ _ _ _ => (callF c__law_name hr (by decide) (snda_l nv (snda_l nv snda_nil)))) (by decide) (by decide)) snda_nil)))))
theorem ok__law_names (n : Nat) (h : Hd Pg w K mg base) : CalF Pg w K mg base (Tk K) 3 "_law_names" 2 [] (F__law_names n) := by
  obtain ⟨fd, F⟩ := h.fd__law_names
  exact ⟨_, fd, ["pen", "many"], [], [], h.gl__law_names, F.kp, (F.bindsN fun _ _ _ _ _ _ us hl => match us, hl with | [_, _], _ => rfl), .nil, fun _ => by simp [RepDs], rfl, def_okC (as := as__law_names) F sc__law_names rfl (by decide) (fun A outer s H E hr => b__law_names n h (ok__law_shuffled n h) (ok__law_name n h) A outer s H E hr)⟩
/-! _law_same -/
def g__law_same (n : Nat) (self : Fn) : Es := (evSeq (evIf (evTest (evPrim (pIsi a_tuple w_tuple) [.r 1])) (evRet (evVand (evPrim (pIsi a_tuple w_tuple) [.r 0]) (evVand (evPrim pEq [.e (evPrim pLen [.r 0]), .e (evPrim pLen [.r 1])]) (evPrim pAll [.e (evLc [2, 3] (evArgI [(evVar 0), (evVar 1)] kZip) (tgTup (tgsCons (tgName 2) (tgsCons (tgName 3) tgsNil))) evTrue (evCall self [.l 2, .l 3] []))])))) evNil) (evSeq (evIf (evPrimT pIs [.r 1, .e (evLit .non)]) (evRet (evPrim pIs [.r 0, .e (evLit .non)])) evNil) (evSeq (evIf (evPrimT pIs [.r 1, .e (evLit (.bl true))]) (evRet (evPrim pIs [.r 0, .e (evLit (.bl true))])) evNil) (evSeq (evIf (evPrimT pIs [.r 1, .e (evLit (.bl false))]) (evRet (evPrim pIs [.r 0, .e (evLit (.bl false))])) evNil) (evSeq (evIf (evTest (evPrim (pIsi a_int w_int) [.r 1])) (evRet (evVand (evPrim (pIsi a_int w_int) [.r 0]) (evVand (evVnot (evPrim (pIsi a_bool w_bool) [.r 0])) (evPrim pEq [.r 0, .r 1])))) evNil) (evRet (evVand (evPrim (pIsi a_str w_str) [.r 0]) (evPrim pEq [.r 0, .r 1]))))))))
def as__law_same : List Nat := (([] ++ []) ++ (([] ++ []) ++ (([] ++ []) ++ (([] ++ []) ++ (([] ++ []) ++ [])))))
def F__law_same (n : Nat) : Nat → Fn
  | 0 => fun _ => .bad
  | dep + 1 => evDef [true, true] 4 (g__law_same n (F__law_same n dep))
theorem sc__law_same : FnScope ["told", "due", "one", "two"] ["told", "due"] (defScope st__law_same) := ⟨rfl, rfl, rfl, by decide +kernel, rfl, by decide +kernel, by decide +kernel⟩
theorem b__law_same (n : Nat) (h : Hd Pg w K mg base) {ks : Nat} {self : Fn} (hs : CalF Pg w K mg base (Tk K) ks "_law_same" 2 [] self)  (A : Around) (outer : List PySem.Env) (s : Shared) (H : Hp) (E : XK) (hr : Room (ks + 0) (cxOf (L2.CX Pg w) Pg w K mg base ["told", "due", "one", "two"] "_law_same" (defScope st__law_same) (He.ga K "_law_same") (codeAt K (He.ga K "_law_same")) A outer s H E).A) :
    SndSs (pT (Tk K)) (cxOf (L2.CX Pg w) Pg w K mg base ["told", "due", "one", "two"] "_law_same" (defScope st__law_same) (He.ga K "_law_same") (codeAt K (He.ga K "_law_same")) A outer s H E) (defBody st__law_same) (g__law_same n self) as__law_same := by
  have sc := sc__law_same
  exact (snds_cons (snds_if (sndt_truth (snd_prim (sh_isi rfl h.fr_isinstance (pe_bltn (v := .ty "tuple") rfl h.fr_tuple boot_tuple rfl) (.ty _)) (sndo_r nv sndo_nil) (prim_isi h.an_tuple))) (snds_one (snds_ret (snd_and (snd_prim (sh_isi rfl h.fr_isinstance (pe_bltn (v := .ty "tuple") rfl h.fr_tuple boot_tuple rfl) (.ty _)) (sndo_r nv sndo_nil) (prim_isi h.an_tuple)) (snd_and (snd_prim (sh_cmp op_U (by rfl)) (sndo_e (snd_prim (sh_callB rfl h.fr_len boot_len) (sndo_r nv sndo_nil) prim_len) (sndo_e (snd_prim (sh_callB rfl h.fr_len boot_len) (sndo_r nv sndo_nil) prim_len) sndo_nil)) (prim_eq (u64 hr))) (snd_one (snd_prim (sh_callB rfl h.fr_all boot_all) (sndo_e (snd_lc rfl sc.nd (own := [("one", 2), ("two", 3)]) (blkOk_by (by kernel_rfl)) (sndi_zip rfl h.fr_zip (sndd_cons (snd_var nv) (sndd_cons (snd_var nv) sndd_nil))) (fun _ _ _ _ _ => (sndg_tup rfl (sndgs_cons (sndg_name rfl sc.nd (.inl rfl)) (sndgs_cons (sndg_name rfl sc.nd (.inl rfl)) sndgs_nil)) (fun _ _ _ e => tgsCons_len (fun _ _ _ e => tgsCons_len (fun _ _ _ e => tgsNil_len e) e) e))) (fun _ _ _ _ _ => sndts_nil) (fun _ _ _ _ _ => (callF hs hr (by omega) (snda_l nv (snda_l nv snda_nil)))) (by decide) (by decide)) sndo_nil) (prim_all rfl))))))) snds_nil) (snds_cons (snds_if (sndt_prim (sh_cmpT op_U (by rfl)) (sndo_r nv (sndo_e snd_non sndo_nil)) prim_is) (snds_one (snds_ret (snd_prim (sh_cmp op_U (by rfl)) (sndo_r nv (sndo_e snd_non sndo_nil)) prim_is))) snds_nil) (snds_cons (snds_if (sndt_prim (sh_cmpT op_U (by rfl)) (sndo_r nv (sndo_e snd_bl sndo_nil)) prim_is) (snds_one (snds_ret (snd_prim (sh_cmp op_U (by rfl)) (sndo_r nv (sndo_e snd_bl sndo_nil)) prim_is))) snds_nil) (snds_cons (snds_if (sndt_prim (sh_cmpT op_U (by rfl)) (sndo_r nv (sndo_e snd_bl sndo_nil)) prim_is) (snds_one (snds_ret (snd_prim (sh_cmp op_U (by rfl)) (sndo_r nv (sndo_e snd_bl sndo_nil)) prim_is))) snds_nil) (snds_cons (snds_if (sndt_truth (snd_prim (sh_isi rfl h.fr_isinstance (pe_bltn (v := .ty "int") rfl h.fr_int boot_int rfl) (.ty _)) (sndo_r nv sndo_nil) (prim_isi h.an_int))) (snds_one (snds_ret (snd_and (snd_prim (sh_isi rfl h.fr_isinstance (pe_bltn (v := .ty "int") rfl h.fr_int boot_int rfl) (.ty _)) (sndo_r nv sndo_nil) (prim_isi h.an_int)) (snd_and (snd_not (snd_prim (sh_isi rfl h.fr_isinstance (pe_bltn (v := .ty "bool") rfl h.fr_bool boot_bool rfl) (.ty _)) (sndo_r nv sndo_nil) (prim_isi h.an_bool))) (snd_one (snd_prim (sh_cmp op_U (by rfl)) (sndo_r nv (sndo_r nv sndo_nil)) (prim_eq (u64 hr)))))))) snds_nil) (snds_one (snds_ret (snd_and (snd_prim (sh_isi rfl h.fr_isinstance (pe_bltn (v := .ty "str") rfl h.fr_str boot_str rfl) (.ty _)) (sndo_r nv sndo_nil) (prim_isi h.an_str)) (snd_one (snd_prim (sh_cmp op_U (by rfl)) (sndo_r nv (sndo_r nv sndo_nil)) (prim_eq (u64 hr))))))))))))
theorem okd__law_same (n : Nat) (h : Hd Pg w K mg base) : ∀ dep, CalF Pg w K mg base (Tk K) (dep * 1) "_law_same" 2 [] (F__law_same n dep)
  | 0 => by
    obtain ⟨fd, F⟩ := h.fd__law_same
    exact ⟨_, fd, ["told", "due"], [], [], h.gl__law_same, F.kp, (F.bindsN fun _ _ _ _ _ _ us hl => match us, hl with | [_, _], _ => rfl), .nil, fun _ => by simp [RepDs], rfl, bad_ok⟩
  | dep + 1 => by
    obtain ⟨fd, F⟩ := h.fd__law_same
    have hs := okd__law_same n h dep
    have e : (dep + 1) * 1 = (dep * 1 + 0) + 1 := by omega
    rw [e]
    exact ⟨_, fd, ["told", "due"], [], [], h.gl__law_same, F.kp, (F.bindsN fun _ _ _ _ _ _ us hl => match us, hl with | [_, _], _ => rfl), .nil, fun _ => by simp [RepDs], rfl, def_okC (as := as__law_same) F sc__law_same rfl (by decide) (fun A outer s H E hr => b__law_same n h hs  A outer s H E hr)⟩
theorem ok__law_same (n : Nat) (h : Hd Pg w K mg base) : CalF Pg w K mg base (Tk K) 12 "_law_same" 2 [] (F__law_same n 12) := okd__law_same n h 12
/-! _law_keys -/
def g__law_keys (n : Nat) : Es := (evRet (evLst [(evLit (.str "cloth")), (evLit (.str "shafts")), (evLit (.str "threading")), (evLit (.str "tie")), (evLit (.str "treadling")), (evLit (.str "warp")), (evLit (.str "weft")), (evLit (.str "times")), (evLit (.str "and"))]))
def as__law_keys : List Nat := []
def F__law_keys (n : Nat) : Fn := evDef [] 0 (g__law_keys n)
theorem sc__law_keys : FnScope [] [] (defScope st__law_keys) := ⟨rfl, rfl, rfl, by decide +kernel, rfl, by decide +kernel, by decide +kernel⟩
theorem b__law_keys (n : Nat) (h : Hd Pg w K mg base)  (A : Around) (outer : List PySem.Env) (s : Shared) (H : Hp) (E : XK) (hr : Room 0 (cxOf (L2.CX Pg w) Pg w K mg base [] "_law_keys" (defScope st__law_keys) (He.ga K "_law_keys") (codeAt K (He.ga K "_law_keys")) A outer s H E).A) :
    SndSs (pT (Tk K)) (cxOf (L2.CX Pg w) Pg w K mg base [] "_law_keys" (defScope st__law_keys) (He.ga K "_law_keys") (codeAt K (He.ga K "_law_keys")) A outer s H E) (defBody st__law_keys) (g__law_keys n) as__law_keys := by
  have sc := sc__law_keys
  exact (snds_one (snds_ret (snd_lst (sndd_cons snd_str (sndd_cons snd_str (sndd_cons snd_str (sndd_cons snd_str (sndd_cons snd_str (sndd_cons snd_str (sndd_cons snd_str (sndd_cons snd_str (sndd_cons snd_str sndd_nil))))))))))))
theorem ok__law_keys (n : Nat) (h : Hd Pg w K mg base) : CalF Pg w K mg base (Tk K) 1 "_law_keys" 0 [] (F__law_keys n) := by
  obtain ⟨fd, F⟩ := h.fd__law_keys
  exact ⟨_, fd, [], [], [], h.gl__law_keys, F.kp, (F.bindsN fun _ _ _ _ _ _ us hl => match us, hl with | [], _ => rfl), .nil, fun _ => by simp [RepDs], rfl, def_okC (as := as__law_keys) F sc__law_keys rfl (by decide) (fun A outer s H E hr => b__law_keys n h  A outer s H E hr)⟩
/-! _law_is_name -/
def g__law_is_name (n : Nat) : Es := (evSeq (evIf (evTor (evTnot (evTest (evPrim (pIsi a_str w_str) [.r 0]))) (evTor (evPrimT pEq [.r 0, .e (evLit (.str ""))]) (evTor (evPrimT (pCmp gtI) [.e (evPrim pLen [.r 0]), .e (evLit (.int 12))]) (evTor (evPrimT pInA [.r 0, .e (evCall (F__law_keys n) [] [])]) (evPrimT pInA [.e (evPrim pIxA [.r 0, .e (evLit (.int 0))]), .e (evLit (.str "0123456789"))]))))) (evRet (evLit (.bl false))) evNil) (evRet (evPrim pEq [.e (evLc [1] (evItE (evVar 0)) (tgName 1) (evPrimT pNotInA [.r 1, .e (evLit (.str "abcdefghijklmnopqrstuvwxyz0123456789"))]) (evVar 1)), .e (evLst [])])))
def as__law_is_name : List Nat := (([] ++ []) ++ [])
def F__law_is_name (n : Nat) : Fn := evDef [true] 2 (g__law_is_name n)
theorem sc__law_is_name : FnScope ["value", "sign"] ["value"] (defScope st__law_is_name) := ⟨rfl, rfl, rfl, by decide +kernel, rfl, by decide +kernel, by decide +kernel⟩
theorem b__law_is_name (n : Nat) (h : Hd Pg w K mg base) (c__law_keys : CalF Pg w K mg base (Tk K) 1 "_law_keys" 0 [] (F__law_keys n)) (A : Around) (outer : List PySem.Env) (s : Shared) (H : Hp) (E : XK) (hr : Room 1 (cxOf (L2.CX Pg w) Pg w K mg base ["value", "sign"] "_law_is_name" (defScope st__law_is_name) (He.ga K "_law_is_name") (codeAt K (He.ga K "_law_is_name")) A outer s H E).A) :
    SndSs (pT (Tk K)) (cxOf (L2.CX Pg w) Pg w K mg base ["value", "sign"] "_law_is_name" (defScope st__law_is_name) (He.ga K "_law_is_name") (codeAt K (He.ga K "_law_is_name")) A outer s H E) (defBody st__law_is_name) (g__law_is_name n) as__law_is_name := by
  have sc := sc__law_is_name
  exact (snds_cons (snds_if (SndW.t (sndw_or (sndt_not (sndt_truth (snd_prim (sh_isi rfl h.fr_isinstance (pe_bltn (v := .ty "str") rfl h.fr_str boot_str rfl) (.ty _)) (sndo_r nv sndo_nil) (prim_isi h.an_str)))) (sndw_or (sndt_prim (sh_cmpT op_U (by rfl)) (sndo_r nv (sndo_e snd_str sndo_nil)) (prim_eq (u64 hr))) (sndw_or (sndt_prim (sh_cmpT op_U (by rfl)) (sndo_e (snd_prim (sh_callB rfl h.fr_len boot_len) (sndo_r nv sndo_nil) prim_len) (sndo_e snd_int sndo_nil)) prim_gt) (sndw_or (sndt_prim (sh_cmpT op_U (by rfl)) (sndo_r nv (sndo_e (callF0 c__law_keys hr (by decide)) sndo_nil)) (prim_inA (u65 hr))) (sndw_or1 (sndt_prim (sh_cmpT op_U (by rfl)) (sndo_e (snd_prim (sh_ix ix_U (fun _ _ => rfl)) (sndo_r nv (sndo_e snd_int sndo_nil)) (prim_ixA (u1 hr))) (sndo_e snd_str sndo_nil)) (prim_inA (u65 hr))))))))) (snds_one (snds_ret snd_bl)) snds_nil) (snds_one (snds_ret (snd_prim (sh_cmp op_U (by rfl)) (sndo_e (snd_lc rfl sc.nd (own := [("sign", 1)]) (blkOk_by (by kernel_rfl)) (sndi_e (snd_var nv)) (fun _ _ _ _ _ => (sndg_name rfl sc.nd (.inl rfl))) (fun _ _ _ _ _ => (sndts_one (sndt_prim (sh_cmpT op_U (by rfl)) (sndo_r nv (sndo_e snd_str sndo_nil)) (prim_notInA (u65 hr))))) (fun _ _ _ _ _ => (snd_var nv)) (by decide) (by decide)) (sndo_e (snd_lst sndd_nil) sndo_nil)) (prim_eq (u64 hr))))))
theorem ok__law_is_name (n : Nat) (h : Hd Pg w K mg base) : CalF Pg w K mg base (Tk K) 2 "_law_is_name" 1 [] (F__law_is_name n) := by
  obtain ⟨fd, F⟩ := h.fd__law_is_name
  exact ⟨_, fd, ["value"], [], [], h.gl__law_is_name, F.kp, (F.bindsN fun _ _ _ _ _ _ us hl => match us, hl with | [_], _ => rfl), .nil, fun _ => by simp [RepDs], rfl, def_okC (as := as__law_is_name) F sc__law_is_name rfl (by decide) (fun A outer s H E hr => b__law_is_name n h (ok__law_keys n h) A outer s H E hr)⟩
/-! _law_is_number -/
def g__law_is_number (n : Nat) : Es := (evRet (evVand (evPrim pNe [.r 0, .e (evLit (.str ""))]) (evVand (evPrim (pCmp ltI) [.e (evPrim pLen [.r 0]), .e (evLit (.int 4))]) (evVand (evPrim pEq [.e (evLc [1] (evItE (evVar 0)) (tgName 1) (evPrimT pNotInA [.r 1, .e (evLit (.str "0123456789"))]) (evVar 1)), .e (evLst [])]) (evVor (evPrim pEq [.r 0, .e (evLit (.str "0"))]) (evPrim pNe [.e (evPrim pIxA [.r 0, .e (evLit (.int 0))]), .e (evLit (.str "0"))]))))))
def as__law_is_number : List Nat := []
def F__law_is_number (n : Nat) : Fn := evDef [true] 2 (g__law_is_number n)
theorem sc__law_is_number : FnScope ["word", "sign"] ["word"] (defScope st__law_is_number) := ⟨rfl, rfl, rfl, by decide +kernel, rfl, by decide +kernel, by decide +kernel⟩
theorem b__law_is_number (n : Nat) (h : Hd Pg w K mg base)  (A : Around) (outer : List PySem.Env) (s : Shared) (H : Hp) (E : XK) (hr : Room 0 (cxOf (L2.CX Pg w) Pg w K mg base ["word", "sign"] "_law_is_number" (defScope st__law_is_number) (He.ga K "_law_is_number") (codeAt K (He.ga K "_law_is_number")) A outer s H E).A) :
    SndSs (pT (Tk K)) (cxOf (L2.CX Pg w) Pg w K mg base ["word", "sign"] "_law_is_number" (defScope st__law_is_number) (He.ga K "_law_is_number") (codeAt K (He.ga K "_law_is_number")) A outer s H E) (defBody st__law_is_number) (g__law_is_number n) as__law_is_number := by
  have sc := sc__law_is_number
  exact (snds_one (snds_ret (snd_and (snd_prim (sh_cmp op_U (by rfl)) (sndo_r nv (sndo_e snd_str sndo_nil)) (prim_ne (u64 hr))) (snd_and (snd_prim (sh_cmp op_U (by rfl)) (sndo_e (snd_prim (sh_callB rfl h.fr_len boot_len) (sndo_r nv sndo_nil) prim_len) (sndo_e snd_int sndo_nil)) prim_lt) (snd_and (snd_prim (sh_cmp op_U (by rfl)) (sndo_e (snd_lc rfl sc.nd (own := [("sign", 1)]) (blkOk_by (by kernel_rfl)) (sndi_e (snd_var nv)) (fun _ _ _ _ _ => (sndg_name rfl sc.nd (.inl rfl))) (fun _ _ _ _ _ => (sndts_one (sndt_prim (sh_cmpT op_U (by rfl)) (sndo_r nv (sndo_e snd_str sndo_nil)) (prim_notInA (u65 hr))))) (fun _ _ _ _ _ => (snd_var nv)) (by decide) (by decide)) (sndo_e (snd_lst sndd_nil) sndo_nil)) (prim_eq (u64 hr))) (snd_one (snd_or (snd_prim (sh_cmp op_U (by rfl)) (sndo_r nv (sndo_e snd_str sndo_nil)) (prim_eq (u64 hr))) (snd_one (snd_prim (sh_cmp op_U (by rfl)) (sndo_e (snd_prim (sh_ix ix_U (fun _ _ => rfl)) (sndo_r nv (sndo_e snd_int sndo_nil)) (prim_ixA (u1 hr))) (sndo_e snd_str sndo_nil)) (prim_ne (u64 hr)))))))))))
theorem ok__law_is_number (n : Nat) (h : Hd Pg w K mg base) : CalF Pg w K mg base (Tk K) 1 "_law_is_number" 1 [] (F__law_is_number n) := by
  obtain ⟨fd, F⟩ := h.fd__law_is_number
  exact ⟨_, fd, ["word"], [], [], h.gl__law_is_number, F.kp, (F.bindsN fun _ _ _ _ _ _ us hl => match us, hl with | [_], _ => rfl), .nil, fun _ => by simp [RepDs], rfl, def_okC (as := as__law_is_number) F sc__law_is_number rfl (by decide) (fun A outer s H E hr => b__law_is_number n h  A outer s H E hr)⟩
/-! _law_kind_of_word -/
def g__law_kind_of_word (n : Nat) : Es := (evSeq (evIf (evPrimT pInA [.r 0, .e (evCall (F__law_keys n) [] [])]) (evRet (evLit (.str "key"))) evNil) (evSeq (evIf (evTest (evCall (F__law_is_name n) [.l 0] [])) (evRet (evLit (.str "name"))) evNil) (evRet (evIfe (evTest (evCall (F__law_is_number n) [.l 0] [])) (evLit (.str "number")) (evLit .non)))))
def as__law_kind_of_word : List Nat := (([] ++ []) ++ (([] ++ []) ++ []))
def F__law_kind_of_word (n : Nat) : Fn := evDef [true] 1 (g__law_kind_of_word n)
theorem sc__law_kind_of_word : FnScope ["word"] ["word"] (defScope st__law_kind_of_word) := ⟨rfl, rfl, rfl, by decide +kernel, rfl, by decide +kernel, by decide +kernel⟩
theorem b__law_kind_of_word (n : Nat) (h : Hd Pg w K mg base) (c__law_keys : CalF Pg w K mg base (Tk K) 1 "_law_keys" 0 [] (F__law_keys n)) (c__law_is_name : CalF Pg w K mg base (Tk K) 2 "_law_is_name" 1 [] (F__law_is_name n)) (c__law_is_number : CalF Pg w K mg base (Tk K) 1 "_law_is_number" 1 [] (F__law_is_number n)) (A : Around) (outer : List PySem.Env) (s : Shared) (H : Hp) (E : XK) (hr : Room 2 (cxOf (L2.CX Pg w) Pg w K mg base ["word"] "_law_kind_of_word" (defScope st__law_kind_of_word) (He.ga K "_law_kind_of_word") (codeAt K (He.ga K "_law_kind_of_word")) A outer s H E).A) :
    SndSs (pT (Tk K)) (cxOf (L2.CX Pg w) Pg w K mg base ["word"] "_law_kind_of_word" (defScope st__law_kind_of_word) (He.ga K "_law_kind_of_word") (codeAt K (He.ga K "_law_kind_of_word")) A outer s H E) (defBody st__law_kind_of_word) (g__law_kind_of_word n) as__law_kind_of_word := by
  have sc := sc__law_kind_of_word
  exact (snds_cons (snds_if (sndt_prim (sh_cmpT op_U (by rfl)) (sndo_r nv (sndo_e (callF0 c__law_keys hr (by decide)) sndo_nil)) (prim_inA (u65 hr))) (snds_one (snds_ret snd_str)) snds_nil) (snds_cons (snds_if (sndt_truth (callF c__law_is_name hr (by decide) (snda_l nv snda_nil))) (snds_one (snds_ret snd_str)) snds_nil) (snds_one (snds_ret (snd_ife (sndt_truth (callF c__law_is_number hr (by decide) (snda_l nv snda_nil))) snd_str snd_non)))))
theorem ok__law_kind_of_word (n : Nat) (h : Hd Pg w K mg base) : CalF Pg w K mg base (Tk K) 3 "_law_kind_of_word" 1 [] (F__law_kind_of_word n) := by
  obtain ⟨fd, F⟩ := h.fd__law_kind_of_word
  exact ⟨_, fd, ["word"], [], [], h.gl__law_kind_of_word, F.kp, (F.bindsN fun _ _ _ _ _ _ us hl => match us, hl with | [_], _ => rfl), .nil, fun _ => by simp [RepDs], rfl, def_okC (as := as__law_kind_of_word) F sc__law_kind_of_word rfl (by decide) (fun A outer s H E hr => b__law_kind_of_word n h (ok__law_keys n h) (ok__law_is_name n h) (ok__law_is_number n h) A outer s H E hr)⟩
/-! _law_due -/
def g__law_due (n : Nat) : Es := (evSeq (evPar [(evLst []), (evLit (.int 1)), (evLit (.int 1)), (evLit (.int 0)), (evLit (.str "abcdefghijklmnopqrstuvwxyz0123456789"))] [(tgoName 1), (tgoName 2), (tgoName 3), (tgoName 4), (tgoName 5)]) (evSeq (evFor (evArgI [(evPrim pSum [.e (evPrim pLen [.r 0]), .e (evLit (.int 1))])] kRange1) (tgName 6) (evSeq (evIf (evPrimT (pCmp geI) [.r 4, .e (evPrim pLen [.r 0])]) evBrk evNil) (evSeq (evSet 7 (evPrim pIxA [.r 0, .r 4])) (evSeq (evIf (evPrimT pEq [.r 7, .e (evLit (.str "#"))]) (evSeq (evSet 8 (evPrim pLen [.e (evPrim pIxA [.e (evStrM (evPrim (pSl true false) [.r 0, .r 4]) [.e (evLit (.str "\n"))] pSplit), .e (evLit (.int 0))])])) (evSeq (evPar [(evPrim pSum [.r 4, .r 8]), (evPrim pSum [.r 3, .r 8])] [(tgoName 4), (tgoName 3)]) evCnt)) evNil) (evSeq (evIf (evPrimT pInA [.r 7, .e (evLit (.str " \n"))]) (evSeq (evAsgO (evIfe (evPrimT pEq [.r 7, .e (evLit (.str "\n"))]) (evTup [(evPrim pSum [.r 2, .e (evLit (.int 1))]), (evLit (.int 1))]) (evTup [(evVar 2), (evPrim pSum [.r 3, .e (evLit (.int 1))])])) (tgoFrz (tgTup (tgsCons (tgName 2) (tgsCons (tgName 3) tgsNil))))) (evSeq (evSet 4 (evPrim pSum [.r 4, .e (evLit (.int 1))])) evCnt)) evNil) (evSeq (evSet 8 (evLit (.int 1))) (evSeq (evIf (evPrimT pInA [.r 7, .r 5]) (evFor (evArgI [(evPrim pLen [.r 0])] kRange1) (tgName 9) (evIf (evTand (evPrimT (pCmp ltI) [.e (evPrim pSum [.r 4, .r 8]), .e (evPrim pLen [.r 0])]) (evPrimT pInA [.e (evPrim pIxA [.r 0, .e (evPrim pSum [.r 4, .r 8])]), .r 5])) (evSet 8 (evPrim pSum [.r 8, .e (evLit (.int 1))])) evNil)) evNil) (evSeq (evSet 10 (evPrim (pSl true true) [.r 0, .r 4, .e (evPrim pSum [.r 4, .r 8])])) (evSeq (evSet 11 (evIfe (evPrimT pInA [.r 10, .e (evLst [(evLit (.str "{")), (evLit (.str "}")), (evLit (.str "(")), (evLit (.str ")")), (evLit (.str ",")), (evLit (.str ";")), (evLit (.str ":"))])]) (evLit (.str "sign")) (evIfe (evPrimT pInA [.r 7, .r 5]) (evCall (F__law_kind_of_word n) [.l 10] []) (evLit .non)))) (evSeq (evIf (evPrimT pIs [.r 11, .e (evLit .non)]) (evRet (evTup [(evLst [(evLit (.str "read")), (evVar 2), (evVar 3)]), (evLit .non)])) evNil) (evSeq (evXp (evAppend 1 (evTup [(evVar 11), (evVar 10), (evTup [(evVar 2), (evVar 3)])]))) (evPar [(evPrim pSum [.r 4, .r 8]), (evPrim pSum [.r 3, .r 8])] [(tgoName 4), (tgoName 3)])))))))))))) (evRet (evTup [(evLit .non), (evPrim pTuple [.e (evPrim pSum [.r 1, .e (evLst [(evTup [(evLit (.str "end")), (evLit (.str "")), (evTup [(evVar 2), (evVar 3)])])])])])]))))
def as__law_due : List Nat := (([1] ++ ([2] ++ ([3] ++ ([4] ++ ([5] ++ []))))) ++ (([6] ++ (([] ++ []) ++ ([7] ++ ((([8] ++ ([4, 3] ++ [])) ++ []) ++ (((([2] ++ ([3] ++ [])) ++ ([4] ++ [])) ++ []) ++ ([8] ++ ((([9] ++ ([8] ++ [])) ++ []) ++ ([10] ++ ([11] ++ (([] ++ []) ++ ([] ++ [4, 3]))))))))))) ++ []))
def F__law_due (n : Nat) : Fn := evDef [true] 12 (g__law_due n)
theorem sc__law_due : FnScope ["text", "found", "line", "column", "at", "run", "lap", "sign", "many", "step", "word", "kind"] ["text"] (defScope st__law_due) := ⟨rfl, rfl, rfl, by decide +kernel, rfl, by decide +kernel, by decide +kernel⟩
theorem b__law_due (n : Nat) (h : Hd Pg w K mg base) (c__law_kind_of_word : CalF Pg w K mg base (Tk K) 3 "_law_kind_of_word" 1 [] (F__law_kind_of_word n)) (A : Around) (outer : List PySem.Env) (s : Shared) (H : Hp) (E : XK) (hr : Room 3 (cxOf (L2.CX Pg w) Pg w K mg base ["text", "found", "line", "column", "at", "run", "lap", "sign", "many", "step", "word", "kind"] "_law_due" (defScope st__law_due) (He.ga K "_law_due") (codeAt K (He.ga K "_law_due")) A outer s H E).A) :
    SndSs (pT (Tk K)) (cxOf (L2.CX Pg w) Pg w K mg base ["text", "found", "line", "column", "at", "run", "lap", "sign", "many", "step", "word", "kind"] "_law_due" (defScope st__law_due) (He.ga K "_law_due") (codeAt K (He.ga K "_law_due")) A outer s H E) (defBody st__law_due) (g__law_due n) as__law_due := by
  have sc := sc__law_due
  exact (snds_cons (snds_par rfl (sndA_cons (snd_lst sndd_nil) (sndA_cons snd_int (sndA_cons snd_int (sndA_cons snd_int (sndA_cons snd_str sndA_nil))))) (.cons (sndgo_name rfl sc.nd (.inl rfl)) (.cons (sndgo_name rfl sc.nd (.inl rfl)) (.cons (sndgo_name rfl sc.nd (.inl rfl)) (.cons (sndgo_name rfl sc.nd (.inl rfl)) (.cons (sndgo_name rfl sc.nd (.inl rfl)) .nil rfl) rfl) rfl) rfl) rfl)) (snds_cons (snds_for (passes_of rfl) rfl (sndi_range1 rfl h.fr_range (sndd_cons (snd_prim (sh_bin op_U) (sndo_e (snd_prim (sh_callB rfl h.fr_len boot_len) (sndo_r nv sndo_nil) prim_len) (sndo_e snd_int sndo_nil)) prim_sum) sndd_nil)) (sndg_name rfl sc.nd (.inl rfl)) (snds_cons (snds_if (sndt_prim (sh_cmpT op_U (by rfl)) (sndo_r nv (sndo_e (snd_prim (sh_callB rfl h.fr_len boot_len) (sndo_r nv sndo_nil) prim_len) sndo_nil)) prim_ge) (snds_one snds_brk) snds_nil) (snds_cons (snds_set rfl sc.nd (.inl rfl) (snd_prim (sh_ix ix_U (fun _ _ => rfl)) (sndo_r nv (sndo_r nv sndo_nil)) (prim_ixA (u1 hr)))) (snds_cons (snds_if (sndt_prim (sh_cmpT op_U (by rfl)) (sndo_r nv (sndo_e snd_str sndo_nil)) (prim_eq (u64 hr))) (snds_cons (snds_set rfl sc.nd (.inl rfl) (snd_prim (sh_callB rfl h.fr_len boot_len) (sndo_e (snd_prim (sh_ix ix_U (fun _ _ => rfl)) (sndo_e (snd_strM1 PySem.F.slot_str_split PySem.F.type_str_split (snd_prim sh_sl10 (sndo_r nv (sndo_r nv sndo_nil)) prim_sl) (sndo_e snd_str sndo_nil) prim_split) (sndo_e snd_int sndo_nil)) (prim_ixA (u1 hr))) sndo_nil) prim_len)) (snds_cons (snds_par2 rfl sc.nd rfl rfl (by decide) rfl rfl (sndA_cons (snd_prim (sh_bin op_U) (sndo_r nv (sndo_r nv sndo_nil)) prim_sum) (sndA_cons (snd_prim (sh_bin op_U) (sndo_r nv (sndo_r nv sndo_nil)) prim_sum) sndA_nil)) (by rfl)) (snds_one snds_cnt))) snds_nil) (snds_cons (snds_if (sndt_prim (sh_cmpT op_U (by rfl)) (sndo_r nv (sndo_e snd_str sndo_nil)) (prim_inA (u65 hr))) (snds_cons (snds_asg (snd_ife (sndt_prim (sh_cmpT op_U (by rfl)) (sndo_r nv (sndo_e snd_str sndo_nil)) (prim_eq (u64 hr))) (snd_tup (sndd_cons (snd_prim (sh_bin op_U) (sndo_r nv (sndo_e snd_int sndo_nil)) prim_sum) (sndd_cons snd_int sndd_nil))) (snd_tup (sndd_cons (snd_var nv) (sndd_cons (snd_prim (sh_bin op_U) (sndo_r nv (sndo_e snd_int sndo_nil)) prim_sum) sndd_nil)))) (sndgo_frz (sndg_tup rfl (sndgs_cons (sndg_name rfl sc.nd (.inl rfl)) (sndgs_cons (sndg_name rfl sc.nd (.inl rfl)) sndgs_nil)) (fun _ _ _ e => tgsCons_len (fun _ _ _ e => tgsCons_len (fun _ _ _ e => tgsNil_len e) e) e)))) (snds_cons (snds_set rfl sc.nd (.inl rfl) (snd_prim (sh_bin op_U) (sndo_r nv (sndo_e snd_int sndo_nil)) prim_sum)) (snds_one snds_cnt))) snds_nil) (snds_cons (snds_set rfl sc.nd (.inl rfl) snd_int) (snds_cons (snds_if (sndt_prim (sh_cmpT op_U (by rfl)) (sndo_r nv (sndo_r nv sndo_nil)) (prim_inA (u65 hr))) (snds_one (snds_for (passes_of rfl) rfl (sndi_range1 rfl h.fr_range (sndd_cons (snd_prim (sh_callB rfl h.fr_len boot_len) (sndo_r nv sndo_nil) prim_len) sndd_nil)) (sndg_name rfl sc.nd (.inl rfl)) (snds_one (snds_if (SndW.t (sndw_and (sndt_prim (sh_cmpT op_U (by rfl)) (sndo_e (snd_prim (sh_bin op_U) (sndo_r nv (sndo_r nv sndo_nil)) prim_sum) (sndo_e (snd_prim (sh_callB rfl h.fr_len boot_len) (sndo_r nv sndo_nil) prim_len) sndo_nil)) prim_lt) (sndw_and1 (sndt_prim (sh_cmpT op_U (by rfl)) (sndo_e (snd_prim (sh_ix ix_U (fun _ _ => rfl)) (sndo_r nv (sndo_e (snd_prim (sh_bin op_U) (sndo_r nv (sndo_r nv sndo_nil)) prim_sum) sndo_nil)) (prim_ixA (u1 hr))) (sndo_r nv sndo_nil)) (prim_inA (u65 hr)))))) (snds_one (snds_set rfl sc.nd (.inl rfl) (snd_prim (sh_bin op_U) (sndo_r nv (sndo_e snd_int sndo_nil)) prim_sum))) snds_nil)))) snds_nil) (snds_cons (snds_set rfl sc.nd (.inl rfl) (snd_prim sh_sl11 (sndo_r nv (sndo_r nv (sndo_e (snd_prim (sh_bin op_U) (sndo_r nv (sndo_r nv sndo_nil)) prim_sum) sndo_nil))) prim_sl)) (snds_cons (snds_set rfl sc.nd (.inl rfl) (snd_ife (sndt_prim (sh_cmpT op_U (by rfl)) (sndo_r nv (sndo_e (snd_lst (sndd_cons snd_str (sndd_cons snd_str (sndd_cons snd_str (sndd_cons snd_str (sndd_cons snd_str (sndd_cons snd_str (sndd_cons snd_str sndd_nil)))))))) sndo_nil)) (prim_inA (u65 hr))) snd_str (snd_ife (sndt_prim (sh_cmpT op_U (by rfl)) (sndo_r nv (sndo_r nv sndo_nil)) (prim_inA (u65 hr))) (callF c__law_kind_of_word hr (by decide) (snda_l nv snda_nil)) snd_non))) (snds_cons (snds_if (sndt_prim (sh_cmpT op_U (by rfl)) (sndo_r nv (sndo_e snd_non sndo_nil)) prim_is) (snds_one (snds_ret (snd_tup (sndd_cons (snd_lst (sndd_cons snd_str (sndd_cons (snd_var nv) (sndd_cons (snd_var nv) sndd_nil)))) (sndd_cons snd_non sndd_nil))))) snds_nil) (snds_cons (snds_xp (snd_append nv (snd_tup (sndd_cons (snd_var nv) (sndd_cons (snd_var nv) (sndd_cons (snd_tup (sndd_cons (snd_var nv) (sndd_cons (snd_var nv) sndd_nil))) sndd_nil)))))) (snds_one (snds_par2 rfl sc.nd rfl rfl (by decide) rfl rfl (sndA_cons (snd_prim (sh_bin op_U) (sndo_r nv (sndo_r nv sndo_nil)) prim_sum) (sndA_cons (snd_prim (sh_bin op_U) (sndo_r nv (sndo_r nv sndo_nil)) prim_sum) sndA_nil)) (by rfl)))))))))))))) (snds_one (snds_ret (snd_tup (sndd_cons snd_non (sndd_cons (snd_prim (sh_callTy rfl h.fr_tuple boot_tuple) (sndo_e (snd_prim (sh_bin op_U) (sndo_r nv (sndo_e (snd_lst (sndd_cons (snd_tup (sndd_cons snd_str (sndd_cons snd_str (sndd_cons (snd_tup (sndd_cons (snd_var nv) (sndd_cons (snd_var nv) sndd_nil))) sndd_nil)))) sndd_nil)) sndo_nil)) prim_sum) sndo_nil) prim_tuple) sndd_nil)))))))
theorem ok__law_due (n : Nat) (h : Hd Pg w K mg base) : CalF Pg w K mg base (Tk K) 4 "_law_due" 1 [] (F__law_due n) := by
  obtain ⟨fd, F⟩ := h.fd__law_due
  exact ⟨_, fd, ["text"], [], [], h.gl__law_due, F.kp, (F.bindsN fun _ _ _ _ _ _ us hl => match us, hl with | [_], _ => rfl), .nil, fun _ => by simp [RepDs], rfl, def_okC (as := as__law_due) F sc__law_due rfl (by decide) (fun A outer s H E hr => b__law_due n h (ok__law_kind_of_word n h) A outer s H E hr)⟩
/-! _law_is_told -/
def g__law_is_told (n : Nat) : Es := (evSeq (evPar [(evLst []), (evCall (F__law_due n) [.l 0] [])] [(tgoName 1), (tgoName 2)]) (evSeq (evIf (evPrimT pNe [.e (evTell true csX hs__law_why (evAppend 1 (evCall (F_tokens n) [.l 0] []))), .e (evPrim pIxA [.r 2, .e (evLit (.int 0))])]) (evRet (evLit (.bl false))) evNil) (evRet (evVor (evPrim pIsNot [.e (evPrim pIxA [.r 2, .e (evLit (.int 0))]), .e (evLit .non)]) (evCall (F__law_same n 12) [.e (evPrim pIxA [.r 1, .e (evLit (.int 0))]), .e (evPrim pIxA [.r 2, .e (evLit (.int 1))])] [])))))
def as__law_is_told : List Nat := (([1] ++ ([2] ++ [])) ++ (([] ++ []) ++ []))
def F__law_is_told (n : Nat) : Fn := evDef [true] 3 (g__law_is_told n)
theorem sc__law_is_told : FnScope ["text", "told", "due"] ["text"] (defScope st__law_is_told) := ⟨rfl, rfl, rfl, by decide +kernel, rfl, by decide +kernel, by decide +kernel⟩
theorem b__law_is_told (n : Nat) (h : Hd Pg w K mg base) (c__law_due : CalF Pg w K mg base (Tk K) 4 "_law_due" 1 [] (F__law_due n)) (c__law_same : CalF Pg w K mg base (Tk K) 12 "_law_same" 2 [] (F__law_same n 12)) (c_tokens : CalF Pg w K mg base (Tk K) 4 "tokens" 1 [] (F_tokens n)) (t__law_why : TelF Pg w K mg base "_law_why" "call" true hs__law_why) (A : Around) (outer : List PySem.Env) (s : Shared) (H : Hp) (E : XK) (hr : Room 12 (cxOf (L2.CX Pg w) Pg w K mg base ["text", "told", "due"] "_law_is_told" (defScope st__law_is_told) (He.ga K "_law_is_told") (codeAt K (He.ga K "_law_is_told")) A outer s H E).A) :
    SndSs (pT (Tk K)) (cxOf (L2.CX Pg w) Pg w K mg base ["text", "told", "due"] "_law_is_told" (defScope st__law_is_told) (He.ga K "_law_is_told") (codeAt K (He.ga K "_law_is_told")) A outer s H E) (defBody st__law_is_told) (g__law_is_told n) as__law_is_told := by
  have sc := sc__law_is_told
  exact (snds_cons (snds_par rfl (sndA_cons (snd_lst sndd_nil) (sndA_cons (callF c__law_due hr (by decide) (snda_l nv snda_nil)) sndA_nil)) (.cons (sndgo_name rfl sc.nd (.inr rfl)) (.cons (sndgo_name rfl sc.nd (.inl rfl)) .nil rfl) rfl)) (snds_cons (snds_if (sndt_prim (sh_cmpT op_U (by rfl)) (sndo_e (telF csX t__law_why (h.tb__law_is_told) (h.cd__law_is_told) (memT__law_is_told h) (onlyT__law_is_told h) hr h.ex__law_why (fun A outer s H E _ _ hr => (snd_append nv (callF c_tokens hr (by decide) (snda_l nv snda_nil))))) (sndo_e (snd_prim (sh_ix ix_U (fun _ _ => rfl)) (sndo_r nv (sndo_e snd_int sndo_nil)) (prim_ixA (u1 hr))) sndo_nil)) (prim_ne (u64 hr))) (snds_one (snds_ret snd_bl)) snds_nil) (snds_one (snds_ret (snd_or (snd_prim (sh_cmp op_U (by rfl)) (sndo_e (snd_prim (sh_ix ix_U (fun _ _ => rfl)) (sndo_r nv (sndo_e snd_int sndo_nil)) (prim_ixA (u1 hr))) (sndo_e snd_non sndo_nil)) prim_isNot) (snd_one (callF c__law_same hr (by decide) (snda_e (snd_prim (sh_ix ix_U (fun _ _ => rfl)) (sndo_r nv (sndo_e snd_int sndo_nil)) (prim_ixA (u1 hr))) (snda_e (snd_prim (sh_ix ix_U (fun _ _ => rfl)) (sndo_r nv (sndo_e snd_int sndo_nil)) (prim_ixA (u1 hr))) snda_nil)))))))))
theorem ok__law_is_told (n : Nat) (h : Hd Pg w K mg base) : CalF Pg w K mg base (Tk K) 13 "_law_is_told" 1 [] (F__law_is_told n) := by
  obtain ⟨fd, F⟩ := h.fd__law_is_told
  exact ⟨_, fd, ["text"], [], [], h.gl__law_is_told, F.kp, (F.bindsN fun _ _ _ _ _ _ us hl => match us, hl with | [_], _ => rfl), .nil, fun _ => by simp [RepDs], rfl, def_okC (as := as__law_is_told) F sc__law_is_told rfl (by decide) (fun A outer s H E hr => b__law_is_told n h (ok__law_due n h) (ok__law_same n h) (ok_tokens n h) (tel__law_why h) A outer s H E hr)⟩
/-! law -/
def g_law (n : Nat) : Es := (evSeq (evSet 1 (evCall (F__law_pen n) [.l 0] [])) (evSeq (evFor (evArgI [(evLit (.int 6))] kRange1) (tgName 2) (evSeq (evSet 3 (evCall (F__law_names n) [.l 1, .e (evLit (.int 3))] [])) (evSeq (evSet 4 (evPrim pSum [.e (evPrim pSum [.r 3, .e (evCall (F__law_keys n) [] [])]), .e (evLst [(evLit (.str "0")), (evLit (.str "7")), (evLit (.str "10")), (evLit (.str "305")), (evLit (.str "999")), (evLit (.str "{")), (evLit (.str "}")), (evLit (.str ":")), (evLit (.str ";")), (evLit (.str ",")), (evLit (.str "abcdefghijkl"))])])) (evSeq (evSet 5 (evLst [(evLit (.str "01")), (evLit (.str "00")), (evLit (.str "1000")), (evLit (.str "1a")), (evLit (.str "abcdefghijklm")), (evLit (.str "deeddeeddeed1")), (evLit (.str "A")), (evLit (.str "_")), (evLit (.str "a.b")), (evLit (.str ".")), (evLit (.str "[")), (evLit (.str "\t")), (evLit (.str "*")), (evLit (.str "a_"))])) (evSeq (evSet 6 (evLit (.str ""))) (evSeq (evFor (evArgI [(evCall (F__law_draw n) [.l 1, .e (evLit (.int 25))] [])] kRange1) (tgName 7) (evSeq (evSet 8 (evIfe (evPrimT (pCmp gtI) [.e (evCall (F__law_draw n) [.l 1, .e (evLit (.int 12))] []), .e (evLit (.int 0))]) (evCall (F__law_pick n) [.l 1, .l 4] []) (evCall (F__law_pick n) [.l 1, .l 5] []))) (evSet 6 (evPrim pSum [.e (evPrim pSum [.r 6, .r 8]), .e (evCall (F__law_pick n) [.l 1, .e (evLst [(evLit (.str " ")), (evLit (.str " ")), (evLit (.str "\n")), (evLit (.str "")), (evLit (.str "  ")), (evLit (.str " # x } 01\n")), (evLit (.str "#\n")), (evLit (.str "\n\n"))])] [])])))) (evIf (evTor (evTnot (evTest (evCall (F__law_is_told n) [.l 6] []))) (evTnot (evTest (evCall (F__law_is_told n) [.e (evPrim pSum [.r 6, .e (evCall (F__law_pick n) [.l 1, .e (evLst [(evLit (.str "#")), (evLit (.str "# end")), (evLit (.str " ")), (evLit (.str "\n")), (evLit (.str "\n ")), (evLit (.str "# a\n#b"))])] [])])] [])))) (evRet (evLit (.bl false))) evNil))))))) (evSeq (evFor (evItE (evLst [(evLit (.str "")), (evLit (.str " ")), (evLit (.str "\n")), (evLit (.str "#")), (evLit (.str "a#b\nc")), (evLit (.str "{}();,:")), (evLit (.str "a:1")), (evLit (.str "and2")), (evLit (.str "2and")), (evLit (.str "tie")), (evLit (.str "tiex"))])) (tgName 9) (evIf (evTnot (evTest (evCall (F__law_is_told n) [.l 9] []))) (evRet (evLit (.bl false))) evNil)) (evSeq (evSet 10 (evCall (F__law_pick n) [.l 1, .e (evLst [(evLit .non), (evLit (.int 5)), (evTup []), (evLst [(evLit (.str "cloth"))]), (evLit (.bl true)), (evDict [])])] [])) (evSeq (evIf (evPrimT pNe [.e (evTell true csX hs__law_why (evCall (F_tokens n) [.l 10] [])), .e (evLst [(evLit (.str "read")), (evLit (.int 0)), (evLit (.int 0))])]) (evRet (evLit (.bl false))) evNil) (evSeq (evFor (evItE (evPrim pSum [.e (evPrim pSum [.e (evCall (F__law_names n) [.l 1, .e (evLit (.int 3))] []), .e (evCall (F__law_keys n) [] [])]), .e (evLst [(evLit (.str "")), (evPrim pMul [.e (evLit (.str "a")), .e (evLit (.int 12))]), (evPrim pMul [.e (evLit (.str "a")), .e (evLit (.int 13))]), (evLit (.str "1a")), (evLit (.str "a1")), (evLit (.str "A")), (evLit (.str "a b")), (evLit (.str "a\n")), (evLit .non), (evLit (.int 5)), (evLit (.bl true)), (evTup []), (evLst [(evLit (.str "a"))]), (evLit (.str "7")), (evLit (.str "-"))])])) (tgName 9) (evIf (evTnot (evTest (evCall (F__law_same n 12) [.e (evCall (F_is_name n) [.l 9] []), .e (evCall (F__law_is_name n) [.l 9] [])] []))) (evRet (evLit (.bl false))) evNil)) (evRet (evLit (.bl true)))))))))
def as_law : List Nat := ([1] ++ (([2] ++ ([3] ++ ([4] ++ ([5] ++ ([6] ++ (([7] ++ ([8] ++ [6])) ++ ([] ++ []))))))) ++ (([9] ++ ([] ++ [])) ++ ([10] ++ (([] ++ []) ++ (([9] ++ ([] ++ [])) ++ []))))))
def F_law (n : Nat) : Fn := evDef [true] 11 (g_law n)
theorem sc_law : FnScope ["script", "pen", "lap", "names", "right", "wrong", "text", "turn", "word", "value", "odd"] ["script"] (defScope st_law) := ⟨rfl, rfl, rfl, by decide +kernel, rfl, by decide +kernel, by decide +kernel⟩
theorem b_law (n : Nat) (h : Hd Pg w K mg base) (c__law_pen : CalF Pg w K mg base (Tk K) 1 "_law_pen" 1 [] (F__law_pen n)) (c__law_names : CalF Pg w K mg base (Tk K) 3 "_law_names" 2 [] (F__law_names n)) (c__law_keys : CalF Pg w K mg base (Tk K) 1 "_law_keys" 0 [] (F__law_keys n)) (c__law_draw : CalF Pg w K mg base (Tk K) 1 "_law_draw" 2 [] (F__law_draw n)) (c__law_pick : CalF Pg w K mg base (Tk K) 2 "_law_pick" 2 [] (F__law_pick n)) (c__law_is_told : CalF Pg w K mg base (Tk K) 13 "_law_is_told" 1 [] (F__law_is_told n)) (c__law_same : CalF Pg w K mg base (Tk K) 12 "_law_same" 2 [] (F__law_same n 12)) (c_is_name : CalF Pg w K mg base (Tk K) 3 "is_name" 1 [] (F_is_name n)) (c__law_is_name : CalF Pg w K mg base (Tk K) 2 "_law_is_name" 1 [] (F__law_is_name n)) (c_tokens : CalF Pg w K mg base (Tk K) 4 "tokens" 1 [] (F_tokens n)) (t__law_why : TelF Pg w K mg base "_law_why" "call" true hs__law_why) (A : Around) (outer : List PySem.Env) (s : Shared) (H : Hp) (E : XK) (hr : Room 13 (cxOf (L2.CX Pg w) Pg w K mg base ["script", "pen", "lap", "names", "right", "wrong", "text", "turn", "word", "value", "odd"] "law" (defScope st_law) (He.ga K "law") (codeAt K (He.ga K "law")) A outer s H E).A) :
    SndSs (pT (Tk K)) (cxOf (L2.CX Pg w) Pg w K mg base ["script", "pen", "lap", "names", "right", "wrong", "text", "turn", "word", "value", "odd"] "law" (defScope st_law) (He.ga K "law") (codeAt K (He.ga K "law")) A outer s H E) (defBody st_law) (g_law n) as_law := by
  have sc := sc_law
  exact (snds_cons (snds_set rfl sc.nd (.inl rfl) (callF c__law_pen hr (by decide) (snda_l nv snda_nil))) (snds_cons (snds_for (passes_of rfl) rfl (sndi_range1 rfl h.fr_range (sndd_cons snd_int sndd_nil)) (sndg_name rfl sc.nd (.inl rfl)) (snds_cons (snds_set rfl sc.nd (.inl rfl) (callF c__law_names hr (by decide) (snda_l nv (snda_e snd_int snda_nil)))) (snds_cons (snds_set rfl sc.nd (.inl rfl) (snd_prim (sh_bin op_U) (sndo_e (snd_prim (sh_bin op_U) (sndo_r nv (sndo_e (callF0 c__law_keys hr (by decide)) sndo_nil)) prim_sum) (sndo_e (snd_lst (sndd_cons snd_str (sndd_cons snd_str (sndd_cons snd_str (sndd_cons snd_str (sndd_cons snd_str (sndd_cons snd_str (sndd_cons snd_str (sndd_cons snd_str (sndd_cons snd_str (sndd_cons snd_str (sndd_cons snd_str sndd_nil)))))))))))) sndo_nil)) prim_sum)) (snds_cons (snds_set rfl sc.nd (.inl rfl) (snd_lst (sndd_cons snd_str (sndd_cons snd_str (sndd_cons snd_str (sndd_cons snd_str (sndd_cons snd_str (sndd_cons snd_str (sndd_cons snd_str (sndd_cons snd_str (sndd_cons snd_str (sndd_cons snd_str (sndd_cons snd_str (sndd_cons snd_str (sndd_cons snd_str (sndd_cons snd_str sndd_nil)))))))))))))))) (snds_cons (snds_set rfl sc.nd (.inl rfl) snd_str) (snds_cons (snds_for (passes_of rfl) rfl (sndi_range1 rfl h.fr_range (sndd_cons (callF c__law_draw hr (by decide) (snda_l nv (snda_e snd_int snda_nil))) sndd_nil)) (sndg_name rfl sc.nd (.inl rfl)) (snds_cons (snds_set rfl sc.nd (.inl rfl) (snd_ife (sndt_prim (sh_cmpT op_U (by rfl)) (sndo_e (callF c__law_draw hr (by decide) (snda_l nv (snda_e snd_int snda_nil))) (sndo_e snd_int sndo_nil)) prim_gt) (callF c__law_pick hr (by decide) (snda_l nv (snda_l nv snda_nil))) (callF c__law_pick hr (by decide) (snda_l nv (snda_l nv snda_nil))))) (snds_one (snds_set rfl sc.nd (.inl rfl) (snd_prim (sh_bin op_U) (sndo_e (snd_prim (sh_bin op_U) (sndo_r nv (sndo_r nv sndo_nil)) prim_sum) (sndo_e (callF c__law_pick hr (by decide) (snda_l nv (snda_e (snd_lst (sndd_cons snd_str (sndd_cons snd_str (sndd_cons snd_str (sndd_cons snd_str (sndd_cons snd_str (sndd_cons snd_str (sndd_cons snd_str (sndd_cons snd_str sndd_nil))))))))) snda_nil))) sndo_nil)) prim_sum))))) (snds_one (snds_if (SndW.t (sndw_or (sndt_not (sndt_truth (callF c__law_is_told hr (by decide) (snda_l nv snda_nil)))) (sndw_or1 (sndt_not (sndt_truth (callF c__law_is_told hr (by decide) (snda_e (snd_prim (sh_bin op_U) (sndo_r nv (sndo_e (callF c__law_pick hr (by decide) (snda_l nv (snda_e (snd_lst (sndd_cons snd_str (sndd_cons snd_str (sndd_cons snd_str (sndd_cons snd_str (sndd_cons snd_str (sndd_cons snd_str sndd_nil))))))) snda_nil))) sndo_nil)) prim_sum) snda_nil))))))) (snds_one (snds_ret snd_bl)) snds_nil)))))))) (snds_cons (snds_for (passes_of rfl) rfl (sndi_e (snd_lst (sndd_cons snd_str (sndd_cons snd_str (sndd_cons snd_str (sndd_cons snd_str (sndd_cons snd_str (sndd_cons snd_str (sndd_cons snd_str (sndd_cons snd_str (sndd_cons snd_str (sndd_cons snd_str (sndd_cons snd_str sndd_nil))))))))))))) (sndg_name rfl sc.nd (.inl rfl)) (snds_one (snds_if (sndt_not (sndt_truth (callF c__law_is_told hr (by decide) (snda_l nv snda_nil)))) (snds_one (snds_ret snd_bl)) snds_nil))) (snds_cons (snds_set rfl sc.nd (.inr rfl) (callF c__law_pick hr (by decide) (snda_l nv (snda_e (snd_lst (sndd_cons snd_non (sndd_cons snd_int (sndd_cons (snd_tup sndd_nil) (sndd_cons (snd_lst (sndd_cons snd_str sndd_nil)) (sndd_cons snd_bl (sndd_cons snd_dict0 sndd_nil))))))) snda_nil)))) (snds_cons (snds_if (sndt_prim (sh_cmpT op_U (by rfl)) (sndo_e (telF csX t__law_why (h.tb_law) (h.cd_law) (memT_law h) (onlyT_law h) hr h.ex__law_why (fun A outer s H E _ _ hr => (callF c_tokens hr (by decide) (snda_l nv snda_nil)))) (sndo_e (snd_lst (sndd_cons snd_str (sndd_cons snd_int (sndd_cons snd_int sndd_nil)))) sndo_nil)) (prim_ne (u64 hr))) (snds_one (snds_ret snd_bl)) snds_nil) (snds_cons (snds_for (passes_of rfl) rfl (sndi_e (snd_prim (sh_bin op_U) (sndo_e (snd_prim (sh_bin op_U) (sndo_e (callF c__law_names hr (by decide) (snda_l nv (snda_e snd_int snda_nil))) (sndo_e (callF0 c__law_keys hr (by decide)) sndo_nil)) prim_sum) (sndo_e (snd_lst (sndd_cons snd_str (sndd_cons (snd_prim (sh_bin op_U) (sndo_e snd_str (sndo_e snd_int sndo_nil)) prim_mul) (sndd_cons (snd_prim (sh_bin op_U) (sndo_e snd_str (sndo_e snd_int sndo_nil)) prim_mul) (sndd_cons snd_str (sndd_cons snd_str (sndd_cons snd_str (sndd_cons snd_str (sndd_cons snd_str (sndd_cons snd_non (sndd_cons snd_int (sndd_cons snd_bl (sndd_cons (snd_tup sndd_nil) (sndd_cons (snd_lst (sndd_cons snd_str sndd_nil)) (sndd_cons snd_str (sndd_cons snd_str sndd_nil)))))))))))))))) sndo_nil)) prim_sum)) (sndg_name rfl sc.nd (.inl rfl)) (snds_one (snds_if (sndt_not (sndt_truth (callF c__law_same hr (by decide) (snda_e (callF c_is_name hr (by decide) (snda_l nv snda_nil)) (snda_e (callF c__law_is_name hr (by decide) (snda_l nv snda_nil)) snda_nil))))) (snds_one (snds_ret snd_bl)) snds_nil))) (snds_one (snds_ret snd_bl))))))))
theorem ok_law (n : Nat) (h : Hd Pg w K mg base) : CalF Pg w K mg base (Tk K) 14 "law" 1 [] (F_law n) := by
  obtain ⟨fd, F⟩ := h.fd_law
  exact ⟨_, fd, ["script"], [], [], h.gl_law, F.kp, (F.bindsN fun _ _ _ _ _ _ us hl => match us, hl with | [_], _ => rfl), .nil, fun _ => by simp [RepDs], rfl, def_okC (as := as_law) F sc_law rfl (by decide) (fun A outer s H E hr => b_law n h (ok__law_pen n h) (ok__law_names n h) (ok__law_keys n h) (ok__law_draw n h) (ok__law_pick n h) (ok__law_is_told n h) (ok__law_same n h) (ok_is_name n h) (ok__law_is_name n h) (ok_tokens n h) (tel__law_why h) A outer s H E hr)⟩
end
abbrev st_Misread_init : Stmt := inClass (top 3) 0
theorem sc_Misread_init : FnScope ["self", "line", "column"] ["self", "line", "column"] (defScope st_Misread_init) := ⟨rfl, rfl, rfl, by decide +kernel, rfl, by decide +kernel, by decide +kernel⟩
def fa : List He.Fa := [.free "all", .free "bool", .free "int", .free "isinstance", .free "len", .free "list", .free "max", .free "range", .free "str", .free "tuple", .free "zip", .glo "BadName", .glo "BadNumber", .glo "BadRow", .glo "BadText", .glo "Misplaced", .glo "Misread", .glo "NotThere", .glo "Scanner", .glo "TakenName", .glo "TooMany", .glo "Unlike", .glo "_law_draw", .glo "_law_due", .glo "_law_is_name", .glo "_law_is_number", .glo "_law_is_told", .glo "_law_keys", .glo "_law_kind_of_word", .glo "_law_name", .glo "_law_names", .glo "_law_pen", .glo "_law_pick", .glo "_law_same", .glo "_law_shuffled", .glo "_law_why", .glo "is_name", .glo "is_numeral", .glo "is_run_sign", .glo "kind_of", .glo "law", .glo "tokens", .str "FIGURES" "0123456789", .glo "KEYS", .str "LETTERS" "abcdefghijklmnopqrstuvwxyz", .int "LONGEST_NAME" 12, .int "LONGEST_NUMBER" 3, .glo "SIGNS", .mkr "Scanner", .meth "Scanner" "is_over", .meth "Scanner" "skip", .meth "Scanner" "pass_gap", .meth "Scanner" "token", .cls "Scanner", .noat "Scanner" "at", .noat "Scanner" "column", .noat "Scanner" "line", .noat "Scanner" "text"]
def fn : List He.DefD := [⟨("is_run_sign", none), "is_run_sign", "is_run_sign", defArgs st_is_run_sign, defBody st_is_run_sign, defScope st_is_run_sign, [], []⟩, ⟨("is_numeral", none), "is_numeral", "is_numeral", defArgs st_is_numeral, defBody st_is_numeral, defScope st_is_numeral, [], []⟩, ⟨("kind_of", none), "kind_of", "kind_of", defArgs st_kind_of, defBody st_kind_of, defScope st_kind_of, [], []⟩, ⟨("is_name", none), "is_name", "is_name", defArgs st_is_name, defBody st_is_name, defScope st_is_name, [], []⟩, ⟨("Scanner", some "__init__"), "__init__", "Scanner.__init__", defArgs st_Scanner_init, defBody st_Scanner_init, defScope st_Scanner_init, [], []⟩, ⟨("Scanner", some "is_over"), "is_over", "Scanner.is_over", defArgs st_Scanner_is_over, defBody st_Scanner_is_over, defScope st_Scanner_is_over, [], []⟩, ⟨("Scanner", some "skip"), "skip", "Scanner.skip", defArgs st_Scanner_skip, defBody st_Scanner_skip, defScope st_Scanner_skip, [], []⟩, ⟨("Scanner", some "pass_gap"), "pass_gap", "Scanner.pass_gap", defArgs st_Scanner_pass_gap, defBody st_Scanner_pass_gap, defScope st_Scanner_pass_gap, [], []⟩, ⟨("Scanner", some "token"), "token", "Scanner.token", defArgs st_Scanner_token, defBody st_Scanner_token, defScope st_Scanner_token, [], []⟩, ⟨("tokens", none), "tokens", "tokens", defArgs st_tokens, defBody st_tokens, defScope st_tokens, [], []⟩, ⟨("_law_pen", none), "_law_pen", "_law_pen", defArgs st__law_pen, defBody st__law_pen, defScope st__law_pen, [], []⟩, ⟨("_law_draw", none), "_law_draw", "_law_draw", defArgs st__law_draw, defBody st__law_draw, defScope st__law_draw, [], []⟩, ⟨("_law_pick", none), "_law_pick", "_law_pick", defArgs st__law_pick, defBody st__law_pick, defScope st__law_pick, [], []⟩, ⟨("_law_shuffled", none), "_law_shuffled", "_law_shuffled", defArgs st__law_shuffled, defBody st__law_shuffled, defScope st__law_shuffled, [], []⟩, ⟨("_law_name", none), "_law_name", "_law_name", defArgs st__law_name, defBody st__law_name, defScope st__law_name, [], []⟩, ⟨("_law_names", none), "_law_names", "_law_names", defArgs st__law_names, defBody st__law_names, defScope st__law_names, [], []⟩, ⟨("_law_same", none), "_law_same", "_law_same", defArgs st__law_same, defBody st__law_same, defScope st__law_same, [], []⟩, ⟨("_law_keys", none), "_law_keys", "_law_keys", defArgs st__law_keys, defBody st__law_keys, defScope st__law_keys, [], []⟩, ⟨("_law_is_name", none), "_law_is_name", "_law_is_name", defArgs st__law_is_name, defBody st__law_is_name, defScope st__law_is_name, [], []⟩, ⟨("_law_is_number", none), "_law_is_number", "_law_is_number", defArgs st__law_is_number, defBody st__law_is_number, defScope st__law_is_number, [], []⟩, ⟨("_law_kind_of_word", none), "_law_kind_of_word", "_law_kind_of_word", defArgs st__law_kind_of_word, defBody st__law_kind_of_word, defScope st__law_kind_of_word, [], []⟩, ⟨("_law_due", none), "_law_due", "_law_due", defArgs st__law_due, defBody st__law_due, defScope st__law_due, [], []⟩, ⟨("_law_is_told", none), "_law_is_told", "_law_is_told", defArgs st__law_is_told, defBody st__law_is_told, defScope st__law_is_told, [], []⟩, ⟨("law", none), "law", "law", defArgs st_law, defBody st_law, defScope st_law, [], []⟩, ⟨("_law_why", none), "_law_why", "_law_why", defArgs st__law_why, defBody st__law_why, defScope st__law_why, [], []⟩, ⟨("Misread", some "__init__"), "__init__", "Misread.__init__", defArgs st_Misread_init, defBody st_Misread_init, defScope st_Misread_init, [], []⟩]
def tf : List He.Defn := [("_law_is_told", none), ("law", none)]
def exL (K : PySem.W.Frag) : List Bool := [He.tupB K "KEYS" [.str "cloth", .str "shafts", .str "threading", .str "tie", .str "treadling", .str "warp", .str "weft", .str "times", .str "and"],
  He.tupB K "SIGNS" [.str "{", .str "}", .str "(", .str ")", .str ",", .str ";", .str ":"],
  decide ((He.cT K ("_law_is_told", none)).2 ≠ (He.cT K ("law", none)).2),
  decide ((He.cT K ("law", none)).2 ≠ (He.cT K ("_law_is_told", none)).2),
  csX.all fun c => hs__law_why.all fun h => decide (PySem.W.exmOne K (.ref (He.ga K c)) (.ref (He.ga K h.1)) = some (decide (c = h.1))),
  xfB K (He.ga K "BadName"),
  xfB K (He.ga K "BadNumber"),
  xfB K (He.ga K "BadRow"),
  decide (PySem.W.findIn K (.ref (He.ga K "BadText")) "line" = some none),
  decide (PySem.W.findIn K (.ref (He.ga K "BadText")) "word" = some none),
  xfB K (He.ga K "BadText"),
  decide (PySem.W.findIn K (.ref (He.ga K "Misplaced")) "column" = some none),
  decide (PySem.W.findIn K (.ref (He.ga K "Misplaced")) "line" = some none),
  decide (PySem.W.findIn K (.ref (He.ga K "Misplaced")) "name" = some none),
  decide (PySem.W.findIn K (.ref (He.ga K "Misplaced")) "why" = some none),
  xfB K (He.ga K "Misplaced"),
  decide (PySem.W.findIn K (.ref (He.ga K "Misread")) "column" = some none),
  decide (PySem.W.findIn K (.ref (He.ga K "Misread")) "line" = some none),
  xfB K (He.ga K "Misread"),
  xfB K (He.ga K "NotThere"),
  xfB K (He.ga K "TakenName"),
  decide (PySem.W.findIn K (.ref (He.ga K "TooMany")) "limit" = some none),
  decide (PySem.W.findIn K (.ref (He.ga K "TooMany")) "many" = some none),
  decide (PySem.W.findIn K (.ref (He.ga K "TooMany")) "what" = some none),
  xfB K (He.ga K "TooMany"),
  decide (PySem.W.findIn K (.ref (He.ga K "Unlike")) "what" = some none),
  xfB K (He.ga K "Unlike"),
  xclsB K (He.ga K "Misread") (He.ma K (He.ga K "Misread") "__init__") ["line", "column"]]
def ex (K : PySem.W.Frag) : Bool := (exL K).all id
abbrev RR : PySem.W.OpenRow := PySem.W.OpenLaw.row PySem.Challenge.rw_everycloth_k02_whole_tokens
abbrev hk : PySem.W.Hook := He.hookX 6 fa fn [] tf ex
def ob (s : PySem.W.SharedT) : He.AlX := He.obsX 6 fa fn [] tf ex (HandSHeadRun.getT s)
theorem ob_eq (s : PySem.W.SharedT) : ob s = hk.obs s.abs := He.obsX_eq (HandSHeadRun.getT_eq s)
def loose0 : List Str := ["ClothError", "BadText", "Misread", "Misplaced", "BadName", "BadNumber", "BadRow", "TakenName", "Unlike", "NotThere", "TooMany", "KEYS", "SIGNS", "LETTERS", "FIGURES", "LONGEST_NAME", "LONGEST_NUMBER", "is_run_sign", "is_numeral", "kind_of", "is_name", "Scanner", "tokens", "_law_pen", "_law_draw", "_law_pick", "_law_shuffled", "_law_name", "_law_names", "_law_same"]
def loose1 : List Str := ["_law_why", "_law_keys", "_law_is_name", "_law_is_number", "_law_kind_of_word", "_law_due", "_law_is_told"]
def loose : List Str := loose0 ++ loose1
theorem run (w : World) : HandSHeadRun.RunEq RR (PySem.W.view RR.prog [40]) hk ob 6000 loose w := by
  intro os
  kernel_rfl
theorem hd_of {Pg : Program} {w : World} {K : PySem.W.Frag} {h : Heap} {mg : Str → Option Value} {base : Heap} (X : K.In h) (G : h.Ns mainGlobals mg) (c : He.SaysX fa fn [] tf ex w h K) (TB : ∀ p ∈ tf.map (He.cT K), LamX.TabB base mg p.1 p.2) : Hd Pg w K mg base := by
  have t : He.SaysD fa fn K := congrArg (fun z : He.AlT => z.1) c.t
  have em : ∀ b ∈ exL K, b = true := fun b hb => List.all_eq_true.mp c.more b hb
  exact {
    fr_all := He.free_ok X G (t.fact 0)
    fr_bool := He.free_ok X G (t.fact 1)
    fr_int := He.free_ok X G (t.fact 2)
    fr_isinstance := He.free_ok X G (t.fact 3)
    fr_len := He.free_ok X G (t.fact 4)
    fr_list := He.free_ok X G (t.fact 5)
    fr_max := He.free_ok X G (t.fact 6)
    fr_range := He.free_ok X G (t.fact 7)
    fr_str := He.free_ok X G (t.fact 8)
    fr_tuple := He.free_ok X G (t.fact 9)
    fr_zip := He.free_ok X G (t.fact 10)
    gl_BadName := He.glo_ok X G (t.fact 11)
    gl_BadNumber := He.glo_ok X G (t.fact 12)
    gl_BadRow := He.glo_ok X G (t.fact 13)
    gl_BadText := He.glo_ok X G (t.fact 14)
    gl_Misplaced := He.glo_ok X G (t.fact 15)
    gl_Misread := He.glo_ok X G (t.fact 16)
    gl_NotThere := He.glo_ok X G (t.fact 17)
    gl_Scanner := He.glo_ok X G (t.fact 18)
    gl_TakenName := He.glo_ok X G (t.fact 19)
    gl_TooMany := He.glo_ok X G (t.fact 20)
    gl_Unlike := He.glo_ok X G (t.fact 21)
    gl__law_draw := He.glo_ok X G (t.fact 22)
    gl__law_due := He.glo_ok X G (t.fact 23)
    gl__law_is_name := He.glo_ok X G (t.fact 24)
    gl__law_is_number := He.glo_ok X G (t.fact 25)
    gl__law_is_told := He.glo_ok X G (t.fact 26)
    gl__law_keys := He.glo_ok X G (t.fact 27)
    gl__law_kind_of_word := He.glo_ok X G (t.fact 28)
    gl__law_name := He.glo_ok X G (t.fact 29)
    gl__law_names := He.glo_ok X G (t.fact 30)
    gl__law_pen := He.glo_ok X G (t.fact 31)
    gl__law_pick := He.glo_ok X G (t.fact 32)
    gl__law_same := He.glo_ok X G (t.fact 33)
    gl__law_shuffled := He.glo_ok X G (t.fact 34)
    gl__law_why := He.glo_ok X G (t.fact 35)
    gl_is_name := He.glo_ok X G (t.fact 36)
    gl_is_numeral := He.glo_ok X G (t.fact 37)
    gl_is_run_sign := He.glo_ok X G (t.fact 38)
    gl_kind_of := He.glo_ok X G (t.fact 39)
    gl_law := He.glo_ok X G (t.fact 40)
    gl_tokens := He.glo_ok X G (t.fact 41)
    cs_FIGURES := He.str_ok X G (t.fact 42)
    cs_KEYS := ⟨He.glo_ok X G (t.fact 43), tup_const (em _ (by exact List.mem_iff_getElem?.mpr ⟨0, rfl⟩)) (fun _ => by simp [RepDs, RepD, He.Dv.v])⟩
    cs_LETTERS := He.str_ok X G (t.fact 44)
    cs_LONGEST_NAME := He.int_ok X G (t.fact 45)
    cs_LONGEST_NUMBER := He.int_ok X G (t.fact 46)
    cs_SIGNS := ⟨He.glo_ok X G (t.fact 47), tup_const (em _ (by exact List.mem_iff_getElem?.mpr ⟨1, rfl⟩)) (fun _ => by simp [RepDs, RepD, He.Dv.v])⟩
    fd_is_run_sign := (t.def_ 0)
    fd_is_numeral := (t.def_ 1)
    fd_kind_of := (t.def_ 2)
    fd_is_name := (t.def_ 3)
    fd_Scanner_init := (t.def_ 4)
    mk_Scanner := He.mkr_ok (t.fact 48)
    fd_Scanner_is_over := (t.def_ 5)
    me_Scanner_is_over := He.meth_ok (t.fact 49)
    fd_Scanner_skip := (t.def_ 6)
    me_Scanner_skip := He.meth_ok (t.fact 50)
    fd_Scanner_pass_gap := (t.def_ 7)
    me_Scanner_pass_gap := He.meth_ok (t.fact 51)
    fd_Scanner_token := (t.def_ 8)
    me_Scanner_token := He.meth_ok (t.fact 52)
    fd_tokens := (t.def_ 9)
    fd__law_pen := (t.def_ 10)
    fd__law_draw := (t.def_ 11)
    fd__law_pick := (t.def_ 12)
    fd__law_shuffled := (t.def_ 13)
    fd__law_name := (t.def_ 14)
    fd__law_names := (t.def_ 15)
    fd__law_same := (t.def_ 16)
    fd__law_keys := (t.def_ 17)
    fd__law_is_name := (t.def_ 18)
    fd__law_is_number := (t.def_ 19)
    fd__law_kind_of_word := (t.def_ 20)
    fd__law_due := (t.def_ 21)
    fd__law_is_told := (t.def_ 22)
    fd_law := (t.def_ 23)
    cl_Scanner := He.cls_ok (t.fact 53)
    na_Scanner_at := He.noat_ok (t.fact 54)
    na_Scanner_column := He.noat_ok (t.fact 55)
    na_Scanner_line := He.noat_ok (t.fact 56)
    na_Scanner_text := He.noat_ok (t.fact 57)
    tb__law_is_told := TB _ (List.mem_map.mpr ⟨("_law_is_told", none), by exact List.mem_iff_getElem?.mpr ⟨0, rfl⟩, rfl⟩)
    cd__law_is_told := by obtain ⟨fd, F⟩ := (t.def_ 22); exact cd_of (p := ("_law_is_told", none)) F
    tb_law := TB _ (List.mem_map.mpr ⟨("law", none), by exact List.mem_iff_getElem?.mpr ⟨1, rfl⟩, rfl⟩)
    cd_law := by obtain ⟨fd, F⟩ := (t.def_ 23); exact cd_of (p := ("law", none)) F
    ne__law_is_told_law := of_decide_eq_true (em _ (by exact List.mem_iff_getElem?.mpr ⟨2, rfl⟩))
    ne_law__law_is_told := of_decide_eq_true (em _ (by exact List.mem_iff_getElem?.mpr ⟨3, rfl⟩))
    fd__law_why := (t.def_ 24)
    ex__law_why := fun c hc h hh => of_decide_eq_true (List.all_eq_true.mp (List.all_eq_true.mp (em _ (by exact List.mem_iff_getElem?.mpr ⟨4, rfl⟩)) c hc) h hh)
    xfc_BadName := xfB_ok (em _ (by exact List.mem_iff_getElem?.mpr ⟨5, rfl⟩))
    xfc_BadNumber := xfB_ok (em _ (by exact List.mem_iff_getElem?.mpr ⟨6, rfl⟩))
    xfc_BadRow := xfB_ok (em _ (by exact List.mem_iff_getElem?.mpr ⟨7, rfl⟩))
    nf_BadText_line := of_decide_eq_true (em _ (by exact List.mem_iff_getElem?.mpr ⟨8, rfl⟩))
    nf_BadText_word := of_decide_eq_true (em _ (by exact List.mem_iff_getElem?.mpr ⟨9, rfl⟩))
    xfc_BadText := xfB_ok (em _ (by exact List.mem_iff_getElem?.mpr ⟨10, rfl⟩))
    nf_Misplaced_column := of_decide_eq_true (em _ (by exact List.mem_iff_getElem?.mpr ⟨11, rfl⟩))
    nf_Misplaced_line := of_decide_eq_true (em _ (by exact List.mem_iff_getElem?.mpr ⟨12, rfl⟩))
    nf_Misplaced_name := of_decide_eq_true (em _ (by exact List.mem_iff_getElem?.mpr ⟨13, rfl⟩))
    nf_Misplaced_why := of_decide_eq_true (em _ (by exact List.mem_iff_getElem?.mpr ⟨14, rfl⟩))
    xfc_Misplaced := xfB_ok (em _ (by exact List.mem_iff_getElem?.mpr ⟨15, rfl⟩))
    nf_Misread_column := of_decide_eq_true (em _ (by exact List.mem_iff_getElem?.mpr ⟨16, rfl⟩))
    nf_Misread_line := of_decide_eq_true (em _ (by exact List.mem_iff_getElem?.mpr ⟨17, rfl⟩))
    xfc_Misread := xfB_ok (em _ (by exact List.mem_iff_getElem?.mpr ⟨18, rfl⟩))
    xfc_NotThere := xfB_ok (em _ (by exact List.mem_iff_getElem?.mpr ⟨19, rfl⟩))
    xfc_TakenName := xfB_ok (em _ (by exact List.mem_iff_getElem?.mpr ⟨20, rfl⟩))
    nf_TooMany_limit := of_decide_eq_true (em _ (by exact List.mem_iff_getElem?.mpr ⟨21, rfl⟩))
    nf_TooMany_many := of_decide_eq_true (em _ (by exact List.mem_iff_getElem?.mpr ⟨22, rfl⟩))
    nf_TooMany_what := of_decide_eq_true (em _ (by exact List.mem_iff_getElem?.mpr ⟨23, rfl⟩))
    xfc_TooMany := xfB_ok (em _ (by exact List.mem_iff_getElem?.mpr ⟨24, rfl⟩))
    nf_Unlike_what := of_decide_eq_true (em _ (by exact List.mem_iff_getElem?.mpr ⟨25, rfl⟩))
    xfc_Unlike := xfB_ok (em _ (by exact List.mem_iff_getElem?.mpr ⟨26, rfl⟩))
    xf_Misread := by obtain ⟨fd, F⟩ := (t.def_ 25); exact xf_of (f0 := ("line", 1)) (l := [("column", 2)]) (He.glo_ok X G (t.fact 16)) (em _ (by exact List.mem_iff_getElem?.mpr ⟨27, rfl⟩)) F sc_Misread_init rfl rfl (by decide) (F.bindsN fun _ _ _ _ _ _ us hl => match us, hl with | [_, _, _], _ => rfl) (fun _ _ _ _ _ _ => (.cons nv nv (by rfl) (.cons nv nv (by rfl) .nil)))
    an_str := ans_ty (fun _ _ e => e)
    an_tuple := ans_ty (fun _ _ e => e)
    an_int := ans_ty (fun _ _ e => e)
    an_bool := ans_ty (fun _ _ e => e)
  }
theorem okL {Pg : Program} {w : World} {K : PySem.W.Frag} {mg : Str → Option Value} {base : Heap} {fd : FuncData} (h : Hd Pg w K mg base) (F : FunD K "law" "law" (defArgs st_law) (defBody st_law) (defScope st_law) [] [] (He.ga K "law") fd) (n : Nat) : FnOk Pg w K mg base (L2.CX Pg w) 14 (He.ga K "law") fd ["script"] (spOf (Tk K) K 1 (F_law n)) :=
  def_okC (as := as_law) F sc_law rfl (by decide) (fun A outer s H E hr => b_law n h (ok__law_pen n h) (ok__law_names n h) (ok__law_keys n h) (ok__law_draw n h) (ok__law_pick n h) (ok__law_is_told n h) (ok__law_same n h) (ok_is_name n h) (ok__law_is_name n h) (ok_tokens n h) (tel__law_why h) A outer s H E hr)
def LawTrue : Prop := ∀ ns : List Int, ns.length ≤ 63 → (∀ z ∈ ns, Builtin.Int.intBits z ≤ 1048576) → ∃ n back, F_law n [.v () (.scr (ns.map .int))] = .ok (.v () (.bl true)) back
open PySem PySem.W PySem.Calls PyProof.Rows in
theorem holds_of (law : LawTrue) : PySem.Challenge.rw_everycloth_k02_whole_tokens.Holds := by
  w_on; o_law
  refine HandSHeadRun.head_any (r := OpenLaw.row PySem.Challenge.rw_everycloth_k02_whole_tokens) (q := view (OpenLaw.row PySem.Challenge.rw_everycloth_k02_whole_tokens).prog [40]) (H := hk) (ob := ob) (M := 6000) (loose := loose) (d := HandSHeadRun.topDef (OpenLaw.row PySem.Challenge.rw_everycloth_k02_whole_tokens).prog 40) (kwd := []) ob_eq
    (by kernel_rfl) (fun s => by kernel_rfl) run (by kernel_rfl) (by kernel_rfl) (by kernel_rfl) (by rfl) (by first | assumption | decide +kernel) (by decide +kernel) ⟨rfl, rfl, rfl, rfl, rfl, by decide +kernel⟩ ?hw ?hc
  case hw => w_witness2
  case hc =>
    refine LamX.walk_ofTsE (l := PySem.Challenge.rw_everycloth_k02_whole_tokens) (n := 63) (k := 14) (x := "script") (CX := fun w => L2.CX (PySem.Challenge.rw_everycloth_k02_whole_tokens).prog w) rfl (by decide) (by kernel_rfl) ⟨rfl, by decide, by decide⟩ ?F (fun _ _ _ _ _ z => cx_no z)
    intro w mg fa' h Y G hmg0
    obtain ⟨K, KX, c⟩ := Y
    refine ⟨K, KX, ?_⟩
    have t : He.SaysD fa fn K := congrArg (fun z : He.AlT => z.1) c.t
    have hmg : mg ("law" : PySem.Str) = some (.ref fa') := by
      have e : (HandSHeadRun.topDef (OpenLaw.row PySem.Challenge.rw_everycloth_k02_whole_tokens).prog 40).name = ("law" : PySem.Str) := by kernel_rfl
      rw [← e]; exact hmg0
    obtain ⟨fd, F⟩ := (t.def_ 23)
    have e := hmg.symm.trans (He.glo_ok KX G (t.fact 40))
    cases e
    have b := FunD.bindsA (ps := ["script"]) F fun _ _ _ _ _ _ us hl => match us, hl with | [_], _ => rfl
    refine law_at (cs := tf.map (He.cT K)) (T := Tk K) (F := F_law) (fun p hp => ?_) (fun p hp => ?_) (fun p hp => ?_) (fun s u => b s [u] rfl) (fun p hp => ?_) law (fun base KB GB TB n => okL (hd_of KX G c TB) F n)
    · obtain ⟨z, hz, rfl⟩ := List.mem_map.mp hp; exact c.empty z hz
    · obtain ⟨z, hz, rfl⟩ := List.mem_map.mp hp; exact c.out z hz
    · obtain ⟨z, hz, rfl⟩ := List.mem_map.mp hp; exact codeHd_of_K KX (c.hd z hz)
    · simp only [Tk, List.mem_cons, List.not_mem_nil, or_false] at hp
      simp only [tf, List.map_cons, List.map_nil]
      rcases hp with rfl | rfl <;> simp
end EV

set_option linter.all false
set_option maxRecDepth 100000
set_option maxHeartbeats 4000000
namespace EV
open PySem PySem.Spec PyProof.Rows L2
abbrev cc (c : Nat) : Str := ⟨#[c]⟩
abbrev vs (z : Str) : O := .v () (.str z)
theorem set_none {env : Env} {i : Nat} (h : env[i]? = some none) : env.set i none = env := by
  apply List.ext_getElem?
  intro j
  rw [List.getElem?_set]
  split
  · rename_i e; subst e
    split
    · exact h.symm
    · rename_i hl; rw [List.getElem?_eq_none (by omega)] at h; cases h
  · rfl
/-- a comprehension whose parts leave all other names as they are -/
theorem lcD_one {i : Nat} {env : Env} {c : Et} {f : Ev} {p : D → Bool} {g : D → D} (hi : env[i]? = some none) : ∀ {ds : List D}, (∀ d ∈ ds, c (env.set i (some (.v () d))) = .ok (p d, env.set i (some (.v () d)))) →
    (∀ d ∈ ds, p d = true → f (env.set i (some (.v () d))) = .ok (.v () (g d), env.set i (some (.v () d)))) → lcD [i] (tgName i) c f ds env = some ((ds.filter p).map g, env)
  | [], _, _ => rfl
  | d :: ds, hc, hf => by
    have ih := lcD_one (c := c) (f := f) hi (ds := ds) (fun d h => hc d (List.mem_cons_of_mem _ h)) (fun d h => hf d (List.mem_cons_of_mem _ h))
    have hw : wipeE (env.set i (some (.v () d))) [i] = env := by simp [evDef, back, evRet, evRetN, evRetMove, evMove, evSet, evSeq, evIf, evPrim, evPrimT, evOps, evLit, evVar, flatD, R.out, R.bind, evVor, evVand, evVnot, evTest, evTnot, evTand, evTor, evIfe, oB, FR.fin, evLc, evLst, evTup, evDs, evItE, evCall, evAs, fetch, unfetch, evNil, truthD, Ow.toD, evTrue, wipeE, set_none hi]
    simp only [lcD, tgName, hc d (by simp [evDef, back, evRet, evRetN, evRetMove, evMove, evSet, evSeq, evIf, evPrim, evPrimT, evOps, evLit, evVar, flatD, R.out, R.bind, evVor, evVand, evVnot, evTest, evTnot, evTand, evTor, evIfe, oB, FR.fin, evLc, evLst, evTup, evDs, evItE, evCall, evAs, fetch, unfetch, evNil, truthD, Ow.toD, evTrue])]
    cases e : p d with
    | false =>
      simp only [hw, ih]
      rw [List.filter_cons_of_neg (by simp [evDef, back, evRet, evRetN, evRetMove, evMove, evSet, evSeq, evIf, evPrim, evPrimT, evOps, evLit, evVar, flatD, R.out, R.bind, evVor, evVand, evVnot, evTest, evTnot, evTand, evTor, evIfe, oB, FR.fin, evLc, evLst, evTup, evDs, evItE, evCall, evAs, fetch, unfetch, evNil, truthD, Ow.toD, evTrue, e])]
    | true =>
      simp only [hf d (by simp [evDef, back, evRet, evRetN, evRetMove, evMove, evSet, evSeq, evIf, evPrim, evPrimT, evOps, evLit, evVar, flatD, R.out, R.bind, evVor, evVand, evVnot, evTest, evTnot, evTand, evTor, evIfe, oB, FR.fin, evLc, evLst, evTup, evDs, evItE, evCall, evAs, fetch, unfetch, evNil, truthD, Ow.toD, evTrue]) e, hw, ih]
      rw [List.filter_cons_of_pos e]
      simp [evDef, back, evRet, evRetN, evRetMove, evMove, evSet, evSeq, evIf, evPrim, evPrimT, evOps, evLit, evVar, flatD, R.out, R.bind, evVor, evVand, evVnot, evTest, evTnot, evTand, evTor, evIfe, oB, FR.fin, evLc, evLst, evTup, evDs, evItE, evCall, evAs, fetch, unfetch, evNil, truthD, Ow.toD, evTrue, Ow.toD]
def isLet (c : Nat) : Bool := decide (c ∈ ("abcdefghijklmnopqrstuvwxyz" : Str).cps.toList)
def isFig (c : Nat) : Bool := decide (c ∈ ("0123456789" : Str).cps.toList)
def isRun (c : Nat) : Bool := isLet c || isFig c
theorem in_one (x : Str) (c : Nat) : inA (.str (cc c)) (.str x) = some (decide (c ∈ x.cps.toList)) := by
  simp only [inA, inD]
  rw [StrLaws.found_one]
theorem run_sign (n c : Nat) : F_is_run_sign n [vs (cc c)] = .ok (.v () (.bl (isRun c))) [some (vs (cc c))] := by
  have h1 : inA (.str (cc c)) c_LETTERS = some (isLet c) := in_one _ c
  have h2 : inA (.str (cc c)) c_FIGURES = some (isFig c) := in_one _ c
  simp [evDef, back, evRet, evRetN, evRetMove, evMove, evSet, evSeq, evIf, evPrim, evPrimT, evOps, evLit, evVar, flatD, R.out, R.bind, evVor, evVand, evVnot, evTest, evTnot, evTand, evTor, evIfe, oB, FR.fin, evLc, evLst, evTup, evDs, evItE, evCall, evAs, fetch, unfetch, evNil, truthD, Ow.toD, evTrue, F_is_run_sign, g_is_run_sign, pInA, h1, h2, isRun]
  cases isLet c <;> simp [evDef, back, evRet, evRetN, evRetMove, evMove, evSet, evSeq, evIf, evPrim, evPrimT, evOps, evLit, evVar, flatD, R.out, R.bind, evVor, evVand, evVnot, evTest, evTnot, evTand, evTor, evIfe, oB, FR.fin, evLc, evLst, evTup, evDs, evItE, evCall, evAs, fetch, unfetch, evNil, truthD, Ow.toD, evTrue]
/-! all signs are figures -/
theorem signs_eq (z : Str) : signs z = z.cps.toList.map fun c => .str (cc c) := rfl
theorem getBls_map {α : Type} (l : List α) (g : α → Bool) : getBls (l.map fun a => .bl (g a)) = some (l.map g) := by
  induction l with
  | nil => rfl
  | cons a l ih => simp [evDef, back, evRet, evRetN, evRetMove, evMove, evSet, evSeq, evIf, evPrim, evPrimT, evOps, evLit, evVar, flatD, R.out, R.bind, evVor, evVand, evVnot, evTest, evTnot, evTand, evTor, evIfe, oB, FR.fin, evLc, evLst, evTup, evDs, evItE, evCall, evAs, fetch, unfetch, evNil, truthD, Ow.toD, evTrue, getBls, ih]

abbrev S (w : List Nat) : Str := ⟨w.toArray⟩
/-- [f(sign) for sign in text] where f tells a bool of a sign -/
theorem lc_signs {env : Env} {i j : Nat} {z : Str} {f : Ev} {g : Nat → D} (hij : i ≠ j) (hi : env[i]? = some none) (hj : env[j]? = some (some (vs z))) (hz : z.length ≤ sizeLine)
    (hf : ∀ c ∈ z.cps.toList, f (env.set i (some (vs (cc c)))) = .ok (.v () (g c), env.set i (some (vs (cc c))))) :
    evLc [i] (evItE (evVar j)) (tgName i) evTrue f env = .ok (.lst () ((z.cps.toList.map g).map (.v ())), env) := by
  have h1 : env.set j (some (vs z)) = env := by
    apply List.ext_getElem?
    intro k
    rw [List.getElem?_set]
    split
    · rename_i e; subst e
      split
      · exact hj.symm
      · rename_i hl; rw [List.getElem?_eq_none (by omega)] at hj; cases hj
    · rfl
  have hw : wipeE env [i] = env := by simp [evDef, back, evRet, evRetN, evRetMove, evMove, evSet, evSeq, evIf, evPrim, evPrimT, evOps, evLit, evVar, flatD, R.out, R.bind, evVor, evVand, evVnot, evTest, evTnot, evTand, evTor, evIfe, oB, FR.fin, evLc, evLst, evTup, evDs, evItE, evCall, evAs, fetch, unfetch, evNil, truthD, Ow.toD, evTrue, wipeE, set_none hi]
  have hu : unwipe env env [i] = env := by simp [evDef, back, evRet, evRetN, evRetMove, evMove, evSet, evSeq, evIf, evPrim, evPrimT, evOps, evLit, evVar, flatD, R.out, R.bind, evVor, evVand, evVnot, evTest, evTnot, evTand, evTor, evIfe, oB, FR.fin, evLc, evLst, evTup, evDs, evItE, evCall, evAs, fetch, unfetch, evNil, truthD, Ow.toD, evTrue, unwipe, hi, set_none hi]
  have key := lcD_one (i := i) (env := env) (c := evTrue) (f := f) (p := fun _ => true) (g := fun d => match d with | .str s => g (s.cps.toList.headD 0) | _ => .any) hi (ds := signs z) (fun d _ => rfl) (fun d hd _ => by
    rw [signs_eq] at hd
    obtain ⟨c, hc, rfl⟩ := List.mem_map.mp hd
    exact hf c hc)
  have hl : (signs z).length ≤ sizeLine := by rw [signs_eq]; simpa [evDef, back, evRet, evRetN, evRetMove, evMove, evSet, evSeq, evIf, evPrim, evPrimT, evOps, evLit, evVar, flatD, R.out, R.bind, evVor, evVand, evVnot, evTest, evTnot, evTand, evTor, evIfe, oB, FR.fin, evLc, evLst, evTup, evDs, evItE, evCall, evAs, fetch, unfetch, evNil, truthD, Ow.toD, evTrue, Str.length] using hz
  have e2 : ((signs z).filter fun _ => true).map (fun d => match d with | .str s => g (s.cps.toList.headD 0) | _ => .any) = z.cps.toList.map g := by
    rw [List.filter_eq_self.mpr (by simp [evDef, back, evRet, evRetN, evRetMove, evMove, evSet, evSeq, evIf, evPrim, evPrimT, evOps, evLit, evVar, flatD, R.out, R.bind, evVor, evVand, evVnot, evTest, evTnot, evTand, evTor, evIfe, oB, FR.fin, evLc, evLst, evTup, evDs, evItE, evCall, evAs, fetch, unfetch, evNil, truthD, Ow.toD, evTrue]), signs_eq, List.map_map]
    rfl
  rw [e2] at key
  simp [evDef, back, evRet, evRetN, evRetMove, evMove, evSet, evSeq, evIf, evPrim, evPrimT, evOps, evLit, evVar, flatD, R.out, R.bind, evVor, evVand, evVnot, evTest, evTnot, evTand, evTor, evIfe, oB, FR.fin, evLc, evLst, evTup, evDs, evItE, evCall, evAs, fetch, unfetch, evNil, truthD, Ow.toD, evTrue, hj, itemsD, h1, hl, hw, key, hu]
/-- .. those that a test keeps -/
theorem lc_keep {env : Env} {i j : Nat} {z : Str} {c : Et} {p : Nat → Bool} (hij : i ≠ j) (hi : env[i]? = some none) (hj : env[j]? = some (some (vs z))) (hz : z.length ≤ sizeLine)
    (hc : ∀ x ∈ z.cps.toList, c (env.set i (some (vs (cc x)))) = .ok (p x, env.set i (some (vs (cc x))))) :
    evLc [i] (evItE (evVar j)) (tgName i) c (evVar i) env = .ok (.lst () (((z.cps.toList.filter p).map fun x => D.str (cc x)).map (.v ())), env) := by
  have h1 : env.set j (some (vs z)) = env := by
    apply List.ext_getElem?
    intro k
    rw [List.getElem?_set]
    split
    · rename_i e; subst e
      split
      · exact hj.symm
      · rename_i hl; rw [List.getElem?_eq_none (by omega)] at hj; cases hj
    · rfl
  have hw : wipeE env [i] = env := by simp [evDef, back, evRet, evRetN, evRetMove, evMove, evSet, evSeq, evIf, evPrim, evPrimT, evOps, evLit, evVar, flatD, R.out, R.bind, evVor, evVand, evVnot, evTest, evTnot, evTand, evTor, evIfe, oB, FR.fin, evLc, evLst, evTup, evDs, evItE, evCall, evAs, fetch, unfetch, evNil, truthD, Ow.toD, evTrue, wipeE, set_none hi]
  have hu : unwipe env env [i] = env := by simp [evDef, back, evRet, evRetN, evRetMove, evMove, evSet, evSeq, evIf, evPrim, evPrimT, evOps, evLit, evVar, flatD, R.out, R.bind, evVor, evVand, evVnot, evTest, evTnot, evTand, evTor, evIfe, oB, FR.fin, evLc, evLst, evTup, evDs, evItE, evCall, evAs, fetch, unfetch, evNil, truthD, Ow.toD, evTrue, unwipe, hi, set_none hi]
  have hli : i < env.length := (List.getElem?_eq_some_iff.mp hi).1
  have key := lcD_one (i := i) (env := env) (c := c) (f := evVar i) (p := fun d => match d with | .str s => p (s.cps.toList.headD 0) | _ => false) (g := fun d => d) hi (ds := signs z) (fun d hd => by
    rw [signs_eq] at hd
    obtain ⟨x, hx, rfl⟩ := List.mem_map.mp hd
    exact hc x hx) (fun d hd _ => by
    rw [signs_eq] at hd
    obtain ⟨x, hx, rfl⟩ := List.mem_map.mp hd
    simp [evDef, back, evRet, evRetN, evRetMove, evMove, evSet, evSeq, evIf, evPrim, evPrimT, evOps, evLit, evVar, flatD, R.out, R.bind, evVor, evVand, evVnot, evTest, evTnot, evTand, evTor, evIfe, oB, FR.fin, evLc, evLst, evTup, evDs, evItE, evCall, evAs, fetch, unfetch, evNil, truthD, Ow.toD, evTrue, hli, List.set_set])
  have hl : (signs z).length ≤ sizeLine := by rw [signs_eq]; simpa [evDef, back, evRet, evRetN, evRetMove, evMove, evSet, evSeq, evIf, evPrim, evPrimT, evOps, evLit, evVar, flatD, R.out, R.bind, evVor, evVand, evVnot, evTest, evTnot, evTand, evTor, evIfe, oB, FR.fin, evLc, evLst, evTup, evDs, evItE, evCall, evAs, fetch, unfetch, evNil, truthD, Ow.toD, evTrue, Str.length] using hz
  have e2 : ((signs z).filter fun d => match d with | .str s => p (s.cps.toList.headD 0) | _ => false).map (fun d => d) = (z.cps.toList.filter p).map fun x => D.str (cc x) := by
    rw [List.map_id', signs_eq, List.filter_map]
    rfl
  rw [e2] at key
  simp [evDef, back, evRet, evRetN, evRetMove, evMove, evSet, evSeq, evIf, evPrim, evPrimT, evOps, evLit, evVar, flatD, R.out, R.bind, evVor, evVand, evVnot, evTest, evTnot, evTand, evTor, evIfe, oB, FR.fin, evLc, evLst, evTup, evDs, evItE, evCall, evAs, fetch, unfetch, evNil, truthD, Ow.toD, evTrue, hj, itemsD, h1, hl, hw, key, hu]
def numB (w : List Nat) : Bool := w.all isFig && decide (w.length ≤ 3) && (decide (w = [48]) || decide (w.headD 0 ≠ 48))
theorem st_eq (a b : Str) : eqD (.str a) (.str b) = some (decide (a = b)) := by simp [evDef, back, evRet, evRetN, evRetMove, evMove, evSet, evSeq, evIf, evPrim, evPrimT, evOps, evLit, evVar, flatD, R.out, R.bind, evVor, evVand, evVnot, evTest, evTnot, evTand, evTor, evIfe, oB, FR.fin, evLc, evLst, evTup, evDs, evItE, evCall, evAs, fetch, unfetch, evNil, truthD, Ow.toD, evTrue, eqD, D.fl, scal]
theorem Str_len (w : List Nat) : (S w).length = w.length := by simp [evDef, back, evRet, evRetN, evRetMove, evMove, evSet, evSeq, evIf, evPrim, evPrimT, evOps, evLit, evVar, flatD, R.out, R.bind, evVor, evVand, evVnot, evTest, evTnot, evTand, evTor, evIfe, oB, FR.fin, evLc, evLst, evTup, evDs, evItE, evCall, evAs, fetch, unfetch, evNil, truthD, Ow.toD, evTrue, Str.length]
theorem toDs_v (l : List D) : Ow.toDs (l.map (Ow.v ())) = l := by induction l <;> simp_all [Ow.toDs, Ow.toD]
theorem toDs_f {α : Type} (f : α → D) (l : List α) : Ow.toDs (l.map (Ow.v () ∘ f)) = l.map f := by induction l <;> simp_all [Ow.toDs, Ow.toD]
theorem ix0 (c : Nat) (r : List Nat) (hz : (c :: r).length ≤ sizeLine) : ixA (.str (S (c :: r))) (.int 0) = some (.str (cc c)) := by
  have : (S (c :: r)).length ≤ sizeLine := by rw [Str_len]; exact hz
  simp only [ixA, ixD]
  rw [if_pos this]
  simp [evDef, back, evRet, evRetN, evRetMove, evMove, evSet, evSeq, evIf, evPrim, evPrimT, evOps, evLit, evVar, flatD, R.out, R.bind, evVor, evVand, evVnot, evTest, evTnot, evTand, evTor, evIfe, oB, FR.fin, evLc, evLst, evTup, evDs, evItE, evCall, evAs, fetch, unfetch, evNil, truthD, Ow.toD, evTrue, atI, ixN]
theorem str_inj {a b : List Nat} : (S a = S b) ↔ a = b := by
  constructor
  · intro h; have := congrArg (fun z : Str => z.cps.toList) h; simpa [evDef, back, evRet, evRetN, evRetMove, evMove, evSet, evSeq, evIf, evPrim, evPrimT, evOps, evLit, evVar, flatD, R.out, R.bind, evVor, evVand, evVnot, evTest, evTnot, evTand, evTor, evIfe, oB, FR.fin, evLc, evLst, evTup, evDs, evItE, evCall, evAs, fetch, unfetch, evNil, truthD, Ow.toD, evTrue] using this
  · intro h; rw [h]
theorem lit_S (x : Str) : x = S x.cps.toList := by cases x; rfl
theorem numeral (n : Nat) (w : List Nat) (hne : w ≠ []) (hz : w.length ≤ sizeLine) : F_is_numeral n [vs (S w)] = .ok (.v () (.bl (numB w))) [some (vs (S w))] := by
  have h1 : evLc [1] (evItE (evVar 0)) (tgName 1) evTrue (evPrim pInA [.r 1, .e (evLit c_FIGURES)]) [some (vs (S w)), none] = .ok (.lst () ((w.map fun c => D.bl (isFig c)).map (.v ())), [some (vs (S w)), none]) := by
    have := lc_signs (env := [some (vs (S w)), none]) (i := 1) (j := 0) (z := S w) (f := evPrim pInA [.r 1, .e (evLit c_FIGURES)]) (g := fun c => .bl (isFig c)) (by decide) rfl rfl (by rw [Str_len]; exact hz) (fun c _ => by
      have h2 : inA (.str (cc c)) c_FIGURES = some (isFig c) := in_one _ c
      simp [evDef, back, evRet, evRetN, evRetMove, evMove, evSet, evSeq, evIf, evPrim, evPrimT, evOps, evLit, evVar, flatD, R.out, R.bind, evVor, evVand, evVnot, evTest, evTnot, evTand, evTor, evIfe, oB, FR.fin, evLc, evLst, evTup, evDs, evItE, evCall, evAs, fetch, unfetch, evNil, truthD, Ow.toD, evTrue, pInA, h2])
    simpa [evDef, back, evRet, evRetN, evRetMove, evMove, evSet, evSeq, evIf, evPrim, evPrimT, evOps, evLit, evVar, flatD, R.out, R.bind, evVor, evVand, evVnot, evTest, evTnot, evTand, evTor, evIfe, oB, FR.fin, evLc, evLst, evTup, evDs, evItE, evCall, evAs, fetch, unfetch, evNil, truthD, Ow.toD, evTrue] using this
  obtain ⟨c, r, rfl⟩ := List.exists_cons_of_ne_nil hne
  have h2 : pAll [D.lst ((c :: r).map fun c => D.bl (isFig c))] = some (.v () (.bl (((c :: r).map isFig).all id))) := by
    simp only [pAll, getBls_map]; rfl
  have h3 : pLen [D.str (S (c :: r))] = some (.v () (.int ((c :: r).length : Nat))) := by
    simp only [pLen, lenD]
    rw [if_pos (by rw [Str_len]; exact hz), Str_len]; rfl
  have h4 := ix0 c r hz
  have h5 : eqD (.str (S (c :: r))) (.str "0") = some (decide (c :: r = [48])) := by
    rw [st_eq, show ("0" : Str) = S [48] from rfl]
    congr 1
    exact decide_eq_decide.mpr str_inj
  have h6 : eqD (.str (cc c)) (.str "0") = some (decide (c = 48)) := by
    rw [st_eq, show ("0" : Str) = S [48] from rfl, show cc c = S [c] from rfl]
    congr 1
    exact decide_eq_decide.mpr (str_inj.trans (by simp [evDef, back, evRet, evRetN, evRetMove, evMove, evSet, evSeq, evIf, evPrim, evPrimT, evOps, evLit, evVar, flatD, R.out, R.bind, evVor, evVand, evVnot, evTest, evTnot, evTand, evTor, evIfe, oB, FR.fin, evLc, evLst, evTup, evDs, evItE, evCall, evAs, fetch, unfetch, evNil, truthD, Ow.toD, evTrue]))
  have h7 : ∀ b : Bool, eqD (.str (S (c :: r))) (.str "0") = some b → pEq [D.str (S (c :: r)), D.str "0"] = some (.v () (.bl b)) := fun b h => by simp [evDef, back, evRet, evRetN, evRetMove, evMove, evSet, evSeq, evIf, evPrim, evPrimT, evOps, evLit, evVar, flatD, R.out, R.bind, evVor, evVand, evVnot, evTest, evTnot, evTand, evTor, evIfe, oB, FR.fin, evLc, evLst, evTup, evDs, evItE, evCall, evAs, fetch, unfetch, evNil, truthD, Ow.toD, evTrue, pEq, h]
  have b3 : (3 < ((c :: r).length : Int)) ↔ ¬ (c :: r).length ≤ 3 := by omega
  have nb : numB (c :: r) = ((isFig c && r.all isFig) && decide ((c :: r).length ≤ 3) && (decide (c :: r = [48]) || decide (c ≠ 48))) := rfl
  have g3 : pCmp gtI [D.int ((c :: r).length : Nat), c_LONGEST_NUMBER] = some (.v () (.bl (!decide ((c :: r).length ≤ 3)))) := by
    simp only [pCmp, c_LONGEST_NUMBER, gtI]
    congr 3
    rw [decide_eq_decide.mpr b3, decide_not]
  rw [nb]
  simp only [F_is_numeral, g_is_numeral, evDef, evSeq, evIf]
  have s1 : evTest (evPrim pAll [.e (evLc [1] (evItE (evVar 0)) (tgName 1) evTrue (evPrim pInA [.r 1, .e (evLit c_FIGURES)]))]) [some (vs (S (c :: r))), none] = .ok (isFig c && r.all isFig, [some (vs (S (c :: r))), none]) := by
    have e1 : (((c :: r).map isFig).all id) = (isFig c && r.all isFig) := by simp [evDef, back, evRet, evRetN, evRetMove, evMove, evSet, evSeq, evIf, evPrim, evPrimT, evOps, evLit, evVar, flatD, R.out, R.bind, evVor, evVand, evVnot, evTest, evTnot, evTand, evTor, evIfe, oB, FR.fin, evLc, evLst, evTup, evDs, evItE, evCall, evAs, fetch, unfetch, evNil, truthD, Ow.toD, evTrue, List.all_map]
    simp only [evTest, evPrim, evOps, h1, R.bind_ok, Ow.toD, toDs_v, h2, e1, truthD]
  have s2 : evPrimT (pCmp gtI) [.e (evPrim pLen [.r 0]), .e (evLit c_LONGEST_NUMBER)] [some (vs (S (c :: r))), none] = .ok (!decide ((c :: r).length ≤ 3), [some (vs (S (c :: r))), none]) := by
    simp only [evPrimT, evPrim, evOps, evLit, flatD, R.bind_ok, Ow.toD, h3, g3, List.getElem?_cons_zero]
  have s3 : evTor (evTnot (evTest (evPrim pAll [.e (evLc [1] (evItE (evVar 0)) (tgName 1) evTrue (evPrim pInA [.r 1, .e (evLit c_FIGURES)]))]))) (evPrimT (pCmp gtI) [.e (evPrim pLen [.r 0]), .e (evLit c_LONGEST_NUMBER)]) [some (vs (S (c :: r))), none] = .ok (!((isFig c && r.all isFig) && decide ((c :: r).length ≤ 3)), [some (vs (S (c :: r))), none]) := by
    simp only [evTor, evTnot, s1, R.bind_ok, s2]
    cases (isFig c && r.all isFig) <;> simp [evDef, back, evRet, evRetN, evRetMove, evMove, evSet, evSeq, evIf, evPrim, evPrimT, evOps, evLit, evVar, flatD, R.out, R.bind, evVor, evVand, evVnot, evTest, evTnot, evTand, evTor, evIfe, oB, FR.fin, evLc, evLst, evTup, evDs, evItE, evCall, evAs, fetch, unfetch, evNil, truthD, Ow.toD, evTrue]
  have en : (([vs (S (c :: r))].map some ++ List.replicate (2 - [true].length) none) : Env) = [some (vs (S (c :: r))), none] := rfl
  rw [if_pos (by rfl), en]
  simp only [s3, R.out]
  cases hb : ((isFig c && r.all isFig) && decide ((c :: r).length ≤ 3)) with
  | false => simp [evDef, back, evRet, evRetN, evRetMove, evMove, evSet, evSeq, evIf, evPrim, evPrimT, evOps, evLit, evVar, flatD, R.out, R.bind, evVor, evVand, evVnot, evTest, evTnot, evTand, evTor, evIfe, oB, FR.fin, evLc, evLst, evTup, evDs, evItE, evCall, evAs, fetch, unfetch, evNil, truthD, Ow.toD, evTrue]
  | true =>
    simp only [Bool.not_true, Bool.false_eq_true, if_false, evNil, evRet, evVor, evPrim, evOps, evLit, flatD, R.bind_ok, Ow.toD, List.getElem?_cons_zero, h7 _ h5]
    by_cases e : c :: r = [48]
    · simp [evDef, back, evRet, evRetN, evRetMove, evMove, evSet, evSeq, evIf, evPrim, evPrimT, evOps, evLit, evVar, flatD, R.out, R.bind, evVor, evVand, evVnot, evTest, evTnot, evTand, evTor, evIfe, oB, FR.fin, evLc, evLst, evTup, evDs, evItE, evCall, evAs, fetch, unfetch, evNil, truthD, Ow.toD, evTrue, e]
    · simp [evDef, back, evRet, evRetN, evRetMove, evMove, evSet, evSeq, evIf, evPrim, evPrimT, evOps, evLit, evVar, flatD, R.out, R.bind, evVor, evVand, evVnot, evTest, evTnot, evTand, evTor, evIfe, oB, FR.fin, evLc, evLst, evTup, evDs, evItE, evCall, evAs, fetch, unfetch, evNil, truthD, Ow.toD, evTrue, e, pIxA, h4, pNe, h6]

def keysV : List V := [.str "cloth", .str "shafts", .str "threading", .str "tie", .str "treadling", .str "warp", .str "weft", .str "times", .str "and"]
def keysD : List D := [.str "cloth", .str "shafts", .str "threading", .str "tie", .str "treadling", .str "warp", .str "weft", .str "times", .str "and"]
def inKeys (w : List Nat) : Bool := inV (.str (S w)) keysV
theorem in_keys (w : List Nat) : inA (.str (S w)) c_KEYS = some (inKeys w) := rfl
theorem in_keysL (w : List Nat) : inA (.str (S w)) (.lst keysD) = some (inKeys w) := rfl
/-- what kind a run is of -/
def kindW (w : List Nat) : D := if inKeys w then .str "key" else if isLet (w.headD 0) then (if w.length ≤ 12 then .str "name" else .non) else if numB w then .str "number" else .non
theorem kind_of_run (n : Nat) (w : List Nat) (hne : w ≠ []) (hz : w.length ≤ sizeLine) : F_kind_of n [vs (S w)] = .ok (.v () (kindW w)) [some (vs (S w))] := by
  have hnum := numeral n w hne hz
  obtain ⟨c, r, rfl⟩ := List.exists_cons_of_ne_nil hne
  have h2 : inA (.str (cc c)) c_LETTERS = some (isLet c) := in_one _ c
  have h3 : pLen [D.str (S (c :: r))] = some (.v () (.int ((c :: r).length : Nat))) := by
    simp only [pLen, lenD]
    rw [if_pos (by rw [Str_len]; exact hz), Str_len]; rfl
  have h4 : pIxA [D.str (S (c :: r)), .int 0] = some (vs (cc c)) := by simp only [pIxA, ix0 c r hz]; rfl
  have h5 : pInA [.str (S (c :: r)), c_KEYS] = some (.v () (.bl (inKeys (c :: r)))) := rfl
  have h6 : pInA [.str (cc c), c_LETTERS] = some (.v () (.bl (isLet c))) := by simp [evDef, back, evRet, evRetN, evRetMove, evMove, evSet, evSeq, evIf, evPrim, evPrimT, evOps, evLit, evVar, flatD, R.out, R.bind, evVor, evVand, evVnot, evTest, evTnot, evTand, evTor, evIfe, oB, FR.fin, evLc, evLst, evTup, evDs, evItE, evCall, evAs, fetch, unfetch, evNil, truthD, Ow.toD, evTrue, pInA, h2]
  have h7 : pCmp leI [D.int ((c :: r).length : Nat), c_LONGEST_NAME] = some (.v () (.bl (decide ((c :: r).length ≤ 12)))) := by
    simp only [pCmp, c_LONGEST_NAME, leI]
    congr 3
    exact decide_eq_decide.mpr (by omega)
  have hd : (c :: r).headD 0 = c := rfl
  unfold kindW
  rw [hd]
  generalize hw : c :: r = w at *
  generalize inKeys w = b1 at *
  generalize isLet c = b2 at *
  generalize numB w = b3 at *
  simp only [F_kind_of, g_kind_of]
  cases b1 <;> cases b2 <;> cases b3 <;> by_cases hl : w.length ≤ 12 <;> simp [evDef, back, evRet, evRetN, evRetMove, evMove, evSet, evSeq, evIf, evPrim, evPrimT, evOps, evLit, evVar, flatD, R.out, R.bind, evVor, evVand, evVnot, evTest, evTnot, evTand, evTor, evIfe, oB, FR.fin, evLc, evLst, evTup, evDs, evItE, evCall, evAs, fetch, unfetch, evNil, truthD, Ow.toD, evTrue, h3, h4, h5, h6, h7, hnum, hl]

theorem pys_strs (l : List Nat) : D.pys (l.map fun x => D.str (cc x)) = some (l.map fun x => PyData.str (cc x)) := by induction l <;> simp_all [D.pys, D.py]
theorem lay_strs (l : List Nat) (h : ∀ c ∈ l, c < 1114112) : PyData.canLayAll0 (l.map fun x => PyData.str (cc x)) = true := by
  induction l with
  | nil => rfl
  | cons c l ih =>
    simp only [List.map_cons, PyData.canLayAll0, PyData.canLay0, Bool.and_eq_true]
    refine ⟨?_, ih fun x hx => h x (List.mem_cons_of_mem _ hx)⟩
    have := h c (by simp [evDef, back, evRet, evRetN, evRetMove, evMove, evSet, evSeq, evIf, evPrim, evPrimT, evOps, evLit, evVar, flatD, R.out, R.bind, evVor, evVand, evVnot, evTest, evTnot, evTand, evTor, evIfe, oB, FR.fin, evLc, evLst, evTup, evDs, evItE, evCall, evAs, fetch, unfetch, evNil, truthD, Ow.toD, evTrue])
    simpa [evDef, back, evRet, evRetN, evRetMove, evMove, evSet, evSeq, evIf, evPrim, evPrimT, evOps, evLit, evVar, flatD, R.out, R.bind, evVor, evVand, evVnot, evTest, evTnot, evTand, evTor, evIfe, oB, FR.fin, evLc, evLst, evTup, evDs, evItE, evCall, evAs, fetch, unfetch, evNil, truthD, Ow.toD, evTrue, PyData.strOk] using this
theorem dep_strs (l : List Nat) : PyData.depthAll (l.map fun x => PyData.str (cc x)) = 0 := by
  induction l with
  | nil => rfl
  | cons c l ih => simp [evDef, back, evRet, evRetN, evRetMove, evMove, evSet, evSeq, evIf, evPrim, evPrimT, evOps, evLit, evVar, flatD, R.out, R.bind, evVor, evVand, evVnot, evTest, evTnot, evTand, evTor, evIfe, oB, FR.fin, evLc, evLst, evTup, evDs, evItE, evCall, evAs, fetch, unfetch, evNil, truthD, Ow.toD, evTrue, PyData.depthAll, PyData.depth, ih]
theorem eq_nil (l : List Nat) (h : ∀ c ∈ l, c < 1114112) : eqD (.lst (l.map fun x => .str (cc x))) (.lst []) = some (decide (l = [])) := by
  have h1 : SeqAt.shaped (.list (l.map fun x => PyData.str (cc x))) = true := by simp [evDef, back, evRet, evRetN, evRetMove, evMove, evSet, evSeq, evIf, evPrim, evPrimT, evOps, evLit, evVar, flatD, R.out, R.bind, evVor, evVand, evVnot, evTest, evTnot, evTand, evTor, evIfe, oB, FR.fin, evLc, evLst, evTup, evDs, evItE, evCall, evAs, fetch, unfetch, evNil, truthD, Ow.toD, evTrue, SeqAt.shaped, PyData.canLay0, PyData.depth, lay_strs l h, dep_strs]
  have h2 : SeqAt.shaped (.list []) = true := by simp [evDef, back, evRet, evRetN, evRetMove, evMove, evSet, evSeq, evIf, evPrim, evPrimT, evOps, evLit, evVar, flatD, R.out, R.bind, evVor, evVand, evVnot, evTest, evTnot, evTand, evTor, evIfe, oB, FR.fin, evLc, evLst, evTup, evDs, evItE, evCall, evAs, fetch, unfetch, evNil, truthD, Ow.toD, evTrue, SeqAt.shaped, PyData.canLay0, PyData.depth, PyData.canLayAll0, PyData.depthAll]
  have h3 : PyData.eqv (.list (l.map fun x => PyData.str (cc x))) (.list []) = decide (l = []) := by
    cases l <;> simp [evDef, back, evRet, evRetN, evRetMove, evMove, evSet, evSeq, evIf, evPrim, evPrimT, evOps, evLit, evVar, flatD, R.out, R.bind, evVor, evVand, evVnot, evTest, evTnot, evTand, evTor, evIfe, oB, FR.fin, evLc, evLst, evTup, evDs, evItE, evCall, evAs, fetch, unfetch, evNil, truthD, Ow.toD, evTrue, PyData.eqv, PyData.eqvAll]
  simp [evDef, back, evRet, evRetN, evRetMove, evMove, evSet, evSeq, evIf, evPrim, evPrimT, evOps, evLit, evVar, flatD, R.out, R.bind, evVor, evVand, evVnot, evTest, evTnot, evTand, evTor, evIfe, oB, FR.fin, evLc, evLst, evTup, evDs, evItE, evCall, evAs, fetch, unfetch, evNil, truthD, Ow.toD, evTrue, eqD, D.fl, eqP, D.py, D.pys, pys_strs, h1, h2, h3]
theorem law_keys (n : Nat) : F__law_keys n [] = .ok (.lst () (keysD.map (.v ()))) [] := by
  have h9 : (9 : Nat) ≤ sizeLine := by decide
  simp [evDef, back, evRet, evRetN, evRetMove, evMove, evSet, evSeq, evIf, evPrim, evPrimT, evOps, evLit, evVar, flatD, R.out, R.bind, evVor, evVand, evVnot, evTest, evTnot, evTand, evTor, evIfe, oB, FR.fin, evLc, evLst, evTup, evDs, evItE, evCall, evAs, fetch, unfetch, evNil, truthD, Ow.toD, evTrue, F__law_keys, g__law_keys, keysD, h9]
def noFigs : Nat → Bool := fun c => !isFig c
theorem law_number (n : Nat) (w : List Nat) (hne : w ≠ []) (hz : w.length ≤ sizeLine) (hc : ∀ c ∈ w, c < 1114112) : F__law_is_number n [vs (S w)] = .ok (.v () (.bl (numB w))) [some (vs (S w))] := by
  have h1 := lc_keep (env := [some (vs (S w)), none]) (i := 1) (j := 0) (z := S w) (c := evPrimT pNotInA [.r 1, .e (evLit (.str "0123456789"))]) (p := noFigs) (by decide) rfl rfl (by rw [Str_len]; exact hz) (fun c _ => by
      have h2 : inA (.str (cc c)) (.str "0123456789") = some (isFig c) := in_one _ c
      simp [evDef, back, evRet, evRetN, evRetMove, evMove, evSet, evSeq, evIf, evPrim, evPrimT, evOps, evLit, evVar, flatD, R.out, R.bind, evVor, evVand, evVnot, evTest, evTnot, evTand, evTor, evIfe, oB, FR.fin, evLc, evLst, evTup, evDs, evItE, evCall, evAs, fetch, unfetch, evNil, truthD, Ow.toD, evTrue, pNotInA, h2, noFigs])
  have e0 : (S w).cps.toList = w := by simp [evDef, back, evRet, evRetN, evRetMove, evMove, evSet, evSeq, evIf, evPrim, evPrimT, evOps, evLit, evVar, flatD, R.out, R.bind, evVor, evVand, evVnot, evTest, evTnot, evTand, evTor, evIfe, oB, FR.fin, evLc, evLst, evTup, evDs, evItE, evCall, evAs, fetch, unfetch, evNil, truthD, Ow.toD, evTrue]
  rw [e0] at h1
  have h2 : pEq [.lst ((w.filter noFigs).map fun x => .str (cc x)), .lst []] = some (.v () (.bl (w.all isFig))) := by
    have := eq_nil (w.filter noFigs) (fun c h => hc c (List.mem_filter.mp h).1)
    simp only [pEq, this, oB, Option.map_some]
    congr 3
    rw [Bool.eq_iff_iff]
    simp [evDef, back, evRet, evRetN, evRetMove, evMove, evSet, evSeq, evIf, evPrim, evPrimT, evOps, evLit, evVar, flatD, R.out, R.bind, evVor, evVand, evVnot, evTest, evTnot, evTand, evTor, evIfe, oB, FR.fin, evLc, evLst, evTup, evDs, evItE, evCall, evAs, fetch, unfetch, evNil, truthD, Ow.toD, evTrue, List.filter_eq_nil_iff, noFigs]
  obtain ⟨c, r, rfl⟩ := List.exists_cons_of_ne_nil hne
  have h3 : pLen [D.str (S (c :: r))] = some (.v () (.int ((c :: r).length : Nat))) := by
    simp only [pLen, lenD]
    rw [if_pos (by rw [Str_len]; exact hz), Str_len]; rfl
  have h4 : pIxA [D.str (S (c :: r)), .int 0] = some (vs (cc c)) := by simp only [pIxA, ix0 c r hz]; rfl
  have h5 : pEq [D.str (S (c :: r)), .str "0"] = some (.v () (.bl (decide (c :: r = [48])))) := by
    simp only [pEq, st_eq, oB, Option.map_some]
    congr 3
    exact decide_eq_decide.mpr (by rw [show ("0" : Str) = S [48] from rfl]; exact str_inj)
  have h6 : pNe [D.str (cc c), .str "0"] = some (.v () (.bl (decide (c ≠ 48)))) := by
    simp only [pNe, st_eq, oB, Option.map_some]
    congr 3
    rw [← decide_not]
    exact decide_eq_decide.mpr (by rw [show ("0" : Str) = S [48] from rfl, show cc c = S [c] from rfl]; exact not_congr (str_inj.trans (by simp [evDef, back, evRet, evRetN, evRetMove, evMove, evSet, evSeq, evIf, evPrim, evPrimT, evOps, evLit, evVar, flatD, R.out, R.bind, evVor, evVand, evVnot, evTest, evTnot, evTand, evTor, evIfe, oB, FR.fin, evLc, evLst, evTup, evDs, evItE, evCall, evAs, fetch, unfetch, evNil, truthD, Ow.toD, evTrue])))
  have h7 : pNe [D.str (S (c :: r)), .str ""] = some (.v () (.bl true)) := by
    simp only [pNe, st_eq, oB, Option.map_some]
    congr 3
  have h8 : pCmp ltI [D.int ((c :: r).length : Nat), .int 4] = some (.v () (.bl (decide ((c :: r).length ≤ 3)))) := by
    simp only [pCmp, ltI]
    congr 3
    exact decide_eq_decide.mpr (by omega)
  have nb : numB (c :: r) = ((c :: r).all isFig && decide ((c :: r).length ≤ 3) && (decide (c :: r = [48]) || decide (c ≠ 48))) := rfl
  rw [nb]
  have z0 : (0 : Nat) ≤ sizeLine := Nat.zero_le _
  generalize hw : c :: r = w at *
  generalize w.all isFig = b1 at *
  generalize decide (w.length ≤ 3) = b2 at *
  generalize decide (w = [48]) = b3 at *
  generalize decide (c ≠ 48) = b4 at *
  simp only [F__law_is_number, g__law_is_number]
  cases b1 <;> cases b2 <;> cases b3 <;> cases b4 <;> simp [evDef, back, evRet, evRetN, evRetMove, evMove, evSet, evSeq, evIf, evPrim, evPrimT, evOps, evLit, evVar, flatD, R.out, R.bind, evVor, evVand, evVnot, evTest, evTnot, evTand, evTor, evIfe, oB, FR.fin, evLst, evTup, evDs, evCall, evAs, fetch, unfetch, evNil, truthD, Ow.toD, evTrue, h1, h2, h3, h4, h5, h6, h7, h8, toDs_v, toDs_f, Ow.toDs]

theorem as_str : a_str "str" = some true ∧ a_str "NoneType" = some false ∧ a_str "bool" = some false ∧ a_str "int" = some false ∧ a_str "tuple" = some false ∧ a_str "list" = some false ∧ a_str "dict" = some false := by decide +kernel
def noRun : Nat → Bool := fun c => !isRun c
theorem run2 (c : Nat) : decide (c ∈ ("abcdefghijklmnopqrstuvwxyz0123456789" : Str).cps.toList) = isRun c := by
  have e : ("abcdefghijklmnopqrstuvwxyz0123456789" : Str).cps.toList = ("abcdefghijklmnopqrstuvwxyz" : Str).cps.toList ++ ("0123456789" : Str).cps.toList := rfl
  rw [e, isRun, isLet, isFig, Bool.eq_iff_iff]
  simp [evDef, back, evRet, evRetN, evRetMove, evMove, evSet, evSeq, evIf, evPrim, evPrimT, evOps, evLit, evVar, flatD, R.out, R.bind, evVor, evVand, evVnot, evTest, evTnot, evTand, evTor, evIfe, oB, FR.fin, evLc, evLst, evTup, evDs, evItE, evCall, evAs, fetch, unfetch, evNil, truthD, Ow.toD, evTrue, List.mem_append]
/-- a name by the law's look -/
def nameB (w : List Nat) : Bool := decide (w ≠ []) && decide (w.length ≤ 12) && !inKeys w && !isFig (w.headD 0) && w.all isRun
theorem law_name (n : Nat) (w : List Nat) (hz : w.length ≤ sizeLine) (hc : ∀ c ∈ w, c < 1114112) : F__law_is_name n [vs (S w)] = .ok (.v () (.bl (nameB w))) [some (vs (S w))] := by
  have h1 := lc_keep (env := [some (vs (S w)), none]) (i := 1) (j := 0) (z := S w) (c := evPrimT pNotInA [.r 1, .e (evLit (.str "abcdefghijklmnopqrstuvwxyz0123456789"))]) (p := noRun) (by decide) rfl rfl (by rw [Str_len]; exact hz) (fun c _ => by
      have h2 : inA (.str (cc c)) (.str "abcdefghijklmnopqrstuvwxyz0123456789") = some (isRun c) := by rw [in_one, run2]
      simp [evDef, back, evRet, evRetN, evRetMove, evMove, evSet, evSeq, evIf, evPrim, evPrimT, evOps, evLit, evVar, flatD, R.out, R.bind, evVor, evVand, evVnot, evTest, evTnot, evTand, evTor, evIfe, oB, FR.fin, evLc, evLst, evTup, evDs, evItE, evCall, evAs, fetch, unfetch, evNil, truthD, Ow.toD, evTrue, pNotInA, h2, noRun])
  have e0 : (S w).cps.toList = w := by simp [evDef, back, evRet, evRetN, evRetMove, evMove, evSet, evSeq, evIf, evPrim, evPrimT, evOps, evLit, evVar, flatD, R.out, R.bind, evVor, evVand, evVnot, evTest, evTnot, evTand, evTor, evIfe, oB, FR.fin, evLc, evLst, evTup, evDs, evItE, evCall, evAs, fetch, unfetch, evNil, truthD, Ow.toD, evTrue]
  rw [e0] at h1
  have h2 : pEq [.lst ((w.filter noRun).map fun x => .str (cc x)), .lst []] = some (.v () (.bl (w.all isRun))) := by
    have := eq_nil (w.filter noRun) (fun c h => hc c (List.mem_filter.mp h).1)
    simp only [pEq, this, oB, Option.map_some]
    congr 3
    rw [Bool.eq_iff_iff]
    simp [evDef, back, evRet, evRetN, evRetMove, evMove, evSet, evSeq, evIf, evPrim, evPrimT, evOps, evLit, evVar, flatD, R.out, R.bind, evVor, evVand, evVnot, evTest, evTnot, evTand, evTor, evIfe, oB, FR.fin, evLc, evLst, evTup, evDs, evItE, evCall, evAs, fetch, unfetch, evNil, truthD, Ow.toD, evTrue, List.filter_eq_nil_iff, noRun]
  have hk := law_keys n
  have p0 : pIsi a_str w_str [D.str (S w)] = some (.v () (.bl true)) := by
    simp [evDef, back, evRet, evRetN, evRetMove, evMove, evSet, evSeq, evIf, evPrim, evPrimT, evOps, evLit, evVar, flatD, R.out, R.bind, evVor, evVand, evVnot, evTest, evTnot, evTand, evTor, evIfe, oB, FR.fin, evLc, evLst, evTup, evDs, evItE, evCall, evAs, fetch, unfetch, evNil, truthD, Ow.toD, evTrue, pIsi, isiD, tyN, as_str]
  have hE : pEq [D.str (S w), .str ""] = some (.v () (.bl (decide (w = [])))) := by
    simp only [pEq, st_eq, oB, Option.map_some]
    congr 3
    exact decide_eq_decide.mpr (by rw [show ("" : Str) = S [] from rfl]; exact str_inj)
  have z0 : (0 : Nat) ≤ sizeLine := Nat.zero_le _
  cases w with
  | nil =>
    simp only [F__law_is_name, g__law_is_name]
    simp [evDef, back, evRet, evRetN, evRetMove, evMove, evSet, evSeq, evIf, evPrim, evPrimT, evOps, evLit, evVar, flatD, R.out, R.bind, evVor, evVand, evVnot, evTest, evTnot, evTand, evTor, evIfe, oB, FR.fin, evLst, evTup, evDs, evCall, evAs, fetch, unfetch, evNil, truthD, Ow.toD, evTrue, h1, h2, p0, hE, nameB]
  | cons c r =>
    have h3 : pLen [D.str (S (c :: r))] = some (.v () (.int ((c :: r).length : Nat))) := by
      simp only [pLen, lenD]
      rw [if_pos (by rw [Str_len]; exact hz), Str_len]; rfl
    have h4 : pIxA [D.str (S (c :: r)), .int 0] = some (vs (cc c)) := by simp only [pIxA, ix0 c r hz]; rfl
    have h5 : pInA [.str (cc c), .str "0123456789"] = some (.v () (.bl (isFig c))) := by simp only [pInA, in_one]; rfl
    have h6 : pCmp gtI [D.int ((c :: r).length : Nat), .int 12] = some (.v () (.bl (!decide ((c :: r).length ≤ 12)))) := by
      simp only [pCmp, gtI]
      congr 3
      rw [← decide_not]
      exact decide_eq_decide.mpr (by omega)
    have h7 : pInA [.str (S (c :: r)), .lst keysD] = some (.v () (.bl (inKeys (c :: r)))) := rfl
    have nb : nameB (c :: r) = (decide (c :: r ≠ []) && decide ((c :: r).length ≤ 12) && !inKeys (c :: r) && !isFig c && (c :: r).all isRun) := rfl
    have hE' : decide (c :: r = []) = false := by simp [evDef, back, evRet, evRetN, evRetMove, evMove, evSet, evSeq, evIf, evPrim, evPrimT, evOps, evLit, evVar, flatD, R.out, R.bind, evVor, evVand, evVnot, evTest, evTnot, evTand, evTor, evIfe, oB, FR.fin, evLc, evLst, evTup, evDs, evItE, evCall, evAs, fetch, unfetch, evNil, truthD, Ow.toD, evTrue]
    rw [hE'] at hE
    have hE2 : decide (c :: r ≠ []) = true := by simp [evDef, back, evRet, evRetN, evRetMove, evMove, evSet, evSeq, evIf, evPrim, evPrimT, evOps, evLit, evVar, flatD, R.out, R.bind, evVor, evVand, evVnot, evTest, evTnot, evTand, evTor, evIfe, oB, FR.fin, evLc, evLst, evTup, evDs, evItE, evCall, evAs, fetch, unfetch, evNil, truthD, Ow.toD, evTrue]
    rw [nb, hE2]
    generalize hw : c :: r = w at *
    generalize w.all isRun = b1 at *
    generalize decide (w.length ≤ 12) = b2 at *
    generalize inKeys w = b3 at *
    generalize isFig c = b4 at *
    simp only [F__law_is_name, g__law_is_name]
    cases b1 <;> cases b2 <;> cases b3 <;> cases b4 <;> simp [evDef, back, evRet, evRetN, evRetMove, evMove, evSet, evSeq, evIf, evPrim, evPrimT, evOps, evLit, evVar, flatD, R.out, R.bind, evVor, evVand, evVnot, evTest, evTnot, evTand, evTor, evIfe, oB, FR.fin, evLst, evTup, evDs, evCall, evAs, fetch, unfetch, evNil, truthD, Ow.toD, evTrue, h1, h2, h3, h4, h5, h6, h7, hE, hk, p0, toDs_v, toDs_f, Ow.toDs]
/-- letters are no figures, runs are letters and figures -/
theorem let_fig (c : Nat) : isLet c = true → isFig c = false := by
  intro h
  have h1 : c ∈ ("abcdefghijklmnopqrstuvwxyz" : Str).cps.toList := of_decide_eq_true h
  have h2 : ∀ x ∈ ("abcdefghijklmnopqrstuvwxyz" : Str).cps.toList, isFig x = false := by decide +kernel
  exact h2 c h1
theorem law_kind (n : Nat) (w : List Nat) (hne : w ≠ []) (hz : w.length ≤ sizeLine) (hr : w.all isRun = true) (hc : ∀ c ∈ w, c < 1114112) : F__law_kind_of_word n [vs (S w)] = .ok (.v () (kindW w)) [some (vs (S w))] := by
  have h1 := law_name n w hz hc
  have h2 := law_number n w hne hz hc
  have hk := law_keys n
  have h7 : pInA [.str (S w), .lst keysD] = some (.v () (.bl (inKeys w))) := rfl
  obtain ⟨c, r, rfl⟩ := List.exists_cons_of_ne_nil hne
  have hcr : isRun c = true := by simp [evDef, back, evRet, evRetN, evRetMove, evMove, evSet, evSeq, evIf, evPrim, evPrimT, evOps, evLit, evVar, flatD, R.out, R.bind, evVor, evVand, evVnot, evTest, evTnot, evTand, evTor, evIfe, oB, FR.fin, evLc, evLst, evTup, evDs, evItE, evCall, evAs, fetch, unfetch, evNil, truthD, Ow.toD, evTrue] at hr; exact hr.1
  have nb : nameB (c :: r) = (decide ((c :: r).length ≤ 12) && !inKeys (c :: r) && isLet c) := by
    unfold nameB
    rw [hr]
    have : (!isFig ((c :: r).headD 0)) = isLet c := by
      show (!isFig c) = isLet c
      cases e : isLet c with
      | true => rw [let_fig c e]; rfl
      | false =>
        simp only [isRun, e, Bool.false_or] at hcr
        rw [hcr]; rfl
    rw [this]
    simp [evDef, back, evRet, evRetN, evRetMove, evMove, evSet, evSeq, evIf, evPrim, evPrimT, evOps, evLit, evVar, flatD, R.out, R.bind, evVor, evVand, evVnot, evTest, evTnot, evTand, evTor, evIfe, oB, FR.fin, evLc, evLst, evTup, evDs, evItE, evCall, evAs, fetch, unfetch, evNil, truthD, Ow.toD, evTrue]
  have nn : isLet c = true → numB (c :: r) = false := by
    intro h
    simp [evDef, back, evRet, evRetN, evRetMove, evMove, evSet, evSeq, evIf, evPrim, evPrimT, evOps, evLit, evVar, flatD, R.out, R.bind, evVor, evVand, evVnot, evTest, evTnot, evTand, evTor, evIfe, oB, FR.fin, evLc, evLst, evTup, evDs, evItE, evCall, evAs, fetch, unfetch, evNil, truthD, Ow.toD, evTrue, numB, let_fig c h]
  rw [nb] at h1
  have hd : (c :: r).headD 0 = c := rfl
  unfold kindW
  rw [hd]
  generalize hw : c :: r = w at *
  generalize inKeys w = b1 at *
  generalize isLet c = b2 at *
  generalize numB w = b3 at *
  simp only [F__law_kind_of_word, g__law_kind_of_word]
  cases b1 <;> cases b2 <;> cases b3 <;> by_cases hl : w.length ≤ 12 <;> simp [evDef, back, evRet, evRetN, evRetMove, evMove, evSet, evSeq, evIf, evPrim, evPrimT, evOps, evLit, evVar, flatD, R.out, R.bind, evVor, evVand, evVnot, evTest, evTnot, evTand, evTor, evIfe, oB, FR.fin, evLc, evLst, evTup, evDs, evItE, evCall, evAs, fetch, unfetch, evNil, truthD, Ow.toD, evTrue, h1, h2, h7, hk, hl, toDs_v] <;> simp_all
end EV

set_option linter.all false
set_option maxRecDepth 100000
set_option maxHeartbeats 4000000
namespace EV
open PySem PySem.Spec PyProof.Rows L2
abbrev iv (i : Int) : O := .v () (.int i)
abbrev scO (z : Str) (a l c : Int) : O := .obj () "Scanner" [("text", vs z), ("at", iv a), ("line", iv l), ("column", iv c)]
section
variable {z : Str} {a l c b : Int} {r : Env}
theorem fld_text : fldO ["Scanner"] "text" (scO z a l c) = some (.str z) := rfl
theorem fld_at : fldO ["Scanner"] "at" (scO z a l c) = some (.int a) := rfl
theorem fld_line : fldO ["Scanner"] "line" (scO z a l c) = some (.int l) := rfl
theorem fld_column : fldO ["Scanner"] "column" (scO z a l c) = some (.int c) := rfl
theorem set_at : setFld ["Scanner"] "at" 0 (iv b) (some (scO z a l c) :: r) = some (some (scO z b l c) :: r) := rfl
theorem set_line : setFld ["Scanner"] "line" 0 (iv b) (some (scO z a l c) :: r) = some (some (scO z a b c) :: r) := rfl
theorem set_column : setFld ["Scanner"] "column" 0 (iv b) (some (scO z a l c) :: r) = some (some (scO z a l b) :: r) := rfl
theorem obj_any (m : Str) (h : m = "skip" ∨ m = "is_over" ∨ m = "pass_gap" ∨ m = "token") : isObj "Scanner" m (scO z a l c) = true := by
  rcases h with rfl | rfl | rfl | rfl <;> rfl
theorem sc_skip (n : Nat) (k : Int) : F_Scanner_skip n [scO z a l c, iv k] = .ok (.v () .non) [some (scO z (a + k) l (c + k)), some (iv k)] := by
  simp [evDef, back, evRet, evRetN, evRetMove, evMove, evSet, evSeq, evIf, evPrim, evPrimT, evOps, evLit, evVar, flatD, R.out, R.bind, evVor, evVand, evVnot, evTest, evTnot, evTand, evTor, evIfe, oB, FR.fin, evLst, evTup, evDs, evCall, evAs, fetch, unfetch, evNil, truthD, Ow.toD, evTrue, evFldL, evFldAug, evFldSet, evXp, evMethL, evPar, evOs, goAll, tgoName, tgoFld, evStrM, F_Scanner_skip, g_Scanner_skip, fld_at, fld_column, pAdd, set_at, set_column]
theorem sc_over (n : Nat) (hz : z.length ≤ sizeLine) : F_Scanner_is_over n [scO z a l c] = .ok (.v () (.bl (decide (a = z.length)))) [some (scO z a l c)] := by
  simp [evDef, back, evRet, evRetN, evRetMove, evMove, evSet, evSeq, evIf, evPrim, evPrimT, evOps, evLit, evVar, flatD, R.out, R.bind, evVor, evVand, evVnot, evTest, evTnot, evTand, evTor, evIfe, oB, FR.fin, evLst, evTup, evDs, evCall, evAs, fetch, unfetch, evNil, truthD, Ow.toD, evTrue, evFldL, evFldAug, evFldSet, evXp, evMethL, evPar, evOs, goAll, tgoName, tgoFld, evStrM, F_Scanner_is_over, g_Scanner_is_over, fld_at, fld_text, pLen, lenD, hz, pEq, eqD, D.fl, scal]
theorem sc_init (n : Nat) : F_Scanner_init n [.obj () "Scanner" [], vs z] = .ok (.v () .non) [some (scO z 0 1 1), some (vs z)] := by
  have h1 : ∀ r : Env, setFld ["Scanner"] "text" 0 (vs z) (some (.obj () "Scanner" []) :: r) = some (some (.obj () "Scanner" [("text", vs z)]) :: r) := fun _ => rfl
  have h2 : ∀ r : Env, setFld ["Scanner"] "at" 0 (iv 0) (some (.obj () "Scanner" [("text", vs z)]) :: r) = some (some (.obj () "Scanner" [("text", vs z), ("at", iv 0)]) :: r) := fun _ => rfl
  have h3 : ∀ r : Env, setFld ["Scanner"] "line" 0 (iv 1) (some (.obj () "Scanner" [("text", vs z), ("at", iv 0)]) :: r) = some (some (.obj () "Scanner" [("text", vs z), ("at", iv 0), ("line", iv 1)]) :: r) := fun _ => rfl
  have h4 : ∀ r : Env, setFld ["Scanner"] "column" 0 (iv 1) (some (.obj () "Scanner" [("text", vs z), ("at", iv 0), ("line", iv 1)]) :: r) = some (some (scO z 0 1 1) :: r) := fun _ => rfl
  simp [evDef, back, evRet, evRetN, evRetMove, evMove, evSet, evSeq, evIf, evPrim, evPrimT, evOps, evLit, evVar, flatD, R.out, R.bind, evVor, evVand, evVnot, evTest, evTnot, evTand, evTor, evIfe, oB, FR.fin, evLst, evTup, evDs, evCall, evAs, fetch, unfetch, evNil, truthD, Ow.toD, evTrue, evFldL, evFldAug, evFldSet, evXp, evMethL, evPar, evOs, goAll, tgoName, tgoFld, evStrM, F_Scanner_init, g_Scanner_init, h1, h2, h3, h4]
end
end EV

set_option linter.all false
set_option maxRecDepth 100000
set_option maxHeartbeats 4000000
namespace EV
open PySem PySem.Spec PyProof.Rows L2
theorem takeW_free {c : Nat} : ∀ {l : List Nat}, c ∉ l → l.takeWhile (fun d => decide (d ≠ c)) = l
  | [], _ => rfl
  | a :: l, h => by
    simp only [List.mem_cons, not_or] at h
    rw [List.takeWhile_cons, if_pos (by simpa using Ne.symm h.1), takeW_free h.2]
theorem takeW_app {c : Nat} {l r : List Nat} (h : c ∉ l) : (l ++ c :: r).takeWhile (fun d => decide (d ≠ c)) = l := by
  induction l with
  | nil => simp
  | cons a l ih =>
    simp only [List.mem_cons, not_or] at h
    rw [List.cons_append, List.takeWhile_cons, if_pos (by simpa using Ne.symm h.1), ih h.2]
/-- the first part: up to the first cut -/
theorem split_first (x : Str) (c : Nat) : ∃ rest, Txt.split x ⟨#[c]⟩ = S (x.cps.toList.takeWhile fun d => decide (d ≠ c)) :: rest := by
  have hj := StrLaws.join_split x ⟨#[c]⟩
  have hf := StrLaws.split_free x c
  cases e : Txt.split x ⟨#[c]⟩ with
  | nil =>
    have := split_pos x ⟨#[c]⟩
    rw [e] at this
    simp at this
  | cons h r =>
    rw [e] at hj hf
    have hh := hf h (by simp)
    refine ⟨r, ?_⟩
    congr 1
    rw [lit_S h, str_inj]
    cases r with
    | nil =>
      have : h = x := hj
      rw [← this]
      exact (takeW_free hh).symm
    | cons p r =>
      have hx : x.cps.toList = h.cps.toList ++ c :: (Str.join ⟨#[c]⟩ (p :: r)).cps.toList := by
        rw [← hj]
        show ((h ++ (⟨#[c]⟩ : Str)) ++ Str.join ⟨#[c]⟩ (p :: r)).cps.toList = _
        have ap : ∀ a b : Str, (a ++ b).cps.toList = a.cps.toList ++ b.cps.toList := fun a b => by
          show (a.cps ++ b.cps).toList = _
          simp
        rw [ap, ap]
        simp
      rw [hx, takeW_app hh]
theorem slice_from (w : List Nat) (k : Nat) (h : k ≤ w.length) : Txt.slice (S w) (some (k : Int)) none = S (w.drop k) := by
  rw [slice_from_eq (b := w.length) (by omega) (by rw [Str_len]; omega) (by rw [Str_len])]
  simp only [List.toList_toArray, Int.toNat_natCast]
  congr 1
  have : ((w.length : Int) - (k : Int)).toNat = w.length - k := by omega
  rw [this, List.take_of_length_le (by simp)]
theorem at_ix (w : List Nat) (k c : Nat) (h : w[k]? = some c) (hz : w.length ≤ sizeLine) : ixA (.str (S w)) (.int (k : Int)) = some (.str (cc c)) := by
  have hk : k < w.length := (List.getElem?_eq_some_iff.mp h).1
  simp only [ixA, ixD]
  rw [if_pos (by rw [Str_len]; exact hz)]
  have h2 : (k : Int) < (w.length : Int) := by omega
  simp [atI, ixN, h2, h]
end EV

set_option linter.all false
set_option maxRecDepth 100000
set_option maxHeartbeats 4000000
namespace EV
open PySem PySem.Spec PyProof.Rows L2
def line1 (w : List Nat) (k : Nat) : List Nat := (w.drop k).takeWhile fun d => decide (d ≠ 10)
def firstLen (w : List Nat) (k : Nat) : Nat := (line1 w k).length
theorem toD_newL (l : List D) : Ow.toD (newL l) = .lst l := by simp [evDef, back, evRet, evRetN, evRetMove, evMove, evSet, evSeq, evIf, evPrim, evPrimT, evOps, evLit, evVar, flatD, R.out, R.bind, evVor, evVand, evVnot, evTest, evTnot, evTand, evTor, evIfe, oB, FR.fin, evLst, evTup, evDs, evCall, evAs, fetch, unfetch, evNil, truthD, Ow.toD, evTrue, evFldL, evFldAug, evFldSet, evXp, evMethL, evPar, evOs, goAll, tgoName, tgoFld, evStrM, newL, Ow.toD, toDs_v]
/-- the state of a scanner: place, line, column -/
structure Pl where
  k : Nat
  l : Int
  c : Int
def gapNext (w : List Nat) (s : Pl) (c0 : Nat) : Pl := if c0 = 10 then ⟨s.k + 1, s.l + 1, 1⟩ else if c0 = 32 then ⟨s.k + 1, s.l, s.c + 1⟩ else if c0 = 35 then ⟨s.k + firstLen w s.k, s.l, s.c + firstLen w s.k⟩ else s
def isGap (c0 : Nat) : Bool := decide (c0 = 10) || decide (c0 = 32) || decide (c0 = 35)
abbrev scP (w : List Nat) (s : Pl) : O := scO (S w) s.k s.l s.c
theorem eq_cc (c d : Nat) : pEq [.str (cc c), .str (cc d)] = some (.v () (.bl (decide (c = d)))) := by
  simp only [pEq, st_eq, oB, Option.map_some]
  congr 3
  exact decide_eq_decide.mpr (by rw [show cc c = S [c] from rfl, show cc d = S [d] from rfl]; exact str_inj.trans (by simp [evDef, back, evRet, evRetN, evRetMove, evMove, evSet, evSeq, evIf, evPrim, evPrimT, evOps, evLit, evVar, flatD, R.out, R.bind, evVor, evVand, evVnot, evTest, evTnot, evTand, evTor, evIfe, oB, FR.fin, evLst, evTup, evDs, evCall, evAs, fetch, unfetch, evNil, truthD, Ow.toD, evTrue, evFldL, evFldAug, evFldSet, evXp, evMethL, evPar, evOs, goAll, tgoName, tgoFld, evStrM]))
theorem isGap_mem (c : Nat) : decide (c ∈ ("\n #" : Str).cps.toList) = isGap c := by
  have : ("\n #" : Str).cps.toList = [10, 32, 35] := rfl
  rw [this, isGap, Bool.eq_iff_iff]
  simp [evDef, back, evRet, evRetN, evRetMove, evMove, evSet, evSeq, evIf, evPrim, evPrimT, evOps, evLit, evVar, flatD, R.out, R.bind, evVor, evVand, evVnot, evTest, evTnot, evTand, evTor, evIfe, oB, FR.fin, evLst, evTup, evDs, evCall, evAs, fetch, unfetch, evNil, truthD, Ow.toD, evTrue, evFldL, evFldAug, evFldSet, evXp, evMethL, evPar, evOs, goAll, tgoName, tgoFld, evStrM, or_assoc]
/-- the rest of the line -/
theorem rest_line (w : List Nat) (k : Nat) (hk : k ≤ w.length) (hz : w.length + 2 ≤ sizeLine) : ∃ rest, pSl true false [.str (S w), .int (k : Int)] = some (vs (S (w.drop k))) ∧ pSplit [.str (S (w.drop k)), .str "\n"] = some (newL (strsD (S (line1 w k) :: rest))) := by
  obtain ⟨rest, e⟩ := split_first (S (w.drop k)) 10
  have e0 : (S (w.drop k)).cps.toList = w.drop k := by simp [evDef, back, evRet, evRetN, evRetMove, evMove, evSet, evSeq, evIf, evPrim, evPrimT, evOps, evLit, evVar, flatD, R.out, R.bind, evVor, evVand, evVnot, evTest, evTnot, evTand, evTor, evIfe, oB, FR.fin, evLst, evTup, evDs, evCall, evAs, fetch, unfetch, evNil, truthD, Ow.toD, evTrue, evFldL, evFldAug, evFldSet, evXp, evMethL, evPar, evOs, goAll, tgoName, tgoFld, evStrM]
  rw [e0] at e
  refine ⟨rest, ?_, ?_⟩
  · simp only [pSl, slD]
    rw [if_pos (by rw [Str_len]; omega), slice_from w k hk]
  · have e1 : ("\n" : Str) = ⟨#[10]⟩ := rfl
    simp only [pSplit]
    rw [if_pos ⟨rfl, by rw [Str_len, List.length_drop]; omega⟩, e1, e]
    rfl
theorem pass_gap (n : Nat) (w : List Nat) (s : Pl) (c0 : Nat) (h : w[s.k]? = some c0) (hz : w.length + 2 ≤ sizeLine) : F_Scanner_pass_gap n [scP w s] = .ok (.v () (.bl (isGap c0))) [some (scP w (gapNext w s c0))] := by
  have hk : s.k < w.length := (List.getElem?_eq_some_iff.mp h).1
  have h1 : pIxA [.str (S w), .int s.k] = some (vs (cc c0)) := by simp only [pIxA, at_ix w s.k c0 h (by omega)]; rfl
  have h2 : pEq [.str (cc c0), .str "\n"] = some (.v () (.bl (decide (c0 = 10)))) := eq_cc c0 10
  have h3 : pEq [.str (cc c0), .str " "] = some (.v () (.bl (decide (c0 = 32)))) := eq_cc c0 32
  have h4 : pEq [.str (cc c0), .str "#"] = some (.v () (.bl (decide (c0 = 35)))) := eq_cc c0 35
  have h5 : pInA [.str (cc c0), .str "\n #"] = some (.v () (.bl (isGap c0))) := by simp only [pInA, in_one, isGap_mem]; rfl
  obtain ⟨rest, h6, h7⟩ := rest_line w s.k (by omega) hz
  have h8 : pIxA [.lst (strsD (S (line1 w s.k) :: rest)), .int 0] = some (vs (S (line1 w s.k))) := by
    simp [evDef, back, evRet, evRetN, evRetMove, evMove, evSet, evSeq, evIf, evPrim, evPrimT, evOps, evLit, evVar, flatD, R.out, R.bind, evVor, evVand, evVnot, evTest, evTnot, evTand, evTor, evIfe, oB, FR.fin, evLst, evTup, evDs, evCall, evAs, fetch, unfetch, evNil, truthD, Ow.toD, evTrue, evFldL, evFldAug, evFldSet, evXp, evMethL, evPar, evOs, goAll, tgoName, tgoFld, evStrM, pIxA, ixA, ixD, strsD, atI, ixN]
  have h9 : pLen [.str (S (line1 w s.k))] = some (iv (firstLen w s.k : Nat)) := by
    have : (line1 w s.k).length ≤ w.length := Nat.le_trans (List.takeWhile_sublist _).length_le (by simp [evDef, back, evRet, evRetN, evRetMove, evMove, evSet, evSeq, evIf, evPrim, evPrimT, evOps, evLit, evVar, flatD, R.out, R.bind, evVor, evVand, evVnot, evTest, evTnot, evTand, evTor, evIfe, oB, FR.fin, evLst, evTup, evDs, evCall, evAs, fetch, unfetch, evNil, truthD, Ow.toD, evTrue, evFldL, evFldAug, evFldSet, evXp, evMethL, evPar, evOs, goAll, tgoName, tgoFld, evStrM])
    simp only [pLen, lenD]
    rw [if_pos (by rw [Str_len]; omega), Str_len]; rfl
  have ob : ∀ {z a l c}, isObj "Scanner" "skip" (scO z a l c) = true := obj_any _ (.inl rfl)
  simp only [F_Scanner_pass_gap, g_Scanner_pass_gap]
  by_cases c1 : c0 = 10
  · subst c1
    simp [evDef, back, evRet, evRetN, evRetMove, evMove, evSet, evSeq, evIf, evPrim, evPrimT, evOps, evLit, evVar, flatD, R.out, R.bind, evVor, evVand, evVnot, evTest, evTnot, evTand, evTor, evIfe, oB, FR.fin, evLst, evTup, evDs, evCall, evAs, fetch, unfetch, evNil, truthD, Ow.toD, evTrue, evFldL, evFldAug, evFldSet, evXp, evMethL, evPar, evOs, goAll, tgoName, tgoFld, evStrM, fld_text, fld_at, fld_line, h1, h2, h5, gapNext, pSum, set_at, set_line, set_column]
  · by_cases c2 : c0 = 32
    · subst c2
      simp [evDef, back, evRet, evRetN, evRetMove, evMove, evSet, evSeq, evIf, evPrim, evPrimT, evOps, evLit, evVar, flatD, R.out, R.bind, evVor, evVand, evVnot, evTest, evTnot, evTand, evTor, evIfe, oB, FR.fin, evLst, evTup, evDs, evCall, evAs, fetch, unfetch, evNil, truthD, Ow.toD, evTrue, evFldL, evFldAug, evFldSet, evXp, evMethL, evPar, evOs, goAll, tgoName, tgoFld, evStrM, fld_text, fld_at, fld_line, h1, h2, h3, h5, gapNext, ob, sc_skip]
    · by_cases c3 : c0 = 35
      · subst c3
        simp [evDef, back, evRet, evRetN, evRetMove, evMove, evSet, evSeq, evIf, evPrim, evPrimT, evOps, evLit, evVar, flatD, R.out, R.bind, evVor, evVand, evVnot, evTest, evTnot, evTand, evTor, evIfe, oB, FR.fin, evLst, evTup, evDs, evCall, evAs, fetch, unfetch, evNil, truthD, Ow.toD, evTrue, evFldL, evFldAug, evFldSet, evXp, evMethL, evPar, evOs, goAll, tgoName, tgoFld, evStrM, toD_newL, fld_text, fld_at, fld_line, h1, h2, h3, h4, h5, gapNext, ob, sc_skip, h6, h7, h8, h9]
      · simp [evDef, back, evRet, evRetN, evRetMove, evMove, evSet, evSeq, evIf, evPrim, evPrimT, evOps, evLit, evVar, flatD, R.out, R.bind, evVor, evVand, evVnot, evTest, evTnot, evTand, evTor, evIfe, oB, FR.fin, evLst, evTup, evDs, evCall, evAs, fetch, unfetch, evNil, truthD, Ow.toD, evTrue, evFldL, evFldAug, evFldSet, evXp, evMethL, evPar, evOs, goAll, tgoName, tgoFld, evStrM, fld_text, fld_at, fld_line, h1, h2, h3, h4, h5, c1, c2, c3, gapNext]
end EV

set_option linter.all false
set_option maxRecDepth 100000
set_option maxHeartbeats 4000000
namespace EV
open PySem PySem.Spec PyProof.Rows L2
theorem drop_cons {w u : List Nat} {k c : Nat} (h : w.drop k = c :: u) : w[k]? = some c ∧ k < w.length ∧ w.drop (k + 1) = u := by
  have hk : k < w.length := by
    rcases Nat.lt_or_ge k w.length with z | z
    · exact z
    · rw [List.drop_of_length_le z] at h; cases h
  rw [List.drop_eq_getElem_cons hk] at h
  cases h
  exact ⟨by simp [evDef, back, evRet, evRetN, evRetMove, evMove, evSet, evSeq, evIf, evPrim, evPrimT, evOps, evLit, evVar, flatD, R.out, R.bind, evVor, evVand, evVnot, evTest, evTnot, evTand, evTor, evIfe, oB, FR.fin, evLst, evTup, evDs, evCall, evAs, fetch, unfetch, evNil, truthD, Ow.toD, evTrue, evFldL, evFldAug, evFldSet, evXp, evMethL, evPar, evOs, goAll, tgoName, tgoFld, evStrM, hk], hk, rfl⟩
def condTok (n : Nat) : Et := (evTand (evPrimT (pCmp ltI) [.e (evPrim pSum [.e (evFldL ["Scanner"] "at" 0), .r 2]), .e (evPrim pLen [.e (evFldL ["Scanner"] "text" 0)])]) (evTest (evCall (F_is_run_sign n) [.e (evPrim pIxA [.e (evFldL ["Scanner"] "text" 0), .e (evPrim pSum [.e (evFldL ["Scanner"] "at" 0), .r 2])])] [])))
abbrev envT (w : List Nat) (s : Pl) (p : O) (m : Nat) : Env := [some (scP w s), some p, some (iv (m : Nat)), none, none]
theorem cond_tok (n : Nat) (w : List Nat) (s : Pl) (p : O) (m : Nat) (hz : w.length ≤ sizeLine) : condTok n (envT w s p m) = .ok (match w.drop (s.k + m) with | [] => false | c :: _ => isRun c, envT w s p m) := by
  have h1 : pLen [.str (S w)] = some (iv (w.length : Nat)) := by
    simp only [pLen, lenD]
    rw [if_pos (by rw [Str_len]; exact hz), Str_len]; rfl
  have h2 : pSum [.int s.k, .int m] = some (iv ((s.k + m : Nat) : Int)) := by simp [evDef, back, evRet, evRetN, evRetMove, evMove, evSet, evSeq, evIf, evPrim, evPrimT, evOps, evLit, evVar, flatD, R.out, R.bind, evVor, evVand, evVnot, evTest, evTnot, evTand, evTor, evIfe, oB, FR.fin, evLst, evTup, evDs, evCall, evAs, fetch, unfetch, evNil, truthD, Ow.toD, evTrue, evFldL, evFldAug, evFldSet, evXp, evMethL, evPar, evOs, goAll, tgoName, tgoFld, evStrM, pSum]
  have h3 : pCmp ltI [.int ((s.k + m : Nat) : Int), .int (w.length : Nat)] = some (.v () (.bl (decide (s.k + m < w.length)))) := by
    simp only [pCmp, ltI]
    congr 3
    exact decide_eq_decide.mpr (by omega)
  cases e : w.drop (s.k + m) with
  | nil =>
    have : ¬ s.k + m < w.length := by
      intro hl
      rw [List.drop_eq_getElem_cons hl] at e; cases e
    simp only [condTok]
    generalize hq : s.k + m = q at *
    simp [evDef, back, evRet, evRetN, evRetMove, evMove, evSet, evSeq, evIf, evPrim, evPrimT, evOps, evLit, evVar, flatD, R.out, R.bind, evVor, evVand, evVnot, evTest, evTnot, evTand, evTor, evIfe, oB, FR.fin, evLst, evTup, evDs, evCall, evAs, fetch, unfetch, evNil, truthD, Ow.toD, evTrue, evFldL, evFldAug, evFldSet, evXp, evMethL, evPar, evOs, goAll, tgoName, tgoFld, evStrM, fld_at, fld_text, h1, h2, h3, this]
  | cons c u =>
    obtain ⟨e1, e2, _⟩ := drop_cons e
    have h4 : pIxA [.str (S w), .int ((s.k + m : Nat) : Int)] = some (vs (cc c)) := by simp only [pIxA, at_ix w _ c e1 hz]; rfl
    simp only [condTok]
    generalize hq : s.k + m = q at *
    simp [evDef, back, evRet, evRetN, evRetMove, evMove, evSet, evSeq, evIf, evPrim, evPrimT, evOps, evLit, evVar, flatD, R.out, R.bind, evVor, evVand, evVnot, evTest, evTnot, evTand, evTor, evIfe, oB, FR.fin, evLst, evTup, evDs, evCall, evAs, fetch, unfetch, evNil, truthD, Ow.toD, evTrue, evFldL, evFldAug, evFldSet, evXp, evMethL, evPar, evOs, goAll, tgoName, tgoFld, evStrM, fld_at, fld_text, h1, h2, h3, e2, h4, run_sign]
def bodyTok : Es := evAug 2 pAdd (evLit (.int 1))
theorem body_tok (w : List Nat) (s : Pl) (p : O) (m : Nat) : bodyTok (envT w s p m) = .nx (envT w s p (m + 1)) := by
  simp [evDef, back, evRet, evRetN, evRetMove, evMove, evSet, evSeq, evIf, evPrim, evPrimT, evOps, evLit, evVar, flatD, R.out, R.bind, evVor, evVand, evVnot, evTest, evTnot, evTand, evTor, evIfe, oB, FR.fin, evLst, evTup, evDs, evCall, evAs, fetch, unfetch, evNil, truthD, Ow.toD, evTrue, evFldL, evFldAug, evFldSet, evXp, evMethL, evPar, evOs, goAll, tgoName, tgoFld, evStrM, bodyTok, evAug, pAdd]
theorem loop_tok (n : Nat) (w : List Nat) (s : Pl) (p : O) (hz : w.length ≤ sizeLine) : ∀ (u : List Nat) (m f : Nat), w.drop (s.k + m) = u → (u.takeWhile isRun).length < f → whileN (condTok n) bodyTok f (envT w s p m) = .nx (envT w s p (m + (u.takeWhile isRun).length))
  | [], m, 0, h, hf => by simp [evDef, back, evRet, evRetN, evRetMove, evMove, evSet, evSeq, evIf, evPrim, evPrimT, evOps, evLit, evVar, flatD, R.out, R.bind, evVor, evVand, evVnot, evTest, evTnot, evTand, evTor, evIfe, oB, FR.fin, evLst, evTup, evDs, evCall, evAs, fetch, unfetch, evNil, truthD, Ow.toD, evTrue, evFldL, evFldAug, evFldSet, evXp, evMethL, evPar, evOs, goAll, tgoName, tgoFld, evStrM] at hf
  | [], m, f + 1, h, hf => by
    simp only [whileN, cond_tok n w s p m hz, h, R.out]
    simp [evDef, back, evRet, evRetN, evRetMove, evMove, evSet, evSeq, evIf, evPrim, evPrimT, evOps, evLit, evVar, flatD, R.out, R.bind, evVor, evVand, evVnot, evTest, evTnot, evTand, evTor, evIfe, oB, FR.fin, evLst, evTup, evDs, evCall, evAs, fetch, unfetch, evNil, truthD, Ow.toD, evTrue, evFldL, evFldAug, evFldSet, evXp, evMethL, evPar, evOs, goAll, tgoName, tgoFld, evStrM]
  | c :: u, m, 0, h, hf => by simp [evDef, back, evRet, evRetN, evRetMove, evMove, evSet, evSeq, evIf, evPrim, evPrimT, evOps, evLit, evVar, flatD, R.out, R.bind, evVor, evVand, evVnot, evTest, evTnot, evTand, evTor, evIfe, oB, FR.fin, evLst, evTup, evDs, evCall, evAs, fetch, unfetch, evNil, truthD, Ow.toD, evTrue, evFldL, evFldAug, evFldSet, evXp, evMethL, evPar, evOs, goAll, tgoName, tgoFld, evStrM] at hf
  | c :: u, m, f + 1, h, hf => by
    obtain ⟨_, _, e3⟩ := drop_cons h
    simp only [whileN, cond_tok n w s p m hz, h, R.out]
    cases e : isRun c with
    | false => simp [evDef, back, evRet, evRetN, evRetMove, evMove, evSet, evSeq, evIf, evPrim, evPrimT, evOps, evLit, evVar, flatD, R.out, R.bind, evVor, evVand, evVnot, evTest, evTnot, evTand, evTor, evIfe, oB, FR.fin, evLst, evTup, evDs, evCall, evAs, fetch, unfetch, evNil, truthD, Ow.toD, evTrue, evFldL, evFldAug, evFldSet, evXp, evMethL, evPar, evOs, goAll, tgoName, tgoFld, evStrM, List.takeWhile_cons, e]
    | true =>
      rw [List.takeWhile_cons, e] at hf ⊢
      simp only [if_true, List.length_cons] at hf ⊢
      rw [body_tok]
      have := loop_tok n w s p hz u (m + 1) f (by rw [← e3]; congr 1) (by omega)
      have e5 : m + 1 + (u.takeWhile isRun).length = m + ((u.takeWhile isRun).length + 1) := by omega
      simp only [this, e5]
end EV

set_option linter.all false
set_option maxRecDepth 100000
set_option maxHeartbeats 4000000
namespace EV
open PySem PySem.Spec PyProof.Rows L2
/-- the run that begins at k -/
def runAt (w : List Nat) (k : Nat) : List Nat := (w.drop k).takeWhile isRun
def signsV : List V := [.str "{", .str "}", .str "(", .str ")", .str ",", .str ";", .str ":"]
/-- the word that begins at k, sign c0 -/
def wordAt (w : List Nat) (k c0 : Nat) : List Nat := if runAt w k = [] then [c0] else runAt w k
/-- its kind, none if it begins no token -/
def kindAt (w : List Nat) (k c0 : Nat) : D := if runAt w k = [] then (if inV (.str (cc c0)) signsV then .str "sign" else .non) else kindW (runAt w k)
theorem run_nil {w : List Nat} {k c0 : Nat} (h : w[k]? = some c0) : runAt w k = [] ↔ isRun c0 = false := by
  have hk : k < w.length := (List.getElem?_eq_some_iff.mp h).1
  have e : w.drop k = c0 :: w.drop (k + 1) := by
    rw [List.drop_eq_getElem_cons hk]
    congr 1
    exact (List.getElem?_eq_some_iff.mp h).2
  unfold runAt
  rw [e, List.takeWhile_cons]
  cases isRun c0 <;> simp [evDef, back, evRet, evRetN, evRetMove, evMove, evSet, evSeq, evIf, evPrim, evPrimT, evOps, evLit, evVar, flatD, R.out, R.bind, evVor, evVand, evVnot, evTest, evTnot, evTand, evTor, evIfe, oB, FR.fin, evLst, evTup, evDs, evCall, evAs, fetch, unfetch, evNil, truthD, Ow.toD, evTrue, evFldL, evFldAug, evFldSet, evXp, evMethL, evPar, evOs, goAll, tgoName, tgoFld, evStrM]
theorem slice_at (w : List Nat) (k m : Nat) (h : k + m ≤ w.length) : Txt.slice (S w) (some (k : Int)) (some ((k + m : Nat) : Int)) = S ((w.drop k).take m) := by
  have := slice_closes (x := S w) (i := (k : Int)) (j := ((k + m : Nat) : Int)) ⟨by omega, by omega, by simp [evDef, back, evRet, evRetN, evRetMove, evMove, evSet, evSeq, evIf, evPrim, evPrimT, evOps, evLit, evVar, flatD, R.out, R.bind, evVor, evVand, evVnot, evTest, evTnot, evTand, evTor, evIfe, oB, FR.fin, evLst, evTup, evDs, evCall, evAs, fetch, unfetch, evNil, truthD, Ow.toD, evTrue, evFldL, evFldAug, evFldSet, evXp, evMethL, evPar, evOs, goAll, tgoName, tgoFld, evStrM]; omega⟩
  have e := eq_of_beq this
  rw [e]
  simp only [List.toList_toArray, Int.toNat_natCast]
  have : (((k + m : Nat) : Int) - (k : Int)).toNat = m := by omega
  rw [this]
theorem take_takeW {p : Nat → Bool} (l : List Nat) : l.take (l.takeWhile p).length = l.takeWhile p := by
  induction l with
  | nil => rfl
  | cons a l ih =>
    rw [List.takeWhile_cons]
    split
    · simp [evDef, back, evRet, evRetN, evRetMove, evMove, evSet, evSeq, evIf, evPrim, evPrimT, evOps, evLit, evVar, flatD, R.out, R.bind, evVor, evVand, evVnot, evTest, evTnot, evTand, evTor, evIfe, oB, FR.fin, evLst, evTup, evDs, evCall, evAs, fetch, unfetch, evNil, truthD, Ow.toD, evTrue, evFldL, evFldAug, evFldSet, evXp, evMethL, evPar, evOs, goAll, tgoName, tgoFld, evStrM, ih]
    · rfl

def tokNext (w : List Nat) (s : Pl) (c0 : Nat) : Pl := ⟨s.k + (wordAt w s.k c0).length, s.l, s.c + (wordAt w s.k c0).length⟩
def tokD (w : List Nat) (s : Pl) (c0 : Nat) : D := .tup [kindAt w s.k c0, .str (S (wordAt w s.k c0)), .tup [.int s.l, .int s.c]]
def restTok (n : Nat) : Es := (evSeq (evSet 3 (evPrim (pSl true true) [.e (evFldL ["Scanner"] "text" 0), .e (evFldL ["Scanner"] "at" 0), .e (evPrim pSum [.e (evFldL ["Scanner"] "at" 0), .e (evPrim pMax2 [.e (evLit (.int 1)), .r 2])])])) (evSeq (evSet 4 (evIfe (evPrimT (pCmp gtI) [.r 2, .e (evLit (.int 0))]) (evCall (F_kind_of n) [.l 3] []) (evIfe (evPrimT pInA [.r 3, .e (evLit c_SIGNS)]) (evLit (.str "sign")) (evLit .non)))) (evSeq (evIf (evPrimT pIs [.r 4, .e (evLit .non)]) (evRaise "Misread" ["line", "column"] [(evFldL ["Scanner"] "line" 0), (evFldL ["Scanner"] "column" 0)]) evNil) (evSeq (evXp (evMethL "Scanner" "skip" (F_Scanner_skip n) 0 [.e (evPrim pLen [.r 3])] [])) (evRet (evTup [(evVar 4), (evVar 3), (evVar 1)]))))))
theorem g_tok (n : Nat) : g_Scanner_token n = (evSeq (evPar [(evTup [(evFldL ["Scanner"] "line" 0), (evFldL ["Scanner"] "column" 0)]), (evLit (.int 0))] [(tgoName 1), (tgoName 2)]) (evSeq (whileN (condTok n) bodyTok n) (restTok n))) := rfl
theorem sc_token (n : Nat) (w : List Nat) (s : Pl) (c0 : Nat) (h : w[s.k]? = some c0) (hn : w.length < n) (hz : w.length + 2 ≤ sizeLine) :
    F_Scanner_token n [scP w s] = match isNon (kindAt w s.k c0) with
      | some true => .exc ⟨"Misread", [("column", .int s.c), ("line", .int s.l)]⟩ [some (scP w s)]
      | _ => .ok (.v () (tokD w s c0)) [some (scP w (tokNext w s c0))] := by
  have hk : s.k < w.length := (List.getElem?_eq_some_iff.mp h).1
  have hs2 : (2 : Nat) ≤ sizeLine := by decide
  have hs3 : (3 : Nat) ≤ sizeLine := by decide
  have hlp := loop_tok n w s (.v () (.tup [.int s.l, .int s.c])) (by omega) (w.drop s.k) 0 n (by simp [evDef, back, evRet, evRetN, evRetMove, evMove, evSet, evSeq, evIf, evPrim, evPrimT, evOps, evLit, evVar, flatD, R.out, R.bind, evVor, evVand, evVnot, evTest, evTnot, evTand, evTor, evIfe, oB, FR.fin, evLst, evTup, evDs, evCall, evAs, fetch, unfetch, evNil, truthD, Ow.toD, evTrue, evFldL, evFldAug, evFldSet, evXp, evMethL, evPar, evOs, goAll, tgoName, tgoFld, evStrM]) (Nat.lt_of_le_of_lt (Nat.le_trans (List.takeWhile_sublist _).length_le (by simp [evDef, back, evRet, evRetN, evRetMove, evMove, evSet, evSeq, evIf, evPrim, evPrimT, evOps, evLit, evVar, flatD, R.out, R.bind, evVor, evVand, evVnot, evTest, evTnot, evTand, evTor, evIfe, oB, FR.fin, evLst, evTup, evDs, evCall, evAs, fetch, unfetch, evNil, truthD, Ow.toD, evTrue, evFldL, evFldAug, evFldSet, evXp, evMethL, evPar, evOs, goAll, tgoName, tgoFld, evStrM])) hn)
  have e1 : (w.drop s.k).takeWhile isRun = runAt w s.k := rfl
  rw [e1, Nat.zero_add] at hlp
  have hrl : (runAt w s.k).length ≤ w.length - s.k := Nat.le_trans (List.takeWhile_sublist _).length_le (by simp [evDef, back, evRet, evRetN, evRetMove, evMove, evSet, evSeq, evIf, evPrim, evPrimT, evOps, evLit, evVar, flatD, R.out, R.bind, evVor, evVand, evVnot, evTest, evTnot, evTand, evTor, evIfe, oB, FR.fin, evLst, evTup, evDs, evCall, evAs, fetch, unfetch, evNil, truthD, Ow.toD, evTrue, evFldL, evFldAug, evFldSet, evXp, evMethL, evPar, evOs, goAll, tgoName, tgoFld, evStrM])
  have hwl : 1 ≤ (wordAt w s.k c0).length ∧ s.k + (wordAt w s.k c0).length ≤ w.length := by
    unfold wordAt
    split
    · simp [evDef, back, evRet, evRetN, evRetMove, evMove, evSet, evSeq, evIf, evPrim, evPrimT, evOps, evLit, evVar, flatD, R.out, R.bind, evVor, evVand, evVnot, evTest, evTnot, evTand, evTor, evIfe, oB, FR.fin, evLst, evTup, evDs, evCall, evAs, fetch, unfetch, evNil, truthD, Ow.toD, evTrue, evFldL, evFldAug, evFldSet, evXp, evMethL, evPar, evOs, goAll, tgoName, tgoFld, evStrM]; omega
    · rename_i hne
      have : (runAt w s.k).length ≠ 0 := fun e => hne (List.length_eq_zero_iff.mp e)
      omega
  have hmx : pMax2 [.int 1, .int ((runAt w s.k).length : Nat)] = some (iv ((wordAt w s.k c0).length : Nat)) := by
    simp only [pMax2, wordAt]
    split
    · rename_i hne
      by_cases e : runAt w s.k = []
      · rw [e] at hne; simp [evDef, back, evRet, evRetN, evRetMove, evMove, evSet, evSeq, evIf, evPrim, evPrimT, evOps, evLit, evVar, flatD, R.out, R.bind, evVor, evVand, evVnot, evTest, evTnot, evTand, evTor, evIfe, oB, FR.fin, evLst, evTup, evDs, evCall, evAs, fetch, unfetch, evNil, truthD, Ow.toD, evTrue, evFldL, evFldAug, evFldSet, evXp, evMethL, evPar, evOs, goAll, tgoName, tgoFld, evStrM] at hne
      · rw [if_neg e]
    · rename_i hne
      by_cases e : runAt w s.k = []
      · rw [if_pos e]; rfl
      · have : (runAt w s.k).length ≠ 0 := fun e' => e (List.length_eq_zero_iff.mp e')
        have h1 : (runAt w s.k).length = 1 := by omega
        rw [if_neg e, h1]; rfl
  have hsl : pSl true true [.str (S w), .int s.k, .int ((s.k + (wordAt w s.k c0).length : Nat) : Int)] = some (vs (S (wordAt w s.k c0))) := by
    simp only [pSl, slD]
    rw [if_pos (by rw [Str_len]; omega), slice_at w s.k _ hwl.2]
    congr 4
    unfold wordAt
    split
    · have e : w.drop s.k = c0 :: w.drop (s.k + 1) := by
        rw [List.drop_eq_getElem_cons hk]
        congr 1
        exact (List.getElem?_eq_some_iff.mp h).2
      rw [e]; rfl
    · exact take_takeW _
  have hsum : pSum [.int s.k, .int ((wordAt w s.k c0).length : Nat)] = some (iv ((s.k + (wordAt w s.k c0).length : Nat) : Int)) := by simp [evDef, back, evRet, evRetN, evRetMove, evMove, evSet, evSeq, evIf, evPrim, evPrimT, evOps, evLit, evVar, flatD, R.out, R.bind, evVor, evVand, evVnot, evTest, evTnot, evTand, evTor, evIfe, oB, FR.fin, evLst, evTup, evDs, evCall, evAs, fetch, unfetch, evNil, truthD, Ow.toD, evTrue, evFldL, evFldAug, evFldSet, evXp, evMethL, evPar, evOs, goAll, tgoName, tgoFld, evStrM, pSum]
  have hlen : pLen [.str (S (wordAt w s.k c0))] = some (iv ((wordAt w s.k c0).length : Nat)) := by
    simp only [pLen, lenD]
    rw [if_pos (by rw [Str_len]; omega), Str_len]; rfl
  have hgt : pCmp gtI [.int ((runAt w s.k).length : Nat), .int 0] = some (.v () (.bl (decide (runAt w s.k ≠ [])))) := by
    simp only [pCmp, gtI]
    congr 3
    refine decide_eq_decide.mpr ?_
    rw [← List.length_pos_iff]
    omega
  have hsk : F_Scanner_skip n [scP w s, iv ((wordAt w s.k c0).length : Nat)] = .ok (.v () .non) [some (scP w (tokNext w s c0)), some (iv ((wordAt w s.k c0).length : Nat))] := by
    rw [sc_skip]
    simp [evDef, back, evRet, evRetN, evRetMove, evMove, evSet, evSeq, evIf, evPrim, evPrimT, evOps, evLit, evVar, flatD, R.out, R.bind, evVor, evVand, evVnot, evTest, evTnot, evTand, evTor, evIfe, oB, FR.fin, evLst, evTup, evDs, evCall, evAs, fetch, unfetch, evNil, truthD, Ow.toD, evTrue, evFldL, evFldAug, evFldSet, evXp, evMethL, evPar, evOs, goAll, tgoName, tgoFld, evStrM, tokNext]
  have ob : ∀ {z a l c}, isObj "Scanner" "skip" (scO z a l c) = true := obj_any _ (.inl rfl)
  have hnil : ∀ {a b c d : O}, ([a, b, c, d].length = 4) := rfl
  have st : evPar [(evTup [(evFldL ["Scanner"] "line" 0), (evFldL ["Scanner"] "column" 0)]), (evLit (.int 0))] [(tgoName 1), (tgoName 2)] [some (scP w s), none, none, none, none] = .nx (envT w s (.v () (.tup [.int s.l, .int s.c])) 0) := by
    simp [evDef, back, evRet, evRetN, evRetMove, evMove, evSet, evSeq, evIf, evPrim, evPrimT, evOps, evLit, evVar, flatD, R.out, R.bind, evVor, evVand, evVnot, evTest, evTnot, evTand, evTor, evIfe, oB, FR.fin, evLst, evTup, evDs, evCall, evAs, fetch, unfetch, evNil, truthD, Ow.toD, evTrue, evFldL, evFldAug, evFldSet, evXp, evMethL, evPar, evOs, goAll, tgoName, tgoFld, evStrM, fld_line, fld_column, hs2]
  have en : (([scP w s].map some ++ List.replicate (5 - [true].length) none) : Env) = [some (scP w s), none, none, none, none] := rfl
  simp only [F_Scanner_token, evDef, g_tok]
  rw [if_pos (by rfl), en]
  simp only [evSeq, st, hlp]
  have hkw : runAt w s.k ≠ [] → F_kind_of n [vs (S (wordAt w s.k c0))] = .ok (.v () (kindAt w s.k c0)) [some (vs (S (wordAt w s.k c0)))] := fun e => by
    have hw : wordAt w s.k c0 = runAt w s.k := by simp [evDef, back, evRet, evRetN, evRetMove, evMove, evSet, evSeq, evIf, evPrim, evPrimT, evOps, evLit, evVar, flatD, R.out, R.bind, evVor, evVand, evVnot, evTest, evTnot, evTand, evTor, evIfe, oB, FR.fin, evLst, evTup, evDs, evCall, evAs, fetch, unfetch, evNil, truthD, Ow.toD, evTrue, evFldL, evFldAug, evFldSet, evXp, evMethL, evPar, evOs, goAll, tgoName, tgoFld, evStrM, wordAt, e]
    have hq : kindAt w s.k c0 = kindW (runAt w s.k) := by simp [evDef, back, evRet, evRetN, evRetMove, evMove, evSet, evSeq, evIf, evPrim, evPrimT, evOps, evLit, evVar, flatD, R.out, R.bind, evVor, evVand, evVnot, evTest, evTnot, evTand, evTor, evIfe, oB, FR.fin, evLst, evTup, evDs, evCall, evAs, fetch, unfetch, evNil, truthD, Ow.toD, evTrue, evFldL, evFldAug, evFldSet, evXp, evMethL, evPar, evOs, goAll, tgoName, tgoFld, evStrM, kindAt, e]
    rw [hw, hq]
    exact kind_of_run n _ e (by omega)
  have hsg : runAt w s.k = [] → pInA [.str (S (wordAt w s.k c0)), c_SIGNS] = some (.v () (.bl (inV (.str (cc c0)) signsV))) ∧ kindAt w s.k c0 = (if inV (.str (cc c0)) signsV then .str "sign" else .non) := fun e => by
    constructor
    · have hw : wordAt w s.k c0 = [c0] := by simp [evDef, back, evRet, evRetN, evRetMove, evMove, evSet, evSeq, evIf, evPrim, evPrimT, evOps, evLit, evVar, flatD, R.out, R.bind, evVor, evVand, evVnot, evTest, evTnot, evTand, evTor, evIfe, oB, FR.fin, evLst, evTup, evDs, evCall, evAs, fetch, unfetch, evNil, truthD, Ow.toD, evTrue, evFldL, evFldAug, evFldSet, evXp, evMethL, evPar, evOs, goAll, tgoName, tgoFld, evStrM, wordAt, e]
      rw [hw]; rfl
    · simp [evDef, back, evRet, evRetN, evRetMove, evMove, evSet, evSeq, evIf, evPrim, evPrimT, evOps, evLit, evVar, flatD, R.out, R.bind, evVor, evVand, evVnot, evTest, evTnot, evTand, evTor, evIfe, oB, FR.fin, evLst, evTup, evDs, evCall, evAs, fetch, unfetch, evNil, truthD, Ow.toD, evTrue, evFldL, evFldAug, evFldSet, evXp, evMethL, evPar, evOs, goAll, tgoName, tgoFld, evStrM, kindAt, e]
  have hcase : (∃ z, kindAt w s.k c0 = .str z) ∨ kindAt w s.k c0 = .non := by
    unfold kindAt kindW
    split
    · split
      · exact .inl ⟨_, rfl⟩
      · exact .inr rfl
    · split
      · exact .inl ⟨_, rfl⟩
      · split
        · split
          · exact .inl ⟨_, rfl⟩
          · exact .inr rfl
        · split
          · exact .inl ⟨_, rfl⟩
          · exact .inr rfl
  unfold tokD
  generalize hkd : kindAt w s.k c0 = kd at *
  generalize hwd : wordAt w s.k c0 = wd at *
  generalize hq : ((s.k + wd.length : Nat) : Int) = q0 at hsl hsum
  by_cases e : runAt w s.k = []
  · obtain ⟨g1, g2⟩ := hsg e
    have hgt' : decide (runAt w s.k ≠ []) = false := by simp [evDef, back, evRet, evRetN, evRetMove, evMove, evSet, evSeq, evIf, evPrim, evPrimT, evOps, evLit, evVar, flatD, R.out, R.bind, evVor, evVand, evVnot, evTest, evTnot, evTand, evTor, evIfe, oB, FR.fin, evLst, evTup, evDs, evCall, evAs, fetch, unfetch, evNil, truthD, Ow.toD, evTrue, evFldL, evFldAug, evFldSet, evXp, evMethL, evPar, evOs, goAll, tgoName, tgoFld, evStrM, e]
    rw [hgt'] at hgt
    cases hb : inV (.str (cc c0)) signsV with
    | true =>
      rw [hb] at g1 g2
      simp only [if_true] at g2
      subst g2
      simp [evDef, back, evRet, evRetN, evRetMove, evMove, evSet, evSeq, evIf, evPrim, evPrimT, evOps, evLit, evVar, flatD, R.out, R.bind, evVor, evVand, evVnot, evTest, evTnot, evTand, evTor, evIfe, oB, FR.fin, evLst, evTup, evDs, evCall, evAs, fetch, unfetch, evNil, truthD, Ow.toD, evTrue, evFldL, evFldAug, evFldSet, evXp, evMethL, evPar, evOs, goAll, tgoName, tgoFld, evStrM, restTok, fld_at, fld_text, hmx, hsum, hsl, hgt, g1, pIs, isNon, ob, hlen, hsk, hs3]
    | false =>
      rw [hb] at g1 g2
      simp only [Bool.false_eq_true, if_false] at g2
      subst g2
      simp [evDef, back, evRet, evRetN, evRetMove, evMove, evSet, evSeq, evIf, evPrim, evPrimT, evOps, evLit, evVar, flatD, R.out, R.bind, evVor, evVand, evVnot, evTest, evTnot, evTand, evTor, evIfe, oB, FR.fin, evLst, evTup, evDs, evCall, evAs, fetch, unfetch, evNil, truthD, Ow.toD, evTrue, evFldL, evFldAug, evFldSet, evXp, evMethL, evPar, evOs, goAll, tgoName, tgoFld, evStrM, restTok, fld_at, fld_text, fld_line, fld_column, hmx, hsum, hsl, hgt, g1, pIs, isNon, evRaise]
  · have hgt' : decide (runAt w s.k ≠ []) = true := by simp [evDef, back, evRet, evRetN, evRetMove, evMove, evSet, evSeq, evIf, evPrim, evPrimT, evOps, evLit, evVar, flatD, R.out, R.bind, evVor, evVand, evVnot, evTest, evTnot, evTand, evTor, evIfe, oB, FR.fin, evLst, evTup, evDs, evCall, evAs, fetch, unfetch, evNil, truthD, Ow.toD, evTrue, evFldL, evFldAug, evFldSet, evXp, evMethL, evPar, evOs, goAll, tgoName, tgoFld, evStrM, e]
    rw [hgt'] at hgt
    have hkw := hkw e
    rcases hcase with ⟨z, rfl⟩ | rfl
    · simp [evDef, back, evRet, evRetN, evRetMove, evMove, evSet, evSeq, evIf, evPrim, evPrimT, evOps, evLit, evVar, flatD, R.out, R.bind, evVor, evVand, evVnot, evTest, evTnot, evTand, evTor, evIfe, oB, FR.fin, evLst, evTup, evDs, evCall, evAs, fetch, unfetch, evNil, truthD, Ow.toD, evTrue, evFldL, evFldAug, evFldSet, evXp, evMethL, evPar, evOs, goAll, tgoName, tgoFld, evStrM, restTok, fld_at, fld_text, hmx, hsum, hsl, hgt, hkw, pIs, isNon, ob, hlen, hsk, hs3]
    · simp [evDef, back, evRet, evRetN, evRetMove, evMove, evSet, evSeq, evIf, evPrim, evPrimT, evOps, evLit, evVar, flatD, R.out, R.bind, evVor, evVand, evVnot, evTest, evTnot, evTand, evTor, evIfe, oB, FR.fin, evLst, evTup, evDs, evCall, evAs, fetch, unfetch, evNil, truthD, Ow.toD, evTrue, evFldL, evFldAug, evFldSet, evXp, evMethL, evPar, evOs, goAll, tgoName, tgoFld, evStrM, restTok, fld_at, fld_text, fld_line, fld_column, hmx, hsum, hsl, hgt, hkw, pIs, isNon, evRaise]
end EV

set_option linter.all false
set_option maxRecDepth 100000
set_option maxHeartbeats 4000000
namespace EV
open PySem PySem.Spec PyProof.Rows L2
/-- what is scanned: the first wrong place | the tokens, the place behind -/
inductive Sc where
  | bad (s : Pl) (acc : List D) | ok (s : Pl) (acc : List D)
def scan (w : List Nat) : Nat → Pl → List D → Option Sc
  | 0, _, _ => none
  | f + 1, s, acc => match w[s.k]? with
    | none => some (.ok s acc)
    | some c0 => if isGap c0 then scan w f (gapNext w s c0) acc else match isNon (kindAt w s.k c0) with
      | some true => some (.bad s acc)
      | _ => scan w f (tokNext w s c0) (acc ++ [tokD w s c0])
theorem line1_pos {w : List Nat} {k : Nat} (h : w[k]? = some 35) : 1 ≤ firstLen w k ∧ k + firstLen w k ≤ w.length := by
  have hk : k < w.length := (List.getElem?_eq_some_iff.mp h).1
  have e : w.drop k = 35 :: w.drop (k + 1) := by
    rw [List.drop_eq_getElem_cons hk]
    congr 1
    exact (List.getElem?_eq_some_iff.mp h).2
  constructor
  · unfold firstLen line1
    rw [e, List.takeWhile_cons]
    simp [evDef, back, evRet, evRetN, evRetMove, evMove, evSet, evSeq, evIf, evPrim, evPrimT, evOps, evLit, evVar, flatD, R.out, R.bind, evVor, evVand, evVnot, evTest, evTnot, evTand, evTor, evIfe, oB, FR.fin, evLst, evTup, evDs, evCall, evAs, fetch, unfetch, evNil, truthD, Ow.toD, evTrue, evFldL, evFldAug, evFldSet, evXp, evMethL, evPar, evOs, goAll, tgoName, tgoFld, evStrM]
  · have : firstLen w k ≤ (w.drop k).length := (List.takeWhile_sublist _).length_le
    rw [List.length_drop] at this
    omega
theorem gap_k {w : List Nat} {s : Pl} {c0 : Nat} (h : w[s.k]? = some c0) (hg : isGap c0 = true) : s.k < (gapNext w s c0).k ∧ (gapNext w s c0).k ≤ w.length := by
  have hk : s.k < w.length := (List.getElem?_eq_some_iff.mp h).1
  unfold gapNext
  split
  · simp [evDef, back, evRet, evRetN, evRetMove, evMove, evSet, evSeq, evIf, evPrim, evPrimT, evOps, evLit, evVar, flatD, R.out, R.bind, evVor, evVand, evVnot, evTest, evTnot, evTand, evTor, evIfe, oB, FR.fin, evLst, evTup, evDs, evCall, evAs, fetch, unfetch, evNil, truthD, Ow.toD, evTrue, evFldL, evFldAug, evFldSet, evXp, evMethL, evPar, evOs, goAll, tgoName, tgoFld, evStrM]; omega
  · split
    · simp [evDef, back, evRet, evRetN, evRetMove, evMove, evSet, evSeq, evIf, evPrim, evPrimT, evOps, evLit, evVar, flatD, R.out, R.bind, evVor, evVand, evVnot, evTest, evTnot, evTand, evTor, evIfe, oB, FR.fin, evLst, evTup, evDs, evCall, evAs, fetch, unfetch, evNil, truthD, Ow.toD, evTrue, evFldL, evFldAug, evFldSet, evXp, evMethL, evPar, evOs, goAll, tgoName, tgoFld, evStrM]; omega
    · split
      · rename_i h35
        subst h35
        have := line1_pos h
        simp [evDef, back, evRet, evRetN, evRetMove, evMove, evSet, evSeq, evIf, evPrim, evPrimT, evOps, evLit, evVar, flatD, R.out, R.bind, evVor, evVand, evVnot, evTest, evTnot, evTand, evTor, evIfe, oB, FR.fin, evLst, evTup, evDs, evCall, evAs, fetch, unfetch, evNil, truthD, Ow.toD, evTrue, evFldL, evFldAug, evFldSet, evXp, evMethL, evPar, evOs, goAll, tgoName, tgoFld, evStrM]; omega
      · rename_i a b c
        simp [evDef, back, evRet, evRetN, evRetMove, evMove, evSet, evSeq, evIf, evPrim, evPrimT, evOps, evLit, evVar, flatD, R.out, R.bind, evVor, evVand, evVnot, evTest, evTnot, evTand, evTor, evIfe, oB, FR.fin, evLst, evTup, evDs, evCall, evAs, fetch, unfetch, evNil, truthD, Ow.toD, evTrue, evFldL, evFldAug, evFldSet, evXp, evMethL, evPar, evOs, goAll, tgoName, tgoFld, evStrM, isGap, a, b, c] at hg
theorem tok_k {w : List Nat} {s : Pl} {c0 : Nat} (h : w[s.k]? = some c0) : s.k < (tokNext w s c0).k ∧ (tokNext w s c0).k ≤ w.length := by
  have hk : s.k < w.length := (List.getElem?_eq_some_iff.mp h).1
  have hrl : (runAt w s.k).length ≤ w.length - s.k := Nat.le_trans (List.takeWhile_sublist _).length_le (by simp [evDef, back, evRet, evRetN, evRetMove, evMove, evSet, evSeq, evIf, evPrim, evPrimT, evOps, evLit, evVar, flatD, R.out, R.bind, evVor, evVand, evVnot, evTest, evTnot, evTand, evTor, evIfe, oB, FR.fin, evLst, evTup, evDs, evCall, evAs, fetch, unfetch, evNil, truthD, Ow.toD, evTrue, evFldL, evFldAug, evFldSet, evXp, evMethL, evPar, evOs, goAll, tgoName, tgoFld, evStrM])
  simp only [tokNext, wordAt]
  split
  · simp [evDef, back, evRet, evRetN, evRetMove, evMove, evSet, evSeq, evIf, evPrim, evPrimT, evOps, evLit, evVar, flatD, R.out, R.bind, evVor, evVand, evVnot, evTest, evTnot, evTand, evTor, evIfe, oB, FR.fin, evLst, evTup, evDs, evCall, evAs, fetch, unfetch, evNil, truthD, Ow.toD, evTrue, evFldL, evFldAug, evFldSet, evXp, evMethL, evPar, evOs, goAll, tgoName, tgoFld, evStrM]; omega
  · rename_i hne
    have : (runAt w s.k).length ≠ 0 := fun e => hne (List.length_eq_zero_iff.mp e)
    omega
/-- enough fuel -/
theorem scan_some {w : List Nat} : ∀ {f : Nat} {s : Pl} {acc : List D}, s.k ≤ w.length → w.length < f + s.k → ∃ r, scan w f s acc = some r
  | 0, s, acc, h1, h2 => by omega
  | f + 1, s, acc, h1, h2 => by
    simp only [scan]
    cases e : w[s.k]? with
    | none => exact ⟨_, rfl⟩
    | some c0 =>
      simp only
      split
      · rename_i hg
        have := gap_k e hg
        exact scan_some this.2 (by omega)
      · have := tok_k e
        split
        · exact ⟨_, rfl⟩
        · exact scan_some this.2 (by omega)
theorem scan_fuel {w : List Nat} : ∀ {f g : Nat} {s : Pl} {acc : List D} {r : Sc}, scan w f s acc = some r → f ≤ g → scan w g s acc = some r
  | 0, g, s, acc, r, h, _ => by cases h
  | f + 1, 0, s, acc, r, h, hg => by omega
  | f + 1, g + 1, s, acc, r, h, hg => by
    simp only [scan] at h ⊢
    cases e : w[s.k]? with
    | none => rw [e] at h; exact h
    | some c0 =>
      rw [e] at h
      simp only at h ⊢
      split at h
      · rename_i hgp
        rw [if_pos hgp]
        exact scan_fuel h (by omega)
      · rename_i hgp
        rw [if_neg hgp]
        split at h
        · exact h
        · exact scan_fuel h (by omega)
abbrev lv (acc : List D) : O := .lst () (acc.map (.v ()))
abbrev envK (w : List Nat) (s : Pl) (acc : List D) : Env := [some (vs (S w)), some (scP w s), some (lv acc)]
def condK (n : Nat) : Et := (evTnot (evTest (evMethL "Scanner" "is_over" (F_Scanner_is_over n) 1 [] [])))
def bodyK (n : Nat) : Es := (evIf (evTnot (evTest (evMethL "Scanner" "pass_gap" (F_Scanner_pass_gap n) 1 [] []))) (evXp (evAppend 2 (evMethL "Scanner" "token" (F_Scanner_token n) 1 [] []))) evNil)
theorem cond_k (n : Nat) (w : List Nat) (s : Pl) (acc : List D) (hz : w.length ≤ sizeLine) : condK n (envK w s acc) = .ok (!decide (s.k = w.length), envK w s acc) := by
  have ob : ∀ {z a l c}, isObj "Scanner" "is_over" (scO z a l c) = true := obj_any _ (.inr (.inl rfl))
  have h := sc_over (z := S w) (a := s.k) (l := s.l) (c := s.c) n (by rw [Str_len]; exact hz)
  have e : decide (((s.k : Nat) : Int) = ((S w).length : Nat)) = decide (s.k = w.length) := decide_eq_decide.mpr (by rw [Str_len]; omega)
  rw [e] at h
  simp [evDef, back, evRet, evRetN, evRetMove, evMove, evSet, evSeq, evIf, evPrim, evPrimT, evOps, evLit, evVar, flatD, R.out, R.bind, evVor, evVand, evVnot, evTest, evTnot, evTand, evTor, evIfe, oB, FR.fin, evLst, evTup, evDs, evCall, evAs, fetch, unfetch, evNil, truthD, Ow.toD, evTrue, evFldL, evFldAug, evFldSet, evXp, evMethL, evPar, evOs, goAll, tgoName, tgoFld, evStrM, condK, ob, h]
theorem body_gap (n : Nat) (w : List Nat) (s : Pl) (acc : List D) (c0 : Nat) (h : w[s.k]? = some c0) (hz : w.length + 2 ≤ sizeLine) (hg : isGap c0 = true) : bodyK n (envK w s acc) = .nx (envK w (gapNext w s c0) acc) := by
  have ob : ∀ {z a l c}, isObj "Scanner" "pass_gap" (scO z a l c) = true := obj_any _ (.inr (.inr (.inl rfl)))
  have h1 := pass_gap n w s c0 h hz
  rw [hg] at h1
  simp [evDef, back, evRet, evRetN, evRetMove, evMove, evSet, evSeq, evIf, evPrim, evPrimT, evOps, evLit, evVar, flatD, R.out, R.bind, evVor, evVand, evVnot, evTest, evTnot, evTand, evTor, evIfe, oB, FR.fin, evLst, evTup, evDs, evCall, evAs, fetch, unfetch, evNil, truthD, Ow.toD, evTrue, evFldL, evFldAug, evFldSet, evXp, evMethL, evPar, evOs, goAll, tgoName, tgoFld, evStrM, bodyK, ob, h1]
theorem body_no (n : Nat) (w : List Nat) (s : Pl) (acc : List D) (c0 : Nat) (h : w[s.k]? = some c0) (hn : w.length < n) (hz : w.length + 2 ≤ sizeLine) (hg : isGap c0 = false) (ha : acc.length < sizeLine) :
    bodyK n (envK w s acc) = match isNon (kindAt w s.k c0) with
      | some true => .exc ⟨"Misread", [("column", .int s.c), ("line", .int s.l)]⟩ (envK w s acc)
      | _ => .nx (envK w (tokNext w s c0) (acc ++ [tokD w s c0])) := by
  have ob : ∀ {z a l c}, isObj "Scanner" "pass_gap" (scO z a l c) = true := obj_any _ (.inr (.inr (.inl rfl)))
  have ob2 : ∀ {z a l c}, isObj "Scanner" "token" (scO z a l c) = true := obj_any _ (.inr (.inr (.inr rfl)))
  have h1 := pass_gap n w s c0 h hz
  have h2 := sc_token n w s c0 h hn hz
  have e : gapNext w s c0 = s := by
    simp only [isGap, Bool.or_eq_false_iff, decide_eq_false_iff_not] at hg
    simp [evDef, back, evRet, evRetN, evRetMove, evMove, evSet, evSeq, evIf, evPrim, evPrimT, evOps, evLit, evVar, flatD, R.out, R.bind, evVor, evVand, evVnot, evTest, evTnot, evTand, evTor, evIfe, oB, FR.fin, evLst, evTup, evDs, evCall, evAs, fetch, unfetch, evNil, truthD, Ow.toD, evTrue, evFldL, evFldAug, evFldSet, evXp, evMethL, evPar, evOs, goAll, tgoName, tgoFld, evStrM, gapNext, hg.1.1, hg.1.2, hg.2]
  rw [hg, e] at h1
  split at h2
  · simp [evDef, back, evRet, evRetN, evRetMove, evMove, evSet, evSeq, evIf, evPrim, evPrimT, evOps, evLit, evVar, flatD, R.out, R.bind, evVor, evVand, evVnot, evTest, evTnot, evTand, evTor, evIfe, oB, FR.fin, evLst, evTup, evDs, evCall, evAs, fetch, unfetch, evNil, truthD, Ow.toD, evTrue, evFldL, evFldAug, evFldSet, evXp, evMethL, evPar, evOs, goAll, tgoName, tgoFld, evStrM, bodyK, ob, ob2, h1, h2, evAppend, *]
  · simp [evDef, back, evRet, evRetN, evRetMove, evMove, evSet, evSeq, evIf, evPrim, evPrimT, evOps, evLit, evVar, flatD, R.out, R.bind, evVor, evVand, evVnot, evTest, evTnot, evTand, evTor, evIfe, oB, FR.fin, evLst, evTup, evDs, evCall, evAs, fetch, unfetch, evNil, truthD, Ow.toD, evTrue, evFldL, evFldAug, evFldSet, evXp, evMethL, evPar, evOs, goAll, tgoName, tgoFld, evStrM, bodyK, ob, ob2, h1, h2, evAppend, ha, *]
end EV

set_option linter.all false
set_option maxRecDepth 100000
set_option maxHeartbeats 4000000
namespace EV
open PySem PySem.Spec PyProof.Rows L2
abbrev misD (s : Pl) : Ex := ⟨"Misread", [("column", .int s.c), ("line", .int s.l)]⟩
theorem loop_k (n : Nat) (w : List Nat) (hn : w.length < n) (hz : w.length + 2 ≤ sizeLine) : ∀ (f : Nat) (s : Pl) (acc : List D) (r : Sc), s.k ≤ w.length → acc.length ≤ s.k → scan w f s acc = some r →
    whileN (condK n) (bodyK n) f (envK w s acc) = match r with | .bad s' acc' => .exc (misD s') (envK w s' acc') | .ok s' acc' => .nx (envK w s' acc')
  | 0, s, acc, r, _, _, h => by cases h
  | f + 1, s, acc, r, hk, ha, h => by
    simp only [whileN, cond_k n w s acc (by omega), R.out]
    simp only [scan] at h
    cases e : w[s.k]? with
    | none =>
      rw [e] at h
      simp only [Option.some.injEq] at h
      subst h
      have : s.k = w.length := by have := List.getElem?_eq_none_iff.mp e; omega
      simp [evDef, back, evRet, evRetN, evRetMove, evMove, evSet, evSeq, evIf, evPrim, evPrimT, evOps, evLit, evVar, flatD, R.out, R.bind, evVor, evVand, evVnot, evTest, evTnot, evTand, evTor, evIfe, oB, FR.fin, evLst, evTup, evDs, evCall, evAs, fetch, unfetch, evNil, truthD, Ow.toD, evTrue, evFldL, evFldAug, evFldSet, evXp, evMethL, evPar, evOs, goAll, tgoName, tgoFld, evStrM, this]
    | some c0 =>
      rw [e] at h
      have hlt : s.k < w.length := (List.getElem?_eq_some_iff.mp e).1
      have hne : (!decide (s.k = w.length)) = true := by simp [evDef, back, evRet, evRetN, evRetMove, evMove, evSet, evSeq, evIf, evPrim, evPrimT, evOps, evLit, evVar, flatD, R.out, R.bind, evVor, evVand, evVnot, evTest, evTnot, evTand, evTor, evIfe, oB, FR.fin, evLst, evTup, evDs, evCall, evAs, fetch, unfetch, evNil, truthD, Ow.toD, evTrue, evFldL, evFldAug, evFldSet, evXp, evMethL, evPar, evOs, goAll, tgoName, tgoFld, evStrM]; omega
      rw [if_pos hne]
      simp only at h
      cases hg : isGap c0 with
      | true =>
        rw [if_pos hg] at h
        have := gap_k e hg
        rw [body_gap n w s acc c0 e hz hg]
        exact loop_k n w hn hz f _ acc r this.2 (by omega) h
      | false =>
        rw [if_neg (by simp [evDef, back, evRet, evRetN, evRetMove, evMove, evSet, evSeq, evIf, evPrim, evPrimT, evOps, evLit, evVar, flatD, R.out, R.bind, evVor, evVand, evVnot, evTest, evTnot, evTand, evTor, evIfe, oB, FR.fin, evLst, evTup, evDs, evCall, evAs, fetch, unfetch, evNil, truthD, Ow.toD, evTrue, evFldL, evFldAug, evFldSet, evXp, evMethL, evPar, evOs, goAll, tgoName, tgoFld, evStrM, hg])] at h
        have hb := body_no n w s acc c0 e hn hz hg (by omega)
        have := tok_k e
        rw [hb]
        cases hi : isNon (kindAt w s.k c0) with
        | some b =>
          cases b with
          | true =>
            rw [hi] at h
            cases h
            rfl
          | false =>
            rw [hi] at h
            exact loop_k n w hn hz f _ _ r this.2 (by rw [List.length_append]; simp [evDef, back, evRet, evRetN, evRetMove, evMove, evSet, evSeq, evIf, evPrim, evPrimT, evOps, evLit, evVar, flatD, R.out, R.bind, evVor, evVand, evVnot, evTest, evTnot, evTand, evTor, evIfe, oB, FR.fin, evLst, evTup, evDs, evCall, evAs, fetch, unfetch, evNil, truthD, Ow.toD, evTrue, evFldL, evFldAug, evFldSet, evXp, evMethL, evPar, evOs, goAll, tgoName, tgoFld, evStrM]; omega) h
        | none =>
          rw [hi] at h
          exact loop_k n w hn hz f _ _ r this.2 (by rw [List.length_append]; simp [evDef, back, evRet, evRetN, evRetMove, evMove, evSet, evSeq, evIf, evPrim, evPrimT, evOps, evLit, evVar, flatD, R.out, R.bind, evVor, evVand, evVnot, evTest, evTnot, evTand, evTor, evIfe, oB, FR.fin, evLst, evTup, evDs, evCall, evAs, fetch, unfetch, evNil, truthD, Ow.toD, evTrue, evFldL, evFldAug, evFldSet, evXp, evMethL, evPar, evOs, goAll, tgoName, tgoFld, evStrM]; omega) h
def endD (s : Pl) : D := .tup [.str "end", .str "", .tup [.int s.l, .int s.c]]
def scan0 (w : List Nat) : Sc := (scan w (w.length + 1) ⟨0, 1, 1⟩ []).getD (.ok ⟨0, 1, 1⟩ [])
theorem scan0_some (w : List Nat) : scan w (w.length + 1) ⟨0, 1, 1⟩ [] = some (scan0 w) := by
  obtain ⟨r, e⟩ := scan_some (w := w) (f := w.length + 1) (s := ⟨0, 1, 1⟩) (acc := []) (Nat.zero_le _) (by simp [evDef, back, evRet, evRetN, evRetMove, evMove, evSet, evSeq, evIf, evPrim, evPrimT, evOps, evLit, evVar, flatD, R.out, R.bind, evVor, evVand, evVnot, evTest, evTnot, evTand, evTor, evIfe, oB, FR.fin, evLst, evTup, evDs, evCall, evAs, fetch, unfetch, evNil, truthD, Ow.toD, evTrue, evFldL, evFldAug, evFldSet, evXp, evMethL, evPar, evOs, goAll, tgoName, tgoFld, evStrM])
  rw [scan0, e]; rfl
theorem scan_k {w : List Nat} : ∀ {f : Nat} {s : Pl} {acc : List D} {s' : Pl} {acc' : List D}, s.k ≤ w.length → acc.length ≤ s.k → scan w f s acc = some (.ok s' acc') → s'.k ≤ w.length ∧ acc'.length ≤ s'.k
  | 0, s, acc, s', acc', _, _, h => by cases h
  | f + 1, s, acc, s', acc', h1, h2, h => by
    simp only [scan] at h
    cases e : w[s.k]? with
    | none =>
      rw [e] at h
      cases h
      exact ⟨h1, h2⟩
    | some c0 =>
      rw [e] at h
      simp only at h
      split at h
      · rename_i hg
        have := gap_k e hg
        exact scan_k this.2 (by omega) h
      · have := tok_k e
        split at h
        · cases h
        · exact scan_k this.2 (by rw [List.length_append]; simp [evDef, back, evRet, evRetN, evRetMove, evMove, evSet, evSeq, evIf, evPrim, evPrimT, evOps, evLit, evVar, flatD, R.out, R.bind, evVor, evVand, evVnot, evTest, evTnot, evTand, evTor, evIfe, oB, FR.fin, evLst, evTup, evDs, evCall, evAs, fetch, unfetch, evNil, truthD, Ow.toD, evTrue, evFldL, evFldAug, evFldSet, evXp, evMethL, evPar, evOs, goAll, tgoName, tgoFld, evStrM]; omega) h
theorem g_tokens_eq (n : Nat) : g_tokens n = (evSeq (evIf (evTnot (evTest (evPrim (pIsi a_str w_str) [.r 0]))) (evRaise "Misread" ["line", "column"] [(evLit (.int 0)), (evLit (.int 0))]) evNil) (evSeq (evPar [(evMake "Scanner" (F_Scanner_init n) [.l 0] []), (evLst [])] [(tgoName 1), (tgoName 2)]) (evSeq (whileN (condK n) (bodyK n) n) (evSeq (evXp (evAppend 2 (evTup [(evLit (.str "end")), (evLit (.str "")), (evTup [(evFldL ["Scanner"] "line" 1), (evFldL ["Scanner"] "column" 1)])]))) (evRet (evPrim pTuple [.r 2])))))) := rfl
theorem tokens_run (n : Nat) (w : List Nat) (hn : w.length < n) (hz : w.length + 2 ≤ sizeLine) :
    F_tokens n [vs (S w)] = match scan0 w with | .bad s _ => .exc (misD s) [some (vs (S w))] | .ok s acc => .ok (.v () (.tup (acc ++ [endD s]))) [some (vs (S w))] := by
  have h := scan_fuel (scan0_some w) (show w.length + 1 ≤ n by omega)
  have hl := loop_k n w hn hz n ⟨0, 1, 1⟩ [] (scan0 w) (Nat.zero_le _) (Nat.zero_le _) h
  have p0 : pIsi a_str w_str [D.str (S w)] = some (.v () (.bl true)) := by
    simp [evDef, back, evRet, evRetN, evRetMove, evMove, evSet, evSeq, evIf, evPrim, evPrimT, evOps, evLit, evVar, flatD, R.out, R.bind, evVor, evVand, evVnot, evTest, evTnot, evTand, evTor, evIfe, oB, FR.fin, evLst, evTup, evDs, evCall, evAs, fetch, unfetch, evNil, truthD, Ow.toD, evTrue, evFldL, evFldAug, evFldSet, evXp, evMethL, evPar, evOs, goAll, tgoName, tgoFld, evStrM, pIsi, isiD, tyN, as_str]
  have hi := sc_init (z := S w) n
  have st : evPar [(evMake "Scanner" (F_Scanner_init n) [.l 0] []), (evLst [])] [(tgoName 1), (tgoName 2)] [some (vs (S w)), none, none] = .nx (envK w ⟨0, 1, 1⟩ []) := by
    simp [evDef, back, evRet, evRetN, evRetMove, evMove, evSet, evSeq, evIf, evPrim, evPrimT, evOps, evLit, evVar, flatD, R.out, R.bind, evVor, evVand, evVnot, evTest, evTnot, evTand, evTor, evIfe, oB, FR.fin, evLst, evTup, evDs, evCall, evAs, fetch, unfetch, evNil, truthD, Ow.toD, evTrue, evFldL, evFldAug, evFldSet, evXp, evMethL, evPar, evOs, goAll, tgoName, tgoFld, evStrM, evMake, hi, FR.mk]
  have e0 : (([vs (S w)].map some ++ List.replicate (3 - [true].length) none) : Env) = [some (vs (S w)), none, none] := rfl
  simp only [F_tokens, evDef, g_tokens_eq]
  rw [if_pos (by rfl), e0]
  have s1 : evIf (evTnot (evTest (evPrim (pIsi a_str w_str) [.r 0]))) (evRaise "Misread" ["line", "column"] [(evLit (.int 0)), (evLit (.int 0))]) evNil [some (vs (S w)), none, none] = .nx [some (vs (S w)), none, none] := by
    simp [evDef, back, evRet, evRetN, evRetMove, evMove, evSet, evSeq, evIf, evPrim, evPrimT, evOps, evLit, evVar, flatD, R.out, R.bind, evVor, evVand, evVnot, evTest, evTnot, evTand, evTor, evIfe, oB, FR.fin, evLst, evTup, evDs, evCall, evAs, fetch, unfetch, evNil, truthD, Ow.toD, evTrue, evFldL, evFldAug, evFldSet, evXp, evMethL, evPar, evOs, goAll, tgoName, tgoFld, evStrM, p0]
  cases hr : scan0 w with
  | bad s acc =>
    rw [hr] at hl
    simp only at hl
    simp only [evSeq, s1, st, hl]
    simp [evDef, back, evRet, evRetN, evRetMove, evMove, evSet, evSeq, evIf, evPrim, evPrimT, evOps, evLit, evVar, flatD, R.out, R.bind, evVor, evVand, evVnot, evTest, evTnot, evTand, evTor, evIfe, oB, FR.fin, evLst, evTup, evDs, evCall, evAs, fetch, unfetch, evNil, truthD, Ow.toD, evTrue, evFldL, evFldAug, evFldSet, evXp, evMethL, evPar, evOs, goAll, tgoName, tgoFld, evStrM]
  | ok s acc =>
    rw [hr] at hl h
    simp only at hl
    have hk := scan_k (Nat.zero_le _) (Nat.zero_le _) h
    simp only [evSeq, s1, st, hl]
    have ha : acc.length + 1 ≤ sizeLine := by omega
    have ha2 : acc.length < sizeLine := by omega
    have h3 : (3 : Nat) ≤ sizeLine := by decide
    have h2 : (2 : Nat) ≤ sizeLine := by decide
    have tp : (topD ∘ Ow.v ()) = (id : D → D) := rfl
    simp [evDef, back, evRet, evRetN, evRetMove, evMove, evSet, evSeq, evIf, evPrim, evPrimT, evOps, evLit, evVar, flatD, R.out, R.bind, evVor, evVand, evVnot, evTest, evTnot, evTand, evTor, evIfe, oB, FR.fin, evLst, evTup, evDs, evCall, evAs, fetch, unfetch, evNil, truthD, Ow.toD, evTrue, evFldL, evFldAug, evFldSet, evXp, evMethL, evPar, evOs, goAll, tgoName, tgoFld, evStrM, fld_line, fld_column, evAppend, ha, ha2, h3, h2, pTuple, endD, toDs_v, tp, newT]
    rfl
end EV

set_option linter.all false
set_option maxRecDepth 100000
set_option maxHeartbeats 4000000
namespace EV
open PySem PySem.Spec PyProof.Rows L2
def LB1 : Es := (evIf (evPrimT (pCmp geI) [.r 4, .e (evPrim pLen [.r 0])]) evBrk evNil)
def LB2 : Es := (evSet 7 (evPrim pIxA [.r 0, .r 4]))
def LB3 : Es := (evIf (evPrimT pEq [.r 7, .e (evLit (.str "#"))]) (evSeq (evSet 8 (evPrim pLen [.e (evPrim pIxA [.e (evStrM (evPrim (pSl true false) [.r 0, .r 4]) [.e (evLit (.str "\n"))] pSplit), .e (evLit (.int 0))])])) (evSeq (evPar [(evPrim pSum [.r 4, .r 8]), (evPrim pSum [.r 3, .r 8])] [(tgoName 4), (tgoName 3)]) evCnt)) evNil)
def LB4 : Es := (evIf (evPrimT pInA [.r 7, .e (evLit (.str " \n"))]) (evSeq (evAsgO (evIfe (evPrimT pEq [.r 7, .e (evLit (.str "\n"))]) (evTup [(evPrim pSum [.r 2, .e (evLit (.int 1))]), (evLit (.int 1))]) (evTup [(evVar 2), (evPrim pSum [.r 3, .e (evLit (.int 1))])])) (tgoFrz (tgTup (tgsCons (tgName 2) (tgsCons (tgName 3) tgsNil))))) (evSeq (evSet 4 (evPrim pSum [.r 4, .e (evLit (.int 1))])) evCnt)) evNil)
def LB5 : Es := (evSet 8 (evLit (.int 1)))
def LB6 : Es := (evIf (evPrimT pInA [.r 7, .r 5]) (evFor (evArgI [(evPrim pLen [.r 0])] kRange1) (tgName 9) (evIf (evTand (evPrimT (pCmp ltI) [.e (evPrim pSum [.r 4, .r 8]), .e (evPrim pLen [.r 0])]) (evPrimT pInA [.e (evPrim pIxA [.r 0, .e (evPrim pSum [.r 4, .r 8])]), .r 5])) (evSet 8 (evPrim pSum [.r 8, .e (evLit (.int 1))])) evNil)) evNil)
def LB7 : Es := (evSet 10 (evPrim (pSl true true) [.r 0, .r 4, .e (evPrim pSum [.r 4, .r 8])]))
def LB8 (n : Nat) : Es := (evSet 11 (evIfe (evPrimT pInA [.r 10, .e (evLst [(evLit (.str "{")), (evLit (.str "}")), (evLit (.str "(")), (evLit (.str ")")), (evLit (.str ",")), (evLit (.str ";")), (evLit (.str ":"))])]) (evLit (.str "sign")) (evIfe (evPrimT pInA [.r 7, .r 5]) (evCall (F__law_kind_of_word n) [.l 10] []) (evLit .non))))
def LB9 : Es := (evIf (evPrimT pIs [.r 11, .e (evLit .non)]) (evRet (evTup [(evLst [(evLit (.str "read")), (evVar 2), (evVar 3)]), (evLit .non)])) evNil)
def LB10 : Es := (evXp (evAppend 1 (evTup [(evVar 11), (evVar 10), (evTup [(evVar 2), (evVar 3)])])))
def LB11 : Es := (evPar [(evPrim pSum [.r 4, .r 8]), (evPrim pSum [.r 3, .r 8])] [(tgoName 4), (tgoName 3)])
abbrev runS : Str := "abcdefghijklmnopqrstuvwxyz0123456789"
abbrev eL (w : List Nat) (s : Pl) (acc : List D) (x6 x7 x8 x9 x10 x11 : Option O) : Env := [some (vs (S w)), some (lv acc), some (iv s.l), some (iv s.c), some (iv s.k), some (vs runS), x6, x7, x8, x9, x10, x11]
section
variable {w : List Nat} {s : Pl} {acc : List D} {x6 x7 x8 x9 x10 x11 : Option O} {c0 : Nat}
theorem len_w (w : List Nat) (hz : w.length ≤ sizeLine) : pLen [.str (S w)] = some (iv (w.length : Nat)) := by
  simp only [pLen, lenD]
  rw [if_pos (by rw [Str_len]; exact hz), Str_len]; rfl
theorem lb1 (hz : w.length ≤ sizeLine) : LB1 (eL w s acc x6 x7 x8 x9 x10 x11) = if w.length ≤ s.k then .brk (eL w s acc x6 x7 x8 x9 x10 x11) else .nx (eL w s acc x6 x7 x8 x9 x10 x11) := by
  have h1 := len_w w hz
  have h2 : pCmp geI [.int s.k, .int (w.length : Nat)] = some (.v () (.bl (decide (w.length ≤ s.k)))) := by
    simp only [pCmp, geI]
    congr 3
    exact decide_eq_decide.mpr (by omega)
  by_cases h : w.length ≤ s.k
  · simp [evDef, back, evRet, evRetN, evRetMove, evMove, evSet, evSeq, evIf, evPrim, evPrimT, evOps, evLit, evVar, flatD, R.out, R.bind, evVor, evVand, evVnot, evTest, evTnot, evTand, evTor, evIfe, oB, FR.fin, evLst, evTup, evDs, evCall, evAs, fetch, unfetch, evNil, truthD, Ow.toD, evTrue, evFldL, evFldAug, evFldSet, evXp, evMethL, evPar, evOs, goAll, tgoName, tgoFld, evStrM, evBrk, evCnt, LB1, h1, h2, h]
  · simp [evDef, back, evRet, evRetN, evRetMove, evMove, evSet, evSeq, evIf, evPrim, evPrimT, evOps, evLit, evVar, flatD, R.out, R.bind, evVor, evVand, evVnot, evTest, evTnot, evTand, evTor, evIfe, oB, FR.fin, evLst, evTup, evDs, evCall, evAs, fetch, unfetch, evNil, truthD, Ow.toD, evTrue, evFldL, evFldAug, evFldSet, evXp, evMethL, evPar, evOs, goAll, tgoName, tgoFld, evStrM, evBrk, evCnt, LB1, h1, h2, h]
theorem lb2 (hz : w.length ≤ sizeLine) (h : w[s.k]? = some c0) : LB2 (eL w s acc x6 x7 x8 x9 x10 x11) = .nx (eL w s acc x6 (some (vs (cc c0))) x8 x9 x10 x11) := by
  have h1 : pIxA [.str (S w), .int s.k] = some (vs (cc c0)) := by simp only [pIxA, at_ix w s.k c0 h hz]; rfl
  simp [evDef, back, evRet, evRetN, evRetMove, evMove, evSet, evSeq, evIf, evPrim, evPrimT, evOps, evLit, evVar, flatD, R.out, R.bind, evVor, evVand, evVnot, evTest, evTnot, evTand, evTor, evIfe, oB, FR.fin, evLst, evTup, evDs, evCall, evAs, fetch, unfetch, evNil, truthD, Ow.toD, evTrue, evFldL, evFldAug, evFldSet, evXp, evMethL, evPar, evOs, goAll, tgoName, tgoFld, evStrM, evBrk, evCnt, LB2, h1]
theorem lb3 (hz : w.length + 2 ≤ sizeLine) (hk : s.k ≤ w.length) : LB3 (eL w s acc x6 (some (vs (cc c0))) x8 x9 x10 x11) = if c0 = 35 then .cnt (eL w ⟨s.k + firstLen w s.k, s.l, s.c + firstLen w s.k⟩ acc x6 (some (vs (cc c0))) (some (iv (firstLen w s.k : Nat))) x9 x10 x11) else .nx (eL w s acc x6 (some (vs (cc c0))) x8 x9 x10 x11) := by
  have h4 : pEq [.str (cc c0), .str "#"] = some (.v () (.bl (decide (c0 = 35)))) := eq_cc c0 35
  obtain ⟨rest, h6, h7⟩ := rest_line w s.k hk hz
  have h8 : pIxA [.lst (strsD (S (line1 w s.k) :: rest)), .int 0] = some (vs (S (line1 w s.k))) := by
    simp [evDef, back, evRet, evRetN, evRetMove, evMove, evSet, evSeq, evIf, evPrim, evPrimT, evOps, evLit, evVar, flatD, R.out, R.bind, evVor, evVand, evVnot, evTest, evTnot, evTand, evTor, evIfe, oB, FR.fin, evLst, evTup, evDs, evCall, evAs, fetch, unfetch, evNil, truthD, Ow.toD, evTrue, evFldL, evFldAug, evFldSet, evXp, evMethL, evPar, evOs, goAll, tgoName, tgoFld, evStrM, evBrk, evCnt, pIxA, ixA, ixD, strsD, atI, ixN]
  have h9 : pLen [.str (S (line1 w s.k))] = some (iv (firstLen w s.k : Nat)) := by
    have : (line1 w s.k).length ≤ w.length := Nat.le_trans (List.takeWhile_sublist _).length_le (by simp [evDef, back, evRet, evRetN, evRetMove, evMove, evSet, evSeq, evIf, evPrim, evPrimT, evOps, evLit, evVar, flatD, R.out, R.bind, evVor, evVand, evVnot, evTest, evTnot, evTand, evTor, evIfe, oB, FR.fin, evLst, evTup, evDs, evCall, evAs, fetch, unfetch, evNil, truthD, Ow.toD, evTrue, evFldL, evFldAug, evFldSet, evXp, evMethL, evPar, evOs, goAll, tgoName, tgoFld, evStrM, evBrk, evCnt])
    exact len_w _ (by omega)
  by_cases h : c0 = 35
  · subst h
    simp [evDef, back, evRet, evRetN, evRetMove, evMove, evSet, evSeq, evIf, evPrim, evPrimT, evOps, evLit, evVar, flatD, R.out, R.bind, evVor, evVand, evVnot, evTest, evTnot, evTand, evTor, evIfe, oB, FR.fin, evLst, evTup, evDs, evCall, evAs, fetch, unfetch, evNil, truthD, Ow.toD, evTrue, evFldL, evFldAug, evFldSet, evXp, evMethL, evPar, evOs, goAll, tgoName, tgoFld, evStrM, evBrk, evCnt, LB3, h4, h6, h7, h8, h9, toD_newL, pSum]
  · simp [evDef, back, evRet, evRetN, evRetMove, evMove, evSet, evSeq, evIf, evPrim, evPrimT, evOps, evLit, evVar, flatD, R.out, R.bind, evVor, evVand, evVnot, evTest, evTnot, evTand, evTor, evIfe, oB, FR.fin, evLst, evTup, evDs, evCall, evAs, fetch, unfetch, evNil, truthD, Ow.toD, evTrue, evFldL, evFldAug, evFldSet, evXp, evMethL, evPar, evOs, goAll, tgoName, tgoFld, evStrM, evBrk, evCnt, LB3, h4, h]
theorem lb4 : LB4 (eL w s acc x6 (some (vs (cc c0))) x8 x9 x10 x11) = if c0 = 10 then .cnt (eL w ⟨s.k + 1, s.l + 1, 1⟩ acc x6 (some (vs (cc c0))) x8 x9 x10 x11) else if c0 = 32 then .cnt (eL w ⟨s.k + 1, s.l, s.c + 1⟩ acc x6 (some (vs (cc c0))) x8 x9 x10 x11) else .nx (eL w s acc x6 (some (vs (cc c0))) x8 x9 x10 x11) := by
  have h2 : pEq [.str (cc c0), .str "\n"] = some (.v () (.bl (decide (c0 = 10)))) := eq_cc c0 10
  have h5 : pInA [.str (cc c0), .str " \n"] = some (.v () (.bl (decide (c0 = 32) || decide (c0 = 10)))) := by
    simp only [pInA, in_one, oB, Option.map_some]
    congr 3
    rw [Bool.eq_iff_iff, show (" \n" : Str).cps.toList = [32, 10] from rfl]
    simp [evDef, back, evRet, evRetN, evRetMove, evMove, evSet, evSeq, evIf, evPrim, evPrimT, evOps, evLit, evVar, flatD, R.out, R.bind, evVor, evVand, evVnot, evTest, evTnot, evTand, evTor, evIfe, oB, FR.fin, evLst, evTup, evDs, evCall, evAs, fetch, unfetch, evNil, truthD, Ow.toD, evTrue, evFldL, evFldAug, evFldSet, evXp, evMethL, evPar, evOs, goAll, tgoName, tgoFld, evStrM, evBrk, evCnt]
  have hs2 : (2 : Nat) ≤ sizeLine := by decide
  by_cases h : c0 = 10
  · subst h
    simp [evDef, back, evRet, evRetN, evRetMove, evMove, evSet, evSeq, evIf, evPrim, evPrimT, evOps, evLit, evVar, flatD, R.out, R.bind, evVor, evVand, evVnot, evTest, evTnot, evTand, evTor, evIfe, oB, FR.fin, evLst, evTup, evDs, evCall, evAs, fetch, unfetch, evNil, truthD, Ow.toD, evTrue, evFldL, evFldAug, evFldSet, evXp, evMethL, evPar, evOs, goAll, tgoName, tgoFld, evStrM, evBrk, evCnt, LB4, h2, h5, hs2, pSum, evAsgO, tgoFrz, tgTup, tgsCons, tgsNil, tgName]
  · by_cases h' : c0 = 32
    · subst h'
      simp [evDef, back, evRet, evRetN, evRetMove, evMove, evSet, evSeq, evIf, evPrim, evPrimT, evOps, evLit, evVar, flatD, R.out, R.bind, evVor, evVand, evVnot, evTest, evTnot, evTand, evTor, evIfe, oB, FR.fin, evLst, evTup, evDs, evCall, evAs, fetch, unfetch, evNil, truthD, Ow.toD, evTrue, evFldL, evFldAug, evFldSet, evXp, evMethL, evPar, evOs, goAll, tgoName, tgoFld, evStrM, evBrk, evCnt, LB4, h2, h5, hs2, pSum, evAsgO, tgoFrz, tgTup, tgsCons, tgsNil, tgName]
    · simp [evDef, back, evRet, evRetN, evRetMove, evMove, evSet, evSeq, evIf, evPrim, evPrimT, evOps, evLit, evVar, flatD, R.out, R.bind, evVor, evVand, evVnot, evTest, evTnot, evTand, evTor, evIfe, oB, FR.fin, evLst, evTup, evDs, evCall, evAs, fetch, unfetch, evNil, truthD, Ow.toD, evTrue, evFldL, evFldAug, evFldSet, evXp, evMethL, evPar, evOs, goAll, tgoName, tgoFld, evStrM, evBrk, evCnt, LB4, h5, h, h']
theorem lb5 : LB5 (eL w s acc x6 x7 x8 x9 x10 x11) = .nx (eL w s acc x6 x7 (some (iv 1)) x9 x10 x11) := by
  simp [evDef, back, evRet, evRetN, evRetMove, evMove, evSet, evSeq, evIf, evPrim, evPrimT, evOps, evLit, evVar, flatD, R.out, R.bind, evVor, evVand, evVnot, evTest, evTnot, evTand, evTor, evIfe, oB, FR.fin, evLst, evTup, evDs, evCall, evAs, fetch, unfetch, evNil, truthD, Ow.toD, evTrue, evFldL, evFldAug, evFldSet, evXp, evMethL, evPar, evOs, goAll, tgoName, tgoFld, evStrM, evBrk, evCnt, LB5]
def inB : Es := (evIf (evTand (evPrimT (pCmp ltI) [.e (evPrim pSum [.r 4, .r 8]), .e (evPrim pLen [.r 0])]) (evPrimT pInA [.e (evPrim pIxA [.r 0, .e (evPrim pSum [.r 4, .r 8])]), .r 5])) (evSet 8 (evPrim pSum [.r 8, .e (evLit (.int 1))])) evNil)
theorem in_b (m : Nat) (hz : w.length ≤ sizeLine) : inB (eL w s acc x6 x7 (some (iv (m : Nat))) x9 x10 x11) = match w.drop (s.k + m) with | [] => .nx (eL w s acc x6 x7 (some (iv (m : Nat))) x9 x10 x11) | c :: _ => if isRun c then .nx (eL w s acc x6 x7 (some (iv ((m + 1 : Nat) : Int))) x9 x10 x11) else .nx (eL w s acc x6 x7 (some (iv (m : Nat))) x9 x10 x11) := by
  have h1 := len_w w hz
  have h2 : pSum [.int s.k, .int m] = some (iv ((s.k + m : Nat) : Int)) := by simp [evDef, back, evRet, evRetN, evRetMove, evMove, evSet, evSeq, evIf, evPrim, evPrimT, evOps, evLit, evVar, flatD, R.out, R.bind, evVor, evVand, evVnot, evTest, evTnot, evTand, evTor, evIfe, oB, FR.fin, evLst, evTup, evDs, evCall, evAs, fetch, unfetch, evNil, truthD, Ow.toD, evTrue, evFldL, evFldAug, evFldSet, evXp, evMethL, evPar, evOs, goAll, tgoName, tgoFld, evStrM, evBrk, evCnt, pSum]
  have h3 : pCmp ltI [.int ((s.k + m : Nat) : Int), .int (w.length : Nat)] = some (.v () (.bl (decide (s.k + m < w.length)))) := by
    simp only [pCmp, ltI]
    congr 3
    exact decide_eq_decide.mpr (by omega)
  have h5 : pSum [.int (m : Nat), .int 1] = some (iv ((m + 1 : Nat) : Int)) := by simp [evDef, back, evRet, evRetN, evRetMove, evMove, evSet, evSeq, evIf, evPrim, evPrimT, evOps, evLit, evVar, flatD, R.out, R.bind, evVor, evVand, evVnot, evTest, evTnot, evTand, evTor, evIfe, oB, FR.fin, evLst, evTup, evDs, evCall, evAs, fetch, unfetch, evNil, truthD, Ow.toD, evTrue, evFldL, evFldAug, evFldSet, evXp, evMethL, evPar, evOs, goAll, tgoName, tgoFld, evStrM, evBrk, evCnt, pSum]
  cases e : w.drop (s.k + m) with
  | nil =>
    have : ¬ s.k + m < w.length := by
      intro hl
      rw [List.drop_eq_getElem_cons hl] at e; cases e
    simp only [inB]
    generalize hq : s.k + m = q at *
    simp [evDef, back, evRet, evRetN, evRetMove, evMove, evSet, evSeq, evIf, evPrim, evPrimT, evOps, evLit, evVar, flatD, R.out, R.bind, evVor, evVand, evVnot, evTest, evTnot, evTand, evTor, evIfe, oB, FR.fin, evLst, evTup, evDs, evCall, evAs, fetch, unfetch, evNil, truthD, Ow.toD, evTrue, evFldL, evFldAug, evFldSet, evXp, evMethL, evPar, evOs, goAll, tgoName, tgoFld, evStrM, evBrk, evCnt, h1, h2, h3, this]
  | cons c u =>
    obtain ⟨e1, e2, _⟩ := drop_cons e
    have h4 : pIxA [.str (S w), .int ((s.k + m : Nat) : Int)] = some (vs (cc c)) := by simp only [pIxA, at_ix w _ c e1 hz]; rfl
    have h6 : pInA [.str (cc c), .str runS] = some (.v () (.bl (isRun c))) := by simp only [pInA, in_one, run2]; rfl
    simp only [inB]
    generalize hq : s.k + m = q at *
    generalize hq2 : ((m + 1 : Nat) : Int) = q2 at *
    cases hr : isRun c with
    | true => simp [evDef, back, evRet, evRetN, evRetMove, evMove, evSet, evSeq, evIf, evPrim, evPrimT, evOps, evLit, evVar, flatD, R.out, R.bind, evVor, evVand, evVnot, evTest, evTnot, evTand, evTor, evIfe, oB, FR.fin, evLst, evTup, evDs, evCall, evAs, fetch, unfetch, evNil, truthD, Ow.toD, evTrue, evFldL, evFldAug, evFldSet, evXp, evMethL, evPar, evOs, goAll, tgoName, tgoFld, evStrM, evBrk, evCnt, h1, h2, h3, e2, h4, h6, hr, h5]
    | false => simp [evDef, back, evRet, evRetN, evRetMove, evMove, evSet, evSeq, evIf, evPrim, evPrimT, evOps, evLit, evVar, flatD, R.out, R.bind, evVor, evVand, evVnot, evTest, evTnot, evTand, evTor, evIfe, oB, FR.fin, evLst, evTup, evDs, evCall, evAs, fetch, unfetch, evNil, truthD, Ow.toD, evTrue, evFldL, evFldAug, evFldSet, evXp, evMethL, evPar, evOs, goAll, tgoName, tgoFld, evStrM, evBrk, evCnt, h1, h2, h3, e2, h4, h6, hr, h5]
theorem in_loop (hz : w.length ≤ sizeLine) : ∀ (ds : List D) (m : Nat) (x9 : Option O), ((w.drop (s.k + m)).takeWhile isRun).length ≤ ds.length → ∃ y9, forD (tgName 9) inB ds (eL w s acc x6 x7 (some (iv (m : Nat))) x9 x10 x11) = .nx (eL w s acc x6 x7 (some (iv ((m + ((w.drop (s.k + m)).takeWhile isRun).length : Nat) : Int))) y9 x10 x11)
  | [], m, x9, h => by
    have : ((w.drop (s.k + m)).takeWhile isRun).length = 0 := by simpa [evDef, back, evRet, evRetN, evRetMove, evMove, evSet, evSeq, evIf, evPrim, evPrimT, evOps, evLit, evVar, flatD, R.out, R.bind, evVor, evVand, evVnot, evTest, evTnot, evTand, evTor, evIfe, oB, FR.fin, evLst, evTup, evDs, evCall, evAs, fetch, unfetch, evNil, truthD, Ow.toD, evTrue, evFldL, evFldAug, evFldSet, evXp, evMethL, evPar, evOs, goAll, tgoName, tgoFld, evStrM, evBrk, evCnt] using h
    exact ⟨x9, by rw [this]; rfl⟩
  | d :: ds, m, x9, h => by
    have e0 : tgName 9 d (eL w s acc x6 x7 (some (iv (m : Nat))) x9 x10 x11) = some (eL w s acc x6 x7 (some (iv (m : Nat))) (some (.v () d)) x10 x11) := rfl
    simp only [forD, e0, in_b m hz]
    cases e : w.drop (s.k + m) with
    | nil =>
      have ih := in_loop hz ds m (some (.v () d)) (by rw [e]; simp [evDef, back, evRet, evRetN, evRetMove, evMove, evSet, evSeq, evIf, evPrim, evPrimT, evOps, evLit, evVar, flatD, R.out, R.bind, evVor, evVand, evVnot, evTest, evTnot, evTand, evTor, evIfe, oB, FR.fin, evLst, evTup, evDs, evCall, evAs, fetch, unfetch, evNil, truthD, Ow.toD, evTrue, evFldL, evFldAug, evFldSet, evXp, evMethL, evPar, evOs, goAll, tgoName, tgoFld, evStrM, evBrk, evCnt])
      rw [e] at ih
      exact ih
    | cons c u =>
      obtain ⟨_, _, e3⟩ := drop_cons e
      rw [e] at h
      cases hr : isRun c with
      | false =>
        have ih := in_loop hz ds m (some (.v () d)) (by rw [e, List.takeWhile_cons, hr]; simp [evDef, back, evRet, evRetN, evRetMove, evMove, evSet, evSeq, evIf, evPrim, evPrimT, evOps, evLit, evVar, flatD, R.out, R.bind, evVor, evVand, evVnot, evTest, evTnot, evTand, evTor, evIfe, oB, FR.fin, evLst, evTup, evDs, evCall, evAs, fetch, unfetch, evNil, truthD, Ow.toD, evTrue, evFldL, evFldAug, evFldSet, evXp, evMethL, evPar, evOs, goAll, tgoName, tgoFld, evStrM, evBrk, evCnt])
        rw [e] at ih
        simpa [evDef, back, evRet, evRetN, evRetMove, evMove, evSet, evSeq, evIf, evPrim, evPrimT, evOps, evLit, evVar, flatD, R.out, R.bind, evVor, evVand, evVnot, evTest, evTnot, evTand, evTor, evIfe, oB, FR.fin, evLst, evTup, evDs, evCall, evAs, fetch, unfetch, evNil, truthD, Ow.toD, evTrue, evFldL, evFldAug, evFldSet, evXp, evMethL, evPar, evOs, goAll, tgoName, tgoFld, evStrM, evBrk, evCnt, List.takeWhile_cons, hr] using ih
      | true =>
        rw [List.takeWhile_cons, hr] at h
        simp only [if_true, List.length_cons] at h
        have e4 : w.drop (s.k + (m + 1)) = u := by rw [← e3]; congr 1
        have ih := in_loop hz ds (m + 1) (some (.v () d)) (by rw [e4]; omega)
        rw [e4] at ih
        have e5 : m + 1 + (u.takeWhile isRun).length = m + ((c :: u).takeWhile isRun).length := by
          rw [List.takeWhile_cons, hr]; simp [evDef, back, evRet, evRetN, evRetMove, evMove, evSet, evSeq, evIf, evPrim, evPrimT, evOps, evLit, evVar, flatD, R.out, R.bind, evVor, evVand, evVnot, evTest, evTnot, evTand, evTor, evIfe, oB, FR.fin, evLst, evTup, evDs, evCall, evAs, fetch, unfetch, evNil, truthD, Ow.toD, evTrue, evFldL, evFldAug, evFldSet, evXp, evMethL, evPar, evOs, goAll, tgoName, tgoFld, evStrM, evBrk, evCnt]; omega
        rw [e5] at ih
        simp only [hr, if_true]
        exact ih
end
end EV

set_option linter.all false
set_option maxRecDepth 100000
set_option maxHeartbeats 4000000
namespace EV
open PySem PySem.Spec PyProof.Rows L2
section
variable {w : List Nat} {s : Pl} {acc : List D} {x6 x7 x8 x9 x10 x11 : Option O} {c0 : Nat}
theorem okR_len {k : Nat} (hz : k ≤ sizeLine) : okR (k : Int) = true := by
  have : sizeLine < 2 ^ 62 := by decide
  simp only [okR, decide_eq_true_eq]
  omega
theorem range1_len {k : Nat} (hz : k ≤ sizeLine) : kRange1 [.int (k : Int)] = some (rngD 0 k) := by
  have ho := okR_len hz
  unfold kRange1
  simp only
  rw [if_pos ho]
  rfl
theorem for_r {it : EvI} {t : Tg} {b : Es} {env e : Env} {ds : List D} (h : it env = .ok (ds, e)) : evFor it t b env = forD t b ds e := by
  simp only [evFor, h, R.out]
theorem it_a {f : Ev} {k : List D → Option (List D)} {env e : Env} {o : O} {ds : List D} (h : f env = .ok (o, e)) (hk : k [o.toD] = some ds) : evArgI [f] k env = .ok (ds, e) := by
  simp only [evArgI, evDs, h, R.bind, hk]
theorem drop_at (h : w[s.k]? = some c0) : w.drop s.k = c0 :: w.drop (s.k + 1) := by
  have hk : s.k < w.length := (List.getElem?_eq_some_iff.mp h).1
  rw [List.drop_eq_getElem_cons hk]
  congr 1
  exact (List.getElem?_eq_some_iff.mp h).2
theorem g_lb6 : LB6 = evIf (evPrimT pInA [.r 7, .r 5]) (evFor (evArgI [(evPrim pLen [.r 0])] kRange1) (tgName 9) inB) evNil := rfl
theorem lb6 (hz : w.length + 2 ≤ sizeLine) (h : w[s.k]? = some c0) : ∃ y9, LB6 (eL w s acc x6 (some (vs (cc c0))) (some (iv 1)) x9 x10 x11) = .nx (eL w s acc x6 (some (vs (cc c0))) (some (iv ((wordAt w s.k c0).length : Nat))) y9 x10 x11) := by
  have h6 : pInA [.str (cc c0), .str runS] = some (.v () (.bl (isRun c0))) := by simp only [pInA, in_one, run2]; rfl
  have h1 := len_w w (by omega)
  have e0 := drop_at h
  cases hr : isRun c0 with
  | false =>
    have hn := (run_nil h).mpr hr
    have hw : wordAt w s.k c0 = [c0] := by simp [evDef, back, evRet, evRetN, evRetMove, evMove, evSet, evSeq, evIf, evPrim, evPrimT, evOps, evLit, evVar, flatD, R.out, R.bind, evVor, evVand, evVnot, evTest, evTnot, evTand, evTor, evIfe, oB, FR.fin, evLst, evTup, evDs, evCall, evAs, fetch, unfetch, evNil, truthD, Ow.toD, evTrue, evFldL, evFldAug, evFldSet, evXp, evMethL, evPar, evOs, goAll, tgoName, tgoFld, evStrM, evBrk, evCnt, wordAt, hn]
    rw [hr] at h6
    exact ⟨x9, by simp [evDef, back, evRet, evRetN, evRetMove, evMove, evSet, evSeq, evIf, evPrim, evPrimT, evOps, evLit, evVar, flatD, R.out, R.bind, evVor, evVand, evVnot, evTest, evTnot, evTand, evTor, evIfe, oB, FR.fin, evLst, evTup, evDs, evCall, evAs, fetch, unfetch, evNil, truthD, Ow.toD, evTrue, evFldL, evFldAug, evFldSet, evXp, evMethL, evPar, evOs, goAll, tgoName, tgoFld, evStrM, evBrk, evCnt, g_lb6, h6, hw]⟩
  | true =>
    have hne : runAt w s.k ≠ [] := fun e => by rw [run_nil h, hr] at e; cases e
    have hw : wordAt w s.k c0 = runAt w s.k := by simp [evDef, back, evRet, evRetN, evRetMove, evMove, evSet, evSeq, evIf, evPrim, evPrimT, evOps, evLit, evVar, flatD, R.out, R.bind, evVor, evVand, evVnot, evTest, evTnot, evTand, evTor, evIfe, oB, FR.fin, evLst, evTup, evDs, evCall, evAs, fetch, unfetch, evNil, truthD, Ow.toD, evTrue, evFldL, evFldAug, evFldSet, evXp, evMethL, evPar, evOs, goAll, tgoName, tgoFld, evStrM, evBrk, evCnt, wordAt, hne]
    have hR : runAt w s.k = c0 :: (w.drop (s.k + 1)).takeWhile isRun := by
      unfold runAt
      rw [e0, List.takeWhile_cons, hr]; rfl
    have hk : s.k < w.length := (List.getElem?_eq_some_iff.mp h).1
    have hll : (rngD 0 w.length).length = w.length := by simp [evDef, back, evRet, evRetN, evRetMove, evMove, evSet, evSeq, evIf, evPrim, evPrimT, evOps, evLit, evVar, flatD, R.out, R.bind, evVor, evVand, evVnot, evTest, evTnot, evTand, evTor, evIfe, oB, FR.fin, evLst, evTup, evDs, evCall, evAs, fetch, unfetch, evNil, truthD, Ow.toD, evTrue, evFldL, evFldAug, evFldSet, evXp, evMethL, evPar, evOs, goAll, tgoName, tgoFld, evStrM, evBrk, evCnt, rngD]
    obtain ⟨y9, hy⟩ := in_loop (w := w) (s := s) (acc := acc) (x6 := x6) (x7 := some (vs (cc c0))) (x10 := x10) (x11 := x11) (by omega) (rngD 0 w.length) 1 x9 (by
      rw [hll]
      exact Nat.le_trans (List.takeWhile_sublist _).length_le (by simp [evDef, back, evRet, evRetN, evRetMove, evMove, evSet, evSeq, evIf, evPrim, evPrimT, evOps, evLit, evVar, flatD, R.out, R.bind, evVor, evVand, evVnot, evTest, evTnot, evTand, evTor, evIfe, oB, FR.fin, evLst, evTup, evDs, evCall, evAs, fetch, unfetch, evNil, truthD, Ow.toD, evTrue, evFldL, evFldAug, evFldSet, evXp, evMethL, evPar, evOs, goAll, tgoName, tgoFld, evStrM, evBrk, evCnt]))
    refine ⟨y9, ?_⟩
    have e5 : 1 + ((w.drop (s.k + 1)).takeWhile isRun).length = (wordAt w s.k c0).length := by rw [hw, hR]; simp [evDef, back, evRet, evRetN, evRetMove, evMove, evSet, evSeq, evIf, evPrim, evPrimT, evOps, evLit, evVar, flatD, R.out, R.bind, evVor, evVand, evVnot, evTest, evTnot, evTand, evTor, evIfe, oB, FR.fin, evLst, evTup, evDs, evCall, evAs, fetch, unfetch, evNil, truthD, Ow.toD, evTrue, evFldL, evFldAug, evFldSet, evXp, evMethL, evPar, evOs, goAll, tgoName, tgoFld, evStrM, evBrk, evCnt]; omega
    rw [e5] at hy
    rw [hr] at h6
    have hlen : evPrim pLen [.r 0] (eL w s acc x6 (some (vs (cc c0))) (some (iv 1)) x9 x10 x11) = .ok (iv (w.length : Nat), eL w s acc x6 (some (vs (cc c0))) (some (iv 1)) x9 x10 x11) := by
      simp [evDef, back, evRet, evRetN, evRetMove, evMove, evSet, evSeq, evIf, evPrim, evPrimT, evOps, evLit, evVar, flatD, R.out, R.bind, evVor, evVand, evVnot, evTest, evTnot, evTand, evTor, evIfe, oB, FR.fin, evLst, evTup, evDs, evCall, evAs, fetch, unfetch, evNil, truthD, Ow.toD, evTrue, evFldL, evFldAug, evFldSet, evXp, evMethL, evPar, evOs, goAll, tgoName, tgoFld, evStrM, evBrk, evCnt, h1]
    have hin : evPrimT pInA [.r 7, .r 5] (eL w s acc x6 (some (vs (cc c0))) (some (iv 1)) x9 x10 x11) = .ok (true, eL w s acc x6 (some (vs (cc c0))) (some (iv 1)) x9 x10 x11) := by
      simp [evDef, back, evRet, evRetN, evRetMove, evMove, evSet, evSeq, evIf, evPrim, evPrimT, evOps, evLit, evVar, flatD, R.out, R.bind, evVor, evVand, evVnot, evTest, evTnot, evTand, evTor, evIfe, oB, FR.fin, evLst, evTup, evDs, evCall, evAs, fetch, unfetch, evNil, truthD, Ow.toD, evTrue, evFldL, evFldAug, evFldSet, evXp, evMethL, evPar, evOs, goAll, tgoName, tgoFld, evStrM, evBrk, evCnt, h6]
    have hf := for_r (t := tgName 9) (b := inB) (it_a hlen (range1_len (show w.length ≤ sizeLine by omega)))
    simp only [g_lb6, evIf, hin, R.out, if_true, hf]
    exact hy
theorem word_len (h : w[s.k]? = some c0) : 1 ≤ (wordAt w s.k c0).length ∧ s.k + (wordAt w s.k c0).length ≤ w.length := by
  have hk : s.k < w.length := (List.getElem?_eq_some_iff.mp h).1
  have := tok_k h
  simp only [tokNext] at this
  omega
theorem lb7 (hz : w.length + 2 ≤ sizeLine) (h : w[s.k]? = some c0) : LB7 (eL w s acc x6 x7 (some (iv ((wordAt w s.k c0).length : Nat))) x9 x10 x11) = .nx (eL w s acc x6 x7 (some (iv ((wordAt w s.k c0).length : Nat))) x9 (some (vs (S (wordAt w s.k c0)))) x11) := by
  have hwl := word_len h
  have hsl : pSl true true [.str (S w), .int s.k, .int ((s.k + (wordAt w s.k c0).length : Nat) : Int)] = some (vs (S (wordAt w s.k c0))) := by
    simp only [pSl, slD]
    rw [if_pos (by rw [Str_len]; omega), slice_at w s.k _ hwl.2]
    congr 4
    unfold wordAt
    split
    · rw [drop_at h]; rfl
    · exact take_takeW _
  have hsum : pSum [.int s.k, .int ((wordAt w s.k c0).length : Nat)] = some (iv ((s.k + (wordAt w s.k c0).length : Nat) : Int)) := by simp [evDef, back, evRet, evRetN, evRetMove, evMove, evSet, evSeq, evIf, evPrim, evPrimT, evOps, evLit, evVar, flatD, R.out, R.bind, evVor, evVand, evVnot, evTest, evTnot, evTand, evTor, evIfe, oB, FR.fin, evLst, evTup, evDs, evCall, evAs, fetch, unfetch, evNil, truthD, Ow.toD, evTrue, evFldL, evFldAug, evFldSet, evXp, evMethL, evPar, evOs, goAll, tgoName, tgoFld, evStrM, evBrk, evCnt, pSum]
  generalize wordAt w s.k c0 = wd at *
  generalize hq : ((s.k + wd.length : Nat) : Int) = q0 at hsl hsum
  simp [evDef, back, evRet, evRetN, evRetMove, evMove, evSet, evSeq, evIf, evPrim, evPrimT, evOps, evLit, evVar, flatD, R.out, R.bind, evVor, evVand, evVnot, evTest, evTnot, evTand, evTor, evIfe, oB, FR.fin, evLst, evTup, evDs, evCall, evAs, fetch, unfetch, evNil, truthD, Ow.toD, evTrue, evFldL, evFldAug, evFldSet, evXp, evMethL, evPar, evOs, goAll, tgoName, tgoFld, evStrM, evBrk, evCnt, LB7, hsum, hsl]
theorem run_all (k : Nat) : (runAt w k).all isRun = true := by
  unfold runAt
  exact List.all_takeWhile
theorem run_small {c : Nat} (h : isRun c = true) : c < 1114112 := by
  have h2 : ∀ x ∈ runS.cps.toList, x < 1114112 := by decide +kernel
  rw [← run2] at h
  exact h2 c (of_decide_eq_true h)
theorem mem_signs {z : Str} (h : inV (.str z) signsV = true) : z = "{" ∨ z = "}" ∨ z = "(" ∨ z = ")" ∨ z = "," ∨ z = ";" ∨ z = ":" := by
  simp only [inV, signsV, List.any_cons, List.any_nil, eqV, Bool.or_eq_true, Bool.or_false, beq_iff_eq] at h
  rcases h with h | h | h | h | h | h | h <;> simp [evDef, back, evRet, evRetN, evRetMove, evMove, evSet, evSeq, evIf, evPrim, evPrimT, evOps, evLit, evVar, flatD, R.out, R.bind, evVor, evVand, evVnot, evTest, evTnot, evTand, evTor, evIfe, oB, FR.fin, evLst, evTup, evDs, evCall, evAs, fetch, unfetch, evNil, truthD, Ow.toD, evTrue, evFldL, evFldAug, evFldSet, evXp, evMethL, evPar, evOs, goAll, tgoName, tgoFld, evStrM, evBrk, evCnt, ← h]
theorem run_no {u : List Nat} (hne : u ≠ []) (h : u.all isRun = true) : inV (.str (S u)) signsV = false := by
  cases e : inV (.str (S u)) signsV with
  | false => rfl
  | true =>
    have hx : ∀ c : Nat, S u = cc c → isRun c = false → False := fun c e1 e2 => by
      have : u = [c] := str_inj.mp e1
      rw [this] at h
      simp [evDef, back, evRet, evRetN, evRetMove, evMove, evSet, evSeq, evIf, evPrim, evPrimT, evOps, evLit, evVar, flatD, R.out, R.bind, evVor, evVand, evVnot, evTest, evTnot, evTand, evTor, evIfe, oB, FR.fin, evLst, evTup, evDs, evCall, evAs, fetch, unfetch, evNil, truthD, Ow.toD, evTrue, evFldL, evFldAug, evFldSet, evXp, evMethL, evPar, evOs, goAll, tgoName, tgoFld, evStrM, evBrk, evCnt, e2] at h
    rcases mem_signs e with e | e | e | e | e | e | e
    · exact (hx 123 e (by decide +kernel)).elim
    · exact (hx 125 e (by decide +kernel)).elim
    · exact (hx 40 e (by decide +kernel)).elim
    · exact (hx 41 e (by decide +kernel)).elim
    · exact (hx 44 e (by decide +kernel)).elim
    · exact (hx 59 e (by decide +kernel)).elim
    · exact (hx 58 e (by decide +kernel)).elim
theorem lb8 (n : Nat) (hz : w.length + 2 ≤ sizeLine) (h : w[s.k]? = some c0) : LB8 n (eL w s acc x6 (some (vs (cc c0))) x8 x9 (some (vs (S (wordAt w s.k c0)))) x11) = .nx (eL w s acc x6 (some (vs (cc c0))) x8 x9 (some (vs (S (wordAt w s.k c0)))) (some (.v () (kindAt w s.k c0)))) := by
  have h6 : pInA [.str (cc c0), .str runS] = some (.v () (.bl (isRun c0))) := by simp only [pInA, in_one, run2]; rfl
  have h7 : pInA [.str (S (wordAt w s.k c0)), .lst [.str "{", .str "}", .str "(", .str ")", .str ",", .str ";", .str ":"]] = some (.v () (.bl (inV (.str (S (wordAt w s.k c0))) signsV))) := rfl
  have hs7 : (7 : Nat) ≤ sizeLine := by decide
  cases hr : isRun c0 with
  | false =>
    have hn := (run_nil h).mpr hr
    have hw : wordAt w s.k c0 = [c0] := by simp [evDef, back, evRet, evRetN, evRetMove, evMove, evSet, evSeq, evIf, evPrim, evPrimT, evOps, evLit, evVar, flatD, R.out, R.bind, evVor, evVand, evVnot, evTest, evTnot, evTand, evTor, evIfe, oB, FR.fin, evLst, evTup, evDs, evCall, evAs, fetch, unfetch, evNil, truthD, Ow.toD, evTrue, evFldL, evFldAug, evFldSet, evXp, evMethL, evPar, evOs, goAll, tgoName, tgoFld, evStrM, evBrk, evCnt, wordAt, hn]
    have hkd : kindAt w s.k c0 = (if inV (.str (cc c0)) signsV then .str "sign" else .non) := by simp [evDef, back, evRet, evRetN, evRetMove, evMove, evSet, evSeq, evIf, evPrim, evPrimT, evOps, evLit, evVar, flatD, R.out, R.bind, evVor, evVand, evVnot, evTest, evTnot, evTand, evTor, evIfe, oB, FR.fin, evLst, evTup, evDs, evCall, evAs, fetch, unfetch, evNil, truthD, Ow.toD, evTrue, evFldL, evFldAug, evFldSet, evXp, evMethL, evPar, evOs, goAll, tgoName, tgoFld, evStrM, evBrk, evCnt, kindAt, hn]
    rw [hr] at h6
    rw [hw] at h7 ⊢
    rw [hkd]
    cases hb : inV (.str (cc c0)) signsV with
    | true =>
      rw [hb] at h7
      simp [evDef, back, evRet, evRetN, evRetMove, evMove, evSet, evSeq, evIf, evPrim, evPrimT, evOps, evLit, evVar, flatD, R.out, R.bind, evVor, evVand, evVnot, evTest, evTnot, evTand, evTor, evIfe, oB, FR.fin, evLst, evTup, evDs, evCall, evAs, fetch, unfetch, evNil, truthD, Ow.toD, evTrue, evFldL, evFldAug, evFldSet, evXp, evMethL, evPar, evOs, goAll, tgoName, tgoFld, evStrM, evBrk, evCnt, LB8, Ow.toDs, hs7, h7]
    | false =>
      rw [hb] at h7
      simp [evDef, back, evRet, evRetN, evRetMove, evMove, evSet, evSeq, evIf, evPrim, evPrimT, evOps, evLit, evVar, flatD, R.out, R.bind, evVor, evVand, evVnot, evTest, evTnot, evTand, evTor, evIfe, oB, FR.fin, evLst, evTup, evDs, evCall, evAs, fetch, unfetch, evNil, truthD, Ow.toD, evTrue, evFldL, evFldAug, evFldSet, evXp, evMethL, evPar, evOs, goAll, tgoName, tgoFld, evStrM, evBrk, evCnt, LB8, Ow.toDs, hs7, h7, h6]
  | true =>
    have hne : runAt w s.k ≠ [] := fun e => by rw [run_nil h, hr] at e; cases e
    have hw : wordAt w s.k c0 = runAt w s.k := by simp [evDef, back, evRet, evRetN, evRetMove, evMove, evSet, evSeq, evIf, evPrim, evPrimT, evOps, evLit, evVar, flatD, R.out, R.bind, evVor, evVand, evVnot, evTest, evTnot, evTand, evTor, evIfe, oB, FR.fin, evLst, evTup, evDs, evCall, evAs, fetch, unfetch, evNil, truthD, Ow.toD, evTrue, evFldL, evFldAug, evFldSet, evXp, evMethL, evPar, evOs, goAll, tgoName, tgoFld, evStrM, evBrk, evCnt, wordAt, hne]
    have hkd : kindAt w s.k c0 = kindW (runAt w s.k) := by simp [evDef, back, evRet, evRetN, evRetMove, evMove, evSet, evSeq, evIf, evPrim, evPrimT, evOps, evLit, evVar, flatD, R.out, R.bind, evVor, evVand, evVnot, evTest, evTnot, evTand, evTor, evIfe, oB, FR.fin, evLst, evTup, evDs, evCall, evAs, fetch, unfetch, evNil, truthD, Ow.toD, evTrue, evFldL, evFldAug, evFldSet, evXp, evMethL, evPar, evOs, goAll, tgoName, tgoFld, evStrM, evBrk, evCnt, kindAt, hne]
    have hrl : (runAt w s.k).length ≤ w.length - s.k := Nat.le_trans (List.takeWhile_sublist _).length_le (by simp [evDef, back, evRet, evRetN, evRetMove, evMove, evSet, evSeq, evIf, evPrim, evPrimT, evOps, evLit, evVar, flatD, R.out, R.bind, evVor, evVand, evVnot, evTest, evTnot, evTand, evTor, evIfe, oB, FR.fin, evLst, evTup, evDs, evCall, evAs, fetch, unfetch, evNil, truthD, Ow.toD, evTrue, evFldL, evFldAug, evFldSet, evXp, evMethL, evPar, evOs, goAll, tgoName, tgoFld, evStrM, evBrk, evCnt])
    have hlk := law_kind n (runAt w s.k) hne (by omega) (run_all s.k) (fun c hc => run_small (List.all_eq_true.mp (run_all s.k) c hc))
    have hno := run_no hne (run_all s.k)
    rw [hr] at h6
    rw [hw] at h7 ⊢
    rw [hkd]
    rw [hno] at h7
    simp [evDef, back, evRet, evRetN, evRetMove, evMove, evSet, evSeq, evIf, evPrim, evPrimT, evOps, evLit, evVar, flatD, R.out, R.bind, evVor, evVand, evVnot, evTest, evTnot, evTand, evTor, evIfe, oB, FR.fin, evLst, evTup, evDs, evCall, evAs, fetch, unfetch, evNil, truthD, Ow.toD, evTrue, evFldL, evFldAug, evFldSet, evXp, evMethL, evPar, evOs, goAll, tgoName, tgoFld, evStrM, evBrk, evCnt, LB8, Ow.toDs, hs7, h7, h6, hlk]
def badDue (s : Pl) : D := .tup [.lst [.str "read", .int s.l, .int s.c], .non]
theorem lb9 {kd : D} : LB9 (eL w s acc x6 x7 x8 x9 x10 (some (.v () kd))) = match isNon kd with | some true => .ret (.v () (badDue s)) (eL w s acc x6 x7 x8 x9 x10 (some (.v () kd))) | some false => .nx (eL w s acc x6 x7 x8 x9 x10 (some (.v () kd))) | none => .bad := by
  have hs2 : (2 : Nat) ≤ sizeLine := by decide
  have hs3 : (3 : Nat) ≤ sizeLine := by decide
  have hp : pIs [kd, .non] = oB (isNon kd) := by cases kd <;> rfl
  cases e : isNon kd with
  | none => rw [e] at hp; simp [evDef, back, evRet, evRetN, evRetMove, evMove, evSet, evSeq, evIf, evPrim, evPrimT, evOps, evLit, evVar, flatD, R.out, R.bind, evVor, evVand, evVnot, evTest, evTnot, evTand, evTor, evIfe, oB, FR.fin, evLst, evTup, evDs, evCall, evAs, fetch, unfetch, evNil, truthD, Ow.toD, evTrue, evFldL, evFldAug, evFldSet, evXp, evMethL, evPar, evOs, goAll, tgoName, tgoFld, evStrM, evBrk, evCnt, LB9, hp]
  | some b =>
    rw [e] at hp
    cases b with
    | true => simp [evDef, back, evRet, evRetN, evRetMove, evMove, evSet, evSeq, evIf, evPrim, evPrimT, evOps, evLit, evVar, flatD, R.out, R.bind, evVor, evVand, evVnot, evTest, evTnot, evTand, evTor, evIfe, oB, FR.fin, evLst, evTup, evDs, evCall, evAs, fetch, unfetch, evNil, truthD, Ow.toD, evTrue, evFldL, evFldAug, evFldSet, evXp, evMethL, evPar, evOs, goAll, tgoName, tgoFld, evStrM, evBrk, evCnt, LB9, hp, hs2, hs3, badDue, Ow.toDs]
    | false => simp [evDef, back, evRet, evRetN, evRetMove, evMove, evSet, evSeq, evIf, evPrim, evPrimT, evOps, evLit, evVar, flatD, R.out, R.bind, evVor, evVand, evVnot, evTest, evTnot, evTand, evTor, evIfe, oB, FR.fin, evLst, evTup, evDs, evCall, evAs, fetch, unfetch, evNil, truthD, Ow.toD, evTrue, evFldL, evFldAug, evFldSet, evXp, evMethL, evPar, evOs, goAll, tgoName, tgoFld, evStrM, evBrk, evCnt, LB9, hp]
theorem kind_any {k : Nat} : isNon (kindAt w k c0) = some true ∧ kindAt w k c0 = .non ∨ isNon (kindAt w k c0) = some false := by
  unfold kindAt kindW
  split
  · split
    · exact .inr rfl
    · exact .inl ⟨rfl, rfl⟩
  · split
    · exact .inr rfl
    · split
      · split
        · exact .inr rfl
        · exact .inl ⟨rfl, rfl⟩
      · split
        · exact .inr rfl
        · exact .inl ⟨rfl, rfl⟩
theorem lb10 {kd : D} {z : Str} (ha : acc.length < sizeLine) : LB10 (eL w s acc x6 x7 x8 x9 (some (vs z)) (some (.v () kd))) = .nx (eL w s (acc ++ [.tup [kd, .str z, .tup [.int s.l, .int s.c]]]) x6 x7 x8 x9 (some (vs z)) (some (.v () kd))) := by
  have hs2 : (2 : Nat) ≤ sizeLine := by decide
  have hs3 : (3 : Nat) ≤ sizeLine := by decide
  simp [evDef, back, evRet, evRetN, evRetMove, evMove, evSet, evSeq, evIf, evPrim, evPrimT, evOps, evLit, evVar, flatD, R.out, R.bind, evVor, evVand, evVnot, evTest, evTnot, evTand, evTor, evIfe, oB, FR.fin, evLst, evTup, evDs, evCall, evAs, fetch, unfetch, evNil, truthD, Ow.toD, evTrue, evFldL, evFldAug, evFldSet, evXp, evMethL, evPar, evOs, goAll, tgoName, tgoFld, evStrM, evBrk, evCnt, LB10, evAppend, ha, hs2, hs3]
theorem lb11 {m : Nat} : LB11 (eL w s acc x6 x7 (some (iv (m : Nat))) x9 x10 x11) = .nx (eL w ⟨s.k + m, s.l, s.c + m⟩ acc x6 x7 (some (iv (m : Nat))) x9 x10 x11) := by
  simp [evDef, back, evRet, evRetN, evRetMove, evMove, evSet, evSeq, evIf, evPrim, evPrimT, evOps, evLit, evVar, flatD, R.out, R.bind, evVor, evVand, evVnot, evTest, evTnot, evTand, evTor, evIfe, oB, FR.fin, evLst, evTup, evDs, evCall, evAs, fetch, unfetch, evNil, truthD, Ow.toD, evTrue, evFldL, evFldAug, evFldSet, evXp, evMethL, evPar, evOs, goAll, tgoName, tgoFld, evStrM, evBrk, evCnt, LB11, pSum]
end
def LB (n : Nat) : Es := evSeq LB1 (evSeq LB2 (evSeq LB3 (evSeq LB4 (evSeq LB5 (evSeq LB6 (evSeq LB7 (evSeq (LB8 n) (evSeq LB9 (evSeq LB10 LB11)))))))))
theorem g_due (n : Nat) : g__law_due n = (evSeq (evPar [(evLst []), (evLit (.int 1)), (evLit (.int 1)), (evLit (.int 0)), (evLit (.str "abcdefghijklmnopqrstuvwxyz0123456789"))] [(tgoName 1), (tgoName 2), (tgoName 3), (tgoName 4), (tgoName 5)]) (evSeq (evFor (evArgI [(evPrim pSum [.e (evPrim pLen [.r 0]), .e (evLit (.int 1))])] kRange1) (tgName 6) (LB n)) (evRet (evTup [(evLit .non), (evPrim pTuple [.e (evPrim pSum [.r 1, .e (evLst [(evTup [(evLit (.str "end")), (evLit (.str "")), (evTup [(evVar 2), (evVar 3)])])])])])])))) := rfl
def isE (w : List Nat) (s : Pl) (acc : List D) (e : Env) : Prop := ∃ x6 x7 x8 x9 x10 x11, e = eL w s acc x6 x7 x8 x9 x10 x11
theorem turn_end {w : List Nat} {s : Pl} {acc : List D} {e : Env} (n : Nat) (hz : w.length + 2 ≤ sizeLine) (he : isE w s acc e) (h : w.length ≤ s.k) : LB n e = .brk e := by
  obtain ⟨x6, x7, x8, x9, x10, x11, rfl⟩ := he
  simp only [LB, evSeq, lb1 (show w.length ≤ sizeLine by omega), h, if_true]
theorem turn_gap {w : List Nat} {s : Pl} {acc : List D} {e : Env} {c0 : Nat} (n : Nat) (hz : w.length + 2 ≤ sizeLine) (he : isE w s acc e) (h : w[s.k]? = some c0) (hg : isGap c0 = true) : ∃ e', isE w (gapNext w s c0) acc e' ∧ LB n e = .cnt e' := by
  obtain ⟨x6, x7, x8, x9, x10, x11, rfl⟩ := he
  have hk : s.k < w.length := (List.getElem?_eq_some_iff.mp h).1
  have hk' : ¬ w.length ≤ s.k := by omega
  simp only [LB, evSeq, lb1 (show w.length ≤ sizeLine by omega), hk', if_false, lb2 (show w.length ≤ sizeLine by omega) h, lb3 hz (show s.k ≤ w.length by omega)]
  simp only [isGap, Bool.or_eq_true, decide_eq_true_eq] at hg
  rcases hg with (rfl | rfl) | rfl
  · refine ⟨eL w ⟨s.k + 1, s.l + 1, 1⟩ acc x6 (some (vs (cc 10))) x8 x9 x10 x11, ⟨_, _, _, _, _, _, rfl⟩, ?_⟩
    rw [if_neg (by decide)]
    simp only [lb4, if_true]
  · refine ⟨eL w ⟨s.k + 1, s.l, s.c + 1⟩ acc x6 (some (vs (cc 32))) x8 x9 x10 x11, ⟨_, _, _, _, _, _, rfl⟩, ?_⟩
    rw [if_neg (by decide)]
    simp only [lb4, if_true]
    rw [if_neg (by decide)]
  · refine ⟨eL w ⟨s.k + firstLen w s.k, s.l, s.c + firstLen w s.k⟩ acc x6 (some (vs (cc 35))) (some (iv (firstLen w s.k : Nat))) x9 x10 x11, ⟨_, _, _, _, _, _, rfl⟩, ?_⟩
    rw [if_pos rfl]
theorem turn_tok {w : List Nat} {s : Pl} {acc : List D} {e : Env} {c0 : Nat} (n : Nat) (hz : w.length + 2 ≤ sizeLine) (ha : acc.length < sizeLine) (he : isE w s acc e) (h : w[s.k]? = some c0) (hg : isGap c0 = false) :
    (isNon (kindAt w s.k c0) = some true ∧ ∃ e', isE w s acc e' ∧ LB n e = .ret (.v () (badDue s)) e') ∨ (isNon (kindAt w s.k c0) = some false ∧ ∃ e', isE w (tokNext w s c0) (acc ++ [tokD w s c0]) e' ∧ LB n e = .nx e') := by
  obtain ⟨x6, x7, x8, x9, x10, x11, rfl⟩ := he
  have hk : s.k < w.length := (List.getElem?_eq_some_iff.mp h).1
  have hk' : ¬ w.length ≤ s.k := by omega
  simp only [isGap, Bool.or_eq_false_iff, decide_eq_false_iff_not] at hg
  obtain ⟨y9, h6⟩ := lb6 (acc := acc) (x6 := x6) (x9 := x9) (x10 := x10) (x11 := x11) hz h
  have hn2 : (hz' : w.length ≤ sizeLine) → LB1 (eL w s acc x6 x7 x8 x9 x10 x11) = .nx (eL w s acc x6 x7 x8 x9 x10 x11) := fun hz' => by rw [lb1 hz', if_neg hk']
  simp only [LB, evSeq, hn2 (show w.length ≤ sizeLine by omega), lb2 (show w.length ≤ sizeLine by omega) h, lb3 hz (show s.k ≤ w.length by omega), lb4, hg.1.1, hg.1.2, hg.2, if_false, lb5, h6, lb7 hz h, lb8 n hz h, lb9]
  rcases kind_any (w := w) (c0 := c0) (k := s.k) with ⟨e1, _⟩ | e1
  · refine .inl ⟨e1, eL w s acc x6 (some (vs (cc c0))) (some (iv ((wordAt w s.k c0).length : Nat))) y9 (some (vs (S (wordAt w s.k c0)))) (some (.v () (kindAt w s.k c0))), ⟨_, _, _, _, _, _, rfl⟩, ?_⟩
    simp only [e1]
  · refine .inr ⟨e1, eL w (tokNext w s c0) (acc ++ [tokD w s c0]) x6 (some (vs (cc c0))) (some (iv ((wordAt w s.k c0).length : Nat))) y9 (some (vs (S (wordAt w s.k c0)))) (some (.v () (kindAt w s.k c0))), ⟨_, _, _, _, _, _, rfl⟩, ?_⟩
    simp only [e1, lb10 ha, lb11]
    rfl
theorem due_loop (n : Nat) (w : List Nat) (hz : w.length + 2 ≤ sizeLine) : ∀ (f : Nat) (s : Pl) (acc : List D) (r : Sc) (ds : List D) (e : Env), isE w s acc e → s.k ≤ w.length → acc.length ≤ s.k → scan w f s acc = some r → f ≤ ds.length →
    match r with | .bad s' acc' => ∃ e', isE w s' acc' e' ∧ forD (tgName 6) (LB n) ds e = .ret (.v () (badDue s')) e' | .ok s' acc' => ∃ e', isE w s' acc' e' ∧ forD (tgName 6) (LB n) ds e = .nx e'
  | 0, s, acc, r, ds, e, _, _, _, h, _ => by cases h
  | f + 1, s, acc, r, [], e, _, _, _, _, hl => by simp [evDef, back, evRet, evRetN, evRetMove, evMove, evSet, evSeq, evIf, evPrim, evPrimT, evOps, evLit, evVar, flatD, R.out, R.bind, evVor, evVand, evVnot, evTest, evTnot, evTand, evTor, evIfe, oB, FR.fin, evLst, evTup, evDs, evCall, evAs, fetch, unfetch, evNil, truthD, Ow.toD, evTrue, evFldL, evFldAug, evFldSet, evXp, evMethL, evPar, evOs, goAll, tgoName, tgoFld, evStrM, evBrk, evCnt] at hl
  | f + 1, s, acc, r, d :: ds, e, he, hk, ha, h, hl => by
    have he' : isE w s acc (e.set 6 (some (.v () d))) := by
      obtain ⟨x6, x7, x8, x9, x10, x11, rfl⟩ := he
      exact ⟨_, _, _, _, _, _, rfl⟩
    have e0 : tgName 6 d e = some (e.set 6 (some (.v () d))) := rfl
    simp only [forD, e0]
    simp only [scan] at h
    cases ec : w[s.k]? with
    | none =>
      rw [ec] at h
      cases h
      rw [turn_end n hz he' (List.getElem?_eq_none_iff.mp ec)]
      exact ⟨_, he', rfl⟩
    | some c0 =>
      rw [ec] at h
      have hlt : s.k < w.length := (List.getElem?_eq_some_iff.mp ec).1
      simp only at h
      cases hg : isGap c0 with
      | true =>
        rw [if_pos hg] at h
        have := gap_k ec hg
        obtain ⟨e', h1, h2⟩ := turn_gap n hz he' ec hg
        rw [h2]
        exact due_loop n w hz f _ acc r ds e' h1 this.2 (by omega) h (by simpa [evDef, back, evRet, evRetN, evRetMove, evMove, evSet, evSeq, evIf, evPrim, evPrimT, evOps, evLit, evVar, flatD, R.out, R.bind, evVor, evVand, evVnot, evTest, evTnot, evTand, evTor, evIfe, oB, FR.fin, evLst, evTup, evDs, evCall, evAs, fetch, unfetch, evNil, truthD, Ow.toD, evTrue, evFldL, evFldAug, evFldSet, evXp, evMethL, evPar, evOs, goAll, tgoName, tgoFld, evStrM, evBrk, evCnt] using hl)
      | false =>
        rw [if_neg (by simp [evDef, back, evRet, evRetN, evRetMove, evMove, evSet, evSeq, evIf, evPrim, evPrimT, evOps, evLit, evVar, flatD, R.out, R.bind, evVor, evVand, evVnot, evTest, evTnot, evTand, evTor, evIfe, oB, FR.fin, evLst, evTup, evDs, evCall, evAs, fetch, unfetch, evNil, truthD, Ow.toD, evTrue, evFldL, evFldAug, evFldSet, evXp, evMethL, evPar, evOs, goAll, tgoName, tgoFld, evStrM, evBrk, evCnt, hg])] at h
        have := tok_k ec
        rcases turn_tok n hz (by omega) he' ec hg with ⟨e1, e', h1, h2⟩ | ⟨e1, e', h1, h2⟩
        · rw [e1] at h
          cases h
          rw [h2]
          exact ⟨_, h1, rfl⟩
        · rw [e1] at h
          rw [h2]
          exact due_loop n w hz f _ _ r ds e' h1 this.2 (by rw [List.length_append]; simp [evDef, back, evRet, evRetN, evRetMove, evMove, evSet, evSeq, evIf, evPrim, evPrimT, evOps, evLit, evVar, flatD, R.out, R.bind, evVor, evVand, evVnot, evTest, evTnot, evTand, evTor, evIfe, oB, FR.fin, evLst, evTup, evDs, evCall, evAs, fetch, unfetch, evNil, truthD, Ow.toD, evTrue, evFldL, evFldAug, evFldSet, evXp, evMethL, evPar, evOs, goAll, tgoName, tgoFld, evStrM, evBrk, evCnt]; omega) h (by simpa [evDef, back, evRet, evRetN, evRetMove, evMove, evSet, evSeq, evIf, evPrim, evPrimT, evOps, evLit, evVar, flatD, R.out, R.bind, evVor, evVand, evVnot, evTest, evTnot, evTand, evTor, evIfe, oB, FR.fin, evLst, evTup, evDs, evCall, evAs, fetch, unfetch, evNil, truthD, Ow.toD, evTrue, evFldL, evFldAug, evFldSet, evXp, evMethL, evPar, evOs, goAll, tgoName, tgoFld, evStrM, evBrk, evCnt] using hl)
theorem due_run (n : Nat) (w : List Nat) (hz : w.length + 2 ≤ sizeLine) :
    F__law_due n [vs (S w)] = match scan0 w with | .bad s _ => .ok (.v () (badDue s)) [some (vs (S w))] | .ok s acc => .ok (.v () (.tup [.non, .tup (acc ++ [endD s])])) [some (vs (S w))] := by
  have h1 := len_w w (by omega)
  have h2 : pSum [.int (w.length : Nat), .int 1] = some (iv ((w.length + 1 : Nat) : Int)) := by simp [evDef, back, evRet, evRetN, evRetMove, evMove, evSet, evSeq, evIf, evPrim, evPrimT, evOps, evLit, evVar, flatD, R.out, R.bind, evVor, evVand, evVnot, evTest, evTnot, evTand, evTor, evIfe, oB, FR.fin, evLst, evTup, evDs, evCall, evAs, fetch, unfetch, evNil, truthD, Ow.toD, evTrue, evFldL, evFldAug, evFldSet, evXp, evMethL, evPar, evOs, goAll, tgoName, tgoFld, evStrM, evBrk, evCnt, pSum]
  have hll : (rngD 0 (w.length + 1)).length = w.length + 1 := by simp [evDef, back, evRet, evRetN, evRetMove, evMove, evSet, evSeq, evIf, evPrim, evPrimT, evOps, evLit, evVar, flatD, R.out, R.bind, evVor, evVand, evVnot, evTest, evTnot, evTand, evTor, evIfe, oB, FR.fin, evLst, evTup, evDs, evCall, evAs, fetch, unfetch, evNil, truthD, Ow.toD, evTrue, evFldL, evFldAug, evFldSet, evXp, evMethL, evPar, evOs, goAll, tgoName, tgoFld, evStrM, evBrk, evCnt, rngD]
  have st : evPar [(evLst []), (evLit (.int 1)), (evLit (.int 1)), (evLit (.int 0)), (evLit (.str "abcdefghijklmnopqrstuvwxyz0123456789"))] [(tgoName 1), (tgoName 2), (tgoName 3), (tgoName 4), (tgoName 5)] [some (vs (S w)), none, none, none, none, none, none, none, none, none, none, none] = .nx (eL w ⟨0, 1, 1⟩ [] none none none none none none) := by
    simp [evDef, back, evRet, evRetN, evRetMove, evMove, evSet, evSeq, evIf, evPrim, evPrimT, evOps, evLit, evVar, flatD, R.out, R.bind, evVor, evVand, evVnot, evTest, evTnot, evTand, evTor, evIfe, oB, FR.fin, evLst, evTup, evDs, evCall, evAs, fetch, unfetch, evNil, truthD, Ow.toD, evTrue, evFldL, evFldAug, evFldSet, evXp, evMethL, evPar, evOs, goAll, tgoName, tgoFld, evStrM, evBrk, evCnt]
  have hl := due_loop n w hz (w.length + 1) ⟨0, 1, 1⟩ [] (scan0 w) (rngD 0 (w.length + 1)) _ ⟨none, none, none, none, none, none, rfl⟩ (Nat.zero_le _) (Nat.zero_le _) (scan0_some w) (by rw [hll]; exact Nat.le_refl _)
  have fe : evFor (evArgI [(evPrim pSum [.e (evPrim pLen [.r 0]), .e (evLit (.int 1))])] kRange1) (tgName 6) (LB n) (eL w ⟨0, 1, 1⟩ [] none none none none none none) = forD (tgName 6) (LB n) (rngD 0 (w.length + 1)) (eL w ⟨0, 1, 1⟩ [] none none none none none none) := by
    refine for_r (it_a (o := iv ((w.length + 1 : Nat) : Int)) ?_ (range1_len (show w.length + 1 ≤ sizeLine by omega)))
    simp only [evPrim, evOps, flatD, R.bind, List.getElem?_cons_zero, h1, h2, evLit, Ow.toD]
  have e0 : (([vs (S w)].map some ++ List.replicate (12 - [true].length) none) : Env) = [some (vs (S w)), none, none, none, none, none, none, none, none, none, none, none] := rfl
  simp only [F__law_due, evDef, g_due]
  rw [if_pos (by rfl), e0]
  simp only [evSeq, st, fe]
  have hsc := scan0_some w
  cases hr : scan0 w with
  | bad s acc =>
    rw [hr] at hl
    obtain ⟨e', ⟨x6, x7, x8, x9, x10, x11, rfl⟩, hf⟩ := hl
    simp only [hf]
    simp [evDef, back, evRet, evRetN, evRetMove, evMove, evSet, evSeq, evIf, evPrim, evPrimT, evOps, evLit, evVar, flatD, R.out, R.bind, evVor, evVand, evVnot, evTest, evTnot, evTand, evTor, evIfe, oB, FR.fin, evLst, evTup, evDs, evCall, evAs, fetch, unfetch, evNil, truthD, Ow.toD, evTrue, evFldL, evFldAug, evFldSet, evXp, evMethL, evPar, evOs, goAll, tgoName, tgoFld, evStrM, evBrk, evCnt]
  | ok s acc =>
    rw [hr] at hl hsc
    have hk := scan_k (Nat.zero_le _) (Nat.zero_le _) hsc
    obtain ⟨e', ⟨x6, x7, x8, x9, x10, x11, rfl⟩, hf⟩ := hl
    simp only [hf]
    have ha : acc.length + 1 ≤ sizeLine := by omega
    have hs3 : (3 : Nat) ≤ sizeLine := by decide
    have hs2 : (2 : Nat) ≤ sizeLine := by decide
    have hs1 : (1 : Nat) ≤ sizeLine := by decide
    have tp : (topD ∘ Ow.v ()) = (id : D → D) := rfl
    simp [evDef, back, evRet, evRetN, evRetMove, evMove, evSet, evSeq, evIf, evPrim, evPrimT, evOps, evLit, evVar, flatD, R.out, R.bind, evVor, evVand, evVnot, evTest, evTnot, evTand, evTor, evIfe, oB, FR.fin, evLst, evTup, evDs, evCall, evAs, fetch, unfetch, evNil, truthD, Ow.toD, evTrue, evFldL, evFldAug, evFldSet, evXp, evMethL, evPar, evOs, goAll, tgoName, tgoFld, evStrM, evBrk, evCnt, hs1, hs2, hs3, ha, pSum, toD_newL, pTuple, newT, toDs_v, Ow.toDs, endD, tp]
end EV

set_option linter.all false
set_option maxRecDepth 100000
set_option maxHeartbeats 4000000
namespace EV
open PySem PySem.Spec PyProof.Rows L2
theorem as_tuple : a_tuple "str" = some false ∧ a_tuple "NoneType" = some false ∧ a_tuple "bool" = some false ∧ a_tuple "int" = some false ∧ a_tuple "tuple" = some true ∧ a_tuple "list" = some false ∧ a_tuple "dict" = some false := by decide +kernel
theorem as_int : a_int "str" = some false ∧ a_int "NoneType" = some false ∧ a_int "bool" = some true ∧ a_int "int" = some true ∧ a_int "tuple" = some false ∧ a_int "list" = some false ∧ a_int "dict" = some false := by decide +kernel
theorem as_bool : a_bool "str" = some false ∧ a_bool "NoneType" = some false ∧ a_bool "bool" = some true ∧ a_bool "int" = some false ∧ a_bool "tuple" = some false ∧ a_bool "list" = some false ∧ a_bool "dict" = some false := by decide +kernel
abbrev tt : O := .v () (.bl true)
def Sm : Nat → D → Bool
  | 0, _ => false
  | k + 1, .tup ds => decide (ds.length ≤ sizeLine) && ds.all (Sm k)
  | _ + 1, .str _ => true
  | _ + 1, .int _ => true
  | _ + 1, .bl _ => true
  | _ + 1, .non => true
  | _ + 1, _ => false
theorem zip_self (ds : List D) : zipD ds ds = ds.map fun y => .tup [y, y] := by
  induction ds with
  | nil => rfl
  | cons d ds ih =>
    simp only [zipD] at ih
    simp only [zipD, List.zipWith_cons_cons, ih, List.map_cons]
theorem same_lc {self : Fn} {a b : O} : ∀ ds : List D, (∀ x ∈ ds, self [.v () x, .v () x] = .ok tt [some (.v () x), some (.v () x)]) → lcD [2, 3] (tgTup (tgsCons (tgName 2) (tgsCons (tgName 3) tgsNil))) evTrue (evCall self [.l 2, .l 3] []) (ds.map fun y => .tup [y, y]) [some a, some b, none, none] = some (ds.map fun _ => .bl true, [some a, some b, none, none])
  | [], _ => rfl
  | x :: ds, h => by
    have ih := same_lc (a := a) (b := b) ds fun y hy => h y (List.mem_cons_of_mem _ hy)
    have h1 := h x (by simp [evDef, back, evRet, evRetN, evRetMove, evMove, evSet, evSeq, evIf, evPrim, evPrimT, evOps, evLit, evVar, flatD, R.out, R.bind, evVor, evVand, evVnot, evTest, evTnot, evTand, evTor, evIfe, oB, FR.fin, evLst, evTup, evDs, evCall, evAs, fetch, unfetch, evNil, truthD, Ow.toD, evTrue, evFldL, evFldAug, evFldSet, evXp, evMethL, evPar, evOs, goAll, tgoName, tgoFld, evStrM, evBrk, evCnt])
    simp [evDef, back, evRet, evRetN, evRetMove, evMove, evSet, evSeq, evIf, evPrim, evPrimT, evOps, evLit, evVar, flatD, R.out, R.bind, evVor, evVand, evVnot, evTest, evTnot, evTand, evTor, evIfe, oB, FR.fin, evLst, evTup, evDs, evCall, evAs, fetch, unfetch, evNil, truthD, Ow.toD, evTrue, evFldL, evFldAug, evFldSet, evXp, evMethL, evPar, evOs, goAll, tgoName, tgoFld, evStrM, evBrk, evCnt, lcD, tgTup, tgsCons, tgsNil, tgName, h1, wipeE, ih]
theorem same_run (n : Nat) : ∀ (k : Nat) (d : D), Sm k d = true → F__law_same n k [.v () d, .v () d] = .ok tt [some (.v () d), some (.v () d)]
  | 0, d, h => by cases d <;> cases h
  | k + 1, d, h => by
    have g (env : Env) : F__law_same n (k + 1) = evDef [true, true] 4 (g__law_same n (F__law_same n k)) := rfl
    cases d with
    | tup ds =>
      simp only [Sm, Bool.and_eq_true, decide_eq_true_eq, List.all_eq_true] at h
      have ih := same_lc (self := F__law_same n k) (a := .v () (.tup ds)) (b := .v () (.tup ds)) ds fun x hx => same_run n k x (h.2 x hx)
      have p1 : pIsi a_tuple w_tuple [D.tup ds] = some tt := by simp [evDef, back, evRet, evRetN, evRetMove, evMove, evSet, evSeq, evIf, evPrim, evPrimT, evOps, evLit, evVar, flatD, R.out, R.bind, evVor, evVand, evVnot, evTest, evTnot, evTand, evTor, evIfe, oB, FR.fin, evLst, evTup, evDs, evCall, evAs, fetch, unfetch, evNil, truthD, Ow.toD, evTrue, evFldL, evFldAug, evFldSet, evXp, evMethL, evPar, evOs, goAll, tgoName, tgoFld, evStrM, evBrk, evCnt, pIsi, isiD, tyN, as_tuple]
      have p2 : pLen [.tup ds] = some (iv (ds.length : Nat)) := by simp [evDef, back, evRet, evRetN, evRetMove, evMove, evSet, evSeq, evIf, evPrim, evPrimT, evOps, evLit, evVar, flatD, R.out, R.bind, evVor, evVand, evVnot, evTest, evTnot, evTand, evTor, evIfe, oB, FR.fin, evLst, evTup, evDs, evCall, evAs, fetch, unfetch, evNil, truthD, Ow.toD, evTrue, evFldL, evFldAug, evFldSet, evXp, evMethL, evPar, evOs, goAll, tgoName, tgoFld, evStrM, evBrk, evCnt, pLen, lenD]
      have p3 : pEq [.int (ds.length : Nat), .int (ds.length : Nat)] = some tt := by simp [evDef, back, evRet, evRetN, evRetMove, evMove, evSet, evSeq, evIf, evPrim, evPrimT, evOps, evLit, evVar, flatD, R.out, R.bind, evVor, evVand, evVnot, evTest, evTnot, evTand, evTor, evIfe, oB, FR.fin, evLst, evTup, evDs, evCall, evAs, fetch, unfetch, evNil, truthD, Ow.toD, evTrue, evFldL, evFldAug, evFldSet, evXp, evMethL, evPar, evOs, goAll, tgoName, tgoFld, evStrM, evBrk, evCnt, pEq, eqD, D.fl, scal]
      have p4 : pAll [.lst (ds.map fun _ => .bl true)] = some tt := by
        have := getBls_map ds fun _ => true
        simp only [pAll, this]
        simp [evDef, back, evRet, evRetN, evRetMove, evMove, evSet, evSeq, evIf, evPrim, evPrimT, evOps, evLit, evVar, flatD, R.out, R.bind, evVor, evVand, evVnot, evTest, evTnot, evTand, evTor, evIfe, oB, FR.fin, evLst, evTup, evDs, evCall, evAs, fetch, unfetch, evNil, truthD, Ow.toD, evTrue, evFldL, evFldAug, evFldSet, evXp, evMethL, evPar, evOs, goAll, tgoName, tgoFld, evStrM, evBrk, evCnt]
      have p5 : evLc [2, 3] (evArgI [(evVar 0), (evVar 1)] kZip) (tgTup (tgsCons (tgName 2) (tgsCons (tgName 3) tgsNil))) evTrue (evCall (F__law_same n k) [.l 2, .l 3] []) [some (.v () (.tup ds)), some (.v () (.tup ds)), none, none] = .ok (.lst () ((ds.map fun _ => D.bl true).map (.v ())), [some (.v () (.tup ds)), some (.v () (.tup ds)), none, none]) := by
        have hl : (zipD ds ds).length ≤ sizeLine := by simp [evDef, back, evRet, evRetN, evRetMove, evMove, evSet, evSeq, evIf, evPrim, evPrimT, evOps, evLit, evVar, flatD, R.out, R.bind, evVor, evVand, evVnot, evTest, evTnot, evTand, evTor, evIfe, oB, FR.fin, evLst, evTup, evDs, evCall, evAs, fetch, unfetch, evNil, truthD, Ow.toD, evTrue, evFldL, evFldAug, evFldSet, evXp, evMethL, evPar, evOs, goAll, tgoName, tgoFld, evStrM, evBrk, evCnt, zipD]; exact h.1
        have hit : evArgI [(evVar 0), (evVar 1)] kZip [some (Ow.v () (.tup ds)), some (Ow.v () (.tup ds)), none, none] = .ok (zipD ds ds, [some (.v () (.tup ds)), some (.v () (.tup ds)), none, none]) := by
          simp [evDef, back, evRet, evRetN, evRetMove, evMove, evSet, evSeq, evIf, evPrim, evPrimT, evOps, evLit, evVar, flatD, R.out, R.bind, evVor, evVand, evVnot, evTest, evTnot, evTand, evTor, evIfe, oB, FR.fin, evLst, evTup, evDs, evCall, evAs, fetch, unfetch, evNil, truthD, Ow.toD, evTrue, evFldL, evFldAug, evFldSet, evXp, evMethL, evPar, evOs, goAll, tgoName, tgoFld, evStrM, evBrk, evCnt, evArgI, kZip]
        simp only [evLc, hit, R.bind]
        rw [if_pos hl, zip_self]
        have hw : wipeE [some (Ow.v () (.tup ds)), some (Ow.v () (.tup ds)), none, none] [2, 3] = [some (.v () (.tup ds)), some (.v () (.tup ds)), none, none] := rfl
        rw [hw, ih]
        rfl
      have e0 : ∀ o : O, ([o, o].map some ++ List.replicate (4 - [true, true].length) none : Env) = [some o, some o, none, none] := fun _ => rfl
      rw [g []]
      simp only [evDef, e0]
      rw [if_pos (by rfl)]
      simp only [g__law_same, evSeq, evIf, evTest, evPrim, evOps, flatD, R.bind, List.getElem?_cons_zero, List.getElem?_cons_succ, p1, truthD, R.out, if_true, evRet, evVand, p2, Ow.toD, p3, p5, toDs_v, p4, back]
    | str z =>
      have p1 : pIsi a_tuple w_tuple [D.str z] = some (.v () (.bl false)) := by simp [evDef, back, evRet, evRetN, evRetMove, evMove, evSet, evSeq, evIf, evPrim, evPrimT, evOps, evLit, evVar, flatD, R.out, R.bind, evVor, evVand, evVnot, evTest, evTnot, evTand, evTor, evIfe, oB, FR.fin, evLst, evTup, evDs, evCall, evAs, fetch, unfetch, evNil, truthD, Ow.toD, evTrue, evFldL, evFldAug, evFldSet, evXp, evMethL, evPar, evOs, goAll, tgoName, tgoFld, evStrM, evBrk, evCnt, pIsi, isiD, tyN, as_tuple]
      have p2 : pIsi a_int w_int [D.str z] = some (.v () (.bl false)) := by simp [evDef, back, evRet, evRetN, evRetMove, evMove, evSet, evSeq, evIf, evPrim, evPrimT, evOps, evLit, evVar, flatD, R.out, R.bind, evVor, evVand, evVnot, evTest, evTnot, evTand, evTor, evIfe, oB, FR.fin, evLst, evTup, evDs, evCall, evAs, fetch, unfetch, evNil, truthD, Ow.toD, evTrue, evFldL, evFldAug, evFldSet, evXp, evMethL, evPar, evOs, goAll, tgoName, tgoFld, evStrM, evBrk, evCnt, pIsi, isiD, tyN, as_int]
      have p3 : pIsi a_str w_str [D.str z] = some tt := by simp [evDef, back, evRet, evRetN, evRetMove, evMove, evSet, evSeq, evIf, evPrim, evPrimT, evOps, evLit, evVar, flatD, R.out, R.bind, evVor, evVand, evVnot, evTest, evTnot, evTand, evTor, evIfe, oB, FR.fin, evLst, evTup, evDs, evCall, evAs, fetch, unfetch, evNil, truthD, Ow.toD, evTrue, evFldL, evFldAug, evFldSet, evXp, evMethL, evPar, evOs, goAll, tgoName, tgoFld, evStrM, evBrk, evCnt, pIsi, isiD, tyN, as_str]
      have p4 : pEq [.str z, .str z] = some tt := by simp [evDef, back, evRet, evRetN, evRetMove, evMove, evSet, evSeq, evIf, evPrim, evPrimT, evOps, evLit, evVar, flatD, R.out, R.bind, evVor, evVand, evVnot, evTest, evTnot, evTand, evTor, evIfe, oB, FR.fin, evLst, evTup, evDs, evCall, evAs, fetch, unfetch, evNil, truthD, Ow.toD, evTrue, evFldL, evFldAug, evFldSet, evXp, evMethL, evPar, evOs, goAll, tgoName, tgoFld, evStrM, evBrk, evCnt, pEq, eqD, D.fl, scal]
      rw [g []]
      simp only [g__law_same]
      simp [evDef, back, evRet, evRetN, evRetMove, evMove, evSet, evSeq, evIf, evPrim, evPrimT, evOps, evLit, evVar, flatD, R.out, R.bind, evVor, evVand, evVnot, evTest, evTnot, evTand, evTor, evIfe, oB, FR.fin, evLst, evTup, evDs, evCall, evAs, fetch, unfetch, evNil, truthD, Ow.toD, evTrue, evFldL, evFldAug, evFldSet, evXp, evMethL, evPar, evOs, goAll, tgoName, tgoFld, evStrM, evBrk, evCnt, p1, p2, p3, p4, pIs, isNon, isBl]
    | int z =>
      have p1 : pIsi a_tuple w_tuple [D.int z] = some (.v () (.bl false)) := by simp [evDef, back, evRet, evRetN, evRetMove, evMove, evSet, evSeq, evIf, evPrim, evPrimT, evOps, evLit, evVar, flatD, R.out, R.bind, evVor, evVand, evVnot, evTest, evTnot, evTand, evTor, evIfe, oB, FR.fin, evLst, evTup, evDs, evCall, evAs, fetch, unfetch, evNil, truthD, Ow.toD, evTrue, evFldL, evFldAug, evFldSet, evXp, evMethL, evPar, evOs, goAll, tgoName, tgoFld, evStrM, evBrk, evCnt, pIsi, isiD, tyN, as_tuple]
      have p2 : pIsi a_int w_int [D.int z] = some tt := by simp [evDef, back, evRet, evRetN, evRetMove, evMove, evSet, evSeq, evIf, evPrim, evPrimT, evOps, evLit, evVar, flatD, R.out, R.bind, evVor, evVand, evVnot, evTest, evTnot, evTand, evTor, evIfe, oB, FR.fin, evLst, evTup, evDs, evCall, evAs, fetch, unfetch, evNil, truthD, Ow.toD, evTrue, evFldL, evFldAug, evFldSet, evXp, evMethL, evPar, evOs, goAll, tgoName, tgoFld, evStrM, evBrk, evCnt, pIsi, isiD, tyN, as_int]
      have p3 : pIsi a_bool w_bool [D.int z] = some (.v () (.bl false)) := by simp [evDef, back, evRet, evRetN, evRetMove, evMove, evSet, evSeq, evIf, evPrim, evPrimT, evOps, evLit, evVar, flatD, R.out, R.bind, evVor, evVand, evVnot, evTest, evTnot, evTand, evTor, evIfe, oB, FR.fin, evLst, evTup, evDs, evCall, evAs, fetch, unfetch, evNil, truthD, Ow.toD, evTrue, evFldL, evFldAug, evFldSet, evXp, evMethL, evPar, evOs, goAll, tgoName, tgoFld, evStrM, evBrk, evCnt, pIsi, isiD, tyN, as_bool]
      have p4 : pEq [.int z, .int z] = some tt := by simp [evDef, back, evRet, evRetN, evRetMove, evMove, evSet, evSeq, evIf, evPrim, evPrimT, evOps, evLit, evVar, flatD, R.out, R.bind, evVor, evVand, evVnot, evTest, evTnot, evTand, evTor, evIfe, oB, FR.fin, evLst, evTup, evDs, evCall, evAs, fetch, unfetch, evNil, truthD, Ow.toD, evTrue, evFldL, evFldAug, evFldSet, evXp, evMethL, evPar, evOs, goAll, tgoName, tgoFld, evStrM, evBrk, evCnt, pEq, eqD, D.fl, scal]
      rw [g []]
      simp only [g__law_same]
      simp [evDef, back, evRet, evRetN, evRetMove, evMove, evSet, evSeq, evIf, evPrim, evPrimT, evOps, evLit, evVar, flatD, R.out, R.bind, evVor, evVand, evVnot, evTest, evTnot, evTand, evTor, evIfe, oB, FR.fin, evLst, evTup, evDs, evCall, evAs, fetch, unfetch, evNil, truthD, Ow.toD, evTrue, evFldL, evFldAug, evFldSet, evXp, evMethL, evPar, evOs, goAll, tgoName, tgoFld, evStrM, evBrk, evCnt, p1, p2, p3, p4, pIs, isNon, isBl]
    | bl z =>
      have p1 : pIsi a_tuple w_tuple [D.bl z] = some (.v () (.bl false)) := by simp [evDef, back, evRet, evRetN, evRetMove, evMove, evSet, evSeq, evIf, evPrim, evPrimT, evOps, evLit, evVar, flatD, R.out, R.bind, evVor, evVand, evVnot, evTest, evTnot, evTand, evTor, evIfe, oB, FR.fin, evLst, evTup, evDs, evCall, evAs, fetch, unfetch, evNil, truthD, Ow.toD, evTrue, evFldL, evFldAug, evFldSet, evXp, evMethL, evPar, evOs, goAll, tgoName, tgoFld, evStrM, evBrk, evCnt, pIsi, isiD, tyN, as_tuple]
      rw [g []]
      simp only [g__law_same]
      cases z <;> simp [evDef, back, evRet, evRetN, evRetMove, evMove, evSet, evSeq, evIf, evPrim, evPrimT, evOps, evLit, evVar, flatD, R.out, R.bind, evVor, evVand, evVnot, evTest, evTnot, evTand, evTor, evIfe, oB, FR.fin, evLst, evTup, evDs, evCall, evAs, fetch, unfetch, evNil, truthD, Ow.toD, evTrue, evFldL, evFldAug, evFldSet, evXp, evMethL, evPar, evOs, goAll, tgoName, tgoFld, evStrM, evBrk, evCnt, p1, pIs, isNon, isBl]
    | non =>
      have p1 : pIsi a_tuple w_tuple [D.non] = some (.v () (.bl false)) := by simp [evDef, back, evRet, evRetN, evRetMove, evMove, evSet, evSeq, evIf, evPrim, evPrimT, evOps, evLit, evVar, flatD, R.out, R.bind, evVor, evVand, evVnot, evTest, evTnot, evTand, evTor, evIfe, oB, FR.fin, evLst, evTup, evDs, evCall, evAs, fetch, unfetch, evNil, truthD, Ow.toD, evTrue, evFldL, evFldAug, evFldSet, evXp, evMethL, evPar, evOs, goAll, tgoName, tgoFld, evStrM, evBrk, evCnt, pIsi, isiD, tyN, as_tuple]
      rw [g []]
      simp only [g__law_same]
      simp [evDef, back, evRet, evRetN, evRetMove, evMove, evSet, evSeq, evIf, evPrim, evPrimT, evOps, evLit, evVar, flatD, R.out, R.bind, evVor, evVand, evVnot, evTest, evTnot, evTand, evTor, evIfe, oB, FR.fin, evLst, evTup, evDs, evCall, evAs, fetch, unfetch, evNil, truthD, Ow.toD, evTrue, evFldL, evFldAug, evFldSet, evXp, evMethL, evPar, evOs, goAll, tgoName, tgoFld, evStrM, evBrk, evCnt, p1, pIs, isNon, isBl]
    | _ => cases h
end EV

set_option linter.all false
set_option maxRecDepth 100000
set_option maxHeartbeats 4000000
namespace EV
open PySem PySem.Spec PyProof.Rows L2
theorem sm_list : ∀ {k : Nat} {l m : List D}, (∀ x ∈ l, Sm k x = true) → (∀ x ∈ m, Sm k x = true) → ∀ x ∈ l ++ m, Sm k x = true := fun h1 h2 x hx => by
  rcases List.mem_append.mp hx with h | h
  · exact h1 x h
  · exact h2 x h
theorem sm_tok {w : List Nat} {s : Pl} {c0 : Nat} (h : isNon (kindAt w s.k c0) ≠ some true) : Sm 11 (tokD w s c0) = true := by
  have hs3 : (3 : Nat) ≤ sizeLine := by decide
  have hs2 : (2 : Nat) ≤ sizeLine := by decide
  have : ∃ z, kindAt w s.k c0 = .str z := by
    revert h
    unfold kindAt kindW
    split
    · split
      · exact fun _ => ⟨_, rfl⟩
      · exact fun h => absurd rfl h
    · split
      · exact fun _ => ⟨_, rfl⟩
      · split
        · split
          · exact fun _ => ⟨_, rfl⟩
          · exact fun h => absurd rfl h
        · split
          · exact fun _ => ⟨_, rfl⟩
          · exact fun h => absurd rfl h
  obtain ⟨z, e⟩ := this
  simp [evDef, back, evRet, evRetN, evRetMove, evMove, evSet, evSeq, evIf, evPrim, evPrimT, evOps, evLit, evVar, flatD, R.out, R.bind, evVor, evVand, evVnot, evTest, evTnot, evTand, evTor, evIfe, oB, FR.fin, evLst, evTup, evDs, evCall, evAs, fetch, unfetch, evNil, truthD, Ow.toD, evTrue, evFldL, evFldAug, evFldSet, evXp, evMethL, evPar, evOs, goAll, tgoName, tgoFld, evStrM, evBrk, evCnt, tokD, e, Sm, hs3, hs2]
theorem scan_sm {w : List Nat} : ∀ {f : Nat} {s : Pl} {acc : List D} {s' : Pl} {acc' : List D}, (∀ x ∈ acc, Sm 11 x = true) → scan w f s acc = some (.ok s' acc') → ∀ x ∈ acc', Sm 11 x = true
  | 0, s, acc, s', acc', _, h => by cases h
  | f + 1, s, acc, s', acc', ha, h => by
    simp only [scan] at h
    cases e : w[s.k]? with
    | none =>
      rw [e] at h
      cases h
      exact ha
    | some c0 =>
      rw [e] at h
      simp only at h
      split at h
      · exact scan_sm ha h
      · split at h
        · cases h
        · rename_i hn
          exact scan_sm (sm_list ha fun x hx => by
            have : x = tokD w s c0 := by simpa [evDef, back, evRet, evRetN, evRetMove, evMove, evSet, evSeq, evIf, evPrim, evPrimT, evOps, evLit, evVar, flatD, R.out, R.bind, evVor, evVand, evVnot, evTest, evTnot, evTand, evTor, evIfe, oB, FR.fin, evLst, evTup, evDs, evCall, evAs, fetch, unfetch, evNil, truthD, Ow.toD, evTrue, evFldL, evFldAug, evFldSet, evXp, evMethL, evPar, evOs, goAll, tgoName, tgoFld, evStrM, evBrk, evCnt] using hx
            subst this
            exact sm_tok hn) h
theorem eq_read (a b : Int) : pNe [.lst [.str "read", .int a, .int b], .lst [.str "read", .int a, .int b]] = some (.v () (.bl false)) := by
  have h1 : SeqAt.shaped (.list [.str "read", .int a, .int b]) = true := by
    have hro : PyData.strOk "read" = true := by decide +kernel
    simp [evDef, back, evRet, evRetN, evRetMove, evMove, evSet, evSeq, evIf, evPrim, evPrimT, evOps, evLit, evVar, flatD, R.out, R.bind, evVor, evVand, evVnot, evTest, evTnot, evTand, evTor, evIfe, oB, FR.fin, evLst, evTup, evDs, evCall, evAs, fetch, unfetch, evNil, truthD, Ow.toD, evTrue, evFldL, evFldAug, evFldSet, evXp, evMethL, evPar, evOs, goAll, tgoName, tgoFld, evStrM, evBrk, evCnt, SeqAt.shaped, PyData.canLay0, PyData.depth, PyData.canLayAll0, PyData.depthAll, hro]
  simp [evDef, back, evRet, evRetN, evRetMove, evMove, evSet, evSeq, evIf, evPrim, evPrimT, evOps, evLit, evVar, flatD, R.out, R.bind, evVor, evVand, evVnot, evTest, evTnot, evTand, evTor, evIfe, oB, FR.fin, evLst, evTup, evDs, evCall, evAs, fetch, unfetch, evNil, truthD, Ow.toD, evTrue, evFldL, evFldAug, evFldSet, evXp, evMethL, evPar, evOs, goAll, tgoName, tgoFld, evStrM, evBrk, evCnt, pNe, eqD, D.fl, eqP, D.py, D.pys, h1, PyData.eqv, PyData.eqvAll]
theorem told_run (n : Nat) (w : List Nat) (hn : w.length < n) (hz : w.length + 2 ≤ sizeLine) : F__law_is_told n [vs (S w)] = .ok tt [some (vs (S w))] := by
  have h1 := due_run n w hz
  have h2 := tokens_run n w hn hz
  have hsc := scan0_some w
  have hs3 : (3 : Nat) ≤ sizeLine := by decide
  have hs2 : (2 : Nat) ≤ sizeLine := by decide
  have z0 : (0 : Nat) < sizeLine := by decide
  cases hr : scan0 w with
  | bad s acc =>
    rw [hr] at h1 h2
    simp only at h1 h2
    have h3 := eq_read s.l s.c
    have h4 : pIxA [badDue s, .int 0] = some (.v () (.lst [.str "read", .int s.l, .int s.c])) := by
      simp [evDef, back, evRet, evRetN, evRetMove, evMove, evSet, evSeq, evIf, evPrim, evPrimT, evOps, evLit, evVar, flatD, R.out, R.bind, evVor, evVand, evVnot, evTest, evTnot, evTand, evTor, evIfe, oB, FR.fin, evLst, evTup, evDs, evCall, evAs, fetch, unfetch, evNil, truthD, Ow.toD, evTrue, evFldL, evFldAug, evFldSet, evXp, evMethL, evPar, evOs, goAll, tgoName, tgoFld, evStrM, evBrk, evCnt, badDue, pIxA, ixA, ixD, atI, ixN]
    have h5 : handleX csX hs__law_why (misD s) = some [.str "read", .int s.l, .int s.c] := by rfl
    simp only [F__law_is_told, g__law_is_told]
    simp [evDef, back, evRet, evRetN, evRetMove, evMove, evSet, evSeq, evIf, evPrim, evPrimT, evOps, evLit, evVar, flatD, R.out, R.bind, evVor, evVand, evVnot, evTest, evTnot, evTand, evTor, evIfe, oB, FR.fin, evLst, evTup, evDs, evCall, evAs, fetch, unfetch, evNil, truthD, Ow.toD, evTrue, evFldL, evFldAug, evFldSet, evXp, evMethL, evPar, evOs, goAll, tgoName, tgoFld, evStrM, evBrk, evCnt, h1, h2, h4, h5, evTell, evAppend, hs3, h3, pIsNot, isNon, topD, Ow.toDs]
  | ok s acc =>
    rw [hr] at h1 h2 hsc
    simp only at h1 h2
    have hk := scan_k (Nat.zero_le _) (Nat.zero_le _) hsc
    have hsm : Sm 12 (.tup (acc ++ [endD s])) = true := by
      have ha : (acc ++ [endD s]).length ≤ sizeLine := by simp [evDef, back, evRet, evRetN, evRetMove, evMove, evSet, evSeq, evIf, evPrim, evPrimT, evOps, evLit, evVar, flatD, R.out, R.bind, evVor, evVand, evVnot, evTest, evTnot, evTand, evTor, evIfe, oB, FR.fin, evLst, evTup, evDs, evCall, evAs, fetch, unfetch, evNil, truthD, Ow.toD, evTrue, evFldL, evFldAug, evFldSet, evXp, evMethL, evPar, evOs, goAll, tgoName, tgoFld, evStrM, evBrk, evCnt]; omega
      simp only [Sm, ha, decide_true, Bool.true_and, List.all_eq_true]
      exact sm_list (scan_sm (by simp [evDef, back, evRet, evRetN, evRetMove, evMove, evSet, evSeq, evIf, evPrim, evPrimT, evOps, evLit, evVar, flatD, R.out, R.bind, evVor, evVand, evVnot, evTest, evTnot, evTand, evTor, evIfe, oB, FR.fin, evLst, evTup, evDs, evCall, evAs, fetch, unfetch, evNil, truthD, Ow.toD, evTrue, evFldL, evFldAug, evFldSet, evXp, evMethL, evPar, evOs, goAll, tgoName, tgoFld, evStrM, evBrk, evCnt]) hsc) fun x hx => by
        have : x = endD s := by simpa [evDef, back, evRet, evRetN, evRetMove, evMove, evSet, evSeq, evIf, evPrim, evPrimT, evOps, evLit, evVar, flatD, R.out, R.bind, evVor, evVand, evVnot, evTest, evTnot, evTand, evTor, evIfe, oB, FR.fin, evLst, evTup, evDs, evCall, evAs, fetch, unfetch, evNil, truthD, Ow.toD, evTrue, evFldL, evFldAug, evFldSet, evXp, evMethL, evPar, evOs, goAll, tgoName, tgoFld, evStrM, evBrk, evCnt] using hx
        subst this
        simp [evDef, back, evRet, evRetN, evRetMove, evMove, evSet, evSeq, evIf, evPrim, evPrimT, evOps, evLit, evVar, flatD, R.out, R.bind, evVor, evVand, evVnot, evTest, evTnot, evTand, evTor, evIfe, oB, FR.fin, evLst, evTup, evDs, evCall, evAs, fetch, unfetch, evNil, truthD, Ow.toD, evTrue, evFldL, evFldAug, evFldSet, evXp, evMethL, evPar, evOs, goAll, tgoName, tgoFld, evStrM, evBrk, evCnt, endD, Sm, hs3, hs2]
    have h3 := same_run n 12 _ hsm
    have h4 : pIxA [.tup [.non, .tup (acc ++ [endD s])], .int 0] = some (.v () .non) := by
      simp [evDef, back, evRet, evRetN, evRetMove, evMove, evSet, evSeq, evIf, evPrim, evPrimT, evOps, evLit, evVar, flatD, R.out, R.bind, evVor, evVand, evVnot, evTest, evTnot, evTand, evTor, evIfe, oB, FR.fin, evLst, evTup, evDs, evCall, evAs, fetch, unfetch, evNil, truthD, Ow.toD, evTrue, evFldL, evFldAug, evFldSet, evXp, evMethL, evPar, evOs, goAll, tgoName, tgoFld, evStrM, evBrk, evCnt, pIxA, ixA, ixD, atI, ixN]
    have h5 : pIxA [.tup [.non, .tup (acc ++ [endD s])], .int 1] = some (.v () (.tup (acc ++ [endD s]))) := by
      simp [evDef, back, evRet, evRetN, evRetMove, evMove, evSet, evSeq, evIf, evPrim, evPrimT, evOps, evLit, evVar, flatD, R.out, R.bind, evVor, evVand, evVnot, evTest, evTnot, evTand, evTor, evIfe, oB, FR.fin, evLst, evTup, evDs, evCall, evAs, fetch, unfetch, evNil, truthD, Ow.toD, evTrue, evFldL, evFldAug, evFldSet, evXp, evMethL, evPar, evOs, goAll, tgoName, tgoFld, evStrM, evBrk, evCnt, pIxA, ixA, ixD, atI, ixN]
    have h6 : pIxA [.lst [.tup (acc ++ [endD s])], .int 0] = some (.v () (.tup (acc ++ [endD s]))) := by
      simp [evDef, back, evRet, evRetN, evRetMove, evMove, evSet, evSeq, evIf, evPrim, evPrimT, evOps, evLit, evVar, flatD, R.out, R.bind, evVor, evVand, evVnot, evTest, evTnot, evTand, evTor, evIfe, oB, FR.fin, evLst, evTup, evDs, evCall, evAs, fetch, unfetch, evNil, truthD, Ow.toD, evTrue, evFldL, evFldAug, evFldSet, evXp, evMethL, evPar, evOs, goAll, tgoName, tgoFld, evStrM, evBrk, evCnt, pIxA, ixA, ixD, atI, ixN]
    have h7 : pNe [.non, .non] = some (.v () (.bl false)) := by simp [evDef, back, evRet, evRetN, evRetMove, evMove, evSet, evSeq, evIf, evPrim, evPrimT, evOps, evLit, evVar, flatD, R.out, R.bind, evVor, evVand, evVnot, evTest, evTnot, evTand, evTor, evIfe, oB, FR.fin, evLst, evTup, evDs, evCall, evAs, fetch, unfetch, evNil, truthD, Ow.toD, evTrue, evFldL, evFldAug, evFldSet, evXp, evMethL, evPar, evOs, goAll, tgoName, tgoFld, evStrM, evBrk, evCnt, pNe, eqD, D.fl, scal]
    simp only [F__law_is_told, g__law_is_told]
    generalize acc ++ [endD s] = u at *
    simp [evDef, back, evRet, evRetN, evRetMove, evMove, evSet, evSeq, evIf, evPrim, evPrimT, evOps, evLit, evVar, flatD, R.out, R.bind, evVor, evVand, evVnot, evTest, evTnot, evTand, evTor, evIfe, oB, FR.fin, evLst, evTup, evDs, evCall, evAs, fetch, unfetch, evNil, truthD, Ow.toD, evTrue, evFldL, evFldAug, evFldSet, evXp, evMethL, evPar, evOs, goAll, tgoName, tgoFld, evStrM, evBrk, evCnt, h1, h2, h3, h4, h5, h6, h7, evTell, evAppend, z0, pIsNot, isNon, topD]
end EV

set_option linter.all false
set_option maxRecDepth 100000
set_option maxHeartbeats 4000000
namespace EV
open PySem PySem.Spec PyProof.Rows L2
abbrev penD (cs : D) (a g c f : Int) : D := .dct [(.inr "cells", cs), (.inr "at", .int a), (.inr "digits", .int g), (.inr "count", .int c), (.inr "fold", .int f)]
abbrev penO (cs : D) (a g c f : Int) : O := .dct () [(.inr "cells", .v () cs), (.inr "at", iv a), (.inr "digits", iv g), (.inr "count", iv c), (.inr "fold", iv f)]
section
variable {cs : D} {a g c f b : Int} {r : Env}
theorem pg_cells : pIxA [penD cs a g c f, .str "cells"] = some (.v () cs) := rfl
theorem pg_at : pIxA [penD cs a g c f, .str "at"] = some (iv a) := rfl
theorem pg_digits : pIxA [penD cs a g c f, .str "digits"] = some (iv g) := rfl
theorem pg_count : pIxA [penD cs a g c f, .str "count"] = some (iv c) := rfl
theorem pg_fold : pIxA [penD cs a g c f, .str "fold"] = some (iv f) := rfl
theorem pen_nd : ([.inr "cells", .inr "at", .inr "digits", .inr "count", .inr "fold"] : List Key).Nodup ∧ 5 < sizeLine := by decide +kernel
theorem ps_at : setSub 0 (.str "at") (iv b) (some (penO cs a g c f) :: r) = some (some (penO cs b g c f) :: r) := by
  have := pen_nd
  simp only [setSub, List.getElem?_cons_zero, keyD, Option.bind_some, List.map_cons, List.map_nil, List.length_cons, List.length_nil]
  rw [if_pos this]; rfl
theorem ps_digits : setSub 0 (.str "digits") (iv b) (some (penO cs a g c f) :: r) = some (some (penO cs a b c f) :: r) := by
  have := pen_nd
  simp only [setSub, List.getElem?_cons_zero, keyD, Option.bind_some, List.map_cons, List.map_nil, List.length_cons, List.length_nil]
  rw [if_pos this]; rfl
theorem ps_count : setSub 0 (.str "count") (iv b) (some (penO cs a g c f) :: r) = some (some (penO cs a g b f) :: r) := by
  have := pen_nd
  simp only [setSub, List.getElem?_cons_zero, keyD, Option.bind_some, List.map_cons, List.map_nil, List.length_cons, List.length_nil]
  rw [if_pos this]; rfl
theorem ps_fold : setSub 0 (.str "fold") (iv b) (some (penO cs a g c f) :: r) = some (some (penO cs a g c b) :: r) := by
  have := pen_nd
  simp only [setSub, List.getElem?_cons_zero, keyD, Option.bind_some, List.map_cons, List.map_nil, List.length_cons, List.length_nil]
  rw [if_pos this]; rfl
end
/-- a pen after at most n draws -/
structure PenAt (m : Nat) (cells : List Int) (a g c f : Int) : Prop where
  len : cells.length ≤ 63
  a0 : 0 ≤ a
  g0 : 0 ≤ g
  c0 : 0 ≤ c
  cm : c ≤ m
  f0 : 0 ≤ f
  f1 : f < 2147483648
def IsPen (m : Nat) (o : O) : Prop := ∃ cells a g c f, o = penO (.lst (cells.map .int)) a g c f ∧ PenAt m cells a g c f
theorem bits_small {i : Int} (h0 : 0 ≤ i) (h : i < 18446744073709551616) : (Builtin.Int.intBits i : Int) ≤ 65 := by
  unfold Builtin.Int.intBits
  split
  · simp [evDef, back, evRet, evRetN, evRetMove, evMove, evSet, evSeq, evIf, evPrim, evPrimT, evOps, evLit, evVar, flatD, R.out, R.bind, evVor, evVand, evVnot, evTest, evTnot, evTand, evTor, evIfe, oB, FR.fin, evLst, evTup, evDs, evCall, evAs, fetch, unfetch, evNil, truthD, Ow.toD, evTrue, evFldL, evFldAug, evFldSet, evXp, evMethL, evPar, evOs, goAll, tgoName, tgoFld, evStrM, evBrk, evCnt, evAsgO]
  · have : i.natAbs.log2 < 64 := by
      rw [Nat.log2_lt (by rename_i hne; simpa [evDef, back, evRet, evRetN, evRetMove, evMove, evSet, evSeq, evIf, evPrim, evPrimT, evOps, evLit, evVar, flatD, R.out, R.bind, evVor, evVand, evVnot, evTest, evTnot, evTand, evTor, evIfe, oB, FR.fin, evLst, evTup, evDs, evCall, evAs, fetch, unfetch, evNil, truthD, Ow.toD, evTrue, evFldL, evFldAug, evFldSet, evXp, evMethL, evPar, evOs, goAll, tgoName, tgoFld, evStrM, evBrk, evCnt, evAsgO] using hne)]
      omega
    omega
theorem mul_small {i j : Int} (h0 : 0 ≤ i) (h : i < 18446744073709551616) (k0 : 0 ≤ j) (k : j < 18446744073709551616) : pMul [.int i, .int j] = some (iv (i * j)) := by
  have h1 := bits_small h0 h
  have h2 := bits_small k0 k
  have : okMul i j = true := by
    simp only [okMul, decide_eq_true_eq]
    omega
  simp [evDef, back, evRet, evRetN, evRetMove, evMove, evSet, evSeq, evIf, evPrim, evPrimT, evOps, evLit, evVar, flatD, R.out, R.bind, evVor, evVand, evVnot, evTest, evTnot, evTand, evTor, evIfe, oB, FR.fin, evLst, evTup, evDs, evCall, evAs, fetch, unfetch, evNil, truthD, Ow.toD, evTrue, evFldL, evFldAug, evFldSet, evXp, evMethL, evPar, evOs, goAll, tgoName, tgoFld, evStrM, evBrk, evCnt, evAsgO, pMul, this]

/-! steps by lemmas: nothing is unfolded -/
section
variable {p : List D → Option O} {fa fb : Ev} {env e1 e2 : Env} {o o1 o2 : O} {i j : Nat} {d d1 d2 : D}
theorem ev_e (h1 : fa env = .ok (o1, e1)) (h3 : p [o1.toD] = some o) : evPrim p [.e fa] env = .ok (o, e1) := by
  simp only [evPrim, evOps, h1, R.bind, h3]
theorem ev_ee (h1 : fa env = .ok (o1, e1)) (h2 : fb e1 = .ok (o2, e2)) (h3 : p [o1.toD, o2.toD] = some o) : evPrim p [.e fa, .e fb] env = .ok (o, e2) := by
  simp only [evPrim, evOps, h1, h2, R.bind, h3]
theorem ev_er (h1 : fa env = .ok (o1, e1)) (h2 : e1[j]? = some (some (.v () d))) (h3 : p [o1.toD, d] = some o) : evPrim p [.e fa, .r j] env = .ok (o, e1) := by
  simp only [evPrim, evOps, h1, R.bind, h2, flatD, h3]
theorem ev_re (h1 : env[i]? = some (some (.v () d))) (h2 : fb env = .ok (o2, e1)) (h4 : e1[i]? = some (some (.v () d))) (h3 : p [d, o2.toD] = some o) : evPrim p [.r i, .e fb] env = .ok (o, e1) := by
  simp only [evPrim, evOps, h1, h2, R.bind, h4, flatD, h3]
theorem ev_rr (h1 : env[i]? = some (some (.v () d))) (h2 : env[j]? = some (some (.v () d2))) (h3 : p [d, d2] = some o) : evPrim p [.r i, .r j] env = .ok (o, env) := by
  simp only [evPrim, evOps, h1, R.bind, h2, flatD, h3]
theorem ev_r (h1 : env[i]? = some (some (.v () d))) (h3 : p [d] = some o) : evPrim p [.r i] env = .ok (o, env) := by
  simp only [evPrim, evOps, h1, R.bind, flatD, h3]
theorem ev_lit : evLit d env = .ok (.v () d, env) := rfl
theorem ev_set (h1 : fa env = .ok (o1, e1)) : evSet i fa env = .nx (e1.set i (some o1)) := by
  simp only [evSet, h1, R.out]
theorem ev_ret (h1 : fa env = .ok (o1, e1)) : evRet fa env = .ret o1 e1 := by
  simp only [evRet, h1, R.out]
theorem ev_asg {t : TgO} (h1 : fa env = .ok (o1, e1)) (h2 : t o1 e1 = some e2) : evAsgO fa t env = .nx e2 := by
  simp only [evAsgO, h1, R.out, h2]
theorem ev_seq {g h : Es} {r : Out} (h1 : g env = .nx e1) (h2 : h e1 = r) : evSeq g h env = r := by
  simp only [evSeq, h1, h2]
theorem ev_seq_ret {g h : Es} (h1 : g env = .ret o e1) : evSeq g h env = .ret o e1 := by
  simp only [evSeq, h1]
theorem ev_if {c : Et} {g h : Es} {r : Out} {b : Bool} (h1 : c env = .ok (b, e1)) (h2 : (if b then g e1 else h e1) = r) : evIf c g h env = r := by
  simp only [evIf, h1, R.out, h2]
theorem ev_t {c : Bool} {as : List Opd} (h1 : evPrim p as env = .ok (.v () (.bl c), e1)) : evPrimT p as env = .ok (c, e1) := by
  simp only [evPrim] at h1
  simp only [evPrimT]
  cases h : evOps as env with
  | ok q =>
    rw [h] at h1
    simp only [R.bind] at h1 ⊢
    cases h5 : p q.1 with
    | none => rw [h5] at h1; cases h1
    | some z =>
      rw [h5] at h1
      cases h1
      rfl
  | exc x e => rw [h] at h1; cases h1
  | bad => rw [h] at h1; cases h1
end
theorem pk (cs : D) (a g c f many : Int) (x2 x3 x4 : Option O) (k : Str) (z : D) (h : pIxA [penD cs a g c f, .str k] = some (.v () z)) : evPrim pIxA [.r 0, .e (evLit (.str k))] [some (penO cs a g c f), some (iv many), x2, x3, x4] = .ok (.v () z, [some (penO cs a g c f), some (iv many), x2, x3, x4]) := by
  simp only [evPrim, evOps, evLit, R.bind, List.getElem?_cons_zero, flatD, List.map_cons, List.map_nil, topD, Ow.toD]
  rw [h]

section
variable {cs : D} {cells : List Int} {a g c f b many : Int} {x2 x3 x4 : Option O}
abbrev eP (cells : List Int) (a g c f many : Int) (x2 x3 x4 : Option O) : Env := [some (penO (.lst (cells.map .int)) a g c f), some (iv many), x2, x3, x4]
def DR1 : Es := (evAsgO (evPrim pSum [.e (evPrim pIxA [.r 0, .e (evLit (.str "count"))]), .e (evLit (.int 1))]) (tgoSub 0 (evLit (.str "count"))))
def DR2 : Es := (evIf (evTand (evPrimT pEq [.e (evPrim pIxA [.r 0, .e (evLit (.str "digits"))]), .e (evLit (.int 0))]) (evPrimT (pCmp ltI) [.e (evPrim pIxA [.r 0, .e (evLit (.str "at"))]), .e (evPrim pLen [.e (evPrim pIxA [.r 0, .e (evLit (.str "cells"))])])])) (evSeq (evSet 2 (evPrim pIxA [.e (evPrim pIxA [.r 0, .e (evLit (.str "cells"))]), .e (evPrim pIxA [.r 0, .e (evLit (.str "at"))])])) (evSeq (evAsgO (evPrim pSum [.e (evPrim pIxA [.r 0, .e (evLit (.str "at"))]), .e (evLit (.int 1))]) (tgoSub 0 (evLit (.str "at")))) (evIf (evPrimT (pCmp geI) [.r 2, .e (evPrim pPow [.e (evLit (.int 10)), .e (evLit (.int 18))])]) (evAsgO (evPrim pSub [.r 2, .e (evPrim pPow [.e (evLit (.int 10)), .e (evLit (.int 18))])]) (tgoSub 0 (evLit (.str "digits")))) (evAsgO (evPrim pMod [.e (evPrim pInt [.e (evPrim pSum [.e (evPrim pMul [.e (evPrim pIxA [.r 0, .e (evLit (.str "fold"))]), .e (evLit (.int 70249))]), .r 2])]), .e (evLit (.int 2147482937))]) (tgoSub 0 (evLit (.str "fold"))))))) evNil)
def DR3 : Es := (evIf (evPrimT (pCmp gtI) [.e (evPrim pIxA [.r 0, .e (evLit (.str "digits"))]), .e (evLit (.int 0))]) (evSeq (evSet 3 (evPrim pMod [.e (evPrim pInt [.e (evPrim pIxA [.r 0, .e (evLit (.str "digits"))])]), .r 1])) (evSeq (evAsgO (evPrim pFdiv [.e (evPrim pIxA [.r 0, .e (evLit (.str "digits"))]), .r 1]) (tgoSub 0 (evLit (.str "digits")))) (evRetMove 3))) evNil)
def DR4 : Es := (evSet 4 (evPrim pSum [.e (evPrim pSum [.e (evPrim pIxA [.r 0, .e (evLit (.str "fold"))]), .e (evPrim pMul [.e (evPrim pIxA [.r 0, .e (evLit (.str "count"))]), .e (evLit (.int 8039))])]), .e (evLit (.int 139))]))
def DR5 : Es := (evRet (evPrim pMod [.e (evPrim pFdiv [.e (evPrim pInt [.e (evPrim pMod [.e (evPrim pPow [.r 4, .e (evLit (.int 17))]), .e (evLit (.int 2305843009213693951))])]), .e (evLit (.int 128))]), .r 1]))
-- (evSeq DR1 (evSeq DR2 (evSeq DR3 (evSeq DR4 DR5))))

def dr2B (B : Es) : Es := (evIf (evTand (evPrimT pEq [.e (evPrim pIxA [.r 0, .e (evLit (.str "digits"))]), .e (evLit (.int 0))]) (evPrimT (pCmp ltI) [.e (evPrim pIxA [.r 0, .e (evLit (.str "at"))]), .e (evPrim pLen [.e (evPrim pIxA [.r 0, .e (evLit (.str "cells"))])])])) (evSeq (evSet 2 (evPrim pIxA [.e (evPrim pIxA [.r 0, .e (evLit (.str "cells"))]), .e (evPrim pIxA [.r 0, .e (evLit (.str "at"))])])) (evSeq (evAsgO (evPrim pSum [.e (evPrim pIxA [.r 0, .e (evLit (.str "at"))]), .e (evLit (.int 1))]) (tgoSub 0 (evLit (.str "at")))) (evIf (evPrimT (pCmp geI) [.r 2, .e (evPrim pPow [.e (evLit (.int 10)), .e (evLit (.int 18))])]) (evAsgO (evPrim pSub [.r 2, .e (evPrim pPow [.e (evLit (.int 10)), .e (evLit (.int 18))])]) (tgoSub 0 (evLit (.str "digits")))) B))) evNil)
theorem g_dr2 : DR2 = dr2B (evAsgO (evPrim pMod [.e (evPrim pInt [.e (evPrim pSum [.e (evPrim pMul [.e (evPrim pIxA [.r 0, .e (evLit (.str "fold"))]), .e (evLit (.int 70249))]), .r 2])]), .e (evLit (.int 2147482937))]) (tgoSub 0 (evLit (.str "fold")))) := rfl
theorem g_draw (n : Nat) : g__law_draw n = (evSeq DR1 (evSeq DR2 (evSeq DR3 (evSeq DR4 DR5)))) := rfl
theorem dr1 : DR1 (eP cells a g c f many x2 x3 x4) = .nx (eP cells a g (c + 1) f many x2 x3 x4) := by
  have h1 := pg_count (cs := .lst (cells.map .int)) (a := a) (g := g) (c := c) (f := f)
  have h2 : ∀ r, setSub 0 (.str "count") (iv (c + 1)) (some (penO (.lst (cells.map .int)) a g c f) :: r) = some (some (penO (.lst (cells.map .int)) a g (c + 1) f) :: r) := fun r => ps_count
  have h3 : pSum [.int c, .int 1] = some (iv (c + 1)) := rfl
  simp [evDef, back, evRet, evRetN, evRetMove, evMove, evSet, evSeq, evIf, evPrim, evPrimT, evOps, evLit, evVar, flatD, R.out, R.bind, evVor, evVand, evVnot, evTest, evTnot, evTand, evTor, evIfe, oB, FR.fin, evLst, evTup, evDs, evCall, evAs, fetch, unfetch, evNil, truthD, Ow.toD, evTrue, evFldL, evFldAug, evFldSet, evXp, evMethL, evPar, evOs, goAll, tgoName, tgoFld, evStrM, evBrk, evCnt, evAsgO, DR1, tgoSub, topD, h1, h2, h3]
theorem dr2 (hl : cells.length ≤ 63) (ha : 0 ≤ a) (hf : 0 ≤ f) (hf1 : f < 2147483648) (hg : 0 ≤ g) : ∃ a' g' f' y2, DR2 (eP cells a g c f many x2 x3 x4) = .nx (eP cells a' g' c f' many y2 x3 x4) ∧ 0 ≤ a' ∧ 0 ≤ g' ∧ 0 ≤ f' ∧ f' < 2147483648 := by
  have h1 := pg_digits (cs := .lst (cells.map .int)) (a := a) (g := g) (c := c) (f := f)
  have h2 := pg_at (cs := .lst (cells.map .int)) (a := a) (g := g) (c := c) (f := f)
  have h3 := pg_cells (cs := .lst (cells.map .int)) (a := a) (g := g) (c := c) (f := f)
  have h4 : pEq [.int g, .int 0] = some (.v () (.bl (decide (g = 0)))) := by simp [evDef, back, evRet, evRetN, evRetMove, evMove, evSet, evSeq, evIf, evPrim, evPrimT, evOps, evLit, evVar, flatD, R.out, R.bind, evVor, evVand, evVnot, evTest, evTnot, evTand, evTor, evIfe, oB, FR.fin, evLst, evTup, evDs, evCall, evAs, fetch, unfetch, evNil, truthD, Ow.toD, evTrue, evFldL, evFldAug, evFldSet, evXp, evMethL, evPar, evOs, goAll, tgoName, tgoFld, evStrM, evBrk, evCnt, evAsgO, pEq, eqD, D.fl, scal]
  have hsz : (63 : Nat) ≤ sizeLine := by decide
  have h5 : pLen [.lst (cells.map .int)] = some (iv (cells.length : Nat)) := by
    simp only [pLen, lenD, List.length_map]; rfl
  have h6 : pCmp ltI [.int a, .int (cells.length : Nat)] = some (.v () (.bl (decide (a < cells.length)))) := rfl
  by_cases hgz : g = 0
  · subst hgz
    by_cases hal : a < cells.length
    · have hk : a.toNat < cells.length := by omega
      have h7 : pIxA [.lst (cells.map .int), .int a] = some (iv (cells[a.toNat]'hk)) := by
        have h8 : a < (cells.length : Int) := hal
        have h9 : ¬ a < 0 := by omega
        simp [evDef, back, evRet, evRetN, evRetMove, evMove, evSet, evSeq, evIf, evPrim, evPrimT, evOps, evLit, evVar, flatD, R.out, R.bind, evVor, evVand, evVnot, evTest, evTnot, evTand, evTor, evIfe, oB, FR.fin, evLst, evTup, evDs, evCall, evAs, fetch, unfetch, evNil, truthD, Ow.toD, evTrue, evFldL, evFldAug, evFldSet, evXp, evMethL, evPar, evOs, goAll, tgoName, tgoFld, evStrM, evBrk, evCnt, evAsgO, pIxA, ixA, ixD, atI, ixN, ha, h8, h9, hk]
      generalize cells[a.toNat]'hk = z at h7
      have h8 : pSum [.int a, .int 1] = some (iv (a + 1)) := rfl
      have h9 : ∀ r, setSub 0 (.str "at") (iv (a + 1)) (some (penO (.lst (cells.map .int)) a 0 c f) :: r) = some (some (penO (.lst (cells.map .int)) (a + 1) 0 c f) :: r) := fun r => ps_at
      have e10 : pPow [.int 10, .int 18] = some (iv 1000000000000000000) := rfl
      have e11 : pCmp geI [.int z, .int 1000000000000000000] = some (.v () (.bl (decide (1000000000000000000 ≤ z)))) := rfl
      have e12 : pSub [.int z, .int 1000000000000000000] = some (iv (z - 1000000000000000000)) := rfl
      have e13 : ∀ r, setSub 0 (.str "digits") (iv (z - 1000000000000000000)) (some (penO (.lst (cells.map .int)) (a + 1) 0 c f) :: r) = some (some (penO (.lst (cells.map .int)) (a + 1) (z - 1000000000000000000) c f) :: r) := fun r => ps_digits
      have e14 := pg_fold (cs := .lst (cells.map .int)) (a := a + 1) (g := 0) (c := c) (f := f)
      have e15 : pMul [.int f, .int 70249] = some (iv (f * 70249)) := mul_small hf (by omega) (by decide) (by decide)
      have e16 : pSum [.int (f * 70249), .int z] = some (iv (f * 70249 + z)) := rfl
      have e17 : pInt [.int (f * 70249 + z)] = some (iv (f * 70249 + z)) := rfl
      have e18 : pMod [.int (f * 70249 + z), .int 2147482937] = some (iv ((f * 70249 + z) % 2147482937)) := rfl
      have m1 : 0 ≤ (f * 70249 + z) % 2147482937 := Int.emod_nonneg _ (by decide)
      have m2 : (f * 70249 + z) % 2147482937 < 2147482937 := Int.emod_lt_of_pos _ (by decide)
      generalize hfm : (f * 70249 + z) % 2147482937 = fm at *
      have e19 : ∀ r, setSub 0 (.str "fold") (iv fm) (some (penO (.lst (cells.map .int)) (a + 1) 0 c f) :: r) = some (some (penO (.lst (cells.map .int)) (a + 1) 0 c fm) :: r) := fun r => ps_fold
      have hal' : decide (a < (cells.length : Int)) = true := by simpa [evDef, back, evRet, evRetN, evRetMove, evMove, evSet, evSeq, evIf, evPrim, evPrimT, evOps, evLit, evVar, flatD, R.out, R.bind, evVor, evVand, evVnot, evTest, evTnot, evTand, evTor, evIfe, oB, FR.fin, evLst, evTup, evDs, evCall, evAs, fetch, unfetch, evNil, truthD, Ow.toD, evTrue, evFldL, evFldAug, evFldSet, evXp, evMethL, evPar, evOs, goAll, tgoName, tgoFld, evStrM, evBrk, evCnt, evAsgO] using hal
      rw [hal'] at h6
      by_cases hz : 1000000000000000000 ≤ z
      · refine ⟨a + 1, z - 1000000000000000000, f, some (iv z), ?_, by omega, by omega, hf, hf1⟩
        generalize z - 1000000000000000000 = zd at *
        generalize a + 1 = a1 at *
        generalize (cells.length : Int) = ln at *
        clear e14 e15 e16 e17 e18 e19
        rw [g_dr2]
        generalize evAsgO (evPrim pMod [.e (evPrim pInt [.e (evPrim pSum [.e (evPrim pMul [.e (evPrim pIxA [.r 0, .e (evLit (.str "fold"))]), .e (evLit (.int 70249))]), .r 2])]), .e (evLit (.int 2147482937))]) (tgoSub 0 (evLit (.str "fold"))) = B
        simp [evDef, back, evRet, evRetN, evRetMove, evMove, evSet, evSeq, evIf, evPrim, evPrimT, evOps, evLit, evVar, flatD, R.out, R.bind, evVor, evVand, evVnot, evTest, evTnot, evTand, evTor, evIfe, oB, FR.fin, evLst, evTup, evDs, evCall, evAs, fetch, unfetch, evNil, truthD, Ow.toD, evTrue, evFldL, evFldAug, evFldSet, evXp, evMethL, evPar, evOs, goAll, tgoName, tgoFld, evStrM, evBrk, evCnt, evAsgO, dr2B, tgoSub, topD, h1, h2, h3, h4, h5, h6, h7, h8, h9, e10, e11, hz, e12, e13]
      · refine ⟨a + 1, 0, fm, some (iv z), ?_, by omega, by omega, by omega, by omega⟩
        have u1 := pk (.lst (cells.map .int)) (a + 1) 0 c f many (some (iv z)) x3 x4 "fold" _ e14
        have u2 : evAsgO (evPrim pMod [.e (evPrim pInt [.e (evPrim pSum [.e (evPrim pMul [.e (evPrim pIxA [.r 0, .e (evLit (.str "fold"))]), .e (evLit (.int 70249))]), .r 2])]), .e (evLit (.int 2147482937))]) (tgoSub 0 (evLit (.str "fold"))) (eP cells (a + 1) 0 c f many (some (iv z)) x3 x4) = .nx (eP cells (a + 1) 0 c fm many (some (iv z)) x3 x4) :=
          ev_asg (ev_ee (ev_e (ev_er (ev_ee u1 ev_lit e15) rfl e16) e17) ev_lit e18) (e19 _)
        rw [g_dr2]
        revert u2
        generalize evAsgO (evPrim pMod [.e (evPrim pInt [.e (evPrim pSum [.e (evPrim pMul [.e (evPrim pIxA [.r 0, .e (evLit (.str "fold"))]), .e (evLit (.int 70249))]), .r 2])]), .e (evLit (.int 2147482937))]) (tgoSub 0 (evLit (.str "fold"))) = B
        intro u2
        clear e14 e15 e16 e17 e18 e19 u1
        generalize a + 1 = a1 at *
        generalize (cells.length : Int) = ln at *
        simp [evDef, back, evRet, evRetN, evRetMove, evMove, evSet, evSeq, evIf, evPrim, evPrimT, evOps, evLit, evVar, flatD, R.out, R.bind, evVor, evVand, evVnot, evTest, evTnot, evTand, evTor, evIfe, oB, FR.fin, evLst, evTup, evDs, evCall, evAs, fetch, unfetch, evNil, truthD, Ow.toD, evTrue, evFldL, evFldAug, evFldSet, evXp, evMethL, evPar, evOs, goAll, tgoName, tgoFld, evStrM, evBrk, evCnt, evAsgO, dr2B, tgoSub, topD, h1, h2, h3, h4, h5, h6, h7, h8, h9, e10, e11, hz, u2]
    · refine ⟨a, 0, f, x2, ?_, ha, hg, hf, hf1⟩
      simp [evDef, back, evRet, evRetN, evRetMove, evMove, evSet, evSeq, evIf, evPrim, evPrimT, evOps, evLit, evVar, flatD, R.out, R.bind, evVor, evVand, evVnot, evTest, evTnot, evTand, evTor, evIfe, oB, FR.fin, evLst, evTup, evDs, evCall, evAs, fetch, unfetch, evNil, truthD, Ow.toD, evTrue, evFldL, evFldAug, evFldSet, evXp, evMethL, evPar, evOs, goAll, tgoName, tgoFld, evStrM, evBrk, evCnt, evAsgO, DR2, topD, h1, h2, h3, h4, h5, h6, hal]
  · refine ⟨a, g, f, x2, ?_, ha, hg, hf, hf1⟩
    simp [evDef, back, evRet, evRetN, evRetMove, evMove, evSet, evSeq, evIf, evPrim, evPrimT, evOps, evLit, evVar, flatD, R.out, R.bind, evVor, evVand, evVnot, evTest, evTnot, evTand, evTor, evIfe, oB, FR.fin, evLst, evTup, evDs, evCall, evAs, fetch, unfetch, evNil, truthD, Ow.toD, evTrue, evFldL, evFldAug, evFldSet, evXp, evMethL, evPar, evOs, goAll, tgoName, tgoFld, evStrM, evBrk, evCnt, evAsgO, DR2, topD, h1, h4, hgz]
theorem dr3 (h0 : 0 < many) (h1 : many < 1073741824) (hg : 0 ≤ g) : (g = 0 ∧ DR3 (eP cells a g c f many x2 x3 x4) = .nx (eP cells a g c f many x2 x3 x4)) ∨ ∃ d g' y3, 0 ≤ d ∧ d < many ∧ 0 ≤ g' ∧ DR3 (eP cells a g c f many x2 x3 x4) = .ret (iv d) (eP cells a g' c f many x2 y3 x4) := by
  have p1 := pg_digits (cs := .lst (cells.map .int)) (a := a) (g := g) (c := c) (f := f)
  by_cases hz : g = 0
  · subst hz
    exact .inl ⟨rfl, by simp [evDef, back, evRet, evRetN, evRetMove, evMove, evSet, evSeq, evIf, evPrim, evPrimT, evOps, evLit, evVar, flatD, R.out, R.bind, evVor, evVand, evVnot, evTest, evTnot, evTand, evTor, evIfe, oB, FR.fin, evLst, evTup, evDs, evCall, evAs, fetch, unfetch, evNil, truthD, Ow.toD, evTrue, evFldL, evFldAug, evFldSet, evXp, evMethL, evPar, evOs, goAll, tgoName, tgoFld, evStrM, evBrk, evCnt, evAsgO, DR3, topD, p1, pCmp, gtI]⟩
  · have hp : 0 < g := by omega
    have p2 : pCmp gtI [.int g, .int 0] = some tt := by simp [evDef, back, evRet, evRetN, evRetMove, evMove, evSet, evSeq, evIf, evPrim, evPrimT, evOps, evLit, evVar, flatD, R.out, R.bind, evVor, evVand, evVnot, evTest, evTnot, evTand, evTor, evIfe, oB, FR.fin, evLst, evTup, evDs, evCall, evAs, fetch, unfetch, evNil, truthD, Ow.toD, evTrue, evFldL, evFldAug, evFldSet, evXp, evMethL, evPar, evOs, goAll, tgoName, tgoFld, evStrM, evBrk, evCnt, evAsgO, pCmp, gtI, hp]
    have p3 : pInt [.int g] = some (iv g) := rfl
    have p4 : pMod [.int g, .int many] = some (iv (g % many)) := by simp [evDef, back, evRet, evRetN, evRetMove, evMove, evSet, evSeq, evIf, evPrim, evPrimT, evOps, evLit, evVar, flatD, R.out, R.bind, evVor, evVand, evVnot, evTest, evTnot, evTand, evTor, evIfe, oB, FR.fin, evLst, evTup, evDs, evCall, evAs, fetch, unfetch, evNil, truthD, Ow.toD, evTrue, evFldL, evFldAug, evFldSet, evXp, evMethL, evPar, evOs, goAll, tgoName, tgoFld, evStrM, evBrk, evCnt, evAsgO, pMod, h0]
    have p5 : pFdiv [.int g, .int many] = some (iv (g / many)) := by simp [evDef, back, evRet, evRetN, evRetMove, evMove, evSet, evSeq, evIf, evPrim, evPrimT, evOps, evLit, evVar, flatD, R.out, R.bind, evVor, evVand, evVnot, evTest, evTnot, evTand, evTor, evIfe, oB, FR.fin, evLst, evTup, evDs, evCall, evAs, fetch, unfetch, evNil, truthD, Ow.toD, evTrue, evFldL, evFldAug, evFldSet, evXp, evMethL, evPar, evOs, goAll, tgoName, tgoFld, evStrM, evBrk, evCnt, evAsgO, pFdiv, h0, h1]
    have p6 : ∀ r, setSub 0 (.str "digits") (iv (g / many)) (some (penO (.lst (cells.map .int)) a g c f) :: r) = some (some (penO (.lst (cells.map .int)) a (g / many) c f) :: r) := fun r => ps_digits
    refine .inr ⟨g % many, g / many, none, Int.emod_nonneg _ (by omega), Int.emod_lt_of_pos _ h0, Int.ediv_nonneg hg (by omega), ?_⟩
    generalize g % many = w1 at *
    generalize g / many = w2 at *
    simp [evDef, back, evRet, evRetN, evRetMove, evMove, evSet, evSeq, evIf, evPrim, evPrimT, evOps, evLit, evVar, flatD, R.out, R.bind, evVor, evVand, evVnot, evTest, evTnot, evTand, evTor, evIfe, oB, FR.fin, evLst, evTup, evDs, evCall, evAs, fetch, unfetch, evNil, truthD, Ow.toD, evTrue, evFldL, evFldAug, evFldSet, evXp, evMethL, evPar, evOs, goAll, tgoName, tgoFld, evStrM, evBrk, evCnt, evAsgO, DR3, tgoSub, topD, p1, p2, p3, p4, p5, p6]
theorem dr45 (hf : 0 ≤ f) (hf1 : f < 2147483648) (hc : 0 ≤ c) (hc1 : c < 1099511627776) (h0 : 0 < many) (h1 : many < 1073741824) : ∃ d y4, 0 ≤ d ∧ d < many ∧ evSeq DR4 DR5 (eP cells a g c f many x2 x3 x4) = .ret (iv d) (eP cells a g c f many x2 x3 y4) := by
  have p1 := pg_fold (cs := .lst (cells.map .int)) (a := a) (g := g) (c := c) (f := f)
  have p2 := pg_count (cs := .lst (cells.map .int)) (a := a) (g := g) (c := c) (f := f)
  have p3 : pMul [.int c, .int 8039] = some (iv (c * 8039)) := mul_small hc (by omega) (by decide) (by decide)
  have p4 : pSum [.int f, .int (c * 8039)] = some (iv (f + c * 8039)) := rfl
  have p5 : pSum [.int (f + c * 8039), .int 139] = some (iv (f + c * 8039 + 139)) := rfl
  have p6 : pPow [.int (f + c * 8039 + 139), .int 17] = some (iv ((f + c * 8039 + 139) ^ 17)) := by
    simp only [pPow]
    rw [if_pos (by omega)]
    rfl
  have p7 : pMod [.int ((f + c * 8039 + 139) ^ 17), .int 2305843009213693951] = some (iv (((f + c * 8039 + 139) ^ 17) % 2305843009213693951)) := by simp [evDef, back, evRet, evRetN, evRetMove, evMove, evSet, evSeq, evIf, evPrim, evPrimT, evOps, evLit, evVar, flatD, R.out, R.bind, evVor, evVand, evVnot, evTest, evTnot, evTand, evTor, evIfe, oB, FR.fin, evLst, evTup, evDs, evCall, evAs, fetch, unfetch, evNil, truthD, Ow.toD, evTrue, evFldL, evFldAug, evFldSet, evXp, evMethL, evPar, evOs, goAll, tgoName, tgoFld, evStrM, evBrk, evCnt, evAsgO, pMod]
  generalize ((f + c * 8039 + 139) ^ 17) % 2305843009213693951 = v1 at *
  have p8 : pInt [.int v1] = some (iv v1) := rfl
  have p9 : pFdiv [.int v1, .int 128] = some (iv (v1 / 128)) := by simp [evDef, back, evRet, evRetN, evRetMove, evMove, evSet, evSeq, evIf, evPrim, evPrimT, evOps, evLit, evVar, flatD, R.out, R.bind, evVor, evVand, evVnot, evTest, evTnot, evTand, evTor, evIfe, oB, FR.fin, evLst, evTup, evDs, evCall, evAs, fetch, unfetch, evNil, truthD, Ow.toD, evTrue, evFldL, evFldAug, evFldSet, evXp, evMethL, evPar, evOs, goAll, tgoName, tgoFld, evStrM, evBrk, evCnt, evAsgO, pFdiv]
  generalize v1 / 128 = v2 at *
  have q1 : pMod [.int v2, .int many] = some (iv (v2 % many)) := by simp [evDef, back, evRet, evRetN, evRetMove, evMove, evSet, evSeq, evIf, evPrim, evPrimT, evOps, evLit, evVar, flatD, R.out, R.bind, evVor, evVand, evVnot, evTest, evTnot, evTand, evTor, evIfe, oB, FR.fin, evLst, evTup, evDs, evCall, evAs, fetch, unfetch, evNil, truthD, Ow.toD, evTrue, evFldL, evFldAug, evFldSet, evXp, evMethL, evPar, evOs, goAll, tgoName, tgoFld, evStrM, evBrk, evCnt, evAsgO, pMod, h0]
  refine ⟨v2 % many, some (iv (f + c * 8039 + 139)), Int.emod_nonneg _ (by omega), Int.emod_lt_of_pos _ h0, ?_⟩
  have r1 := pk (.lst (cells.map .int)) a g c f many x2 x3 x4 "fold" _ p1
  have r2 := pk (.lst (cells.map .int)) a g c f many x2 x3 x4 "count" _ p2
  have r3 : DR4 (eP cells a g c f many x2 x3 x4) = .nx (eP cells a g c f many x2 x3 (some (iv (f + c * 8039 + 139)))) := ev_set (ev_ee (ev_ee r1 (ev_ee r2 ev_lit p3) p4) ev_lit p5)
  have r4 : DR5 (eP cells a g c f many x2 x3 (some (iv (f + c * 8039 + 139)))) = .ret (iv (v2 % many)) (eP cells a g c f many x2 x3 (some (iv (f + c * 8039 + 139)))) := ev_ret (ev_er (ev_ee (ev_e (ev_ee (ev_re rfl ev_lit rfl p6) ev_lit p7) p8) ev_lit p9) rfl q1)
  exact ev_seq r3 r4
end
theorem ev_def {keep : List Bool} {nn : Nat} {body : Es} {os : List O} {e1 e2 : Env} {o : O} (hl : os.length = keep.length) (e0 : (os.map some ++ List.replicate (nn - keep.length) none : Env) = e1) (h : body e1 = .ret o e2) : evDef keep nn body os = .ok o (back keep e2) := by
  simp only [evDef, hl, if_true, e0, h]
theorem draw_run (n m : Nat) (q : O) (many : Int) (hq : IsPen m q) (hm : m < 549755813888) (h0 : 0 < many) (h1 : many < 1073741824) : ∃ d q', F__law_draw n [q, iv many] = .ok (iv d) [some q', some (iv many)] ∧ 0 ≤ d ∧ d < many ∧ IsPen (m + 1) q' := by
  obtain ⟨cells, a, g, c, f, rfl, P⟩ := hq
  obtain ⟨a', g', f', y2, e2, k1, k2, k3, k4⟩ := dr2 (c := c + 1) (many := many) (x2 := none) (x3 := none) (x4 := none) P.len P.a0 P.f0 P.f1 P.g0
  have pc := P.cm
  have pc0 := P.c0
  have gd : ∀ {o e}, evSeq DR1 (evSeq DR2 (evSeq DR3 (evSeq DR4 DR5))) (eP cells a g c f many none none none) = .ret o e → F__law_draw n [penO (.lst (cells.map .int)) a g c f, iv many] = .ok o (back [true, true] e) := fun h => by
    rw [F__law_draw, g_draw]
    exact ev_def rfl rfl h
  rcases dr3 (cells := cells) (a := a') (g := g') (c := c + 1) (f := f') (x2 := y2) (x3 := none) (x4 := none) h0 h1 k2 with ⟨e, h⟩ | ⟨d, g2, y3, d0, d1, g0, h⟩
  · subst e
    obtain ⟨d, y4, d0, d1, h5⟩ := dr45 (cells := cells) (a := a') (g := 0) (c := c + 1) (f := f') (x2 := y2) (x3 := none) (x4 := none) k3 k4 (by omega) (by omega) h0 h1
    exact ⟨d, penO (.lst (cells.map .int)) a' 0 (c + 1) f', gd (ev_seq dr1 (ev_seq e2 (ev_seq h h5))), d0, d1, cells, a', 0, c + 1, f', rfl, P.len, k1, by omega, by omega, by omega, k3, k4⟩
  · exact ⟨d, penO (.lst (cells.map .int)) a' g2 (c + 1) f', gd (ev_seq dr1 (ev_seq e2 (ev_seq_ret h))), d0, d1, cells, a', g2, c + 1, f', rfl, P.len, k1, g0, by omega, by omega, k3, k4⟩
end EV

set_option linter.all false
set_option maxRecDepth 100000
set_option maxHeartbeats 4000000
namespace EV
open PySem PySem.Spec PyProof.Rows L2
section
variable {F : Fn} {f : Ev} {env e1 e2 : Env} {o1 o2 r : O} {i j : Nat} {bk : Env} {q q2 x : O}
theorem ev_fetch1 (h : env[i]? = some (some q)) (h1 : f env = .ok (x, e1)) (h2 : e1[i]? = some (some q)) (hF : F [q, x] = .ok r [some q2, o]) : evCall F [.l i, .e f] [] env = .ok (r, e1.set i (some q2)) := by
  simp only [evCall, evAs, h, R.bind, h1, fetch, h2, Option.map_some, List.map_nil, List.append_nil, hF, FR.fin, unfetch, List.set_set]
theorem ev_fetch2 (hij : i ≠ j) (h : env[i]? = some (some q)) (h2 : env[j]? = some (some x)) (hF : F [q, x] = .ok r [some q2, some o2]) : evCall F [.l i, .l j] [] env = .ok (r, (env.set i (some q2)).set j (some o2)) := by
  have h3 : (env.set i none)[j]? = some (some x) := by rw [List.getElem?_set_ne hij]; exact h2
  simp only [evCall, evAs, h, h2, R.bind, fetch, h3, Option.map_some, List.map_nil, List.append_nil, hF, FR.fin, unfetch]
  congr 2
  rw [List.set_set, List.set_comm _ _ hij, List.set_set, List.set_comm _ _ (Ne.symm hij)]
end
/-- a loop that keeps an invariant -/
theorem for_inv {t : Tg} {B : Es} : ∀ {ds : List D} {I : Nat → Env → Prop} {e : Env}, (∀ k d, ds[k]? = some d → ∀ e, I k e → ∃ e1 e2, t d e = some e1 ∧ (B e1 = .nx e2 ∨ B e1 = .cnt e2) ∧ I (k + 1) e2) → I 0 e → ∃ e', forD t B ds e = .nx e' ∧ I ds.length e'
  | [], I, e, _, h => ⟨e, rfl, h⟩
  | d :: ds, I, e, hs, h => by
    obtain ⟨e1, e2, h1, h2, h3⟩ := hs 0 d rfl e h
    obtain ⟨e', h4, h5⟩ := for_inv (t := t) (B := B) (ds := ds) (I := fun k => I (k + 1)) (fun k d hd => hs (k + 1) d (by simpa using hd)) h3
    refine ⟨e', ?_, h5⟩
    rcases h2 with h2 | h2
    · simp only [forD, h1, h2]
      exact h4
    · simp only [forD, h1, h2]
      exact h4
/-! pen -/
theorem mod_range {x : Int} : 0 ≤ x % 1000000787 ∧ x % 1000000787 < 1000000787 := ⟨Int.emod_nonneg _ (by decide), Int.emod_lt_of_pos _ (by decide)⟩
def penB : Es := (evSet 1 (evPrim pMod [.e (evPrim pInt [.e (evPrim pSum [.e (evPrim pMul [.r 1, .e (evLit (.int 227))]), .r 2])]), .e (evLit (.int 1000000787))]))
theorem pen_turn {a : O} {f z : Int} (h0 : 0 ≤ f) (h1 : f < 1000000787) : penB [some a, some (iv f), some (iv z)] = .nx [some a, some (iv ((f * 227 + z) % 1000000787)), some (iv z)] := by
  have e1 : pMul [.int f, .int 227] = some (iv (f * 227)) := mul_small h0 (by omega) (by decide) (by decide)
  generalize f * 227 = w1 at *
  have e2 : pSum [.int w1, .int z] = some (iv (w1 + z)) := rfl
  generalize w1 + z = w2 at *
  have e3 : pInt [.int w2] = some (iv w2) := rfl
  have e4 : pMod [.int w2, .int 1000000787] = some (iv (w2 % 1000000787)) := by simp [pMod]
  generalize w2 % 1000000787 = w3 at *
  exact ev_set (ev_ee (ev_e (ev_er (ev_re rfl ev_lit rfl e1) rfl e2) e3) ev_lit e4)
theorem pen_loop {a : O} {ns : List Int} {f : Int} {x2 : Option O} (h0 : 0 ≤ f) (h1 : f < 1000000787) : ∃ f' y2, forD (tgName 2) penB (ns.map .int) [some a, some (iv f), x2] = .nx [some a, some (iv f'), y2] ∧ 0 ≤ f' ∧ f' < 1000000787 := by
  obtain ⟨e, h, f', y2, rfl, h2, h3⟩ := for_inv (t := tgName 2) (B := penB) (ds := ns.map .int) (I := fun _ e => ∃ f' y2, e = [some a, some (iv f'), y2] ∧ 0 ≤ f' ∧ f' < 1000000787) (e := [some a, some (iv f), x2]) (fun k d hd e he => by
    obtain ⟨f', y2, rfl, k0, k1⟩ := he
    rw [List.getElem?_map] at hd
    obtain ⟨z, _, rfl⟩ := Option.map_eq_some_iff.mp hd
    exact ⟨_, _, rfl, .inl (pen_turn k0 k1), _, _, rfl, mod_range.1, mod_range.2⟩) ⟨f, x2, rfl, h0, h1⟩
  exact ⟨f', y2, h, h2, h3⟩
theorem pen_run (n : Nat) (ns : List Int) (hl : ns.length ≤ 63) : ∃ q b, F__law_pen n [.v () (.scr (ns.map .int))] = .ok q b ∧ b = [some (.v () (.scr (ns.map .int)))] ∧ IsPen 0 q := by
  obtain ⟨f', y2, h, h2, h3⟩ := pen_loop (a := .v () (.scr (ns.map .int))) (ns := ns) (f := 61) (x2 := none) (by decide) (by decide)
  have hs : (63 : Nat) ≤ sizeLine := by decide
  refine ⟨penO (.lst (ns.map .int)) 0 0 0 f', _, ?_, rfl, ns, 0, 0, 0, f', rfl, hl, by decide, by decide, by decide, by decide, h2, by omega⟩
  have s1 : evFor (evItE (evVar 0)) (tgName 2) penB [some (.v () (.scr (ns.map .int))), some (iv 61), none] = .nx [some (.v () (.scr (ns.map .int))), some (iv f'), y2] := by
    rw [← h]
    simp [evFor, evItE, evVar, R.bind, R.out, Ow.toD, itemsD]
  have s2 : evRet (evDict [("cells", evFrz (evPrim pList [.r 0])), ("at", evFrz (evLit (.int 0))), ("digits", evFrz (evLit (.int 0))), ("count", evFrz (evLit (.int 0))), ("fold", evFrz (evVar 1))]) [some (.v () (.scr (ns.map .int))), some (iv f'), y2] = .ret (penO (.lst (ns.map .int)) 0 0 0 f') [some (.v () (.scr (ns.map .int))), some (iv f'), y2] := by
    simp [evRet, evDict, evDictV, evFrz, evPrim, evOps, flatD, R.bind, R.out, pList, newL, Ow.toD, toDs_v, toDs_f, evLit, evVar, zipK]
  have g : g__law_pen n = evSeq (evSet 1 (evLit (.int 61))) (evSeq (evFor (evItE (evVar 0)) (tgName 2) penB) (evRet (evDict [("cells", evFrz (evPrim pList [.r 0])), ("at", evFrz (evLit (.int 0))), ("digits", evFrz (evLit (.int 0))), ("count", evFrz (evLit (.int 0))), ("fold", evFrz (evVar 1))]))) := rfl
  rw [F__law_pen, g]
  exact ev_def (e1 := [some (.v () (.scr (ns.map .int))), none, none]) rfl rfl (ev_seq (ev_set ev_lit) (ev_seq s1 s2))
/-! pick -/
theorem pick_run (n m : Nat) (q : O) (ds : List D) (hq : IsPen m q) (hm : m < 549755813888) (h0 : ds ≠ []) (h1 : ds.length < 1073741824) : ∃ d q', F__law_pick n [q, newL ds] = .ok (.v () d) [some q', some (newL ds)] ∧ d ∈ ds ∧ IsPen (m + 1) q' := by
  have hp : 0 < ds.length := List.length_pos_iff.mpr h0
  obtain ⟨d, q', e, d0, d1, hq'⟩ := draw_run n m q ds.length hq hm (by omega) (by omega)
  have hk : d.toNat < ds.length := by omega
  have hl : flatD (some (some (newL ds))) = some (.lst ds) := by
    have tp : (topD ∘ Ow.v ()) = (id : D → D) := rfl
    simp [newL, flatD, tp]
  have e2 : pLen [.lst ds] = some (iv (ds.length : Nat)) := rfl
  have e3 : pIxA [.lst ds, .int d] = some (.v () (ds[d.toNat]'hk)) := by
    have h8 : d < (ds.length : Int) := d1
    have h9 : ¬ d < 0 := by omega
    simp [pIxA, ixA, ixD, atI, ixN, d0, h8, h9, hk]
  refine ⟨ds[d.toNat]'hk, q', ?_, List.getElem_mem hk, hq'⟩
  generalize ds[d.toNat]'hk = z at e3
  have s1 : evPrim pLen [.r 1] [some q, some (newL ds)] = .ok (iv (ds.length : Nat), [some q, some (newL ds)]) := by
    simp only [evPrim, evOps, R.bind, List.getElem?_cons_succ, List.getElem?_cons_zero]
    rw [show (some (some (newL ds)) : Option (Option O)) = some (some (newL ds)) from rfl, hl]
    simp only [e2]
  have s2 : evCall (F__law_draw n) [.l 0, .e (evPrim pLen [.r 1])] [] [some q, some (newL ds)] = .ok (iv d, [some q', some (newL ds)]) := ev_fetch1 rfl s1 rfl e
  have s3 : g__law_pick n [some q, some (newL ds)] = .ret (.v () z) [some q', some (newL ds)] := by
    refine ev_ret ?_
    simp only [evPrim, evOps, R.bind, List.getElem?_cons_succ, List.getElem?_cons_zero, s2]
    rw [hl]
    simp only [Ow.toD, e3]
  rw [F__law_pick]
  exact ev_def (e1 := [some q, some (newL ds)]) rfl rfl s3
end EV

set_option linter.all false
set_option maxRecDepth 100000
set_option maxHeartbeats 4000000
namespace EV
open PySem PySem.Spec PyProof.Rows L2
section
variable {f : Ev} {env e1 : Env} {o : O} {i : Nat} {u : Unit} {ys xs : List O}
theorem pop_ev {j : Int} (h0 : env[i]? = some (some (.lst u ys))) (h : f env = .ok (iv j, e1)) (h1 : e1[i]? = some (some (.lst u xs))) (hj0 : 0 ≤ j) (hx : xs.length < 1073741824) (hj : j.toNat < xs.length) : evPop i f env = .ok (xs[j.toNat]'hj, e1.set i (some (.lst () (xs.eraseIdx j.toNat)))) := by
  have a1 : -(2 ^ 63) ≤ j ∧ j < 2 ^ 63 := by omega
  have a2 : seqIndex? j xs.length = some j.toNat := by
    have b1 : ¬ j < 0 := by omega
    have b2 : j < (xs.length : Int) := by omega
    simp [seqIndex?, b1, b2, hj0]
  have a3 : xs[j.toNat]? = some (xs[j.toNat]'hj) := List.getElem?_eq_getElem hj
  generalize xs[j.toNat]'hj = it at *
  simp only [evPop, h0, h, R.bind, Ow.toD, h1, if_pos a1, a2, a3]
theorem app_ev (h0 : env[i]? = some (some (.lst u ys))) (h : f env = .ok (o, e1)) (h1 : e1[i]? = some (some (.lst u xs))) (hl : xs.length < sizeLine) : evAppend i f env = .ok (.v () .non, e1.set i (some (.lst () (xs ++ [o])))) := by
  simp only [evAppend, h0, h, R.bind, h1, if_pos hl]
theorem xp_ev (h : f env = .ok (o, e1)) : evXp f env = .nx e1 := by
  simp only [evXp, h, R.out]
end
theorem flat_newL (l : List D) : flatD (some (some (newL l))) = some (.lst l) := by
  have tp : (topD ∘ Ow.v ()) = (id : D → D) := rfl
  simp [newL, flatD, tp]
theorem ev_len {env : Env} {j : Nat} {l : List D} (h : env[j]? = some (some (newL l))) : evPrim pLen [.r j] env = .ok (iv (l.length : Nat), env) := by
  have e2 : pLen [.lst l] = some (iv (l.length : Nat)) := rfl
  simp only [evPrim, evOps, h, R.bind, flat_newL, e2]
theorem newL_len (l : List D) : (l.map (Ow.v ())).length = l.length := by simp
theorem big_size : (1073741 : Nat) ≤ sizeLine := by decide
theorem erase_map {α β : Type} (f : α → β) : ∀ (l : List α) (k : Nat), (l.map f).eraseIdx k = (l.eraseIdx k).map f
  | [], _ => rfl
  | _ :: _, 0 => rfl
  | a :: l, k + 1 => by simp [erase_map f l k]
/-! shuffled -/
def shB (n : Nat) : Es := (evXp (evAppend 3 (evPop 2 (evCall (F__law_draw n) [.l 0, .e (evPrim pLen [.r 2])] []))))
theorem sh_turn {n m : Nat} {q : O} {ds L G : List D} {x4 : Option O} (hq : IsPen m q) (hm : m < 549755813888) (h0 : 0 < L.length) (h1 : L.length ≤ 1073741) (h2 : G.length < 1073741) :
    ∃ q' L' G', shB n [some q, some (newL ds), some (newL L), some (newL G), x4] = .nx [some q', some (newL ds), some (newL L'), some (newL G'), x4] ∧ IsPen (m + 1) q' ∧ L'.length + 1 = L.length ∧ G'.length = G.length + 1 ∧ (∀ x ∈ L', x ∈ L) ∧ ∀ x ∈ G', x ∈ G ∨ x ∈ L := by
  have hb := big_size
  obtain ⟨d, q', e, d0, d1, hq'⟩ := draw_run n m q L.length hq hm (by omega) (by omega)
  have hk : d.toNat < L.length := by omega
  have s2 : evCall (F__law_draw n) [.l 0, .e (evPrim pLen [.r 2])] [] [some q, some (newL ds), some (newL L), some (newL G), x4] = .ok (iv d, [some q', some (newL ds), some (newL L), some (newL G), x4]) := ev_fetch1 rfl (ev_len rfl) rfl e
  have s3 : evPop 2 (evCall (F__law_draw n) [.l 0, .e (evPrim pLen [.r 2])] []) [some q, some (newL ds), some (newL L), some (newL G), x4] = .ok ((L.map (Ow.v ()))[d.toNat]'(by rw [newL_len]; exact hk), [some q', some (newL ds), some (.lst () ((L.map (Ow.v ())).eraseIdx d.toNat)), some (newL G), x4]) := pop_ev (ys := L.map (.v ())) rfl s2 rfl d0 (by rw [newL_len]; omega) (by rw [newL_len]; exact hk)
  have s4 : evAppend 3 (evPop 2 (evCall (F__law_draw n) [.l 0, .e (evPrim pLen [.r 2])] [])) [some q, some (newL ds), some (newL L), some (newL G), x4] = .ok (.v () .non, [some q', some (newL ds), some (.lst () ((L.map (Ow.v ())).eraseIdx d.toNat)), some (.lst () (G.map (Ow.v ()) ++ [(L.map (Ow.v ()))[d.toNat]'(by rw [newL_len]; exact hk)])), x4]) := app_ev (ys := G.map (.v ())) rfl s3 rfl (by rw [newL_len]; omega)
  refine ⟨q', L.eraseIdx d.toNat, G ++ [L[d.toNat]'hk], ?_, hq', ?_, by simp, fun x hx => List.mem_of_mem_eraseIdx hx, fun x hx => ?_⟩
  · rw [shB, xp_ev s4]
    simp [newL, erase_map]
  · rw [List.length_eraseIdx, if_pos hk]; omega
  · rcases List.mem_append.mp hx with h | h
    · exact .inl h
    · right
      simp only [List.mem_singleton] at h
      subst h
      exact List.getElem_mem hk
theorem shuffled_run (n m : Nat) (q : O) (ds : List D) (hq : IsPen m q) (h1 : ds.length ≤ 100000) (hm : m + ds.length < 549755813888) : ∃ q' G, F__law_shuffled n [q, newL ds] = .ok (newL G) [some q', some (newL ds)] ∧ IsPen (m + ds.length) q' ∧ G.length = ds.length ∧ ∀ x ∈ G, x ∈ ds := by
  have hb := big_size
  have s1 : evPar [(evPrim pList [.r 1]), (evLst [])] [(tgoName 2), (tgoName 3)] [some q, some (newL ds), none, none, none] = .nx [some q, some (newL ds), some (newL ds), some (newL []), none] := by
    simp only [evPar, evOs, evPrim, evOps, R.bind, R.out, List.getElem?_cons_succ, List.getElem?_cons_zero, flat_newL]
    rfl
  have s2 : evArgI [(evPrim pLen [.r 1])] kRange1 [some q, some (newL ds), some (newL ds), some (newL []), none] = .ok (rngD 0 ds.length, [some q, some (newL ds), some (newL ds), some (newL []), none]) := it_a (ev_len rfl) (range1_len (by omega))
  have hl : (rngD 0 ds.length).length = ds.length := by simp [rngD]
  obtain ⟨e, h, q', L, G, x4, rfl, k1, k2, k3, k4, k5⟩ := for_inv (t := tgName 4) (B := shB n) (ds := rngD 0 ds.length) (I := fun k e => ∃ q L G x4, e = [some q, some (newL ds), some (newL L), some (newL G), x4] ∧ IsPen (m + k) q ∧ L.length + k = ds.length ∧ G.length = k ∧ (∀ x ∈ L, x ∈ ds) ∧ ∀ x ∈ G, x ∈ ds) (e := [some q, some (newL ds), some (newL ds), some (newL []), none]) (fun k d hd e he => by
    obtain ⟨q, L, G, x4, rfl, k1, k2, k3, k4, k5⟩ := he
    have hk : k < ds.length := by
      have := (List.getElem?_eq_some_iff.mp hd).1
      omega
    obtain ⟨q', L', G', r1, r2, r3, r4, r5, r6⟩ := sh_turn (n := n) (ds := ds) (G := G) (x4 := some (.v () d)) k1 (by omega) (show 0 < L.length by omega) (by omega) (by omega)
    refine ⟨_, _, rfl, .inl r1, q', L', G', _, rfl, r2, by omega, by omega, fun x hx => k4 x (r5 x hx), fun x hx => ?_⟩
    rcases r6 x hx with h | h
    · exact k5 x h
    · exact k4 x h) ⟨q, ds, [], none, rfl, hq, by simp, rfl, fun x hx => hx, fun x hx => by cases hx⟩
  rw [hl] at k1 k2 k3
  refine ⟨q', G, ?_, k1, k3, k5⟩
  have g : g__law_shuffled n = evSeq (evPar [(evPrim pList [.r 1]), (evLst [])] [(tgoName 2), (tgoName 3)]) (evSeq (evFor (evArgI [(evPrim pLen [.r 1])] kRange1) (tgName 4) (shB n)) (evRetMove 3)) := rfl
  rw [F__law_shuffled, g]
  have s3 : evFor (evArgI [(evPrim pLen [.r 1])] kRange1) (tgName 4) (shB n) [some q, some (newL ds), some (newL ds), some (newL []), none] = .nx [some q', some (newL ds), some (newL L), some (newL G), x4] := by
    rw [for_r s2, h]
  have s4 : evRetMove 3 [some q', some (newL ds), some (newL L), some (newL G), x4] = .ret (newL G) [some q', some (newL ds), some (newL L), none, x4] := rfl
  exact ev_def (e1 := [some q, some (newL ds), none, none, none]) rfl rfl (ev_seq s1 (ev_seq s3 s4))
end EV

set_option linter.all false
set_option maxRecDepth 100000
set_option maxHeartbeats 4000000
namespace EV
open PySem PySem.Spec PyProof.Rows L2
theorem ev_fetch1' {F : Fn} {f : Ev} {env e1 : Env} {r q q0 q2 x : O} {o : Option O} {i : Nat} (h : env[i]? = some (some q0)) (h1 : f env = .ok (x, e1)) (h2 : e1[i]? = some (some q)) (hF : F [q, x] = .ok r [some q2, o]) : evCall F [.l i, .e f] [] env = .ok (r, e1.set i (some q2)) := by
  simp only [evCall, evAs, h, R.bind, h1, fetch, h2, Option.map_some, List.map_nil, List.append_nil, hF, FR.fin, unfetch, List.set_set]
theorem ev_lc {vs : List Nat} {it : EvI} {t : Tg} {c : Et} {f : Ev} {env e : Env} {ds : List D} {q : List D × Env} (h : it env = .ok (ds, e)) (hl : ds.length ≤ sizeLine) (h2 : lcD vs t c f ds (wipeE e vs) = some q) : evLc vs it t c f env = .ok (.lst () (q.1.map (.v ())), unwipe e q.2 vs) := by
  simp only [evLc, h, R.bind, if_pos hl, h2]
def abcW : List Nat := ("abcdefghijklmnopqrstuvwxyz" : Str).cps.toList
theorem abc_S : ("abcdefghijklmnopqrstuvwxyz" : Str) = S abcW := rfl
theorem abc_len : abcW.length = 26 := by decide +kernel
theorem abc_small : ∀ c ∈ abcW, c < 1114112 := by decide +kernel
theorem S_app (a b : List Nat) : S a ++ S b = S (a ++ b) := by
  show (⟨(S a).cps ++ (S b).cps⟩ : Str) = _
  simp [S]
theorem sum_S {a b : List Nat} (h : a.length + b.length ≤ sizeLine) : pSum [.str (S a), .str (S b)] = some (vs (S (a ++ b))) := by
  simp only [pSum]
  rw [if_pos (by rw [Str_len, Str_len]; exact h), S_app]
theorem cut_to {w : List Nat} {p : Int} (h0 : 0 ≤ p) (h1 : p ≤ (w.length : Int)) (hz : w.length ≤ sizeLine) : pSl false true [.str (S w), .int p] = some (vs (S (w.take p.toNat))) := by
  have e := eq_of_beq (slice_closes_toL (x := S w) (j := p) h0 (by rw [Str_len]; exact h1))
  simp only [pSl, slD]
  rw [if_pos (by rw [Str_len]; exact hz), e]
  simp
theorem cut_from {w : List Nat} {p : Int} (h0 : 0 ≤ p) (h1 : p ≤ (w.length : Int)) (hz : w.length ≤ sizeLine) : pSl true false [.str (S w), .int p] = some (vs (S (w.drop p.toNat))) := by
  have e := slice_from w p.toNat (by omega)
  rw [show ((p.toNat : Nat) : Int) = p by omega] at e
  simp only [pSl, slD]
  rw [if_pos (by rw [Str_len]; exact hz), e]
/-- texts of numbers below a hundred -/
def numW (i : Nat) : List Nat := (toString (i : Int) : Str).cps.toList
theorem num_all : ∀ i < 100, (numW i).length ≤ 2 ∧ ((i : Int).natAbs.log2 < 1920) ∧ (numW i).all (fun c => decide (c < 1114112)) = true := by decide +kernel
theorem str_num {i : Nat} (h : i < 100) : pStr [.int (i : Int)] = some (vs (S (numW i))) := by
  simp only [pStr]
  rw [if_pos (num_all i h).2.1]
  rfl
/-- a short text -/
def IsW (b : Nat) (w : List Nat) : Prop := w.length ≤ b ∧ ∀ c ∈ w, c < 1114112
def IsT (b : Nat) (d : D) : Prop := ∃ w, d = .str (S w) ∧ IsW b w
def nmB (n : Nat) : Es := (evSet 2 (evPrim pSum [.r 2, .e (evPrim pIxA [.e (evLit (.str "abcdefghijklmnopqrstuvwxyz")), .e (evCall (F__law_draw n) [.l 0, .e (evLit (.int 26))] [])])]))
theorem nm_turn {n m : Nat} {q : O} {x1 x3 x4 : Option O} {w : List Nat} (hq : IsPen m q) (hm : m < 549755813888) (hw : IsW 1000 w) :
    ∃ q' c, nmB n [some q, x1, some (vs (S w)), x3, x4] = .nx [some q', x1, some (vs (S (w ++ [c]))), x3, x4] ∧ IsPen (m + 1) q' ∧ c < 1114112 := by
  have hb := big_size
  obtain ⟨d, q', e, d0, d1, hq'⟩ := draw_run n m q 26 hq hm (by omega) (by omega)
  have hk : d.toNat < abcW.length := by rw [abc_len]; omega
  have hg : abcW[d.toNat]? = some (abcW[d.toNat]'hk) := List.getElem?_eq_getElem hk
  have hc := abc_small _ (List.getElem_mem hk)
  generalize abcW[d.toNat]'hk = c at *
  have s1 : evCall (F__law_draw n) [.l 0, .e (evLit (.int 26))] [] [some q, x1, some (vs (S w)), x3, x4] = .ok (iv d, [some q', x1, some (vs (S w)), x3, x4]) := ev_fetch1 rfl ev_lit rfl e
  have s2 : pIxA [.str "abcdefghijklmnopqrstuvwxyz", .int d] = some (vs (cc c)) := by
    have := at_ix abcW d.toNat c hg (by rw [abc_len]; omega)
    rw [show ((d.toNat : Nat) : Int) = d by omega] at this
    simp only [pIxA, abc_S, this]
    rfl
  have s3 : pSum [.str (S w), .str (cc c)] = some (vs (S (w ++ [c]))) := sum_S (by have := hw.1; simp; omega)
  exact ⟨q', c, ev_set (ev_re rfl (ev_ee ev_lit s1 s2) rfl s3), hq', hc⟩
def nm4 : Es := (evRet (evPrim pSum [.e (evPrim pSum [.e (evPrim (pSl false true) [.r 2, .r 4]), .e (evPrim pStr [.r 1])]), .e (evPrim (pSl true false) [.r 2, .r 4])]))
def nm3 (n : Nat) : Es := (evSet 4 (evPrim pSum [.e (evLit (.int 1)), .e (evCall (F__law_draw n) [.l 0, .e (evPrim pLen [.r 2])] [])]))
def nm2 (n : Nat) : EvI := (evArgI [(evPrim pSum [.e (evLit (.int 1)), .e (evCall (F__law_draw n) [.l 0, .e (evLit (.int 8))] [])])] kRange1)
theorem name_run (n m : Nat) (q : O) (i : Nat) (hq : IsPen m q) (hi : i < 100) (hm : m + 10 < 549755813888) : ∃ q' w, F__law_name n [q, iv (i : Int)] = .ok (vs (S w)) [some q', some (iv (i : Int))] ∧ IsPen (m + 10) q' ∧ IsW 12 w ∧ w ≠ [] := by
  have hb := big_size
  obtain ⟨d, q1, e, d0, d1, hq1⟩ := draw_run n m q 8 hq (by omega) (by omega) (by omega)
  have c1 : evCall (F__law_draw n) [.l 0, .e (evLit (.int 8))] [] [some q, some (iv (i : Int)), some (vs ""), none, none] = .ok (iv d, [some q1, some (iv (i : Int)), some (vs ""), none, none]) := ev_fetch1 rfl ev_lit rfl e
  have c2 : pSum [.int 1, .int d] = some (iv ((d.toNat + 1 : Nat) : Int)) := by
    simp only [pSum]
    congr 3
    omega
  have s2 : nm2 n [some q, some (iv (i : Int)), some (vs ""), none, none] = .ok (rngD 0 (d.toNat + 1), [some q1, some (iv (i : Int)), some (vs ""), none, none]) := it_a (ev_ee ev_lit c1 c2) (range1_len (by omega))
  have hl : (rngD 0 (d.toNat + 1)).length = d.toNat + 1 := by simp [rngD]
  obtain ⟨e2, h, q2, w, x3, rfl, k1, k2, k3⟩ := for_inv (t := tgName 3) (B := nmB n) (ds := rngD 0 (d.toNat + 1)) (I := fun k e => ∃ q w x3, e = [some q, some (iv (i : Int)), some (vs (S w)), x3, none] ∧ IsPen (m + 1 + k) q ∧ w.length = k ∧ ∀ c ∈ w, c < 1114112) (e := [some q1, some (iv (i : Int)), some (vs ""), none, none]) (fun k d' hd e he => by
    obtain ⟨q, w, x3, rfl, k1, k2, k3⟩ := he
    have hk : k < d.toNat + 1 := by
      have := (List.getElem?_eq_some_iff.mp hd).1
      omega
    obtain ⟨q', c, r1, r2, r3⟩ := nm_turn (n := n) (x1 := some (iv (i : Int))) (x3 := some (.v () d')) (x4 := none) k1 (by omega) ⟨by omega, k3⟩
    refine ⟨_, _, rfl, .inl r1, q', _, _, rfl, r2, by simp [k2], fun x hx => ?_⟩
    rcases List.mem_append.mp hx with h | h
    · exact k3 x h
    · simp only [List.mem_singleton] at h
      subst h; exact r3) ⟨q1, [], none, rfl, hq1, rfl, fun x hx => by cases hx⟩
  rw [hl] at k1 k2
  have hw : w.length ≤ 8 ∧ 0 < w.length := by omega
  obtain ⟨p, q3, e3, p0, p1, hq3⟩ := draw_run n _ q2 w.length k1 (by omega) (by omega) (by omega)
  have u1 : evPrim pLen [.r 2] [some q2, some (iv (i : Int)), some (vs (S w)), x3, none] = .ok (iv (w.length : Nat), [some q2, some (iv (i : Int)), some (vs (S w)), x3, none]) := ev_r rfl (len_w w (by omega))
  have u2 : evCall (F__law_draw n) [.l 0, .e (evPrim pLen [.r 2])] [] [some q2, some (iv (i : Int)), some (vs (S w)), x3, none] = .ok (iv p, [some q3, some (iv (i : Int)), some (vs (S w)), x3, none]) := ev_fetch1 rfl u1 rfl e3
  have u3 : pSum [.int 1, .int p] = some (iv (1 + p)) := rfl
  have u4 : nm3 n [some q2, some (iv (i : Int)), some (vs (S w)), x3, none] = .nx [some q3, some (iv (i : Int)), some (vs (S w)), x3, some (iv (1 + p))] := ev_set (ev_ee ev_lit u2 u3)
  have v1 := cut_to (w := w) (p := 1 + p) (by omega) (by omega) (by omega)
  have v2 := cut_from (w := w) (p := 1 + p) (by omega) (by omega) (by omega)
  have v3 := str_num hi
  have hn := num_all i hi
  generalize numW i = z at *
  have v4 : pSum [.str (S (w.take (1 + p).toNat)), .str (S z)] = some (vs (S (w.take (1 + p).toNat ++ z))) := sum_S (by simp; omega)
  have v5 : pSum [.str (S (w.take (1 + p).toNat ++ z)), .str (S (w.drop (1 + p).toNat))] = some (vs (S (w.take (1 + p).toNat ++ z ++ w.drop (1 + p).toNat))) := sum_S (by simp; omega)
  have u5 : nm4 [some q3, some (iv (i : Int)), some (vs (S w)), x3, some (iv (1 + p))] = .ret (vs (S (w.take (1 + p).toNat ++ z ++ w.drop (1 + p).toNat))) [some q3, some (iv (i : Int)), some (vs (S w)), x3, some (iv (1 + p))] := ev_ret (ev_ee (ev_ee (ev_rr rfl rfl v1) (ev_r rfl v3) v4) (ev_rr rfl rfl v2) v5)
  have g : g__law_name n = evSeq (evSet 2 (evLit (.str ""))) (evSeq (evFor (nm2 n) (tgName 3) (nmB n)) (evSeq (nm3 n) nm4)) := rfl
  refine ⟨q3, w.take (1 + p).toNat ++ z ++ w.drop (1 + p).toNat, ?_, ?_, ?_, ?_⟩
  · rw [F__law_name, g]
    have t1 : evFor (nm2 n) (tgName 3) (nmB n) [some q, some (iv (i : Int)), some (vs ""), none, none] = .nx [some q2, some (iv (i : Int)), some (vs (S w)), x3, none] := by
      rw [for_r s2, h]
    exact ev_def (e1 := [some q, some (iv (i : Int)), none, none, none]) rfl rfl (ev_seq (ev_set ev_lit) (ev_seq t1 (ev_seq u4 u5)))
  · obtain ⟨cells, a, gg, c, f, rfl, P⟩ := hq3
    exact ⟨cells, a, gg, c, f, rfl, P.len, P.a0, P.g0, P.c0, by have := P.cm; omega, P.f0, P.f1⟩
  · refine ⟨by simp; omega, fun x hx => ?_⟩
    simp only [List.mem_append] at hx
    rcases hx with (h | h) | h
    · exact k3 x (List.mem_of_mem_take h)
    · simpa using List.all_eq_true.mp hn.2.2 x h
    · exact k3 x (List.mem_of_mem_drop h)
  · intro e0
    have e1 : (w.take (1 + p).toNat ++ z ++ w.drop (1 + p).toNat).length = 0 := by rw [e0]; rfl
    simp only [List.length_append, List.length_take, List.length_drop] at e1
    omega
theorem pen_mono {m m' : Nat} {q : O} (h : IsPen m q) (hm : m ≤ m') : IsPen m' q := by
  obtain ⟨cells, a, gg, c, f, rfl, P⟩ := h
  exact ⟨cells, a, gg, c, f, rfl, P.len, P.a0, P.g0, P.c0, by have := P.cm; omega, P.f0, P.f1⟩
theorem names_lc (n : Nat) {x1 : O} : ∀ (l : List Nat) (m : Nat) (q : O), IsPen m q → (∀ i ∈ l, i < 100) → m + 10 * l.length < 549755813888 → ∃ ws q', lcD [2] (tgName 2) evTrue (evCall (F__law_name n) [.l 0, .l 2] []) (l.map fun i => .int ((i : Nat) : Int)) [some q, some x1, none] = some (ws, [some q', some x1, none]) ∧ IsPen (m + 10 * l.length) q' ∧ ws.length = l.length ∧ ∀ d ∈ ws, IsT 12 d
  | [], m, q, hq, _, _ => ⟨[], q, rfl, hq, rfl, fun d hd => by cases hd⟩
  | i :: l, m, q, hq, hi, hm => by
    simp only [List.length_cons] at hm
    obtain ⟨q1, w, e, k1, k2, _⟩ := name_run n m q i hq (hi i (by simp)) (by omega)
    obtain ⟨ws, q', h, h1, h2, h3⟩ := names_lc n (x1 := x1) l (m + 10) q1 k1 (fun j hj => hi j (List.mem_cons_of_mem _ hj)) (by omega)
    refine ⟨.str (S w) :: ws, q', ?_, by simp only [List.length_cons]; exact pen_mono h1 (by omega), by simp [h2], fun d hd => ?_⟩
    · have c1 : evCall (F__law_name n) [.l 0, .l 2] [] [some q, some x1, some (iv (i : Int))] = .ok (vs (S w), [some q1, some x1, some (iv (i : Int))]) := ev_fetch2 (by decide) rfl rfl e
      have c0 : tgName 2 (.int ((i : Nat) : Int)) [some q, some x1, none] = some [some q, some x1, some (iv (i : Int))] := rfl
      have c3 : wipeE [some q1, some x1, some (iv (i : Int))] [2] = [some q1, some x1, none] := rfl
      simp only [List.map_cons, lcD, c0, evTrue, c1, c3]
      rw [h]
      rfl
    · rcases List.mem_cons.mp hd with rfl | hd
      · exact ⟨w, rfl, k2⟩
      · exact h3 d hd
theorem rng_map (k : Nat) : rngD 0 k = (List.range k).map fun i => .int ((i : Nat) : Int) := by
  simp [rngD]
theorem names_run (n m : Nat) (q : O) (k : Nat) (hq : IsPen m q) (hk : k ≤ 100) (hm : m + 11 * k < 549755813888) : ∃ q' G, F__law_names n [q, iv (k : Int)] = .ok (newL G) [some q', some (iv (k : Int))] ∧ IsPen (m + 11 * k) q' ∧ G.length = k ∧ ∀ d ∈ G, IsT 12 d := by
  have hb := big_size
  obtain ⟨ws, q1, h, h1, h2, h3⟩ := names_lc n (x1 := iv (k : Int)) (List.range k) m q hq (fun i hi => by have := List.mem_range.mp hi; omega) (by simp; omega)
  rw [← rng_map] at h
  simp only [List.length_range] at h1 h2
  obtain ⟨q2, G, g1, g2, g3, g4⟩ := shuffled_run n _ q1 ws h1 (by omega) (by omega)
  refine ⟨q2, G, ?_, pen_mono g2 (by omega), by omega, fun d hd => h3 d (g4 d hd)⟩
  have hl : (rngD 0 k).length ≤ sizeLine := by simp [rngD]; omega
  have t1 : evArgI [(evVar 1)] kRange1 [some q, some (iv (k : Int)), none] = .ok (rngD 0 k, [some q, some (iv (k : Int)), none]) := it_a (o := iv (k : Int)) rfl (range1_len (by omega))
  have t2 : evLc [2] (evArgI [(evVar 1)] kRange1) (tgName 2) evTrue (evCall (F__law_name n) [.l 0, .l 2] []) [some q, some (iv (k : Int)), none] = .ok (newL ws, [some q1, some (iv (k : Int)), none]) := by
    have w1 : wipeE [some q, some (iv (k : Int)), none] [2] = [some q, some (iv (k : Int)), none] := rfl
    rw [← w1] at h
    exact ev_lc t1 hl h
  have t3 : evCall (F__law_shuffled n) [.l 0, .e (evLc [2] (evArgI [(evVar 1)] kRange1) (tgName 2) evTrue (evCall (F__law_name n) [.l 0, .l 2] []))] [] [some q, some (iv (k : Int)), none] = .ok (newL G, [some q2, some (iv (k : Int)), none]) := ev_fetch1' rfl t2 rfl g1
  rw [F__law_names]
  exact ev_def (e1 := [some q, some (iv (k : Int)), none]) rfl rfl (show g__law_names n _ = _ from ev_ret t3)
end EV

set_option linter.all false
set_option maxRecDepth 100000
set_option maxHeartbeats 4000000
namespace EV
open PySem PySem.Spec PyProof.Rows L2
/-! is_name and the law's own look -/
section
theorem isname_run (n : Nat) (w : List Nat) (hz : w.length ≤ sizeLine) : F_is_name n [vs (S w)] = .ok (.v () (.bl (nameB w))) [some (vs (S w))] := by
  have p0 : pIsi a_str w_str [D.str (S w)] = some (.v () (.bl true)) := by
    simp [evDef, back, evRet, evRetN, evRetMove, evMove, evSet, evSeq, evIf, evPrim, evPrimT, evOps, evLit, evVar, flatD, R.out, R.bind, evVor, evVand, evVnot, evTest, evTnot, evTand, evTor, evIfe, oB, FR.fin, evLst, evTup, evDs, evCall, evAs, fetch, unfetch, evNil, truthD, Ow.toD, evTrue, pIsi, isiD, tyN, as_str]
  have hE : pEq [D.str (S w), .str ""] = some (.v () (.bl (decide (w = [])))) := by
    simp only [pEq, st_eq, oB, Option.map_some]
    congr 3
    exact decide_eq_decide.mpr (by rw [show ("" : Str) = S [] from rfl]; exact str_inj)
  have h1 : evLc [1] (evItE (evVar 0)) (tgName 1) evTrue (evCall (F_is_run_sign n) [.l 1] []) [some (vs (S w)), none] = .ok (.lst () ((w.map fun c => D.bl (isRun c)).map (.v ())), [some (vs (S w)), none]) := by
    have := lc_signs (env := [some (vs (S w)), none]) (i := 1) (j := 0) (z := S w) (f := evCall (F_is_run_sign n) [.l 1] []) (g := fun c => .bl (isRun c)) (by decide) rfl rfl (by rw [Str_len]; exact hz) (fun c _ => by
      have h2 := run_sign n c
      simp [evDef, back, evRet, evRetN, evRetMove, evMove, evSet, evSeq, evIf, evPrim, evPrimT, evOps, evLit, evVar, flatD, R.out, R.bind, evVor, evVand, evVnot, evTest, evTnot, evTand, evTor, evIfe, oB, FR.fin, evLst, evTup, evDs, evCall, evAs, fetch, unfetch, evNil, truthD, Ow.toD, evTrue, h2])
    simpa [evDef, back, evRet, evRetN, evRetMove, evMove, evSet, evSeq, evIf, evPrim, evPrimT, evOps, evLit, evVar, flatD, R.out, R.bind, evVor, evVand, evVnot, evTest, evTnot, evTand, evTor, evIfe, oB, FR.fin, evLst, evTup, evDs, evCall, evAs, fetch, unfetch, evNil, truthD, Ow.toD, evTrue] using this
  have h2 : pAll [D.lst (w.map fun c => D.bl (isRun c))] = some (.v () (.bl (w.all isRun))) := by
    simp only [pAll, getBls_map, oB, Option.map_some]
    congr 3
    simp [evDef, back, evRet, evRetN, evRetMove, evMove, evSet, evSeq, evIf, evPrim, evPrimT, evOps, evLit, evVar, flatD, R.out, R.bind, evVor, evVand, evVnot, evTest, evTnot, evTand, evTor, evIfe, oB, FR.fin, evLst, evTup, evDs, evCall, evAs, fetch, unfetch, evNil, truthD, Ow.toD, evTrue, List.all_map]
  have hk : w ≠ [] → w.all isRun = true → F_kind_of n [vs (S w)] = .ok (.v () (kindW w)) [some (vs (S w))] := fun e _ => kind_of_run n w e hz
  by_cases e : w = []
  · subst e
    have hE' : decide (([] : List Nat) = []) = true := by simp [evDef, back, evRet, evRetN, evRetMove, evMove, evSet, evSeq, evIf, evPrim, evPrimT, evOps, evLit, evVar, flatD, R.out, R.bind, evVor, evVand, evVnot, evTest, evTnot, evTand, evTor, evIfe, oB, FR.fin, evLst, evTup, evDs, evCall, evAs, fetch, unfetch, evNil, truthD, Ow.toD, evTrue]
    rw [hE'] at hE
    simp only [F_is_name, g_is_name]
    simp [evDef, back, evRet, evRetN, evRetMove, evMove, evSet, evSeq, evIf, evPrim, evPrimT, evOps, evLit, evVar, flatD, R.out, R.bind, evVor, evVand, evVnot, evTest, evTnot, evTand, evTor, evIfe, oB, FR.fin, evLst, evTup, evDs, evCall, evAs, fetch, unfetch, evNil, truthD, Ow.toD, evTrue, p0, hE, nameB]
  · have hE' : decide (w = []) = false := by simp [evDef, back, evRet, evRetN, evRetMove, evMove, evSet, evSeq, evIf, evPrim, evPrimT, evOps, evLit, evVar, flatD, R.out, R.bind, evVor, evVand, evVnot, evTest, evTnot, evTand, evTor, evIfe, oB, FR.fin, evLst, evTup, evDs, evCall, evAs, fetch, unfetch, evNil, truthD, Ow.toD, evTrue, e]
    rw [hE'] at hE
    cases ha : w.all isRun with
    | false =>
      rw [ha] at h2
      have nb : nameB w = false := by simp only [nameB, ha, Bool.and_false]
      rw [nb]
      simp only [F_is_name, g_is_name]
      simp [evDef, back, evRet, evRetN, evRetMove, evMove, evSet, evSeq, evIf, evPrim, evPrimT, evOps, evLit, evVar, flatD, R.out, R.bind, evVor, evVand, evVnot, evTest, evTnot, evTand, evTor, evIfe, oB, FR.fin, evLst, evTup, evDs, evCall, evAs, fetch, unfetch, evNil, truthD, Ow.toD, evTrue, p0, hE, h1, h2, toDs_v, toDs_f]
    | true =>
      rw [ha] at h2
      have hk := hk e ha
      have hq : pEq [kindW w, .str "name"] = some (.v () (.bl (nameB w))) := by
        obtain ⟨c, r, rfl⟩ := List.exists_cons_of_ne_nil e
        have hc : isRun c = true := by simp [evDef, back, evRet, evRetN, evRetMove, evMove, evSet, evSeq, evIf, evPrim, evPrimT, evOps, evLit, evVar, flatD, R.out, R.bind, evVor, evVand, evVnot, evTest, evTnot, evTand, evTor, evIfe, oB, FR.fin, evLst, evTup, evDs, evCall, evAs, fetch, unfetch, evNil, truthD, Ow.toD, evTrue] at ha; exact ha.1
        have hfig : (!isFig c) = isLet c := by
          cases e2 : isLet c with
          | true => rw [let_fig c e2]; rfl
          | false =>
            simp only [isRun, e2, Bool.false_or] at hc
            rw [hc]; rfl
        have nb : nameB (c :: r) = (decide ((c :: r).length ≤ 12) && !inKeys (c :: r) && isLet c) := by
          unfold nameB
          rw [ha, show ((c :: r).headD 0) = c from rfl, hfig]
          simp [evDef, back, evRet, evRetN, evRetMove, evMove, evSet, evSeq, evIf, evPrim, evPrimT, evOps, evLit, evVar, flatD, R.out, R.bind, evVor, evVand, evVnot, evTest, evTnot, evTand, evTor, evIfe, oB, FR.fin, evLst, evTup, evDs, evCall, evAs, fetch, unfetch, evNil, truthD, Ow.toD, evTrue]
        rw [nb]
        unfold kindW
        rw [show ((c :: r).headD 0) = c from rfl]
        have dk : ∀ a b : Str, ∀ r, decide (a = b) = r → pEq [.str a, .str b] = some (.v () (.bl r)) := fun a b r h => by
          simp only [pEq, st_eq, h, oB, Option.map_some]
        have q1 : pEq [.str "key", .str "name"] = some (.v () (.bl false)) := dk _ _ _ (by decide +kernel)
        have q2 : pEq [.str "name", .str "name"] = some (.v () (.bl true)) := dk _ _ _ (by decide +kernel)
        have q3 : pEq [.str "number", .str "name"] = some (.v () (.bl false)) := dk _ _ _ (by decide +kernel)
        have q4 : pEq [.non, .str "name"] = some (.v () (.bl false)) := by simp [evDef, back, evRet, evRetN, evRetMove, evMove, evSet, evSeq, evIf, evPrim, evPrimT, evOps, evLit, evVar, flatD, R.out, R.bind, evVor, evVand, evVnot, evTest, evTnot, evTand, evTor, evIfe, oB, FR.fin, evLst, evTup, evDs, evCall, evAs, fetch, unfetch, evNil, truthD, Ow.toD, evTrue, pEq, eqD, D.fl, scal]
        generalize c :: r = u at *
        cases inKeys u <;> cases isLet c <;> cases numB u <;> by_cases hl : u.length ≤ 12 <;> simp [evDef, back, evRet, evRetN, evRetMove, evMove, evSet, evSeq, evIf, evPrim, evPrimT, evOps, evLit, evVar, flatD, R.out, R.bind, evVor, evVand, evVnot, evTest, evTnot, evTand, evTor, evIfe, oB, FR.fin, evLst, evTup, evDs, evCall, evAs, fetch, unfetch, evNil, truthD, Ow.toD, evTrue, q1, q2, q3, q4, hl]
      generalize nameB w = b at *
      generalize kindW w = kd at *
      simp only [F_is_name, g_is_name]
      simp [evDef, back, evRet, evRetN, evRetMove, evMove, evSet, evSeq, evIf, evPrim, evPrimT, evOps, evLit, evVar, flatD, R.out, R.bind, evVor, evVand, evVnot, evTest, evTnot, evTand, evTor, evIfe, oB, FR.fin, evLst, evTup, evDs, evCall, evAs, fetch, unfetch, evNil, truthD, Ow.toD, evTrue, p0, hE, h1, h2, toDs_v, toDs_f, hk, hq]
theorem isname_no (n : Nat) (d : D) (h : pIsi a_str w_str [d] = some (.v () (.bl false))) : F_is_name n [.v () d] = .ok (.v () (.bl false)) [some (.v () d)] := by
  simp only [F_is_name, g_is_name]
  simp [evDef, back, evRet, evRetN, evRetMove, evMove, evSet, evSeq, evIf, evPrim, evPrimT, evOps, evLit, evVar, flatD, R.out, R.bind, evVor, evVand, evVnot, evTest, evTnot, evTand, evTor, evIfe, oB, FR.fin, evLst, evTup, evDs, evCall, evAs, fetch, unfetch, evNil, truthD, Ow.toD, evTrue, h]
theorem lawname_no (n : Nat) (d : D) (h : pIsi a_str w_str [d] = some (.v () (.bl false))) : F__law_is_name n [.v () d] = .ok (.v () (.bl false)) [some (.v () d)] := by
  simp only [F__law_is_name, g__law_is_name]
  simp [evDef, back, evRet, evRetN, evRetMove, evMove, evSet, evSeq, evIf, evPrim, evPrimT, evOps, evLit, evVar, flatD, R.out, R.bind, evVor, evVand, evVnot, evTest, evTnot, evTand, evTor, evIfe, oB, FR.fin, evLst, evTup, evDs, evCall, evAs, fetch, unfetch, evNil, truthD, Ow.toD, evTrue, h]
theorem tokens_no (n : Nat) (d : D) (h : pIsi a_str w_str [d] = some (.v () (.bl false))) : F_tokens n [.v () d] = .exc (misD ⟨0, 0, 0⟩) [some (.v () d)] := by
  simp only [F_tokens, g_tokens_eq]
  simp [evDef, back, evRet, evRetN, evRetMove, evMove, evSet, evSeq, evIf, evPrim, evPrimT, evOps, evLit, evVar, flatD, R.out, R.bind, evVor, evVand, evVnot, evTest, evTnot, evTand, evTor, evIfe, oB, FR.fin, evLst, evTup, evDs, evCall, evAs, fetch, unfetch, evNil, truthD, Ow.toD, evTrue, h, evRaise]
end
end EV

set_option linter.all false
set_option maxRecDepth 100000
set_option maxHeartbeats 4000000
namespace EV
open PySem PySem.Spec PyProof.Rows L2
/-! more steps -/
section
variable {p : List D → Option O} {fa fb : Ev} {env e1 e2 : Env} {o o1 o2 : O} {i j : Nat} {d d1 d2 : D} {b : Bool} {F : Fn}
theorem ev_l1 {q q2 r : O} (h : env[i]? = some (some q)) (hF : F [q] = .ok r [some q2]) : evCall F [.l i] [] env = .ok (r, env.set i (some q2)) := by
  simp only [evCall, evAs, h, R.bind, fetch, Option.map_some, List.map_nil, List.append_nil, hF, FR.fin, unfetch, List.set_set]
theorem ev_e1 {x r : O} {bk : Option O} (h : fa env = .ok (x, e1)) (hF : F [x] = .ok r [bk]) : evCall F [.e fa] [] env = .ok (r, e1) := by
  simp only [evCall, evAs, h, R.bind, fetch, Option.map_some, List.map_nil, List.append_nil, hF, FR.fin, unfetch]
theorem ev_ee1 {x y r : O} {b1 b2 : Option O} (h : fa env = .ok (x, e1)) (h2 : fb e1 = .ok (y, e2)) (hF : F [x, y] = .ok r [b1, b2]) : evCall F [.e fa, .e fb] [] env = .ok (r, e2) := by
  simp only [evCall, evAs, h, h2, R.bind, fetch, Option.map_some, List.map_nil, List.append_nil, hF, FR.fin, unfetch]
theorem ev_0 {r : O} (hF : F [] = .ok r []) : evCall F [] [] env = .ok (r, env) := by
  simp only [evCall, evAs, R.bind, fetch, List.map_nil, List.append_nil, hF, FR.fin, unfetch]
theorem ev_tst (h : fa env = .ok (.v () (.bl b), e1)) : evTest fa env = .ok (b, e1) := by
  simp only [evTest, h, R.bind, Ow.toD, truthD]
theorem ev_nt {c : Et} (h : c env = .ok (b, e1)) : evTnot c env = .ok (!b, e1) := by
  simp only [evTnot, h, R.bind]
theorem ev_or {c c' : Et} (h : c env = .ok (false, e1)) (h2 : c' e1 = .ok (b, e2)) : evTor c c' env = .ok (b, e2) := by
  simp only [evTor, h, R.bind, h2, Bool.false_eq_true, if_false]
theorem ev_ife {c : Et} {r : R (O × Env)} (h : c env = .ok (b, e1)) (h2 : (if b then fa e1 else fb e1) = r) : evIfe c fa fb env = r := by
  simp only [evIfe, h, R.bind, h2]
theorem ev_ifeT {c : Et} {r : R (O × Env)} (h : c env = .ok (true, e1)) (h2 : fa e1 = r) : evIfe c fa fb env = r := by
  simp only [evIfe, h, R.bind, h2, if_true]
theorem ev_ifeF {c : Et} {r : R (O × Env)} (h : c env = .ok (false, e1)) (h2 : fb e1 = r) : evIfe c fa fb env = r := by
  simp only [evIfe, h, R.bind, h2, Bool.false_eq_true, if_false]
/-- items that are written out -/
theorem ev_lits {ds : List D} (h : ds.length ≤ sizeLine) : evLst (ds.map evLit) env = .ok (newL ds, env) := by
  have : ∀ ds : List D, evDs (ds.map evLit) env = .ok (ds, env) := fun ds => by
    induction ds with
    | nil => rfl
    | cons d ds ih => simp only [List.map_cons, evDs, evLit, R.bind, ih, Ow.toD]
  simp only [evLst, this ds, R.bind, if_pos h]
  rfl
end
theorem sum_L {a b : List D} (h : a.length + b.length ≤ sizeLine) : pSum [.lst a, .lst b] = some (newL (a ++ b)) := by
  simp only [pSum, if_pos h]
theorem toD_L (l : List D) : (newL l).toD = .lst l := by simp [newL, Ow.toD, toDs_v]
/-- texts, by a test that can be run -/
def isTB (b : Nat) : D → Bool
  | .str z => decide (z.cps.toList.length ≤ b) && z.cps.toList.all fun c => decide (c < 1114112)
  | _ => false
theorem isT_of {b : Nat} {d : D} (h : isTB b d = true) : IsT b d := by
  cases d with
  | str z =>
    simp only [isTB, Bool.and_eq_true, decide_eq_true_eq, List.all_eq_true] at h
    exact ⟨z.cps.toList, by rw [← lit_S], h.1, h.2⟩
  | _ => cases h
theorem isT_all {b : Nat} {l : List D} (h : l.all (isTB b) = true) : ∀ d ∈ l, IsT b d := fun d hd => isT_of (List.all_eq_true.mp h d hd)
theorem isT_mono {b b' : Nat} {d : D} (h : IsT b d) (hb : b ≤ b') : IsT b' d := by
  obtain ⟨w, e, h1, h2⟩ := h
  exact ⟨w, e, by omega, h2⟩
def rightD : List D := [.str "0", .str "7", .str "10", .str "305", .str "999", .str "{", .str "}", .str ":", .str ";", .str ",", .str "abcdefghijkl"]
def wrongD : List D := [.str "01", .str "00", .str "1000", .str "1a", .str "abcdefghijklm", .str "deeddeeddeed1", .str "A", .str "_", .str "a.b", .str ".", .str "[", .str "\t", .str "*", .str "a_"]
def gapD : List D := [.str " ", .str " ", .str "\n", .str "", .str "  ", .str " # x } 01\n", .str "#\n", .str "\n\n"]
def tailD : List D := [.str "#", .str "# end", .str " ", .str "\n", .str "\n ", .str "# a\n#b"]
def fixD : List D := [.str "", .str " ", .str "\n", .str "#", .str "a#b\nc", .str "{}();,:", .str "a:1", .str "and2", .str "2and", .str "tie", .str "tiex"]
theorem rightD_T : rightD.all (isTB 16) = true := by decide +kernel
theorem wrongD_T : wrongD.all (isTB 16) = true := by decide +kernel
theorem gapD_T : gapD.all (isTB 12) = true := by decide +kernel
theorem tailD_T : tailD.all (isTB 12) = true := by decide +kernel
theorem fixD_T : fixD.all (isTB 16) = true := by decide +kernel
def LW1 (n : Nat) : Es := (evSet 1 (evCall (F__law_pen n) [.l 0] []))
def LW2 (n : Nat) : Es := (evFor (evArgI [(evLit (.int 6))] kRange1) (tgName 2) (evSeq (evSet 3 (evCall (F__law_names n) [.l 1, .e (evLit (.int 3))] [])) (evSeq (evSet 4 (evPrim pSum [.e (evPrim pSum [.r 3, .e (evCall (F__law_keys n) [] [])]), .e (evLst [(evLit (.str "0")), (evLit (.str "7")), (evLit (.str "10")), (evLit (.str "305")), (evLit (.str "999")), (evLit (.str "{")), (evLit (.str "}")), (evLit (.str ":")), (evLit (.str ";")), (evLit (.str ",")), (evLit (.str "abcdefghijkl"))])])) (evSeq (evSet 5 (evLst [(evLit (.str "01")), (evLit (.str "00")), (evLit (.str "1000")), (evLit (.str "1a")), (evLit (.str "abcdefghijklm")), (evLit (.str "deeddeeddeed1")), (evLit (.str "A")), (evLit (.str "_")), (evLit (.str "a.b")), (evLit (.str ".")), (evLit (.str "[")), (evLit (.str "\t")), (evLit (.str "*")), (evLit (.str "a_"))])) (evSeq (evSet 6 (evLit (.str ""))) (evSeq (evFor (evArgI [(evCall (F__law_draw n) [.l 1, .e (evLit (.int 25))] [])] kRange1) (tgName 7) (evSeq (evSet 8 (evIfe (evPrimT (pCmp gtI) [.e (evCall (F__law_draw n) [.l 1, .e (evLit (.int 12))] []), .e (evLit (.int 0))]) (evCall (F__law_pick n) [.l 1, .l 4] []) (evCall (F__law_pick n) [.l 1, .l 5] []))) (evSet 6 (evPrim pSum [.e (evPrim pSum [.r 6, .r 8]), .e (evCall (F__law_pick n) [.l 1, .e (evLst [(evLit (.str " ")), (evLit (.str " ")), (evLit (.str "\n")), (evLit (.str "")), (evLit (.str "  ")), (evLit (.str " # x } 01\n")), (evLit (.str "#\n")), (evLit (.str "\n\n"))])] [])])))) (evIf (evTor (evTnot (evTest (evCall (F__law_is_told n) [.l 6] []))) (evTnot (evTest (evCall (F__law_is_told n) [.e (evPrim pSum [.r 6, .e (evCall (F__law_pick n) [.l 1, .e (evLst [(evLit (.str "#")), (evLit (.str "# end")), (evLit (.str " ")), (evLit (.str "\n")), (evLit (.str "\n ")), (evLit (.str "# a\n#b"))])] [])])] [])))) (evRet (evLit (.bl false))) evNil)))))))
def LW3 (n : Nat) : Es := (evFor (evItE (evLst [(evLit (.str "")), (evLit (.str " ")), (evLit (.str "\n")), (evLit (.str "#")), (evLit (.str "a#b\nc")), (evLit (.str "{}();,:")), (evLit (.str "a:1")), (evLit (.str "and2")), (evLit (.str "2and")), (evLit (.str "tie")), (evLit (.str "tiex"))])) (tgName 9) (evIf (evTnot (evTest (evCall (F__law_is_told n) [.l 9] []))) (evRet (evLit (.bl false))) evNil))
def LW4 (n : Nat) : Es := (evSet 10 (evCall (F__law_pick n) [.l 1, .e (evLst [(evLit .non), (evLit (.int 5)), (evTup []), (evLst [(evLit (.str "cloth"))]), (evLit (.bl true)), (evDict [])])] []))
def LW5 (n : Nat) : Es := (evIf (evPrimT pNe [.e (evTell true csX hs__law_why (evCall (F_tokens n) [.l 10] [])), .e (evLst [(evLit (.str "read")), (evLit (.int 0)), (evLit (.int 0))])]) (evRet (evLit (.bl false))) evNil)
def LW6 (n : Nat) : Es := (evFor (evItE (evPrim pSum [.e (evPrim pSum [.e (evCall (F__law_names n) [.l 1, .e (evLit (.int 3))] []), .e (evCall (F__law_keys n) [] [])]), .e (evLst [(evLit (.str "")), (evPrim pMul [.e (evLit (.str "a")), .e (evLit (.int 12))]), (evPrim pMul [.e (evLit (.str "a")), .e (evLit (.int 13))]), (evLit (.str "1a")), (evLit (.str "a1")), (evLit (.str "A")), (evLit (.str "a b")), (evLit (.str "a\n")), (evLit .non), (evLit (.int 5)), (evLit (.bl true)), (evTup []), (evLst [(evLit (.str "a"))]), (evLit (.str "7")), (evLit (.str "-"))])])) (tgName 9) (evIf (evTnot (evTest (evCall (F__law_same n 12) [.e (evCall (F_is_name n) [.l 9] []), .e (evCall (F__law_is_name n) [.l 9] [])] []))) (evRet (evLit (.bl false))) evNil))
def LW7 : Es := (evRet (evLit (.bl true)))
def LX1 (n : Nat) : Es := (evSet 3 (evCall (F__law_names n) [.l 1, .e (evLit (.int 3))] []))
def LX2 (n : Nat) : Es := (evSet 4 (evPrim pSum [.e (evPrim pSum [.r 3, .e (evCall (F__law_keys n) [] [])]), .e (evLst [(evLit (.str "0")), (evLit (.str "7")), (evLit (.str "10")), (evLit (.str "305")), (evLit (.str "999")), (evLit (.str "{")), (evLit (.str "}")), (evLit (.str ":")), (evLit (.str ";")), (evLit (.str ",")), (evLit (.str "abcdefghijkl"))])]))
def LX3 : Es := (evSet 5 (evLst [(evLit (.str "01")), (evLit (.str "00")), (evLit (.str "1000")), (evLit (.str "1a")), (evLit (.str "abcdefghijklm")), (evLit (.str "deeddeeddeed1")), (evLit (.str "A")), (evLit (.str "_")), (evLit (.str "a.b")), (evLit (.str ".")), (evLit (.str "[")), (evLit (.str "\t")), (evLit (.str "*")), (evLit (.str "a_"))]))
def LX4 : Es := (evSet 6 (evLit (.str "")))
def LX5 (n : Nat) : Es := (evFor (evArgI [(evCall (F__law_draw n) [.l 1, .e (evLit (.int 25))] [])] kRange1) (tgName 7) (evSeq (evSet 8 (evIfe (evPrimT (pCmp gtI) [.e (evCall (F__law_draw n) [.l 1, .e (evLit (.int 12))] []), .e (evLit (.int 0))]) (evCall (F__law_pick n) [.l 1, .l 4] []) (evCall (F__law_pick n) [.l 1, .l 5] []))) (evSet 6 (evPrim pSum [.e (evPrim pSum [.r 6, .r 8]), .e (evCall (F__law_pick n) [.l 1, .e (evLst [(evLit (.str " ")), (evLit (.str " ")), (evLit (.str "\n")), (evLit (.str "")), (evLit (.str "  ")), (evLit (.str " # x } 01\n")), (evLit (.str "#\n")), (evLit (.str "\n\n"))])] [])]))))
def LX6 (n : Nat) : Es := (evIf (evTor (evTnot (evTest (evCall (F__law_is_told n) [.l 6] []))) (evTnot (evTest (evCall (F__law_is_told n) [.e (evPrim pSum [.r 6, .e (evCall (F__law_pick n) [.l 1, .e (evLst [(evLit (.str "#")), (evLit (.str "# end")), (evLit (.str " ")), (evLit (.str "\n")), (evLit (.str "\n ")), (evLit (.str "# a\n#b"))])] [])])] [])))) (evRet (evLit (.bl false))) evNil)
def LY1 (n : Nat) : Es := (evSet 8 (evIfe (evPrimT (pCmp gtI) [.e (evCall (F__law_draw n) [.l 1, .e (evLit (.int 12))] []), .e (evLit (.int 0))]) (evCall (F__law_pick n) [.l 1, .l 4] []) (evCall (F__law_pick n) [.l 1, .l 5] [])))
def LY2 (n : Nat) : Es := (evSet 6 (evPrim pSum [.e (evPrim pSum [.r 6, .r 8]), .e (evCall (F__law_pick n) [.l 1, .e (evLst [(evLit (.str " ")), (evLit (.str " ")), (evLit (.str "\n")), (evLit (.str "")), (evLit (.str "  ")), (evLit (.str " # x } 01\n")), (evLit (.str "#\n")), (evLit (.str "\n\n"))])] [])]))
-- -- (evSeq (LW1 n) (evSeq (LW2 n) (evSeq (LW3 n) (evSeq (LW4 n) (evSeq (LW5 n) (evSeq (LW6 n) LW7))))))
-- -- (evSeq (LX1 n) (evSeq (LX2 n) (evSeq LX3 (evSeq LX4 (evSeq (LX5 n) (LX6 n))))))
-- -- (evSeq (LY1 n) (LY2 n))
abbrev eW (a q : O) (x2 x3 x4 x5 x6 x7 x8 x9 x10 : Option O) : Env := [some a, some q, x2, x3, x4, x5, x6, x7, x8, x9, x10]
section
variable {a q : O} {x2 x3 x4 x5 x6 x7 x8 x9 x10 : Option O} {n m : Nat}
theorem rightE {env : Env} : evLst (rightD.map evLit) env = .ok (newL rightD, env) := ev_lits (by decide)
theorem wrongE {env : Env} : evLst (wrongD.map evLit) env = .ok (newL wrongD, env) := ev_lits (by decide)
theorem gapE {env : Env} : evLst (gapD.map evLit) env = .ok (newL gapD, env) := ev_lits (by decide)
theorem tailE {env : Env} : evLst (tailD.map evLit) env = .ok (newL tailD, env) := ev_lits (by decide)
theorem fixE {env : Env} : evLst (fixD.map evLit) env = .ok (newL fixD, env) := ev_lits (by decide)
/-- a word is picked -/
theorem ly1 {R Wr : List D} (hq : IsPen m q) (hm : m + 2 < 549755813888) (hR : ∀ d ∈ R, IsT 16 d) (hR0 : R ≠ []) (hR1 : R.length < 1073741) (hW : ∀ d ∈ Wr, IsT 16 d) (hW0 : Wr ≠ []) (hW1 : Wr.length < 1073741) :
    ∃ q' w, LY1 n (eW a q x2 x3 (some (newL R)) (some (newL Wr)) x6 x7 x8 x9 x10) = .nx (eW a q' x2 x3 (some (newL R)) (some (newL Wr)) x6 x7 (some (vs (S w))) x9 x10) ∧ IsPen (m + 2) q' ∧ IsW 16 w := by
  obtain ⟨d, q1, e, d0, d1, h1⟩ := draw_run n m q 12 hq (by omega) (by omega) (by omega)
  have s1 : evPrimT (pCmp gtI) [.e (evCall (F__law_draw n) [.l 1, .e (evLit (.int 12))] []), .e (evLit (.int 0))] (eW a q x2 x3 (some (newL R)) (some (newL Wr)) x6 x7 x8 x9 x10) = .ok (gtI d 0, eW a q1 x2 x3 (some (newL R)) (some (newL Wr)) x6 x7 x8 x9 x10) := ev_t (ev_ee (ev_fetch1 rfl ev_lit rfl e) ev_lit rfl)
  cases hb : gtI d 0 with
  | true =>
    obtain ⟨z, q2, e2, hz, h2⟩ := pick_run n (m + 1) q1 R h1 (by omega) hR0 (by omega)
    obtain ⟨w, rfl, hw⟩ := hR z hz
    rw [hb] at s1
    exact ⟨q2, w, ev_set (ev_ifeT s1 (ev_fetch2 (i := 1) (j := 4) (by decide) rfl rfl e2)), h2, hw⟩
  | false =>
    obtain ⟨z, q2, e2, hz, h2⟩ := pick_run n (m + 1) q1 Wr h1 (by omega) hW0 (by omega)
    obtain ⟨w, rfl, hw⟩ := hW z hz
    rw [hb] at s1
    exact ⟨q2, w, ev_set (ev_ifeF s1 (ev_fetch2 (i := 1) (j := 5) (by decide) rfl rfl e2)), h2, hw⟩
theorem ly2 {t w : List Nat} (hq : IsPen m q) (hm : m + 2 < 549755813888) (ht : t.length ≤ 1000) (hw : w.length ≤ 16) :
    ∃ q' u, LY2 n (eW a q x2 x3 x4 x5 (some (vs (S t))) x7 (some (vs (S w))) x9 x10) = .nx (eW a q' x2 x3 x4 x5 (some (vs (S u))) x7 (some (vs (S w))) x9 x10) ∧ IsPen (m + 1) q' ∧ u.length ≤ t.length + 28 := by
  have hb := big_size
  obtain ⟨z, q2, e2, hz, h2⟩ := pick_run n m q gapD hq (by omega) (by decide) (by decide)
  obtain ⟨g, rfl, hg, _⟩ := isT_all gapD_T z hz
  refine ⟨q2, t ++ w ++ g, ?_, h2, by simp; omega⟩
  exact ev_set (ev_ee (ev_rr rfl rfl (sum_S (by omega))) (ev_fetch1 rfl gapE rfl e2) (sum_S (by simp; omega)))
def LYall (n : Nat) : Es := evSeq (LY1 n) (LY2 n)
theorem lx5 {R Wr : List D} (hq : IsPen m q) (hm : m + 200 < 549755813888) (hR : ∀ d ∈ R, IsT 16 d) (hR0 : R ≠ []) (hR1 : R.length < 1073741) (hW : ∀ d ∈ Wr, IsT 16 d) (hW0 : Wr ≠ []) (hW1 : Wr.length < 1073741) :
    ∃ q' t y7 y8, LX5 n (eW a q x2 x3 (some (newL R)) (some (newL Wr)) (some (vs "")) x7 x8 x9 x10) = .nx (eW a q' x2 x3 (some (newL R)) (some (newL Wr)) (some (vs (S t))) y7 y8 x9 x10) ∧ IsPen (m + 100) q' ∧ t.length ≤ 700 := by
  obtain ⟨d, q1, e, d0, d1, h1⟩ := draw_run n m q 25 hq (by omega) (by omega) (by omega)
  have hb := big_size
  have s2 : evArgI [(evCall (F__law_draw n) [.l 1, .e (evLit (.int 25))] [])] kRange1 (eW a q x2 x3 (some (newL R)) (some (newL Wr)) (some (vs "")) x7 x8 x9 x10) = .ok (rngD 0 d.toNat, eW a q1 x2 x3 (some (newL R)) (some (newL Wr)) (some (vs "")) x7 x8 x9 x10) := by
    have hr := range1_len (k := d.toNat) (by omega)
    rw [show ((d.toNat : Nat) : Int) = d by omega] at hr
    exact it_a (o := iv d) (ev_fetch1 rfl ev_lit rfl e) hr
  have hl : (rngD 0 d.toNat).length = d.toNat := by simp [rngD]
  obtain ⟨e2, h, q2, t, y7, y8, rfl, k1, k2⟩ := for_inv (t := tgName 7) (B := LYall n) (ds := rngD 0 d.toNat) (I := fun k e => ∃ q t y7 y8, e = eW a q x2 x3 (some (newL R)) (some (newL Wr)) (some (vs (S t))) y7 y8 x9 x10 ∧ IsPen (m + 1 + 3 * k) q ∧ t.length ≤ 28 * k) (e := eW a q1 x2 x3 (some (newL R)) (some (newL Wr)) (some (vs "")) x7 x8 x9 x10) (fun k d' hd e he => by
    obtain ⟨q, t, y7, y8, rfl, k1, k2⟩ := he
    have hk : k < d.toNat := by
      have := (List.getElem?_eq_some_iff.mp hd).1
      omega
    obtain ⟨q3, w, e3, k3, k4⟩ := ly1 (n := n) (a := a) (x2 := x2) (x3 := x3) (x6 := some (vs (S t))) (x7 := some (.v () d')) (x8 := y8) (x9 := x9) (x10 := x10) k1 (by omega) hR hR0 hR1 hW hW0 hW1
    obtain ⟨q4, u, e4, k5, k6⟩ := ly2 (n := n) (a := a) (x2 := x2) (x3 := x3) (x4 := some (newL R)) (x5 := some (newL Wr)) (x7 := some (.v () d')) (x9 := x9) (x10 := x10) (t := t) k3 (by omega) (by omega) k4.1
    exact ⟨_, _, rfl, .inl (ev_seq e3 e4), q4, u, _, _, rfl, pen_mono k5 (by omega), by omega⟩) ⟨q1, [], x7, x8, rfl, h1, by simp⟩
  rw [hl] at k1 k2
  refine ⟨q2, t, y7, y8, ?_, pen_mono k1 (by omega), by omega⟩
  have g : LX5 n = evFor (evArgI [(evCall (F__law_draw n) [.l 1, .e (evLit (.int 25))] [])] kRange1) (tgName 7) (LYall n) := rfl
  rw [g, for_r s2, h]
theorem lx6 {t : List Nat} (hq : IsPen m q) (hm : m + 2 < 549755813888) (ht : t.length ≤ 700) (hn : 1000 < n) :
    ∃ q', LX6 n (eW a q x2 x3 x4 x5 (some (vs (S t))) x7 x8 x9 x10) = .nx (eW a q' x2 x3 x4 x5 (some (vs (S t))) x7 x8 x9 x10) ∧ IsPen (m + 1) q' := by
  have hb := big_size
  obtain ⟨z, q2, e2, hz, h2⟩ := pick_run n m q tailD hq (by omega) (by decide) (by decide)
  obtain ⟨g, rfl, hg, _⟩ := isT_all tailD_T z hz
  have t1 := told_run n t (by omega) (by omega)
  have t2 := told_run n (t ++ g) (by simp; omega) (by simp; omega)
  refine ⟨q2, ?_, h2⟩
  have c1 : evCall (F__law_is_told n) [.l 6] [] (eW a q x2 x3 x4 x5 (some (vs (S t))) x7 x8 x9 x10) = .ok (tt, eW a q x2 x3 x4 x5 (some (vs (S t))) x7 x8 x9 x10) := ev_l1 rfl t1
  have c2 : evPrim pSum [.r 6, .e (evCall (F__law_pick n) [.l 1, .e (evLst (tailD.map evLit))] [])] (eW a q x2 x3 x4 x5 (some (vs (S t))) x7 x8 x9 x10) = .ok (vs (S (t ++ g)), eW a q2 x2 x3 x4 x5 (some (vs (S t))) x7 x8 x9 x10) := ev_re rfl (ev_fetch1 rfl tailE rfl e2) rfl (sum_S (by omega))
  exact ev_if (ev_or (ev_nt (ev_tst c1)) (ev_nt (ev_tst (ev_e1 c2 t2)))) rfl
def LXall (n : Nat) : Es := (evSeq (LX1 n) (evSeq (LX2 n) (evSeq LX3 (evSeq LX4 (evSeq (LX5 n) (LX6 n))))))
theorem keysD_T : keysD.all (isTB 16) = true := by decide +kernel
theorem lxall (hq : IsPen m q) (hm : m + 400 < 549755813888) (hn : 1000 < n) : ∃ q' y3 y4 y5 y6 y7 y8, LXall n (eW a q x2 x3 x4 x5 x6 x7 x8 x9 x10) = .nx (eW a q' x2 y3 y4 y5 y6 y7 y8 x9 x10) ∧ IsPen (m + 200) q' := by
  have hb := big_size
  obtain ⟨q1, G, e1, k1, k2, k3⟩ := names_run n m q 3 hq (by omega) (by omega)
  have s1 : LX1 n (eW a q x2 x3 x4 x5 x6 x7 x8 x9 x10) = .nx (eW a q1 x2 (some (newL G)) x4 x5 x6 x7 x8 x9 x10) := ev_set (ev_fetch1 (x := iv 3) rfl ev_lit rfl e1)
  have hkl : keysD.length = 9 := rfl
  have hrl : rightD.length = 11 := rfl
  have u1 : evPrim pSum [.r 3, .e (evCall (F__law_keys n) [] [])] (eW a q1 x2 (some (newL G)) x4 x5 x6 x7 x8 x9 x10) = .ok (newL (G ++ keysD), eW a q1 x2 (some (newL G)) x4 x5 x6 x7 x8 x9 x10) := by
    have hk : evCall (F__law_keys n) [] [] (eW a q1 x2 (some (newL G)) x4 x5 x6 x7 x8 x9 x10) = .ok (newL keysD, eW a q1 x2 (some (newL G)) x4 x5 x6 x7 x8 x9 x10) := ev_0 (law_keys n)
    simp only [evPrim, evOps, hk, R.bind, List.getElem?_cons_succ, List.getElem?_cons_zero, flat_newL, toD_L, sum_L (show G.length + keysD.length ≤ sizeLine by omega)]
  have s2 : LX2 n (eW a q1 x2 (some (newL G)) x4 x5 x6 x7 x8 x9 x10) = .nx (eW a q1 x2 (some (newL G)) (some (newL (G ++ keysD ++ rightD))) x5 x6 x7 x8 x9 x10) := by
    have : evPrim pSum [.e (evPrim pSum [.r 3, .e (evCall (F__law_keys n) [] [])]), .e (evLst (rightD.map evLit))] (eW a q1 x2 (some (newL G)) x4 x5 x6 x7 x8 x9 x10) = .ok (newL (G ++ keysD ++ rightD), eW a q1 x2 (some (newL G)) x4 x5 x6 x7 x8 x9 x10) := ev_ee u1 rightE (by rw [toD_L, toD_L]; exact sum_L (by simp; omega))
    exact ev_set this
  have s3 : LX3 (eW a q1 x2 (some (newL G)) (some (newL (G ++ keysD ++ rightD))) x5 x6 x7 x8 x9 x10) = .nx (eW a q1 x2 (some (newL G)) (some (newL (G ++ keysD ++ rightD))) (some (newL wrongD)) x6 x7 x8 x9 x10) := ev_set wrongE
  have s4 : LX4 (eW a q1 x2 (some (newL G)) (some (newL (G ++ keysD ++ rightD))) (some (newL wrongD)) x6 x7 x8 x9 x10) = .nx (eW a q1 x2 (some (newL G)) (some (newL (G ++ keysD ++ rightD))) (some (newL wrongD)) (some (vs "")) x7 x8 x9 x10) := ev_set ev_lit
  have hT : ∀ d ∈ G ++ keysD ++ rightD, IsT 16 d := fun d hd => by
    simp only [List.mem_append] at hd
    rcases hd with (h | h) | h
    · exact isT_mono (k3 d h) (by omega)
    · exact isT_all keysD_T d h
    · exact isT_all rightD_T d h
  obtain ⟨q2, t, y7, y8, s5, k4, k5⟩ := lx5 (n := n) (a := a) (x2 := x2) (x3 := some (newL G)) (x7 := x7) (x8 := x8) (x9 := x9) (x10 := x10) (R := G ++ keysD ++ rightD) (Wr := wrongD) k1 (by omega) hT (by simp [rightD]) (by simp; omega) (isT_all wrongD_T) (by decide) (by decide)
  obtain ⟨q3, s6, k6⟩ := lx6 (n := n) (a := a) (x2 := x2) (x3 := some (newL G)) (x4 := some (newL (G ++ keysD ++ rightD))) (x5 := some (newL wrongD)) (x7 := y7) (x8 := y8) (x9 := x9) (x10 := x10) k4 (by omega) k5 hn
  exact ⟨q3, _, _, _, _, _, _, ev_seq s1 (ev_seq s2 (ev_seq s3 (ev_seq s4 (ev_seq s5 s6)))), pen_mono k6 (by omega)⟩
theorem lw2 (hq : IsPen m q) (hm : m + 2000 < 549755813888) (hn : 1000 < n) : ∃ q' y2 y3 y4 y5 y6 y7 y8, LW2 n (eW a q x2 x3 x4 x5 x6 x7 x8 x9 x10) = .nx (eW a q' y2 y3 y4 y5 y6 y7 y8 x9 x10) ∧ IsPen (m + 1200) q' := by
  have hb := big_size
  have s2 : evArgI [(evLit (.int 6))] kRange1 (eW a q x2 x3 x4 x5 x6 x7 x8 x9 x10) = .ok (rngD 0 6, eW a q x2 x3 x4 x5 x6 x7 x8 x9 x10) := it_a (o := iv 6) ev_lit (range1_len (k := 6) (by omega))
  have hl : (rngD 0 6).length = 6 := by simp [rngD]
  obtain ⟨e2, h, q2, y2, y3, y4, y5, y6, y7, y8, rfl, k1⟩ := for_inv (t := tgName 2) (B := LXall n) (ds := rngD 0 6) (I := fun k e => ∃ q y2 y3 y4 y5 y6 y7 y8, e = eW a q y2 y3 y4 y5 y6 y7 y8 x9 x10 ∧ IsPen (m + 200 * k) q) (e := eW a q x2 x3 x4 x5 x6 x7 x8 x9 x10) (fun k d' hd e he => by
    obtain ⟨q, y2, y3, y4, y5, y6, y7, y8, rfl, k1⟩ := he
    have hk : k < 6 := by
      have := (List.getElem?_eq_some_iff.mp hd).1
      omega
    obtain ⟨q3, z3, z4, z5, z6, z7, z8, e3, k3⟩ := lxall (n := n) (a := a) (x2 := some (.v () d')) (x3 := y3) (x4 := y4) (x5 := y5) (x6 := y6) (x7 := y7) (x8 := y8) (x9 := x9) (x10 := x10) k1 (by omega) hn
    exact ⟨_, _, rfl, .inl e3, q3, _, _, _, _, _, _, _, rfl, pen_mono k3 (by omega)⟩) ⟨q, x2, x3, x4, x5, x6, x7, x8, rfl, hq⟩
  rw [hl] at k1
  refine ⟨q2, y2, y3, y4, y5, y6, y7, y8, ?_, k1⟩
  have g : LW2 n = evFor (evArgI [(evLit (.int 6))] kRange1) (tgName 2) (LXall n) := rfl
  rw [g, for_r s2, h]
theorem for_e {f : Ev} {t : Tg} {B : Es} {env e : Env} {l : List D} (h : f env = .ok (newL l, e)) : evFor (evItE f) t B env = forD t B l e := by
  refine for_r ?_
  simp only [evItE, h, R.bind, toD_L, itemsD]
def fxB (n : Nat) : Es := (evIf (evTnot (evTest (evCall (F__law_is_told n) [.l 9] []))) (evRet (evLit (.bl false))) evNil)
theorem lw3 (hn : 1000 < n) : ∃ y9, LW3 n (eW a q x2 x3 x4 x5 x6 x7 x8 x9 x10) = .nx (eW a q x2 x3 x4 x5 x6 x7 x8 y9 x10) := by
  have hb := big_size
  obtain ⟨e2, h, y9, rfl⟩ := for_inv (t := tgName 9) (B := fxB n) (ds := fixD) (I := fun _ e => ∃ y9, e = eW a q x2 x3 x4 x5 x6 x7 x8 y9 x10) (e := eW a q x2 x3 x4 x5 x6 x7 x8 x9 x10) (fun k d hd e he => by
    obtain ⟨y9, rfl⟩ := he
    obtain ⟨w, rfl, hw, _⟩ := isT_all fixD_T d (List.mem_of_getElem? hd)
    have t1 := told_run n w (by omega) (by omega)
    have c1 : evCall (F__law_is_told n) [.l 9] [] (eW a q x2 x3 x4 x5 x6 x7 x8 (some (vs (S w))) x10) = .ok (tt, eW a q x2 x3 x4 x5 x6 x7 x8 (some (vs (S w))) x10) := ev_l1 rfl t1
    exact ⟨_, _, rfl, .inl (ev_if (ev_nt (ev_tst c1)) rfl), _, rfl⟩) ⟨x9, rfl⟩
  refine ⟨y9, ?_⟩
  have g : LW3 n = evFor (evItE (evLst (fixD.map evLit))) (tgName 9) (fxB n) := rfl
  rw [g, for_e fixE, h]
def oddD : List D := [.non, .int 5, .tup [], .lst [.str "cloth"], .bl true, .dct []]
theorem oddE {env : Env} : evLst [(evLit .non), (evLit (.int 5)), (evTup []), (evLst [(evLit (.str "cloth"))]), (evLit (.bl true)), (evDict [])] env = .ok (newL oddD, env) := by
  have h6 : (6 : Nat) ≤ sizeLine := by decide
  have h1 : (1 : Nat) ≤ sizeLine := by decide
  simp [evLst, evDs, evLit, evTup, evDict, evDictV, zipK, R.bind, Ow.toD, Ow.toDs, oddD, h6, h1, newL]
  rfl
theorem odd_no : ∀ d ∈ oddD, pIsi a_str w_str [d] = some (.v () (.bl false)) := fun d hd => by
  simp only [oddD, List.mem_cons, List.not_mem_nil, or_false] at hd
  rcases hd with rfl | rfl | rfl | rfl | rfl | rfl <;> simp [pIsi, isiD, tyN, as_str, oB]
theorem ev_l1x {F : Fn} {env : Env} {i : Nat} {q q2 : O} {x : Ex} (h : env[i]? = some (some q)) (hF : F [q] = .exc x [some q2]) : evCall F [.l i] [] env = .exc x (env.set i (some q2)) := by
  simp only [evCall, evAs, h, R.bind, fetch, Option.map_some, List.map_nil, List.append_nil, hF, FR.fin, unfetch, List.set_set]
theorem ev_tellx {cs : List Str} {hs : List (Str × List HEl)} {f : Ev} {env e : Env} {x : Ex} {ds : List D} (h : f env = .exc x e) (h2 : handleX cs hs x = some ds) (h3 : ds.length ≤ sizeLine) : evTell true cs hs f env = .ok (newL ds, e) := by
  simp only [evTell, h, h2, if_pos h3, if_true]
  rfl
theorem lw45 (hq : IsPen m q) (hm : m + 2 < 549755813888) : ∃ q' y10, LW4 n (eW a q x2 x3 x4 x5 x6 x7 x8 x9 x10) = .nx (eW a q' x2 x3 x4 x5 x6 x7 x8 x9 y10) ∧ LW5 n (eW a q' x2 x3 x4 x5 x6 x7 x8 x9 y10) = .nx (eW a q' x2 x3 x4 x5 x6 x7 x8 x9 y10) ∧ IsPen (m + 1) q' := by
  obtain ⟨z, q2, e2, hz, h2⟩ := pick_run n m q oddD hq (by omega) (by decide) (by decide)
  have hno := tokens_no n z (odd_no z hz)
  have s4 : LW4 n (eW a q x2 x3 x4 x5 x6 x7 x8 x9 x10) = .nx (eW a q2 x2 x3 x4 x5 x6 x7 x8 x9 (some (.v () z))) := ev_set (ev_fetch1 rfl oddE rfl e2)
  refine ⟨q2, some (.v () z), s4, ?_, h2⟩
  have c1 : evCall (F_tokens n) [.l 10] [] (eW a q2 x2 x3 x4 x5 x6 x7 x8 x9 (some (.v () z))) = .exc (misD ⟨0, 0, 0⟩) (eW a q2 x2 x3 x4 x5 x6 x7 x8 x9 (some (.v () z))) := ev_l1x rfl hno
  have c2 : handleX csX hs__law_why (misD ⟨0, 0, 0⟩) = some [.str "read", .int 0, .int 0] := by rfl
  have c3 : evTell true csX hs__law_why (evCall (F_tokens n) [.l 10] []) (eW a q2 x2 x3 x4 x5 x6 x7 x8 x9 (some (.v () z))) = .ok (newL [.str "read", .int 0, .int 0], eW a q2 x2 x3 x4 x5 x6 x7 x8 x9 (some (.v () z))) := ev_tellx c1 c2 (by decide)
  have c4 : evLst [(evLit (.str "read")), (evLit (.int 0)), (evLit (.int 0))] (eW a q2 x2 x3 x4 x5 x6 x7 x8 x9 (some (.v () z))) = .ok (newL [.str "read", .int 0, .int 0], eW a q2 x2 x3 x4 x5 x6 x7 x8 x9 (some (.v () z))) := ev_lits (ds := [.str "read", .int 0, .int 0]) (by decide)
  exact ev_if (ev_t (ev_ee c3 c4 (by rw [toD_L]; exact eq_read 0 0))) rfl
def lastD : List D := [.str "", .str (mulS "a" 12), .str (mulS "a" 13), .str "1a", .str "a1", .str "A", .str "a b", .str "a\n", .non, .int 5, .bl true, .tup [], .lst [.str "a"], .str "7", .str "-"]
def notStr : D → Bool
  | .non => true | .int _ => true | .bl _ => true | .tup _ => true | .lst _ => true | _ => false
theorem not_str {d : D} (h : notStr d = true) : pIsi a_str w_str [d] = some (.v () (.bl false)) := by
  cases d <;> first | (cases h; done) | simp [pIsi, isiD, tyN, as_str, oB]
theorem lastD_T : lastD.all (fun d => isTB 16 d || notStr d) = true := by decide +kernel
def lastX : List Ev := [(evLit (.str "")), (evPrim pMul [.e (evLit (.str "a")), .e (evLit (.int 12))]), (evPrim pMul [.e (evLit (.str "a")), .e (evLit (.int 13))]), (evLit (.str "1a")), (evLit (.str "a1")), (evLit (.str "A")), (evLit (.str "a b")), (evLit (.str "a\n")), (evLit .non), (evLit (.int 5)), (evLit (.bl true)), (evTup []), (evLst [(evLit (.str "a"))]), (evLit (.str "7")), (evLit (.str "-"))]
theorem lastE {env : Env} : evLst lastX env = .ok (newL lastD, env) := by
  have h15 : (15 : Nat) ≤ sizeLine := by decide
  have h1 : (1 : Nat) ≤ sizeLine := by decide
  have m12 : pMul [.str "a", .int 12] = some (vs (mulS "a" 12)) := by
    simp only [pMul]
    rw [if_pos ⟨by decide, by decide, by decide⟩]
  have m13 : pMul [.str "a", .int 13] = some (vs (mulS "a" 13)) := by
    simp only [pMul]
    rw [if_pos ⟨by decide, by decide, by decide⟩]
  have e12 : evPrim pMul [.e (evLit (.str "a")), .e (evLit (.int 12))] env = .ok (vs (mulS "a" 12), env) := ev_ee ev_lit ev_lit m12
  have e13 : evPrim pMul [.e (evLit (.str "a")), .e (evLit (.int 13))] env = .ok (vs (mulS "a" 13), env) := ev_ee ev_lit ev_lit m13
  simp only [evLst, lastX, evDs, evLit, e12, e13, evTup, R.bind, Ow.toD, Ow.toDs, List.length_cons, List.length_nil, List.map_cons, List.map_nil, Nat.zero_add, Nat.reduceAdd, if_pos h15, if_pos h1, Nat.zero_le, if_true]
  rfl
def lsB (n : Nat) : Es := (evIf (evTnot (evTest (evCall (F__law_same n 12) [.e (evCall (F_is_name n) [.l 9] []), .e (evCall (F__law_is_name n) [.l 9] [])] []))) (evRet (evLit (.bl false))) evNil)
theorem ls_turn {d : D} (h : IsT 16 d ∨ notStr d = true) : lsB n (eW a q x2 x3 x4 x5 x6 x7 x8 (some (.v () d)) x10) = .nx (eW a q x2 x3 x4 x5 x6 x7 x8 (some (.v () d)) x10) := by
  have hb := big_size
  have : ∃ b : Bool, F_is_name n [.v () d] = .ok (.v () (.bl b)) [some (.v () d)] ∧ F__law_is_name n [.v () d] = .ok (.v () (.bl b)) [some (.v () d)] := by
    rcases h with ⟨w, rfl, hw, hc⟩ | h
    · exact ⟨_, isname_run n w (by omega), law_name n w (by omega) hc⟩
    · exact ⟨_, isname_no n d (not_str h), lawname_no n d (not_str h)⟩
  obtain ⟨b, h1, h2⟩ := this
  have c1 : evCall (F_is_name n) [.l 9] [] (eW a q x2 x3 x4 x5 x6 x7 x8 (some (.v () d)) x10) = .ok (.v () (.bl b), eW a q x2 x3 x4 x5 x6 x7 x8 (some (.v () d)) x10) := ev_l1 rfl h1
  have c2 : evCall (F__law_is_name n) [.l 9] [] (eW a q x2 x3 x4 x5 x6 x7 x8 (some (.v () d)) x10) = .ok (.v () (.bl b), eW a q x2 x3 x4 x5 x6 x7 x8 (some (.v () d)) x10) := ev_l1 rfl h2
  exact ev_if (ev_nt (ev_tst (ev_ee1 c1 c2 (same_run n 12 (.bl b) rfl)))) rfl
theorem lw6 (hq : IsPen m q) (hm : m + 100 < 549755813888) : ∃ q' y9, LW6 n (eW a q x2 x3 x4 x5 x6 x7 x8 x9 x10) = .nx (eW a q' x2 x3 x4 x5 x6 x7 x8 y9 x10) := by
  have hb := big_size
  obtain ⟨q1, G, e1, k1, k2, k3⟩ := names_run n m q 3 hq (by omega) (by omega)
  have hkl : keysD.length = 9 := rfl
  have hll : lastD.length = 15 := rfl
  have c1 : evCall (F__law_names n) [.l 1, .e (evLit (.int 3))] [] (eW a q x2 x3 x4 x5 x6 x7 x8 x9 x10) = .ok (newL G, eW a q1 x2 x3 x4 x5 x6 x7 x8 x9 x10) := ev_fetch1 (x := iv 3) rfl ev_lit rfl e1
  have c2 : evCall (F__law_keys n) [] [] (eW a q1 x2 x3 x4 x5 x6 x7 x8 x9 x10) = .ok (newL keysD, eW a q1 x2 x3 x4 x5 x6 x7 x8 x9 x10) := ev_0 (law_keys n)
  have c3 := ev_ee (p := pSum) c1 c2 (by rw [toD_L, toD_L]; exact sum_L (by omega))
  have c4 := ev_ee (p := pSum) c3 lastE (by rw [toD_L, toD_L]; exact sum_L (by simp; omega))
  obtain ⟨e2, h, y9, rfl⟩ := for_inv (t := tgName 9) (B := lsB n) (ds := G ++ keysD ++ lastD) (I := fun _ e => ∃ y9, e = eW a q1 x2 x3 x4 x5 x6 x7 x8 y9 x10) (e := eW a q1 x2 x3 x4 x5 x6 x7 x8 x9 x10) (fun k d hd e he => by
    obtain ⟨y9, rfl⟩ := he
    have hd := List.mem_of_getElem? hd
    have hx : IsT 16 d ∨ notStr d = true := by
      simp only [List.mem_append] at hd
      rcases hd with (h | h) | h
      · exact .inl (isT_mono (k3 d h) (by omega))
      · exact .inl (isT_all keysD_T d h)
      · have := List.all_eq_true.mp lastD_T d h
        simp only [Bool.or_eq_true] at this
        rcases this with h | h
        · exact .inl (isT_of h)
        · exact .inr h
    exact ⟨_, _, rfl, .inl (ls_turn hx), _, rfl⟩) ⟨x9, rfl⟩
  refine ⟨q1, y9, ?_⟩
  have g : LW6 n = evFor (evItE (evPrim pSum [.e (evPrim pSum [.e (evCall (F__law_names n) [.l 1, .e (evLit (.int 3))] []), .e (evCall (F__law_keys n) [] [])]), .e (evLst lastX)])) (tgName 9) (lsB n) := rfl
  rw [g, for_e c4, h]
end
theorem law_true : LawTrue := fun ns hl _ => by
  obtain ⟨q, bk, e, rfl, hq⟩ := pen_run 100000 ns hl
  obtain ⟨q2, y2, y3, y4, y5, y6, y7, y8, e2, h2⟩ := lw2 (n := 100000) (a := .v () (.scr (ns.map .int))) (x2 := none) (x3 := none) (x4 := none) (x5 := none) (x6 := none) (x7 := none) (x8 := none) (x9 := none) (x10 := none) hq (by omega) (by omega)
  obtain ⟨y9, e3⟩ := lw3 (n := 100000) (a := .v () (.scr (ns.map .int))) (q := q2) (x2 := y2) (x3 := y3) (x4 := y4) (x5 := y5) (x6 := y6) (x7 := y7) (x8 := y8) (x9 := none) (x10 := none) (by omega)
  obtain ⟨q4, y10, e4, e5, h4⟩ := lw45 (n := 100000) (a := .v () (.scr (ns.map .int))) (x2 := y2) (x3 := y3) (x4 := y4) (x5 := y5) (x6 := y6) (x7 := y7) (x8 := y8) (x9 := y9) (x10 := none) h2 (by omega)
  obtain ⟨q6, z9, e6⟩ := lw6 (n := 100000) (a := .v () (.scr (ns.map .int))) (x2 := y2) (x3 := y3) (x4 := y4) (x5 := y5) (x6 := y6) (x7 := y7) (x8 := y8) (x9 := y9) (x10 := y10) h4 (by omega)
  have s1 : LW1 100000 [some (.v () (.scr (ns.map .int))), none, none, none, none, none, none, none, none, none, none] = .nx (eW (.v () (.scr (ns.map .int))) q none none none none none none none none none) := ev_set (ev_l1 rfl e)
  have s7 : LW7 (eW (.v () (.scr (ns.map .int))) q6 y2 y3 y4 y5 y6 y7 y8 z9 y10) = .ret tt (eW (.v () (.scr (ns.map .int))) q6 y2 y3 y4 y5 y6 y7 y8 z9 y10) := ev_ret ev_lit
  have g : g_law 100000 = (evSeq (LW1 100000) (evSeq (LW2 100000) (evSeq (LW3 100000) (evSeq (LW4 100000) (evSeq (LW5 100000) (evSeq (LW6 100000) LW7)))))) := rfl
  refine ⟨100000, back [true] (eW (.v () (.scr (ns.map .int))) q6 y2 y3 y4 y5 y6 y7 y8 z9 y10), ?_⟩
  rw [F_law, g]
  exact ev_def (e1 := [some (.v () (.scr (ns.map .int))), none, none, none, none, none, none, none, none, none, none]) rfl rfl (ev_seq s1 (ev_seq e2 (ev_seq e3 (ev_seq e4 (ev_seq e5 (ev_seq e6 s7))))))
end EV

theorem PySem.Challenge.cw_everycloth_k02_whole_tokens_holds : PySem.Challenge.rw_everycloth_k02_whole_tokens.Holds :=
  EV.holds_of EV.law_true
