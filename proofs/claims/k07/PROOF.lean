import PyProof.Rows.All
import HandS.ForMost
import HandS.Exc
import HandS.ExcOwn
import HandS.WordsExc
import HandS.TupAny
import HandS.Wide
import HandS.IsInst
import HandS.Conv
import HandS.Text
import HandS.Comp
import HandS.Iter
import HandS.Dict
import HandS.Deep
import HandS.ExcIs
import HandS.EndBits
import PyProof.ReprReads
import HandS.ExcInit
import HandS.ExcField
import PyProof.FactsAll.dict_1
import KE.KExcIs
import HandS.RaiseMore
import HandS.ExcValue
import HandS.More
import HandS.TupMul
import KE.GoesEnum
import PyProof.Rows.ReprShort
import PyProof.Rows.ReprOcc
import PyProof.StrBlockL
import PySem.Challenge.RW_roundhand_k07_written
set_option Elab.async false
set_option linter.all false
set_option maxRecDepth 100000
namespace FL
open PySem PySem.Spec L2
open PyProof.Rows hiding St
/-! ## trees -/
inductive Ow where
  | sh | ow | bo | fz | pn (a : Addr)
  deriving DecidableEq
/-- what an exception's field holds -/
inductive FV where
  | non | int (i : Int) | str (x : Str) | tup (xs : List FV)
inductive T where
  | non | bl (b : Bool) | int (i : Int) | str (x : Str) | tup (xs : List T) | lst (o : Ow) (xs : List T) | exc (cls : Str) (fs : List (Str × FV)) | emp | vid (a : Addr)
mutual
def FV.t : FV → T
  | .non => .non
  | .int i => .int i
  | .str x => .str x
  | .tup xs => .tup (FV.ts xs)
def FV.ts : List FV → List T
  | [] => []
  | x :: xs => FV.t x :: FV.ts xs
end
abbrev Cnt := Addr → Nat
abbrev zc : Cnt := fun _ => 0
mutual
/-- no list within -/
def nol : T → Bool
  | .tup ts => nols ts
  | .lst _ _ => false
  | .vid _ => false
  | _ => true
def nols : List T → Bool
  | [] => true
  | t :: ts => nol t && nols ts
end
/-- a list that is read alone: the script -/
def KL (K : PySem.W.Frag) (a : Addr) (xs : List V) : Prop := ∃ (o : Obj) (its : Array Value) (n : Nat), K.lookup a = some o ∧ o.cls = .type "list" ∧ o.dict = none ∧ o.data = .seq its n ∧ its.size ≤ sizeLine ∧ Vals xs its.toList
def FzL (K : PySem.W.Frag) (H : Hp) (a : Addr) (xs : List V) : Prop := (∃ o, H a = some (.frz o (.lst xs))) ∨ KL K a xs
theorem FzL.same {K : PySem.W.Frag} {H H' : Hp} {a : Addr} {xs : List V} (e : Same H H') (h : FzL K H a xs) : FzL K H' a xs := h.imp (fun ⟨o, z⟩ => ⟨o, e _ _ z⟩) fun z => z
theorem FzL.upd {K : PySem.W.Frag} {H : Hp} {a b : Addr} {xs : List V} {u o' : HO} (hb : H b = some u) (hu : ∀ o w, u ≠ .frz o w) (h : FzL K H a xs) : FzL K (upd H b o') a xs :=
  h.imp (fun ⟨o, z⟩ => ⟨o, by rw [upd_ne (fun y => by rw [y, hb] at z; cases z; exact hu _ _ rfl)]; exact z⟩) fun z => z
theorem FzL.sq {K : PySem.W.Frag} {H : Hp} {a : Addr} {xs : List V} (h : FzL K H a xs) : SqL K H a xs := h.elim (fun ⟨o, z⟩ => .inl (.inr ⟨o, z⟩)) fun z => .inr z
mutual
def FRep (K : PySem.W.Frag) (H : Hp) : FV → V → Prop
  | .non, v => v = .non
  | .int i, v => v = .int i
  | .str x, v => v = .str x
  | .tup xs, v => ∃ a vs, v = .ref a ∧ SqT K H a vs ∧ FReps K H xs vs
def FReps (K : PySem.W.Frag) (H : Hp) : List FV → List V → Prop
  | [], vs => vs = []
  | x :: xs, vs => ∃ v r, vs = v :: r ∧ FRep K H x v ∧ FReps K H xs r
end
/-- an exception that is held -/
def exv (C : Value) (d : Option Addr) (a : Addr) : HO := .ext fun h => ∃ (oe : Obj) (vs : Array Value), h.get? a = some oe ∧ Zc C d oe ∧ oe.data = .fields vs
def FldX (K : PySem.W.Frag) (H : Hp) (fs : List (Str × FV)) (d : Option Addr) : Prop := (fs = [] ∧ d = none) ∨ ∃ dd vs, d = some dd ∧ H dd = some (.xd vs) ∧ ∀ f t, fs.lookup f = some t → ∃ v, vs.lookup f = some v ∧ FRep K H t v
def RepE (K : PySem.W.Frag) (mg : Str → Option Value) (H : Hp) (cls : Str) (fs : List (Str × FV)) (v : V) : Prop := ∃ a C d, v = .ref a ∧ H a = some (exv C d a) ∧ mg cls = some C ∧ FldX K H fs d
/-- an empty dict that nobody writes -/
def EmpV (H : Hp) (v : V) : Prop := ∃ a o, v = .ref a ∧ H a = some (.frz o (.dK []))
mutual
def Rep (K : PySem.W.Frag) (mg : Str → Option Value) (H : Hp) (s : Addr → Prop) : T → V → Cnt → Prop
  | .non, v, _ => v = .non
  | .bl b, v, _ => v = .bl b
  | .int i, v, _ => v = .int i
  | .str x, v, _ => v = .str x
  | .exc cls fs, v, _ => RepE K mg H cls fs v
  | .emp, v, _ => EmpV H v
  | .vid a, v, _ => v = .ref a
  | .tup ts, v, c => ∃ a vs, v = .ref a ∧ (H a = some (.tup vs) ∨ (nols ts = true ∧ SqT K H a vs)) ∧ Reps K mg H s ts vs c
  | .lst .sh ts, v, _ => ∃ a vs, v = .ref a ∧ H a = some (.lst vs) ∧ s a ∧ Reps K mg H s ts vs zc
  | .lst .bo ts, v, _ => ∃ a vs, v = .ref a ∧ H a = some (.lst vs) ∧ Reps K mg H s ts vs zc
  | .lst .fz ts, v, _ => ∃ a vs, v = .ref a ∧ FzL K H a vs ∧ Reps K mg H s ts vs zc
  | .lst .ow ts, v, c => ∃ a vs c', v = .ref a ∧ H a = some (.lst vs) ∧ c' a + 1 ≤ c a ∧ (∀ b, c' b ≤ c b) ∧ Reps K mg H s ts vs c'
  | .lst (.pn p) ts, v, c => v = .ref p ∧ ∃ a vs c', v = .ref a ∧ H a = some (.lst vs) ∧ c' a + 1 ≤ c a ∧ (∀ b, c' b ≤ c b) ∧ Reps K mg H s ts vs c'
def Reps (K : PySem.W.Frag) (mg : Str → Option Value) (H : Hp) (s : Addr → Prop) : List T → List V → Cnt → Prop
  | [], vs, _ => vs = []
  | t :: ts, vs, c => ∃ v r c1 c2, vs = v :: r ∧ (∀ b, c1 b + c2 b ≤ c b) ∧ Rep K mg H s t v c1 ∧ Reps K mg H s ts r c2
end
mutual
/-- nothing borrowed within -/
def nob : T → Bool
  | .tup ts => nobs ts
  | .lst o ts => o != .bo && nobs ts
  | _ => true
def nobs : List T → Bool
  | [] => true
  | t :: ts => nob t && nobs ts
end
mutual
/-- every list within is owned, or never written -/
def alw : T → Bool
  | .tup ts => alws ts
  | .lst o ts => (o == .ow || o == .fz) && alws ts
  | _ => true
def alws : List T → Bool
  | [] => true
  | t :: ts => alw t && alws ts
end
mutual
def shr : T → T
  | .tup ts => .tup (shrs ts)
  | .lst .fz ts => .lst .fz (shrs ts)
  | .lst _ ts => .lst .sh (shrs ts)
  | t => t
def shrs : List T → List T
  | [] => []
  | t :: ts => shr t :: shrs ts
end
mutual
def bor : T → T
  | .tup ts => .tup (bors ts)
  | .lst .ow ts => .lst .bo (bors ts)
  | .lst (.pn _) ts => .lst .bo (bors ts)
  | .lst o ts => .lst o (bors ts)
  | t => t
def bors : List T → List T
  | [] => []
  | t :: ts => bor t :: bors ts
end
theorem shrs_map : ∀ ts, shrs ts = ts.map shr
  | [] => rfl
  | t :: ts => by show shr t :: shrs ts = _; rw [shrs_map ts]; rfl
theorem bors_map : ∀ ts, bors ts = ts.map bor
  | [] => rfl
  | t :: ts => by show bor t :: bors ts = _; rw [bors_map ts]; rfl
theorem nols_all : ∀ ts, nols ts = ts.all nol
  | [] => rfl
  | t :: ts => by show (nol t && nols ts) = _; rw [nols_all ts]; rfl
theorem nobs_all : ∀ ts, nobs ts = ts.all nob
  | [] => rfl
  | t :: ts => by show (nob t && nobs ts) = _; rw [nobs_all ts]; rfl
theorem alws_all : ∀ ts, alws ts = ts.all alw
  | [] => rfl
  | t :: ts => by show (alw t && alws ts) = _; rw [alws_all ts]; rfl
mutual
theorem nolShr : ∀ t, nol t = true → nol (shr t) = true
  | .non, h => h
  | .bl _, h => h
  | .int _, h => h
  | .str _, h => h
  | .exc _ _, h => h
  | .emp, h => h
  | .vid _, h => h
  | .tup ts, h => nolsShr ts h
  | .lst _ ts, h => by simp [nol] at h
theorem nolsShr : ∀ ts, nols ts = true → nols (shrs ts) = true
  | [], h => h
  | t :: ts, h => by
    have h' : nol t = true ∧ nols ts = true := by simpa [nols] using h
    show (nol (shr t) && nols (shrs ts)) = true
    rw [nolShr t h'.1, nolsShr ts h'.2]
    rfl
end
mutual
theorem nolBor : ∀ t, nol t = true → nol (bor t) = true
  | .non, h => h
  | .bl _, h => h
  | .int _, h => h
  | .str _, h => h
  | .exc _ _, h => h
  | .emp, h => h
  | .vid _, h => h
  | .tup ts, h => nolsBor ts h
  | .lst _ ts, h => by simp [nol] at h
theorem nolsBor : ∀ ts, nols ts = true → nols (bors ts) = true
  | [], h => h
  | t :: ts, h => by
    have h' : nol t = true ∧ nols ts = true := by simpa [nols] using h
    show (nol (bor t) && nols (bors ts)) = true
    rw [nolBor t h'.1, nolsBor ts h'.2]
    rfl
end
mutual
theorem nobShr : ∀ t, nob t = true → nob (shr t) = true
  | .non, h => h
  | .bl _, h => h
  | .int _, h => h
  | .str _, h => h
  | .exc _ _, h => h
  | .emp, h => h
  | .vid _, h => h
  | .tup ts, h => nobsShr ts h
  | .lst .sh ts, h => by
    have h' : nobs ts = true := by simpa [nob] using h
    simpa [nob, shr] using nobsShr ts h'
  | .lst .bo ts, h => by simp [nob] at h
  | .lst .fz ts, h => by
    have h' : nobs ts = true := by simpa [nob] using h
    simpa [nob, shr] using nobsShr ts h'
  | .lst .ow ts, h => by
    have h' : nobs ts = true := by simpa [nob] using h
    simpa [nob, shr] using nobsShr ts h'
  | .lst (.pn p) ts, h => by
    have h' : nobs ts = true := by simpa [nob] using h
    simpa [nob, shr] using nobsShr ts h'
theorem nobsShr : ∀ ts, nobs ts = true → nobs (shrs ts) = true
  | [], h => h
  | t :: ts, h => by
    have h' : nob t = true ∧ nobs ts = true := by simpa [nobs] using h
    show (nob (shr t) && nobs (shrs ts)) = true
    rw [nobShr t h'.1, nobsShr ts h'.2]
    rfl
end
section
variable {K : PySem.W.Frag} {mg : Str → Option Value}
theorem sqt_same {H H' : Hp} (e : Same H H') {a : Addr} {xs : List V} (h : SqT K H a xs) : SqT K H' a xs := by
  rcases h with (h | ⟨o, h⟩) | h
  · exact .inl (.inl (e _ _ h))
  · exact .inl (.inr ⟨o, e _ _ h⟩)
  · exact .inr h
theorem sqt_upd {H : Hp} {a b : Addr} {xs ys : List V} {o' : HO} (hb : H b = some (.lst ys)) (h : SqT K H a xs) : SqT K (upd H b o') a xs := by
  rcases h with (h | ⟨o, h⟩) | h
  · exact .inl (.inl (by rw [upd_ne (fun z => by rw [z, hb] at h; cases h)]; exact h))
  · exact .inl (.inr ⟨o, by rw [upd_ne (fun z => by rw [z, hb] at h; cases h)]; exact h⟩)
  · exact .inr h
theorem sql_upd {H : Hp} {a b : Addr} {xs zs : List V} (ne : a ≠ b) (h : SqL K H a xs) : SqL K (upd H b (.lst zs)) a xs := by
  rcases h with (h | ⟨o, h⟩) | h
  · exact .inl (.inl (by rw [upd_ne ne]; exact h))
  · exact .inl (.inr ⟨o, by rw [upd_ne ne]; exact h⟩)
  · exact .inr h
theorem lst_ne {H : Hp} {a b : Addr} {xs : List V} {o : HO} (ha : H a = some o) (hb : H b = some (.lst xs)) (d : ∀ ys, o ≠ .lst ys) : a ≠ b := fun z => by
  rw [z, hb] at ha
  cases ha
  exact d xs rfl
mutual
theorem FRep.same {H H' : Hp} (e : Same H H') : ∀ (x : FV) (v : V), FRep K H x v → FRep K H' x v
  | .non, _, h => h
  | .int _, _, h => h
  | .str _, _, h => h
  | .tup xs, v, h => by
    obtain ⟨a, vs, e1, h1, h2⟩ := h
    exact ⟨a, vs, e1, sqt_same e h1, FReps.same e xs vs h2⟩
theorem FReps.same {H H' : Hp} (e : Same H H') : ∀ (xs : List FV) (vs : List V), FReps K H xs vs → FReps K H' xs vs
  | [], _, h => h
  | x :: xs, vs, h => by
    obtain ⟨v, r, e1, h1, h2⟩ := h
    exact ⟨v, r, e1, FRep.same e x v h1, FReps.same e xs r h2⟩
end
mutual
theorem FRep.upd {H : Hp} {a : Addr} {xs : List V} {o' : HO} (ha : H a = some (.lst xs)) : ∀ (x : FV) (v : V), FRep K H x v → FRep K (upd H a o') x v
  | .non, _, h => h
  | .int _, _, h => h
  | .str _, _, h => h
  | .tup zs, v, h => by
    obtain ⟨b, vs, e1, h1, h2⟩ := h
    exact ⟨b, vs, e1, sqt_upd ha h1, FReps.upd ha zs vs h2⟩
theorem FReps.upd {H : Hp} {a : Addr} {xs : List V} {o' : HO} (ha : H a = some (.lst xs)) : ∀ (zs : List FV) (vs : List V), FReps K H zs vs → FReps K (upd H a o') zs vs
  | [], _, h => h
  | x :: zs, vs, h => by
    obtain ⟨v, r, e1, h1, h2⟩ := h
    exact ⟨v, r, e1, FRep.upd ha x v h1, FReps.upd ha zs r h2⟩
end
theorem FldX.same {H H' : Hp} (e : Same H H') {fs : List (Str × FV)} {d : Option Addr} (h : FldX K H fs d) : FldX K H' fs d := h.imp id fun ⟨dd, vs, e1, h1, h2⟩ => ⟨dd, vs, e1, e _ _ h1, fun f t z => by
  obtain ⟨v, h3, h4⟩ := h2 f t z
  exact ⟨v, h3, FRep.same e t v h4⟩⟩
theorem FldX.upd {H : Hp} {a : Addr} {xs : List V} {o' : HO} (ha : H a = some (.lst xs)) {fs : List (Str × FV)} {d : Option Addr} (h : FldX K H fs d) : FldX K (upd H a o') fs d := h.imp id fun ⟨dd, vs, e1, h1, h2⟩ => ⟨dd, vs, e1, by rw [upd_ne (lst_ne h1 ha fun _ z => by cases z)]; exact h1, fun f t z => by
  obtain ⟨v, h3, h4⟩ := h2 f t z
  exact ⟨v, h3, FRep.upd ha t v h4⟩⟩
theorem RepE.same {H H' : Hp} (e : Same H H') {cls : Str} {fs : List (Str × FV)} {v : V} (h : RepE K mg H cls fs v) : RepE K mg H' cls fs v := by
  obtain ⟨a, C, d, e1, h1, h2, h3⟩ := h
  exact ⟨a, C, d, e1, e _ _ h1, h2, h3.same e⟩
theorem exv_lst {C : Value} {d : Option Addr} {a : Addr} {ys : List V} : exv C d a ≠ .lst ys := fun z => by
  have z' : HO.ext _ = HO.lst ys := z
  cases z'
theorem RepE.upd {H : Hp} {a : Addr} {xs : List V} {o' : HO} (ha : H a = some (.lst xs)) {cls : Str} {fs : List (Str × FV)} {v : V} (h : RepE K mg H cls fs v) : RepE K mg (upd H a o') cls fs v := by
  obtain ⟨b, C, d, e1, h1, h2, h3⟩ := h
  exact ⟨b, C, d, e1, by rw [upd_ne (lst_ne h1 ha fun _ => exv_lst)]; exact h1, h2, h3.upd ha⟩
theorem EmpV.same {H H' : Hp} (e : Same H H') {v : V} (h : EmpV H v) : EmpV H' v := let ⟨a, o, e1, h1⟩ := h; ⟨a, o, e1, e _ _ h1⟩
theorem EmpV.upd {H : Hp} {a : Addr} {xs : List V} {o' : HO} (ha : H a = some (.lst xs)) {v : V} (h : EmpV H v) : EmpV (upd H a o') v := let ⟨b, o, e1, h1⟩ := h; ⟨b, o, e1, by rw [upd_ne (lst_ne h1 ha fun _ z => by cases z)]; exact h1⟩
mutual
theorem Rep.mono {H H' : Hp} {s s' : Addr → Prop} (hs : ∀ b, s b → s' b) (e : Same H H') : ∀ (t : T) (v : V) (c c' : Cnt), (∀ b, c b ≤ c' b) → Rep K mg H s t v c → Rep K mg H' s' t v c'
  | .non, _, _, _, _, h => h
  | .bl _, _, _, _, _, h => h
  | .int _, _, _, _, _, h => h
  | .str _, _, _, _, _, h => h
  | .exc _ _, _, _, _, _, h => RepE.same e h
  | .emp, _, _, _, _, h => EmpV.same e h
  | .vid _, _, _, _, _, h => h
  | .tup ts, v, c, c', hc, h => by
    obtain ⟨a, vs, e1, h1, h2⟩ := h
    exact ⟨a, vs, e1, h1.elim (fun z => .inl (e _ _ z)) (fun z => .inr ⟨z.1, sqt_same e z.2⟩), Reps.mono hs e ts vs c c' hc h2⟩
  | .lst .sh ts, v, c, c', hc, h => by
    obtain ⟨a, vs, e1, h1, h3, h2⟩ := h
    exact ⟨a, vs, e1, e _ _ h1, hs a h3, Reps.mono hs e ts vs zc zc (fun _ => Nat.le_refl _) h2⟩
  | .lst .bo ts, v, c, c', hc, h => by
    obtain ⟨a, vs, e1, h1, h2⟩ := h
    exact ⟨a, vs, e1, e _ _ h1, Reps.mono hs e ts vs zc zc (fun _ => Nat.le_refl _) h2⟩
  | .lst .fz ts, v, c, c', hc, h => by
    obtain ⟨a, vs, e1, h1, h2⟩ := h
    exact ⟨a, vs, e1, h1.same e, Reps.mono hs e ts vs zc zc (fun _ => Nat.le_refl _) h2⟩
  | .lst .ow ts, v, c, c', hc, h => by
    obtain ⟨a, vs, c1, e1, h1, h3, h4, h2⟩ := h
    exact ⟨a, vs, c1, e1, e _ _ h1, Nat.le_trans h3 (hc a), fun b => Nat.le_trans (h4 b) (hc b), Reps.mono hs e ts vs c1 c1 (fun _ => Nat.le_refl _) h2⟩
  | .lst (.pn p) ts, v, c, c', hc, h => by
    obtain ⟨e0, a, vs, c1, e1, h1, h3, h4, h2⟩ := h
    exact ⟨e0, a, vs, c1, e1, e _ _ h1, Nat.le_trans h3 (hc a), fun b => Nat.le_trans (h4 b) (hc b), Reps.mono hs e ts vs c1 c1 (fun _ => Nat.le_refl _) h2⟩
theorem Reps.mono {H H' : Hp} {s s' : Addr → Prop} (hs : ∀ b, s b → s' b) (e : Same H H') : ∀ (ts : List T) (vs : List V) (c c' : Cnt), (∀ b, c b ≤ c' b) → Reps K mg H s ts vs c → Reps K mg H' s' ts vs c'
  | [], _, _, _, _, h => h
  | t :: ts, vs, c, c', hc, h => by
    obtain ⟨v, r, c1, c2, e1, h1, h2, h3⟩ := h
    exact ⟨v, r, c1, c2, e1, fun b => Nat.le_trans (h1 b) (hc b), Rep.mono hs e t v c1 c1 (fun _ => Nat.le_refl _) h2, Reps.mono hs e ts r c2 c2 (fun _ => Nat.le_refl _) h3⟩
end
/-! a list that is nowhere within is written -/
mutual
theorem Rep.upd {H : Hp} {s : Addr → Prop} {a : Addr} {xs : List V} {o' : HO} (ha : H a = some (.lst xs)) (hs : ¬ s a) : ∀ (t : T) (v : V) (c : Cnt), nob t = true → c a = 0 → Rep K mg H s t v c → Rep K mg (upd H a o') s t v c
  | .non, _, _, _, _, h => h
  | .bl _, _, _, _, _, h => h
  | .int _, _, _, _, _, h => h
  | .str _, _, _, _, _, h => h
  | .exc _ _, _, _, _, _, h => RepE.upd ha h
  | .emp, _, _, _, _, h => EmpV.upd ha h
  | .vid _, _, _, _, _, h => h
  | .tup ts, v, c, hb, hc, h => by
    obtain ⟨b, vs, e1, h1, h2⟩ := h
    exact ⟨b, vs, e1, h1.elim (fun z => .inl (by rw [upd_ne (lst_ne z ha (fun _ y => by cases y))]; exact z)) (fun z => .inr ⟨z.1, sqt_upd ha z.2⟩), Reps.upd ha hs ts vs c hb hc h2⟩
  | .lst .sh ts, v, c, hb, hc, h => by
    obtain ⟨b, vs, e1, h1, h3, h2⟩ := h
    have hb' : nobs ts = true := by simpa [nob] using hb
    exact ⟨b, vs, e1, by rw [upd_ne (fun z => hs (by rw [← z]; exact h3))]; exact h1, h3, Reps.upd ha hs ts vs zc hb' rfl h2⟩
  | .lst .bo ts, v, c, hb, hc, h => by simp [nob] at hb
  | .lst .fz ts, v, c, hb, hc, h => by
    obtain ⟨b, vs, e1, h1, h2⟩ := h
    have hb' : nobs ts = true := by simpa [nob] using hb
    exact ⟨b, vs, e1, h1.upd ha (fun _ _ z => by cases z), Reps.upd ha hs ts vs zc hb' rfl h2⟩
  | .lst .ow ts, v, c, hb, hc, h => by
    obtain ⟨b, vs, c1, e1, h1, h3, h4, h2⟩ := h
    have hb' : nobs ts = true := by simpa [nob] using hb
    have hba : b ≠ a := fun z => by rw [z, hc] at h3; omega
    exact ⟨b, vs, c1, e1, by rw [upd_ne hba]; exact h1, h3, h4, Reps.upd ha hs ts vs c1 hb' (Nat.le_zero.mp (hc ▸ h4 a)) h2⟩
  | .lst (.pn p) ts, v, c, hb, hc, h => by
    obtain ⟨e0, b, vs, c1, e1, h1, h3, h4, h2⟩ := h
    have hb' : nobs ts = true := by simpa [nob] using hb
    have hba : b ≠ a := fun z => by rw [z, hc] at h3; omega
    exact ⟨e0, b, vs, c1, e1, by rw [upd_ne hba]; exact h1, h3, h4, Reps.upd ha hs ts vs c1 hb' (Nat.le_zero.mp (hc ▸ h4 a)) h2⟩
theorem Reps.upd {H : Hp} {s : Addr → Prop} {a : Addr} {xs : List V} {o' : HO} (ha : H a = some (.lst xs)) (hs : ¬ s a) : ∀ (ts : List T) (vs : List V) (c : Cnt), nobs ts = true → c a = 0 → Reps K mg H s ts vs c → Reps K mg (upd H a o') s ts vs c
  | [], _, _, _, _, h => h
  | t :: ts, vs, c, hb, hc, h => by
    obtain ⟨v, r, c1, c2, e1, h1, h2, h3⟩ := h
    have hb' : nob t = true ∧ nobs ts = true := by simpa [nobs] using hb
    have := h1 a
    exact ⟨v, r, c1, c2, e1, h1, Rep.upd ha hs t v c1 hb'.1 (by omega) h2, Reps.upd ha hs ts r c2 hb'.2 (by omega) h3⟩
end
mutual
theorem Rep.shr {H : Hp} {s s' : Addr → Prop} (hs : ∀ b, s b → s' b) (hl : ∀ b xs, H b = some (.lst xs) → s' b) : ∀ (t : T) (v : V) (c : Cnt), Rep K mg H s t v c → Rep K mg H s' (FL.shr t) v zc
  | .non, _, _, h => h
  | .bl _, _, _, h => h
  | .int _, _, _, h => h
  | .str _, _, _, h => h
  | .exc _ _, _, _, h => h
  | .emp, _, _, h => h
  | .vid _, _, _, h => h
  | .tup ts, v, c, h => by
    obtain ⟨a, vs, e1, h1, h2⟩ := h
    exact ⟨a, vs, e1, h1.elim .inl (fun z => .inr ⟨nolsShr ts z.1, z.2⟩), Reps.shr hs hl ts vs c h2⟩
  | .lst .sh ts, v, c, h => by
    obtain ⟨a, vs, e1, h1, h3, h2⟩ := h
    exact ⟨a, vs, e1, h1, hs a h3, Reps.shr hs hl ts vs zc h2⟩
  | .lst .bo ts, v, c, h => by
    obtain ⟨a, vs, e1, h1, h2⟩ := h
    exact ⟨a, vs, e1, h1, hl a vs h1, Reps.shr hs hl ts vs zc h2⟩
  | .lst .fz ts, v, c, h => by
    obtain ⟨a, vs, e1, h1, h2⟩ := h
    exact ⟨a, vs, e1, h1, Reps.shr hs hl ts vs zc h2⟩
  | .lst .ow ts, v, c, h => by
    obtain ⟨a, vs, c1, e1, h1, h3, h4, h2⟩ := h
    exact ⟨a, vs, e1, h1, hl a vs h1, Reps.shr hs hl ts vs c1 h2⟩
  | .lst (.pn p) ts, v, c, h => by
    obtain ⟨e0, a, vs, c1, e1, h1, h3, h4, h2⟩ := h
    exact ⟨a, vs, e1, h1, hl a vs h1, Reps.shr hs hl ts vs c1 h2⟩
theorem Reps.shr {H : Hp} {s s' : Addr → Prop} (hs : ∀ b, s b → s' b) (hl : ∀ b xs, H b = some (.lst xs) → s' b) : ∀ (ts : List T) (vs : List V) (c : Cnt), Reps K mg H s ts vs c → Reps K mg H s' (FL.shrs ts) vs zc
  | [], _, _, h => h
  | t :: ts, vs, c, h => by
    obtain ⟨v, r, c1, c2, e1, h1, h2, h3⟩ := h
    exact ⟨v, r, zc, zc, e1, fun _ => Nat.le_refl _, Rep.shr hs hl t v c1 h2, Reps.shr hs hl ts r c2 h3⟩
end
/-! .. what is owned there is shared from here on -/
mutual
theorem Rep.frz {H : Hp} {s s' : Addr → Prop} : ∀ (t : T) (v : V) (c : Cnt), nob t = true → (∀ b, s b → s' b) → (∀ b, 1 ≤ c b → s' b) → Rep K mg H s t v c → Rep K mg H s' (FL.shr t) v zc
  | .non, _, _, _, _, _, h => h
  | .bl _, _, _, _, _, _, h => h
  | .int _, _, _, _, _, _, h => h
  | .str _, _, _, _, _, _, h => h
  | .exc _ _, _, _, _, _, _, h => h
  | .emp, _, _, _, _, _, h => h
  | .vid _, _, _, _, _, _, h => h
  | .tup ts, v, c, hb, hs, hl, h => by
    obtain ⟨a, vs, e1, h1, h2⟩ := h
    exact ⟨a, vs, e1, h1.elim .inl (fun z => .inr ⟨nolsShr ts z.1, z.2⟩), Reps.frz ts vs c hb hs hl h2⟩
  | .lst .sh ts, v, c, hb, hs, hl, h => by
    obtain ⟨a, vs, e1, h1, h3, h2⟩ := h
    have hb' : nobs ts = true := by simpa [nob] using hb
    exact ⟨a, vs, e1, h1, hs a h3, Reps.frz ts vs zc hb' hs (fun b z => absurd z (Nat.not_succ_le_zero 0)) h2⟩
  | .lst .bo ts, v, c, hb, hs, hl, h => by simp [nob] at hb
  | .lst .fz ts, v, c, hb, hs, hl, h => by
    obtain ⟨a, vs, e1, h1, h2⟩ := h
    have hb' : nobs ts = true := by simpa [nob] using hb
    exact ⟨a, vs, e1, h1, Reps.frz ts vs zc hb' hs (fun b z => absurd z (Nat.not_succ_le_zero 0)) h2⟩
  | .lst .ow ts, v, c, hb, hs, hl, h => by
    obtain ⟨a, vs, c1, e1, h1, h3, h4, h2⟩ := h
    have hb' : nobs ts = true := by simpa [nob] using hb
    exact ⟨a, vs, e1, h1, hl a (Nat.le_trans (Nat.le_add_left 1 _) h3), Reps.frz ts vs c1 hb' hs (fun b z => hl b (Nat.le_trans z (h4 b))) h2⟩
  | .lst (.pn p) ts, v, c, hb, hs, hl, h => by
    obtain ⟨e0, a, vs, c1, e1, h1, h3, h4, h2⟩ := h
    have hb' : nobs ts = true := by simpa [nob] using hb
    exact ⟨a, vs, e1, h1, hl a (Nat.le_trans (Nat.le_add_left 1 _) h3), Reps.frz ts vs c1 hb' hs (fun b z => hl b (Nat.le_trans z (h4 b))) h2⟩
theorem Reps.frz {H : Hp} {s s' : Addr → Prop} : ∀ (ts : List T) (vs : List V) (c : Cnt), nobs ts = true → (∀ b, s b → s' b) → (∀ b, 1 ≤ c b → s' b) → Reps K mg H s ts vs c → Reps K mg H s' (FL.shrs ts) vs zc
  | [], _, _, _, _, _, h => h
  | t :: ts, vs, c, hb, hs, hl, h => by
    obtain ⟨v, r, c1, c2, e1, h1, h2, h3⟩ := h
    have hb' : nob t = true ∧ nobs ts = true := by simpa [nobs] using hb
    exact ⟨v, r, zc, zc, e1, fun _ => Nat.le_refl _, Rep.frz t v c1 hb'.1 hs (fun b z => hl b (by have := h1 b; omega)) h2, Reps.frz ts r c2 hb'.2 hs (fun b z => hl b (by have := h1 b; omega)) h3⟩
end
mutual
theorem Rep.bor {H : Hp} {s : Addr → Prop} : ∀ (t : T) (v : V) (c : Cnt), Rep K mg H s t v c → Rep K mg H s (FL.bor t) v zc
  | .non, _, _, h => h
  | .bl _, _, _, h => h
  | .int _, _, _, h => h
  | .str _, _, _, h => h
  | .exc _ _, _, _, h => h
  | .emp, _, _, h => h
  | .vid _, _, _, h => h
  | .tup ts, v, c, h => by
    obtain ⟨a, vs, e1, h1, h2⟩ := h
    exact ⟨a, vs, e1, h1.elim .inl (fun z => .inr ⟨nolsBor ts z.1, z.2⟩), Reps.bor ts vs c h2⟩
  | .lst .sh ts, v, c, h => by
    obtain ⟨a, vs, e1, h1, h3, h2⟩ := h
    exact ⟨a, vs, e1, h1, h3, Reps.bor ts vs zc h2⟩
  | .lst .bo ts, v, c, h => by
    obtain ⟨a, vs, e1, h1, h2⟩ := h
    exact ⟨a, vs, e1, h1, Reps.bor ts vs zc h2⟩
  | .lst .fz ts, v, c, h => by
    obtain ⟨a, vs, e1, h1, h2⟩ := h
    exact ⟨a, vs, e1, h1, Reps.bor ts vs zc h2⟩
  | .lst .ow ts, v, c, h => by
    obtain ⟨a, vs, c1, e1, h1, h3, h4, h2⟩ := h
    exact ⟨a, vs, e1, h1, Reps.bor ts vs c1 h2⟩
  | .lst (.pn p) ts, v, c, h => by
    obtain ⟨e0, a, vs, c1, e1, h1, h3, h4, h2⟩ := h
    exact ⟨a, vs, e1, h1, Reps.bor ts vs c1 h2⟩
theorem Reps.bor {H : Hp} {s : Addr → Prop} : ∀ (ts : List T) (vs : List V) (c : Cnt), Reps K mg H s ts vs c → Reps K mg H s (FL.bors ts) vs zc
  | [], _, _, h => h
  | t :: ts, vs, c, h => by
    obtain ⟨v, r, c1, c2, e1, h1, h2, h3⟩ := h
    exact ⟨v, r, zc, zc, e1, fun _ => Nat.le_refl _, Rep.bor t v c1 h2, Reps.bor ts r c2 h3⟩
end
/-! where all is owned nothing is shared -/
mutual
theorem Rep.own {H : Hp} {s s' : Addr → Prop} : ∀ (t : T) (v : V) (c : Cnt), alw t = true → Rep K mg H s t v c → Rep K mg H s' t v c
  | .non, _, _, _, h => h
  | .bl _, _, _, _, h => h
  | .int _, _, _, _, h => h
  | .str _, _, _, _, h => h
  | .exc _ _, _, _, _, h => h
  | .emp, _, _, _, h => h
  | .vid _, _, _, _, h => h
  | .tup ts, v, c, hb, h => by
    obtain ⟨a, vs, e1, h1, h2⟩ := h
    exact ⟨a, vs, e1, h1, Reps.own ts vs c hb h2⟩
  | .lst .sh ts, v, c, hb, h => by simp [alw] at hb
  | .lst .bo ts, v, c, hb, h => by simp [alw] at hb
  | .lst .fz ts, v, c, hb, h => by
    obtain ⟨a, vs, e1, h1, h2⟩ := h
    have hb' : alws ts = true := by simpa [alw] using hb
    exact ⟨a, vs, e1, h1, Reps.own ts vs zc hb' h2⟩
  | .lst .ow ts, v, c, hb, h => by
    obtain ⟨a, vs, c1, e1, h1, h3, h4, h2⟩ := h
    have hb' : alws ts = true := by simpa [alw] using hb
    exact ⟨a, vs, c1, e1, h1, h3, h4, Reps.own ts vs c1 hb' h2⟩
  | .lst (.pn p) ts, v, c, hb, h => by
    exfalso
    have z : (((Ow.pn p) == Ow.ow || (Ow.pn p) == Ow.fz) && alws ts) = true := hb
    simp at z
theorem Reps.own {H : Hp} {s s' : Addr → Prop} : ∀ (ts : List T) (vs : List V) (c : Cnt), alws ts = true → Reps K mg H s ts vs c → Reps K mg H s' ts vs c
  | [], _, _, _, h => h
  | t :: ts, vs, c, hb, h => by
    obtain ⟨v, r, c1, c2, e1, h1, h2, h3⟩ := h
    have hb' : alw t = true ∧ alws ts = true := by simpa [alws] using hb
    exact ⟨v, r, c1, c2, e1, h1, Rep.own t v c1 hb'.1 h2, Reps.own ts r c2 hb'.2 h3⟩
end
theorem Reps.length {H : Hp} {s : Addr → Prop} : ∀ {ts : List T} {vs : List V} {c : Cnt}, Reps K mg H s ts vs c → vs.length = ts.length
  | [], vs, _, h => by
    have h' : vs = [] := h
    rw [h']
    rfl
  | t :: ts, vs, c, h => by
    obtain ⟨v, r, c1, c2, e1, h1, h2, h3⟩ := h
    rw [e1, List.length_cons, List.length_cons, Reps.length h3]
theorem Reps.get {H : Hp} {s : Addr → Prop} : ∀ {ts : List T} {vs : List V} {c : Cnt} {i : Nat} {t : T}, Reps K mg H s ts vs c → ts[i]? = some t → ∃ v, vs[i]? = some v ∧ Rep K mg H s t v c
  | [], _, _, _, _, _, e => by simp at e
  | t :: ts, vs, c, 0, u, h, e => by
    obtain ⟨v, r, c1, c2, e1, h1, h2, h3⟩ := h
    simp at e
    subst e
    exact ⟨v, by rw [e1]; rfl, Rep.mono (fun _ h => h) (Same.refl H) _ _ _ _ (fun b => by have := h1 b; omega) h2⟩
  | t :: ts, vs, c, i + 1, u, h, e => by
    obtain ⟨v, r, c1, c2, e1, h1, h2, h3⟩ := h
    obtain ⟨w, hw, hr⟩ := Reps.get (i := i) (t := u) h3 (by simpa using e)
    exact ⟨w, by rw [e1]; simpa using hw, Rep.mono (fun _ h => h) (Same.refl H) _ _ _ _ (fun b => by have := h1 b; omega) hr⟩
theorem Reps.append {H : Hp} {s : Addr → Prop} : ∀ {ts us : List T} {vs ws : List V} {c d e : Cnt}, (∀ b, c b + d b ≤ e b) → Reps K mg H s ts vs c → Reps K mg H s us ws d → Reps K mg H s (ts ++ us) (vs ++ ws) e
  | [], us, vs, ws, c, d, e, hc, h, k => by
    have h' : vs = [] := h
    subst h'
    exact Reps.mono (fun _ h => h) (Same.refl H) us ws d e (fun b => by have := hc b; omega) k
  | t :: ts, us, vs, ws, c, d, e, hc, h, k => by
    obtain ⟨v, r, c1, c2, e1, h1, h2, h3⟩ := h
    subst e1
    exact ⟨v, r ++ ws, c1, fun b => c2 b + d b, rfl, fun b => by have := hc b; have := h1 b; show c1 b + (c2 b + d b) ≤ e b; omega, h2, Reps.append (fun b => Nat.le_refl _) h3 k⟩
theorem Reps.split {H : Hp} {s : Addr → Prop} : ∀ {ts us : List T} {vs : List V} {c : Cnt}, Reps K mg H s (ts ++ us) vs c → ∃ v1 v2 c1 c2, vs = v1 ++ v2 ∧ (∀ b, c1 b + c2 b ≤ c b) ∧ Reps K mg H s ts v1 c1 ∧ Reps K mg H s us v2 c2
  | [], us, vs, c, h => ⟨[], vs, zc, c, rfl, fun b => by simp, rfl, h⟩
  | t :: ts, us, vs, c, h => by
    obtain ⟨v, r, c1, c2, e1, h1, h2, h3⟩ := h
    obtain ⟨v1, v2, d1, d2, e2, k1, k2, k3⟩ := Reps.split (ts := ts) (us := us) h3
    exact ⟨v :: v1, v2, fun b => c1 b + d1 b, d2, by rw [e1, e2]; rfl, fun b => by have := h1 b; have := k1 b; show c1 b + d1 b + d2 b ≤ c b; omega, ⟨v, v1, c1, d1, rfl, fun b => Nat.le_refl _, h2, k2⟩, k3⟩
end
end FL
namespace FL
open PySem PySem.Spec L2
open PyProof.Rows hiding St
abbrev En := List (Option T)
def fresh (H H' : Hp) (b : Addr) : Nat := if (H b).isNone && (H' b).isSome then 1 else 0
theorem fresh_new {H : Hp} {p : Addr} {o : HO} (h : H p = none) : fresh H (upd H p o) p = 1 := by simp [fresh, h, upd_same]
theorem fresh_pos {H H' : Hp} {b : Addr} (h : 1 ≤ fresh H H' b) : H b = none ∧ H' b ≠ none := by
  unfold fresh at h
  split at h
  · rename_i q
    simp at q
    refine ⟨q.1, fun z => ?_⟩
    rw [z] at q
    simp at q
  · omega
theorem fresh_le {H H' : Hp} {b : Addr} : fresh H H' b ≤ 1 := by
  unfold fresh
  split <;> omega
theorem fresh_trans {H H1 H2 : Hp} (e : Same H H1) (e2 : Same H1 H2) (b : Addr) : fresh H H1 b + fresh H1 H2 b ≤ fresh H H2 b := by
  unfold fresh
  cases q : H b with
  | some o =>
    rw [e b o q]
    simp
  | none =>
    cases q1 : H1 b with
    | some o =>
      rw [e2 b o q1]
      simp
    | none => simp
section
variable {K : PySem.W.Frag} {mg : Str → Option Value}
def RepS (K : PySem.W.Frag) (mg : Str → Option Value) (H : Hp) (s : Addr → Prop) : En → St → Cnt → Prop
  | [], σ, _ => σ = []
  | o :: ρ, σ, c => ∃ x r c1 c2, σ = x :: r ∧ (∀ b, c1 b + c2 b ≤ c b) ∧ (∀ t, o = some t → ∃ v, x = some v ∧ nob t = true ∧ Rep K mg H s t v c1) ∧ RepS K mg H s ρ r c2
def RepP (K : PySem.W.Frag) (mg : Str → Option Value) (H : Hp) (s : Addr → Prop) : List (T × V) → Cnt → Prop
  | [], _ => True
  | p :: r, c => ∃ c1 c2, (∀ b, c1 b + c2 b ≤ c b) ∧ Rep K mg H s p.1 p.2 c1 ∧ RepP K mg H s r c2
structure Wf (H0 H : Hp) (c : Cnt) (s : Addr → Prop) : Prop where
  one : ∀ b, c b ≤ 1
  own : ∀ b, 1 ≤ c b → ¬ s b ∧ H b ≠ none ∧ H0 b = none
  shd : ∀ b, s b → H b ≠ none
structure Iv (K : PySem.W.Frag) (mg : Str → Option Value) (H0 H : Hp) (σ : St) (ρ : En) (tmp : List (T × V)) : Prop where
  ext : Same H0 H
  rep : ∃ c s c1 c2, Wf H0 H c s ∧ (∀ b, c1 b + c2 b ≤ c b) ∧ RepS K mg H s ρ σ c1 ∧ RepP K mg H s tmp c2
theorem Rep.le {H : Hp} {s : Addr → Prop} {t : T} {v : V} {c c' : Cnt} (hc : ∀ b, c b ≤ c' b) (h : Rep K mg H s t v c) : Rep K mg H s t v c' := Rep.mono (fun _ h => h) (Same.refl H) t v c c' hc h
theorem Reps.le {H : Hp} {s : Addr → Prop} {t : List T} {v : List V} {c c' : Cnt} (hc : ∀ b, c b ≤ c' b) (h : Reps K mg H s t v c) : Reps K mg H s t v c' := Reps.mono (fun _ h => h) (Same.refl H) t v c c' hc h
theorem RepS.mono {H H' : Hp} {s s' : Addr → Prop} (hs : ∀ b, s b → s' b) (e : Same H H') : ∀ {ρ : En} {σ : St} {c c' : Cnt}, (∀ b, c b ≤ c' b) → RepS K mg H s ρ σ c → RepS K mg H' s' ρ σ c'
  | [], _, _, _, _, h => h
  | o :: ρ, σ, c, c', hc, h => by
    obtain ⟨x, r, c1, c2, e1, h1, h2, h3⟩ := h
    exact ⟨x, r, c1, c2, e1, fun b => Nat.le_trans (h1 b) (hc b), fun t ht => let ⟨v, q1, q2, q3⟩ := h2 t ht; ⟨v, q1, q2, Rep.mono hs e _ _ _ _ (fun _ => Nat.le_refl _) q3⟩, RepS.mono hs e (fun _ => Nat.le_refl _) h3⟩
theorem RepS.upd {H : Hp} {s : Addr → Prop} {a : Addr} {xs : List V} {o' : HO} (ha : H a = some (.lst xs)) (hs : ¬ s a) : ∀ {ρ : En} {σ : St} {c : Cnt}, c a = 0 → RepS K mg H s ρ σ c → RepS K mg (upd H a o') s ρ σ c
  | [], _, _, _, h => h
  | o :: ρ, σ, c, hc, h => by
    obtain ⟨x, r, c1, c2, e1, h1, h2, h3⟩ := h
    have := h1 a
    exact ⟨x, r, c1, c2, e1, h1, fun t ht => let ⟨v, q1, q2, q3⟩ := h2 t ht; ⟨v, q1, q2, Rep.upd ha hs _ _ _ q2 (by omega) q3⟩, RepS.upd ha hs (by omega) h3⟩
theorem RepS.length {H : Hp} {s : Addr → Prop} : ∀ {ρ : En} {σ : St} {c : Cnt}, RepS K mg H s ρ σ c → σ.length = ρ.length
  | [], σ, _, h => by
    have h' : σ = [] := h
    rw [h']
    rfl
  | o :: ρ, σ, c, h => by
    obtain ⟨x, r, c1, c2, e1, h1, h2, h3⟩ := h
    rw [e1, List.length_cons, List.length_cons, RepS.length h3]
/-- one slot apart -/
theorem RepS.get {H : Hp} {s : Addr → Prop} : ∀ {ρ : En} {σ : St} {c : Cnt} {i : Nat} {t : T}, RepS K mg H s ρ σ c → ρ[i]? = some (some t) →
    ∃ v c1 c2, σ[i]? = some (some v) ∧ (∀ b, c1 b + c2 b ≤ c b) ∧ nob t = true ∧ Rep K mg H s t v c1 ∧ RepS K mg H s (ρ.set i none) σ c2
  | [], _, _, _, _, _, e => by simp at e
  | o :: ρ, σ, c, 0, t, h, e => by
    obtain ⟨x, r, c1, c2, e1, h1, h2, h3⟩ := h
    have e' : o = some t := by simpa using e
    obtain ⟨v, q1, q2, q3⟩ := h2 t e'
    exact ⟨v, c1, c2, by rw [e1, q1]; rfl, h1, q2, q3, ⟨x, r, zc, c2, e1, fun b => by simp, fun t ht => (nomatch ht), h3⟩⟩
  | o :: ρ, σ, c, i + 1, t, h, e => by
    obtain ⟨x, r, c1, c2, e1, h1, h2, h3⟩ := h
    obtain ⟨v, d1, d2, q1, q2, q3, q4, q5⟩ := RepS.get (i := i) h3 (by simpa using e)
    refine ⟨v, d1, fun b => c1 b + d2 b, by rw [e1]; simpa using q1, fun b => ?_, q3, q4, ⟨x, r, c1, d2, e1, fun b => Nat.le_refl _, h2, q5⟩⟩
    have := h1 b
    have := q2 b
    show d1 b + (c1 b + d2 b) ≤ c b
    omega
/-- a slot is set (what was there is let go) -/
theorem RepS.set {H : Hp} {s : Addr → Prop} {t : T} {v : V} {d : Cnt} (hb : nob t = true) (ht : Rep K mg H s t v d) : ∀ {ρ : En} {σ : St} {c e : Cnt} {i : Nat}, (∀ b, c b + d b ≤ e b) → RepS K mg H s ρ σ c → RepS K mg H s (ρ.set i (some t)) (σ.set i (some v)) e
  | [], σ, c, e, i, hc, h => by
    have h' : σ = [] := h
    subst h'
    rfl
  | o :: ρ, σ, c, e, 0, hc, h => by
    obtain ⟨x, r, c1, c2, e1, h1, h2, h3⟩ := h
    subst e1
    refine ⟨some v, r, d, c2, rfl, fun b => ?_, fun u hu => ?_, h3⟩
    · have := h1 b
      have := hc b
      omega
    · cases hu
      exact ⟨v, rfl, hb, ht⟩
  | o :: ρ, σ, c, e, i + 1, hc, h => by
    obtain ⟨x, r, c1, c2, e1, h1, h2, h3⟩ := h
    subst e1
    refine ⟨x, r.set i (some v), c1, fun b => c2 b + d b, rfl, fun b => ?_, h2, RepS.set hb ht (fun b => Nat.le_refl _) h3⟩
    have := h1 b
    have := hc b
    show c1 b + (c2 b + d b) ≤ e b
    omega
/-- .. the value there stays, another tree -/
theorem RepS.retree {H : Hp} {s : Addr → Prop} {t : T} {v : V} {d : Cnt} (hb : nob t = true) (ht : Rep K mg H s t v d) : ∀ {ρ : En} {σ : St} {c e : Cnt} {i : Nat}, σ[i]? = some (some v) → (∀ b, c b + d b ≤ e b) → RepS K mg H s ρ σ c → RepS K mg H s (ρ.set i (some t)) σ e
  | ρ, σ, c, e, i, hv, hc, h => by
    have k := RepS.set (i := i) hb ht hc h
    have e1 : σ.set i (some v) = σ := by
      apply List.ext_getElem?
      intro j
      by_cases hj : i = j
      · subst hj
        rw [List.getElem?_set_self (List.getElem?_eq_some_iff.mp hv).1, hv]
      · rw [List.getElem?_set_ne hj]
    rw [e1] at k
    exact k
theorem RepS.none {H : Hp} {s : Addr → Prop} {c : Cnt} {ρ : En} {σ : St} {i : Nat} (h : RepS K mg H s ρ σ c) : RepS K mg H s (ρ.set i none) σ c := by
  induction ρ generalizing σ c i with
  | nil => exact h
  | cons o ρ ih =>
    obtain ⟨x, r, c1, c2, e1, h1, h2, h3⟩ := h
    cases i with
    | zero => exact ⟨x, r, c1, c2, e1, h1, fun t ht => (nomatch ht), h3⟩
    | succ i => exact ⟨x, r, c1, c2, e1, h1, h2, ih h3⟩
theorem RepP.mono {H H' : Hp} {s s' : Addr → Prop} (hs : ∀ b, s b → s' b) (e : Same H H') : ∀ {l : List (T × V)} {c c' : Cnt}, (∀ b, c b ≤ c' b) → RepP K mg H s l c → RepP K mg H' s' l c'
  | [], _, _, _, h => h
  | p :: r, c, c', hc, h => by
    obtain ⟨c1, c2, h1, h2, h3⟩ := h
    exact ⟨c1, c2, fun b => Nat.le_trans (h1 b) (hc b), Rep.mono hs e _ _ _ _ (fun _ => Nat.le_refl _) h2, RepP.mono hs e (fun _ => Nat.le_refl _) h3⟩
theorem RepP.le {H : Hp} {s : Addr → Prop} {l : List (T × V)} {c c' : Cnt} (hc : ∀ b, c b ≤ c' b) (h : RepP K mg H s l c) : RepP K mg H s l c' := RepP.mono (fun _ h => h) (Same.refl H) hc h
theorem RepP.upd {H : Hp} {s : Addr → Prop} {a : Addr} {xs : List V} {o' : HO} (ha : H a = some (.lst xs)) (hs : ¬ s a) : ∀ {l : List (T × V)} {c : Cnt}, (∀ p ∈ l, nob p.1 = true) → c a = 0 → RepP K mg H s l c → RepP K mg (upd H a o') s l c
  | [], _, _, _, h => h
  | p :: r, c, hn, hc, h => by
    obtain ⟨c1, c2, h1, h2, h3⟩ := h
    have := h1 a
    exact ⟨c1, c2, h1, Rep.upd ha hs _ _ _ (hn p List.mem_cons_self) (by omega) h2, RepP.upd ha hs (fun q hq => hn q (List.mem_cons_of_mem _ hq)) (by omega) h3⟩
theorem RepP.append {H : Hp} {s : Addr → Prop} : ∀ {l m : List (T × V)} {c d e : Cnt}, (∀ b, c b + d b ≤ e b) → RepP K mg H s l c → RepP K mg H s m d → RepP K mg H s (l ++ m) e
  | [], m, c, d, e, hc, h, k => k.le fun b => by have := hc b; omega
  | p :: r, m, c, d, e, hc, h, k => by
    obtain ⟨c1, c2, h1, h2, h3⟩ := h
    refine ⟨c1, fun b => c2 b + d b, fun b => ?_, h2, RepP.append (fun _ => Nat.le_refl _) h3 k⟩
    have := h1 b
    have := hc b
    show c1 b + (c2 b + d b) ≤ e b
    omega
theorem RepP.split {H : Hp} {s : Addr → Prop} : ∀ {l m : List (T × V)} {c : Cnt}, RepP K mg H s (l ++ m) c → ∃ c1 c2, (∀ b, c1 b + c2 b ≤ c b) ∧ RepP K mg H s l c1 ∧ RepP K mg H s m c2
  | [], m, c, h => ⟨zc, c, fun b => by simp, True.intro, h⟩
  | p :: r, m, c, h => by
    obtain ⟨c1, c2, h1, h2, h3⟩ := h
    obtain ⟨d1, d2, k1, k2, k3⟩ := RepP.split h3
    refine ⟨fun b => c1 b + d1 b, d2, fun b => ?_, ⟨c1, d1, fun _ => Nat.le_refl _, h2, k2⟩, k3⟩
    have := h1 b
    have := k1 b
    show c1 b + d1 b + d2 b ≤ c b
    omega
theorem RepP.perm {H : Hp} {s : Addr → Prop} {l m : List (T × V)} (p : l.Perm m) : ∀ {c : Cnt}, RepP K mg H s l c → RepP K mg H s m c := by
  induction p with
  | nil => exact fun h => h
  | cons x _ ih =>
    intro c ⟨c1, c2, h1, h2, h3⟩
    exact ⟨c1, c2, h1, h2, ih h3⟩
  | swap x y l =>
    intro c ⟨c1, c2, h1, h2, d1, d2, k1, k2, k3⟩
    refine ⟨d1, fun b => c1 b + d2 b, fun b => ?_, k2, c1, d2, fun _ => Nat.le_refl _, h2, k3⟩
    have := h1 b
    have := k1 b
    show d1 b + (c1 b + d2 b) ≤ c b
    omega
  | trans _ _ i1 i2 => exact fun h => i2 (i1 h)
/-- paired lists -/
theorem RepP.zip {H : Hp} {s : Addr → Prop} : ∀ {ts : List T} {vs : List V} {c : Cnt}, Reps K mg H s ts vs c → RepP K mg H s (ts.zip vs) c
  | [], _, _, _ => True.intro
  | t :: ts, vs, c, h => by
    obtain ⟨v, r, c1, c2, e1, h1, h2, h3⟩ := h
    subst e1
    exact ⟨c1, c2, h1, h2, RepP.zip h3⟩
theorem RepP.unzip {H : Hp} {s : Addr → Prop} : ∀ {ts : List T} {vs : List V} {c : Cnt}, vs.length = ts.length → RepP K mg H s (ts.zip vs) c → Reps K mg H s ts vs c
  | [], vs, _, hl, _ => by
    cases vs with
    | nil => rfl
    | cons v r => simp at hl
  | t :: ts, [], c, hl, h => by simp at hl
  | t :: ts, v :: r, c, hl, h => by
    obtain ⟨c1, c2, h1, h2, h3⟩ := h
    exact ⟨v, r, c1, c2, rfl, h1, h2, RepP.unzip (by simpa using hl) h3⟩
theorem Wf.same {H0 H H' : Hp} {c : Cnt} {s : Addr → Prop} (w : Wf H0 H c s) (e : Same H H') : Wf H0 H' c s :=
  have nn : ∀ b, H b ≠ Option.none → H' b ≠ Option.none := fun b h => by
    cases q : H b with
    | none => exact absurd q h
    | some o =>
      rw [e b o q]
      exact fun z => by cases z
  ⟨w.one, fun b h => ⟨(w.own b h).1, nn b (w.own b h).2.1, (w.own b h).2.2⟩, fun b h => nn b (w.shd b h)⟩
/-- temps are consumed, others come in their place -/
theorem Iv.take {H0 H : Hp} {σ : St} {ρ : En} {ps tmp : List (T × V)} (I : Iv K mg H0 H σ ρ (ps ++ tmp)) : ∃ s c, RepP K mg H s ps c ∧ (∀ b, s b → H b ≠ none) ∧ (∀ b, 1 ≤ c b → H b ≠ none ∧ H0 b = none) ∧ (∀ b, c b ≤ 1) ∧
    ∀ H' qs, Same H H' → (∃ c', RepP K mg H' s qs c' ∧ ∀ b, c' b ≤ c b + fresh H H' b) → Iv K mg H0 H' σ ρ (qs ++ tmp) := by
  obtain ⟨ext, c, s, c1, c2, w, hc, hS, hP⟩ := I
  obtain ⟨d1, d2, k1, k2, k3⟩ := hP.split
  have b1 : ∀ b, d1 b ≤ c b := fun b => by have := hc b; have := k1 b; omega
  refine ⟨s, d1, k2, w.shd, fun b hb => ⟨(w.own b (Nat.le_trans hb (b1 b))).2.1, (w.own b (Nat.le_trans hb (b1 b))).2.2⟩, fun b => Nat.le_trans (b1 b) (w.one b), fun H' qs e ⟨c', hq, hc'⟩ => ?_⟩
  have w' := w.same e
  refine ⟨ext.trans e, fun b => c1 b + (c' b + d2 b), s, c1, fun b => c' b + d2 b, ⟨fun b => ?_, fun b hb => ?_, w'.shd⟩, fun _ => Nat.le_refl _, hS.mono (fun _ h => h) e (fun _ => Nat.le_refl _), RepP.append (fun _ => Nat.le_refl _) hq (k3.mono (fun _ h => h) e fun _ => Nat.le_refl _)⟩
  · have h1 := hc b
    have h2 := k1 b
    have h3 := hc' b
    have h4 := w.one b
    by_cases hf : 1 ≤ fresh H H' b
    · have hn := (fresh_pos hf).1
      have h5 : c b = 0 := by
        cases q : c b with
        | zero => rfl
        | succ n => exact absurd hn (w.own b (by omega)).2.1
      have := @fresh_le H H' b
      show c1 b + (c' b + d2 b) ≤ 1
      omega
    · show c1 b + (c' b + d2 b) ≤ 1
      omega
  · have h1 := hc b
    have h2 := k1 b
    have h3 := hc' b
    by_cases hf : 1 ≤ fresh H H' b
    · obtain ⟨hn, hs⟩ := fresh_pos hf
      refine ⟨fun z => w.shd b z hn, hs, ?_⟩
      cases q : H0 b with
      | none => rfl
      | some o =>
        rw [ext b o q] at hn
        cases hn
    · have : 1 ≤ c b := by
        have hb' : 1 ≤ c1 b + (c' b + d2 b) := hb
        omega
      exact w'.own b this
theorem Iv.perm {H0 H : Hp} {σ : St} {ρ : En} {tmp tmp' : List (T × V)} (p : tmp.Perm tmp') (I : Iv K mg H0 H σ ρ tmp) : Iv K mg H0 H σ ρ tmp' := by
  obtain ⟨ext, c, s, c1, c2, w, hc, hS, hP⟩ := I
  exact ⟨ext, c, s, c1, c2, w, hc, hS, hP.perm p⟩
theorem Iv.drop {H0 H : Hp} {σ : St} {ρ : En} {ps tmp : List (T × V)} (I : Iv K mg H0 H σ ρ (ps ++ tmp)) : Iv K mg H0 H σ ρ tmp := by
  obtain ⟨s, c, h, _, _, _, k⟩ := I.take
  exact k H [] (Same.refl H) ⟨zc, True.intro, fun b => Nat.zero_le _⟩
theorem Iv.drop1 {H0 H : Hp} {σ : St} {ρ : En} {p : T × V} {tmp : List (T × V)} (I : Iv K mg H0 H σ ρ (p :: tmp)) : Iv K mg H0 H σ ρ tmp := Iv.drop (ps := [p]) I
theorem Iv.clear {H0 H : Hp} {σ : St} {ρ : En} {tmp : List (T × V)} (I : Iv K mg H0 H σ ρ tmp) : Iv K mg H0 H σ ρ [] := Iv.drop (ps := tmp) (by rw [List.append_nil]; exact I)
theorem Iv.same {H0 H H' : Hp} {σ : St} {ρ : En} {tmp : List (T × V)} (e : Same H H') (I : Iv K mg H0 H σ ρ tmp) : Iv K mg H0 H' σ ρ tmp := by
  obtain ⟨s, c, h, _, _, _, k⟩ := Iv.take (ps := []) I
  exact k H' [] e ⟨zc, True.intro, fun b => Nat.zero_le _⟩
/-- a value without lists comes besides -/
theorem Iv.flat {H0 H H' : Hp} {σ : St} {ρ : En} {tmp : List (T × V)} {t : T} {v : V} (e : Same H H') (h : ∀ s, Rep K mg H' s t v zc) (I : Iv K mg H0 H σ ρ tmp) : Iv K mg H0 H' σ ρ ((t, v) :: tmp) := by
  obtain ⟨s, c, _, _, _, _, k⟩ := Iv.take (ps := []) I
  exact k H' [(t, v)] e ⟨zc, ⟨zc, zc, fun _ => Nat.le_refl _, h s, True.intro⟩, fun b => Nat.zero_le _⟩
theorem Iv.len {H0 H : Hp} {σ : St} {ρ : En} {tmp : List (T × V)} (I : Iv K mg H0 H σ ρ tmp) : σ.length = ρ.length := by
  obtain ⟨ext, c, s, c1, c2, w, hc, hS, hP⟩ := I
  exact hS.length
/-- a slot's value as it is used: shared from here on -/
theorem Iv.use {H0 H : Hp} {σ : St} {ρ : En} {tmp : List (T × V)} {i : Nat} {t : T} (I : Iv K mg H0 H σ ρ tmp) (h : ρ[i]? = some (some t)) : ∃ v, σ[i]? = some (some v) ∧ Iv K mg H0 H σ (ρ.set i (some (shr t))) ((shr t, v) :: tmp) := by
  obtain ⟨ext, c, s, c1, c2, w, hc, hS, hP⟩ := I
  obtain ⟨v, d1, d2, hv, hd, hb, hR, hS'⟩ := hS.get h
  refine ⟨v, hv, ext, fun b => d2 b + c2 b, fun b => s b ∨ 1 ≤ d1 b, d2, c2, ⟨fun b => ?_, fun b hb' => ?_, fun b hb' => ?_⟩, fun _ => Nat.le_refl _, ?_, ?_⟩
  · have := hc b
    have := hd b
    have := w.one b
    show d2 b + c2 b ≤ 1
    omega
  · have h1 := hc b
    have h2 := hd b
    have h3 := w.one b
    have h4 : 1 ≤ d2 b + c2 b := hb'
    have h5 := w.own b (by omega)
    exact ⟨fun z => z.elim h5.1 fun z => by omega, h5.2⟩
  · rcases hb' with z | z
    · exact w.shd b z
    · have h1 := hc b
      have h2 := hd b
      exact (w.own b (by omega)).2.1
  · have hn : nob (shr t) = true := nobShr t hb
    have q := Rep.frz t v d1 hb (s' := fun b => s b ∨ 1 ≤ d1 b) (fun b z => .inl z) (fun b z => .inr z) hR
    have S2 := hS'.mono (s' := fun b => s b ∨ 1 ≤ d1 b) (fun b z => .inl z) (Same.refl H) (fun _ => Nat.le_refl _)
    have S3 := RepS.retree (i := i) hn q hv (e := d2) (fun b => by simp) S2
    rwa [List.set_set] at S3
  · have q := Rep.frz t v d1 hb (s' := fun b => s b ∨ 1 ≤ d1 b) (fun b z => .inl z) (fun b z => .inr z) hR
    exact ⟨zc, c2, fun b => by simp, q, hP.mono (fun b z => .inl z) (Same.refl H) fun _ => Nat.le_refl _⟩
end
end FL
namespace FL
open PySem PySem.Spec L2
open PyProof.Rows hiding St
/-! ## outcomes -/
structure Ex where
  cls : Str
  fs : List (Str × FV)
abbrev Out (α : Type) := Option (Except (Ex × En) (α × En))
abbrev M (α : Type) := En → Out α
def ok {α : Type} (a : α) (ρ : En) : Out α := some (.ok (a, ρ))
def ob {α β : Type} (r : Out α) (k : α → En → Out β) : Out β := match r with
  | some (.ok (a, ρ)) => k a ρ
  | some (.error e) => some (.error e)
  | none => none
def ol {α : Type} (o : Option α) (ρ : En) : Out α := match o with
  | some a => ok a ρ
  | none => none
def Ps {α : Type} (r : Out α) (k : α → En → Prop) (e : Ex → En → Prop) : Prop := match r with
  | some (.ok (a, ρ)) => k a ρ
  | some (.error (x, ρ)) => e x ρ
  | none => False
section
variable {α β : Type} {r : Out α} {k k' : α → En → Prop} {e : Ex → En → Prop}
theorem Ps.imp (h : Ps r k e) (hk : ∀ a ρ, k a ρ → k' a ρ) : Ps r k' e := by
  match r, h with
  | some (.ok (a, ρ)), h => exact hk a ρ h
  | some (.error (x, ρ)), h => exact h
theorem Ps.ob {f : α → En → Out β} {k : β → En → Prop} (h : Ps (FL.ob r f) k e) : Ps r (fun a ρ => Ps (f a ρ) k e) e := by
  match r, h with
  | some (.ok (a, ρ)), h => exact h
  | some (.error (x, ρ)), h => exact h
theorem Ps.ol {o : Option α} {ρ : En} (h : Ps (FL.ol o ρ) k e) : ∃ a, o = some a ∧ k a ρ := by
  match o, h with
  | some a, h => exact ⟨a, rfl, h⟩
theorem Ps.ok' {a : α} {ρ : En} (h : Ps (FL.ok a ρ) k e) : k a ρ := h
end
@[simp] theorem ob_ok {α β : Type} {a : α} {ρ : En} {k : α → En → Out β} : ob (ok a ρ) k = k a ρ := rfl
@[simp] theorem ob_none {α β : Type} {k : α → En → Out β} : ob none k = none := rfl
@[simp] theorem ol_some {α : Type} {a : α} {ρ : En} : ol (some a) ρ = ok a ρ := rfl
@[simp] theorem ol_none {α : Type} {ρ : En} : (ol none ρ : Out α) = none := rfl
def RepX (K : PySem.W.Frag) (mg : Str → Option Value) (H : Hp) (x : Ex) (cls : Value) (d : Option Addr) : Prop := mg x.cls = some cls ∧ FldX K H x.fs d
/-! ## what a reading computes -/
section
variable (K : PySem.W.Frag) (mg : Str → Option Value) (W : WX)
/-- what is asked where an exception leaves -/
abbrev Pe (H0 : Hp) (σ : St) : Ex → En → Prop := fun x ρ' => ∀ cls d H', Iv K mg H0 H' σ ρ' [] → RepX K mg H' x cls d → W cls d σ H'
def Fe (t : TE) (f : M T) : Prop := ∀ H0 H σ ρ tmp (Q : VK), Iv K mg H0 H σ ρ tmp →
  Ps (f ρ) (fun u ρ' => ∀ v H', Same H H' → Iv K mg H0 H' σ ρ' ((u, v) :: tmp) → Q v H') (Pe K mg W H0 σ) → t σ H Q
def Ft (t : TT) (f : M Bool) : Prop := ∀ H0 H σ ρ tmp (Q : Bool → Hp → Prop), Iv K mg H0 H σ ρ tmp →
  Ps (f ρ) (fun u ρ' => ∀ H', Same H H' → Iv K mg H0 H' σ ρ' tmp → Q u H') (Pe K mg W H0 σ) → t σ H Q
def Fa (t : TA) (f : M (List T)) : Prop := ∀ H0 H σ ρ tmp (Q : List V → Hp → Prop), Iv K mg H0 H σ ρ tmp →
  Ps (f ρ) (fun u ρ' => ∀ v H', Same H H' → v.length = u.length → Iv K mg H0 H' σ ρ' (u.zip v ++ tmp) → Q v H') (Pe K mg W H0 σ) → t σ H Q
def Fo (t : TO) (f : M (Option Int)) : Prop := ∀ H0 H σ ρ tmp (Q : Option Int → Hp → Prop), Iv K mg H0 H σ ρ tmp →
  Ps (f ρ) (fun u ρ' => ∀ H', Same H H' → Iv K mg H0 H' σ ρ' tmp → Q u H') (Pe K mg W H0 σ) → t σ H Q
end
structure FE (X : Cx) (W : WX) (e : Expr) (f : M T) : Prop where
  ex : ∃ t, PE X e t ∧ Fe X.K X.mg W t f
structure FT (X : Cx) (W : WX) (e : Expr) (f : M Bool) : Prop where
  ex : ∃ t, PT X e t ∧ Ft X.K X.mg W t f
structure FW (X : Cx) (W : WX) (e : Expr) (f : M Bool) : Prop where
  ex : ∃ t, PW X e t ∧ Ft X.K X.mg W t f
structure FA (X : Cx) (W : WX) (e : List Expr) (f : M (List T)) : Prop where
  ex : ∃ t, PA X e t ∧ Fa X.K X.mg W t f
structure FO (X : Cx) (W : WX) (e : Option Expr) (f : M (Option Int)) : Prop where
  ex : ∃ t, PO X e t ∧ Fo X.K X.mg W t f
section
variable {X : Cx} {W : WX} {e a b c : Expr} {es : List Expr} {f fa fb fc : M T} {pos : Pos}
/-! ### names -/
def eUse (i : Nat) : M T := fun ρ => match ρ[i]? with
  | some (some t) => ok (shr t) (ρ.set i (some (shr t)))
  | _ => none
def eMove (i : Nat) : M T := fun ρ => match ρ[i]? with
  | some (some t) => ok t (ρ.set i none)
  | _ => none
def eBor (i : Nat) : M T := fun ρ => match ρ[i]? with
  | some (some t) => ok (bor t) ρ
  | _ => none
theorem Iv.move {K : PySem.W.Frag} {mg : Str → Option Value} {H0 H : Hp} {σ : St} {ρ : En} {tmp : List (T × V)} {i : Nat} {t : T} (I : Iv K mg H0 H σ ρ tmp) (h : ρ[i]? = some (some t)) : ∃ v, σ[i]? = some (some v) ∧ Iv K mg H0 H σ (ρ.set i none) ((t, v) :: tmp) := by
  obtain ⟨ext, c, s, c1, c2, w, hc, hS, hP⟩ := I
  obtain ⟨v, d1, d2, hv, hd, hb, hR, hS'⟩ := hS.get h
  exact ⟨v, hv, ext, c, s, d2, fun b => d1 b + c2 b, w, fun b => by have := hc b; have := hd b; show d2 b + (d1 b + c2 b) ≤ c b; omega, hS', ⟨d1, c2, fun _ => Nat.le_refl _, hR, hP⟩⟩
theorem Iv.borrow {K : PySem.W.Frag} {mg : Str → Option Value} {H0 H : Hp} {σ : St} {ρ : En} {tmp : List (T × V)} {i : Nat} {t : T} (I : Iv K mg H0 H σ ρ tmp) (h : ρ[i]? = some (some t)) : ∃ v, σ[i]? = some (some v) ∧ Iv K mg H0 H σ ρ ((bor t, v) :: tmp) := by
  obtain ⟨ext, c, s, c1, c2, w, hc, hS, hP⟩ := I
  obtain ⟨v, d1, d2, hv, hd, hb, hR, hS'⟩ := hS.get h
  exact ⟨v, hv, ext, c, s, c1, c2, w, hc, hS, ⟨zc, c2, fun b => by simp, Rep.bor _ _ _ hR, hP⟩⟩
theorem fe_use (i : Nat) {x : Str} (hN : X.N[i]? = some x := by rfl) (hv : Vis X.env.scope x := by first | exact Or.inl rfl | exact Or.inr (Or.inl rfl) | exact Or.inr (Or.inr rfl)) (hd : (x == ("__debug__" : Str)) = false := by decide)
    (hcd : (x == ("__classdict__" : Str)) = false := by decide) : FE X W (.Name x pos) (eUse i) := by
  refine ⟨tVar i, pe_var hN hv hd hcd, fun H0 H σ ρ tmp Q I h => ?_⟩
  unfold eUse at h
  split at h
  · rename_i t ht
    obtain ⟨v, hv, I2⟩ := I.use ht
    exact ⟨v, hv, h v H (Same.refl H) I2⟩
  · exact h.elim
theorem fe_move (i : Nat) {x : Str} (hN : X.N[i]? = some x := by rfl) (hv : Vis X.env.scope x := by first | exact Or.inl rfl | exact Or.inr (Or.inl rfl) | exact Or.inr (Or.inr rfl)) (hd : (x == ("__debug__" : Str)) = false := by decide)
    (hcd : (x == ("__classdict__" : Str)) = false := by decide) : FE X W (.Name x pos) (eMove i) := by
  refine ⟨tVar i, pe_var hN hv hd hcd, fun H0 H σ ρ tmp Q I h => ?_⟩
  unfold eMove at h
  split at h
  · rename_i t ht
    obtain ⟨v, hv, I2⟩ := I.move ht
    exact ⟨v, hv, h v H (Same.refl H) I2⟩
  · exact h.elim
theorem fe_bor (i : Nat) {x : Str} (hN : X.N[i]? = some x := by rfl) (hv : Vis X.env.scope x := by first | exact Or.inl rfl | exact Or.inr (Or.inl rfl) | exact Or.inr (Or.inr rfl)) (hd : (x == ("__debug__" : Str)) = false := by decide)
    (hcd : (x == ("__classdict__" : Str)) = false := by decide) : FE X W (.Name x pos) (eBor i) := by
  refine ⟨tVar i, pe_var hN hv hd hcd, fun H0 H σ ρ tmp Q I h => ?_⟩
  unfold eBor at h
  split at h
  · rename_i t ht
    obtain ⟨v, hv, I2⟩ := I.borrow ht
    exact ⟨v, hv, h v H (Same.refl H) I2⟩
  · exact h.elim
/-! ### constants -/
def eK (t : T) : M T := fun ρ => ok t ρ
theorem fe_c {v : V} {t : T} {e : Expr} (h : PE X e (tC v)) (r : ∀ H s, Rep X.K X.mg H s t v zc) : FE X W e (eK t) :=
  ⟨tC v, h, fun H0 H σ ρ tmp Q I h => h v H (Same.refl H) (I.flat (Same.refl H) fun s => r H s)⟩
theorem fe_int {i j pos} : FE X W (.Constant (.int i) j pos) (eK (.int i)) := fe_c pe_int fun _ _ => rfl
theorem fe_bl {i j pos} : FE X W (.Constant (.bool i) j pos) (eK (.bl i)) := fe_c pe_bl fun _ _ => rfl
theorem fe_str {i j pos} : FE X W (.Constant (.str i) j pos) (eK (.str i)) := fe_c pe_str fun _ _ => rfl
theorem fe_non {j pos} : FE X W (.Constant .none j pos) (eK .non) := fe_c pe_non fun _ _ => rfl
/-- a number, a text of the module's own top -/
theorem fe_gint {x : Str} {i : Int} {u : Value} {pos : Pos} (hg : Gl X x) (hm : X.mg x = some u) (r : RelV (.int i) u) (hd : (x == ("__debug__" : Str)) = false := by decide) : FE X W (.Name x pos) (eK (.int i)) := fe_c (pe_glob hg hm r hd) fun _ _ => rfl
theorem fe_gstr {x : Str} {i : Str} {u : Value} {pos : Pos} (hg : Gl X x) (hm : X.mg x = some u) (r : RelV (.str i) u) (hd : (x == ("__debug__" : Str)) = false := by decide) : FE X W (.Name x pos) (eK (.str i)) := fe_c (pe_glob hg hm r hd) fun _ _ => rfl
/-! ### two-place and one-place operations -/
def OpOk (K : PySem.W.Frag) (mg : Str → Option Value) (r : R2) (g : T → T → Option T) : Prop := ∀ H0 H σ ρ tmp x y z vx vy (Q : VK), g x y = some z → Iv K mg H0 H σ ρ ((y, vy) :: (x, vx) :: tmp) →
  (∀ v H', Same H H' → Iv K mg H0 H' σ ρ ((z, v) :: tmp) → Q v H') → r vx vy H Q
def UnOk (K : PySem.W.Frag) (mg : Str → Option Value) (r : V → Hp → VK → Prop) (g : T → Option T) : Prop := ∀ H0 H σ ρ tmp x z vx (Q : VK), g x = some z → Iv K mg H0 H σ ρ ((x, vx) :: tmp) →
  (∀ v H', Same H H' → Iv K mg H0 H' σ ρ ((z, v) :: tmp) → Q v H') → r vx H Q
def eOp (g : T → T → Option T) (fa fb : M T) : M T := fun ρ => ob (fa ρ) fun x ρ => ob (fb ρ) fun y ρ => ol (g x y) ρ
def eUn (g : T → Option T) (fa : M T) : M T := fun ρ => ob (fa ρ) fun x ρ => ol (g x) ρ
theorem fe_opR {r : R2} {g : T → T → Option T} {ta tb : TE} (hr : OpOk X.K X.mg r g) (ha : Fe X.K X.mg W ta fa) (hb : Fe X.K X.mg W tb fb) : Fe X.K X.mg W (tOp r ta tb) (eOp g fa fb) := fun H0 H σ ρ tmp Q I h =>
  ha H0 H σ ρ tmp _ I (h.ob.imp fun x ρ1 h1 vx H1 e1 I1 => hb H0 H1 σ ρ1 _ _ I1 (h1.ob.imp fun y ρ2 h2 vy H2 e2 I2 => by
    obtain ⟨z, hz, h3⟩ := h2.ol
    exact hr H0 H2 σ ρ2 tmp x y z vx vy Q hz I2 fun v H3 e3 I3 => h3 v H3 (e1.trans (e2.trans e3)) I3))
theorem fe_op {op : Operator} {r : R2} {g : T → T → Option T} (ho : OpR X (binaryOp op) r) (hr : OpOk X.K X.mg r g) (ha : FE X W a fa) (hb : FE X W b fb) : FE X W (.BinOp a op b pos) (eOp g fa fb) := by
  obtain ⟨ta, pa, qa⟩ := ha
  obtain ⟨tb, pb, qb⟩ := hb
  exact ⟨_, pe_op ho pa pb, fe_opR hr qa qb⟩
theorem fe_ix {r : R2} {g : T → T → Option T} (ho : IxR X r) (hr : OpOk X.K X.mg r g) (ha : FE X W a fa) (hb : FE X W b fb) (hs : PlainIx b) : FE X W (.Subscript a b pos) (eOp g fa fb) := by
  obtain ⟨ta, pa, qa⟩ := ha
  obtain ⟨tb, pb, qb⟩ := hb
  exact ⟨_, pe_ix ho pa pb hs, fe_opR hr qa qb⟩
theorem fe_cmp {op : CmpOp} {r : R2} {g : T → T → Option T} (ho : OpR X (compareOp op) r) (hr : OpOk X.K X.mg r g) (ha : FE X W a fa) (hb : FE X W b fb) (hm : behindInMarks op b = false) : FE X W (.Compare a [op] [b] pos) (eOp g fa fb) := by
  obtain ⟨ta, pa, qa⟩ := ha
  obtain ⟨tb, pb, qb⟩ := hb
  exact ⟨_, pe_cmpR ho pa pb hm, fe_opR hr qa qb⟩
def tb (f : M T) : M Bool := fun ρ => ob (f ρ) fun x ρ => match x with
  | .bl k => ok k ρ
  | _ => none
theorem ft_test {t : TE} (h : Fe X.K X.mg W t f) : Ft X.K X.mg W (tTest t) (FL.tb f) := fun H0 H σ ρ tmp Q I h1 =>
  h H0 H σ ρ tmp _ I (h1.ob.imp fun x ρ1 h2 v H1 e1 I1 => by
    match x, h2, I1 with
    | .bl k, h2, I1 =>
      obtain ⟨s, c, hP, _⟩ := Iv.take (ps := [(.bl k, v)]) I1
      obtain ⟨c1, c2, _, hR, _⟩ := hP
      exact ⟨k, hR, h2 H1 e1 I1.drop1⟩)
theorem ft_B {t : TE} (h : Fe X.K X.mg W t f) : Ft X.K X.mg W (tB t) (FL.tb f) := ft_test h
theorem ft_cmp {op : CmpOp} {r : R2} {g : T → T → Option T} (ho : OpR X (compareOp op) r) (hr : OpOk X.K X.mg r g) (ha : FE X W a fa) (hb : FE X W b fb) (hm : behindInMarks op b = false) : FT X W (.Compare a [op] [b] pos) (FL.tb (eOp g fa fb)) := by
  obtain ⟨ta, pa, qa⟩ := ha
  obtain ⟨tb, pb, qb⟩ := hb
  exact ⟨_, pt_cmpR ho pa pb hm, ft_test (fe_opR hr qa qb)⟩
theorem ft_val (h : FE X W e f) (he : ∀ whole, isTrue e X.env whole = (do let v ← whole; standAt e.pos; holding [v] (truthy v)) := by intro _; rfl) : FT X W e (FL.tb f) := by
  obtain ⟨t, p, q⟩ := h
  exact ⟨_, pt_val p he, ft_B q⟩
/-! ### and, or, not, if else -/
def tAn (f g : M Bool) : M Bool := fun ρ => ob (f ρ) fun k ρ => if k = true then g ρ else ok false ρ
def tOrr (f g : M Bool) : M Bool := fun ρ => ob (f ρ) fun k ρ => if k = true then ok true ρ else g ρ
def tNo (f : M Bool) : M Bool := fun ρ => ob (f ρ) fun k ρ => ok (!k) ρ
theorem fw_and1 {g : M Bool} (h : FT X W a g) : FW X W (.BoolOp .And [a] pos) g := let ⟨t, p, q⟩ := h; ⟨t, pw_and1 p, q⟩
theorem fw_or1 {g : M Bool} (h : FT X W a g) : FW X W (.BoolOp .Or [a] pos) g := let ⟨t, p, q⟩ := h; ⟨t, pw_or1 p, q⟩
theorem fw_and {rest : List Expr} {g k : M Bool} (ha : FT X W a g) (hb : FW X W (.BoolOp .And (b :: rest) pos) k) : FW X W (.BoolOp .And (a :: b :: rest) pos) (tAn g k) := by
  obtain ⟨ta, pa, qa⟩ := ha
  obtain ⟨tb, pb, qb⟩ := hb
  refine ⟨_, pw_and pa pb, fun H0 H σ ρ tmp Q I h => qa H0 H σ ρ tmp _ I (h.ob.imp fun x ρ1 h1 H1 e1 I1 => ?_)⟩
  cases x with
  | true => exact qb H0 H1 σ ρ1 tmp Q I1 (Ps.imp h1 fun u ρ2 h2 H2 e2 I2 => h2 H2 (e1.trans e2) I2)
  | false => exact h1 H1 e1 I1
theorem fw_or {rest : List Expr} {g k : M Bool} (ha : FT X W a g) (hb : FW X W (.BoolOp .Or (b :: rest) pos) k) : FW X W (.BoolOp .Or (a :: b :: rest) pos) (tOrr g k) := by
  obtain ⟨ta, pa, qa⟩ := ha
  obtain ⟨tb, pb, qb⟩ := hb
  refine ⟨_, pw_or pa pb, fun H0 H σ ρ tmp Q I h => qa H0 H σ ρ tmp _ I (h.ob.imp fun x ρ1 h1 H1 e1 I1 => ?_)⟩
  cases x with
  | true => exact h1 H1 e1 I1
  | false => exact qb H0 H1 σ ρ1 tmp Q I1 (Ps.imp h1 fun u ρ2 h2 H2 e2 I2 => h2 H2 (e1.trans e2) I2)
theorem ft_w {g : M Bool} (h : FW X W e g) : FT X W e g := let ⟨t, p, q⟩ := h; ⟨t, p.pt, q⟩
theorem ft_not {g : M Bool} (h : FT X W a g) : FT X W (.UnaryOp .Not a pos) (tNo g) := by
  obtain ⟨t, p, q⟩ := h
  exact ⟨_, pt_not p, fun H0 H σ ρ tmp Q I h => q H0 H σ ρ tmp _ I (h.ob.imp fun x ρ1 h1 H1 e1 I1 => h1 H1 e1 I1)⟩
/-! .. as values: all but the last are truths -/
def eAn (f g : M T) : M T := fun ρ => ob (f ρ) fun x ρ => match x with
  | .bl true => g ρ
  | .bl false => ok (.bl false) ρ
  | _ => none
def eOr (f g : M T) : M T := fun ρ => ob (f ρ) fun x ρ => match x with
  | .bl true => ok (.bl true) ρ
  | .bl false => g ρ
  | _ => none
def eNo (f : M T) : M T := fun ρ => ob (f ρ) fun x ρ => match x with
  | .bl k => ok (.bl (!k)) ρ
  | _ => none
theorem Iv.bl {K : PySem.W.Frag} {mg : Str → Option Value} {H0 H : Hp} {σ : St} {ρ : En} {tmp : List (T × V)} {k : Bool} {v : V} (I : Iv K mg H0 H σ ρ ((.bl k, v) :: tmp)) : v = .bl k := by
  obtain ⟨s, c, hP, _⟩ := Iv.take (ps := [(.bl k, v)]) I
  obtain ⟨c1, c2, _, hR, _⟩ := hP
  exact hR
theorem Iv.int {K : PySem.W.Frag} {mg : Str → Option Value} {H0 H : Hp} {σ : St} {ρ : En} {tmp : List (T × V)} {k : Int} {v : V} (I : Iv K mg H0 H σ ρ ((.int k, v) :: tmp)) : v = .int k := by
  obtain ⟨s, c, hP, _⟩ := Iv.take (ps := [(.int k, v)]) I
  obtain ⟨c1, c2, _, hR, _⟩ := hP
  exact hR
theorem Iv.str {K : PySem.W.Frag} {mg : Str → Option Value} {H0 H : Hp} {σ : St} {ρ : En} {tmp : List (T × V)} {k : Str} {v : V} (I : Iv K mg H0 H σ ρ ((.str k, v) :: tmp)) : v = .str k := by
  obtain ⟨s, c, hP, _⟩ := Iv.take (ps := [(.str k, v)]) I
  obtain ⟨c1, c2, _, hR, _⟩ := hP
  exact hR
theorem fe_one {op} (h : FE X W a f) : FE X W (.BoolOp op [a] pos) f := let ⟨t, p, q⟩ := h; ⟨t, pe_one p, q⟩
theorem fe_and {rest : List Expr} (ha : FE X W a fa) (hb : FE X W (.BoolOp .And (b :: rest) pos) fb) : FE X W (.BoolOp .And (a :: b :: rest) pos) (eAn fa fb) := by
  obtain ⟨ta, pa, qa⟩ := ha
  obtain ⟨tb, pb, qb⟩ := hb
  refine ⟨_, pe_and pa pb, fun H0 H σ ρ tmp Q I h => qa H0 H σ ρ tmp _ I (h.ob.imp fun x ρ1 h1 v H1 e1 I1 => ?_)⟩
  match x, h1, I1 with
  | .bl true, h1, I1 => exact ⟨true, I1.bl, qb H0 H1 σ ρ1 tmp Q I1.drop1 (Ps.imp h1 fun u ρ2 h2 w H2 e2 I2 => h2 w H2 (e1.trans e2) I2)⟩
  | .bl false, h1, I1 => exact ⟨false, I1.bl, by have e := I1.bl; subst e; exact h1 _ H1 e1 I1⟩
theorem fe_or {rest : List Expr} (ha : FE X W a fa) (hb : FE X W (.BoolOp .Or (b :: rest) pos) fb) : FE X W (.BoolOp .Or (a :: b :: rest) pos) (eOr fa fb) := by
  obtain ⟨ta, pa, qa⟩ := ha
  obtain ⟨tb, pb, qb⟩ := hb
  refine ⟨_, pe_or pa pb, fun H0 H σ ρ tmp Q I h => qa H0 H σ ρ tmp _ I (h.ob.imp fun x ρ1 h1 v H1 e1 I1 => ?_)⟩
  match x, h1, I1 with
  | .bl true, h1, I1 => exact ⟨true, I1.bl, by have e := I1.bl; subst e; exact h1 _ H1 e1 I1⟩
  | .bl false, h1, I1 => exact ⟨false, I1.bl, qb H0 H1 σ ρ1 tmp Q I1.drop1 (Ps.imp h1 fun u ρ2 h2 w H2 e2 I2 => h2 w H2 (e1.trans e2) I2)⟩
theorem fe_not (ha : FE X W a fa) : FE X W (.UnaryOp .Not a pos) (eNo fa) := by
  obtain ⟨ta, pa, qa⟩ := ha
  refine ⟨_, pe_not pa, fun H0 H σ ρ tmp Q I h => qa H0 H σ ρ tmp _ I (h.ob.imp fun x ρ1 h1 v H1 e1 I1 => ?_)⟩
  match x, h1, I1 with
  | .bl k, h1, I1 => exact ⟨k, I1.bl, h1 _ H1 e1 (I1.drop1.flat (Same.refl H1) fun s => rfl)⟩
def eIf (t : M Bool) (fa fb : M T) : M T := fun ρ => ob (t ρ) fun k ρ => if k = true then fa ρ else fb ρ
theorem fe_if {g : M Bool} (hc : FT X W c g) (ha : FE X W a fa) (hb : FE X W b fb) : FE X W (.IfExp c a b pos) (eIf g fa fb) := by
  obtain ⟨tc, pc, qc⟩ := hc
  obtain ⟨ta, pa, qa⟩ := ha
  obtain ⟨tb, pb, qb⟩ := hb
  refine ⟨_, pe_ifExp pc pa pb, fun H0 H σ ρ tmp Q I h => qc H0 H σ ρ tmp _ I (h.ob.imp fun x ρ1 h1 H1 e1 I1 => ?_)⟩
  cases x with
  | true => exact qa H0 H1 σ ρ1 tmp Q I1 (Ps.imp h1 fun u ρ2 h2 w H2 e2 I2 => h2 w H2 (e1.trans e2) I2)
  | false => exact qb H0 H1 σ ρ1 tmp Q I1 (Ps.imp h1 fun u ρ2 h2 w H2 e2 I2 => h2 w H2 (e1.trans e2) I2)
/-! ### a < b < c -/
def eCh (g g' : T → T → Option T) (fa fb fc : M T) : M T := fun ρ => ob (fa ρ) fun x ρ => ob (fb ρ) fun y ρ => match g x y with
  | some (.bl true) => ob (fc ρ) fun z ρ => ol (g' y z) ρ
  | some (.bl false) => ok (.bl false) ρ
  | _ => none
theorem fe_chR {r r' : R2} {g g' : T → T → Option T} {ta tb tc : TE} (hr : OpOk X.K X.mg r g) (hr' : OpOk X.K X.mg r' g') (hi : ∀ x y k, g x y = some (.bl k) → (∃ i, y = .int i))
    (ha : Fe X.K X.mg W ta fa) (hb : Fe X.K X.mg W tb fb) (hc : Fe X.K X.mg W tc fc) : Fe X.K X.mg W (tChain r r' ta tb tc) (eCh g g' fa fb fc) := fun H0 H σ ρ tmp Q I h =>
  ha H0 H σ ρ tmp _ I (h.ob.imp fun x ρ1 h1 vx H1 e1 I1 => hb H0 H1 σ ρ1 _ _ I1 (h1.ob.imp fun y ρ2 h2 vy H2 e2 I2 => by
    split at h2
    · rename_i hg
      obtain ⟨i, rfl⟩ := hi _ _ _ hg
      have ey := I2.int
      subst ey
      refine hr H0 H2 σ ρ2 tmp x _ _ vx _ _ hg I2 fun v H3 e3 I3 => ⟨true, I3.bl, ?_⟩
      have I4 := I3.drop1.flat (t := .int i) (v := .int i) (Same.refl H3) (fun s => rfl)
      exact hc H0 H3 σ ρ2 _ _ I4 (h2.ob.imp fun z ρ3 h3 vz H4 e4 I5 => by
        obtain ⟨q, hq, h4⟩ := h3.ol
        exact hr' H0 H4 σ ρ3 tmp _ z q _ vz Q hq I5 fun v H5 e5 I6 => h4 v H5 (e1.trans (e2.trans (e3.trans (e4.trans e5)))) I6)
    · rename_i hg
      refine hr H0 H2 σ ρ2 tmp x y _ vx vy _ hg I2 fun v H3 e3 I3 => ⟨false, I3.bl, ?_⟩
      have ev := I3.bl
      subst ev
      exact h2 _ H3 (e1.trans (e2.trans e3)) I3
    · exact h2.elim))
theorem fe_ch {op op' : CmpOp} {r r' : R2} {g g' : T → T → Option T} (ho : OpR X (compareOp op) r) (ho' : OpR X (compareOp op') r') (hr : OpOk X.K X.mg r g) (hr' : OpOk X.K X.mg r' g') (hi : ∀ x y k, g x y = some (.bl k) → (∃ i, y = .int i))
    (ha : FE X W a fa) (hb : FE X W b fb) (hc : FE X W c fc) (hm : lastMarks [op, op'] [b, c] = false := by with_unfolding_all rfl) : FE X W (.Compare a [op, op'] [b, c] pos) (eCh g g' fa fb fc) := by
  obtain ⟨ta, pa, qa⟩ := ha
  obtain ⟨tb, pb, qb⟩ := hb
  obtain ⟨tc, pc, qc⟩ := hc
  exact ⟨_, pe_chain ho ho' pa pb pc hm, fe_chR hr hr' hi qa qb qc⟩
theorem ft_ch {op op' : CmpOp} {r r' : R2} {g g' : T → T → Option T} (ho : OpR X (compareOp op) r) (ho' : OpR X (compareOp op') r') (hr : OpOk X.K X.mg r g) (hr' : OpOk X.K X.mg r' g') (hi : ∀ x y k, g x y = some (.bl k) → (∃ i, y = .int i))
    (ha : FE X W a fa) (hb : FE X W b fb) (hc : FE X W c fc) (hm : lastMarks [op, op'] [b, c] = false := by with_unfolding_all rfl) : FT X W (.Compare a [op, op'] [b, c] pos) (FL.tb (eCh g g' fa fb fc)) := by
  obtain ⟨ta, pa, qa⟩ := ha
  obtain ⟨tb, pb, qb⟩ := hb
  obtain ⟨tc, pc, qc⟩ := hc
  exact ⟨_, pt_chain ho ho' pa pb pc hm, ft_test (fe_chR hr hr' hi qa qb qc)⟩
/-! ### argument lists, displays -/
def aNil : M (List T) := fun ρ => ok [] ρ
def aCons (f : M T) (g : M (List T)) : M (List T) := fun ρ => ob (f ρ) fun x ρ => ob (g ρ) fun xs ρ => ok (x :: xs) ρ
theorem fa_nil : FA X W [] aNil := ⟨_, pa_nil, fun H0 H σ ρ tmp Q I h => h [] H (Same.refl H) rfl I⟩
theorem fa_cons {g : M (List T)} (ha : FE X W e f) (hr : FA X W es g) (hs : starEach (e :: es) X.env = (false, eval e X.env) :: starEach es X.env := by rfl) : FA X W (e :: es) (aCons f g) := by
  obtain ⟨ta, pa, qa⟩ := ha
  obtain ⟨tr, pr, qr⟩ := hr
  refine ⟨_, pa_cons pa pr hs, fun H0 H σ ρ tmp Q I h => qa H0 H σ ρ tmp _ I (h.ob.imp fun x ρ1 h1 vx H1 e1 I1 => qr H0 H1 σ ρ1 _ _ I1 (h1.ob.imp fun xs ρ2 h2 vs H2 e2 hl I2 => ?_))⟩
  exact h2 (vx :: vs) H2 (e1.trans e2) (by rw [List.length_cons, List.length_cons, hl]) (I2.perm (List.perm_middle))
def eTup (g : M (List T)) : M T := fun ρ => ob (g ρ) fun xs ρ => if nobs xs = true ∧ xs.length ≤ 1000 then ok (.tup xs) ρ else none
def eLst (g : M (List T)) : M T := fun ρ => ob (g ρ) fun xs ρ => if nobs xs = true ∧ xs.length ≤ 1000 then ok (.lst .ow xs) ρ else none
/-- a new tuple, a new list of temps -/
theorem Iv.newTup {K : PySem.W.Frag} {mg : Str → Option Value} {H0 H : Hp} {σ : St} {ρ : En} {tmp : List (T × V)} {ts : List T} {vs : List V} {p : Addr} (I : Iv K mg H0 H σ ρ (ts.zip vs ++ tmp)) (hl : vs.length = ts.length) (hp : H p = none) : Iv K mg H0 (upd H p (.tup vs)) σ ρ ((.tup ts, .ref p) :: tmp) := by
  obtain ⟨s, c, hP, _, _, _, k⟩ := I.take
  have e : Same H (upd H p (.tup vs)) := fun b o q => by rw [upd_ne (ne_of_none q hp)]; exact q
  refine k _ [(.tup ts, .ref p)] e ⟨c, ⟨c, zc, fun b => by simp, ⟨p, vs, rfl, .inl upd_same, ?_⟩, True.intro⟩, fun b => by omega⟩
  exact Reps.mono (fun _ h => h) e ts vs c c (fun _ => Nat.le_refl _) (RepP.unzip hl hP)
theorem Iv.newLst {K : PySem.W.Frag} {mg : Str → Option Value} {H0 H : Hp} {σ : St} {ρ : En} {tmp : List (T × V)} {ts : List T} {vs : List V} {p : Addr} (I : Iv K mg H0 H σ ρ (ts.zip vs ++ tmp)) (hl : vs.length = ts.length) (hp : H p = none) : Iv K mg H0 (upd H p (.lst vs)) σ ρ ((.lst .ow ts, .ref p) :: tmp) := by
  obtain ⟨s, c, hP, _, hc, _, k⟩ := I.take
  have e : Same H (upd H p (.lst vs)) := fun b o q => by rw [upd_ne (ne_of_none q hp)]; exact q
  refine k _ [(.lst .ow ts, .ref p)] e ⟨fun b => c b + fresh H (upd H p (.lst vs)) b, ⟨fun b => c b + fresh H (upd H p (.lst vs)) b, zc, fun b => by simp, ⟨p, vs, c, rfl, upd_same, ?_, fun b => Nat.le_add_right _ _, ?_⟩, True.intro⟩, fun b => Nat.le_refl _⟩
  · show c p + 1 ≤ c p + fresh H (upd H p (.lst vs)) p
    rw [fresh_new hp]
    exact Nat.le_refl _
  · exact Reps.mono (fun _ h => h) e ts vs c c (fun _ => Nat.le_refl _) (RepP.unzip hl hP)
theorem same_new {H : Hp} {p : Addr} {o : HO} (hp : H p = none) : Same H (upd H p o) := fun b o q => by rw [upd_ne (ne_of_none q hp)]; exact q
theorem sz1000 {n : Nat} (h : n ≤ 1000) : n ≤ sizeLine := Nat.le_trans h (by decide)
theorem fe_tup {g : M (List T)} {x1} (ha : FA X W es g) : FE X W (.Tuple es x1 pos) (eTup g) := by
  obtain ⟨ta, pa, qa⟩ := ha
  refine ⟨_, pe_tup pa, fun H0 H σ ρ tmp Q I h => qa H0 H σ ρ tmp _ I (h.ob.imp fun xs ρ1 h1 vs H1 e1 hl I1 => ?_)⟩
  split at h1
  · rename_i hc
    exact ⟨sz1000 (by rw [hl]; exact hc.2), fun p hp => h1 _ _ (e1.trans (same_new hp)) (I1.newTup hl hp)⟩
  · exact h1.elim
theorem fe_lst {g : M (List T)} (ha : FA X W es g) : FE X W (.List es pos) (eLst g) := by
  obtain ⟨ta, pa, qa⟩ := ha
  refine ⟨_, pe_lst pa, fun H0 H σ ρ tmp Q I h => qa H0 H σ ρ tmp _ I (h.ob.imp fun xs ρ1 h1 vs H1 e1 hl I1 => ?_)⟩
  split at h1
  · rename_i hc
    exact ⟨sz1000 (by rw [hl]; exact hc.2), fun p hp => h1 _ _ (e1.trans (same_new hp)) (I1.newLst hl hp)⟩
  · exact h1.elim
/-! ### slices -/
def oNone : M (Option Int) := fun ρ => ok none ρ
def oSome (f : M T) : M (Option Int) := fun ρ => ob (f ρ) fun x ρ => match x with
  | .int i => ok (some i) ρ
  | _ => none
theorem fo_none : FO X W none oNone := ⟨_, po_none, fun H0 H σ ρ tmp Q I h => h H (Same.refl H) I⟩
theorem fo_some (ha : FE X W e f) : FO X W (some e) (oSome f) := by
  obtain ⟨ta, pa, qa⟩ := ha
  refine ⟨_, po_some pa, fun H0 H σ ρ tmp Q I h => qa H0 H σ ρ tmp _ I (h.ob.imp fun x ρ1 h1 v H1 e1 I1 => ?_)⟩
  match x, h1, I1 with
  | .int i, h1, I1 => exact ⟨i, I1.int, h1 H1 e1 I1.drop1⟩
def SlOk (K : PySem.W.Frag) (mg : Str → Option Value) (r : V → Option Int → Option Int → Hp → VK → Prop) (g : T → Option Int → Option Int → Option T) : Prop := ∀ H0 H σ ρ tmp x lo hi z vx (Q : VK), g x lo hi = some z → Iv K mg H0 H σ ρ ((x, vx) :: tmp) →
  (∀ v H', Same H H' → Iv K mg H0 H' σ ρ ((z, v) :: tmp) → Q v H') → r vx lo hi H Q
def eSl (g : T → Option Int → Option Int → Option T) (f : M T) (fl fh : M (Option Int)) : M T := fun ρ => ob (f ρ) fun x ρ => ob (fl ρ) fun l ρ => ob (fh ρ) fun h ρ => ol (g x l h) ρ
theorem fe_sl {r : V → Option Int → Option Int → Hp → VK → Prop} {g : T → Option Int → Option Int → Option T} {lo hi : Option Expr} {fl fh : M (Option Int)} {p2 : Pos} (hr : SlR X r) (hg : SlOk X.K X.mg r g) (he : FE X W e f) (hl : FO X W lo fl) (hh : FO X W hi fh) :
    FE X W (.Subscript e (.Slice lo hi none p2) pos) (eSl g f fl fh) := by
  obtain ⟨te, pe, qe⟩ := he
  obtain ⟨tl, pl, ql⟩ := hl
  obtain ⟨th, ph, qh⟩ := hh
  refine ⟨_, pe_slice hr pe pl ph, fun H0 H σ ρ tmp Q I h => qe H0 H σ ρ tmp _ I (h.ob.imp fun x ρ1 h1 vx H1 e1 I1 => ql H0 H1 σ ρ1 _ _ I1 (h1.ob.imp fun l ρ2 h2 H2 e2 I2 => qh H0 H2 σ ρ2 _ _ I2 (h2.ob.imp fun u ρ3 h3 H3 e3 I3 => ?_)))⟩
  obtain ⟨z, hz, h4⟩ := h3.ol
  exact hg H0 H3 σ ρ3 tmp x l u z vx Q hz I3 fun v H4 e4 I4 => h4 v H4 (e1.trans (e2.trans (e3.trans e4))) I4
/-! ### calls of built-ins -/
def CbOk (K : PySem.W.Frag) (mg : Str → Option Value) (r : List V → Hp → VK → Prop) (g : List T → Option T) : Prop := ∀ H0 H σ ρ tmp xs z vs (Q : VK), g xs = some z → vs.length = xs.length → Iv K mg H0 H σ ρ (xs.zip vs ++ tmp) →
  (∀ v H', Same H H' → Iv K mg H0 H' σ ρ ((z, v) :: tmp) → Q v H') → r vs H Q
def eCb (g : List T → Option T) (fs : M (List T)) : M T := fun ρ => ob (fs ρ) fun xs ρ => ol (g xs) ρ
theorem fe_cbR {r : List V → Hp → VK → Prop} {g : List T → Option T} {ta : TA} {fs : M (List T)} (hr : CbOk X.K X.mg r g) (ha : Fa X.K X.mg W ta fs) : Fe X.K X.mg W (tCB r ta) (eCb g fs) := fun H0 H σ ρ tmp Q I h =>
  ha H0 H σ ρ tmp _ I (h.ob.imp fun xs ρ1 h1 vs H1 e1 hl I1 => by
    obtain ⟨z, hz, h2⟩ := h1.ol
    exact hr H0 H1 σ ρ1 tmp xs z vs Q hz hl I1 fun v H2 e2 I2 => h2 v H2 (e1.trans e2) I2)
theorem fe_callB {id : String} {r : List V → Hp → VK → Prop} {g : List T → Option T} {x : Str} {p : Pos} {fs : M (List T)} (hc : CallR X (.builtin id) r) (hr : CbOk X.K X.mg r g) (hg : Gl X x) (hm : X.mg x = none) (hv : bootBuiltins x = some (.builtin id)) (ha : FA X W (e :: es) fs) (hn : x ≠ "__name__" := by decide)
    (hdb : (x == ("__debug__" : Str)) = false := by decide) (he : starEach (e :: es) X.env = (false, eval e X.env) :: starEach es X.env := by rfl) (hpl : (backTo pos (starEach es X.env)).any (·.1) = false := by rfl) : FE X W (.Call (.Name x p) (e :: es) [] pos) (eCb g fs) := by
  obtain ⟨ta, pa, qa⟩ := ha
  exact ⟨_, pe_callB hc hg hm hv pa hn hdb he hpl, fe_cbR hr qa⟩
theorem fe_callTy {T' : String} {r : List V → Hp → VK → Prop} {g : List T → Option T} {x : Str} {p : Pos} {fs : M (List T)} (hc : CallR X (.type T') r) (hr : CbOk X.K X.mg r g) (hg : Gl X x) (hm : X.mg x = none) (hv : bootBuiltins x = some (.type T')) (ha : FA X W (e :: es) fs) (hn : x ≠ "__name__" := by decide)
    (hdb : (x == ("__debug__" : Str)) = false := by decide) (he : starEach (e :: es) X.env = (false, eval e X.env) :: starEach es X.env := by rfl) (hpl : (backTo pos (starEach es X.env)).any (·.1) = false := by rfl) : FE X W (.Call (.Name x p) (e :: es) [] pos) (eCb g fs) := by
  obtain ⟨ta, pa, qa⟩ := ha
  exact ⟨_, pe_callTy hc hg hm hv pa hn hdb he hpl, fe_cbR hr qa⟩
end
end FL
namespace FL
open PySem PySem.Spec L2
open PyProof.Rows hiding St
/-! ## statements -/
inductive Fl where
  | nx (ρ : En) | rt (t : T) | bk (ρ : En) | ct (ρ : En)
abbrev So := Option (Except (Ex × En) Fl)
abbrev S := En → So
/-- a value handed back: all its lists are new -/
def Fr (K : PySem.W.Frag) (mg : Str → Option Value) (H0 H' : Hp) (u : T) (v : V) : Prop := ∃ c : Cnt, (∀ b, c b ≤ 1) ∧ (∀ b, 1 ≤ c b → H' b ≠ none ∧ H0 b = none) ∧ Rep K mg H' (fun _ => False) u v c
def Nb (tmp : List (T × V)) : Prop := ∀ p ∈ tmp, nob p.1 = true
section
variable (K : PySem.W.Frag) (mg : Str → Option Value) (W : WX)
def Pq (H0 : Hp) (tmp : List (T × V)) (D : Ends) : So → Prop
  | some (.ok (.nx ρ)) => ∀ σ' H', Iv K mg H0 H' σ' ρ tmp → D.nx σ' H'
  | some (.ok (.rt u)) => ∀ v H', Same H0 H' → Fr K mg H0 H' u v → D.rt v H'
  | some (.ok (.bk ρ)) => ∀ σ' H', Iv K mg H0 H' σ' ρ tmp → D.bk σ' H'
  | some (.ok (.ct ρ)) => ∀ σ' H', Iv K mg H0 H' σ' ρ tmp → D.ct σ' H'
  | some (.error (x, ρ)) => ∀ σ' cls d H', Iv K mg H0 H' σ' ρ [] → RepX K mg H' x cls d → W cls d σ' H'
  | none => False
def Fs (t : TS) (s : S) : Prop := ∀ H0 H σ ρ tmp (D : Ends), Nb tmp → Iv K mg H0 H σ ρ tmp → Pq K mg W H0 tmp D (s ρ) → t D σ H
end
/-- an expression, then a statement -/
def sb {α : Type} (r : Out α) (k : α → En → So) : So := match r with
  | some (.ok (a, ρ)) => k a ρ
  | some (.error e) => some (.error e)
  | none => none
@[simp] theorem sb_ok {α : Type} {a : α} {ρ : En} {k : α → En → So} : sb (ok a ρ) k = k a ρ := rfl
@[simp] theorem sb_none {α : Type} {k : α → En → So} : sb none k = none := rfl
theorem Pq.sb {K : PySem.W.Frag} {mg : Str → Option Value} {W : WX} {H0 : Hp} {σ : L2.St} {tmp : List (T × V)} {D : Ends} {α : Type} {r : Out α} {k : α → En → So} (h : Pq K mg W H0 tmp D (FL.sb r k)) :
    Ps r (fun a ρ => Pq K mg W H0 tmp D (k a ρ)) (Pe K mg W H0 σ) := by
  match r, h with
  | some (.ok (a, ρ)), h => exact h
  | some (.error (x, ρ)), h => exact h σ
structure FS (X : Cx) (W : WX) (st : Stmt) (s : S) : Prop where
  ex : ∃ t, PS X st t ∧ Fs X.K X.mg W t s
structure FSs (X : Cx) (W : WX) (st : List Stmt) (s : S) : Prop where
  ex : ∃ t, PSs X st t ∧ Fs X.K X.mg W t s
section
variable {X : Cx} {W : WX} {e a b c : Expr} {es : List Expr} {f fa fb fc : M T} {pos : Pos} {st : Stmt} {rest : List Stmt} {s s' : S}
def sNext : S := fun ρ => some (.ok (.nx ρ))
def sSeq (s s' : S) : S := fun ρ => match s ρ with
  | some (.ok (.nx ρ')) => s' ρ'
  | r => r
theorem fss_nil : FSs X W [] sNext := ⟨_, pss_nil, fun H0 H σ ρ tmp D nb I h => h σ H I⟩
theorem fss_one (h : FS X W st s) : FSs X W [st] s := let ⟨t, p, q⟩ := h; ⟨t, pss_one p, q⟩
theorem fss_cons (h1 : FS X W st s) (h2 : FSs X W rest s') : FSs X W (st :: rest) (sSeq s s') := by
  obtain ⟨t1, p1, q1⟩ := h1
  obtain ⟨t2, p2, q2⟩ := h2
  refine ⟨_, pss_cons p1 p2, fun H0 H σ ρ tmp D nb I h => q1 H0 H σ ρ tmp _ nb I ?_⟩
  unfold sSeq at h
  revert h
  generalize s ρ = r
  cases r with
  | none => exact fun h => h
  | some r =>
    cases r with
    | error x => exact fun h => h
    | ok fl =>
      cases fl with
      | nx ρ' => exact fun h σ' H' I' => q2 H0 H' σ' ρ' tmp D nb I' h
      | rt u => exact fun h => h
      | bk u => exact fun h => h
      | ct u => exact fun h => h
theorem fs_pass : FS X W (.Pass pos) sNext := ⟨_, ps_pass, fun H0 H σ ρ tmp D nb I h => h σ H I⟩
theorem fs_doc {x j pos pos'} : FS X W (.Expr (.Constant (.str x) j pos) pos') sNext := ⟨_, ps_doc, fun H0 H σ ρ tmp D nb I h => h σ H I⟩
def sBreak : S := fun ρ => some (.ok (.bk ρ))
def sCont : S := fun ρ => some (.ok (.ct ρ))
theorem fs_break : FS X W (.Break pos) sBreak := ⟨_, ps_break, fun H0 H σ ρ tmp D nb I h => h σ H I⟩
theorem fs_cont : FS X W (.Continue pos) sCont := ⟨_, ps_continue, fun H0 H σ ρ tmp D nb I h => h σ H I⟩
def sDrop (f : M T) : S := fun ρ => sb (f ρ) fun _ ρ => some (.ok (.nx ρ))
theorem fs_expr (h : FE X W e f) (hs : swapsWith e none pos.line X.env = pure false := by rfl) : FS X W (.Expr e pos) (sDrop f) := by
  obtain ⟨t, p, q⟩ := h
  exact ⟨_, ps_expr p hs, fun H0 H σ ρ tmp D nb I h => q H0 H σ ρ tmp _ I (h.sb.imp fun u ρ1 h1 v H1 e1 I1 => h1 σ H1 I1.drop1)⟩
def sRet (f : M T) : S := fun ρ => sb (f ρ) fun u _ => if alw u = true then some (.ok (.rt u)) else none
theorem Iv.fr {K : PySem.W.Frag} {mg : Str → Option Value} {H0 H : Hp} {σ : L2.St} {ρ : En} {tmp : List (T × V)} {u : T} {v : V} (ha : alw u = true) (I : Iv K mg H0 H σ ρ ((u, v) :: tmp)) : Fr K mg H0 H u v := by
  obtain ⟨s, c, hP, _, hc, h1, _⟩ := Iv.take (ps := [(u, v)]) I
  obtain ⟨c1, c2, hs, hR, _⟩ := hP
  exact ⟨c1, fun b => by have := hs b; have := h1 b; omega, fun b hb => hc b (by have := hs b; omega), Rep.own u v c1 ha hR⟩
theorem fs_ret (h : FE X W e f) : FS X W (.Return (some e) pos) (sRet f) := by
  obtain ⟨t, p, q⟩ := h
  refine ⟨_, ps_ret p, fun H0 H σ ρ tmp D nb I h => q H0 H σ ρ tmp _ I (h.sb.imp fun u ρ1 h1 v H1 e1 I1 => ?_)⟩
  split at h1
  · rename_i ha
    exact h1 v H1 I1.ext (I1.fr ha)
  · exact h1.elim
def sRetN : S := fun _ => some (.ok (.rt .non))
theorem fs_retN : FS X W (.Return none pos) sRetN := ⟨_, ps_retN, fun H0 H σ ρ tmp D nb I h => h .non H I.ext ⟨zc, fun b => Nat.zero_le _, fun b hb => absurd hb (by simp), rfl⟩⟩
def sIf (t : M Bool) (s s' : S) : S := fun ρ => sb (t ρ) fun k ρ => if k = true then s ρ else s' ρ
theorem fs_if {t : M Bool} {xs ys : List Stmt} (hc : FT X W c t) (ha : FSs X W xs s) (hb : FSs X W ys s') : FS X W (.If c xs ys pos) (sIf t s s') := by
  obtain ⟨tc, pc, qc⟩ := hc
  obtain ⟨ta, pa, qa⟩ := ha
  obtain ⟨tb, pb, qb⟩ := hb
  refine ⟨_, ps_if pc pa pb, fun H0 H σ ρ tmp D nb I h => qc H0 H σ ρ tmp _ I (h.sb.imp fun u ρ1 h1 H1 e1 I1 => ?_)⟩
  cases u with
  | true => exact qa H0 H1 σ ρ1 tmp D nb I1 h1
  | false => exact qb H0 H1 σ ρ1 tmp D nb I1 h1
/-! ### targets -/
abbrev Tg := T → En → Option En
/-- the slots but those of ix are as they were -/
def Off (ix : List Nat) (σ σ' : L2.St) : Prop := σ'.length = σ.length ∧ ∀ j : Nat, j ∉ ix → σ'[j]? = σ[j]?
def Fg (K : PySem.W.Frag) (mg : Str → Option Value) (ix : List Nat) (g : TG) (f : Tg) : Prop := ∀ H0 H σ ρ ρ' tmp t v (Q : L2.St → Hp → Prop), f t ρ = some ρ' → Iv K mg H0 H σ ρ ((t, v) :: tmp) → (∀ σ', Off ix σ σ' → Iv K mg H0 H σ' ρ' tmp → Q σ' H) → g v σ H Q
def Fgs (K : PySem.W.Frag) (mg : Str → Option Value) (ix : List Nat) (g : TGs) (f : List T → En → Option En) : Prop := ∀ H0 H σ ρ ρ' tmp ts vs (Q : L2.St → Hp → Prop), f ts ρ = some ρ' → vs.length = ts.length → Iv K mg H0 H σ ρ (ts.zip vs ++ tmp) → (∀ σ', Off ix σ σ' → Iv K mg H0 H σ' ρ' tmp → Q σ' H) → g vs σ H Q
structure FG (X : Cx) (target : Expr) (ix : List Nat) (f : Tg) : Prop where
  ex : ∃ g, PG X target g ∧ Fg X.K X.mg ix g f
structure FGs (X : Cx) (target : List Expr) (ix : List Nat) (f : List T → En → Option En) : Prop where
  ex : ∃ g, PGs X target g ∧ Fgs X.K X.mg ix g f
theorem Off.refl (ix : List Nat) (σ : L2.St) : Off ix σ σ := ⟨rfl, fun _ _ => rfl⟩
theorem Off.trans {ix jx : List Nat} {a b c : L2.St} (h : Off ix a b) (k : Off jx b c) : Off (ix ++ jx) a c := ⟨k.1.trans h.1, fun j hj => (k.2 j fun z => hj (List.mem_append_right _ z)).trans (h.2 j fun z => hj (List.mem_append_left _ z))⟩
def gN (i : Nat) : Tg := fun t ρ => if nob t = true then some (ρ.set i (some t)) else none
theorem Iv.put {K : PySem.W.Frag} {mg : Str → Option Value} {H0 H : Hp} {σ : L2.St} {ρ : En} {tmp : List (T × V)} {i : Nat} {t : T} {v : V} (hb : nob t = true) (I : Iv K mg H0 H σ ρ ((t, v) :: tmp)) : Iv K mg H0 H (σ.set i (some v)) (ρ.set i (some t)) tmp := by
  obtain ⟨ext, c, s, c1, c2, w, hc, hS, d1, d2, hd, hR, hP⟩ := I
  exact ⟨ext, c, s, fun b => c1 b + d1 b, d2, w, fun b => by have := hc b; have := hd b; show c1 b + d1 b + d2 b ≤ c b; omega, hS.set hb hR (fun _ => Nat.le_refl _), hP⟩
theorem fg_name {i : Nat} {x : Str} (hN : X.N.Nodup) (hi : X.N[i]? = some x := by rfl) (hx : Loc X.env.scope x := by first | exact .inl rfl | exact .inr rfl) (hf : X.fn x = true ∨ X.env.scope.names.lookup x = some .local := by first | exact .inl rfl | exact .inr rfl | assumption) : FG X (.Name x pos) [i] (gN i) := by
  refine ⟨_, pg_name hN hi hx hf, fun H0 H σ ρ ρ' tmp t v Q h I k => ?_⟩
  unfold gN at h
  split at h
  · rename_i hb
    cases h
    exact k _ ⟨by simp, fun j hj => by rw [List.getElem?_set_ne (fun z => hj (by simp [z]))]⟩ (I.put hb)
  · cases h
def gsNil : List T → En → Option En := fun ts ρ => match ts with
  | [] => some ρ
  | _ => none
def gsCons (g : Tg) (gs : List T → En → Option En) : List T → En → Option En := fun ts ρ => match ts with
  | [] => none
  | t :: r => match g t ρ with
    | some ρ' => gs r ρ'
    | none => none
theorem fgs_nil : FGs X [] [] gsNil := by
  refine ⟨_, pgs_nil, fun H0 H σ ρ ρ' tmp ts vs Q h hl I k => ?_⟩
  match ts, h with
  | [], h =>
    cases h
    have : vs = [] := by simpa using hl
    subst this
    exact ⟨rfl, k σ (Off.refl _ _) I⟩
theorem fgs_cons {g : Tg} {gs : List T → En → Option En} {ix jx : List Nat} (h1 : FG X e ix g) (h2 : FGs X es jx gs) (hs : (assignEach (e :: es) X.env).map (·.2) = assign e X.env :: (assignEach es X.env).map (·.2) := by rfl) : FGs X (e :: es) (ix ++ jx) (gsCons g gs) := by
  obtain ⟨t1, p1, q1⟩ := h1
  obtain ⟨t2, p2, q2⟩ := h2
  refine ⟨_, pgs_cons p1 p2 hs, fun H0 H σ ρ ρ' tmp ts vs Q h hl I k => ?_⟩
  match ts, vs, h, hl, I with
  | t :: r, v :: w, h, hl, I =>
    unfold gsCons at h
    simp only at h
    split at h
    · rename_i ρ1 e1
      exact ⟨v, w, rfl, q1 H0 H σ ρ ρ1 (r.zip w ++ tmp) t v _ e1 I fun σ1 o1 I1 => q2 H0 H σ1 ρ1 ρ' tmp r w Q h (by simpa using hl) I1 fun σ2 o2 I2 => k σ2 (o1.trans o2) I2⟩
    · cases h
def gT (n : Nat) (gs : List T → En → Option En) : Tg := fun t ρ => match t with
  | .tup ts => if ts.length = n then gs ts ρ else none
  | _ => none
theorem Iv.unTup {K : PySem.W.Frag} {mg : Str → Option Value} {H0 H : Hp} {σ : L2.St} {ρ : En} {tmp : List (T × V)} {ts : List T} {v : V} (I : Iv K mg H0 H σ ρ ((.tup ts, v) :: tmp)) : ∃ a vs, v = .ref a ∧ SqT K H a vs ∧ vs.length = ts.length ∧ Iv K mg H0 H σ ρ (ts.zip vs ++ tmp) := by
  obtain ⟨s, c, hP, _, _, _, k⟩ := Iv.take (ps := [(.tup ts, v)]) I
  obtain ⟨c1, c2, hc, ⟨a, vs, e1, h1, h2⟩, _⟩ := hP
  refine ⟨a, vs, e1, h1.elim SqT.of (·.2), Reps.length h2, k H _ (Same.refl H) ⟨c1, RepP.zip h2, fun b => by have := hc b; omega⟩⟩
theorem fg_tup {gs : List T → En → Option En} {n k : Nat} {ix : List Nat} (hc : X.calm = true) (h : FGs X es ix gs) (hn : (assignEach es X.env).length = n := by rfl) (hst : (assignEach es X.env).findIdx? (·.1) = none := by rfl) : FG X (.Tuple es k pos) ix (gT n gs) := by
  obtain ⟨t, p, q⟩ := h
  refine ⟨_, pg_tup hc p hn hst, fun H0 H σ ρ ρ' tmp t v Q h I k => ?_⟩
  match t, h, I with
  | .tup ts, h, I =>
    unfold gT at h
    simp only at h
    split at h
    · rename_i hl
      obtain ⟨a, vs, e1, hq, hl2, I2⟩ := I.unTup
      exact ⟨a, vs, e1, hq, by rw [hl2, hl], q H0 H σ ρ ρ' tmp ts vs Q h hl2 I2 k⟩
    · cases h
def sAsg (f : M T) (g : Tg) : S := fun ρ => sb (f ρ) fun u ρ => match g u ρ with
  | some ρ' => some (.ok (.nx ρ'))
  | none => none
theorem fs_asg {tg : Expr} {g : Tg} {ix : List Nat} (he : FE X W e f) (hg : FG X tg ix g) (hs : swapsWithSole [tg] e pos.line X.env = pure false := by rfl) (hw : swappedStores [tg] e X.env = pure none := by rfl) (h1 : (assignEach [tg] X.env).map (·.2) = [assign tg X.env] := by rfl) : FS X W (.Assign [tg] e pos) (sAsg f g) := by
  obtain ⟨t, p, q⟩ := he
  obtain ⟨t2, p2, q2⟩ := hg
  refine ⟨_, ps_asg p p2 hs hw h1, fun H0 H σ ρ tmp D nb I h => q H0 H σ ρ tmp _ I (h.sb.imp fun u ρ1 h1 v H1 e1 I1 => ?_)⟩
  split at h1
  · rename_i ρ' e2
    exact q2 H0 H1 σ ρ1 ρ' tmp u v _ e2 I1 fun σ' _ I' => h1 σ' H1 I'
  · exact h1.elim
/-- a, b = x, y -/
def sPar (i j : Nat) (fs : M (List T)) : S := fun ρ => sb (fs ρ) fun us ρ => match us with
  | [x, y] => if nob x = true ∧ nob y = true then some (.ok (.nx ((ρ.set i (some x)).set j (some y)))) else none
  | _ => none
theorem fs_par {i j : Nat} {x y : Str} {fs : M (List T)} {px py pt : Pos} {kt k2 : Nat} {pt2 : Pos} (hc : X.calm = true) (hN : X.N.Nodup) (ha : FA X W [a, b] fs) (hps : ∀ ta, PA X [a, b] ta → PS X (.Assign [.Tuple [.Name x px, .Name y py] kt pt] (.Tuple [a, b] k2 pt2) pos) (tPar i j ta)) :
    FS X W (.Assign [.Tuple [.Name x px, .Name y py] kt pt] (.Tuple [a, b] k2 pt2) pos) (sPar i j fs) := by
  obtain ⟨ta, pa, qa⟩ := ha
  refine ⟨_, hps ta pa, fun H0 H σ ρ tmp D nb I h => qa H0 H σ ρ tmp _ I (h.sb.imp fun us ρ1 h1 vs H1 e1 hl I1 => ?_)⟩
  match us, vs, hl, h1, I1 with
  | [u, w], [v1, v2], hl, h1, I1 =>
    simp only at h1
    split at h1
    · rename_i hb
      exact ⟨v1, v2, rfl, h1 _ H1 ((I1.put hb.1).put hb.2)⟩
    · exact h1.elim
mutual
theorem nob_shr : ∀ t, nob (shr t) = true
  | .non => rfl
  | .bl _ => rfl
  | .int _ => rfl
  | .str _ => rfl
  | .exc _ _ => rfl
  | .emp => rfl
  | .vid _ => rfl
  | .tup ts => nobs_shrs ts
  | .lst .sh ts => by simp [nob, shr, nobs_shrs ts]
  | .lst .bo ts => by simp [nob, shr, nobs_shrs ts]
  | .lst .fz ts => by simp [nob, shr, nobs_shrs ts]
  | .lst .ow ts => by simp [nob, shr, nobs_shrs ts]
  | .lst (.pn p) ts => by simp [nob, shr, nobs_shrs ts]
theorem nobs_shrs : ∀ ts, nobs (shrs ts) = true
  | [] => rfl
  | t :: ts => by
    show (nob (shr t) && nobs (shrs ts)) = true
    rw [nob_shr t, nobs_shrs ts]
    rfl
end
theorem shr_shr : ∀ t, shr (shr t) = shr t := go
where
  go : ∀ t, shr (shr t) = shr t
    | .non => rfl
    | .bl _ => rfl
    | .int _ => rfl
    | .str _ => rfl
    | .exc _ _ => rfl
    | .emp => rfl
    | .vid _ => rfl
    | .tup ts => by
      show T.tup (shrs (shrs ts)) = T.tup (shrs ts)
      rw [gos ts]
    | .lst .sh ts => by
      show T.lst .sh (shrs (shrs ts)) = T.lst .sh (shrs ts)
      rw [gos ts]
    | .lst .bo ts => by
      show T.lst .sh (shrs (shrs ts)) = T.lst .sh (shrs ts)
      rw [gos ts]
    | .lst .ow ts => by
      show T.lst .sh (shrs (shrs ts)) = T.lst .sh (shrs ts)
      rw [gos ts]
    | .lst (.pn p) ts => by
      show T.lst .sh (shrs (shrs ts)) = T.lst .sh (shrs ts)
      rw [gos ts]
    | .lst .fz ts => by
      show T.lst .fz (shrs (shrs ts)) = T.lst .fz (shrs ts)
      rw [gos ts]
  gos : ∀ ts, shrs (shrs ts) = shrs ts
    | [] => rfl
    | t :: ts => by
      show shr (shr t) :: shrs (shrs ts) = shr t :: shrs ts
      rw [go t, gos ts]
theorem shd1 {t : T} : shrs [shr t] = [shr t] := by
  show [shr (shr t)] = [shr t]
  rw [shr_shr]
theorem shd2 {t u : T} : shrs [shr t, shr u] = [shr t, shr u] := by
  show [shr (shr t), shr (shr u)] = [shr t, shr u]
  rw [shr_shr, shr_shr]
theorem nb_of {us : List T} {vs : List V} (h : shrs us = us) : Nb (us.zip vs) := fun p hp => by
  have h1 : p.1 ∈ us := (List.of_mem_zip hp).1
  have h2 := nobs_shrs us
  rw [h, nobs_all] at h2
  exact List.all_eq_true.mp h2 _ h1
/-! ### what is walked -/
/-- the items are ts, while what is pinned stands -/
def ItOk (K : PySem.W.Frag) (mg : Str → Option Value) (J : It) (ts : List T) (pin : List (T × V)) : Prop := ∀ H0 H σ ρ tmp, Iv K mg H0 H σ ρ (pin ++ tmp) → ∀ i : Nat,
  (∀ t, ts[i]? = some t → J.go i H ∧ nob t = true ∧ ∀ x H', J.yld i H x H' → Same H H' ∧ Iv K mg H0 H' σ ρ ((t, x) :: (pin ++ tmp))) ∧ (ts.length ≤ i → J.stop i H)
abbrev Src := List T × List T
def Fi (K : PySem.W.Frag) (mg : Str → Option Value) (W : WX) (wi : TI) (f : M Src) : Prop := ∀ H0 H σ ρ tmp (R : It → Hp → Prop), Iv K mg H0 H σ ρ tmp →
  Ps (f ρ) (fun u ρ' => ∀ J vs H', Same H H' → vs.length = u.2.length → shrs u.2 = u.2 → Iv K mg H0 H' σ ρ' (u.2.zip vs ++ tmp) → ItOk K mg J u.1 (u.2.zip vs) → R J H') (Pe K mg W H0 σ) → wi σ H R
structure FI (X : Cx) (W : WX) (tg iter : Expr) (f : M Src) : Prop where
  ex : ∃ wi, PI X tg iter wi ∧ Fi X.K X.mg W wi f
/-! ### for -/
def loop (g : Tg) (body : S) : List T → S
  | [], ρ => some (.ok (.nx ρ))
  | t :: ts, ρ => match g t ρ with
    | none => none
    | some ρ1 => match body ρ1 with
      | some (.ok (.nx ρ2)) => loop g body ts ρ2
      | some (.ok (.ct ρ2)) => loop g body ts ρ2
      | some (.ok (.bk ρ2)) => some (.ok (.nx ρ2))
      | r => r
def sFor (fi : M Src) (g : Tg) (body : S) : S := fun ρ => sb (fi ρ) fun u ρ => loop g body u.1 ρ
theorem Nb.append {a b : List (T × V)} (ha : Nb a) (hb : Nb b) : Nb (a ++ b) := fun p hp => (List.mem_append.mp hp).elim (ha p) (hb p)
theorem drop_get {α : Type} {l : List α} {i : Nat} {x : α} (h : l[i]? = some x) : l.drop i = x :: l.drop (i + 1) := by
  obtain ⟨hi, e⟩ := List.getElem?_eq_some_iff.mp h
  rw [← e]
  exact List.drop_eq_getElem_cons hi
theorem fs_for {tg iter : Expr} {body : List Stmt} {fi : M Src} {g : Tg} {ix : List Nat} (hp : PassesOwn (model X.prog X.w) X.A X.env X.xe) (hc : X.calm = true) (hi : FI X W tg iter fi) (hg : FG X tg ix g) (hb : FSs X W body s)
    (hs : ∀ x, foldedSetIterable iter X.env x = pure x := by intro _; rfl) : FS X W (.For tg iter body [] pos) (sFor fi g s) := by
  obtain ⟨wi, pi, qi⟩ := hi
  obtain ⟨g', pg, qg⟩ := hg
  obtain ⟨t, pb, qb⟩ := hb
  refine ⟨_, ps_for hp hc pi pg pb hs, fun H0 H σ ρ tmp D nb I h => qi H0 H σ ρ tmp _ I (h.sb.imp fun u ρ1 h1 J vs H1 e1 hl nbp I1 hJ => ?_)⟩
  have nb2 : Nb (u.2.zip vs ++ tmp) := (nb_of nbp).append nb
  refine ⟨fun i m σ' H' => m = u.1.length - i ∧ i ≤ u.1.length ∧ ∃ ρ', Iv X.K X.mg H0 H' σ' ρ' (u.2.zip vs ++ tmp) ∧ Pq X.K X.mg W H0 tmp D (loop g s (u.1.drop i) ρ'), ⟨u.1.length, by simp, Nat.zero_le _, ρ1, I1, by simpa using h1⟩, ?_⟩
  rintro i m σ' H' ⟨hm, hi, ρ', I', h'⟩
  cases q : u.1[i]? with
  | none =>
    have hle : u.1.length ≤ i := List.getElem?_eq_none_iff.mp q
    rw [List.drop_eq_nil_of_le hle] at h'
    exact .inl ⟨(hJ H0 H' σ' ρ' tmp I' i).2 hle, h' σ' H' I'.drop⟩
  | some x =>
    have hlt : i < u.1.length := (List.getElem?_eq_some_iff.mp q).1
    obtain ⟨hgo, hnb, hy⟩ := (hJ H0 H' σ' ρ' tmp I' i).1 x q
    rw [drop_get q] at h'
    unfold loop at h'
    refine .inr ⟨hgo, fun σ2 H2 => ∃ ρ2, Iv X.K X.mg H0 H2 σ2 ρ2 (u.2.zip vs ++ tmp) ∧ Pq X.K X.mg W H0 tmp D (loop g s (u.1.drop (i + 1)) ρ2), fun σ2 H2 ⟨ρ2, I2, h2⟩ => ⟨u.1.length - (i + 1), by omega, rfl, by omega, ρ2, I2, h2⟩, fun y H2 hyld => ?_⟩
    obtain ⟨e2, I2⟩ := hy y H2 hyld
    split at h'
    · exact h'.elim
    · rename_i ρ2 eg
      refine qg H0 H2 σ' ρ' ρ2 _ x y _ eg I2 fun σ3 _ I3 => qb H0 H2 σ3 ρ2 _ _ nb2 I3 ?_
      revert h'
      cases s ρ2 with
      | none => exact fun h' => h'
      | some r =>
        cases r with
        | error x => exact fun h' => h'
        | ok fl =>
          cases fl with
          | nx ρ3 => exact fun h' σ4 H4 I4 => ⟨ρ3, I4, h'⟩
          | ct ρ3 => exact fun h' σ4 H4 I4 => ⟨ρ3, I4, h'⟩
          | bk ρ3 => exact fun h' σ4 H4 I4 => h' σ4 H4 I4.drop
          | rt w => exact fun h' => h'
/-! ### while -/
def wloop (c : M Bool) (body : S) : Nat → S
  | 0, _ => none
  | n + 1, ρ => sb (c ρ) fun k ρ1 => if k = true then (match body ρ1 with
      | some (.ok (.nx ρ2)) => wloop c body n ρ2
      | some (.ok (.ct ρ2)) => wloop c body n ρ2
      | some (.ok (.bk ρ2)) => some (.ok (.nx ρ2))
      | r => r) else some (.ok (.nx ρ1))
/-- n: more turns than there may be -/
def sWhile (n : Nat) (c : M Bool) (body : S) : S := fun ρ => wloop c body n ρ
theorem fs_while (n : Nat) {body : List Stmt} {fc : M Bool} (hp : PassesOwn (model X.prog X.w) X.A X.env X.xe) (hc : FT X W c fc) (hb : FSs X W body s) : FS X W (.While c body [] pos) (sWhile n fc s) := by
  obtain ⟨tc, pc, qc⟩ := hc
  obtain ⟨t, pb, qb⟩ := hb
  refine ⟨_, ps_while hp pc pb, fun H0 H σ ρ tmp D nb I h => ?_⟩
  refine ⟨fun m σ' H' => ∃ ρ', Iv X.K X.mg H0 H' σ' ρ' tmp ∧ Pq X.K X.mg W H0 tmp D (wloop fc s m ρ'), ⟨n, ρ, I, h⟩, ?_⟩
  rintro m σ' H' ⟨ρ', I', h'⟩
  cases m with
  | zero => exact h'.elim
  | succ m =>
    unfold wloop at h'
    refine qc H0 H' σ' ρ' tmp _ I' (h'.sb.imp fun k ρ1 h1 H1 e1 I1 => ?_)
    cases k with
    | false => exact h1 σ' H1 I1
    | true =>
      refine ⟨fun σ2 H2 => ∃ ρ2, Iv X.K X.mg H0 H2 σ2 ρ2 tmp ∧ Pq X.K X.mg W H0 tmp D (wloop fc s m ρ2), fun σ2 H2 h2 => ⟨m, Nat.lt_succ_self m, h2⟩, qb H0 H1 σ' ρ1 tmp _ nb I1 ?_⟩
      have h1' : Pq X.K X.mg W H0 tmp D (match s ρ1 with
        | some (.ok (.nx ρ2)) => wloop fc s m ρ2
        | some (.ok (.ct ρ2)) => wloop fc s m ρ2
        | some (.ok (.bk ρ2)) => some (.ok (.nx ρ2))
        | r => r) := h1
      revert h1'
      cases s ρ1 with
      | none => exact fun h' => h'
      | some r =>
        cases r with
        | error x => exact fun h' => h'
        | ok fl =>
          cases fl with
          | nx ρ3 => exact fun h' σ4 H4 I4 => ⟨ρ3, I4, h'⟩
          | ct ρ3 => exact fun h' σ4 H4 I4 => ⟨ρ3, I4, h'⟩
          | bk ρ3 => exact fun h' σ4 H4 I4 => h' σ4 H4 I4
          | rt w => exact fun h' => h'
/-! ### a def's promise -/
abbrev DF := List T → Option (Except Ex T)
def spF (K : PySem.W.Frag) (mg : Str → Option Value) (n : Nat) (F : DF) : Sp := fun vs H Q E => ∃ ts, ts.length = n ∧ nobs ts = true ∧ Reps K mg H (fun b => H b ≠ none) ts vs zc ∧
  match F ts with
  | some (.ok u) => ∀ v H', Same H H' → Fr K mg H H' u v → Q v H'
  | some (.error x) => ∀ cls d H', Same H H' → RepX K mg H' x cls d → E cls d H'
  | none => False
/-- what a body computes -/
def dfOf (N : Nat) (body : S) : DF := fun ts => match body (ts.map some ++ List.replicate (N - ts.length) none) with
  | some (.ok (.nx _)) => some (.ok .non)
  | some (.ok (.rt u)) => some (.ok u)
  | some (.error (x, _)) => some (.error x)
  | _ => none
theorem start_reps {K : PySem.W.Frag} {mg : Str → Option Value} {H : Hp} {s : Addr → Prop} : ∀ {ts : List T} {vs : List V} {m : Nat}, nobs ts = true → Reps K mg H s ts vs zc → RepS K mg H s (ts.map some ++ List.replicate m none) (vs.map some ++ List.replicate m none) zc
  | [], vs, 0, _, h => by
    have h' : vs = [] := h
    subst h'
    rfl
  | [], vs, m + 1, _, h => by
    have h' : vs = [] := h
    subst h'
    exact ⟨none, List.replicate m none, zc, zc, by rfl, fun b => Nat.le_refl _, fun t ht => (nomatch ht), start_reps (ts := []) (vs := []) rfl rfl⟩
  | t :: ts, vs, m, hb, h => by
    obtain ⟨v, r, c1, c2, e1, h1, h2, h3⟩ := h
    subst e1
    have hb' : nob t = true ∧ nobs ts = true := by simpa [nobs] using hb
    refine ⟨some v, r.map some ++ List.replicate m none, zc, zc, rfl, fun b => Nat.le_refl _, fun u hu => ?_, start_reps hb'.2 (h3.le fun b => by have := h1 b; simp at this; omega)⟩
    cases hu
    exact ⟨v, rfl, hb'.1, h2.le fun b => by have := h1 b; simp at this; omega⟩
/-- a body is entered with its arguments -/
theorem fs_enter {K : PySem.W.Frag} {mg : Str → Option Value} {t : TS} {body : S} {N : List Str} {n : Nat} {vs : List V} {H : Hp} {Q : VK} {E : XK} (qt : Fs K mg (fun cls d _ H' => E cls d H') t body) (h : spF K mg n (dfOf N.length body) vs H Q E) :
    t { nx := fun _ H' => Q .non H', rt := Q } (L2.start N vs) H := by
  obtain ⟨ts, h1, hb, h2, h3⟩ := h
  refine qt H H (L2.start N vs) (ts.map some ++ List.replicate (N.length - ts.length) none) [] _ (fun p hp => by cases hp) ⟨Same.refl H, zc, fun b => H b ≠ none, zc, zc, ⟨fun b => Nat.zero_le _, fun b hb => absurd hb (by simp), fun b hb => hb⟩, fun b => Nat.le_refl _, ?_, True.intro⟩ ?_
  · unfold L2.start
    rw [Reps.length h2]
    exact start_reps hb h2
  · unfold dfOf at h3
    revert h3
    cases body (ts.map some ++ List.replicate (N.length - ts.length) none) with
    | none => exact fun h => h
    | some r =>
      cases r with
      | error x => exact fun h σ' cls d H' I' rx => h cls d H' I'.ext rx
      | ok fl =>
        cases fl with
        | nx ρ' => exact fun h σ' H' I' => h .non H' I'.ext ⟨zc, fun b => Nat.zero_le _, fun b hb => absurd hb (by simp), rfl⟩
        | rt u => exact fun h => h
        | bk u => exact fun h => h.elim
        | ct u => exact fun h => h.elim
theorem fn_ok {P : Program} {w : World} {K : PySem.W.Frag} {mg : Str → Option Value} {base : Heap} {x qual : Str} {st : Stmt} {f : Addr} {fd : FuncData} {N ps : List Str} {k : Nat} {body : S} (n : Nat) (F : Fun K x qual st f fd) (Sc : FnScope N ps (defScope st)) (hn : ps.length = n)
    (hbody : ∀ (cdv : Value) (A : Around) (outer : List Env) (s : Shared) (H : Hp) (E : XK), Room k (A.deeper (envOfC qual (defScope st) s.heap.objs.size f cdv)) →
      Takes (cxOf (L2.CX P w) P w K mg base N qual (defScope st) f cdv A outer s H E) (fun cls d _ H' => E cls d H') →
      PassesOwn (model P w) (A.deeper (envOfC qual (defScope st) s.heap.objs.size f cdv)) (envOfC qual (defScope st) s.heap.objs.size f cdv) (cxOf (L2.CX P w) P w K mg base N qual (defScope st) f cdv A outer s H E).xe →
      FSs (cxOf (L2.CX P w) P w K mg base N qual (defScope st) f cdv A outer s H E) (fun cls d _ H' => E cls d H') (defBody st) body) :
    FnOk P w K mg base (L2.CX P w) (k + 1) f fd ps (spF K mg n (dfOf N.length body)) := by
  refine F.okX Sc (fun vs H Q E h => ?_) (fun cdv A outer s H vs Q E hr h => ?_)
  · obtain ⟨ts, h1, _, h2, _⟩ := h
    rw [Reps.length h2, h1, hn]
  · obtain ⟨ts, h1, hb, h2, h3⟩ := h
    have tk : Takes (cxOf (L2.CX P w) P w K mg base N qual (defScope st) f cdv A outer s H E) (fun cls d _ H' => E cls d H') := takes_of rfl rfl rfl rfl
    have po : PassesOwn (model P w) (A.deeper (envOfC qual (defScope st) s.heap.objs.size f cdv)) (envOfC qual (defScope st) s.heap.objs.size f cdv) (cxOf (L2.CX P w) P w K mg base N qual (defScope st) f cdv A outer s H E).xe := passes_of (X := cxOf (L2.CX P w) P w K mg base N qual (defScope st) f cdv A outer s H E) rfl
    obtain ⟨t, pt, qt⟩ := hbody cdv A outer s H E hr tk po
    exact ⟨t, pt, fs_enter qt ⟨ts, h1, hb, h2, h3⟩⟩
/-! ### a call of such a def -/
def eCall (n : Nat) (F : DF) (fs : M (List T)) : M T := fun ρ => ob (fs ρ) fun xs ρ => if xs.length = n then (match F (shrs xs) with
  | some (.ok u) => ok u ρ
  | some (.error x) => some (.error (x, ρ))
  | none => none) else none
def eCall0 (F : DF) : M T := fun ρ => match F [] with
  | some (.ok u) => ok u ρ
  | _ => none
theorem Iv.args {K : PySem.W.Frag} {mg : Str → Option Value} {H0 H : Hp} {σ : L2.St} {ρ : En} {tmp : List (T × V)} {ts : List T} {vs : List V} (I : Iv K mg H0 H σ ρ (ts.zip vs ++ tmp)) (hl : vs.length = ts.length) : Reps K mg H (fun b => H b ≠ none) (shrs ts) vs zc := by
  obtain ⟨s, c, hP, hs, _, _, _⟩ := I.take
  exact Reps.shr hs (fun b xs e z => by rw [z] at e; cases e) ts vs c (RepP.unzip hl hP)
theorem shrs_len : ∀ ts, (shrs ts).length = ts.length := fun ts => by rw [shrs_map, List.length_map]
/-- a value handed back comes besides -/
theorem Iv.ret {K : PySem.W.Frag} {mg : Str → Option Value} {H0 H H' : Hp} {σ : L2.St} {ρ : En} {tmp : List (T × V)} {u : T} {v : V} (I : Iv K mg H0 H σ ρ tmp) (e : Same H H') (fr : Fr K mg H H' u v) : Iv K mg H0 H' σ ρ ((u, v) :: tmp) := by
  obtain ⟨c, h1, h2, h3⟩ := fr
  obtain ⟨s, c0, _, _, _, _, k⟩ := Iv.take (ps := []) I
  refine k H' [(u, v)] e ⟨c, ⟨c, zc, fun b => by simp, Rep.mono (fun _ h => h.elim) (Same.refl H') u v c c (fun _ => Nat.le_refl _) h3, True.intro⟩, fun b => ?_⟩
  by_cases hb : 1 ≤ c b
  · obtain ⟨g1, g2⟩ := h2 b hb
    have : fresh H H' b = 1 := by
      unfold fresh
      rw [g2]
      cases q : H' b with
      | none => exact absurd q g1
      | some o => rfl
    have := h1 b
    omega
  · omega
theorem fe_call {k : Nat} {f : Addr} {fd : FuncData} {ps : List Str} {n : Nat} {F : DF} {x : Str} {p : Pos} {fs : M (List T)} (tk : Takes X W) (G : FnOk X.prog X.w X.K X.mg X.base (L2.CX X.prog X.w) k f fd ps (spF X.K X.mg n F)) (hr : Room k X.A) (hg : Gl X x) (hm : X.mg x = some (.ref f))
    (hk : PySem.W.keepIn X.K (.ref f) = true) (hb : Binds X.K fd ps []) (ha : FA X W (e :: es) fs) (hdb : (x == ("__debug__" : Str)) = false := by decide)
    (he : starEach (e :: es) X.env = (false, eval e X.env) :: starEach es X.env := by rfl) (hpl : (backTo pos (starEach es X.env)).any (·.1) = false := by rfl) : FE X W (.Call (.Name x p) (e :: es) [] pos) (eCall n F fs) := by
  obtain ⟨ta, pa, qa⟩ := ha
  refine ⟨_, pe_callS G hr hg hm hk hb (E := WE W) (fun σ => passAt tk σ) pa hdb he hpl, fun H0 H σ ρ tmp Q I h => qa H0 H σ ρ tmp _ I (h.ob.imp fun xs ρ1 h1 vs H1 e1 hl I1 => ?_)⟩
  split at h1
  · rename_i hn
    refine ⟨shrs xs, by rw [shrs_len, hn], nobs_shrs xs, I1.args hl, ?_⟩
    revert h1
    cases F (shrs xs) with
    | none => exact fun h => h
    | some r =>
      cases r with
      | error x => exact fun h cls d H' e2 rx => h cls d H' ((I1.drop).clear.same e2) rx
      | ok u => exact fun h v H' e2 fr => h v H' (e1.trans e2) ((I1.drop).ret e2 fr)
  · exact h1.elim
theorem fe_call0 {k : Nat} {f : Addr} {fd : FuncData} {F : DF} {x : Str} {p : Pos} (G : FnOk X.prog X.w X.K X.mg X.base (L2.CX X.prog X.w) k f fd [] (spF X.K X.mg 0 F)) (hr : Room k X.A) (hg : Gl X x) (hm : X.mg x = some (.ref f))
    (hk : PySem.W.keepIn X.K (.ref f) = true) (hb : Binds X.K fd [] []) (hdb : (x == ("__debug__" : Str)) = false := by decide) : FE X W (.Call (.Name x p) [] [] pos) (eCall0 F) := by
  refine ⟨_, pe_call0 G hr hg hm hk hb (E := E0) .nil passL hdb, fun H0 H σ ρ tmp Q I h => ?_⟩
  refine ⟨[], rfl, rfl, rfl, ?_⟩
  unfold eCall0 at h
  revert h
  cases F [] with
  | none => exact fun h => h.elim
  | some r =>
    cases r with
    | error x => exact fun h => h.elim
    | ok u => exact fun h v H' e2 fr => h v H' e2 (I.ret e2 fr)
end
end FL
namespace FL
open PySem PySem.Spec L2
open PyProof.Rows hiding St
theorem OpR.or {X : Cx} {f : Value → Value → Sem Value} {r r' : R2} (h : OpR X f r) (h' : OpR X f r') : OpR X f (fun x y H Q => r x y H Q ∨ r' x y H Q) := by
  intro pins s σ H x y v u Q I rx ry q
  rcases q with q | q
  · exact h pins s σ H x y v u Q I rx ry q
  · exact h' pins s σ H x y v u Q I rx ry q
theorem CallR.or {X : Cx} {f : Value} {r r' : List V → Hp → VK → Prop} (h : CallR X f r) (h' : CallR X f r') : CallR X f (fun x H Q => r x H Q ∨ r' x H Q) := by
  intro pins s σ H x v Q I rx q
  rcases q with q | q
  · exact h pins s σ H x v Q I rx q
  · exact h' pins s σ H x v Q I rx q
section
variable {K : PySem.W.Frag} {mg : Str → Option Value} {H0 H H' : Hp} {σ : L2.St} {ρ : En} {tmp : List (T × V)}
theorem Iv.two {x y : T} {vx vy : V} (I : Iv K mg H0 H σ ρ ((y, vy) :: (x, vx) :: tmp)) : ∃ s cx cy, Rep K mg H s x vx cx ∧ Rep K mg H s y vy cy ∧
    ∀ z v H', Same H H' → (∃ cz, Rep K mg H' s z v cz ∧ ∀ b, cz b ≤ cx b + cy b + fresh H H' b) → Iv K mg H0 H' σ ρ ((z, v) :: tmp) := by
  obtain ⟨s, c, hP, _, _, _, k⟩ := Iv.take (ps := [(y, vy), (x, vx)]) I
  obtain ⟨c1, c2, h1, hy, c3, c4, h2, hx, _⟩ := hP
  refine ⟨s, c3, c1, hx, hy, fun z v H' e ⟨cz, hz, hc⟩ => k H' [(z, v)] e ⟨cz, ⟨cz, zc, fun b => by simp, hz, True.intro⟩, fun b => ?_⟩⟩
  have := h1 b
  have := h2 b
  have := hc b
  simp only at *
  omega
theorem Iv.one' {x : T} {vx : V} (I : Iv K mg H0 H σ ρ ((x, vx) :: tmp)) : ∃ s cx, Rep K mg H s x vx cx ∧
    ∀ z v H', Same H H' → (∃ cz, Rep K mg H' s z v cz ∧ ∀ b, cz b ≤ cx b + fresh H H' b) → Iv K mg H0 H' σ ρ ((z, v) :: tmp) := by
  obtain ⟨s, c, hP, _, _, _, k⟩ := Iv.take (ps := [(x, vx)]) I
  obtain ⟨c1, c2, h1, hy, _⟩ := hP
  refine ⟨s, c1, hy, fun z v H' e ⟨cz, hz, hc⟩ => k H' [(z, v)] e ⟨cz, ⟨cz, zc, fun b => by simp, hz, True.intro⟩, fun b => ?_⟩⟩
  have := h1 b
  have := hc b
  omega
/-- a flat answer in the place of two -/
theorem Iv.two_flat {x y z : T} {vx vy v : V} (I : Iv K mg H0 H σ ρ ((y, vy) :: (x, vx) :: tmp)) (hz : ∀ s, Rep K mg H s z v zc) : Iv K mg H0 H σ ρ ((z, v) :: tmp) := I.drop1.drop1.flat (Same.refl H) hz
theorem lens {s : Addr → Prop} {ts : List T} {vs : List V} {c : Cnt} (h : Reps K mg H s ts vs c) : vs.length = ts.length := Reps.length h
end
section
variable {K : PySem.W.Frag} {mg : Str → Option Value}
/-! ### numbers -/
def gI (g : Int → Int → T) : T → T → Option T := fun x y => match x, y with
  | .int i, .int j => some (g i j)
  | _, _ => none
def gIc (c : Int → Int → Bool) (g : Int → Int → T) : T → T → Option T := fun x y => match x, y with
  | .int i, .int j => if c i j = true then some (g i j) else none
  | _, _ => none
theorem gI_inv {g : Int → Int → T} {x y z : T} (h : gI g x y = some z) : ∃ i j, x = .int i ∧ y = .int j ∧ z = g i j := by
  unfold gI at h
  split at h
  · exact ⟨_, _, rfl, rfl, by cases h; rfl⟩
  · cases h
theorem gIc_inv {c : Int → Int → Bool} {g : Int → Int → T} {x y z : T} (h : gIc c g x y = some z) : ∃ i j, x = .int i ∧ y = .int j ∧ c i j = true ∧ z = g i j := by
  unfold gIc at h
  split at h
  · split at h
    · exact ⟨_, _, rfl, rfl, by assumption, by cases h; rfl⟩
    · cases h
  · cases h
theorem ok_I0 {gv : Int → Int → V} {g : Int → Int → T} (hr : ∀ i j K H s, Rep K mg H s (g i j) (gv i j) zc) : OpOk K mg (rI0 gv) (gI g) := fun H0 H σ ρ tmp x y z vx vy Q h I k => by
  obtain ⟨i, j, rfl, rfl, rfl⟩ := gI_inv h
  have ey := I.int
  have ex := I.drop1.int
  subst ex
  subst ey
  exact ⟨i, j, rfl, rfl, k _ H (Same.refl H) (I.two_flat fun s => hr i j K H s)⟩
theorem ok_Ic {C : Int → Int → Prop} {gv : Int → Int → V} {c : Int → Int → Bool} {g : Int → Int → T} (hC : ∀ i j, c i j = true → C i j) (hr : ∀ i j K H s, Rep K mg H s (g i j) (gv i j) zc) : OpOk K mg (rI C gv) (gIc c g) := fun H0 H σ ρ tmp x y z vx vy Q h I k => by
  obtain ⟨i, j, rfl, rfl, hc, rfl⟩ := gIc_inv h
  have ey := I.int
  have ex := I.drop1.int
  subst ex
  subst ey
  exact ⟨i, j, rfl, rfl, hC i j hc, k _ H (Same.refl H) (I.two_flat fun s => hr i j K H s)⟩
abbrev gSubI : T → T → Option T := gI fun i j => .int (i - j)
theorem ok_sub : OpOk K mg (rI0 fun i j => .int (i - j)) gSubI := ok_I0 fun _ _ _ _ _ => rfl
abbrev gLt : T → T → Option T := gI fun i j => .bl (decide (i < j))
abbrev gLe : T → T → Option T := gI fun i j => .bl (decide (i ≤ j))
abbrev gGt : T → T → Option T := gI fun i j => .bl (decide (j < i))
abbrev gGe : T → T → Option T := gI fun i j => .bl (decide (j ≤ i))
theorem ok_lt : OpOk K mg (rI0 fun i j => .bl (decide (i < j))) gLt := ok_I0 fun _ _ _ _ _ => rfl
theorem ok_le : OpOk K mg (rI0 fun i j => .bl (decide (i ≤ j))) gLe := ok_I0 fun _ _ _ _ _ => rfl
theorem ok_gt : OpOk K mg (rI0 fun i j => .bl (decide (j < i))) gGt := ok_I0 fun _ _ _ _ _ => rfl
theorem ok_ge : OpOk K mg (rI0 fun i j => .bl (decide (j ≤ i))) gGe := ok_I0 fun _ _ _ _ _ => rfl
theorem ch_lt : ∀ x y k, gLt x y = some (.bl k) → ∃ i, y = .int i := fun x y k h => let ⟨_, j, _, e, _⟩ := gI_inv h; ⟨j, e⟩
theorem ch_le : ∀ x y k, gLe x y = some (.bl k) → ∃ i, y = .int i := fun x y k h => let ⟨_, j, _, e, _⟩ := gI_inv h; ⟨j, e⟩
abbrev gMod : T → T → Option T := gIc (fun _ j => decide (0 < j)) fun i j => .int (i % j)
theorem ok_mod : OpOk K mg (rI (fun _ j => 0 < j) fun i j => .int (i % j)) gMod := ok_Ic (fun _ _ h => of_decide_eq_true h) fun _ _ _ _ _ => rfl
abbrev gDiv : T → T → Option T := gIc (fun _ j => decide (0 < j ∧ j.natAbs.log2 < 9000)) fun i j => .int (i / j)
theorem ok_div : OpOk K mg (rI CDivW fun i j => .int (i / j)) gDiv := ok_Ic (fun _ _ h => by have := of_decide_eq_true h; exact this) fun _ _ _ _ _ => rfl
abbrev gPow : T → T → Option T := gIc (fun i j => decide (0 ≤ j ∧ j ≤ 1000000 ∧ i.natAbs < 2 ^ 64)) fun i j => .int (i ^ j.toNat)
theorem ok_pow : OpOk K mg (rI CPow fun i j => .int (i ^ j.toNat)) gPow := ok_Ic (fun _ _ h => by have := of_decide_eq_true h; exact this) fun _ _ _ _ _ => rfl
/-! ### + -/
def rAddU (K : PySem.W.Frag) : R2 := fun x y H Q => (rI0 fun i j => .int (i + j)) x y H Q ∨ (∃ i j, x = .str i ∧ y = .str j ∧ i.length + j.length ≤ sizeLine ∧ Q (.str (i ++ j)) H) ∨ rCat x y H Q ∨ rCatA K x y H Q
theorem op_addU {X : Cx} : OpR X (binaryOp .Add) (rAddU X.K) := OpR.or op_add (OpR.or op_add_str (OpR.or op_cat op_catA))
def gAdd : T → T → Option T
  | .int i, .int j => some (.int (i + j))
  | .str x, .str y => if x.length + y.length ≤ 16777216 then some (.str (x ++ y)) else none
  | .tup xs, .tup ys => if xs.length + ys.length ≤ 16777216 then some (.tup (xs ++ ys)) else none
  | .lst o xs, .lst p ys => if o ≠ .fz ∧ p ≠ .fz ∧ xs.length + ys.length ≤ 16777216 then some (.lst .ow (xs ++ ys)) else none
  | _, _ => none
theorem line16 : sizeLine = 16777216 := rfl
/-- a list that is none of the known ones -/
theorem Rep.lst {H : Hp} {s : Addr → Prop} {o : Ow} {ts : List T} {v : V} {c : Cnt} (ho : o ≠ .fz) (h : Rep K mg H s (.lst o ts) v c) : ∃ a vs c', v = .ref a ∧ H a = some (.lst vs) ∧ (∀ b, c' b ≤ c b) ∧ Reps K mg H s ts vs c' := by
  cases o with
  | sh => obtain ⟨a, vs, e1, h1, h3, h2⟩ := h; exact ⟨a, vs, zc, e1, h1, fun b => Nat.zero_le _, h2⟩
  | bo => obtain ⟨a, vs, e1, h1, h2⟩ := h; exact ⟨a, vs, zc, e1, h1, fun b => Nat.zero_le _, h2⟩
  | ow => obtain ⟨a, vs, c', e1, h1, _, h4, h2⟩ := h; exact ⟨a, vs, c', e1, h1, h4, h2⟩
  | pn p => obtain ⟨_, a, vs, c', e1, h1, _, h4, h2⟩ := h; exact ⟨a, vs, c', e1, h1, h4, h2⟩
  | fz => exact absurd rfl ho
theorem Rep.lstS {H : Hp} {s : Addr → Prop} {o : Ow} {ts : List T} {v : V} {c : Cnt} (h : Rep K mg H s (.lst o ts) v c) : ∃ a vs c', v = .ref a ∧ SqL K H a vs ∧ (∀ b, c' b ≤ c b) ∧ Reps K mg H s ts vs c' := by
  cases o with
  | sh => obtain ⟨a, vs, e1, h1, h3, h2⟩ := h; exact ⟨a, vs, zc, e1, SqL.of h1, fun b => Nat.zero_le _, h2⟩
  | bo => obtain ⟨a, vs, e1, h1, h2⟩ := h; exact ⟨a, vs, zc, e1, SqL.of h1, fun b => Nat.zero_le _, h2⟩
  | ow => obtain ⟨a, vs, c', e1, h1, _, h4, h2⟩ := h; exact ⟨a, vs, c', e1, SqL.of h1, h4, h2⟩
  | pn p => obtain ⟨_, a, vs, c', e1, h1, _, h4, h2⟩ := h; exact ⟨a, vs, c', e1, SqL.of h1, h4, h2⟩
  | fz => obtain ⟨a, vs, e1, h1, h2⟩ := h; exact ⟨a, vs, zc, e1, h1.sq, fun b => Nat.zero_le _, h2⟩
theorem Rep.tupS {H : Hp} {s : Addr → Prop} {ts : List T} {v : V} {c : Cnt} (h : Rep K mg H s (.tup ts) v c) : ∃ a vs, v = .ref a ∧ SqT K H a vs ∧ (H a = some (.tup vs) ∨ (nols ts = true ∧ SqT K H a vs)) ∧ Reps K mg H s ts vs c := by
  obtain ⟨a, vs, e1, h1, h2⟩ := h
  exact ⟨a, vs, e1, h1.elim SqT.of (·.2), h1, h2⟩
theorem ok_add : OpOk K mg (rAddU K) gAdd := fun H0 H σ ρ tmp x y z vx vy Q h I k => by
  unfold gAdd at h
  split at h
  · cases h
    have ey := I.int
    have ex := I.drop1.int
    subst ex
    subst ey
    exact .inl ⟨_, _, rfl, rfl, k _ H (Same.refl H) (I.two_flat fun s => rfl)⟩
  · split at h
    · rename_i hl
      cases h
      have ey := I.str
      have ex := I.drop1.str
      subst ex
      subst ey
      exact .inr (.inl ⟨_, _, rfl, rfl, hl, k _ H (Same.refl H) (I.two_flat fun s => rfl)⟩)
    · cases h
  · split at h
    · rename_i xs ys hl
      cases h
      obtain ⟨s, cx, cy, hx, hy, kk⟩ := I.two
      obtain ⟨a, vs, rfl, h1, h1', h2⟩ := hx.tupS
      obtain ⟨b, ws, rfl, g1, g1', g2⟩ := hy.tupS
      refine .inr (.inr (.inr ⟨a, b, vs, ws, rfl, rfl, h1, g1, by rw [lens h2, lens g2]; exact hl, fun e => ?_, fun e e2 => ?_, fun e e2 p hp => ?_⟩))
      · subst e
        have : xs = [] := List.length_eq_zero_iff.mp (by rw [← lens h2]; rfl)
        subst this
        exact k _ H (Same.refl H) (kk _ _ H (Same.refl H) ⟨cy, hy, fun b => by omega⟩)
      · subst e2
        have : ys = [] := List.length_eq_zero_iff.mp (by rw [← lens g2]; rfl)
        subst this
        rw [List.append_nil] at *
        exact k _ H (Same.refl H) (kk _ _ H (Same.refl H) ⟨cx, hx, fun b => by omega⟩)
      · have e3 := same_new (o := .tup (vs ++ ws)) hp
        exact k _ _ e3 (kk _ _ _ e3 ⟨fun b => cx b + cy b, ⟨p, vs ++ ws, rfl, .inl upd_same, Reps.append (fun b => Nat.le_refl _) (Reps.mono (fun _ h => h) e3 _ _ _ _ (fun _ => Nat.le_refl _) h2) (Reps.mono (fun _ h => h) e3 _ _ _ _ (fun _ => Nat.le_refl _) g2)⟩, fun b => Nat.le_add_right _ _⟩)
    · cases h
  · split at h
    · rename_i o xs o' ys hl
      cases h
      obtain ⟨s, cx, cy, hx, hy, kk⟩ := I.two
      obtain ⟨a, vs, c1, rfl, h1, h3, h2⟩ := hx.lst hl.1
      obtain ⟨b, ws, c2, rfl, g1, g3, g2⟩ := hy.lst hl.2.1
      refine .inr (.inr (.inl ⟨a, b, vs, ws, rfl, rfl, h1, g1, by rw [lens h2, lens g2]; exact hl.2.2, fun p hp => ?_⟩))
      have e3 := same_new (o := .lst (vs ++ ws)) hp
      refine k _ _ e3 (kk _ _ _ e3 ⟨fun b => c1 b + c2 b + fresh H (upd H p (.lst (vs ++ ws))) b, ⟨p, vs ++ ws, fun b => c1 b + c2 b, rfl, upd_same, ?_, fun b => Nat.le_add_right _ _, Reps.append (fun b => Nat.le_refl _) (Reps.mono (fun _ h => h) e3 _ _ _ _ (fun _ => Nat.le_refl _) h2) (Reps.mono (fun _ h => h) e3 _ _ _ _ (fun _ => Nat.le_refl _) g2)⟩, fun b => ?_⟩)
      · show c1 p + c2 p + 1 ≤ c1 p + c2 p + fresh H (upd H p (.lst (vs ++ ws))) p
        rw [fresh_new hp]
        exact Nat.le_refl _
      · have := h3 b
        have := g3 b
        show c1 b + c2 b + fresh H (upd H p (.lst (vs ++ ws))) b ≤ _
        omega
    · cases h
  · cases h
/-! ### list * int, int * int -/
def rMulU : R2 := fun x y H Q => (rI CMul fun i j => .int (i * j)) x y H Q ∨ rRep x y H Q
theorem op_mulU {X : Cx} : OpR X (binaryOp .Mult) rMulU := OpR.or op_mul op_rep
def rept (k : Int) (xs : List T) : List T := (List.replicate k.toNat xs).flatten
def gMul : T → T → Option T
  | .int i, .int j => if i.natAbs < 2 ^ 64 ∨ j.natAbs < 2 ^ 64 then some (.int (i * j)) else none
  | .lst o xs, .int k => if o ≠ .fz ∧ nols xs = true ∧ k.natAbs < 2 ^ 63 ∧ xs.length * k.toNat ≤ 16777216 then some (.lst .ow (rept k xs)) else none
  | _, _ => none
mutual
theorem Rep.nol {H : Hp} {s s' : Addr → Prop} : ∀ (t : T) (v : V) (c : Cnt), nol t = true → Rep K mg H s t v c → Rep K mg H s' t v zc
  | .non, _, _, _, h => h
  | .bl _, _, _, _, h => h
  | .int _, _, _, _, h => h
  | .str _, _, _, _, h => h
  | .exc _ _, _, _, _, h => h
  | .emp, _, _, _, h => h
  | .vid _, _, _, _, h => h
  | .tup ts, v, c, hb, h => by
    obtain ⟨a, vs, e1, h1, h2⟩ := h
    exact ⟨a, vs, e1, h1, Reps.nol ts vs c hb h2⟩
  | .lst _ ts, v, c, hb, h => by simp [FL.nol] at hb
theorem Reps.nol {H : Hp} {s s' : Addr → Prop} : ∀ (ts : List T) (vs : List V) (c : Cnt), nols ts = true → Reps K mg H s ts vs c → Reps K mg H s' ts vs zc
  | [], _, _, _, h => h
  | t :: ts, vs, c, hb, h => by
    obtain ⟨v, r, c1, c2, e1, h1, h2, h3⟩ := h
    have hb' : FL.nol t = true ∧ nols ts = true := by simpa [nols] using hb
    exact ⟨v, r, zc, zc, e1, fun _ => Nat.le_refl _, Rep.nol t v c1 hb'.1 h2, Reps.nol ts r c2 hb'.2 h3⟩
end
theorem Reps.rept {H : Hp} {s : Addr → Prop} {xs : List T} {vs : List V} (h : Reps K mg H s xs vs zc) : ∀ n : Nat, Reps K mg H s (List.replicate n xs).flatten (List.replicate n vs).flatten zc
  | 0 => rfl
  | n + 1 => by
    rw [List.replicate_succ, List.replicate_succ, List.flatten_cons, List.flatten_cons]
    exact Reps.append (fun b => Nat.le_refl _) h (Reps.rept h n)
theorem ok_mul : OpOk K mg rMulU gMul := fun H0 H σ ρ tmp x y z vx vy Q h I k => by
  unfold gMul at h
  split at h
  · split at h
    · rename_i hc
      cases h
      have ey := I.int
      have ex := I.drop1.int
      subst ex
      subst ey
      exact .inl ⟨_, _, rfl, rfl, hc.imp (fun h => ⟨by omega, by omega⟩) (fun h => ⟨by omega, by omega⟩), k _ H (Same.refl H) (I.two_flat fun s => rfl)⟩
    · cases h
  · split at h
    · rename_i o xs n hc
      cases h
      have ey := I.int
      subst ey
      obtain ⟨s, cx, cy, hx, hy, kk⟩ := I.two
      obtain ⟨a, vs, c1, rfl, h1, h3, h2⟩ := hx.lst hc.1
      refine .inr ⟨a, n, vs, rfl, rfl, h1, by omega, by omega, by rw [lens h2]; exact hc.2.2.2, fun p hp => ?_⟩
      have e3 := same_new (o := .lst (List.replicate n.toNat vs).flatten) hp
      refine k _ _ e3 (kk _ _ _ e3 ⟨fresh H (upd H p (.lst (List.replicate n.toNat vs).flatten)), ⟨p, _, zc, rfl, upd_same, ?_, fun b => Nat.zero_le _, ?_⟩, fun b => by omega⟩)
      · rw [fresh_new hp]
        exact Nat.le_refl _
      · exact Reps.mono (fun _ h => h) e3 _ _ zc zc (fun _ => Nat.le_refl _) (Reps.rept (Reps.nol (s' := s) xs vs c1 hc.2.1 h2) n.toNat)
    · cases h
  · cases h
/-! ### ==, != -/
mutual
def teq : T → T → Bool
  | .non, .non => true
  | .bl a, .bl b => a == b
  | .bl a, .int j => (if a then 1 else 0) == j
  | .int i, .bl b => i == (if b then 1 else 0)
  | .int i, .int j => i == j
  | .str x, .str y => x == y
  | .tup xs, .tup ys => teqs xs ys
  | .lst _ xs, .lst _ ys => teqs xs ys
  | .exc _ _, .exc _ _ => true
  | .exc _ _, .non => true
  | .non, .exc _ _ => true
  | _, _ => false
def teqs : List T → List T → Bool
  | [], [] => true
  | x :: xs, y :: ys => teq x y && teqs xs ys
  | _, _ => false
end
mutual
def toD : T → PyData
  | .non => .none
  | .exc _ _ => .none
  | .emp => .dict []
  | .vid _ => .dict []
  | .bl b => .bool b
  | .int i => .int i
  | .str x => .str x
  | .tup ts => .tuple (toDs ts)
  | .lst _ ts => .list (toDs ts)
def toDs : List T → List PyData
  | [] => []
  | t :: ts => toD t :: toDs ts
end
mutual
/-- its texts are texts, and it is at most so deep -/
def okT : Nat → T → Bool
  | _, .non => true
  | _, .bl _ => true
  | _, .int _ => true
  | _, .str x => PyData.strOk x
  | _, .exc _ _ => false
  | _, .emp => false
  | _, .vid _ => false
  | n, .tup ts => n != 0 && okTs (n - 1) ts
  | n, .lst _ ts => n != 0 && okTs (n - 1) ts
def okTs : Nat → List T → Bool
  | _, [] => true
  | n, t :: ts => okT n t && okTs n ts
end
mutual
theorem eqv_teq : ∀ x y, PyData.eqv (toD x) (toD y) = teq x y
  | .exc _ _, y => by cases y <;> rfl
  | .emp, y => by cases y <;> rfl
  | .vid _, y => by cases y <;> rfl
  | .tup xs, .exc _ _ => rfl
  | .lst _ xs, .exc _ _ => rfl
  | .tup xs, .emp => rfl
  | .tup xs, .vid _ => rfl
  | .lst _ xs, .emp => rfl
  | .lst _ xs, .vid _ => rfl
  | .non, y => by cases y <;> rfl
  | .bl _, y => by cases y <;> rfl
  | .int _, y => by cases y <;> rfl
  | .str _, y => by cases y <;> rfl
  | .tup xs, .tup ys => by simpa [toD, teq, PyData.eqv] using eqv_teqs xs ys
  | .lst _ xs, .lst _ ys => by simpa [toD, teq, PyData.eqv] using eqv_teqs xs ys
  | .tup xs, .non => rfl
  | .tup xs, .bl _ => rfl
  | .tup xs, .int _ => rfl
  | .tup xs, .str _ => rfl
  | .tup xs, .lst _ _ => rfl
  | .lst _ xs, .non => rfl
  | .lst _ xs, .bl _ => rfl
  | .lst _ xs, .int _ => rfl
  | .lst _ xs, .str _ => rfl
  | .lst _ xs, .tup _ => rfl
theorem eqv_teqs : ∀ xs ys, PyData.eqvAll (toDs xs) (toDs ys) = teqs xs ys
  | [], [] => rfl
  | [], y :: ys => rfl
  | x :: xs, [] => rfl
  | x :: xs, y :: ys => by simp [toDs, teqs, PyData.eqvAll, eqv_teq x y, eqv_teqs xs ys]
end
mutual
/-- no exception within -/
def noE : T → Bool
  | .tup ts => noEs ts
  | .lst _ ts => noEs ts
  | .exc _ _ => false
  | .emp => false
  | .vid _ => false
  | _ => true
def noEs : List T → Bool
  | [] => true
  | t :: ts => noE t && noEs ts
end
mutual
theorem okT_noE : ∀ n t, okT n t = true → noE t = true
  | _, .non, _ => rfl
  | _, .bl _, _ => rfl
  | _, .int _, _ => rfl
  | _, .str _, _ => rfl
  | _, .exc _ _, h => by simp [okT] at h
  | _, .emp, h => by simp [okT] at h
  | _, .vid _, h => by simp [okT] at h
  | n, .tup ts, h => by
    have h' : n ≠ 0 ∧ okTs (n - 1) ts = true := by simpa [okT] using h
    exact okTs_noE (n - 1) ts h'.2
  | n, .lst _ ts, h => by
    have h' : n ≠ 0 ∧ okTs (n - 1) ts = true := by simpa [okT] using h
    exact okTs_noE (n - 1) ts h'.2
theorem okTs_noE : ∀ n ts, okTs n ts = true → noEs ts = true
  | _, [], _ => rfl
  | n, t :: ts, h => by
    have h' : okT n t = true ∧ okTs n ts = true := by simpa [okTs] using h
    show (noE t && noEs ts) = true
    rw [okT_noE n t h'.1, okTs_noE n ts h'.2]
    rfl
end
mutual
theorem Rep.dp {H : Hp} {s : Addr → Prop} : ∀ (t : T) (v : V) (c : Cnt), noE t = true → Rep K mg H s t v c → Dp K H v (toD t)
  | .non, v, _, _, h => by have h' : v = .non := h; rw [h']; exact .non
  | .bl _, v, _, _, h => by have h' : v = .bl _ := h; rw [h']; exact .bl _
  | .int _, v, _, _, h => by have h' : v = .int _ := h; rw [h']; exact .int _
  | .str _, v, _, _, h => by have h' : v = .str _ := h; rw [h']; exact .str _
  | .exc _ _, v, _, n, _ => by simp [noE] at n
  | .emp, v, _, n, _ => by simp [noE] at n
  | .vid _, v, _, n, _ => by simp [noE] at n
  | .tup ts, v, c, n, h => by
    have n : noEs ts = true := by simpa [noE] using n
    obtain ⟨a, vs, rfl, h1, _, h2⟩ := h.tupS
    exact .tup h1 (Reps.dp ts vs c n h2)
  | .lst .sh ts, v, c, n, h => by
    have n : noEs ts = true := by simpa [noE] using n
    obtain ⟨a, vs, rfl, h1, _, h2⟩ := h
    exact .lst (SqL.of h1) (Reps.dp ts vs zc n h2)
  | .lst .bo ts, v, c, n, h => by
    have n : noEs ts = true := by simpa [noE] using n
    obtain ⟨a, vs, rfl, h1, h2⟩ := h
    exact .lst (SqL.of h1) (Reps.dp ts vs zc n h2)
  | .lst .fz ts, v, c, n, h => by
    have n : noEs ts = true := by simpa [noE] using n
    obtain ⟨a, vs, rfl, h1, h2⟩ := h
    exact .lst h1.sq (Reps.dp ts vs zc n h2)
  | .lst .ow ts, v, c, n, h => by
    have n : noEs ts = true := by simpa [noE] using n
    obtain ⟨a, vs, c1, rfl, h1, _, _, h2⟩ := h
    exact .lst (SqL.of h1) (Reps.dp ts vs c1 n h2)
  | .lst (.pn p) ts, v, c, n, h => by
    have n : noEs ts = true := by simpa [noE] using n
    obtain ⟨e0, a, vs, c1, rfl, h1, _, _, h2⟩ := h
    exact .lst (SqL.of h1) (Reps.dp ts vs c1 n h2)
theorem Reps.dp {H : Hp} {s : Addr → Prop} : ∀ (ts : List T) (vs : List V) (c : Cnt), noEs ts = true → Reps K mg H s ts vs c → DpAll K H vs (toDs ts)
  | [], vs, _, _, h => by have h' : vs = [] := h; rw [h']; exact .nil
  | t :: ts, vs, c, n, h => by
    have n : noE t = true ∧ noEs ts = true := by simpa [noEs] using n
    obtain ⟨v, r, c1, c2, rfl, h1, h2, h3⟩ := h
    exact .cons (Rep.dp t v c1 n.1 h2) (Reps.dp ts r c2 n.2 h3)
end
mutual
theorem okT_lay : ∀ n t, okT n t = true → (toD t).canLay0 = true ∧ (toD t).depth ≤ n
  | n, .exc _ _, h => by simp [okT] at h
  | n, .emp, h => by simp [okT] at h
  | n, .vid _, h => by simp [okT] at h
  | n, .non, _ => ⟨rfl, Nat.zero_le _⟩
  | n, .bl _, _ => ⟨rfl, Nat.zero_le _⟩
  | n, .int _, _ => ⟨rfl, Nat.zero_le _⟩
  | n, .str x, h => ⟨h, Nat.zero_le _⟩
  | n, .tup ts, h => by
    have h' : n ≠ 0 ∧ okTs (n - 1) ts = true := by simpa [okT] using h
    obtain ⟨a, b⟩ := okTs_lay (n - 1) ts h'.2
    refine ⟨by simpa [toD, PyData.canLay0] using a, ?_⟩
    show (PyData.tuple (toDs ts)).depth ≤ n
    simp only [PyData.depth]
    omega
  | n, .lst _ ts, h => by
    have h' : n ≠ 0 ∧ okTs (n - 1) ts = true := by simpa [okT] using h
    obtain ⟨a, b⟩ := okTs_lay (n - 1) ts h'.2
    refine ⟨by simpa [toD, PyData.canLay0] using a, ?_⟩
    show (PyData.list (toDs ts)).depth ≤ n
    simp only [PyData.depth]
    omega
theorem okTs_lay : ∀ n ts, okTs n ts = true → PyData.canLayAll0 (toDs ts) = true ∧ PyData.depthAll (toDs ts) ≤ n
  | n, [], _ => ⟨rfl, Nat.zero_le _⟩
  | n, t :: ts, h => by
    have h' : okT n t = true ∧ okTs n ts = true := by simpa [okTs] using h
    obtain ⟨a, b⟩ := okT_lay n t h'.1
    obtain ⟨c, d⟩ := okTs_lay n ts h'.2
    refine ⟨by simp [toDs, PyData.canLayAll0, a, c], ?_⟩
    simp only [toDs, PyData.depthAll]
    omega
end
theorem okT_shaped {t : T} (h : okT 60 t = true) : SeqAt.shaped (toD t) = true := by
  obtain ⟨a, b⟩ := okT_lay 60 t h
  unfold SeqAt.shaped
  rw [a, decide_eq_true (show (toD t).depth ≤ 64 by omega)]
  rfl
def gEq : T → T → Option T := fun x y => if okT 60 x = true ∧ okT 60 y = true then some (.bl (teq x y)) else none
def gNe : T → T → Option T := fun x y => if okT 60 x = true ∧ okT 60 y = true then some (.bl (!teq x y)) else none
theorem ok_eq : OpOk K mg (rEqD K) gEq := fun H0 H σ ρ tmp x y z vx vy Q h I k => by
  unfold gEq at h
  split at h
  · rename_i hc
    cases h
    obtain ⟨s, cx, cy, hx, hy, kk⟩ := I.two
    exact ⟨toD x, toD y, Rep.dp x _ _ (okT_noE 60 x hc.1) hx, Rep.dp y _ _ (okT_noE 60 y hc.2) hy, okT_shaped hc.1, okT_shaped hc.2, k _ H (Same.refl H) (I.two_flat fun s => by rw [eqv_teq]; rfl)⟩
  · cases h
theorem ok_ne : OpOk K mg (rNeD K) gNe := fun H0 H σ ρ tmp x y z vx vy Q h I k => by
  unfold gNe at h
  split at h
  · rename_i hc
    cases h
    obtain ⟨s, cx, cy, hx, hy, kk⟩ := I.two
    exact ⟨toD x, toD y, Rep.dp x _ _ (okT_noE 60 x hc.1) hx, Rep.dp y _ _ (okT_noE 60 y hc.2) hy, okT_shaped hc.1, okT_shaped hc.2, k _ H (Same.refl H) (I.two_flat fun s => by rw [eqv_teq]; rfl)⟩
  · cases h
/-! ### is None -/
def isN : T → Bool
  | .non => true
  | _ => false
def gIsN : T → T → Option T := fun x y => if isN y = true then some (.bl (isN x)) else none
def gNotN : T → T → Option T := fun x y => if isN y = true then some (.bl (!isN x)) else none
theorem Rep.isN {H : Hp} {s : Addr → Prop} {t : T} {v : V} {c : Cnt} (h : Rep K mg H s t v c) : decide (v = .non) = FL.isN t := by
  cases t with
  | non => have h' : v = .non := h; rw [h']; rfl
  | bl b => have h' : v = .bl b := h; rw [h']; rfl
  | int b => have h' : v = .int b := h; rw [h']; rfl
  | str b => have h' : v = .str b := h; rw [h']; rfl
  | tup ts => obtain ⟨a, vs, rfl, _⟩ := h; rfl
  | lst o ts => obtain ⟨a, vs, c', rfl, _⟩ := h.lstS; rfl
  | exc cls fs => obtain ⟨a, C, d, rfl, _⟩ := h; rfl
  | emp => obtain ⟨a, o, rfl, _⟩ := h; rfl
  | vid a => have h' : v = .ref a := h; rw [h']; rfl
theorem isN_non {y : T} (h : FL.isN y = true) : y = .non := by
  cases y <;> first | rfl | cases h
theorem ok_isN : OpOk K mg (fun x y H Q => y = .non ∧ Q (.bl (decide (x = .non))) H) gIsN := fun H0 H σ ρ tmp x y z vx vy Q h I k => by
  unfold gIsN at h
  split at h
  · rename_i hc
    cases h
    obtain rfl := isN_non hc
    obtain ⟨s, cx, cy, hx, hy, kk⟩ := I.two
    have e : vy = .non := hy
    exact ⟨e, k _ H (Same.refl H) (I.two_flat fun s => by rw [hx.isN]; rfl)⟩
  · cases h
theorem ok_notN : OpOk K mg (fun x y H Q => y = .non ∧ Q (.bl (!decide (x = .non))) H) gNotN := fun H0 H σ ρ tmp x y z vx vy Q h I k => by
  unfold gNotN at h
  split at h
  · rename_i hc
    cases h
    obtain rfl := isN_non hc
    obtain ⟨s, cx, cy, hx, hy, kk⟩ := I.two
    have e : vy = .non := hy
    exact ⟨e, k _ H (Same.refl H) (I.two_flat fun s => by rw [hx.isN]; rfl)⟩
  · cases h
/-! ### in, not in -/
def flatT : T → Bool
  | .non => true
  | .bl _ => true
  | .int _ => true
  | .str _ => true
  | _ => false
theorem Rep.flatV {H : Hp} {s : Addr → Prop} {t : T} {v : V} {c : Cnt} (h : Rep K mg H s t v c) (f : flatT t = true) : L2.flatV v = true := by
  cases t with
  | non => have h' : v = .non := h; rw [h']; rfl
  | bl b => have h' : v = .bl b := h; rw [h']; rfl
  | int b => have h' : v = .int b := h; rw [h']; rfl
  | str b => have h' : v = .str b := h; rw [h']; rfl
  | tup ts => cases f
  | lst o ts => cases f
  | exc cls fs => cases f
  | emp => cases f
  | vid a => cases f
theorem Rep.eqV {H : Hp} {s s' : Addr → Prop} {t u : T} {v w : V} {c d : Cnt} (h : Rep K mg H s t v c) (g : Rep K mg H s' u w d) (f : flatT t = true) (f' : flatT u = true) : L2.eqV v w = teq t u := by
  cases t with
  | non => have h' : v = .non := h; subst h'; cases u <;> first | exact absurd f' Bool.false_ne_true | (have g' : w = _ := g; subst g'; rfl)
  | bl b => have h' : v = .bl b := h; subst h'; cases u <;> first | exact absurd f' Bool.false_ne_true | (have g' : w = _ := g; subst g'; rfl)
  | int b => have h' : v = .int b := h; subst h'; cases u <;> first | exact absurd f' Bool.false_ne_true | (have g' : w = _ := g; subst g'; rfl)
  | str b => have h' : v = .str b := h; subst h'; cases u <;> first | exact absurd f' Bool.false_ne_true | (have g' : w = _ := g; subst g'; rfl)
  | tup ts => cases f
  | lst o ts => cases f
  | exc cls fs => cases f
  | emp => cases f
  | vid a => cases f
theorem Reps.flats {H : Hp} {s : Addr → Prop} : ∀ {ts : List T} {vs : List V} {c : Cnt}, ts.all flatT = true → Reps K mg H s ts vs c → vs.all L2.flatV = true
  | [], vs, _, _, h => by have h' : vs = [] := h; rw [h']; rfl
  | t :: ts, vs, c, hf, h => by
    obtain ⟨v, r, c1, c2, rfl, h1, h2, h3⟩ := h
    have hf' : flatT t = true ∧ ts.all flatT = true := by simpa using hf
    simp only [List.all_cons, Bool.and_eq_true]
    exact ⟨h2.flatV hf'.1, Reps.flats hf'.2 h3⟩
theorem Reps.inV {H : Hp} {s s' : Addr → Prop} {u : T} {w : V} {d : Cnt} (g : Rep K mg H s' u w d) (fu : flatT u = true) : ∀ {ts : List T} {vs : List V} {c : Cnt}, ts.all flatT = true → Reps K mg H s ts vs c → L2.inV w vs = ts.any (fun t => teq t u)
  | [], vs, _, _, h => by have h' : vs = [] := h; rw [h']; rfl
  | t :: ts, vs, c, hf, h => by
    obtain ⟨v, r, c1, c2, rfl, h1, h2, h3⟩ := h
    have hf' : flatT t = true ∧ ts.all flatT = true := by simpa using hf
    unfold L2.inV
    rw [List.any_cons, List.any_cons, h2.eqV g hf'.1 fu]
    have := Reps.inV g fu hf'.2 h3
    unfold L2.inV at this
    rw [this]
def hasT (x : T) : T → Option Bool
  | .lst _ ys => if flatT x = true ∧ ys.all flatT = true then some (ys.any fun t => teq t x) else none
  | .tup ys => if flatT x = true ∧ ys.all flatT = true then some (ys.any fun t => teq t x) else none
  | .str z => match x with
    | .str c => if c.cps.size = 1 then some (decide (c.cps.getD 0 0 ∈ z.cps.toList)) else none
    | _ => none
  | _ => none
def rInU (K : PySem.W.Frag) : R2 := fun x y H Q => rIn K false x y H Q ∨ ∃ (c : Nat) (z : Str), x = .str ⟨#[c]⟩ ∧ y = .str z ∧ Q (.bl (decide (c ∈ z.cps.toList))) H
def rNinU (K : PySem.W.Frag) : R2 := fun x y H Q => rIn K true x y H Q ∨ ∃ (c : Nat) (z : Str), x = .str ⟨#[c]⟩ ∧ y = .str z ∧ Q (.bl (!decide (c ∈ z.cps.toList))) H
theorem op_inU {X : Cx} : OpR X (compareOp .In) (rInU X.K) := OpR.or op_in_seq op_in_sign
theorem op_ninU {X : Cx} : OpR X (compareOp .NotIn) (rNinU X.K) := OpR.or op_notIn_seq op_notIn_sign
def gIn : T → T → Option T := fun x y => (hasT x y).map .bl
def gNin : T → T → Option T := fun x y => (hasT x y).map fun b => .bl (!b)
theorem one_sign {c : Str} (h : c.cps.size = 1) : c = ⟨#[c.cps.getD 0 0]⟩ := by
  obtain ⟨a⟩ := c
  simp only at h
  congr 1
  apply Array.ext
  · simpa using h
  · intro i h1 h2
    have : i = 0 := by omega
    subst this
    simp [Array.getD, h]
theorem hasT_ok {H0 H : Hp} {σ : L2.St} {ρ : En} {tmp : List (T × V)} {x y : T} {vx vy : V} {b : Bool} (h : hasT x y = some b) (I : Iv K mg H0 H σ ρ ((y, vy) :: (x, vx) :: tmp)) :
    (∃ p xs, vy = .ref p ∧ (SqL K H p xs ∨ SqT K H p xs) ∧ L2.flatV vx = true ∧ xs.all L2.flatV = true ∧ L2.inV vx xs = b) ∨ ∃ (c : Nat) (z : Str), vx = .str ⟨#[c]⟩ ∧ vy = .str z ∧ decide (c ∈ z.cps.toList) = b := by
  obtain ⟨s, cx, cy, hx, hy, kk⟩ := I.two
  unfold hasT at h
  split at h
  · split at h
    · rename_i hc
      cases h
      obtain ⟨a, vs, c', rfl, h1, h2, h3⟩ := hy.lstS
      exact .inl ⟨a, vs, rfl, .inl h1, hx.flatV hc.1, Reps.flats hc.2 h3, Reps.inV hx hc.1 hc.2 h3⟩
    · cases h
  · split at h
    · rename_i hc
      cases h
      obtain ⟨a, vs, rfl, h1, _, h3⟩ := hy.tupS
      exact .inl ⟨a, vs, rfl, .inr h1, hx.flatV hc.1, Reps.flats hc.2 h3, Reps.inV hx hc.1 hc.2 h3⟩
    · cases h
  · split at h
    · split at h
      · rename_i hc
        cases h
        have e1 : vx = _ := hx
        have e2 : vy = _ := hy
        subst e1
        subst e2
        exact .inr ⟨_, _, by rw [← one_sign hc], rfl, rfl⟩
      · cases h
    · cases h
  · cases h
theorem ok_in : OpOk K mg (rInU K) gIn := fun H0 H σ ρ tmp x y z vx vy Q h I k => by
  unfold gIn at h
  obtain ⟨b, hb, rfl⟩ := Option.map_eq_some_iff.mp h
  rcases hasT_ok hb I with ⟨p, xs, e, h1, h2, h3, h4⟩ | ⟨c, z, e1, e2, h4⟩
  · exact .inl ⟨p, xs, e, h1, h2, h3, k _ H (Same.refl H) (I.two_flat fun s => by rw [h4]; rfl)⟩
  · exact .inr ⟨c, z, e1, e2, k _ H (Same.refl H) (I.two_flat fun s => by rw [h4]; rfl)⟩
theorem ok_nin : OpOk K mg (rNinU K) gNin := fun H0 H σ ρ tmp x y z vx vy Q h I k => by
  unfold gNin at h
  obtain ⟨b, hb, rfl⟩ := Option.map_eq_some_iff.mp h
  rcases hasT_ok hb I with ⟨p, xs, e, h1, h2, h3, h4⟩ | ⟨c, z, e1, e2, h4⟩
  · exact .inl ⟨p, xs, e, h1, h2, h3, k _ H (Same.refl H) (I.two_flat fun s => by rw [h4]; rfl)⟩
  · exact .inr ⟨c, z, e1, e2, k _ H (Same.refl H) (I.two_flat fun s => by rw [h4]; rfl)⟩
/-! ### x[i] -/
def gIx : T → T → Option T
  | .lst _ xs, .int i => atI xs i
  | .tup xs, .int i => atI xs i
  | .str z, .int i => if z.length ≤ 16777216 then (atI z.cps.toList i).map fun c => .str ⟨#[c]⟩ else none
  | _, _ => none
theorem Reps.at {H : Hp} {s : Addr → Prop} {ts : List T} {vs : List V} {c : Cnt} {i : Int} {t : T} (h : Reps K mg H s ts vs c) (e : atI ts i = some t) : ∃ v, atI vs i = some v ∧ Rep K mg H s t v c := by
  unfold atI at e ⊢
  rw [Reps.length h]
  cases q : ixN ts.length i with
  | none => rw [q] at e; cases e
  | some j =>
    rw [q] at e
    exact Reps.get h e
theorem ok_ix : OpOk K mg (rIx K) gIx := fun H0 H σ ρ tmp x y z vx vy Q h I k => by
  unfold gIx at h
  split at h
  · have ey := I.int
    subst ey
    obtain ⟨s, cx, cy, hx, hy, kk⟩ := I.two
    obtain ⟨a, vs, c', rfl, h1, h2, h3⟩ := hx.lstS
    obtain ⟨v, hv, hr⟩ := Reps.at h3 h
    exact .inl ⟨a, vs, _, v, rfl, rfl, h1, hv, k _ H (Same.refl H) (kk _ _ H (Same.refl H) ⟨c', hr, fun b => by have := h2 b; omega⟩)⟩
  · have ey := I.int
    subst ey
    obtain ⟨s, cx, cy, hx, hy, kk⟩ := I.two
    obtain ⟨a, vs, rfl, h1, _, h3⟩ := hx.tupS
    obtain ⟨v, hv, hr⟩ := Reps.at h3 h
    exact .inr (.inl ⟨a, vs, _, v, rfl, rfl, h1, hv, k _ H (Same.refl H) (kk _ _ H (Same.refl H) ⟨cx, hr, fun b => by omega⟩)⟩)
  · split at h
    · rename_i hl
      obtain ⟨c, hc, rfl⟩ := Option.map_eq_some_iff.mp h
      have ey := I.int
      have ex := I.drop1.str
      subst ey
      subst ex
      exact .inr (.inr ⟨_, _, c, rfl, rfl, hl, hc, k _ H (Same.refl H) (I.two_flat fun s => rfl)⟩)
    · cases h
  · cases h
/-! ### x[a:b] -/
def rSlU (K : PySem.W.Frag) : V → Option Int → Option Int → Hp → VK → Prop := fun x lo hi H Q => rSlL K x lo hi H Q ∨ rSlA K x lo hi H Q ∨ rSlS x lo hi H Q
theorem sl_U {X : Cx} : SlR X (rSlU X.K) := sl_list.or (sl_tupA.or sl_str)
def cutT (xs : List T) (lo hi : Option Int) : List T := (xs.drop (HT.sIx xs.length 0 lo)).take (HT.sIx xs.length xs.length hi - HT.sIx xs.length 0 lo)
def gSl : T → Option Int → Option Int → Option T
  | .lst _ xs, lo, hi => some (.lst .ow (cutT xs lo hi))
  | .tup xs, lo, hi => some (.tup (cutT xs lo hi))
  | .str z, lo, hi => if z.length ≤ 16777216 then some (.str (cutS z lo hi)) else none
  | _, _, _ => none
theorem Reps.drop {H : Hp} {s : Addr → Prop} : ∀ {ts : List T} {vs : List V} {c : Cnt} (n : Nat), Reps K mg H s ts vs c → Reps K mg H s (ts.drop n) (vs.drop n) c
  | ts, vs, c, 0, h => h
  | [], vs, c, n + 1, h => by have h' : vs = [] := h; subst h'; exact rfl
  | t :: ts, vs, c, n + 1, h => by
    obtain ⟨v, r, c1, c2, rfl, h1, h2, h3⟩ := h
    exact Reps.drop n (h3.le fun b => by have := h1 b; omega)
theorem Reps.take {H : Hp} {s : Addr → Prop} : ∀ {ts : List T} {vs : List V} {c : Cnt} (n : Nat), Reps K mg H s ts vs c → Reps K mg H s (ts.take n) (vs.take n) c
  | ts, vs, c, 0, h => rfl
  | [], vs, c, n + 1, h => by have h' : vs = [] := h; subst h'; exact rfl
  | t :: ts, vs, c, n + 1, h => by
    obtain ⟨v, r, c1, c2, rfl, h1, h2, h3⟩ := h
    exact ⟨v, r.take n, c1, c2, rfl, h1, h2, Reps.take n h3⟩
theorem Reps.cut {H : Hp} {s : Addr → Prop} {ts : List T} {vs : List V} {c : Cnt} (lo hi : Option Int) (h : Reps K mg H s ts vs c) : Reps K mg H s (cutT ts lo hi) (cutV vs lo hi) c := by
  unfold cutT cutV
  rw [Reps.length h]
  exact Reps.take _ (Reps.drop _ h)
theorem cutT_whole {xs : List T} {lo hi : Option Int} (h : HT.sIx xs.length 0 lo = 0 ∧ HT.sIx xs.length xs.length hi = xs.length) : cutT xs lo hi = xs := by
  unfold cutT
  rw [h.1, h.2]
  simp
theorem ok_sl : SlOk K mg (rSlU K) gSl := fun H0 H σ ρ tmp x lo hi z vx Q h I k => by
  unfold gSl at h
  split at h
  · cases h
    obtain ⟨s, cx, hx, kk⟩ := I.one'
    obtain ⟨a, vs, c', rfl, h1, h2, h3⟩ := hx.lstS
    refine .inl ⟨a, vs, rfl, h1, fun p hp => ?_⟩
    have e3 := same_new (o := .lst (cutV vs lo hi)) hp
    refine k _ _ e3 (kk _ _ _ e3 ⟨fun b => c' b + fresh H (upd H p (.lst (cutV vs lo hi))) b, ⟨p, _, c', rfl, upd_same, ?_, fun b => Nat.le_add_right _ _, Reps.mono (fun _ h => h) e3 _ _ _ _ (fun _ => Nat.le_refl _) (h3.cut lo hi)⟩, fun b => ?_⟩)
    · show c' p + 1 ≤ c' p + fresh H (upd H p (.lst (cutV vs lo hi))) p
      rw [fresh_new hp]
      exact Nat.le_refl _
    · have := h2 b
      show c' b + fresh H (upd H p (.lst (cutV vs lo hi))) b ≤ _
      omega
  · rename_i xs
    cases h
    obtain ⟨s, cx, hx, kk⟩ := I.one'
    obtain ⟨a, vs, rfl, h1, h1', h3⟩ := hx.tupS
    have hl := Reps.length h3
    refine .inr (.inl ⟨a, vs, rfl, h1, fun hw => ?_, fun hw p hp => ?_⟩)
    · rw [hl] at hw
      rw [cutT_whole hw] at k
      exact k _ H (Same.refl H) (kk _ _ H (Same.refl H) ⟨cx, hx, fun b => by omega⟩)
    · have e3 := same_new (o := .tup (cutV vs lo hi)) hp
      exact k _ _ e3 (kk _ _ _ e3 ⟨cx, ⟨p, _, rfl, .inl upd_same, Reps.mono (fun _ h => h) e3 _ _ _ _ (fun _ => Nat.le_refl _) (h3.cut lo hi)⟩, fun b => by omega⟩)
  · split at h
    · rename_i hl
      cases h
      have ex := I.str
      subst ex
      exact .inr (.inr ⟨_, rfl, hl, k _ H (Same.refl H) (I.drop1.flat (Same.refl H) fun s => rfl)⟩)
    · cases h
  · cases h
/-! ### unary minus -/
def gNeg : T → Option T
  | .int i => some (.int (-i))
  | _ => none
end
end FL
namespace FL
open PySem PySem.Spec L2
open PyProof.Rows hiding St
section
variable {K : PySem.W.Frag} {mg : Str → Option Value} {H0 H H' : Hp} {σ : L2.St} {ρ : En} {tmp : List (T × V)}
/-- a temp is shared from here on -/
theorem Iv.shrTop {t : T} {v : V} (hb : nob t = true) (I : Iv K mg H0 H σ ρ ((t, v) :: tmp)) : Iv K mg H0 H σ ρ ((shr t, v) :: tmp) := by
  obtain ⟨ext, c, s, c1, c2, w, hc, hS, d1, d2, hd, hR, hP⟩ := I
  refine ⟨ext, fun b => c1 b + d2 b, fun b => s b ∨ 1 ≤ d1 b, c1, d2, ⟨fun b => ?_, fun b hb' => ?_, fun b hb' => ?_⟩, fun _ => Nat.le_refl _, hS.mono (fun b z => .inl z) (Same.refl H) (fun _ => Nat.le_refl _),
    zc, d2, fun b => by simp, Rep.frz t v d1 hb (fun b z => .inl z) (fun b z => .inr z) hR, hP.mono (fun b z => .inl z) (Same.refl H) fun _ => Nat.le_refl _⟩
  · have := hc b
    have := hd b
    have := w.one b
    show c1 b + d2 b ≤ 1
    omega
  · have h1 := hc b
    have h2 := hd b
    have h3 := w.one b
    have h4 : 1 ≤ c1 b + d2 b := hb'
    have h5 := w.own b (by omega)
    exact ⟨fun z => z.elim h5.1 fun z => by omega, h5.2⟩
  · rcases hb' with z | z
    · exact w.shd b z
    · have h1 := hc b
      have h2 := hd b
      exact (w.own b (by omega)).2.1
mutual
theorem Rep.shz {s : Addr → Prop} : ∀ (t : T) (v : V) (c : Cnt), Rep K mg H s (shr t) v c → Rep K mg H s (shr t) v zc
  | .non, _, _, h => h
  | .bl _, _, _, h => h
  | .int _, _, _, h => h
  | .str _, _, _, h => h
  | .exc _ _, _, _, h => h
  | .emp, _, _, h => h
  | .vid _, _, _, h => h
  | .tup ts, v, c, h => by
    obtain ⟨a, vs, e1, h1, h2⟩ := h
    exact ⟨a, vs, e1, h1, Reps.shz ts vs c h2⟩
  | .lst .sh ts, v, c, h => h
  | .lst .bo ts, v, c, h => h
  | .lst .fz ts, v, c, h => h
  | .lst .ow ts, v, c, h => h
  | .lst (.pn p) ts, v, c, h => h
theorem Reps.shz {s : Addr → Prop} : ∀ (ts : List T) (vs : List V) (c : Cnt), Reps K mg H s (shrs ts) vs c → Reps K mg H s (shrs ts) vs zc
  | [], _, _, h => h
  | t :: ts, vs, c, h => by
    obtain ⟨v, r, c1, c2, e1, h1, h2, h3⟩ := h
    exact ⟨v, r, zc, zc, e1, fun _ => Nat.le_refl _, Rep.shz t v c1 h2, Reps.shz ts r c2 h3⟩
end
/-- an item of a shared thing comes besides -/
theorem Iv.item {u : T} {a : V} {t : T} {x : V} (I : Iv K mg H0 H σ ρ ((shr u, a) :: tmp)) (h : ∀ s, Rep K mg H s (shr u) a zc → Rep K mg H s t x zc) : Iv K mg H0 H σ ρ ((t, x) :: (shr u, a) :: tmp) := by
  obtain ⟨s, c, hP, _, _, _, k⟩ := Iv.take (ps := [(shr u, a)]) I
  obtain ⟨c1, c2, _, hR, _⟩ := hP
  exact k H [(t, x), (shr u, a)] (Same.refl H) ⟨zc, ⟨zc, zc, fun _ => Nat.le_refl _, h s (Rep.shz u a c1 hR), zc, zc, fun _ => Nat.le_refl _, Rep.shz u a c1 hR, True.intro⟩, fun b => Nat.zero_le _⟩
end
section
variable {X : Cx} {W : WX} {e a b c : Expr} {es : List Expr} {f fa fb fc : M T} {pos : Pos} {tg : Expr}
/-! ### a list, a tuple, a text -/
def iAny (K : PySem.W.Frag) (te : TE) : TI := fun σ H R => te σ H fun x H1 => (∃ a, x = .ref a ∧ (∃ xs, SqL K H1 a xs) ∧ R (Itl K a) H1) ∨ (∃ a, x = .ref a ∧ (∃ xs, SqT K H1 a xs) ∧ R (Itt K a) H1) ∨ ∃ z, x = .str z ∧ R (Its z) H1
theorem pi_any {l : Expr} {tl : TE} (hl : PE X l tl) : PI X tg l (iAny X.K tl) := by
  refine ⟨fun pins s σ H R I h => ?_⟩
  refine thn (hl.run pins s σ H _ I h) fun v s1 ⟨x, H1, I1, r1, q1⟩ => ?_
  rcases q1 with ⟨a, e, ⟨xs, hq⟩, q⟩ | ⟨a, e, ⟨xs, hq⟩, q⟩ | ⟨z, e, q⟩
  · subst e
    cases r1
    obtain ⟨its, rv, p, hz⟩ := I1.list hq
    refine wpAny_pyIter_list p.isList ?_
    refine ⟨s1.heap.objs.size, [s1.heap.objs.size], _, _, H1, rfl, I1.kept (t' := s1.toks) fun b o e => Heap.get?_push_of_some _ e, turn_list a _, ⟨_, Heap.get?_push_size _ rfl, rfl, rfl⟩, fun b hb => ?_, q⟩
    have e : b = s1.heap.objs.size := by simpa using hb
    subst e
    exact I1.fpOk (Nat.le_refl _) (I1.hok.fresh (Nat.le_refl _))
  · subst e
    cases r1
    obtain ⟨its, rv, p, hz⟩ := I1.tuple hq
    refine wpAny_pyIter_tuple (show s1.heap.IsTuple a its.toArray from p) ?_
    refine ⟨s1.heap.objs.size, [s1.heap.objs.size], _, _, H1, rfl, I1.kept (t' := s1.toks) fun b o e => Heap.get?_push_of_some _ e, turn_tuple a _, ⟨_, Heap.get?_push_size _ rfl, rfl, rfl⟩, fun b hb => ?_, q⟩
    have e : b = s1.heap.objs.size := by simpa using hb
    subst e
    exact I1.fpOk (Nat.le_refl _) (I1.hok.fresh (Nat.le_refl _))
  · subst e
    obtain ⟨t, rfl⟩ := r1
    cases ha : z.cps.all (· < 128)
    · exact wpAny_pyIter_wide ha (pi_one (tk := s1.toks) I1 _ (turn_str _ z t "str_iterator" (.inr rfl)) ⟨_, Heap.get?_push_size _ rfl, rfl, rfl⟩ q)
    · exact wpAny_pyIter_ascii ha (pi_one (tk := s1.toks) I1 _ (turn_str _ z t "str_ascii_iterator" (.inl rfl)) ⟨_, Heap.get?_push_size _ rfl, rfl, rfl⟩ q)
def signs (z : Str) : List T := z.cps.toList.map fun c => .str ⟨#[c]⟩
def sAny (f : M T) : M Src := fun ρ => ob (f ρ) fun u ρ => match u with
  | .lst o ts => if nob (.lst o ts) = true then ok (shrs ts, [shr (.lst o ts)]) ρ else none
  | .tup ts => if nob (.tup ts) = true then ok (shrs ts, [shr (.tup ts)]) ρ else none
  | .str z => ok (signs z, []) ρ
  | _ => none
theorem shr_lst (o : Ow) (ts : List T) : ∃ p, shr (.lst o ts) = .lst p (shrs ts) := by
  cases o <;> exact ⟨_, rfl⟩
/-- the items of a shared list -/
theorem it_lst {K : PySem.W.Frag} {mg : Str → Option Value} {o : Ow} {ts : List T} {a : Addr} : ItOk K mg (Itl K a) (shrs ts) [(shr (.lst o ts), .ref a)] := by
  intro H0 H σ ρ tmp I i
  obtain ⟨p, hp⟩ := shr_lst o ts
  have I' : Iv K mg H0 H σ ρ ((shr (.lst o ts), .ref a) :: tmp) := I
  obtain ⟨s, cx, hx, _⟩ := Iv.one' I'
  rw [hp] at hx
  obtain ⟨a', vs, c', e1, h1, _, h3⟩ := hx.lstS
  cases e1
  refine ⟨fun t ht => ?_, fun hl => ⟨vs, h1, by rw [Reps.length h3]; exact hl⟩⟩
  obtain ⟨v, hv, hr⟩ := Reps.get h3 ht
  refine ⟨⟨vs, v, h1, hv⟩, ?_, fun x H' hy => ?_⟩
  · have : t ∈ shrs ts := List.mem_of_getElem? ht
    have hall := nobs_shrs ts
    rw [nobs_all] at hall
    exact List.all_eq_true.mp hall t this
  · obtain ⟨rfl, hy⟩ := hy
    have hx' : vs[i]? = some x := hy vs h1
    rw [hv] at hx'
    cases hx'
    refine ⟨Same.refl _, I'.item fun s' h' => ?_⟩
    rw [hp] at h'
    obtain ⟨a2, vs2, c2, e2, g1, g2, g3⟩ := h'.lstS
    cases e2
    obtain ⟨v2, hv2, hr2⟩ := Reps.get g3 ht
    have hx2 : vs2[i]? = some v := hy vs2 g1
    rw [hv2] at hx2
    cases hx2
    exact hr2.le fun b => g2 b
theorem it_tup {K : PySem.W.Frag} {mg : Str → Option Value} {ts : List T} {a : Addr} : ItOk K mg (Itt K a) (shrs ts) [(shr (.tup ts), .ref a)] := by
  intro H0 H σ ρ tmp I i
  have I' : Iv K mg H0 H σ ρ ((shr (.tup ts), .ref a) :: tmp) := I
  obtain ⟨s, cx, hx, _⟩ := Iv.one' I'
  have hx' : Rep K mg H s (.tup (shrs ts)) (.ref a) cx := hx
  obtain ⟨a', vs, e1, h1, _, h3⟩ := hx'.tupS
  cases e1
  refine ⟨fun t ht => ?_, fun hl => ⟨vs, h1, by rw [Reps.length h3]; exact hl⟩⟩
  obtain ⟨v, hv, hr⟩ := Reps.get h3 ht
  refine ⟨⟨vs, v, h1, hv⟩, ?_, fun x H' hy => ?_⟩
  · have : t ∈ shrs ts := List.mem_of_getElem? ht
    have hall := nobs_shrs ts
    rw [nobs_all] at hall
    exact List.all_eq_true.mp hall t this
  · obtain ⟨rfl, hy⟩ := hy
    have hx' : vs[i]? = some x := hy vs h1
    rw [hv] at hx'
    cases hx'
    refine ⟨Same.refl _, I'.item fun s' h' => ?_⟩
    have h'' : Rep K mg H' s' (.tup (shrs ts)) (.ref a) zc := h'
    obtain ⟨a2, vs2, e2, g1, _, g3⟩ := h''.tupS
    cases e2
    obtain ⟨v2, hv2, hr2⟩ := Reps.get g3 ht
    have hx2 : vs2[i]? = some v := hy vs2 g1
    rw [hv2] at hx2
    cases hx2
    exact hr2
theorem it_str {K : PySem.W.Frag} {mg : Str → Option Value} {z : Str} : ItOk K mg (Its z) (signs z) [] := by
  intro H0 H σ ρ tmp I i
  have hsz : (signs z).length = z.cps.size := by simp [signs]
  refine ⟨fun t ht => ?_, fun hl => by show z.cps.size ≤ i; omega⟩
  have hi : i < z.cps.size := by
    have := (List.getElem?_eq_some_iff.mp ht).1
    omega
  have e1 : t = .str ⟨#[z.cps[i]]⟩ := by
    unfold signs at ht
    rw [List.getElem?_map, Array.getElem?_toList, Array.getElem?_eq_getElem hi] at ht
    simpa using ht.symm
  subst e1
  refine ⟨hi, rfl, fun x H' hy => ?_⟩
  obtain ⟨rfl, c, hc, rfl⟩ := hy
  rw [Array.getElem?_eq_getElem hi] at hc
  cases hc
  exact ⟨Same.refl _, Iv.flat (Same.refl _) (fun s => rfl) I⟩
theorem fi_any (h : FE X W e f) : FI X W tg e (sAny f) := by
  obtain ⟨te, pe, qe⟩ := h
  refine ⟨_, pi_any pe, fun H0 H σ ρ tmp R I h => qe H0 H σ ρ tmp _ I (h.ob.imp fun u ρ1 h1 v H1 e1 I1 => ?_)⟩
  match u, h1, I1 with
  | .lst o ts, h1, I1 =>
    simp only at h1
    split at h1
    · rename_i hb
      obtain ⟨s, cx, hx, _⟩ := Iv.one' I1
      obtain ⟨a, vs, c', rfl, g1, _, _⟩ := hx.lstS
      exact .inl ⟨a, rfl, ⟨vs, g1⟩, h1 (Itl X.K a) [.ref a] H1 e1 rfl shd1 (I1.shrTop hb) it_lst⟩
    · exact h1.elim
  | .tup ts, h1, I1 =>
    simp only at h1
    split at h1
    · rename_i hb
      obtain ⟨s, cx, hx, _⟩ := Iv.one' I1
      obtain ⟨a, vs, rfl, g1, _, _⟩ := hx.tupS
      exact .inr (.inl ⟨a, rfl, ⟨vs, g1⟩, h1 (Itt X.K a) [.ref a] H1 e1 rfl shd1 (I1.shrTop hb) it_tup⟩)
    · exact h1.elim
  | .str z, h1, I1 =>
    have ev := I1.str
    subst ev
    exact .inr (.inr ⟨z, rfl, h1 (Its z) [] H1 e1 rfl rfl I1.drop1 it_str⟩)
/-! ### range -/
def rngT (lo : Int) (c : Int) (n : Nat) : List T := (List.range n).map fun i : Nat => .int (lo + (i : Int) * c)
theorem it_rng {K : PySem.W.Frag} {mg : Str → Option Value} {lo : Int} {n : Nat} : ItOk K mg (Itr lo n) (rngT lo 1 n) [] := by
  intro H0 H σ ρ tmp I i
  refine ⟨fun t ht => ?_, fun hl => by show n ≤ i; simpa [rngT] using hl⟩
  have hi : i < n := by
    have := (List.getElem?_eq_some_iff.mp ht).1
    simpa [rngT] using this
  have e1 : t = .int (lo + i) := by
    unfold rngT at ht
    rw [List.getElem?_map, List.getElem?_range hi] at ht
    simpa using ht.symm
  subst e1
  refine ⟨hi, rfl, fun x H' hy => ?_⟩
  obtain ⟨rfl, rfl⟩ := hy
  exact ⟨Same.refl _, Iv.flat (Same.refl _) (fun s => rfl) I⟩
theorem it_rngC {K : PySem.W.Frag} {mg : Str → Option Value} {lo c : Int} {n : Nat} : ItOk K mg (Itc lo c n) (rngT lo c n) [] := by
  intro H0 H σ ρ tmp I i
  refine ⟨fun t ht => ?_, fun hl => by show n ≤ i; simpa [rngT] using hl⟩
  have hi : i < n := by
    have := (List.getElem?_eq_some_iff.mp ht).1
    simpa [rngT] using this
  have e1 : t = .int (lo + (i : Int) * c) := by
    unfold rngT at ht
    rw [List.getElem?_map, List.getElem?_range hi] at ht
    simpa using ht.symm
  subst e1
  refine ⟨hi, rfl, fun x H' hy => ?_⟩
  obtain ⟨rfl, rfl⟩ := hy
  exact ⟨Same.refl _, Iv.flat (Same.refl _) (fun s => rfl) I⟩
def in62 (i : Int) : Bool := decide (i.natAbs < 2 ^ 62)
def sRng1 (fs : M (List T)) : M Src := fun ρ => ob (fs ρ) fun us ρ => match us with
  | [.int n] => if in62 n = true then ok (rngT 0 1 n.toNat, []) ρ else none
  | _ => none
def sRng2 (fs : M (List T)) : M Src := fun ρ => ob (fs ρ) fun us ρ => match us with
  | [.int i, .int j] => if in62 i = true ∧ in62 j = true then ok (rngT i 1 (j - i).toNat, []) ρ else none
  | _ => none
def rngN (i j c : Int) : Nat := (Builtin.Range.rangeSize i j c).toNat
def sRng3 (fs : M (List T)) : M Src := fun ρ => ob (fs ρ) fun us ρ => match us with
  | [.int i, .int j, .int c] => if c ≠ 0 ∧ c.natAbs < 1073741824 ∧ Builtin.Range.small i j c = true ∧ 0 ≤ Builtin.Range.rangeSize i j c then ok (rngT i c (rngN i j c), []) ρ else none
  | _ => none
theorem in62_ok {i : Int} (h : in62 i = true) : -(2 ^ 62) ≤ i ∧ i < 2 ^ 62 := by
  have := of_decide_eq_true h
  omega
theorem Iv.ints1 {K : PySem.W.Frag} {mg : Str → Option Value} {H0 H : Hp} {σ : L2.St} {ρ : En} {tmp : List (T × V)} {i : Int} {vs : List V} (hl : vs.length = ([.int i] : List T).length) (I : Iv K mg H0 H σ ρ (([.int i] : List T).zip vs ++ tmp)) : vs = [.int i] ∧ Iv K mg H0 H σ ρ tmp := by
  match vs, hl, I with
  | [v], _, I =>
    have I' : Iv K mg H0 H σ ρ ((.int i, v) :: tmp) := I
    exact ⟨by rw [I'.int], I'.drop1⟩
theorem Iv.ints2 {K : PySem.W.Frag} {mg : Str → Option Value} {H0 H : Hp} {σ : L2.St} {ρ : En} {tmp : List (T × V)} {i j : Int} {vs : List V} (hl : vs.length = ([.int i, .int j] : List T).length) (I : Iv K mg H0 H σ ρ (([.int i, .int j] : List T).zip vs ++ tmp)) : vs = [.int i, .int j] ∧ Iv K mg H0 H σ ρ tmp := by
  match vs, hl, I with
  | [v, w], _, I =>
    have I' : Iv K mg H0 H σ ρ ((.int i, v) :: (.int j, w) :: tmp) := I
    exact ⟨by rw [I'.int, I'.drop1.int], I'.drop1.drop1⟩
theorem Iv.ints3 {K : PySem.W.Frag} {mg : Str → Option Value} {H0 H : Hp} {σ : L2.St} {ρ : En} {tmp : List (T × V)} {i j k : Int} {vs : List V} (hl : vs.length = ([.int i, .int j, .int k] : List T).length) (I : Iv K mg H0 H σ ρ (([.int i, .int j, .int k] : List T).zip vs ++ tmp)) : vs = [.int i, .int j, .int k] ∧ Iv K mg H0 H σ ρ tmp := by
  match vs, hl, I with
  | [v, w, z], _, I =>
    have I' : Iv K mg H0 H σ ρ ((.int i, v) :: (.int j, w) :: (.int k, z) :: tmp) := I
    exact ⟨by rw [I'.int, I'.drop1.int, I'.drop1.drop1.int], I'.drop1.drop1.drop1⟩
theorem fi_rng1 {fs : M (List T)} {p : Pos} (hg : Gl X "range") (hm : X.mg "range" = none) (ha : FA X W [a] fs) (hs : starEach [a] X.env = [(false, eval a X.env)] := by rfl) : FI X W tg (.Call (.Name "range" p) [a] [] pos) (sRng1 fs) := by
  obtain ⟨ta, pa, qa⟩ := ha
  refine ⟨_, pi_range1 hg hm pa hs, fun H0 H σ ρ tmp R I h => qa H0 H σ ρ tmp _ I (h.ob.imp fun us ρ1 h1 vs H1 e1 hl I1 => ?_)⟩
  split at h1
  · split at h1
    · rename_i n hc
      obtain ⟨rfl, I2⟩ := Iv.ints1 hl I1
      obtain ⟨b1, b2⟩ := in62_ok hc
      exact ⟨n, rfl, b1, b2, h1 _ [] H1 e1 rfl rfl I2 it_rng⟩
    · exact h1.elim
  · exact h1.elim
theorem fi_rng2 {fs : M (List T)} {p : Pos} (hg : Gl X "range") (hm : X.mg "range" = none) (ha : FA X W [a, b] fs) (hs : starEach [a, b] X.env = [(false, eval a X.env), (false, eval b X.env)] := by rfl) (hs2 : starEach [b] X.env = [(false, eval b X.env)] := by rfl) : FI X W tg (.Call (.Name "range" p) [a, b] [] pos) (sRng2 fs) := by
  obtain ⟨ta, pa, qa⟩ := ha
  refine ⟨_, pi_range2 hg hm pa hs hs2, fun H0 H σ ρ tmp R I h => qa H0 H σ ρ tmp _ I (h.ob.imp fun us ρ1 h1 vs H1 e1 hl I1 => ?_)⟩
  split at h1
  · split at h1
    · rename_i i j hc
      obtain ⟨rfl, I2⟩ := Iv.ints2 hl I1
      obtain ⟨b1, b2⟩ := in62_ok hc.1
      obtain ⟨b3, b4⟩ := in62_ok hc.2
      exact ⟨i, j, rfl, ⟨b1, b2, b3, b4⟩, h1 _ [] H1 e1 rfl rfl I2 it_rng⟩
    · exact h1.elim
  · exact h1.elim
theorem fi_rng3 {fs : M (List T)} {p : Pos} (hg : Gl X "range") (hm : X.mg "range" = none) (ha : FA X W [a, b, c] fs) (hs : starEach [a, b, c] X.env = (false, eval a X.env) :: starEach [b, c] X.env := by rfl) (hpl : (backTo pos (starEach [b, c] X.env)).any (·.1) = false := by rfl) :
    FI X W tg (.Call (.Name "range" p) [a, b, c] [] pos) (sRng3 fs) := by
  obtain ⟨ta, pa, qa⟩ := ha
  refine ⟨_, pi_range3 hg hm pa hs hpl, fun H0 H σ ρ tmp R I h => qa H0 H σ ρ tmp _ I (h.ob.imp fun us ρ1 h1 vs H1 e1 hl I1 => ?_)⟩
  split at h1
  · split at h1
    · rename_i i j k hc
      obtain ⟨rfl, I2⟩ := Iv.ints3 hl I1
      exact ⟨i, j, k, rngN i j k, rfl, ⟨hc.1, hc.2.1, hc.2.2.1, (Int.toNat_of_nonneg hc.2.2.2).symm⟩, h1 _ [] H1 e1 rfl rfl I2 it_rngC⟩
    · exact h1.elim
  · exact h1.elim
/-! ### enumerate, zip -/
def enT : Nat → List T → List T
  | _, [] => []
  | n, t :: ts => .tup [.int n, t] :: enT (n + 1) ts
theorem enT_get : ∀ {ts : List T} {n i : Nat}, (enT n ts)[i]? = (ts[i]?).map fun t => .tup [.int ((n + i : Nat) : Int), t]
  | [], n, i => by simp [enT]
  | t :: ts, n, 0 => by simp [enT]
  | t :: ts, n, i + 1 => by
    show (enT (n + 1) ts)[i]? = _
    rw [enT_get (ts := ts) (n := n + 1) (i := i)]
    simp only [List.getElem?_cons_succ]
    rw [show n + 1 + i = n + (i + 1) by omega]
theorem enT_len : ∀ {ts : List T} {n : Nat}, (enT n ts).length = ts.length
  | [], n => rfl
  | t :: ts, n => by simp [enT, enT_len (ts := ts)]
def sEn (f : M T) : M Src := fun ρ => ob (f ρ) fun u ρ => match u with
  | .lst o ts => if nob (.lst o ts) = true then ok (enT 0 (shrs ts), [shr (.lst o ts)]) ρ else none
  | _ => none
theorem it_en {K : PySem.W.Frag} {mg : Str → Option Value} {o : Ow} {ts : List T} {a : Addr} : ItOk K mg (Ite K a) (enT 0 (shrs ts)) [(shr (.lst o ts), .ref a)] := by
  intro H0 H σ ρ tmp I i
  obtain ⟨p, hp⟩ := shr_lst o ts
  have I' : Iv K mg H0 H σ ρ ((shr (.lst o ts), .ref a) :: tmp) := I
  obtain ⟨s, cx, hx, _⟩ := Iv.one' I'
  rw [hp] at hx
  obtain ⟨a', vs, c', e1, h1, _, h3⟩ := hx.lstS
  cases e1
  refine ⟨fun t ht => ?_, fun hl => ⟨vs, h1, by rw [Reps.length h3]; rwa [enT_len] at hl⟩⟩
  rw [enT_get] at ht
  obtain ⟨t0, ht0, rfl⟩ := Option.map_eq_some_iff.mp ht
  obtain ⟨v, hv, hr⟩ := Reps.get h3 ht0
  refine ⟨⟨vs, v, h1, hv⟩, ?_, fun x H' hy => ?_⟩
  · have : t0 ∈ shrs ts := List.mem_of_getElem? ht0
    have hall := nobs_shrs ts
    rw [nobs_all] at hall
    have := List.all_eq_true.mp hall t0 this
    simp [nob, nobs, this]
  · obtain ⟨Ta, x0, rfl, hTa, rfl, hy⟩ := hy
    have hx' : vs[i]? = some x0 := hy vs h1
    rw [hv] at hx'
    cases hx'
    have I2 := I'.item (t := t0) (x := v) fun s' h' => by
      rw [hp] at h'
      obtain ⟨a2, vs2, c2, e2, g1, g2, g3⟩ := h'.lstS
      cases e2
      obtain ⟨v2, hv2, hr2⟩ := Reps.get g3 ht0
      have hx2 : vs2[i]? = some v := hy vs2 g1
      rw [hv2] at hx2
      cases hx2
      exact hr2.le fun b => g2 b
    have I3 : Iv K mg H0 H σ ρ (([.int (i : Int), t0] : List T).zip [.int (i : Int), v] ++ ((shr (.lst o ts), .ref a) :: tmp)) := I2.flat (Same.refl H) fun s => rfl
    rw [show ((0 + i : Nat) : Int) = (i : Int) by simp]
    exact ⟨same_new hTa, I3.newTup rfl hTa⟩
theorem fi_en {p tpos : Pos} {elts : List Expr} {kk : Nat} (hg : Gl X "enumerate") (hm : X.mg "enumerate" = none) (ha : FE X W e f) (hs : starEach [e] X.env = [(false, eval e X.env)] := by rfl) (hs' : starEach [e] X.env = (false, eval e X.env) :: starEach [] X.env := by rfl) :
    FI X W (.Tuple elts kk tpos) (.Call (.Name "enumerate" p) [e] [] pos) (sEn f) := by
  obtain ⟨te, pe, qe⟩ := ha
  refine ⟨_, pi_enum hg hm (pa_cons pe pa_nil hs') hs, fun H0 H σ ρ tmp R I h => qe H0 H σ ρ tmp _ I (h.ob.imp fun u ρ1 h1 v H1 e1 I1 => ?_)⟩
  match u, h1, I1 with
  | .lst o ts, h1, I1 =>
    simp only at h1
    split at h1
    · rename_i hb
      obtain ⟨s, cx, hx, _⟩ := Iv.one' I1
      obtain ⟨a, vs, c', rfl, g1, _, _⟩ := hx.lstS
      exact ⟨a, vs, rfl, g1, h1 (Ite X.K a) [.ref a] H1 e1 rfl shd1 (I1.shrTop hb) it_en⟩
    · exact h1.elim
def zipT : List T → List T → List T
  | x :: xs, y :: ys => .tup [x, y] :: zipT xs ys
  | _, _ => []
theorem zipT_get : ∀ {xs ys : List T} {i : Nat} {t : T}, (zipT xs ys)[i]? = some t → ∃ x y, xs[i]? = some x ∧ ys[i]? = some y ∧ t = .tup [x, y]
  | [], ys, i, t, h => by simp [zipT] at h
  | x :: xs, [], i, t, h => by simp [zipT] at h
  | x :: xs, y :: ys, 0, t, h => ⟨x, y, rfl, rfl, by simpa [zipT] using h.symm⟩
  | x :: xs, y :: ys, i + 1, t, h => by
    obtain ⟨a, b, h1, h2, h3⟩ := zipT_get (xs := xs) (ys := ys) (i := i) (t := t) (by simpa [zipT] using h)
    exact ⟨a, b, by simpa using h1, by simpa using h2, h3⟩
theorem zipT_len : ∀ {xs ys : List T}, (zipT xs ys).length = min xs.length ys.length
  | [], ys => by simp [zipT]
  | x :: xs, [] => by simp [zipT]
  | x :: xs, y :: ys => by
    show (zipT xs ys).length + 1 = min (xs.length + 1) (ys.length + 1)
    rw [zipT_len (xs := xs) (ys := ys)]
    omega
def sZip (f g : M T) : M Src := fun ρ => ob (f ρ) fun u ρ => ob (g ρ) fun w ρ => match u, w with
  | .lst o ts, .lst o2 us => if nob (.lst o ts) = true ∧ nob (.lst o2 us) = true then ok (zipT (shrs ts) (shrs us), [shr (.lst o ts), shr (.lst o2 us)]) ρ else none
  | _, _ => none
theorem it_zip {K : PySem.W.Frag} {mg : Str → Option Value} {o o2 : Ow} {ts us : List T} {a b : Addr} : ItOk K mg (Itz K a b) (zipT (shrs ts) (shrs us)) [(shr (.lst o ts), .ref a), (shr (.lst o2 us), .ref b)] := by
  intro H0 H σ ρ tmp I i
  obtain ⟨p, hp⟩ := shr_lst o ts
  obtain ⟨q, hq⟩ := shr_lst o2 us
  have I' : Iv K mg H0 H σ ρ ((shr (.lst o ts), .ref a) :: (shr (.lst o2 us), .ref b) :: tmp) := I
  have J' : Iv K mg H0 H σ ρ ((shr (.lst o2 us), .ref b) :: (shr (.lst o ts), .ref a) :: tmp) := I'.perm (.swap _ _ _)
  obtain ⟨s, cx, hx, _⟩ := Iv.one' I'
  obtain ⟨s', cy, hy', _⟩ := Iv.one' J'
  rw [hp] at hx
  rw [hq] at hy'
  obtain ⟨a', vs, c', e1, h1, _, h3⟩ := hx.lstS
  cases e1
  obtain ⟨b', ws, d', e1, g1, _, g3⟩ := hy'.lstS
  cases e1
  refine ⟨fun t ht => ?_, fun hl => ⟨vs, ws, h1, g1, ?_⟩⟩
  · obtain ⟨x0, y0, hx0, hy0, rfl⟩ := zipT_get ht
    obtain ⟨v, hv, hr⟩ := Reps.get h3 hx0
    obtain ⟨w, hw, hr2⟩ := Reps.get g3 hy0
    refine ⟨⟨vs, ws, v, w, h1, g1, hv, hw⟩, ?_, fun x H' hy => ?_⟩
    · have m1 : x0 ∈ shrs ts := List.mem_of_getElem? hx0
      have m2 : y0 ∈ shrs us := List.mem_of_getElem? hy0
      have hall := nobs_shrs ts
      rw [nobs_all] at hall
      have hall2 := nobs_shrs us
      rw [nobs_all] at hall2
      simp [nob, nobs, List.all_eq_true.mp hall x0 m1, List.all_eq_true.mp hall2 y0 m2]
    · obtain ⟨Ta, x1, y1, rfl, hTa, rfl, k1, k2⟩ := hy
      have hx' : vs[i]? = some x1 := k1 vs h1
      rw [hv] at hx'
      cases hx'
      have hx' : ws[i]? = some y1 := k2 ws g1
      rw [hw] at hx'
      cases hx'
      have I2 := J'.item (t := y0) (x := w) fun s' h' => by
        rw [hq] at h'
        obtain ⟨a2, vs2, c2, e2, r1, r2, r3⟩ := h'.lstS
        cases e2
        obtain ⟨v2, hv2, hr2⟩ := Reps.get r3 hy0
        have hx2 : vs2[i]? = some w := k2 vs2 r1
        rw [hv2] at hx2
        cases hx2
        exact hr2.le fun b => r2 b
      have I3 : Iv K mg H0 H σ ρ ((shr (.lst o ts), .ref a) :: (y0, w) :: (shr (.lst o2 us), .ref b) :: tmp) := I2.perm (((List.Perm.swap _ _ _).cons _).trans (.swap _ _ _))
      have I4 := I3.item (t := x0) (x := v) fun s' h' => by
        rw [hp] at h'
        obtain ⟨a2, vs2, c2, e2, r1, r2, r3⟩ := h'.lstS
        cases e2
        obtain ⟨v2, hv2, hr2⟩ := Reps.get r3 hx0
        have hx2 : vs2[i]? = some v := k1 vs2 r1
        rw [hv2] at hx2
        cases hx2
        exact hr2.le fun b => r2 b
      have I5 : Iv K mg H0 H σ ρ (([x0, y0] : List T).zip [v, w] ++ ((shr (.lst o ts), .ref a) :: (shr (.lst o2 us), .ref b) :: tmp)) := I4.perm ((List.Perm.swap _ _ _).cons _)
      exact ⟨same_new hTa, I5.newTup rfl hTa⟩
  · rw [zipT_len] at hl
    rw [Reps.length h3, Reps.length g3]
    omega
theorem fi_zip {e2 : Expr} {g : M T} {p tpos : Pos} {elts : List Expr} {kk : Nat} (hg : Gl X "zip") (hm : X.mg "zip" = none) (ha : FE X W e f) (hb : FE X W e2 g) (hs : starEach [e, e2] X.env = (false, eval e X.env) :: starEach [e2] X.env := by rfl) (hpl : (backTo pos (starEach [e2] X.env)).any (·.1) = false := by rfl)
    (hs' : starEach [e2] X.env = (false, eval e2 X.env) :: starEach [] X.env := by rfl) : FI X W (.Tuple elts kk tpos) (.Call (.Name "zip" p) [e, e2] [] pos) (sZip f g) := by
  obtain ⟨te, pe, qe⟩ := ha
  obtain ⟨tb, pb, qb⟩ := hb
  refine ⟨_, pi_zip hg hm (pa_cons pe (pa_cons pb pa_nil hs') hs) hs hpl, fun H0 H σ ρ tmp R I h => qe H0 H σ ρ tmp _ I (h.ob.imp fun u ρ1 h1 v H1 e1 I1 => qb H0 H1 σ ρ1 _ _ I1 (h1.ob.imp fun w ρ2 h2 v2 H2 e2 I2 => ?_))⟩
  match u, w, h2, I2 with
  | .lst o ts, .lst o2 us, h2, I2 =>
    simp only at h2
    split at h2
    · rename_i hbb
      have I3 := (I2.shrTop hbb.2).perm (.swap _ _ _)
      have I4 := I3.shrTop hbb.1
      obtain ⟨s, cx, hx, _⟩ := Iv.one' I3
      obtain ⟨a, vs, c', rfl, g1, _, _⟩ := hx.lstS
      obtain ⟨s, cx, hx, _⟩ := Iv.one' I2
      obtain ⟨b, vs', c', rfl, g1', _, _⟩ := hx.lstS
      exact ⟨a, b, vs, vs', rfl, g1, g1', h2 (Itz X.K a b) [.ref a, .ref b] H2 (e1.trans e2) rfl shd2 I4 it_zip⟩
    · exact h2.elim
end
end FL
namespace FL
open PySem PySem.Spec L2
open PyProof.Rows hiding St
abbrev W0 : WX := fun _ _ _ _ => False
def wipeE (ρ : En) : List Nat → En
  | [] => ρ
  | v :: vs => (wipeE ρ vs).set v none
def lcGo (ρ : En) (vs : List Nat) (g : Tg) (tt : M Bool) (fe : M T) : List T → Option (List T)
  | [] => some []
  | t :: ts => match g t (wipeE ρ vs) with
    | none => none
    | some ρ2 => match tt ρ2 with
      | some (.ok (true, ρ3)) => match fe ρ3 with
        | some (.ok (y, _)) => if alw y = true then (lcGo ρ vs g tt fe ts).map (y :: ·) else none
        | _ => none
      | some (.ok (false, _)) => lcGo ρ vs g tt fe ts
      | _ => none
def shE (ρ : En) : En := ρ.map (·.map shr)
def eLc (fi : M Src) (vs : List Nat) (g : Tg) (tt : M Bool) (fe : M T) : M T := fun ρ => match fi (shE ρ) with
  | some (.ok (u, _)) => if u.1.length ≤ 1000000 then (match lcGo (shE ρ) vs g tt fe u.1 with
    | some ys => ok (.lst .ow ys) ρ
    | none => none) else none
  | some (.error (x, _)) => some (.error (x, ρ))
  | none => none
def tYesF : M Bool := fun ρ => ok true ρ
section
variable {K : PySem.W.Frag} {mg : Str → Option Value}
theorem wipe_off {ix vs : List Nat} (hx : ∀ j ∈ ix, j ∈ vs) : ∀ {σ σ' : L2.St}, Off ix σ σ' → wipe σ' vs = wipe σ vs := by
  intro σ σ' h
  have key : ∀ (vs : List Nat) (σ : L2.St) (j : Nat), (wipe σ vs)[j]? = if j ∈ vs ∧ j < σ.length then some none else σ[j]? := by
    intro vs
    induction vs with
    | nil => intro σ j; simp [wipe]
    | cons v vs ih =>
      intro σ j
      show ((wipe σ vs).set v none)[j]? = _
      by_cases hv : v = j
      · subst hv
        by_cases hl : v < σ.length
        · rw [List.getElem?_set_self (by rw [wipe_length]; exact hl)]
          simp [hl]
        · rw [List.getElem?_eq_none_iff.mpr (by rw [List.length_set, wipe_length]; omega)]
          simp [hl, List.getElem?_eq_none_iff.mpr (Nat.le_of_not_lt hl)]
      · rw [List.getElem?_set_ne hv, ih]
        have : ¬ j = v := fun z => hv z.symm
        simp [this]
  apply List.ext_getElem?
  intro j
  rw [key, key, h.1]
  by_cases hj : j ∈ vs
  · by_cases hl : j < σ.length
    · simp [hj, hl]
    · have e1 : σ'[j]? = none := List.getElem?_eq_none_iff.mpr (by rw [h.1]; omega)
      have e2 : σ[j]? = none := List.getElem?_eq_none_iff.mpr (by omega)
      simp [hl, e1, e2]
  · rw [if_neg (fun z => hj z.1), if_neg (fun z => hj z.1), h.2 j fun z => hj (hx j z)]
theorem RepS.wipe {H : Hp} {s : Addr → Prop} {ρ : En} {σ : L2.St} {c : Cnt} (h : RepS K mg H s ρ σ c) : ∀ vs, RepS K mg H s (wipeE ρ vs) (L2.wipe σ vs) c
  | [] => h
  | v :: vs => by
    have ih := RepS.wipe h vs
    show RepS K mg H s ((wipeE ρ vs).set v Option.none) ((L2.wipe σ vs).set v Option.none) c
    have go : ∀ {ρ : En} {σ : L2.St} {c : Cnt} {v : Nat}, RepS K mg H s ρ σ c → RepS K mg H s (ρ.set v Option.none) (σ.set v Option.none) c := by
      intro ρ
      induction ρ with
      | nil =>
        intro σ c v h
        have h' : σ = [] := h
        subst h'
        exact rfl
      | cons o ρ ih =>
        intro σ c v h
        obtain ⟨x, r, c1, c2, e1, h1, h2, h3⟩ := h
        subst e1
        cases v with
        | zero => exact ⟨Option.none, r, c1, c2, rfl, h1, fun t ht => (nomatch ht), h3⟩
        | succ v => exact ⟨x, r.set v Option.none, c1, c2, rfl, h1, h2, ih h3⟩
    exact go ih
theorem RepS.shr {H : Hp} {s s' : Addr → Prop} (hs : ∀ b, s b → s' b) (hl : ∀ b xs, H b = some (.lst xs) → s' b) : ∀ {ρ : En} {σ : L2.St} {c : Cnt}, RepS K mg H s ρ σ c → RepS K mg H s' (shE ρ) σ zc
  | [], σ, c, h => h
  | o :: ρ, σ, c, h => by
    obtain ⟨x, r, c1, c2, e1, h1, h2, h3⟩ := h
    refine ⟨x, r, zc, zc, e1, fun _ => Nat.le_refl _, fun t ht => ?_, RepS.shr hs hl h3⟩
    obtain ⟨t0, e2, rfl⟩ := Option.map_eq_some_iff.mp ht
    obtain ⟨v, q1, q2, q3⟩ := h2 t0 e2
    exact ⟨v, q1, nob_shr t0, Rep.shr hs hl t0 v c1 q3⟩
theorem RepP.shr {H : Hp} {s s' : Addr → Prop} (hs : ∀ b, s b → s' b) (hl : ∀ b xs, H b = some (.lst xs) → s' b) : ∀ {l : List T} {vs : List V} {c : Cnt}, vs.length = l.length → RepP K mg H s (l.zip vs) c → RepP K mg H s' ((shrs l).zip vs) zc
  | [], vs, c, _, h => True.intro
  | t :: l, [], c, hl', h => by simp at hl'
  | t :: l, v :: vs, c, hl', h => by
    obtain ⟨c1, c2, h1, h2, h3⟩ := h
    exact ⟨zc, zc, fun _ => Nat.le_refl _, Rep.shr hs hl t v c1 h2, RepP.shr hs hl (by simpa using hl') h3⟩
/-- as in a call: all is shared, nothing owned -/
structure Bs (K : PySem.W.Frag) (mg : Str → Option Value) (H : Hp) (σ : L2.St) (ρ : En) (pin : List (T × V)) : Prop where
  s : RepS K mg H (fun b => H b ≠ none) ρ σ zc
  p : RepP K mg H (fun b => H b ≠ none) pin zc
theorem Bs.iv {H H' : Hp} {σ : L2.St} {ρ : En} {pin : List (T × V)} (B : Bs K mg H σ ρ pin) (e : Same H H') : Iv K mg H' H' σ ρ pin := by
  have hs : ∀ b, H b ≠ none → H' b ≠ none := fun b h z => by
    cases q : H b with
    | none => exact h q
    | some o => rw [e b o q] at z; cases z
  exact ⟨Same.refl H', zc, fun b => H' b ≠ none, zc, zc, ⟨fun b => Nat.zero_le _, fun b hb => absurd hb (by simp), fun b hb => hb⟩, fun b => Nat.le_refl _, B.s.mono hs e (fun _ => Nat.le_refl _), B.p.mono hs e fun _ => Nat.le_refl _⟩
theorem Bs.wipe {H : Hp} {σ : L2.St} {ρ : En} {pin : List (T × V)} (B : Bs K mg H σ ρ pin) (vs : List Nat) : Bs K mg H (L2.wipe σ vs) (wipeE ρ vs) pin := ⟨B.s.wipe vs, B.p⟩
theorem nn {H H' : Hp} (e : Same H H') (b : Addr) (h : H b ≠ none) : H' b ≠ none := fun z => by
  cases q : H b with
  | none => exact h q
  | some o =>
    rw [e b o q] at z
    cases z
/-- the loop of a comprehension -/
theorem lc_run {mg : Str → Option Value} {J : It} {ts us : List T} {ws : List V} {H1 : Hp} {σ : L2.St} {ρ : En} {vs ix : List Nat} {g : TG} {gf : Tg} {tt : TT} {tf : M Bool} {te : TE} {fe : M T} {D : Addr} {Qd : Hp → Prop} {zs : List T}
    (hws : ws.length = us.length) (hu : us = shrs us) (B : Bs K mg H1 σ ρ (us.zip ws)) (hJ : ItOk K mg J ts (us.zip ws)) (hg : Fg K mg ix g gf) (hx : ∀ j ∈ ix, j ∈ vs) (ht : Ft K mg W0 tt tf) (he : Fe K mg W0 te fe) (hD : H1 D = none) (hlen : ts.length ≤ 1000000) (hz : lcGo ρ vs gf tf fe ts = some zs)
    (hq : ∀ H, Same H1 H → Fr K mg H1 H (.lst .ow zs) (.ref D) → Qd H) :
    ∃ W : Nat → Nat → Hp → Prop, (∃ m, W 0 m (upd H1 D (.lst []))) ∧ ∀ i m H, W i m H →
      (J.stop i H ∧ Qd H) ∨ (J.go i H ∧ ∃ Nx : Hp → Prop, (∀ H', Nx H' → ∃ m', m' < m ∧ W (i + 1) m' H') ∧ ∀ x H', J.yld i H x H' → g x (wipe σ vs) H' fun σ2 H2 => wipe σ2 vs = wipe σ vs ∧ tt σ2 H2 fun b H3 =>
        if b = true then te σ2 H3 fun y H4 => ∃ acc, H4 D = some (.lst acc) ∧ acc.length < sizeLine ∧ Nx (upd H4 D (.lst (acc ++ [y]))) else Nx H3) := by
  have same1 : ∀ {H : Hp} {l : List V}, Same H1 H → Same H1 (upd H D (.lst l)) := fun e b o q => by
    rw [upd_ne (ne_of_none q hD)]
    exact e b o q
  refine ⟨fun i m H => m = ts.length - i ∧ i ≤ ts.length ∧ Same H1 H ∧ ∃ ys acc c rest, zs = ys ++ rest ∧ lcGo ρ vs gf tf fe (ts.drop i) = some rest ∧ H D = some (.lst acc) ∧ ys.length ≤ i ∧ alws ys = true ∧ (∀ b, c b ≤ 1) ∧ (∀ b, 1 ≤ c b → H b ≠ none ∧ H1 b = none ∧ b ≠ D) ∧ Reps K mg H (fun _ => False) ys acc c,
    ⟨ts.length, by simp, Nat.zero_le _, same1 (Same.refl H1), [], [], zc, zs, rfl, hz, upd_same, Nat.zero_le _, rfl, fun b => Nat.zero_le _, fun b hb => absurd hb (by simp), rfl⟩, ?_⟩
  rintro i m H ⟨hm, hi, e1, ys, acc, c, rest, hzs, hrest, hacc, hyl, hya, hc1, hc, hR⟩
  have hDn : H D ≠ none := by rw [hacc]; exact fun z => by cases z
  have Ib := B.iv e1
  have Ib' : Iv K mg H H σ ρ (us.zip ws ++ []) := by rw [List.append_nil]; exact Ib
  cases q : ts[i]? with
  | none =>
    have hle : ts.length ≤ i := List.getElem?_eq_none_iff.mp q
    rw [List.drop_eq_nil_of_le hle] at hrest
    cases hrest
    rw [List.append_nil] at hzs
    subst hzs
    refine .inl ⟨(hJ H H σ ρ [] Ib' i).2 hle, hq H e1 ⟨fun b => c b + (if b = D then 1 else 0), fun b => ?_, fun b hb => ?_, ⟨D, acc, c, rfl, hacc, ?_, fun b => Nat.le_add_right _ _, hR⟩⟩⟩
    · by_cases hbD : b = D
      · subst hbD
        have : c b = 0 := by
          cases qq : c b with
          | zero => rfl
          | succ n => exact absurd rfl (hc b (by omega)).2.2
        simp [this]
      · simp [hbD, hc1 b]
    · by_cases hbD : b = D
      · subst hbD
        exact ⟨hDn, hD⟩
      · simp [hbD] at hb
        exact ⟨(hc b hb).1, (hc b hb).2.1⟩
    · simp
  | some x =>
    have hlt : i < ts.length := (List.getElem?_eq_some_iff.mp q).1
    have Iw := (B.wipe vs).iv e1
    have Iw' : Iv K mg H H (wipe σ vs) (wipeE ρ vs) (us.zip ws ++ []) := by rw [List.append_nil]; exact Iw
    obtain ⟨hgo, hnb, hy⟩ := (hJ H H (wipe σ vs) (wipeE ρ vs) [] Iw' i).1 x q
    rw [drop_get q] at hrest
    unfold lcGo at hrest
    -- what holds at the next turn, an item more or not
    refine .inr ⟨hgo, fun H' => ∃ ys acc c rest, Same H1 H' ∧ zs = ys ++ rest ∧ lcGo ρ vs gf tf fe (ts.drop (i + 1)) = some rest ∧ H' D = some (.lst acc) ∧ ys.length ≤ i + 1 ∧ alws ys = true ∧ (∀ b, c b ≤ 1) ∧ (∀ b, 1 ≤ c b → H' b ≠ none ∧ H1 b = none ∧ b ≠ D) ∧ Reps K mg H' (fun _ => False) ys acc c,
      fun H' ⟨ys', acc', c', rest', g1, g2, g3, g4, g5, g6, g7, g8, g9⟩ => ⟨ts.length - (i + 1), by omega, rfl, by omega, g1, ys', acc', c', rest', g2, g3, g4, g5, g6, g7, g8, g9⟩, fun y H2 hyld => ?_⟩
    obtain ⟨e2, I2⟩ := hy y H2 hyld
    rw [List.append_nil] at I2
    split at hrest
    · cases hrest
    · rename_i ρ2 eg
      refine hg H H2 (wipe σ vs) (wipeE ρ vs) ρ2 _ x y _ eg I2 fun σ3 o3 I3 => ⟨?_, ?_⟩
      · rw [wipe_off hx o3]
        have key : ∀ (vs : List Nat) (σ : L2.St), wipe (wipe σ vs) vs = wipe σ vs := fun vs σ => by
          have : Off vs σ (wipe σ vs) := ⟨wipe_length σ vs, fun j hj => by
            clear hrest
            induction vs with
            | nil => rfl
            | cons v vs ih =>
              show ((wipe σ vs).set v none)[j]? = _
              rw [List.getElem?_set_ne (fun z => hj (by simp [z])), ih (fun z => hj (List.mem_cons_of_mem _ z))]⟩
          exact wipe_off (fun j h => h) this
        exact key vs σ
      · have keep : ∀ {H' : Hp}, Same H H' → Reps K mg H' (fun _ => False) ys acc c := fun e => Reps.mono (fun _ h => h) e ys acc c c (fun _ => Nat.le_refl _) hR
        revert hrest
        cases hb : tf ρ2 with
        | none => intro hrest; cases hrest
        | some r =>
          cases r with
          | error ex => intro hrest; cases hrest
          | ok br =>
            obtain ⟨b, ρ3⟩ := br
            cases b with
            | false =>
              intro hrest
              refine ht H H2 σ3 ρ2 _ _ I3 ?_
              rw [hb]
              intro H3 e3 I4
              have e5 : Same H H3 := e2.trans e3
              exact ⟨ys, acc, c, rest, e1.trans e5, hzs, hrest, e5 D _ hacc, by omega, hya, hc1, fun b hb' => ⟨nn e5 b (hc b hb').1, (hc b hb').2⟩, keep e5⟩
            | true =>
              intro hrest
              simp only at hrest
              refine ht H H2 σ3 ρ2 _ _ I3 ?_
              rw [hb]
              intro H3 e3 I4
              show te σ3 H3 _
              revert hrest
              cases hfe : fe ρ3 with
              | none => intro hrest; cases hrest
              | some r =>
                cases r with
                | error ex => intro hrest; cases hrest
                | ok br =>
                  obtain ⟨yt, ρ4⟩ := br
                  intro hrest
                  simp only at hrest
                  split at hrest
                  · rename_i hal
                    obtain ⟨rest', hr', rfl⟩ := Option.map_eq_some_iff.mp hrest
                    refine he H H3 σ3 ρ3 _ _ I4 ?_
                    rw [hfe]
                    intro vy H4 e4 I5
                    have e5 : Same H H4 := e2.trans (e3.trans e4)
                    obtain ⟨d, hd1, hd2, hdR⟩ := I5.fr hal
                    have hlacc : acc.length = ys.length := Reps.length hR
                    refine ⟨acc, e5 D _ hacc, by rw [hlacc, line16]; omega, ys ++ [yt], acc ++ [vy], fun b => c b + d b, rest', same1 (e1.trans e5), by rw [hzs, List.append_assoc]; rfl, hr', upd_same, by rw [List.length_append]; simp; omega, ?_, fun b => ?_, fun b hb' => ?_, ?_⟩
                    · rw [alws_all, List.all_append, ← alws_all, hya]
                      simp [hal]
                    · by_cases hdb : 1 ≤ d b
                      · have h0 := (hd2 b hdb).2
                        have : c b = 0 := by
                          cases qq : c b with
                          | zero => rfl
                          | succ n => exact absurd h0 (hc b (by omega)).1
                        have := hd1 b
                        show c b + d b ≤ 1
                        omega
                      · have := hc1 b
                        show c b + d b ≤ 1
                        omega
                    · have hb'' : 1 ≤ c b + d b := hb'
                      by_cases hdb : 1 ≤ d b
                      · obtain ⟨g1, g2⟩ := hd2 b hdb
                        have hbD : b ≠ D := fun z => hDn (z ▸ g2)
                        refine ⟨by rw [upd_ne hbD]; exact g1, ?_, hbD⟩
                        cases qq : H1 b with
                        | none => rfl
                        | some o => rw [e1 b o qq] at g2; cases g2
                      · obtain ⟨g1, g2, g3⟩ := hc b (by omega)
                        refine ⟨fun z => ?_, g2, g3⟩
                        rw [upd_ne g3] at z
                        cases qq : H b with
                        | none => exact g1 qq
                        | some o => rw [e5 b o qq] at z; cases z
                    · have hDc : c D = 0 := by
                        cases qq : c D with
                        | zero => rfl
                        | succ n => exact absurd rfl (hc D (by omega)).2.2
                      have hDd : d D = 0 := by
                        cases qq : d D with
                        | zero => rfl
                        | succ n => exact absurd (hd2 D (by omega)).2 hDn
                      have n1 : nobs ys = true := alws_nobs ys hya
                      have n2 : nob yt = true := alw_nob yt hal
                      have r1 := Reps.upd (o' := .lst (acc ++ [vy])) (e5 D _ hacc) (fun z => z) ys acc c n1 hDc (keep e5)
                      have r2 := Rep.upd (o' := .lst (acc ++ [vy])) (e5 D _ hacc) (fun z => z) yt vy d n2 hDd hdR
                      exact Reps.append (fun b => Nat.le_refl _) r1 ⟨vy, [], d, zc, rfl, fun b => by simp, r2, rfl⟩
                  · cases hrest
where
  alw_nob : ∀ t, alw t = true → nob t = true
    | .non, h => rfl
    | .bl _, h => rfl
    | .int _, h => rfl
    | .str _, h => rfl
    | .exc _ _, h => rfl
    | .emp, h => rfl
    | .vid _, h => rfl
    | .tup ts, h => alws_nobs ts h
    | .lst .ow ts, h => by
      have h' : alws ts = true := by simpa [alw] using h
      simpa [nob] using alws_nobs ts h'
    | .lst (.pn p) ts, h => by
      have h' : alws ts = true := by simpa [alw] using h
      simpa [nob] using alws_nobs ts h'
    | .lst .sh ts, h => by simp [alw] at h
    | .lst .bo ts, h => by simp [alw] at h
    | .lst .fz ts, h => by
      have h' : alws ts = true := by simpa [alw] using h
      simpa [nob] using alws_nobs ts h'
  alws_nobs : ∀ ts, alws ts = true → nobs ts = true
    | [], h => rfl
    | t :: ts, h => by
      have h' : alw t = true ∧ alws ts = true := by simpa [alws] using h
      show (nob t && nobs ts) = true
      rw [alw_nob t h'.1, alws_nobs ts h'.2]
      rfl
end
structure FTs (X : Cx) (W : WX) (e : List Expr) (f : M Bool) : Prop where
  ex : ∃ t, PTs X e t ∧ Ft X.K X.mg W t f
section
variable {X : Cx} {W : WX}
theorem fts_nil : FTs X W [] tYesF := ⟨_, pts_nil, fun H0 H σ ρ tmp Q I h => h H (Same.refl H) I⟩
theorem fts_one {c : Expr} {f : M Bool} (h : FT X W c f) : FTs X W [c] f := let ⟨t, p, q⟩ := h; ⟨t, pts_one p, q⟩
abbrev BP := Shared × Hp × Addr × List (Str × Addr) × List Addr
abbrev bX (X : Cx) (scope : Scope) (p : BP) : Cx := X.blk p.1 p.2.1 scope (compEnvC scope p.2.2.2.1 p.2.2.1 X.env) p.2.2.2.2
theorem fam_PG {scope : Scope} {tg : Expr} {ix : List Nat} {g : Tg} (h : ∀ p : BP, FG (bX X scope p) tg ix g) : ∃ t, (∀ p, PG (bX X scope p) tg t) ∧ Fg X.K X.mg ix t g := by
  refine ⟨fun v σ H Q => ∀ p, Classical.choose (h p).ex v σ H Q, fun p => ⟨fun pins s σ H v u Q I r hq => (Classical.choose_spec (h p).ex).1.run pins s σ H v u Q I r (hq p)⟩, fun H0 H σ ρ ρ' tmp t v Q e I k p => (Classical.choose_spec (h p).ex).2 H0 H σ ρ ρ' tmp t v Q e I k⟩
theorem fam_PTs {scope : Scope} {es : List Expr} {f : M Bool} (h : ∀ p : BP, FTs (bX X scope p) W0 es f) : ∃ t, (∀ p, PTs (bX X scope p) es t) ∧ Ft X.K X.mg W0 t f := by
  refine ⟨fun σ H Q => ∀ p, Classical.choose (h p).ex σ H Q, fun p => ⟨fun pins s σ H Q I hq => (Classical.choose_spec (h p).ex).1.run pins s σ H Q I (hq p)⟩, fun H0 H σ ρ tmp Q I k p => (Classical.choose_spec (h p).ex).2 H0 H σ ρ tmp Q I k⟩
theorem fam_PE {scope : Scope} {e : Expr} {f : M T} (h : ∀ p : BP, FE (bX X scope p) W0 e f) : ∃ t, (∀ p, PE (bX X scope p) e t) ∧ Fe X.K X.mg W0 t f := by
  refine ⟨fun σ H Q => ∀ p, Classical.choose (h p).ex σ H Q, fun p => ⟨fun pins s σ H Q I hq => (Classical.choose_spec (h p).ex).1.run pins s σ H Q I (hq p)⟩, fun H0 H σ ρ tmp Q I k p => (Classical.choose_spec (h p).ex).2 H0 H σ ρ tmp Q I k⟩
theorem fe_lcR {wi : TI} {fi : M Src} {g : TG} {gf : Tg} {tt : TT} {tf : M Bool} {te : TE} {fe : M T} {vs ix : List Nat} (hi : Fi X.K X.mg W wi fi) (hg : Fg X.K X.mg ix g gf) (hx : ∀ j ∈ ix, j ∈ vs) (ht : Ft X.K X.mg W0 tt tf) (he : Fe X.K X.mg W0 te fe) :
    Fe X.K X.mg W (tLc wi g tt te vs) (eLc fi vs gf tf fe) := fun H0 H σ ρ tmp Q I h => by
  have hl2 : ∀ b xs, H b = some (.lst xs) → H b ≠ none := fun b xs e z => by rw [e] at z; cases z
  have B0 : Bs X.K X.mg H σ (shE ρ) [] := by
    obtain ⟨ext, c, s, c1, c2, w, hc, hS, hP⟩ := I
    exact ⟨hS.shr w.shd hl2, True.intro⟩
  refine hi H H σ (shE ρ) [] _ (B0.iv (Same.refl H)) ?_
  unfold eLc at h
  revert h
  cases hfi : fi (shE ρ) with
  | none => exact fun h => h.elim
  | some r =>
    cases r with
    | error x => exact fun h cls d H' I' rx => h cls d H' ((I.same I'.ext).clear) rx
    | ok r =>
      obtain ⟨u, ρ1⟩ := r
      intro h J ws H1 e1 hl hsh I1 hJ D hD
      simp only at h
      split at h
      · rename_i hlen
        split at h
        · rename_i zs hz
          have hl3 : ∀ b xs, H1 b = some (.lst xs) → H1 b ≠ none := fun b xs e z => by rw [e] at z; cases z
          have B : Bs X.K X.mg H1 σ (shE ρ) (u.2.zip ws) := by
            refine ⟨B0.s.mono (fun b hb => nn e1 b hb) e1 (fun _ => Nat.le_refl _), ?_⟩
            obtain ⟨ext, c, s, c1, c2, w, hc, hS, hP⟩ := I1
            rw [List.append_nil] at hP
            have := hP.shr w.shd hl3 hl
            rwa [hsh] at this
          exact lc_run hl hsh.symm B hJ hg hx ht he hD hlen hz fun H' e2 fr => h _ H' (e1.trans e2) ((I.same e1).ret e2 fr)
        · exact h.elim
      · exact h.elim
theorem fe_lc {elt tg iter : Expr} {ifs : List Expr} {scope : Scope} {own : List (Str × Nat)} {pos : Pos} {fi : M Src} {ix : List Nat} {gf : Tg} {tf : M Bool} {fe : M T} (hc : X.calm = true) (hN : X.N.Nodup) (hi : FI X W tg iter fi) (ok : BlkOk X.N X.env.scope scope own)
    (hg : ∀ p : BP, FG (bX X scope p) tg ix gf) (hx : ∀ j ∈ ix, j ∈ own.map (·.2)) (ht : ∀ p : BP, FTs (bX X scope p) W0 ifs tf) (he : ∀ p : BP, FE (bX X scope p) W0 elt fe) (hs : ∀ x, foldedSetIterable iter X.env x = pure x := by intro _; rfl) :
    FE X W (.ListComp elt [⟨tg, iter, ifs, 0⟩] scope pos) (eLc fi (own.map (·.2)) gf tf fe) := by
  obtain ⟨wi, pi, qi⟩ := hi
  obtain ⟨g, pg, qg⟩ := fam_PG hg
  obtain ⟨tt, pt, qt⟩ := fam_PTs ht
  obtain ⟨te, pe, qe⟩ := fam_PE he
  exact ⟨_, pe_lc hc hN pi ok (fun s H C cl fp => pg (s, H, C, cl, fp)) (fun s H C cl fp => pt (s, H, C, cl, fp)) (fun s H C cl fp => pe (s, H, C, cl, fp)) hs, fe_lcR qi qg hx qt qe⟩
theorem fs_setLc {i : Nat} {y : Str} {py : Pos} {elt tg iter : Expr} {ifs : List Expr} {scope : Scope} {own : List (Str × Nat)} {pos spos : Pos} {fi : M Src} {ix : List Nat} {gf : Tg} {tf : M Bool} {fe : M T} (hc : X.calm = true) (hN : X.N.Nodup) (hy : X.N[i]? = some y) (hyl : X.env.scope.names.lookup y = some .local)
    (hsw : swapsWith (.ListComp elt [⟨tg, iter, ifs, 0⟩] scope pos) (some (.Name y py)) spos.line X.env = pure true) (hi : FI X W tg iter fi) (ok : BlkOk X.N X.env.scope scope own)
    (hg : ∀ p : BP, FG (bX X scope p) tg ix gf) (hx : ∀ j ∈ ix, j ∈ own.map (·.2)) (ht : ∀ p : BP, FTs (bX X scope p) W0 ifs tf) (he : ∀ p : BP, FE (bX X scope p) W0 elt fe) (hs : ∀ x, foldedSetIterable iter X.env x = pure x := by intro _; rfl) :
    FS X W (.Assign [.Name y py] (.ListComp elt [⟨tg, iter, ifs, 0⟩] scope pos) spos) (sAsg (eLc fi (own.map (·.2)) gf tf fe) (gN i)) := by
  obtain ⟨wi, pi, qi⟩ := hi
  obtain ⟨g, pg, qg⟩ := fam_PG hg
  obtain ⟨tt, pt, qt⟩ := fam_PTs ht
  obtain ⟨te, pe, qe⟩ := fam_PE he
  refine ⟨_, ps_setLc hc hN hy hyl hsw pi ok (fun s H C cl fp => pg (s, H, C, cl, fp)) (fun s H C cl fp => pt (s, H, C, cl, fp)) (fun s H C cl fp => pe (s, H, C, cl, fp)) hs, fun H0 H σ ρ tmp D nb I h => ?_⟩
  have q := fe_lcR (W := W) qi qg hx qt qe
  refine q H0 H σ ρ tmp _ I (h.sb.imp fun u ρ1 h1 v H1 e1 I1 => ?_)
  split at h1
  · rename_i ρ' e2
    unfold gN at e2
    split at e2
    · rename_i hb
      cases e2
      exact h1 _ H1 (I1.put hb)
    · cases e2
  · exact h1.elim
end
end FL
namespace FL
open PySem PySem.Spec L2
open PyProof.Rows hiding St
/-! ## places: a list that a name owns, changed -/
def getA : List Nat → T → Option T
  | [], t => some t
  | k :: r, .tup ts => if nols ts = true then none else (ts[k]?).bind (getA r)
  | _ :: _, .lst .fz _ => none
  | k :: r, .lst _ ts => (ts[k]?).bind (getA r)
  | _ :: _, _ => none
def setA : List Nat → T → T → T
  | [], _, u => u
  | k :: r, .tup ts, u => match ts[k]? with
    | some t => .tup (ts.set k (setA r t u))
    | none => .tup ts
  | k :: r, .lst o ts, u => match ts[k]? with
    | some t => .lst o (ts.set k (setA r t u))
    | none => .lst o ts
  | _ :: _, t, _ => t
def Nav (H : Hp) : V → List Nat → V → Prop
  | v0, [], v => v = v0
  | v0, k :: r, v => ∃ b vs v1, v0 = .ref b ∧ (H b = some (.tup vs) ∨ H b = some (.lst vs)) ∧ vs[k]? = some v1 ∧ Nav H v1 r v
theorem Nav.same {H H' : Hp} (e : Same H H') : ∀ {p : List Nat} {v0 v : V}, Nav H v0 p v → Nav H' v0 p v
  | [], _, _, h => h
  | k :: r, v0, v, h => by
    obtain ⟨b, vs, v1, e1, h1, h2, h3⟩ := h
    exact ⟨b, vs, v1, e1, h1.imp (e _ _) (e _ _), h2, h3.same e⟩
theorem Nav.snoc {H : Hp} : ∀ {p : List Nat} {v0 v w : V} {k : Nat}, Nav H v0 p v → Nav H v [k] w → Nav H v0 (p ++ [k]) w
  | [], v0, v, w, k, h, g => by
    have h' : v = v0 := h
    subst h'
    exact g
  | j :: r, v0, v, w, k, h, g => by
    obtain ⟨b, vs, v1, e1, h1, h2, h3⟩ := h
    exact ⟨b, vs, v1, e1, h1, h2, h3.snoc g⟩
section
variable {K : PySem.W.Frag} {mg : Str → Option Value}
theorem Reps.focus {H : Hp} {s : Addr → Prop} : ∀ {ts : List T} {vs : List V} {c : Cnt} {k : Nat} {t : T}, Reps K mg H s ts vs c → ts[k]? = some t → ∃ (v : V) (ck cr : Cnt), vs[k]? = some v ∧ (∀ b, ck b + cr b ≤ c b) ∧ Rep K mg H s t v ck ∧
    ∀ (H' : Hp) (a : Addr) (t' : T) (c' : Cnt), (∀ (t : T) (v : V) (c0 : Cnt), nob t = true → c0 a = 0 → Rep K mg H s t v c0 → Rep K mg H' s t v c0) → nobs ts = true → cr a = 0 → Rep K mg H' s t' v c' → Reps K mg H' s (ts.set k t') vs (fun b => c' b + cr b)
  | [], _, _, _, _, _, e => by simp at e
  | t0 :: ts, vs, c, 0, t, h, e => by
    obtain ⟨v, r, c1, c2, e1, h1, h2, h3⟩ := h
    have e' : t0 = t := by simpa using e
    subst e'
    refine ⟨v, c1, c2, by rw [e1]; rfl, h1, h2, fun H' a t' c' hk hb hc hr => ⟨v, r, c', c2, e1, fun b => Nat.le_refl _, hr, ?_⟩⟩
    have hb' : nob t0 = true ∧ nobs ts = true := by simpa [nobs] using hb
    exact go hk hb'.2 hc h3
  | t0 :: ts, vs, c, k + 1, t, h, e => by
    obtain ⟨v, r, c1, c2, e1, h1, h2, h3⟩ := h
    obtain ⟨w, ck, cr, g1, g2, g3, g4⟩ := Reps.focus (k := k) (t := t) h3 (by simpa using e)
    refine ⟨w, ck, fun b => c1 b + cr b, by rw [e1]; simpa using g1, fun b => ?_, g3, fun H' a t' c' hk hb hc hr => ?_⟩
    · have := h1 b
      have := g2 b
      show ck b + (c1 b + cr b) ≤ c b
      omega
    · have hb' : nob t0 = true ∧ nobs ts = true := by simpa [nobs] using hb
      have hc' : c1 a + cr a = 0 := hc
      exact ⟨v, r, c1, fun b => c' b + cr b, e1, fun b => by show c1 b + (c' b + cr b) ≤ c' b + (c1 b + cr b); omega, hk t0 v c1 hb'.1 (by omega) h2, g4 H' a t' c' hk hb'.2 (by omega) hr⟩
where
  go {H H' : Hp} {s : Addr → Prop} {a : Addr} (hk : ∀ t v c0, nob t = true → c0 a = 0 → Rep K mg H s t v c0 → Rep K mg H' s t v c0) : ∀ {ts : List T} {vs : List V} {c : Cnt}, nobs ts = true → c a = 0 → Reps K mg H s ts vs c → Reps K mg H' s ts vs c
    | [], _, _, _, _, h => h
    | t :: ts, vs, c, hb, hc, h => by
      obtain ⟨v, r, c1, c2, e1, h1, h2, h3⟩ := h
      have hb' : nob t = true ∧ nobs ts = true := by simpa [nobs] using hb
      have := h1 a
      exact ⟨v, r, c1, c2, e1, h1, hk t v c1 hb'.1 (by omega) h2, go hk hb'.2 (by omega) h3⟩
theorem set_same {α : Type} {l : List α} {k : Nat} {x : α} (h : l[k]? = some x) : l.set k x = l := by
  apply List.ext_getElem?
  intro j
  by_cases hj : k = j
  · subst hj
    rw [List.getElem?_set_self (List.getElem?_eq_some_iff.mp h).1, h]
  · rw [List.getElem?_set_ne hj]
/-- the node at a place -/
theorem Rep.node {H : Hp} {s : Addr → Prop} : ∀ {p : List Nat} {t u : T} {v0 v : V} {c : Cnt}, Rep K mg H s t v0 c → Nav H v0 p v → getA p t = some u → ∃ c', Rep K mg H s u v c'
  | [], t, u, v0, v, c, h, n, g => by
    have n' : v = v0 := n
    have g' : t = u := by simpa [getA] using g
    subst n'
    subst g'
    exact ⟨c, h⟩
  | k :: r, .exc _ _, u, v0, v, c, h, n, g => by cases g
  | k :: r, .emp, u, v0, v, c, h, n, g => by cases g
  | k :: r, .vid _, u, v0, v, c, h, n, g => by cases g
  | k :: r, .tup ts, u, v0, v, c, h, n, g => by
    obtain ⟨b, vs, v1, e1, h1, h2, h3⟩ := n
    subst e1
    unfold getA at g
    split at g
    · cases g
    · rename_i hn
      obtain ⟨t1, ht1, g⟩ := Option.bind_eq_some_iff.mp g
      obtain ⟨a, ws, e2, k1, k2⟩ := h
      cases e2
      have k1' : H b = some (.tup ws) := k1.elim (fun z => z) fun z => absurd z.1 hn
      have : ws = vs := by
        rcases h1 with z | z <;> rw [k1'] at z <;> cases z
        rfl
      subst this
      obtain ⟨w, hw, hr⟩ := Reps.get k2 ht1
      rw [h2] at hw
      cases hw
      exact Rep.node hr h3 g
  | k :: r, .lst o ts, u, v0, v, c, h, n, g => by
    obtain ⟨b, vs, v1, e1, h1, h2, h3⟩ := n
    subst e1
    by_cases ho : o = .fz
    · subst ho
      cases g
    · have g' : (ts[k]?).bind (getA r) = some u := by cases o <;> first | exact g | exact absurd rfl ho
      obtain ⟨t1, ht1, g⟩ := Option.bind_eq_some_iff.mp g'
      obtain ⟨a, ws, c', e2, k1, _, k2⟩ := h.lst ho
      cases e2
      have : ws = vs := by
        rcases h1 with z | z <;> rw [k1] at z <;> cases z
        rfl
      subst this
      obtain ⟨w, hw, hr⟩ := Reps.get k2 ht1
      rw [h2] at hw
      cases hw
      exact Rep.node hr h3 g
  | k :: r, .non, u, v0, v, c, h, n, g => by simp [getA] at g
  | k :: r, .bl _, u, v0, v, c, h, n, g => by simp [getA] at g
  | k :: r, .int _, u, v0, v, c, h, n, g => by simp [getA] at g
  | k :: r, .str _, u, v0, v, c, h, n, g => by simp [getA] at g
def isOw : Ow → Bool
  | .ow => true
  | .pn _ => true
  | _ => false
/-- .. that is owned, and what it may become -/
theorem Rep.setA {H : Hp} {s : Addr → Prop} {a : Addr} {us : List T} {o : Ow} (ho : isOw o = true) : ∀ {p : List Nat} {t : T} {v0 : V} {c : Cnt}, nob t = true → Rep K mg H s t v0 c → Nav H v0 p (.ref a) → getA p t = some (.lst o us) → c a ≤ 1 →
    ∃ (vs : List V) (c' : Cnt), H a = some (HO.lst vs) ∧ 1 ≤ c a ∧ c' a = 0 ∧ (∀ b, c' b ≤ c b) ∧ Reps K mg H s us vs c' ∧ nobs us = true ∧
      ∀ (us' : List T) (vs' : List V) (cn d : Cnt), nobs us' = true → (∀ b, cn b ≤ c' b + d b) → Reps K mg H s us' vs' cn → cn a = 0 → ¬ s a → nob (FL.setA p t (.lst o us')) = true ∧ Rep K mg (L2.upd H a (HO.lst vs')) s (FL.setA p t (.lst o us')) v0 (fun b => c b + d b)
  | [], t, v0, c, hb, h, n, g, hc => by
    have n' : .ref a = v0 := n
    have g' : t = .lst o us := by simpa [getA] using g
    subst n'
    subst g'
    cases o with
    | ow =>
      obtain ⟨a', vs, c', e1, h1, h2, h3, h4⟩ := h
      cases e1
      have hb' : nobs us = true := by simpa [nob] using hb
      refine ⟨vs, c', h1, by omega, by omega, h3, h4, hb', fun us' vs' cn d nb' hcn hr hca hs => ⟨by simpa [FL.setA, nob] using nb', a, vs', cn, rfl, upd_same, ?_, fun b => ?_, Reps.upd h1 hs us' vs' cn nb' hca hr⟩⟩
      · show cn a + 1 ≤ c a + d a
        omega
      · have := hcn b
        have := h3 b
        show cn b ≤ c b + d b
        omega
    | pn q =>
      obtain ⟨e0, a', vs, c', e1, h1, h2, h3, h4⟩ := h
      cases e1
      have hb' : nobs us = true := by simpa [nob] using hb
      refine ⟨vs, c', h1, by omega, by omega, h3, h4, hb', fun us' vs' cn d nb' hcn hr hca hs => ⟨by simpa [FL.setA, nob] using nb', e0, a, vs', cn, rfl, upd_same, ?_, fun b => ?_, Reps.upd h1 hs us' vs' cn nb' hca hr⟩⟩
      · show cn a + 1 ≤ c a + d a
        omega
      · have := hcn b
        have := h3 b
        show cn b ≤ c b + d b
        omega
    | sh => cases ho
    | bo => cases ho
    | fz => cases ho
  | k :: r, .tup ts, v0, c, hb, h, n, g, hc => by
    obtain ⟨b, vs, v1, e1, h1, h2, h3⟩ := n
    subst e1
    unfold getA at g
    split at g
    · cases g
    · rename_i hn
      obtain ⟨t1, ht1, g⟩ := Option.bind_eq_some_iff.mp g
      obtain ⟨a0, ws, e2, k1, k2⟩ := h
      cases e2
      have k1' : H b = some (.tup ws) := k1.elim (fun z => z) fun z => absurd z.1 hn
      have : ws = vs := by
        rcases h1 with z | z <;> rw [k1'] at z <;> cases z
        rfl
      subst this
      have hb' : nobs ts = true := hb
      obtain ⟨w, ck, cr, hw, hsum, hr, hset⟩ := Reps.focus k2 ht1
      rw [h2] at hw
      cases hw
      have hnb1 : nob t1 = true := by
        rw [nobs_all] at hb'
        exact List.all_eq_true.mp hb' t1 (List.mem_of_getElem? ht1)
      obtain ⟨vs', c', q1, q2, q3, q4, q5, q6, q7⟩ := Rep.setA ho hnb1 hr h3 g (by have := hsum a; omega)
      refine ⟨vs', c', q1, by have := hsum a; omega, q3, fun b => by have := hsum b; have := q4 b; omega, q5, q6, fun us' vs'' cn d nb' hcn hr' hca hs => ?_⟩
      obtain ⟨z1, z2⟩ := q7 us' vs'' cn d nb' hcn hr' hca hs
      have es : FL.setA (k :: r) (.tup ts) (.lst o us') = .tup (ts.set k (FL.setA r t1 (.lst o us'))) := by
        simp [FL.setA, ht1]
      rw [es]
      have hcr : cr a = 0 := by have := hsum a; omega
      refine ⟨nobs_set hb' z1, b, ws, rfl, .inl (by rw [upd_ne (lst_ne k1' q1 (fun _ y => by cases y))]; exact k1'), ?_⟩
      refine Reps.le (fun x => ?_) (hset (L2.upd H a (HO.lst vs'')) a _ _ (fun t v c0 hb hc0 hR => Rep.upd q1 hs t v c0 hb hc0 hR) hb' hcr z2)
      have := hsum x
      show ck x + d x + cr x ≤ c x + d x
      omega
  | k :: r, .lst .ow ts, v0, c, hb, h, n, g, hc => by
    obtain ⟨b, vs, v1, e1, h1, h2, h3⟩ := n
    subst e1
    have g' : (ts[k]?).bind (getA r) = some (.lst o us) := g
    obtain ⟨t1, ht1, g⟩ := Option.bind_eq_some_iff.mp g'
    obtain ⟨a0, ws, c1, e2, k1, k3, k4, k2⟩ := h
    cases e2
    have : ws = vs := by
      rcases h1 with z | z <;> rw [k1] at z <;> cases z
      rfl
    subst this
    have hb' : nobs ts = true := by simpa [nob] using hb
    obtain ⟨w, ck, cr, hw, hsum, hr, hset⟩ := Reps.focus k2 ht1
    rw [h2] at hw
    cases hw
    have hnb1 : nob t1 = true := by
      rw [nobs_all] at hb'
      exact List.all_eq_true.mp hb' t1 (List.mem_of_getElem? ht1)
    obtain ⟨vs', c', q1, q2, q3, q4, q5, q6, q7⟩ := Rep.setA ho hnb1 hr h3 g (by have := hsum a; have := k4 a; omega)
    refine ⟨vs', c', q1, by have := hsum a; have := k4 a; omega, q3, fun b => by have := hsum b; have := q4 b; have := k4 b; omega, q5, q6, fun us' vs'' cn d nb' hcn hr' hca hs => ?_⟩
    obtain ⟨z1, z2⟩ := q7 us' vs'' cn d nb' hcn hr' hca hs
    have es : FL.setA (k :: r) (.lst .ow ts) (.lst o us') = .lst .ow (ts.set k (FL.setA r t1 (.lst o us'))) := by
      simp [FL.setA, ht1]
    rw [es]
    have hcr : cr a = 0 := by have := hsum a; have := k4 a; omega
    have hba : b ≠ a := fun z => by
      subst z
      have := k4 b
      have := hsum b
      omega
    refine ⟨by simpa [nob] using nobs_set hb' z1, b, ws, fun x => c1 x + d x, rfl, by rw [upd_ne hba]; exact k1, ?_, fun x => ?_, ?_⟩
    · show c1 b + d b + 1 ≤ c b + d b
      omega
    · have := k4 x
      show c1 x + d x ≤ c x + d x
      omega
    · refine Reps.le (fun x => ?_) (hset (L2.upd H a (HO.lst vs'')) a _ _ (fun t v c0 hb hc0 hR => Rep.upd q1 hs t v c0 hb hc0 hR) hb' hcr z2)
      have := hsum x
      show ck x + d x + cr x ≤ c1 x + d x
      omega
  | k :: r, .lst (.pn q) ts, v0, c, hb, h, n, g, hc => by
    obtain ⟨b, vs, v1, e1, h1, h2, h3⟩ := n
    subst e1
    have g' : (ts[k]?).bind (getA r) = some (.lst o us) := g
    obtain ⟨t1, ht1, g⟩ := Option.bind_eq_some_iff.mp g'
    obtain ⟨e0, a0, ws, c1, e2, k1, k3, k4, k2⟩ := h
    cases e2
    have : ws = vs := by
      rcases h1 with z | z <;> rw [k1] at z <;> cases z
      rfl
    subst this
    have hb' : nobs ts = true := by simpa [nob] using hb
    obtain ⟨w, ck, cr, hw, hsum, hr, hset⟩ := Reps.focus k2 ht1
    rw [h2] at hw
    cases hw
    have hnb1 : nob t1 = true := by
      rw [nobs_all] at hb'
      exact List.all_eq_true.mp hb' t1 (List.mem_of_getElem? ht1)
    obtain ⟨vs', c', q1, q2, q3, q4, q5, q6, q7⟩ := Rep.setA ho hnb1 hr h3 g (by have := hsum a; have := k4 a; omega)
    refine ⟨vs', c', q1, by have := hsum a; have := k4 a; omega, q3, fun b => by have := hsum b; have := q4 b; have := k4 b; omega, q5, q6, fun us' vs'' cn d nb' hcn hr' hca hs => ?_⟩
    obtain ⟨z1, z2⟩ := q7 us' vs'' cn d nb' hcn hr' hca hs
    have es : FL.setA (k :: r) (.lst (.pn q) ts) (.lst o us') = .lst (.pn q) (ts.set k (FL.setA r t1 (.lst o us'))) := by
      simp [FL.setA, ht1]
    rw [es]
    have hcr : cr a = 0 := by have := hsum a; have := k4 a; omega
    have hba : b ≠ a := fun z => by
      subst z
      have := k4 b
      have := hsum b
      omega
    refine ⟨by simpa [nob] using nobs_set hb' z1, e0, b, ws, fun x => c1 x + d x, rfl, by rw [upd_ne hba]; exact k1, ?_, fun x => ?_, ?_⟩
    · show c1 b + d b + 1 ≤ c b + d b
      omega
    · have := k4 x
      show c1 x + d x ≤ c x + d x
      omega
    · refine Reps.le (fun x => ?_) (hset (L2.upd H a (HO.lst vs'')) a _ _ (fun t v c0 hb hc0 hR => Rep.upd q1 hs t v c0 hb hc0 hR) hb' hcr z2)
      have := hsum x
      show ck x + d x + cr x ≤ c1 x + d x
      omega
  | k :: r, .lst .sh ts, v0, c, hb, h, n, g, hc => by
    obtain ⟨b, vs, v1, e1, h1, h2, h3⟩ := n
    subst e1
    have g' : (ts[k]?).bind (getA r) = some (.lst o us) := g
    obtain ⟨t1, ht1, g⟩ := Option.bind_eq_some_iff.mp g'
    obtain ⟨a0, ws, e2, k1, k3, k2⟩ := h
    cases e2
    have : ws = vs := by
      rcases h1 with z | z <;> rw [k1] at z <;> cases z
      rfl
    subst this
    have hb' : nobs ts = true := by simpa [nob] using hb
    obtain ⟨w, hw, hr⟩ := Reps.get k2 ht1
    rw [h2] at hw
    cases hw
    have hnb1 : nob t1 = true := by
      rw [nobs_all] at hb'
      exact List.all_eq_true.mp hb' t1 (List.mem_of_getElem? ht1)
    obtain ⟨_, _, _, q2, _⟩ := Rep.setA ho hnb1 hr h3 g (by simp)
    exact absurd q2 (by simp)
  | k :: r, .lst .fz ts, v0, c, hb, h, n, g, hc => by cases g
  | k :: r, .lst .bo ts, v0, c, hb, h, n, g, hc => by simp [nob] at hb
  | k :: r, .non, v0, c, hb, h, n, g, hc => by simp [getA] at g
  | k :: r, .bl _, v0, c, hb, h, n, g, hc => by simp [getA] at g
  | k :: r, .int _, v0, c, hb, h, n, g, hc => by simp [getA] at g
  | k :: r, .str _, v0, c, hb, h, n, g, hc => by simp [getA] at g
  | k :: r, .exc _ _, v0, c, hb, h, n, g, hc => by simp [getA] at g
  | k :: r, .emp, v0, c, hb, h, n, g, hc => by simp [getA] at g
  | k :: r, .vid _, v0, c, hb, h, n, g, hc => by simp [getA] at g
where
  nobs_set {ts : List T} {k : Nat} {u : T} (h : nobs ts = true) (hu : nob u = true) : nobs (ts.set k u) = true := by
    rw [nobs_all] at h ⊢
    rw [List.all_eq_true] at h ⊢
    intro x hx
    rcases List.mem_or_eq_of_mem_set hx with z | z
    · exact h x z
    · rw [z]; exact hu
/-- a list of a name's is written -/
theorem Iv.mut {H0 H : Hp} {σ : L2.St} {ρ : En} {ps tmp : List (T × V)} {i : Nat} {p : List Nat} {t : T} {v0 : V} {a : Addr} {us : List T} {o : Ow} (ho : isOw o = true) (I : Iv K mg H0 H σ ρ (ps ++ tmp)) (nb : Nb tmp) (hρ : ρ[i]? = some (some t)) (hσ : σ[i]? = some (some v0)) (n : Nav H v0 p (.ref a)) (g : getA p t = some (.lst o us)) :
    ∃ vs, H a = some (.lst vs) ∧ vs.length = us.length ∧ ∀ us' vs', nobs us' = true → (∀ s c' cp, nobs us = true → Reps K mg H s us vs c' → RepP K mg H s ps cp → ∃ cn, Reps K mg H s us' vs' cn ∧ ∀ b, cn b ≤ c' b + cp b) →
      Iv K mg H0 (upd H a (.lst vs')) σ (ρ.set i (some (FL.setA p t (.lst o us')))) tmp := by
  obtain ⟨ext, c, s, c1, c2, w, hc, hS, hP⟩ := I
  obtain ⟨d1, d2, hd, hP1, hP2⟩ := hP.split
  obtain ⟨v, e1, e2, hv, he, hb, hR, hS'⟩ := hS.get hρ
  rw [hσ] at hv
  cases hv
  have ha1 : c a ≤ 1 := w.one a
  obtain ⟨vs, c', q1, q2, q3, q4, q5, q6, q7⟩ := Rep.setA ho hb hR n g (by have := hc a; have := he a; omega)
  have hca : 1 ≤ c a := by have := hc a; have := he a; omega
  obtain ⟨w1, w2, w3⟩ := w.own a hca
  have hz2 : e2 a = 0 := by have := hc a; have := he a; omega
  have hzd : d1 a = 0 ∧ d2 a = 0 := by have := hc a; have := he a; have := hd a; omega
  refine ⟨vs, q1, Reps.length q5, fun us' vs' nb' hch => ?_⟩
  obtain ⟨cn, hcn, hle⟩ := hch s c' d1 q6 q5 hP1
  obtain ⟨z1, z2⟩ := q7 us' vs' cn d1 nb' hle hcn (by have := hle a; omega) w1
  have hl : ∀ b, H b ≠ none → upd H a (.lst vs') b ≠ none := fun b h => by
    by_cases hb : b = a
    · subst hb
      rw [upd_same]
      exact fun z => by cases z
    · rw [upd_ne hb]
      exact h
  refine ⟨fun b o q => ?_, c, s, fun b => e2 b + (e1 b + d1 b), d2, ⟨w.one, fun b hb' => ⟨(w.own b hb').1, hl b (w.own b hb').2.1, (w.own b hb').2.2⟩, fun b hb' => hl b (w.shd b hb')⟩, fun b => ?_, ?_, RepP.upd q1 w1 nb hzd.2 hP2⟩
  · rw [upd_ne (fun z => by rw [z, w3] at q; cases q)]
    exact ext b o q
  · have := hc b
    have := he b
    have := hd b
    show e2 b + (e1 b + d1 b) + d2 b ≤ c b
    omega
  · have S2 := RepS.upd (o' := .lst vs') q1 w1 hz2 hS'
    have S3 := RepS.retree (i := i) z1 z2 hσ (e := fun b => e2 b + (e1 b + d1 b)) (fun b => Nat.le_refl _) S2
    rwa [List.set_set] at S3
end
/-! ### places as they are written -/
abbrev Pl := Nat × List Nat
def Fp (K : PySem.W.Frag) (mg : Str → Option Value) (W : WX) (t : TE) (p : M Pl) : Prop := ∀ H0 H σ ρ tmp (Q : VK), Iv K mg H0 H σ ρ tmp →
  Ps (p ρ) (fun ip ρ' => ∀ v v0 H', Same H H' → Iv K mg H0 H' σ ρ' tmp → σ[ip.1]? = some (some v0) → Nav H' v0 ip.2 v → Q v H') (Pe K mg W H0 σ) → t σ H Q
structure FP (X : Cx) (W : WX) (e : Expr) (p : M Pl) : Prop where
  ex : ∃ t, PE X e t ∧ Fp X.K X.mg W t p
def atP (ρ : En) (ip : Pl) : Option T := match ρ[ip.1]? with
  | some (some t) => getA ip.2 t
  | _ => none
theorem atP_inv {ρ : En} {ip : Pl} {u : T} (h : atP ρ ip = some u) : ∃ t, ρ[ip.1]? = some (some t) ∧ getA ip.2 t = some u := by
  unfold atP at h
  split at h
  · rename_i t ht
    exact ⟨t, ht, h⟩
  · cases h
section
variable {X : Cx} {W : WX} {e a b o : Expr} {es : List Expr} {f fa fb : M T} {pos apos cpos : Pos} {p : M Pl}
def pVar (i : Nat) : M Pl := fun ρ => match ρ[i]? with
  | some (some _) => ok (i, []) ρ
  | _ => none
def pIx (p : M Pl) (f : M T) : M Pl := fun ρ => ob (p ρ) fun ip ρ => ob (f ρ) fun k ρ => match k, atP ρ ip with
  | .int k, some (.lst .ow ts) => (match ixN ts.length k with
    | some j => if j < ts.length then ok (ip.1, ip.2 ++ [j]) ρ else none
    | none => none)
  | .int k, some (.lst (.pn _) ts) => (match ixN ts.length k with
    | some j => if j < ts.length then ok (ip.1, ip.2 ++ [j]) ρ else none
    | none => none)
  | .int k, some (.tup ts) => if nols ts = true then none else (match ixN ts.length k with
    | some j => if j < ts.length then ok (ip.1, ip.2 ++ [j]) ρ else none
    | none => none)
  | _, _ => none
theorem fp_var (i : Nat) {x : Str} (hN : X.N[i]? = some x := by rfl) (hv : Vis X.env.scope x := by first | exact Or.inl rfl | exact Or.inr (Or.inl rfl) | exact Or.inr (Or.inr rfl)) (hd : (x == ("__debug__" : Str)) = false := by decide)
    (hcd : (x == ("__classdict__" : Str)) = false := by decide) : FP X W (.Name x pos) (pVar i) := by
  refine ⟨tVar i, pe_var hN hv hd hcd, fun H0 H σ ρ tmp Q I h => ?_⟩
  unfold pVar at h
  split at h
  · rename_i t ht
    obtain ⟨v, hv, I2⟩ := I.borrow ht
    exact ⟨v, hv, h v v H (Same.refl H) I hv rfl⟩
  · exact h.elim
theorem Iv.slot {K : PySem.W.Frag} {mg : Str → Option Value} {H0 H : Hp} {σ : L2.St} {ρ : En} {tmp : List (T × V)} {i : Nat} {t : T} {v0 : V} (I : Iv K mg H0 H σ ρ tmp) (hρ : ρ[i]? = some (some t)) (hσ : σ[i]? = some (some v0)) : ∃ s c, nob t = true ∧ Rep K mg H s t v0 c := by
  obtain ⟨ext, c, s, c1, c2, w, hc, hS, hP⟩ := I
  obtain ⟨v, e1, e2, hv, he, hb, hR, hS'⟩ := hS.get hρ
  rw [hσ] at hv
  cases hv
  exact ⟨s, e1, hb, hR⟩
theorem ixN_at {α : Type} {xs : List α} {k : Int} {j : Nat} (h : ixN xs.length k = some j) : atI xs k = xs[j]? := by
  unfold atI
  rw [h]
  rfl
theorem fp_ix (hp : FP X W a p) (hf : FE X W b f) (hs : PlainIx b) : FP X W (.Subscript a b pos) (pIx p f) := by
  obtain ⟨ta, pa, qa⟩ := hp
  obtain ⟨tb, pb, qb⟩ := hf
  refine ⟨_, pe_ix ix_seq pa pb hs, fun H0 H σ ρ tmp Q I h => qa H0 H σ ρ tmp _ I (h.ob.imp fun ip ρ1 h1 v v0 H1 e1 I1 hσ n1 => qb H0 H1 σ ρ1 _ _ I1 (h1.ob.imp fun k ρ2 h2 vk H2 e2 I2 => ?_))⟩
  have n2 := n1.same e2
  split at h2
  · rename_i k ts hat
    split at h2
    · rename_i j hj
      split at h2
      · rename_i hlt
        obtain ⟨t, hρ, hg⟩ := atP_inv hat
        obtain ⟨s, c, _, hR⟩ := I2.slot hρ hσ
        obtain ⟨c', hN⟩ := hR.node n2 hg
        obtain ⟨ad, vs, c2, rfl, k1, _, k2, k3⟩ := hN
        have ek := I2.int
        subst ek
        have hl : vs.length = ts.length := Reps.length k3
        have hv1 : vs[j]? = some vs[j] := List.getElem?_eq_getElem (by omega)
        exact .inl ⟨ad, vs, k, vs[j], rfl, rfl, SqL.of k1, by rw [ixN_at (by rw [hl]; exact hj)]; exact hv1, h2 _ v0 H2 (e1.trans e2) I2.drop1 hσ (n2.snoc ⟨ad, vs, vs[j], rfl, .inr k1, hv1, rfl⟩)⟩
      · exact h2.elim
    · exact h2.elim
  · rename_i k pa ts hat
    split at h2
    · rename_i j hj
      split at h2
      · rename_i hlt
        obtain ⟨t, hρ, hg⟩ := atP_inv hat
        obtain ⟨s, c, _, hR⟩ := I2.slot hρ hσ
        obtain ⟨c', hN⟩ := hR.node n2 hg
        obtain ⟨e0, ad, vs, c2, rfl, k1, _, k2, k3⟩ := hN
        have ek := I2.int
        subst ek
        have hl : vs.length = ts.length := Reps.length k3
        have hv1 : vs[j]? = some vs[j] := List.getElem?_eq_getElem (by omega)
        exact .inl ⟨ad, vs, k, vs[j], rfl, rfl, SqL.of k1, by rw [ixN_at (by rw [hl]; exact hj)]; exact hv1, h2 _ v0 H2 (e1.trans e2) I2.drop1 hσ (n2.snoc ⟨ad, vs, vs[j], rfl, .inr k1, hv1, rfl⟩)⟩
      · exact h2.elim
    · exact h2.elim
  · rename_i k ts hat
    split at h2
    · exact h2.elim
    · rename_i hnol
      split at h2
      · rename_i j hj
        split at h2
        · rename_i hlt
          obtain ⟨t, hρ, hg⟩ := atP_inv hat
          obtain ⟨s, c, _, hR⟩ := I2.slot hρ hσ
          obtain ⟨c', hN⟩ := hR.node n2 hg
          obtain ⟨ad, vs, rfl, k1, k3⟩ := hN
          have k1' : H2 ad = some (.tup vs) := k1.elim (fun z => z) fun z => absurd z.1 hnol
          have ek := I2.int
          subst ek
          have hl : vs.length = ts.length := Reps.length k3
          have hv1 : vs[j]? = some vs[j] := List.getElem?_eq_getElem (by omega)
          exact .inr (.inl ⟨ad, vs, k, vs[j], rfl, rfl, SqT.of k1', by rw [ixN_at (by rw [hl]; exact hj)]; exact hv1, h2 _ v0 H2 (e1.trans e2) I2.drop1 hσ (n2.snoc ⟨ad, vs, vs[j], rfl, .inl k1', hv1, rfl⟩)⟩)
        · exact h2.elim
      · exact h2.elim
  · exact h2.elim
/-- what a place's list becomes -/
def mkA (p : List Nat) (t : T) : Ow := match getA p t with
  | some (.lst (.pn a) _) => .pn a
  | _ => .ow
def putP (ρ : En) (ip : Pl) (us : List T) : En := match ρ[ip.1]? with
  | some (some t) => ρ.set ip.1 (some (setA ip.2 t (.lst (mkA ip.2 t) us)))
  | _ => ρ
def ownP (ρ : En) (ip : Pl) : Option (List T) := match atP ρ ip with
  | some (.lst .ow us) => some us
  | some (.lst (.pn _) us) => some us
  | _ => none
theorem ownP_inv {ρ : En} {ip : Pl} {us : List T} (h : ownP ρ ip = some us) : ∃ t o, isOw o = true ∧ ρ[ip.1]? = some (some t) ∧ getA ip.2 t = some (.lst o us) ∧ ∀ us', putP ρ ip us' = ρ.set ip.1 (some (setA ip.2 t (.lst o us'))) := by
  unfold ownP at h
  split at h
  · rename_i us0 hat
    cases h
    obtain ⟨t, ht, hg⟩ := atP_inv hat
    exact ⟨t, .ow, rfl, ht, hg, fun us' => by unfold putP mkA; rw [ht]; simp only [hg]⟩
  · rename_i a us0 hat
    cases h
    obtain ⟨t, ht, hg⟩ := atP_inv hat
    exact ⟨t, .pn a, rfl, ht, hg, fun us' => by unfold putP mkA; rw [ht]; simp only [hg]⟩
  · cases h
/-! ### x.append(e) -/
def sApp (p : M Pl) (f : M T) : S := fun ρ => sb (p ρ) fun ip ρ => if (ownP ρ ip).isSome = true then (sb (f ρ) fun y ρ => match ownP ρ ip with
  | some us => if nob y = true ∧ us.length < 16777216 then some (.ok (.nx (putP ρ ip (us ++ [y])))) else none
  | none => none) else none
theorem tyl {K : PySem.W.Frag} {H : Hp} {a : Addr} {xs : List V} (h : H a = some (.lst xs)) : tyV K "list" (.ref a) H := .inl ⟨rfl, _, .inl (.inl h)⟩
theorem Iv.nodeAt {K : PySem.W.Frag} {mg : Str → Option Value} {H0 H : Hp} {σ : L2.St} {ρ : En} {tmp : List (T × V)} {ip : Pl} {v v0 : V} {us : List T} (I : Iv K mg H0 H σ ρ tmp) (hσ : σ[ip.1]? = some (some v0)) (n : Nav H v0 ip.2 v) (h : ownP ρ ip = some us) : ∃ a vs, v = .ref a ∧ H a = some (.lst vs) ∧ vs.length = us.length := by
  obtain ⟨t, mk, hmk, ht, hg, _⟩ := ownP_inv h
  obtain ⟨s, c, _, hR⟩ := I.slot ht hσ
  obtain ⟨c', hN⟩ := hR.node n hg
  obtain ⟨ad, vs, c2, rfl, k1, k2, k3⟩ := hN.lst (fun z => by rw [z] at hmk; cases hmk)
  exact ⟨ad, vs, rfl, k1, Reps.length k3⟩
theorem nobs_snoc {us : List T} {y : T} (h : nobs us = true) (hy : nob y = true) : nobs (us ++ [y]) = true := by
  rw [nobs_all] at h ⊢
  simp [h, hy]
theorem Iv.nobs_own {K : PySem.W.Frag} {mg : Str → Option Value} {H0 H : Hp} {σ : L2.St} {ρ : En} {tmp : List (T × V)} {i : Nat} {p : List Nat} {t : T} {us : List T} {mk : Ow} (I : Iv K mg H0 H σ ρ tmp) (ht : ρ[i]? = some (some t)) (hg : getA p t = some (.lst mk us)) : nobs us = true := by
  obtain ⟨v, hv, I2⟩ := I.borrow ht
  obtain ⟨s, c, hb, _⟩ := I.slot ht hv
  exact go hb hg
where
  go : ∀ {p : List Nat} {t : T}, nob t = true → getA p t = some (.lst mk us) → nobs us = true
    | [], t, hb, hg => by
      have : t = .lst mk us := by simpa [getA] using hg
      subst this
      have z : (mk != .bo && nobs us) = true := hb
      simp at z
      exact z.2
    | k :: r, .tup ts, hb, hg => by
      unfold getA at hg
      split at hg
      · cases hg
      · obtain ⟨t1, ht1, g⟩ := Option.bind_eq_some_iff.mp hg
        have hb' : nobs ts = true := hb
        rw [nobs_all] at hb'
        exact go (List.all_eq_true.mp hb' t1 (List.mem_of_getElem? ht1)) g
    | k :: r, .lst o ts, hb, hg => by
      have g' : (ts[k]?).bind (getA r) = some (.lst mk us) := by cases o <;> first | exact hg | cases hg
      obtain ⟨t1, ht1, g⟩ := Option.bind_eq_some_iff.mp g'
      have hb' : nobs ts = true := by
        have : (o != .bo && nobs ts) = true := hb
        simp at this
        exact this.2
      rw [nobs_all] at hb'
      exact go (List.all_eq_true.mp hb' t1 (List.mem_of_getElem? ht1)) g
    | k :: r, .non, hb, hg => by simp [getA] at hg
    | k :: r, .bl _, hb, hg => by simp [getA] at hg
    | k :: r, .int _, hb, hg => by simp [getA] at hg
    | k :: r, .str _, hb, hg => by simp [getA] at hg
    | k :: r, .exc _ _, hb, hg => by simp [getA] at hg
    | k :: r, .emp, hb, hg => by simp [getA] at hg
    | k :: r, .vid _, hb, hg => by simp [getA] at hg
theorem fs_append (hp : FP X W o p) (hf : FE X W e f) (hbase : attributeBase o "append" X.env (eval o X.env) = eval o X.env := by rfl)
    (hfew : ((backTo cpos (starEach [e] X.env)).all (fun x => !x.1) && (backToKw cpos (keywordEach [] X.env)).all (fun x => x.1.isSome) && decide ([e].length + ([] : List Keyword).length + (if ([] : List Keyword).isEmpty then 0 else 1) < 30)) = true := by rfl)
    (hline : (apos.endLine == cpos.line) = true := by rfl) (hs : starEach [e] X.env = (false, eval e X.env) :: starEach [] X.env := by rfl) (hplain : (backTo cpos (starEach [] X.env)).any (·.1) = false := by rfl)
    (hsw : swapsWith (.Call (.Attribute o "append" apos) [e] [] cpos) none pos.line X.env = pure false := by rfl) : FS X W (.Expr (.Call (.Attribute o "append" apos) [e] [] cpos) pos) (sApp p f) := by
  obtain ⟨to, po, qo⟩ := hp
  obtain ⟨te, pe, qe⟩ := hf
  refine ⟨_, ps_expr (pe_bm PySem.F.plainAttrs_list PySem.F.slot_list_append PySem.F.type_list_append mt_append po (pa_cons pe pa_nil hs) hbase hfew hline hs hplain) hsw, fun H0 H σ ρ tmp D nb I h => qo H0 H σ ρ tmp _ I (h.sb.imp fun ip ρ1 h1 v v0 H1 e1 I1 hσ n1 => ?_)⟩
  split at h1
  · rename_i hso
    obtain ⟨us0, hu0⟩ := Option.isSome_iff_exists.mp hso
    obtain ⟨ad0, vs0, rfl, k0, _⟩ := I1.nodeAt hσ n1 hu0
    refine ⟨tyl k0, qe H0 H1 σ ρ1 tmp _ I1 (h1.sb.imp fun y ρ2 h2 vy H2 e2 I2 => ?_)⟩
    split at h2
    · rename_i us hu
      split at h2
      · rename_i hc
        obtain ⟨t, mk, hmk, ht, hg, hput⟩ := ownP_inv hu
        have n2 := n1.same e2
        obtain ⟨vs, q1, q2, q3⟩ := Iv.mut (ps := [(y, vy)]) hmk I2 nb ht hσ n2 hg
        have hn := I2.nobs_own ht hg
        refine ⟨ad0, vs, vy, rfl, rfl, q1, by rw [q2, line16]; exact hc.2, ?_⟩
        have I3 := q3 (us ++ [y]) (vs ++ [vy]) (nobs_snoc hn hc.1) fun s c' cp _ hr hP => by
          obtain ⟨c1, c2, hs, hR, _⟩ := hP
          exact ⟨fun b => c' b + c1 b, Reps.append (fun b => Nat.le_refl _) hr ⟨vy, [], c1, zc, rfl, fun b => by simp, hR, rfl⟩, fun b => by have := hs b; show c' b + c1 b ≤ _; omega⟩
        rw [hput] at h2
        exact h2 σ _ I3
      · exact h2.elim
    · exact h2.elim
  · exact h1.elim
/-! ### x[i] = e -/
def sSet (f : M T) (p : M Pl) (fi : M T) : S := fun ρ => sb (f ρ) fun y ρ => sb (p ρ) fun ip ρ => if (ownP ρ ip).isSome = true then (sb (fi ρ) fun k ρ => match k, ownP ρ ip with
  | .int k, some us => (match ixN us.length k with
    | some j => if nob y = true ∧ j < us.length then some (.ok (.nx (putP ρ ip (us.set j y)))) else none
    | none => none)
  | _, _ => none) else none
theorem nobs_set' {us : List T} {j : Nat} {y : T} (h : nobs us = true) (hy : nob y = true) : nobs (us.set j y) = true := by
  rw [nobs_all] at h ⊢
  rw [List.all_eq_true] at h ⊢
  intro x hx
  rcases List.mem_or_eq_of_mem_set hx with z | z
  · exact h x z
  · rw [z]; exact hy
theorem Reps.set' {K : PySem.W.Frag} {mg : Str → Option Value} {H : Hp} {s : Addr → Prop} : ∀ {ts : List T} {vs : List V} {c d e : Cnt} {j : Nat} {t : T} {v : V}, (∀ b, c b + d b ≤ e b) → Reps K mg H s ts vs c → Rep K mg H s t v d → Reps K mg H s (ts.set j t) (vs.set j v) e
  | [], vs, c, d, e, j, t, v, hc, h, hr => by
    have h' : vs = [] := h
    subst h'
    exact rfl
  | t0 :: ts, vs, c, d, e, 0, t, v, hc, h, hr => by
    obtain ⟨w, r, c1, c2, rfl, h1, h2, h3⟩ := h
    exact ⟨v, r, d, c2, rfl, fun b => by have := h1 b; have := hc b; omega, hr, h3⟩
  | t0 :: ts, vs, c, d, e, j + 1, t, v, hc, h, hr => by
    obtain ⟨w, r, c1, c2, rfl, h1, h2, h3⟩ := h
    exact ⟨w, r.set j v, c1, fun b => c2 b + d b, rfl, fun b => by have := h1 b; have := hc b; show c1 b + (c2 b + d b) ≤ e b; omega, h2, Reps.set' (fun b => Nat.le_refl _) h3 hr⟩
theorem fs_set (hf : FE X W e f) (hp : FP X W o p) (hi : FE X W a fa) (hps : ∀ {te to ti : TE}, PE X e te → PE X o to → PE X a ti → PS X (.Assign [.Subscript o a apos] e pos) (tAsg te (L2.gSub to ti rSetL))) : FS X W (.Assign [.Subscript o a apos] e pos) (sSet f p fa) := by
  obtain ⟨te, pe, qe⟩ := hf
  obtain ⟨to, po, qo⟩ := hp
  obtain ⟨ti, pi, qi⟩ := hi
  refine ⟨_, hps pe po pi, fun H0 H σ ρ tmp D nb I h => qe H0 H σ ρ tmp _ I (h.sb.imp fun y ρ1 h1 vy H1 e1 I1 => qo H0 H1 σ ρ1 _ _ I1 (h1.sb.imp fun ip ρ2 h2 v v0 H2 e2 I2 hσ n1 => ?_))⟩
  split at h2
  · rename_i hso
    obtain ⟨us0, hu0⟩ := Option.isSome_iff_exists.mp hso
    obtain ⟨ad0, vs0, rfl, k0, _⟩ := I2.nodeAt hσ n1 hu0
    refine qi H0 H2 σ ρ2 _ _ I2 (h2.sb.imp fun k ρ3 h3 vk H3 e3 I3 => ?_)
    split at h3
    · rename_i k us hu
      split at h3
      · rename_i j hj
        split at h3
        · rename_i hc
          obtain ⟨t, mk, hmk, ht, hg, hput⟩ := ownP_inv hu
          have n2 := n1.same e3
          have ek := I3.int
          subst ek
          have I4 := I3.drop1
          obtain ⟨vs, q1, q2, q3⟩ := Iv.mut (ps := [(y, vy)]) hmk I4 nb ht hσ n2 hg
          have hn := I4.nobs_own ht hg
          refine ⟨ad0, vs, k, j, rfl, rfl, q1, by rw [q2]; exact hj, ?_⟩
          have I5 := q3 (us.set j y) (vs.set j vy) (nobs_set' hn hc.1) fun s c' cp _ hr hP => by
            obtain ⟨c1, c2, hs, hR, _⟩ := hP
            exact ⟨fun b => c' b + c1 b, Reps.set' (fun b => Nat.le_refl _) hr hR, fun b => by have := hs b; show c' b + c1 b ≤ _; omega⟩
          rw [hput] at h3
          exact h3 σ _ I5
        · exact h3.elim
      · exact h3.elim
    · exact h3.elim
  · exact h2.elim
/-! ### x.pop(), x.clear() as statements -/
def sOp0 (p : M Pl) (op : List T → Option (List T)) : S := fun ρ => sb (p ρ) fun ip ρ => match ownP ρ ip with
  | some us => (match op us with
    | some us' => some (.ok (.nx (putP ρ ip us')))
    | none => none)
  | none => none
def opPop : List T → Option (List T) := fun us => if us.length = 0 then none else some us.dropLast
def opClear : List T → Option (List T) := fun _ => some []
theorem fs_pop (hp : FP X W o p) (hbase : attributeBase o "pop" X.env (eval o X.env) = eval o X.env := by rfl) (hline : (apos.endLine == cpos.line) = true := by rfl)
    (hsw : swapsWith (.Call (.Attribute o "pop" apos) [] [] cpos) none pos.line X.env = pure false := by rfl) : FS X W (.Expr (.Call (.Attribute o "pop" apos) [] [] cpos) pos) (sOp0 p opPop) := by
  obtain ⟨to, po, qo⟩ := hp
  refine ⟨_, ps_expr (pe_bm0 PySem.F.plainAttrs_list PySem.F.slot_list_pop PySem.F.type_list_pop mt_pop po hbase hline) hsw, fun H0 H σ ρ tmp D nb I h => qo H0 H σ ρ tmp _ I (h.sb.imp fun ip ρ1 h1 v v0 H1 e1 I1 hσ n1 => ?_)⟩
  split at h1
  · rename_i us hu
    obtain ⟨ad0, vs0, rfl, k0, _⟩ := I1.nodeAt hσ n1 hu
    split at h1
    · rename_i us' ho
      unfold opPop at ho
      split at ho
      · cases ho
      · rename_i hne
        cases ho
        obtain ⟨t, mk, hmk, ht, hg, hput⟩ := ownP_inv hu
        obtain ⟨vs, q1, q2, q3⟩ := Iv.mut (ps := []) hmk I1 nb ht hσ n1 hg
        have hlt : vs.length - 1 < vs.length := by omega
        have hn := I1.nobs_own ht hg
        refine ⟨tyl k0, ad0, vs, vs[vs.length - 1], rfl, rfl, q1, List.getElem?_eq_getElem hlt, ?_⟩
        have hn' : nobs us.dropLast = true := by
          rw [nobs_all] at hn ⊢
          rw [List.all_eq_true] at hn ⊢
          exact fun x hx => hn x (List.dropLast_subset us hx)
        have I3 := q3 us.dropLast vs.dropLast hn' fun s c' cp _ hr hP => ⟨c', by rw [List.dropLast_eq_take, List.dropLast_eq_take, q2]; exact hr.take _, fun b => Nat.le_add_right _ _⟩
        rw [hput] at h1
        exact h1 σ _ I3
    · exact h1.elim
  · exact h1.elim
theorem fs_clear (hp : FP X W o p) (hbase : attributeBase o "clear" X.env (eval o X.env) = eval o X.env := by rfl) (hline : (apos.endLine == cpos.line) = true := by rfl)
    (hsw : swapsWith (.Call (.Attribute o "clear" apos) [] [] cpos) none pos.line X.env = pure false := by rfl) : FS X W (.Expr (.Call (.Attribute o "clear" apos) [] [] cpos) pos) (sOp0 p opClear) := by
  obtain ⟨to, po, qo⟩ := hp
  refine ⟨_, ps_expr (pe_bm0 PySem.F.plainAttrs_list PySem.F.slot_list_clear PySem.F.type_list_clear mt_clear po hbase hline) hsw, fun H0 H σ ρ tmp D nb I h => qo H0 H σ ρ tmp _ I (h.sb.imp fun ip ρ1 h1 v v0 H1 e1 I1 hσ n1 => ?_)⟩
  split at h1
  · rename_i us hu
    obtain ⟨ad0, vs0, rfl, k0, _⟩ := I1.nodeAt hσ n1 hu
    split at h1
    · rename_i us' ho
      cases ho
      obtain ⟨t, mk, hmk, ht, hg, hput⟩ := ownP_inv hu
      obtain ⟨vs, q1, q2, q3⟩ := Iv.mut (ps := []) hmk I1 nb ht hσ n1 hg
      refine ⟨tyl k0, ad0, vs, rfl, rfl, q1, ?_⟩
      have I3 := q3 [] [] rfl fun s c' cp _ hr hP => ⟨zc, rfl, fun b => Nat.zero_le _⟩
      rw [hput] at h1
      exact h1 σ _ I3
    · exact h1.elim
  · exact h1.elim
end
end FL
namespace FL
open PySem PySem.Spec L2
open PyProof.Rows hiding St
section
variable {K : PySem.W.Frag} {mg : Str → Option Value} {H0 H H' : Hp} {σ : L2.St} {ρ : En} {tmp : List (T × V)}
theorem one_arg' {x : T} {vs : List V} (hl : vs.length = [x].length) (I : Iv K mg H0 H σ ρ ([x].zip vs ++ tmp)) : ∃ v, vs = [v] ∧ Iv K mg H0 H σ ρ ((x, v) :: tmp) := by
  match vs, hl, I with
  | [v], _, I => exact ⟨v, rfl, I⟩
theorem two_args {x y : T} {vs : List V} (hl : vs.length = [x, y].length) (I : Iv K mg H0 H σ ρ ([x, y].zip vs ++ tmp)) : ∃ v w, vs = [v, w] ∧ Iv K mg H0 H σ ρ ((x, v) :: (y, w) :: tmp) := by
  match vs, hl, I with
  | [v, w], _, I => exact ⟨v, w, rfl, I⟩
end
section
variable {K : PySem.W.Frag} {mg : Str → Option Value}
/-! ### len -/
def gLen : List T → Option T
  | [.lst _ xs] => some (.int xs.length)
  | [.tup xs] => some (.int xs.length)
  | [.str z] => if z.length ≤ 16777216 then some (.int z.length) else none
  | _ => none
theorem cb_len {K : PySem.W.Frag} {mg : Str → Option Value} : CbOk K mg (fun xs H Q => ∃ x n, xs = [x] ∧ LenV K x H n ∧ Q (.int n) H) gLen := fun H0 H σ ρ tmp xs z vs Q h hl I k => by
  unfold gLen at h
  split at h
  · cases h
    obtain ⟨v, rfl, I2⟩ := one_arg' hl I
    obtain ⟨s, cx, hx, _⟩ := I2.one'
    obtain ⟨a, ws, c', rfl, g1, _, g3⟩ := hx.lstS
    exact ⟨_, _, rfl, .inl ⟨ws, g1, (Reps.length g3).symm⟩, k _ H (Same.refl H) (I2.drop1.flat (Same.refl H) fun s => rfl)⟩
  · cases h
    obtain ⟨v, rfl, I2⟩ := one_arg' hl I
    obtain ⟨s, cx, hx, _⟩ := I2.one'
    obtain ⟨a, ws, rfl, g1, _, g3⟩ := hx.tupS
    exact ⟨_, _, rfl, .inr ⟨ws, g1, (Reps.length g3).symm⟩, k _ H (Same.refl H) (I2.drop1.flat (Same.refl H) fun s => rfl)⟩
  · split at h
    · rename_i hz
      cases h
      obtain ⟨v, rfl, I2⟩ := one_arg' hl I
      have e := I2.str
      subst e
      exact ⟨_, _, rfl, ⟨hz, rfl⟩, k _ H (Same.refl H) (I2.drop1.flat (Same.refl H) fun s => rfl)⟩
    · cases h
  · cases h
/-! ### abs, max, min, int, str -/
def gAbs : List T → Option T
  | [.int i] => some (.int (if i < 0 then -i else i))
  | _ => none
theorem cb_abs : CbOk K mg (fun xs H Q => ∃ i, xs = [.int i] ∧ Q (.int (if i < 0 then -i else i)) H) gAbs := fun H0 H σ ρ tmp xs z vs Q h hl I k => by
  unfold gAbs at h
  split at h
  · cases h
    obtain ⟨rfl, I2⟩ := Iv.ints1 hl I
    exact ⟨_, rfl, k _ H (Same.refl H) (I2.flat (Same.refl H) fun s => rfl)⟩
  · cases h
def gMax : List T → Option T
  | [.int i, .int j] => some (.int (if j > i then j else i))
  | _ => none
theorem cb_max : CbOk K mg (fun xs H Q => ∃ i j, xs = [.int i, .int j] ∧ Q (.int (if j > i then j else i)) H) gMax := fun H0 H σ ρ tmp xs z vs Q h hl I k => by
  unfold gMax at h
  split at h
  · cases h
    obtain ⟨rfl, I2⟩ := Iv.ints2 hl I
    exact ⟨_, _, rfl, k _ H (Same.refl H) (I2.flat (Same.refl H) fun s => rfl)⟩
  · cases h
def gMin : List T → Option T
  | [.int i, .int j] => some (.int (if j < i then j else i))
  | _ => none
theorem cb_min : CbOk K mg (fun xs H Q => ∃ i j, xs = [.int i, .int j] ∧ Q (.int (if j < i then j else i)) H) gMin := fun H0 H σ ρ tmp xs z vs Q h hl I k => by
  unfold gMin at h
  split at h
  · cases h
    obtain ⟨rfl, I2⟩ := Iv.ints2 hl I
    exact ⟨_, _, rfl, k _ H (Same.refl H) (I2.flat (Same.refl H) fun s => rfl)⟩
  · cases h
def rIntU : List V → Hp → VK → Prop := fun xs H Q => ((∃ i, xs = [.int i] ∧ Q (.int i) H) ∨ ∃ k, xs = [.bl k] ∧ Q (.int (if k then 1 else 0)) H) ∨ ∃ a n, xs = [.str a] ∧ PySem.intText? a = some n ∧ a.length ≤ 640 ∧ Q (.int n) H
theorem call_intU {X : Cx} : CallR X (.type "int") rIntU := CallR.or call_int1 call_int_str
def gInt : List T → Option T
  | [.int i] => some (.int i)
  | [.bl k] => some (.int (if k then 1 else 0))
  | [.str a] => if a.length ≤ 640 then (PySem.intText? a).map .int else none
  | _ => none
theorem cb_int : CbOk K mg rIntU gInt := fun H0 H σ ρ tmp xs z vs Q h hl I k => by
  unfold gInt at h
  split at h
  · cases h
    obtain ⟨rfl, I2⟩ := Iv.ints1 hl I
    exact .inl (.inl ⟨_, rfl, k _ H (Same.refl H) (I2.flat (Same.refl H) fun s => rfl)⟩)
  · cases h
    obtain ⟨v, rfl, I2⟩ := one_arg' hl I
    have e := I2.bl
    subst e
    exact .inl (.inr ⟨_, rfl, k _ H (Same.refl H) (I2.drop1.flat (Same.refl H) fun s => rfl)⟩)
  · split at h
    · rename_i hz
      obtain ⟨n, hn, rfl⟩ := Option.map_eq_some_iff.mp h
      obtain ⟨v, rfl, I2⟩ := one_arg' hl I
      have e := I2.str
      subst e
      exact .inr ⟨_, n, rfl, hn, hz, k _ H (Same.refl H) (I2.drop1.flat (Same.refl H) fun s => rfl)⟩
    · cases h
  · cases h
def gStr : List T → Option T
  | [.int i] => if i.natAbs.log2 < 1920 then some (.str (toString i)) else none
  | _ => none
theorem cb_str : CbOk K mg (fun xs H Q => ∃ i, xs = [.int i] ∧ i.natAbs.log2 < 1920 ∧ Q (.str (toString i)) H) gStr := fun H0 H σ ρ tmp xs z vs Q h hl I k => by
  unfold gStr at h
  split at h
  · split at h
    · rename_i hz
      cases h
      obtain ⟨rfl, I2⟩ := Iv.ints1 hl I
      exact ⟨_, rfl, hz, k _ H (Same.refl H) (I2.flat (Same.refl H) fun s => rfl)⟩
    · cases h
  · cases h
/-! ### tuple(x), list(x) -/
def gTuple : List T → Option T
  | [.lst _ xs] => some (.tup xs)
  | [.tup xs] => some (.tup xs)
  | _ => none
theorem cb_tuple : CbOk K mg (fun xs H Q => ∃ p ys, xs = [.ref p] ∧ ((SqL K H p ys ∧ ∀ l, H l = none → Q (.ref l) (upd H l (.tup ys))) ∨ (SqT K H p ys ∧ Q (.ref p) H))) gTuple := fun H0 H σ ρ tmp xs z vs Q h hl I k => by
  unfold gTuple at h
  split at h
  · cases h
    obtain ⟨v, rfl, I2⟩ := one_arg' hl I
    obtain ⟨s, cx, hx, kk⟩ := I2.one'
    obtain ⟨a, ws, c', rfl, g1, g2, g3⟩ := hx.lstS
    refine ⟨a, ws, rfl, .inl ⟨g1, fun p hp => ?_⟩⟩
    have e3 := same_new (o := .tup ws) hp
    exact k _ _ e3 (kk _ _ _ e3 ⟨c', ⟨p, ws, rfl, .inl upd_same, Reps.mono (fun _ h => h) e3 _ _ _ _ (fun _ => Nat.le_refl _) g3⟩, fun b => by have := g2 b; omega⟩)
  · cases h
    obtain ⟨v, rfl, I2⟩ := one_arg' hl I
    obtain ⟨s, cx, hx, kk⟩ := I2.one'
    obtain ⟨a, ws, rfl, g1, _, g3⟩ := hx.tupS
    exact ⟨a, ws, rfl, .inr ⟨g1, k _ H (Same.refl H) I2⟩⟩
  · cases h
def gList : List T → Option T
  | [.lst _ xs] => some (.lst .ow xs)
  | [.tup xs] => some (.lst .ow xs)
  | _ => none
theorem cb_list : CbOk K mg (fun xs H Q => ∃ p ys, xs = [.ref p] ∧ (SqL K H p ys ∨ SqT K H p ys) ∧ ∀ l, H l = none → Q (.ref l) (upd H l (.lst ys))) gList := fun H0 H σ ρ tmp xs z vs Q h hl I k => by
  have fin : ∀ {s : Addr → Prop} {cx c' : Cnt} {us : List T} {ws : List V} (kk : ∀ z v H', Same H H' → (∃ cz, Rep K mg H' s z v cz ∧ ∀ b, cz b ≤ cx b + fresh H H' b) → Iv K mg H0 H' σ ρ ((z, v) :: tmp)) (g2 : ∀ b, c' b ≤ cx b) (g3 : Reps K mg H s us ws c') (p : Addr) (hp : H p = none),
      Same H (upd H p (.lst ws)) ∧ Iv K mg H0 (upd H p (.lst ws)) σ ρ ((.lst .ow us, .ref p) :: tmp) := fun {s cx c' us ws} kk g2 g3 p hp => by
    have e3 := same_new (o := .lst ws) hp
    refine ⟨e3, kk _ _ _ e3 ⟨fun b => c' b + fresh H (upd H p (.lst ws)) b, ⟨p, ws, c', rfl, upd_same, ?_, fun b => Nat.le_add_right _ _, Reps.mono (fun _ h => h) e3 _ _ _ _ (fun _ => Nat.le_refl _) g3⟩, fun b => ?_⟩⟩
    · show c' p + 1 ≤ c' p + fresh H (upd H p (.lst ws)) p
      rw [fresh_new hp]
      exact Nat.le_refl _
    · have := g2 b
      show c' b + fresh H (upd H p (.lst ws)) b ≤ _
      omega
  unfold gList at h
  split at h
  · cases h
    obtain ⟨v, rfl, I2⟩ := one_arg' hl I
    obtain ⟨s, cx, hx, kk⟩ := I2.one'
    obtain ⟨a, ws, c', rfl, g1, g2, g3⟩ := hx.lstS
    refine ⟨a, ws, rfl, .inl g1, fun p hp => ?_⟩
    obtain ⟨e3, I3⟩ := fin kk g2 g3 p hp
    exact k _ _ e3 I3
  · cases h
    obtain ⟨v, rfl, I2⟩ := one_arg' hl I
    obtain ⟨s, cx, hx, kk⟩ := I2.one'
    obtain ⟨a, ws, rfl, g1, _, g3⟩ := hx.tupS
    refine ⟨a, ws, rfl, .inr g1, fun p hp => ?_⟩
    obtain ⟨e3, I3⟩ := fin kk (fun b => Nat.le_refl _) g3 p hp
    exact k _ _ e3 I3
  · cases h
/-! ### all(x), sum(x) -/
def bools : List T → Option (List Bool)
  | [] => some []
  | .bl b :: r => (bools r).map (b :: ·)
  | _ :: _ => none
theorem bools_ok {H : Hp} {s : Addr → Prop} : ∀ {ts : List T} {bs : List Bool} {vs : List V} {c : Cnt}, bools ts = some bs → Reps K mg H s ts vs c → vs = bs.map V.bl
  | [], bs, vs, c, h, r => by
    cases h
    exact r
  | .bl b :: ts, bs, vs, c, h, r => by
    obtain ⟨bs', hb, rfl⟩ := Option.map_eq_some_iff.mp (show (bools ts).map (b :: ·) = some bs from h)
    obtain ⟨v, r', c1, c2, rfl, _, h2, h3⟩ := r
    have e : v = .bl b := h2
    rw [e, bools_ok hb h3]
    rfl
def gAll : List T → Option T
  | [.lst _ xs] => (bools xs).map fun bs => .bl (bs.all id)
  | _ => none
theorem cb_all : CbOk K mg (rAll K) gAll := fun H0 H σ ρ tmp xs z vs Q h hl I k => by
  unfold gAll at h
  split at h
  · obtain ⟨bs, hb, rfl⟩ := Option.map_eq_some_iff.mp h
    obtain ⟨v, rfl, I2⟩ := one_arg' hl I
    obtain ⟨s, cx, hx, kk⟩ := I2.one'
    obtain ⟨a, ws, c', rfl, g1, g2, g3⟩ := hx.lstS
    have e := bools_ok hb g3
    subst e
    exact ⟨a, bs, rfl, g1, k _ H (Same.refl H) (I2.drop1.flat (Same.refl H) fun s => rfl)⟩
  · cases h
def intsT : List T → Option (List Int)
  | [] => some []
  | .int b :: r => (intsT r).map (b :: ·)
  | _ :: _ => none
theorem ints_ok {H : Hp} {s : Addr → Prop} : ∀ {ts : List T} {bs : List Int} {vs : List V} {c : Cnt}, intsT ts = some bs → Reps K mg H s ts vs c → vs = bs.map V.int
  | [], bs, vs, c, h, r => by
    cases h
    exact r
  | .int b :: ts, bs, vs, c, h, r => by
    obtain ⟨bs', hb, rfl⟩ := Option.map_eq_some_iff.mp (show (intsT ts).map (b :: ·) = some bs from h)
    obtain ⟨v, r', c1, c2, rfl, _, h2, h3⟩ := r
    have e : v = .int b := h2
    rw [e, ints_ok hb h3]
    rfl
def gSum : List T → Option T
  | [.lst _ xs] => (intsT xs).map fun bs => .int bs.sum
  | _ => none
theorem cb_sum : CbOk K mg (rSum K) gSum := fun H0 H σ ρ tmp xs z vs Q h hl I k => by
  unfold gSum at h
  split at h
  · obtain ⟨bs, hb, rfl⟩ := Option.map_eq_some_iff.mp h
    obtain ⟨v, rfl, I2⟩ := one_arg' hl I
    obtain ⟨s, cx, hx, kk⟩ := I2.one'
    obtain ⟨a, ws, c', rfl, g1, g2, g3⟩ := hx.lstS
    have e := ints_ok hb g3
    subst e
    exact ⟨a, bs, rfl, g1, k _ H (Same.refl H) (I2.drop1.flat (Same.refl H) fun s => rfl)⟩
  · cases h
/-! ### isinstance -/
def tyN : T → String
  | .non => "NoneType"
  | .bl _ => "bool"
  | .int _ => "int"
  | .str _ => "str"
  | .tup _ => "tuple"
  | .lst _ _ => "list"
  | .exc _ _ => ""
  | .emp => "dict"
  | .vid _ => ""
/-- an exception -/
def isE : T → Bool
  | .exc _ _ => true
  | .vid _ => true
  | _ => false
def isTy (n : String) (t : T) : Bool := (kitB (tyN t) n).getD false
def tyNs : List String := ["NoneType", "bool", "int", "str", "tuple", "list", "dict"]
def kitAll (n : String) : Bool := tyNs.all fun m => (kitB m n).isSome
theorem tyN_mem (t : T) (he : isE t = false) : tyN t ∈ tyNs := by cases t <;> first | (simp [tyN, tyNs]; done) | cases he
theorem kit_some {n : String} (h : kitAll n = true) (t : T) (he : isE t = false) : kitB (tyN t) n = some (isTy n t) := by
  unfold kitAll at h
  have := List.all_eq_true.mp h (tyN t) (tyN_mem t he)
  obtain ⟨b, hb⟩ := Option.isSome_iff_exists.mp this
  unfold isTy
  rw [hb]
  rfl
theorem Rep.ty {H : Hp} {s : Addr → Prop} {t : T} {v : V} {c : Cnt} (h : Rep K mg H s t v c) (he : isE t = false) : TyX K H v (.type (tyN t)) := by
  match t, h with
  | .exc _ _, _ => cases he
  | .vid _, _ => cases he
  | .emp, h => obtain ⟨a, o, rfl, h1⟩ := h; exact .fDict h1
  | .non, h => have e : v = .non := h; subst e; exact .base .non
  | .bl b, h => have e : v = .bl b := h; subst e; exact .base (.bl b)
  | .int b, h => have e : v = .int b := h; subst e; exact .base (.int b)
  | .str b, h => have e : v = .str b := h; subst e; exact .base (.str b)
  | .tup ts, h =>
    obtain ⟨a, vs, rfl, h1, _, _⟩ := h.tupS
    rcases h1 with (z | ⟨o, z⟩) | ⟨o, its, n, z, z2, _⟩
    · exact .base (.tup z)
    · exact .fTuple z
    · exact .kTuple z z2
  | .lst o ts, h =>
    obtain ⟨a, vs, c', rfl, h1, _, _⟩ := h.lstS
    rcases h1 with (z | ⟨o, z⟩) | ⟨o, its, n, z, z2, _⟩
    · exact .base (.lst z)
    · exact .base (.frz z)
    · exact .kList z z2
end
section
variable {X : Cx} {W : WX} {e a b c : Expr} {es : List Expr} {f fa fb fc : M T} {pos : Pos}
def eIsT (n : String) (f : M T) : M T := fun ρ => ob (f ρ) fun x ρ => if isE x = true then none else ok (.bl (isTy n x)) ρ
/-- isinstance(x, int), of a built-in class -/
theorem fe_isT {n : String} {x : Str} {p p2 : Pos} (hn : kitAll n = true) (hg : Gl X "isinstance") (hm : X.mg "isinstance" = none) (hv : bootBuiltins "isinstance" = some (.builtin "isinstance")) (hg2 : Gl X x) (hm2 : X.mg x = none) (hv2 : bootBuiltins x = some (.type n)) (hx : x ≠ "__name__") (hdb : (x == ("__debug__" : Str)) = false) (ha : FE X W a f)
    (he : starEach [a, .Name x p2] X.env = (false, eval a X.env) :: starEach [.Name x p2] X.env := by rfl) (hpl : (backTo pos (starEach [.Name x p2] X.env)).any (·.1) = false := by rfl) (he2 : starEach [.Name x p2] X.env = (false, eval (.Name x p2) X.env) :: starEach [] X.env := by rfl) :
    FE X W (.Call (.Name "isinstance" p) [a, .Name x p2] [] pos) (eIsT n f) := by
  obtain ⟨te, pe, qe⟩ := ha
  refine ⟨_, pe_callB call_isi hg hm hv (pa_cons pe (pa_cons (pe_bltn (v := .ty n) hg2 hm2 hv2 rfl hx hdb) pa_nil he2) he) (by decide) (by decide) he hpl, fun H0 H σ ρ tmp Q I h => qe H0 H σ ρ tmp _ I (h.ob.imp fun u ρ1 h1 v H1 e1 I1 => ?_)⟩
  split at h1
  · exact h1.elim
  rename_i hne
  have hne : isE u = false := by simpa using hne
  obtain ⟨s, cx, hx, _⟩ := I1.one'
  exact ⟨v, .ty n, .type (tyN u), .type n, isTy n u, rfl, .ty n, Rep.ty hx hne, kit_ty (kit_some hn u hne), h1 _ H1 e1 (I1.drop1.flat (Same.refl H1) fun s => rfl)⟩
/-! ### list(range(..)) -/
def eLrg (f : M T) : M T := fun ρ => ob (f ρ) fun x ρ => match x with
  | .int n => if 0 ≤ n ∧ n.toNat ≤ 16777216 then ok (.lst .ow (rngT 0 1 n.toNat)) ρ else none
  | _ => none
theorem rng_reps {K : PySem.W.Frag} {mg : Str → Option Value} {H : Hp} {s : Addr → Prop} {lo : Int} : ∀ (l : List Nat), Reps K mg H s (l.map fun i : Nat => .int (lo + (i : Int) * 1)) (l.map fun i : Nat => V.int (lo + (i : Int))) zc
  | [] => rfl
  | i :: l => ⟨.int (lo + (i : Int)), _, zc, zc, rfl, fun _ => Nat.le_refl _, by show V.int (lo + (i : Int)) = V.int (lo + (i : Int) * 1); rw [Int.mul_one], rng_reps l⟩
theorem fe_lrg {p p1 pos1 : Pos} (hc : X.calm = true) (hg : Gl X "list") (hm : X.mg "list" = none) (hg1 : Gl X "range") (hm1 : X.mg "range" = none) (ha : FE X W a f) (na1 : starEach [a] X.env = (false, eval a X.env) :: starEach [] X.env := by rfl)
    (na : starEach [.Call (.Name "range" p1) [a] [] pos1] X.env = (false, eval (.Call (.Name "range" p1) [a] [] pos1) X.env) :: starEach [] X.env := by rfl) :
    FE X W (.Call (.Name "list" p) [.Call (.Name "range" p1) [a] [] pos1] [] pos) (eLrg f) := by
  obtain ⟨te, pe, qe⟩ := ha
  refine ⟨_, pe_listRg hc hg hm (prg_1 hg1 hm1 pe na1) na, fun H0 H σ ρ tmp Q I h => qe H0 H σ ρ tmp _ I (h.ob.imp fun u ρ1 h1 v H1 e1 I1 => ?_)⟩
  match u, h1, I1 with
  | .int n, h1, I1 =>
    simp only at h1
    split at h1
    · rename_i hb
      have e := I1.int
      subst e
      refine ⟨n, rfl, RgOk.of_le (by omega) (by omega) (by omega) hb.1, fun q hq => ?_⟩
      have e3 := same_new (o := .lst (rgV 0 n)) hq
      refine h1 _ _ (e1.trans e3) ?_
      obtain ⟨s, c, _, _, _, _, k⟩ := Iv.take (ps := []) I1.drop1
      refine k _ [(.lst .ow (rngT 0 1 n.toNat), .ref q)] e3 ⟨fresh H1 (upd H1 q (.lst (rgV 0 n))), ⟨fresh H1 (upd H1 q (.lst (rgV 0 n))), zc, fun b => by simp, ⟨q, rgV 0 n, zc, rfl, upd_same, ?_, fun b => Nat.zero_le _, ?_⟩, True.intro⟩, fun b => by omega⟩
      · rw [fresh_new hq]
        exact Nat.le_refl _
      · unfold rngT rgV
        rw [show (n - 0).toNat = n.toNat by simp]
        exact rng_reps _
    · exact h1.elim
/-! ### methods that leave all as it is -/
def MbOk (K : PySem.W.Frag) (mg : Str → Option Value) (T' : String) (r : V → List V → Hp → VK → Prop) (g : T → List T → Option T) : Prop := ∀ H0 H σ ρ tmp x xs z vx vs (Q : VK), g x xs = some z → vs.length = xs.length → Iv K mg H0 H σ ρ (xs.zip vs ++ ((x, vx) :: tmp)) →
  (∀ v H', Same H H' → Iv K mg H0 H' σ ρ ((z, v) :: tmp) → Q v H') → r vx vs H Q
def TyOk (K : PySem.W.Frag) (mg : Str → Option Value) (T' : String) (ok : T → Bool) : Prop := ∀ H s x vx c, ok x = true → Rep K mg H s x vx c → tyV K T' vx H
def eMb (okr : T → Bool) (g : T → List T → Option T) (f : M T) (fs : M (List T)) : M T := fun ρ => ob (f ρ) fun x ρ => if okr x = true then (ob (fs ρ) fun xs ρ => ol (g x xs) ρ) else none
theorem fe_bm {T' id : String} {name : Str} {apos cpos : Pos} {r : V → List V → Hp → VK → Prop} {g : T → List T → Option T} {okr : T → Bool} {fs : M (List T)} (pa : PlainAttrs T') (slot : Slot T' name id) (hty : typeOf (.builtin id) = pure (.type "method_descriptor")) (hm : MtR X id r) (hr : MbOk X.K X.mg T' r g) (ht : TyOk X.K X.mg T' okr)
    (ho : FE X W a f) (ha : FA X W (e :: es) fs) (hbase : attributeBase a name X.env (eval a X.env) = eval a X.env := by rfl)
    (hfew : ((backTo cpos (starEach (e :: es) X.env)).all (fun x => !x.1) && (backToKw cpos (keywordEach [] X.env)).all (fun x => x.1.isSome) && decide ((e :: es).length + ([] : List Keyword).length + (if ([] : List Keyword).isEmpty then 0 else 1) < 30)) = true := by rfl)
    (hline : (apos.endLine == cpos.line) = true := by rfl) (hs : starEach (e :: es) X.env = (false, eval e X.env) :: starEach es X.env := by rfl) (hplain : (backTo cpos (starEach es X.env)).any (·.1) = false := by rfl) :
    FE X W (.Call (.Attribute a name apos) (e :: es) [] cpos) (eMb okr g f fs) := by
  obtain ⟨to, po, qo⟩ := ho
  obtain ⟨ta, pa', qa⟩ := ha
  refine ⟨_, pe_bm pa slot hty hm po pa' hbase hfew hline hs hplain, fun H0 H σ ρ tmp Q I h => qo H0 H σ ρ tmp _ I (h.ob.imp fun x ρ1 h1 vx H1 e1 I1 => ?_)⟩
  split at h1
  · rename_i hok
    obtain ⟨s, cx, hx, _⟩ := I1.one'
    refine ⟨ht H1 s x vx cx hok hx, qa H0 H1 σ ρ1 _ _ I1 (h1.ob.imp fun xs ρ2 h2 vs H2 e2 hl I2 => ?_)⟩
    obtain ⟨z, hz, h3⟩ := h2.ol
    exact hr H0 H2 σ ρ2 tmp x xs z vx vs Q hz hl I2 fun v H3 e3 I3 => h3 v H3 (e1.trans (e2.trans e3)) I3
  · exact h1.elim
def isL : T → Bool
  | .lst _ _ => true
  | _ => false
def isS : T → Bool
  | .str _ => true
  | _ => false
theorem ty_list {K : PySem.W.Frag} {mg : Str → Option Value} : TyOk K mg "list" isL := fun H s x vx c h r => by
  match x, h, r with
  | .lst o ts, _, r =>
    obtain ⟨a, vs, c', rfl, h1, _, _⟩ := r.lstS
    exact .inl ⟨rfl, vs, h1⟩
theorem ty_str {K : PySem.W.Frag} {mg : Str → Option Value} : TyOk K mg "str" isS := fun H s x vx c h r => by
  match x, h, r with
  | .str z, _, r =>
    have e : vx = .str z := r
    subst e
    rfl
/-- xs.index(y) -/
def findT (y : T) : List T → Nat → Option Nat
  | [], _ => none
  | t :: ts, n => if teq t y = true then some n else findT y ts (n + 1)
def gIndex : T → List T → Option T
  | .lst _ xs, [y] => if flatT y = true ∧ xs.all flatT = true then (findT y xs 0).map (fun n : Nat => T.int ((n : Nat) : Int)) else none
  | _, _ => none
theorem findT_at {y : T} : ∀ {xs : List T} {n j : Nat}, findT y xs n = some j → n ≤ j ∧ ∃ t, xs[j - n]? = some t ∧ teq t y = true ∧ ∀ m z, m < j - n → xs[m]? = some z → teq z y = false
  | [], n, j, h => by simp [findT] at h
  | t :: ts, n, j, h => by
    unfold findT at h
    split at h
    · rename_i ht
      cases h
      exact ⟨Nat.le_refl _, t, by simp, ht, fun m z hm => by omega⟩
    · rename_i ht
      obtain ⟨h1, t', h2, h3, h4⟩ := findT_at h
      refine ⟨by omega, t', ?_, h3, fun m z hm hz => ?_⟩
      · rw [show j - n = (j - (n + 1)) + 1 by omega, List.getElem?_cons_succ]
        exact h2
      · cases m with
        | zero =>
          simp at hz
          subst hz
          simpa using ht
        | succ m => exact h4 m z (by omega) (by simpa using hz)
theorem mb_index {K : PySem.W.Frag} {mg : Str → Option Value} : MbOk K mg "list" (rIndex K) gIndex := fun H0 H σ ρ tmp x xs z vx vs Q h hl I k => by
  unfold gIndex at h
  split at h
  · split at h
    · rename_i o ys y hc
      obtain ⟨n, hn, rfl⟩ := Option.map_eq_some_iff.mp h
      obtain ⟨vy, rfl, I2⟩ := one_arg' hl I
      obtain ⟨s, cx, cy, hx, hy, _⟩ := I2.two
      obtain ⟨a, ws, c', rfl, g1, g2, g3⟩ := hx.lstS
      obtain ⟨_, t, ht, hte, hno⟩ := findT_at hn
      obtain ⟨v, hv, hr⟩ := Reps.get g3 ht
      have hfl := Reps.flats hc.2 g3
      have all := List.all_eq_true.mp hc.2
      refine ⟨a, ws, vy, n, v, rfl, rfl, g1, hy.flatV hc.1, hfl, by simpa using hv, ?_, fun m z' hm hz' => ?_, k _ H (Same.refl H) (I2.two_flat fun s => rfl)⟩
      · rw [hr.eqV hy (all t (List.mem_of_getElem? ht)) hc.1, hte]
      · have hlt : m < ys.length := by
          have := (List.getElem?_eq_some_iff.mp hz').1
          rwa [Reps.length g3] at this
        obtain ⟨v2, hv2, hr2⟩ := Reps.get g3 (List.getElem?_eq_getElem hlt)
        rw [hz'] at hv2
        cases hv2
        rw [hr2.eqV hy (all _ (List.getElem_mem hlt)) hc.1]
        exact hno m _ (by omega) (List.getElem?_eq_getElem hlt)
    · cases h
  · cases h
/-- sep.join(xs), text.split(sep) -/
def strsT : List T → Option (List Str)
  | [] => some []
  | .str b :: r => (strsT r).map (b :: ·)
  | _ :: _ => none
theorem strs_ok {K : PySem.W.Frag} {mg : Str → Option Value} {H : Hp} {s : Addr → Prop} : ∀ {ts : List T} {bs : List Str} {vs : List V} {c : Cnt}, strsT ts = some bs → Reps K mg H s ts vs c → vs = bs.map V.str
  | [], bs, vs, c, h, r => by
    cases h
    exact r
  | .str b :: ts, bs, vs, c, h, r => by
    obtain ⟨bs', hb, rfl⟩ := Option.map_eq_some_iff.mp (show (strsT ts).map (b :: ·) = some bs from h)
    obtain ⟨v, r', c1, c2, rfl, _, h2, h3⟩ := r
    have e : v = .str b := h2
    rw [e, strs_ok hb h3]
    rfl
theorem reps_strs {K : PySem.W.Frag} {mg : Str → Option Value} {H : Hp} {s : Addr → Prop} : ∀ (l : List Str), Reps K mg H s (l.map T.str) (l.map V.str) zc
  | [] => rfl
  | i :: l => ⟨.str i, _, zc, zc, rfl, fun _ => Nat.le_refl _, rfl, reps_strs l⟩
def gJoin : T → List T → Option T
  | .str a, [.lst _ xs] => (match strsT xs with
    | some ys => if (ys.map (·.length)).sum + ys.length * a.length ≤ 16777216 then some (.str (Txt.join a ys)) else none
    | none => none)
  | _, _ => none
abbrev rJoin (K : PySem.W.Frag) : V → List V → Hp → VK → Prop := fun x xs H Q => ∃ a p, ∃ ys : List Str, x = .str a ∧ xs = [.ref p] ∧ (SqL K H p (ys.map V.str) ∨ SqT K H p (ys.map V.str)) ∧ (ys.map (·.length)).sum + ys.length * a.length ≤ 16777216 ∧ Q (.str (Txt.join a ys)) H
theorem mb_join {K : PySem.W.Frag} {mg : Str → Option Value} : MbOk K mg "str" (rJoin K) gJoin := fun H0 H σ ρ tmp x xs z vx vs Q h hl I k => by
  unfold gJoin at h
  split at h
  · split at h
    · split at h
      · rename_i a o ts _ ys hys hz
        cases h
        obtain ⟨vy, rfl, I2⟩ := one_arg' hl I
        obtain ⟨s, cx, cy, hx, hy, _⟩ := I2.two
        obtain ⟨p, ws, c', rfl, g1, g2, g3⟩ := hy.lstS
        have e := strs_ok hys g3
        subst e
        have ex : vx = .str a := hx
        subst ex
        exact ⟨a, p, ys, rfl, rfl, .inl g1, hz, k _ H (Same.refl H) (I2.two_flat fun s => rfl)⟩
      · cases h
    · cases h
  · cases h
def gSplit : T → List T → Option T
  | .str a, [.str b] => if (b.length == 0) = false ∧ a.length + 2 ≤ 16777216 then some (.lst .ow ((Txt.split a b).map T.str)) else none
  | _, _ => none
abbrev rSplit : V → List V → Hp → VK → Prop := fun x xs H Q => ∃ a b, x = .str a ∧ xs = [.str b] ∧ (b.length == 0) = false ∧ a.length + 2 ≤ sizeLine ∧ rNewStrs (Txt.split a b) H Q
theorem mb_split {K : PySem.W.Frag} {mg : Str → Option Value} : MbOk K mg "str" rSplit gSplit := fun H0 H σ ρ tmp x xs z vx vs Q h hl I k => by
  unfold gSplit at h
  split at h
  · split at h
    · rename_i a b hc
      cases h
      obtain ⟨vy, rfl, I2⟩ := one_arg' hl I
      have ey := I2.str
      have ex := I2.drop1.str
      subst ey
      subst ex
      refine ⟨a, b, rfl, rfl, hc.1, hc.2, fun p hp => ?_⟩
      have e3 := same_new (o := .lst ((Txt.split a b).map V.str)) hp
      obtain ⟨s, c, _, _, _, _, kk⟩ := Iv.take (ps := []) I2.drop1.drop1
      refine k _ _ e3 (kk _ [(.lst .ow ((Txt.split a b).map T.str), .ref p)] e3 ⟨fresh H (upd H p (.lst ((Txt.split a b).map V.str))), ⟨fresh H (upd H p (.lst ((Txt.split a b).map V.str))), zc, fun b => by simp, ⟨p, _, zc, rfl, upd_same, ?_, fun b => Nat.zero_le _, reps_strs _⟩, True.intro⟩, fun b => by omega⟩)
      rw [fresh_new hp]
      exact Nat.le_refl _
    · cases h
  · cases h
/-! ### -i, of an int -/
def rNegU : V → Hp → VK → Prop := fun x H Q => ∃ i, x = .int i ∧ Q (.int (-i)) H
theorem fe_un {op : UnaryOp} {r : V → Hp → VK → Prop} {g : T → Option T} (ho : UnR X (unaryOp op) r) (hr : UnOk X.K X.mg r g) (ha : FE X W a f) : FE X W (.UnaryOp op a pos) (eUn g f) := by
  obtain ⟨ta, pa, qa⟩ := ha
  refine ⟨_, pe_un ho pa, fun H0 H σ ρ tmp Q I h => qa H0 H σ ρ tmp _ I (h.ob.imp fun x ρ1 h1 vx H1 e1 I1 => ?_)⟩
  obtain ⟨z, hz, h2⟩ := h1.ol
  exact hr H0 H1 σ ρ1 tmp x z vx Q hz I1 fun v H2 e2 I2 => h2 v H2 (e1.trans e2) I2
theorem ok_neg {K : PySem.W.Frag} {mg : Str → Option Value} : UnOk K mg (rU fun i => .int (-i)) gNeg := fun H0 H σ ρ tmp x z vx Q h I k => by
  unfold gNeg at h
  split at h
  · cases h
    have e := I.int
    subst e
    exact ⟨_, rfl, k _ H (Same.refl H) (I.drop1.flat (Same.refl H) fun s => rfl)⟩
  · cases h
end
end FL
namespace FL
open PySem PySem.Spec L2
open PyProof.Rows hiding St
/-! ## {..}.get(k, d) with written keys -/
section
variable {K : PySem.W.Frag} {mg : Str → Option Value}
/-- what is neither a list nor a tuple is written -/
theorem sqt_updO {H : Hp} {a b : Addr} {xs : List V} {o o' : HO} (hb : H b = some o) (h1 : ∀ xs, o ≠ .tup xs) (h2 : ∀ ob xs, o ≠ .frz ob (.tup xs)) (h : SqT K H a xs) : SqT K (upd H b o') a xs := by
  rcases h with (h | ⟨ob, h⟩) | h
  · exact .inl (.inl (by rw [upd_ne (fun z => by rw [z, hb] at h; cases h; exact h1 _ rfl)]; exact h))
  · exact .inl (.inr ⟨ob, by rw [upd_ne (fun z => by rw [z, hb] at h; cases h; exact h2 _ _ rfl)]; exact h⟩)
  · exact .inr h
structure NotSq (o : HO) : Prop where
  l : ∀ xs, o ≠ .lst xs
  t : ∀ xs, o ≠ .tup xs
  f : ∀ ob u, o ≠ .frz ob u
  e : ∀ φ, o ≠ .ext φ
  x : ∀ fs, o ≠ .xd fs
mutual
theorem FRep.updO {H : Hp} {a : Addr} {o o' : HO} (ha : H a = some o) (ns : NotSq o) : ∀ (x : FV) (v : V), FRep K H x v → FRep K (upd H a o') x v
  | .non, _, h => h
  | .int _, _, h => h
  | .str _, _, h => h
  | .tup zs, v, h => by
    obtain ⟨b, vs, e1, h1, h2⟩ := h
    exact ⟨b, vs, e1, sqt_updO ha ns.t (fun ob xs => ns.f ob _) h1, FReps.updO ha ns zs vs h2⟩
theorem FReps.updO {H : Hp} {a : Addr} {o o' : HO} (ha : H a = some o) (ns : NotSq o) : ∀ (zs : List FV) (vs : List V), FReps K H zs vs → FReps K (upd H a o') zs vs
  | [], _, h => h
  | x :: zs, vs, h => by
    obtain ⟨v, r, e1, h1, h2⟩ := h
    exact ⟨v, r, e1, FRep.updO ha ns x v h1, FReps.updO ha ns zs r h2⟩
end
theorem RepE.updO {H : Hp} {a : Addr} {o o' : HO} (ha : H a = some o) (ns : NotSq o) {cls : Str} {fs : List (Str × FV)} {v : V} (h : RepE K mg H cls fs v) : RepE K mg (L2.upd H a o') cls fs v := by
  obtain ⟨b, C, d, e1, h1, h2, h3⟩ := h
  refine ⟨b, C, d, e1, by rw [upd_ne (fun y => by rw [y, ha] at h1; exact ns.e _ (Option.some.inj h1))]; exact h1, h2, h3.imp id fun ⟨dd, vs, e2, h4, h5⟩ => ⟨dd, vs, e2, by rw [upd_ne (fun y => by rw [y, ha] at h4; exact ns.x _ (Option.some.inj h4))]; exact h4, fun f t z => ?_⟩⟩
  obtain ⟨w, h6, h7⟩ := h5 f t z
  exact ⟨w, h6, FRep.updO ha ns t w h7⟩
theorem EmpV.updO {H : Hp} {a : Addr} {o o' : HO} (ha : H a = some o) (ns : NotSq o) {v : V} (h : EmpV H v) : EmpV (L2.upd H a o') v := let ⟨b, u, e1, h1⟩ := h; ⟨b, u, e1, by rw [upd_ne (fun y => by rw [y, ha] at h1; exact ns.f _ _ (Option.some.inj h1))]; exact h1⟩
mutual
theorem Rep.updO {H : Hp} {s : Addr → Prop} {a : Addr} {o o' : HO} (ha : H a = some o) (ns : NotSq o) : ∀ (t : T) (v : V) (c : Cnt), Rep K mg H s t v c → Rep K mg (upd H a o') s t v c
  | .exc _ _, _, _, h => RepE.updO ha ns h
  | .emp, _, _, h => EmpV.updO ha ns h
  | .vid _, _, _, h => h
  | .non, _, _, h => h
  | .bl _, _, _, h => h
  | .int _, _, _, h => h
  | .str _, _, _, h => h
  | .tup ts, v, c, h => by
    obtain ⟨b, vs, e1, h1, h2⟩ := h
    refine ⟨b, vs, e1, ?_, Reps.updO ha ns ts vs c h2⟩
    rcases h1 with z | z
    · exact .inl (by rw [upd_ne (fun y => by rw [y, ha] at z; cases z; exact ns.t _ rfl)]; exact z)
    · exact .inr ⟨z.1, sqt_updO ha ns.t (fun ob xs => ns.f ob _) z.2⟩
  | .lst .sh ts, v, c, h => by
    obtain ⟨b, vs, e1, h1, h3, h2⟩ := h
    exact ⟨b, vs, e1, by rw [upd_ne (fun y => by rw [y, ha] at h1; cases h1; exact ns.l _ rfl)]; exact h1, h3, Reps.updO ha ns ts vs zc h2⟩
  | .lst .bo ts, v, c, h => by
    obtain ⟨b, vs, e1, h1, h2⟩ := h
    exact ⟨b, vs, e1, by rw [upd_ne (fun y => by rw [y, ha] at h1; cases h1; exact ns.l _ rfl)]; exact h1, Reps.updO ha ns ts vs zc h2⟩
  | .lst .fz ts, v, c, h => by
    obtain ⟨b, vs, e1, h1, h2⟩ := h
    exact ⟨b, vs, e1, h1.upd ha ns.f, Reps.updO ha ns ts vs zc h2⟩
  | .lst .ow ts, v, c, h => by
    obtain ⟨b, vs, c1, e1, h1, h3, h4, h2⟩ := h
    exact ⟨b, vs, c1, e1, by rw [upd_ne (fun y => by rw [y, ha] at h1; cases h1; exact ns.l _ rfl)]; exact h1, h3, h4, Reps.updO ha ns ts vs c1 h2⟩
  | .lst (.pn p) ts, v, c, h => by
    obtain ⟨e0, b, vs, c1, e1, h1, h3, h4, h2⟩ := h
    exact ⟨e0, b, vs, c1, e1, by rw [upd_ne (fun y => by rw [y, ha] at h1; cases h1; exact ns.l _ rfl)]; exact h1, h3, h4, Reps.updO ha ns ts vs c1 h2⟩
theorem Reps.updO {H : Hp} {s : Addr → Prop} {a : Addr} {o o' : HO} (ha : H a = some o) (ns : NotSq o) : ∀ (ts : List T) (vs : List V) (c : Cnt), Reps K mg H s ts vs c → Reps K mg (upd H a o') s ts vs c
  | [], _, _, h => h
  | t :: ts, vs, c, h => by
    obtain ⟨v, r, c1, c2, e1, h1, h2, h3⟩ := h
    exact ⟨v, r, c1, c2, e1, h1, Rep.updO ha ns t v c1 h2, Reps.updO ha ns ts r c2 h3⟩
end
theorem RepS.updO {H : Hp} {s : Addr → Prop} {a : Addr} {o o' : HO} (ha : H a = some o) (ns : NotSq o) : ∀ {ρ : En} {σ : L2.St} {c : Cnt}, RepS K mg H s ρ σ c → RepS K mg (L2.upd H a o') s ρ σ c
  | [], _, _, h => h
  | q :: ρ, σ, c, h => by
    obtain ⟨x, r, c1, c2, e1, h1, h2, h3⟩ := h
    exact ⟨x, r, c1, c2, e1, h1, fun t ht => let ⟨v, q1, q2, q3⟩ := h2 t ht; ⟨v, q1, q2, Rep.updO ha ns _ _ _ q3⟩, RepS.updO ha ns h3⟩
theorem RepP.updO {H : Hp} {s : Addr → Prop} {a : Addr} {o o' : HO} (ha : H a = some o) (ns : NotSq o) : ∀ {l : List (T × V)} {c : Cnt}, RepP K mg H s l c → RepP K mg (L2.upd H a o') s l c
  | [], _, h => h
  | p :: r, c, h => by
    obtain ⟨c1, c2, h1, h2, h3⟩ := h
    exact ⟨c1, c2, h1, Rep.updO ha ns _ _ _ h2, RepP.updO ha ns h3⟩
theorem upd_some {H : Hp} {a b : Addr} {o : HO} (h : H b ≠ none) : upd H a o b ≠ none := by
  by_cases hb : b = a
  · subst hb
    rw [upd_same]
    exact fun z => by cases z
  · rw [upd_ne hb]
    exact h
theorem Iv.updO {H0 H : Hp} {σ : L2.St} {ρ : En} {tmp : List (T × V)} {a : Addr} {o o' : HO} (h0 : H0 a = none) (ha : H a = some o) (ns : NotSq o) (I : Iv K mg H0 H σ ρ tmp) : Iv K mg H0 (upd H a o') σ ρ tmp := by
  obtain ⟨ext, c, s, c1, c2, w, hc, hS, hP⟩ := I
  exact ⟨fun b u q => by rw [upd_ne (ne_of_none q h0)]; exact ext b u q, c, s, c1, c2, ⟨w.one, fun b hb => ⟨(w.own b hb).1, upd_some (w.own b hb).2.1, (w.own b hb).2.2⟩, fun b hb => upd_some (w.shd b hb)⟩, hc, hS.updO ha ns, hP.updO ha ns⟩
theorem dk_not {kvs : List (Key × V)} : NotSq (.dK kvs) := ⟨fun _ z => (nomatch z), fun _ z => (nomatch z), fun _ _ z => (nomatch z), fun _ z => (nomatch z), fun _ z => (nomatch z)⟩
theorem merge_new : ∀ (kvs acc : List (Key × V)), (acc.map (·.1) ++ kvs.map (·.1)).Nodup → mergeK acc kvs = acc ++ kvs
  | [], acc, _ => by simp [mergeK]
  | p :: r, acc, h => by
    have hp : p.1 ∉ acc.map (·.1) := fun z => by
      rw [List.map_cons, List.nodup_append] at h
      exact h.2.2 _ z _ List.mem_cons_self rfl
    have e1 : putK acc p.1 p.2 = acc ++ [p] := by
      unfold putK
      rw [if_neg]
      intro z
      obtain ⟨q, hq, hq2⟩ := List.any_eq_true.mp z
      exact hp (by rw [← of_decide_eq_true hq2]; exact List.mem_map_of_mem hq)
    show mergeK (putK acc p.1 p.2) r = _
    rw [e1, merge_new r (acc ++ [p])]
    · simp
    · simpa using h
end
/-- the pairs' values, from the left -/
def evD : List (Str × M T) → M (List T)
  | [] => fun ρ => ok [] ρ
  | (_, f) :: r => fun ρ => ob (f ρ) fun x ρ => ob (evD r ρ) fun xs ρ => ok (x :: xs) ρ
def lookT : List Str → List T → Str → Option T
  | k :: ks, t :: ts, x => if k = x then some t else lookT ks ts x
  | _, _, _ => none
def eDg (l : List (Str × M T)) (fk fd : M T) : M T := fun ρ => ob (evD l ρ) fun us ρ => ob (fk ρ) fun k ρ => ob (fd ρ) fun d ρ => match k with
  | .str x => ok ((lookT (l.map (·.1)) us x).getD d) ρ
  | _ => none
def Fd (K : PySem.W.Frag) (mg : Str → Option Value) (W : WX) (trs : List (TE × TE)) (l : List (Str × M T)) : Prop := ∀ H0 H σ ρ tmp (Q : List (V × V) → Hp → Prop), Iv K mg H0 H σ ρ tmp →
  Ps (evD l ρ) (fun us ρ' => ∀ vs H', Same H H' → vs.length = us.length → us.length = l.length → Iv K mg H0 H' σ ρ' (us.zip vs ++ tmp) → Q ((l.map fun p => V.str p.1).zip vs) H') (Pe K mg W H0 σ) → tPairs trs σ H Q
structure FD (X : Cx) (W : WX) (pos : Pos) (keys : List (Option Expr)) (values : List Expr) (l : List (Str × M T)) : Prop where
  ex : ∃ trs, PPs X pos keys values trs ∧ Fd X.K X.mg W trs l
section
variable {X : Cx} {W : WX} {e a b c v : Expr} {es vs : List Expr} {ks : List (Option Expr)} {f fa fb fc fk fd : M T} {pos p2 apos cpos : Pos} {l : List (Str × M T)}
theorem fd_nil : FD X W pos [] [] [] := ⟨[], pps_nil, fun H0 H σ ρ tmp Q I h => h [] H (Same.refl H) rfl rfl I⟩
theorem fd_cons {x : Str} {j : Nat} (hv : FE X W v f) (hr : FD X W pos ks vs l) : FD X W pos (some (.Constant (.str x) j p2) :: ks) (v :: vs) ((x, f) :: l) := by
  obtain ⟨tv, pv, qv⟩ := hv
  obtain ⟨tr, pr, qr⟩ := hr
  refine ⟨_, pps_cons pe_str pv pr, fun H0 H σ ρ tmp Q I h => qv H0 H σ ρ tmp _ I (h.ob.imp fun u ρ1 h1 w H1 e1 I1 => qr H0 H1 σ ρ1 _ _ I1 (h1.ob.imp fun us ρ2 h2 ws H2 e2 hl hl2 I2 => ?_))⟩
  exact h2 (w :: ws) H2 (e1.trans e2) (by simp [hl]) (by simp [hl2]) (I2.perm List.perm_middle)
theorem RepP.pick {K : PySem.W.Frag} {mg : Str → Option Value} {H : Hp} {s : Addr → Prop} : ∀ {m : List (T × V)} {c : Cnt} {q : T × V}, RepP K mg H s m c → q ∈ m → Rep K mg H s q.1 q.2 c
  | p :: r, c, q, h, hq => by
    obtain ⟨c1, c2, h1, h2, h3⟩ := h
    rcases List.mem_cons.mp hq with z | hq
    · rw [z]
      exact h2.le fun b => by have := h1 b; omega
    · exact (RepP.pick h3 hq).le fun b => by have := h1 b; omega
theorem Iv.pick {K : PySem.W.Frag} {mg : Str → Option Value} {H0 H : Hp} {σ : L2.St} {ρ : En} {m tmp : List (T × V)} {t : T} {v : V} (I : Iv K mg H0 H σ ρ (m ++ tmp)) (h : (t, v) ∈ m) : Iv K mg H0 H σ ρ ((t, v) :: tmp) := by
  obtain ⟨s, c, hP, _, _, _, k⟩ := I.take
  exact k H [(t, v)] (Same.refl H) ⟨c, ⟨c, zc, fun b => by simp, RepP.pick hP h, True.intro⟩, fun b => by omega⟩
theorem look_ok : ∀ {l : List Str} {us : List T} {ws : List V} {x : Str}, us.length = l.length → ws.length = l.length → (∃ t v, lookT l us x = some t ∧ valV ((l.map fun k => (Sum.inr k : Key)).zip ws) (Sum.inr x) = some v ∧ (t, v) ∈ us.zip ws) ∨ (lookT l us x = none ∧ valV ((l.map fun k => (Sum.inr k : Key)).zip ws) (Sum.inr x) = none)
  | [], us, ws, x, h1, h2 => by
    right
    cases us <;> simp_all [lookT, valV]
  | k :: l, [], ws, x, h1, h2 => by simp at h1
  | k :: l, u :: us, [], x, h1, h2 => by simp at h2
  | k :: l, u :: us, w :: ws, x, h1, h2 => by
    by_cases hk : k = x
    · left
      refine ⟨u, w, by simp [lookT, hk], ?_, by simp⟩
      simp [valV, hk]
    · rcases look_ok (l := l) (us := us) (ws := ws) (x := x) (by simpa using h1) (by simpa using h2) with ⟨t, v, g1, g2, g3⟩ | ⟨g1, g2⟩
      · refine .inl ⟨t, v, by simp [lookT, hk, g1], ?_, by simp [g3]⟩
        rw [← g2]
        simp [valV, hk]
      · refine .inr ⟨by simp [lookT, hk, g1], ?_⟩
        rw [← g2]
        simp [valV, hk]
theorem fe_dg (hu : X.A.units + 1 < cLine) (hd : FD X W pos ks vs l) (hk : FE X W b fk) (hf : FE X W c fd) (hnd : (l.map (·.1)).Nodup := by decide) (hall : ks.all (·.isSome) = true := by rfl) (hl : ks.length = vs.length := by rfl) (h0 : ks ≠ [] := by simp) (h15 : ks.length ≤ 15 := by decide) (hl15 : l.length ≤ 15 := by decide)
    (m : M2 X (.Dict ks vs pos) "get" apos b c cpos) : FE X W (.Call (.Attribute (.Dict ks vs pos) "get" apos) [b, c] [] cpos) (eDg l fk fd) := by
  obtain ⟨trs, pp, qp⟩ := hd
  obtain ⟨tk, pk, qk⟩ := hk
  obtain ⟨td, pd, qd⟩ := hf
  refine ⟨_, pe_dget2 hu (pe_disp pp hall hl h0 h15) pk pd m, fun H0 H σ ρ tmp Q I h p hp => ?_⟩
  have e0 : Same H (upd H p (.dK [])) := same_new hp
  have hp0 : H0 p = none := by
    cases q : H0 p with
    | none => rfl
    | some o =>
      rw [I.ext p o q] at hp
      cases hp
  refine qp H0 _ σ ρ tmp _ (I.same e0) (h.ob.imp fun us ρ1 h1 ws H1 e1 hlw hlu I1 => ?_)
  have hpk : H1 p = some (.dK []) := e1 p _ upd_same
  have hwl : ws.length = l.length := by rw [hlw, hlu]
  let kvs : List (Key × V) := (l.map fun q => (Sum.inr q.1 : Key)).zip ws
  have ekv : (l.map fun q => V.str q.1).zip ws = kvs.map fun kv => (kV kv.1, kv.2) := by
    show _ = ((l.map fun q => (Sum.inr q.1 : Key)).zip ws).map _
    clear h1 I1 qp pp h hl15 hnd
    induction l generalizing ws us with
    | nil => simp
    | cons q r ih =>
      cases ws with
      | nil => simp
      | cons w ws =>
        cases us with
        | nil => simp at hlu
        | cons u us => simp [kV, ih us ws (by simpa using hlw) (by simpa using hlu) (by simpa using hwl)]
  have hmk : (kvs.map (·.1)) = l.map fun q => (Sum.inr q.1 : Key) := by
    show ((l.map fun q => (Sum.inr q.1 : Key)).zip ws).map (·.1) = _
    rw [List.map_fst_zip]
    simp [hwl]
  have hmg : mergeK [] kvs = kvs := by
    rw [merge_new]
    · simp
    · rw [hmk]
      have : (l.map fun q => (Sum.inr q.1 : Key)) = (l.map (·.1)).map Sum.inr := by simp
      rw [List.map_nil, List.nil_append, this]
      exact List.Pairwise.map _ (fun a b (h : a ≠ b) (e : (Sum.inr a : Key) = Sum.inr b) => h (Sum.inr.inj e)) hnd
  refine ⟨hpk, kvs, ekv, ?_, ?_⟩
  · have : kvs.length = l.length := by
      have := congrArg List.length hmk
      simpa using this
    omega
  · rw [hmg]
    have e2 : Same H (upd H1 p (.dK kvs)) := fun x o q => by
      rw [upd_ne (ne_of_none q hp)]
      exact e1 x o (e0 x o q)
    have I2 := I1.updO (o' := .dK kvs) hp0 hpk dk_not
    have hp2 : upd H1 p (.dK kvs) p = some (.dK kvs) := upd_same
    refine ⟨p, rfl, .inl ⟨kvs, .inl hp2⟩, qk H0 _ σ ρ1 _ _ I2 (h1.ob.imp fun k ρ2 h2 vk H3 e3 I3 => qd H0 H3 σ ρ2 _ _ I3 (h2.ob.imp fun d ρ3 h3 vd H4 e4 I4 => ?_))⟩
    match k, h3, I3, I4 with
    | .str x, h3, I3, I4 =>
      have ek : vk = .str x := I3.str
      have hp4 : H4 p = some (.dK kvs) := e4 p _ (e3 p _ hp2)
      have ee : Same H H4 := e2.trans (e3.trans e4)
      subst ek
      have hkv : kvs = ((l.map (·.1)).map fun k => (Sum.inr k : Key)).zip ws := by
        show (l.map fun q => (Sum.inr q.1 : Key)).zip ws = _
        rw [List.map_map]
        rfl
      refine ⟨valV kvs (Sum.inr x), DGet.k (k := Sum.inr x) hp4, ?_⟩
      have I5 : Iv X.K X.mg H0 H4 σ ρ3 (((d, vd) :: us.zip ws) ++ tmp) := I4.perm ((List.Perm.swap _ _ _).trans ((List.Perm.refl _).cons _)) |>.drop1
      rw [hkv]
      rcases look_ok (l := l.map (·.1)) (us := us) (ws := ws) (x := x) (by simpa using hlu) (by simpa using hwl) with ⟨t, v, g1, g2, g3⟩ | ⟨g1, g2⟩
      · rw [g2]
        refine h3 _ H4 ee ?_
        rw [g1]
        exact I5.pick (List.mem_cons_of_mem _ g3)
      · rw [g2]
        refine h3 _ H4 ee ?_
        rw [g1]
        exact I5.pick List.mem_cons_self
end
end FL
namespace FL
open PySem PySem.Spec L2
open PyProof.Rows hiding St
/-! ## defs of the text, by their names -/
/-- around which no repr runs -/
abbrev NoG (A : Around) : Prop := A.guards = some []
/-- a def's promise, where no repr runs around the call -/
structure FnG (P : Program) (w : World) (K : PySem.W.Frag) (mg : Str → Option Value) (base : Heap) (k : Nat) (f : Addr) (fd : FuncData) (ps : List Str) (sp : Sp) : Prop where
  len : ∀ vs H Q E, sp vs H Q E → vs.length = ps.length
  run : ∀ (A : Around) (outer : List Env) (s : Shared) (H : Hp) (args : Args) (us : List Value) (vs : List V) (Q : VK) (E : XK), NoG A → Room k A → Env0 P w K mg base A outer s H → BindsTo s fd args (ps.zip us) → Vals vs us → sp vs H Q E →
    codeAny (model P w) A (.call (.ref f) args) (CR (L2.CX P w) outer P w H s Q E) s
theorem FnG.of {P : Program} {w : World} {K : PySem.W.Frag} {mg : Str → Option Value} {base : Heap} {k : Nat} {f : Addr} {fd : FuncData} {ps : List Str} {sp : Sp} (h : FnOk P w K mg base (L2.CX P w) k f fd ps sp) : FnG P w K mg base k f fd ps sp :=
  ⟨h.len, fun A outer s H args us vs Q E _ => h.run A outer s H args us vs Q E⟩
/-- the def that the name x holds computes F -/
def Cal (P : Program) (w : World) (K : PySem.W.Frag) (mg : Str → Option Value) (base : Heap) (x : Str) (k n : Nat) (F : DF) : Prop :=
  ∃ (f : Addr) (fd : FuncData) (ps : List Str), mg x = some (.ref f) ∧ PySem.W.keepIn K (.ref f) = true ∧ Binds K fd ps [] ∧ FnOk P w K mg base (L2.CX P w) k f fd ps (spF K mg n F) ∧ (n = 0 → ps = [])
def CalG (P : Program) (w : World) (K : PySem.W.Frag) (mg : Str → Option Value) (base : Heap) (x : Str) (k n : Nat) (F : DF) : Prop :=
  ∃ (f : Addr) (fd : FuncData) (ps : List Str), mg x = some (.ref f) ∧ PySem.W.keepIn K (.ref f) = true ∧ Binds K fd ps [] ∧ FnG P w K mg base k f fd ps (spF K mg n F)
theorem CalG.of {P : Program} {w : World} {K : PySem.W.Frag} {mg : Str → Option Value} {base : Heap} {x : Str} {k n : Nat} {F : DF} (h : Cal P w K mg base x k n F) : CalG P w K mg base x k n F :=
  let ⟨f, fd, ps, h1, h2, h3, h4, _⟩ := h; ⟨f, fd, ps, h1, h2, h3, .of h4⟩
section
variable {X : Cx} {W : WX} {e a b c : Expr} {es : List Expr} {f fa fb fc : M T} {pos : Pos}
theorem fe_callC {k n : Nat} {F : DF} {x : Str} {p : Pos} {fs : M (List T)} (tk : Takes X W) (C : Cal X.prog X.w X.K X.mg X.base x k n F) (hr : Room k X.A) (hg : Gl X x) (ha : FA X W (e :: es) fs) (hdb : (x == ("__debug__" : Str)) = false := by decide)
    (he : starEach (e :: es) X.env = (false, eval e X.env) :: starEach es X.env := by rfl) (hpl : (backTo pos (starEach es X.env)).any (·.1) = false := by rfl) : FE X W (.Call (.Name x p) (e :: es) [] pos) (eCall n F fs) := by
  obtain ⟨f, fd, ps, hm, hk, hb, G, _⟩ := C
  exact fe_call tk G hr hg hm hk hb ha hdb he hpl
theorem fe_callC0 {k : Nat} {F : DF} {x : Str} {p : Pos} (C : Cal X.prog X.w X.K X.mg X.base x k 0 F) (hr : Room k X.A) (hg : Gl X x) (hdb : (x == ("__debug__" : Str)) = false := by decide) : FE X W (.Call (.Name x p) [] [] pos) (eCall0 F) := by
  obtain ⟨f, fd, ps, hm, hk, hb, G, h0⟩ := C
  obtain rfl := h0 rfl
  exact fe_call0 G hr hg hm hk hb hdb
theorem run_fnG {pins : List (Addr × Obj)} {σ : L2.St} {H : Hp} {s : Shared} {Q : VK} {us : List Value} {vs : List V} {k : Nat} {f : Addr} {fd : FuncData} {ps : List Str} {sp : Sp} (hG : NoG X.A) (tk : Takes X W) (G : FnG X.prog X.w X.K X.mg X.base k f fd ps sp) (hr : Room k X.A) (hb : Binds X.K fd ps [])
    (I : Inv X pins σ H s) (r : Vals vs us) (h : sp vs H Q (WE W σ)) : wpAny (model X.prog X.w) X.A (call (.ref f) us) (EP X pins σ Q) X.xe s := by
  have hlen : us.length = ps.length := r.length ▸ G.len _ _ _ _ h
  have bnd := hb s us I.kIn (by simpa using hlen)
  simp only [List.append_nil] at bnd
  refine wpAny_call (codeAny_mono (G.run X.A X.stack s H ⟨us, []⟩ us vs Q (WE W σ) hG hr I.env0 bnd r h) fun res s' q => ?_)
  cases res with
  | error er => exact passAt tk σ pins H s er s' I q
  | ok fl =>
    cases fl with
    | ret u => exact I.after q
    | next => exact q.elim
    | brk => exact q.elim
    | cont => exact q.elim
theorem fe_callG {k n : Nat} {F : DF} {x : Str} {p : Pos} {fs : M (List T)} (hG : NoG X.A) (tk : Takes X W) (C : CalG X.prog X.w X.K X.mg X.base x k n F) (hr : Room k X.A) (hg : Gl X x) (ha : FA X W (e :: es) fs) (hdb : (x == ("__debug__" : Str)) = false := by decide)
    (he : starEach (e :: es) X.env = (false, eval e X.env) :: starEach es X.env := by rfl) (hpl : (backTo pos (starEach es X.env)).any (·.1) = false := by rfl) : FE X W (.Call (.Name x p) (e :: es) [] pos) (eCall n F fs) := by
  obtain ⟨f, fd, ps, hm, hk, hb, G⟩ := C
  obtain ⟨ta, pa, qa⟩ := ha
  refine ⟨tCallS (spF X.K X.mg n F) (WE W) ta, ⟨fun pins s σ H Q I h => ?_⟩, fun H0 H σ ρ tmp Q I h => qa H0 H σ ρ tmp _ I (h.ob.imp fun xs ρ1 h1 vs H1 e1 hl I1 => ?_)⟩
  · refine wpAny_Call_Name_kw (ld_glob I hg hm ?_ hdb)
    exact PySem.W.callWith_K (h₀ := X.base) I.ok.mod.kin hk (thn (pa.run pos pins s σ H _ I h) fun us s1 ⟨vs, H1, I1, r, q⟩ => ⟨I1.kIn, run_fnG hG tk G hr hb I1 r q⟩) he hpl
  · split at h1
    · rename_i hn
      refine ⟨shrs xs, by rw [shrs_len, hn], nobs_shrs xs, I1.args hl, ?_⟩
      revert h1
      cases F (shrs xs) with
      | none => exact fun h => h
      | some r =>
        cases r with
        | error x => exact fun h cls d H' e2 rx => h cls d H' ((I1.drop).clear.same e2) rx
        | ok u => exact fun h v H' e2 fr => h v H' (e1.trans e2) ((I1.drop).ret e2 fr)
    · exact h1.elim
/-! ### the def's own promise -/
theorem cal_mk {P : Program} {w : World} {K : PySem.W.Frag} {mg : Str → Option Value} {base : Heap} {x qual : Str} {st : Stmt} {f : Addr} {fd : FuncData} {N ps : List Str} {k : Nat} {body : S} (n : Nat) (F : Fun K x qual st f fd) (hm : mg x = some (.ref f)) (hb : Binds K fd ps []) (Sc : FnScope N ps (defScope st)) (hn : ps.length = n)
    (hbody : ∀ (cdv : Value) (A : Around) (outer : List Env) (s : Shared) (H : Hp) (E : XK), Room k (A.deeper (envOfC qual (defScope st) s.heap.objs.size f cdv)) →
      Takes (cxOf (L2.CX P w) P w K mg base N qual (defScope st) f cdv A outer s H E) (fun cls d _ H' => E cls d H') →
      PassesOwn (model P w) (A.deeper (envOfC qual (defScope st) s.heap.objs.size f cdv)) (envOfC qual (defScope st) s.heap.objs.size f cdv) (cxOf (L2.CX P w) P w K mg base N qual (defScope st) f cdv A outer s H E).xe →
      FSs (cxOf (L2.CX P w) P w K mg base N qual (defScope st) f cdv A outer s H E) (fun cls d _ H' => E cls d H') (defBody st) body) : Cal P w K mg base x (k + 1) n (dfOf N.length body) :=
  ⟨f, fd, ps, hm, F.kp, hb, fn_ok n F Sc hn hbody, fun h0 => List.length_eq_zero_iff.mp (hn.trans h0)⟩
/-- .. where its body asks that no repr runs around -/
theorem fn_okG {P : Program} {w : World} {K : PySem.W.Frag} {mg : Str → Option Value} {base : Heap} {x qual : Str} {st : Stmt} {f : Addr} {fd : FuncData} {N ps : List Str} {k : Nat} {sp : Sp} (F : Fun K x qual st f fd) (Sc : FnScope N ps (defScope st)) (hlen : ∀ vs H Q E, sp vs H Q E → vs.length = ps.length)
    (hbody : ∀ (cdv : Value) (A : Around) (outer : List Env) (s : Shared) (H : Hp) (vs : List V) (Q : VK) (E : XK), NoG (A.deeper (envOfC qual (defScope st) s.heap.objs.size f cdv)) → Room k (A.deeper (envOfC qual (defScope st) s.heap.objs.size f cdv)) → sp vs H Q E →
      ∃ t, PSs (cxOf (L2.CX P w) P w K mg base N qual (defScope st) f cdv A outer s H E) (defBody st) t ∧ t { nx := fun _ H' => Q .non H', rt := Q } (L2.start N vs) H) : FnG P w K mg base (k + 1) f fd ps sp := by
  obtain ⟨oc, od, kV, doc, pm, an, cdv, ct, osl, rfl, lk, hcd⟩ := F.ex
  refine ⟨hlen, fun A outer s H args us vs Q E hG hr e0 hb r hsp => ?_⟩
  have keepB : ∀ b o, base.get? b = some o → s.heap.get? b = some o := fun b o e => (e0.bs b o e).1
  have KX : K.In s.heap := e0.mod.kin.keeps keepB
  have lim : s.heap.NoLimit := e0.mod.nolimit.keeps keepB
  have kinds : ∀ y ∈ ps.zip us, (defScope st).names.lookup y.1 = some .local ∨ ((defScope st).names.lookup y.1 = some .cell ∧ ((cellsFrom (s.heap.objs.size + 1) (defScope st).names []).lookup y.1).isSome = true) := by
    rintro ⟨n, v⟩ hy
    have hp := Sc.par n (List.of_mem_zip hy).1
    exact hp.imp id fun q => ⟨q, PySem.W.cellsFrom_some _ _ _ (.inl q)⟩
  refine codeAny_call_function hr.depth (KX _ _ lk) rfl Sc.co Sc.gen rfl (PySem.W.codeRec_of KX hcd) (hb _ _ _ _ ?_)
  refine wpAny_newFunctionEnv_cells Sc.kind kinds fun env henv s1 hc => ?_
  subst henv
  refine ⟨lim.keeps hc.toInCall.keep, codeAny_func ?_⟩
  have hG' : NoG (A.deeper (envOfC qual (defScope st) s.heap.objs.size f cdv)) := by
    simpa [NoG, Around.deeper] using hG
  obtain ⟨t, ht, hq⟩ := hbody cdv A outer s H vs Q E hG' (hr.deeper _) hsp
  have I := inv_start (CX := L2.CX P w) (f := f) (cd := cdv) (E := E) (qual := qual) Sc hr.hd e0 (hlen _ _ _ _ hsp) r hc
  refine wpAny_mono (ht.run [] s1 (L2.start N vs) H _ I hq) (fun fl s' hs => ?_) fun er s' hs => hs
  cases fl with
  | ret u =>
    obtain ⟨v, σ', H', J, rv, q⟩ := hs
    exact ⟨v, H', J.os, J.bare, J.base, J.hok, rv, q⟩
  | next =>
    obtain ⟨σ', H', J, q⟩ := hs
    exact ⟨V.non, H', J.os, J.bare, J.base, J.hok, (rfl : RelV V.non Value.none), q⟩
  | brk =>
    obtain ⟨_, _, _, q⟩ := hs
    exact q.elim
  | cont =>
    obtain ⟨_, _, _, q⟩ := hs
    exact q.elim
theorem cal_mkG {P : Program} {w : World} {K : PySem.W.Frag} {mg : Str → Option Value} {base : Heap} {x qual : Str} {st : Stmt} {f : Addr} {fd : FuncData} {N ps : List Str} {k : Nat} {body : S} (n : Nat) (F : Fun K x qual st f fd) (hm : mg x = some (.ref f)) (hb : Binds K fd ps []) (Sc : FnScope N ps (defScope st)) (hn : ps.length = n)
    (hbody : ∀ (cdv : Value) (A : Around) (outer : List Env) (s : Shared) (H : Hp) (E : XK), NoG (A.deeper (envOfC qual (defScope st) s.heap.objs.size f cdv)) → Room k (A.deeper (envOfC qual (defScope st) s.heap.objs.size f cdv)) →
      Takes (cxOf (L2.CX P w) P w K mg base N qual (defScope st) f cdv A outer s H E) (fun cls d _ H' => E cls d H') →
      PassesOwn (model P w) (A.deeper (envOfC qual (defScope st) s.heap.objs.size f cdv)) (envOfC qual (defScope st) s.heap.objs.size f cdv) (cxOf (L2.CX P w) P w K mg base N qual (defScope st) f cdv A outer s H E).xe →
      FSs (cxOf (L2.CX P w) P w K mg base N qual (defScope st) f cdv A outer s H E) (fun cls d _ H' => E cls d H') (defBody st) body) : CalG P w K mg base x (k + 1) n (dfOf N.length body) := by
  refine ⟨f, fd, ps, hm, F.kp, hb, fn_okG F Sc (fun vs H Q E h => ?_) (fun cdv A outer s H vs Q E hG hr h => ?_)⟩
  · obtain ⟨ts, h1, _, h2, _⟩ := h
    rw [Reps.length h2, h1, hn]
  · have tk : Takes (cxOf (L2.CX P w) P w K mg base N qual (defScope st) f cdv A outer s H E) (fun cls d _ H' => E cls d H') := takes_of rfl rfl rfl rfl
    have po : PassesOwn (model P w) (A.deeper (envOfC qual (defScope st) s.heap.objs.size f cdv)) (envOfC qual (defScope st) s.heap.objs.size f cdv) (cxOf (L2.CX P w) P w K mg base N qual (defScope st) f cdv A outer s H E).xe := passes_of (X := cxOf (L2.CX P w) P w K mg base N qual (defScope st) f cdv A outer s H E) rfl
    obtain ⟨t, pt, qt⟩ := hbody cdv A outer s H E hG hr tk po
    exact ⟨t, pt, fs_enter qt h⟩
end
end FL
namespace FL
open PySem PySem.Spec L2
open PyProof.Rows hiding St
section
variable {X : Cx} {W : WX} {e a b c : Expr} {es : List Expr} {f fa fb fc : M T} {pos : Pos} {st : Stmt}
/-! ### what no law comes to -/
def sStuck : S := fun _ => none
theorem fs_stuck : FS X W st sStuck := ⟨_, ps_never, fun H0 H σ ρ tmp D nb I h => h.elim⟩
theorem fe_gintC {x : Str} {i : Int} {pos : Pos} (hg : Gl X x) (h : ∃ u, X.mg x = some u ∧ RelV (.int i) u) (hd : (x == ("__debug__" : Str)) = false := by decide) : FE X W (.Name x pos) (eK (.int i)) := let ⟨_, h1, h2⟩ := h; fe_gint hg h1 h2 hd
theorem fe_gstrC {x i : Str} {pos : Pos} (hg : Gl X x) (h : ∃ u, X.mg x = some u ∧ RelV (.str i) u) (hd : (x == ("__debug__" : Str)) = false := by decide) : FE X W (.Name x pos) (eK (.str i)) := let ⟨_, h1, h2⟩ := h; fe_gstr hg h1 h2 hd
/-! ### repr(x) -/
def gRepr : T → Option T
  | .tup xs => if okT 60 (.tup xs) = true ∧ (toD (.tup xs)).showable = true ∧ (toD (.tup xs)).shown.length ≤ 16777216 then some (.str (toD (.tup xs)).shown) else none
  | .lst o xs => if okT 60 (.lst o xs) = true ∧ (toD (.lst o xs)).showable = true ∧ (toD (.lst o xs)).shown.length ≤ 16777216 then some (.str (toD (.lst o xs)).shown) else none
  | _ => none
def eRepr (f : M T) : M T := fun ρ => ob (f ρ) fun x ρ => ol (gRepr x) ρ
mutual
theorem toD_nd : ∀ t, noE t = true → (toD t).hasDict = false
  | .exc _ _, _ => rfl
  | .emp, h => by simp [noE] at h
  | .vid _, h => by simp [noE] at h
  | .non, _ => rfl
  | .bl _, _ => rfl
  | .int _, _ => rfl
  | .str _, _ => rfl
  | .tup ts, h => toDs_nd ts (by simpa [noE] using h)
  | .lst _ ts, h => toDs_nd ts (by simpa [noE] using h)
theorem toDs_nd : ∀ ts, noEs ts = true → PyData.hasDictAll (toDs ts) = false
  | [], _ => rfl
  | t :: ts, h => by
    have h' : noE t = true ∧ noEs ts = true := by simpa [noEs] using h
    simp [toDs, PyData.hasDictAll, toD_nd t h'.1, toDs_nd ts h'.2]
end
abbrev rRepr (K : PySem.W.Frag) : List V → Hp → VK → Prop := fun xs H Q => ∃ a d, xs = [V.ref a] ∧ Dp K H (V.ref a) d ∧ d.hasDict = false ∧ d.showable = true ∧ d.depth ≤ 60 ∧ d.shown.length ≤ 16777216 ∧ Q (.str d.shown) H
theorem call_reprD (hG : NoG X.A) (hu : X.A.units + 64 < cLine) : CallR X (.builtin "repr") (rRepr X.K) := by
  intro pins s σ H xs us Q I r h
  obtain ⟨a, d, rfl, hd, nd, hs, h60, hz, q⟩ := h
  obtain ⟨u, rfl, ru⟩ := Vals.one r
  obtain ⟨as, hr⟩ := Dp.reads I d _ _ hd ru
  have eu : u = Value.ref a := ru
  subst eu
  refine repr_of_reads' hr hs (fun z => by rw [nd] at z; cases z) hG (by omega) (fun _ _ e => e) (fun h' t tk hk => ?_) hz
  exact ⟨.str d.shown, H, I.kept (t' := tk) hk, ⟨t, rfl⟩, q⟩
theorem cb_repr {K : PySem.W.Frag} {mg : Str → Option Value} : CbOk K mg (rRepr K) (fun xs => match xs with | [x] => gRepr x | _ => none) := fun H0 H σ ρ tmp xs z vs Q h hl I k => by
  match xs, hl, h, I with
  | [x], hl, h, I =>
    obtain ⟨v, rfl, I2⟩ := one_arg' hl I
    obtain ⟨s, cx, hx, _⟩ := I2.one'
    have fin : ∀ {a : Addr}, v = .ref a → okT 60 x = true ∧ (toD x).showable = true ∧ (toD x).shown.length ≤ 16777216 → z = .str (toD x).shown → rRepr K [v] H Q := fun {a} ev hc ez => by
      subst ev
      subst ez
      exact ⟨a, toD x, rfl, Rep.dp x _ _ (okT_noE 60 x hc.1) hx, toD_nd x (okT_noE 60 x hc.1), hc.2.1, (okT_lay 60 x hc.1).2, hc.2.2, k _ H (Same.refl H) (I2.drop1.flat (Same.refl H) fun s => rfl)⟩
    unfold gRepr at h
    simp only at h
    split at h
    · split at h
      · rename_i hc
        cases h
        obtain ⟨a, vs, ev, _⟩ := hx.tupS
        exact fin ev hc rfl
      · cases h
    · split at h
      · rename_i hc
        cases h
        obtain ⟨a, vs, c', ev, _⟩ := hx.lstS
        exact fin ev hc rfl
      · cases h
    · cases h
theorem fe_repr {p : Pos} (hG : NoG X.A) (hu : X.A.units + 64 < cLine) (hg : Gl X "repr") (hm : X.mg "repr" = none) (ha : FE X W a f) (he : starEach [a] X.env = (false, eval a X.env) :: starEach [] X.env := by rfl) (hpl : (backTo pos (starEach [] X.env)).any (·.1) = false := by rfl) :
    FE X W (.Call (.Name "repr" p) [a] [] pos) (eRepr f) := by
  have h := fe_callB (pos := pos) (call_reprD hG hu) cb_repr hg hm (by decide +kernel) (fa_cons ha fa_nil he) (by decide) (by decide) he hpl (p := p)
  have e : (eCb (fun xs => match xs with | [x] => gRepr x | _ => none) (aCons f aNil)) = eRepr f := by
    funext ρ
    unfold eCb eRepr aCons aNil
    cases f ρ with
    | none => rfl
    | some r =>
      cases r with
      | error x => rfl
      | ok r => rfl
  rwa [e] at h
end
end FL
namespace FL
open PySem PySem.Spec L2
open PyProof.Rows hiding St
/-! ## own exceptions: made, raised, held -/
/-- what the base class of the own exceptions must have -/
structure BaseC (K : PySem.W.Frag) (C0 : Addr) : Prop where
  ga : PySem.W.specialIn K (.ref C0) "__getattribute__" = some (some (.builtin "type.__getattribute__"))
  rd : PySem.W.readsIn K C0 (.type "type") = true
  ini : PySem.W.findCls K (.ref C0) (.type "type") "__init__" = some (.val (.builtin "ValueError.__init__"))
section
variable {X : Cx} {e : Expr} {es : List Expr} {ta : TA} {x : Str} {C0 : Addr} {p1 p2 pos : Pos}
theorem pe_cinit {pl : Sem Bool} (B : BaseC X.K C0) (hg : Gl X x) (hm : X.mg x = some (.ref C0)) (ha : PA X (e :: es) ta) (hdb : (x == ("__debug__" : Str)) = false := by decide)
    (hc : eval (.Call (.Attribute (.Name x p1) "__init__" p2) (e :: es) [] pos) X.env = (do
      let ov ← eval (.Name x p1) X.env
      standAt p2.atName
      let (f, first) ← holding [ov] (getMethod ov "__init__" pl)
      callWith pos f first (backTo pos (starEach (e :: es) X.env)) (backToKw pos (keywordEach [] X.env))) := by rfl)
    (he : starEach (e :: es) X.env = (false, eval e X.env) :: starEach es X.env := by rfl) (hpl : (backTo pos (starEach es X.env)).any (·.1) = false := by rfl) :
    PE X (.Call (.Attribute (.Name x p1) "__init__" p2) (e :: es) [] pos) (tVeI X.K ta) := by
  refine ⟨fun pins s σ H Q I h => ?_⟩
  refine PySem.W.methodCall_KW (ld_glob I hg hm ?_ hdb) hc
  refine PySem.W.method_cls I.kIn B.ga (PySem.W.cls_value I.kIn B.rd B.ini (by decide +kernel) ?_)
  show wpAny _ _ (callWith pos (Value.builtin "ValueError.__init__") [] (backTo pos (starEach (e :: es) X.env)) []) _ _ _
  refine PyProof.Rows.callWith_method1 (thn (ha.run pos pins _ σ H _ (I.tok _) h) fun us s1 ⟨vs, H1, I1, r1, a, C, ws, ev, hl, T, ea, q⟩ => ?_) he hpl
  subst ev
  cases r1 with
  | @cons _ u0 _ ur ra rw' =>
    obtain rfl : u0 = Value.ref a := ra
    have hlen : ur.length ≤ sizeLine := by
      rw [← Paired.length rw', sizeLine_eq]
      omega
    exact oinit_ok T I1 ea hlen fun s' J => ⟨.non, H1, J, rfl, q⟩
/-- what an own __init__ does: its fields are kept -/
def spInit (K : PySem.W.Frag) (C : Addr) (fls : List Str) : Sp := fun vs H Q _ => ∃ (a : Addr) (ws : List V), vs = .ref a :: ws ∧ ws.length = fls.length ∧ OexC K C ∧ H a = some (exo a C none) ∧
  ∀ d, H d = none → d ≠ a → Q .non (upd (upd H d (exd d (fls.zip ws).reverse)) a (exo a C (some d)))
def tIni (K : PySem.W.Frag) (m : Str) : TS := tDrop (tVeI K (tCons (tVar 0) (tCons (tC (.str m)) tNil)))
theorem init1 {P : Program} {w : World} {K : PySem.W.Frag} {mg : Str → Option Value} {base : Heap} {qual : Str} {st : Stmt} {f : Addr} {fd : FuncData} {k : Nat} {C : Addr} {f1 m : Str}
    (F : Fun K "__init__" qual st f fd) (Sc : FnScope ["self", f1] ["self", f1] (defScope st)) (h1 : PySem.W.findIn K (.ref C) f1 = some none)
    (hb : ∀ (cdv : Value) (A : Around) (outer : List Env) (s : Shared) (H : Hp) (E : XK), PSs (cxOf (L2.CX P w) P w K mg base ["self", f1] qual (defScope st) f cdv A outer s H E) (defBody st) (tSeq (tIni K m) (tOst K f1 (tVar 0) (tVar 1)))) :
    FnOk P w K mg base (L2.CX P w) (k + 1) f fd ["self", f1] (spInit K C [f1]) := by
  refine F.okX Sc (fun vs H Q E h => ?_) (fun cdv A outer s H vs Q E hr h => ⟨_, hb cdv A outer s H E, ?_⟩)
  · obtain ⟨a, ws, rfl, hl, _⟩ := h
    rw [List.length_cons, hl]
    rfl
  · obtain ⟨a, ws, rfl, hl, T, ha, hq⟩ := h
    obtain ⟨y, rfl⟩ : ∃ y, ws = [y] := by
      match ws, hl with
      | [y], _ => exact ⟨y, rfl⟩
    refine ⟨_, rfl, a, C, [.str m], rfl, by simp, T, ha, ?_⟩
    exact ⟨y, rfl, _, rfl, a, C, rfl, T, h1, .inl ⟨ha, fun d n ne => hq d n ne⟩⟩
theorem init3 {P : Program} {w : World} {K : PySem.W.Frag} {mg : Str → Option Value} {base : Heap} {qual : Str} {st : Stmt} {f : Addr} {fd : FuncData} {k : Nat} {C : Addr} {f1 f2 f3 m : Str}
    (F : Fun K "__init__" qual st f fd) (Sc : FnScope ["self", f1, f2, f3] ["self", f1, f2, f3] (defScope st)) (h1 : PySem.W.findIn K (.ref C) f1 = some none) (h2 : PySem.W.findIn K (.ref C) f2 = some none) (h3 : PySem.W.findIn K (.ref C) f3 = some none)
    (hb : ∀ (cdv : Value) (A : Around) (outer : List Env) (s : Shared) (H : Hp) (E : XK), PSs (cxOf (L2.CX P w) P w K mg base ["self", f1, f2, f3] qual (defScope st) f cdv A outer s H E) (defBody st) (tSeq (tIni K m) (tSeq (tOst K f1 (tVar 0) (tVar 1)) (tSeq (tOst K f2 (tVar 0) (tVar 2)) (tOst K f3 (tVar 0) (tVar 3)))))) :
    FnOk P w K mg base (L2.CX P w) (k + 1) f fd ["self", f1, f2, f3] (spInit K C [f1, f2, f3]) := by
  refine F.okX Sc (fun vs H Q E h => ?_) (fun cdv A outer s H vs Q E hr h => ⟨_, hb cdv A outer s H E, ?_⟩)
  · obtain ⟨a, ws, rfl, hl, _⟩ := h
    rw [List.length_cons, hl]
    rfl
  · obtain ⟨a, ws, rfl, hl, T, ha, hq⟩ := h
    obtain ⟨x, y, z, rfl⟩ : ∃ x y z, ws = [x, y, z] := by
      match ws, hl with
      | [x, y, z], _ => exact ⟨x, y, z, rfl⟩
    refine ⟨_, rfl, a, C, [.str m], rfl, by simp, T, ha, ?_⟩
    refine ⟨x, rfl, _, rfl, a, C, rfl, T, h1, .inl ⟨ha, fun d n ne => ?_⟩⟩
    refine ⟨y, rfl, _, rfl, a, C, rfl, T, h2, .inr ⟨d, _, upd_same, by rw [upd_ne ne]; exact upd_same, by simp, ?_⟩⟩
    refine ⟨z, rfl, _, rfl, a, C, rfl, T, h3, .inr ⟨d, [(f2, y), (f1, x)], by rw [upd_ne (Ne.symm ne)]; exact upd_same, upd_same, by simp, ?_⟩⟩
    have e : upd (upd (upd (upd H d (exd d [(f1, x)])) a (exo a C (some d))) d (exd d [(f2, y), (f1, x)])) d (exd d [(f3, z), (f2, y), (f1, x)]) = upd (upd H d (exd d [(f3, z), (f2, y), (f1, x)])) a (exo a C (some d)) := by
      funext b
      by_cases hbd : b = d
      · subst hbd
        rw [upd_same, upd_ne ne, upd_same]
      · rw [upd_ne hbd, upd_ne hbd]
        by_cases hba : b = a
        · subst hba
          rw [upd_same, upd_same]
        · rw [upd_ne hba, upd_ne hba, upd_ne hbd, upd_ne hbd]
    show Q V.non _
    rw [e]
    exact hq d n ne
end
/-! ### fields -/
mutual
def toFV : T → Option FV
  | .non => some .non
  | .int i => some (.int i)
  | .str x => some (.str x)
  | .tup ts => (toFVs ts).map .tup
  | _ => none
def toFVs : List T → Option (List FV)
  | [] => some []
  | t :: ts => match toFV t, toFVs ts with
    | some x, some xs => some (x :: xs)
    | _, _ => none
end
section
variable {K : PySem.W.Frag} {mg : Str → Option Value} {H : Hp} {s : Addr → Prop}
mutual
theorem FRep.of : ∀ (t : T) (x : FV) (v : V) (c : Cnt), toFV t = some x → Rep K mg H s t v c → FRep K H x v
  | .non, x, v, c, h, r => by cases h; exact r
  | .int i, x, v, c, h, r => by cases h; exact r
  | .str i, x, v, c, h, r => by cases h; exact r
  | .tup ts, x, v, c, h, r => by
    have h' : (toFVs ts).map FV.tup = some x := by simpa [toFV] using h
    obtain ⟨xs, hx, rfl⟩ := Option.map_eq_some_iff.mp h'
    obtain ⟨a, vs, rfl, h1, _, h2⟩ := r.tupS
    exact ⟨a, vs, rfl, h1, FReps.of ts xs vs c hx h2⟩
  | .bl _, _, _, _, h, _ => by simp [toFV] at h
  | .lst _ _, _, _, _, h, _ => by simp [toFV] at h
  | .exc _ _, _, _, _, h, _ => by simp [toFV] at h
  | .emp, _, _, _, h, _ => by simp [toFV] at h
  | .vid _, _, _, _, h, _ => by simp [toFV] at h
theorem FReps.of : ∀ (ts : List T) (xs : List FV) (vs : List V) (c : Cnt), toFVs ts = some xs → Reps K mg H s ts vs c → FReps K H xs vs
  | [], xs, vs, c, h, r => by
    have h' : [] = xs := by simpa [toFVs] using h
    subst h'
    exact r
  | t :: ts, xs, vs, c, h, r => by
    obtain ⟨v, w, c1, c2, rfl, _, h1, h2⟩ := r
    unfold toFVs at h
    split at h
    · rename_i y ys e1 e2
      cases h
      exact ⟨v, w, rfl, FRep.of t y v c1 e1 h1, FReps.of ts ys w c2 e2 h2⟩
    · cases h
end
theorem FReps.len : ∀ {xs : List FV} {vs : List V}, FReps K H xs vs → vs.length = xs.length
  | [], vs, h => by have h' : vs = [] := h; rw [h']; rfl
  | x :: xs, vs, h => by
    obtain ⟨v, r, rfl, _, h2⟩ := h
    rw [List.length_cons, List.length_cons, FReps.len h2]
/-- the same keys, related values -/
def Kv (K : PySem.W.Frag) (H : Hp) : List (Str × FV) → List (Str × V) → Prop
  | [], l => l = []
  | (f, x) :: r, l => ∃ v l', l = (f, v) :: l' ∧ FRep K H x v ∧ Kv K H r l'
theorem Kv.append : ∀ {a : List (Str × FV)} {b : List (Str × V)} {c : List (Str × FV)} {d : List (Str × V)}, Kv K H a b → Kv K H c d → Kv K H (a ++ c) (b ++ d)
  | [], b, c, d, h, k => by have h' : b = [] := h; subst h'; exact k
  | (f, x) :: r, b, c, d, h, k => by
    obtain ⟨v, l', rfl, h1, h2⟩ := h
    exact ⟨v, l' ++ d, rfl, h1, Kv.append h2 k⟩
theorem Kv.reverse : ∀ {a : List (Str × FV)} {b : List (Str × V)}, Kv K H a b → Kv K H a.reverse b.reverse
  | [], b, h => by have h' : b = [] := h; subst h'; exact rfl
  | (f, x) :: r, b, h => by
    obtain ⟨v, l', rfl, h1, h2⟩ := h
    rw [List.reverse_cons, List.reverse_cons]
    exact Kv.append (Kv.reverse h2) ⟨v, [], rfl, h1, rfl⟩
theorem Kv.zip : ∀ {fls : List Str} {xs : List FV} {vs : List V}, FReps K H xs vs → Kv K H (fls.zip xs) (fls.zip vs)
  | [], xs, vs, h => by simp [Kv]
  | f :: fls, [], vs, h => by have h' : vs = [] := h; subst h'; exact rfl
  | f :: fls, x :: xs, vs, h => by
    obtain ⟨v, r, rfl, h1, h2⟩ := h
    exact ⟨v, fls.zip r, rfl, h1, Kv.zip h2⟩
theorem Kv.lookup : ∀ {a : List (Str × FV)} {b : List (Str × V)}, Kv K H a b → ∀ f t, a.lookup f = some t → ∃ v, b.lookup f = some v ∧ FRep K H t v
  | [], b, h, f, t, e => by cases e
  | (g, x) :: r, b, h, f, t, e => by
    obtain ⟨v, l', rfl, h1, h2⟩ := h
    rw [List.lookup_cons] at e ⊢
    by_cases hf : f == g
    · rw [hf] at e ⊢
      cases e
      exact ⟨v, rfl, h1⟩
    · rw [Bool.not_eq_true] at hf
      rw [hf] at e ⊢
      exact Kv.lookup h2 f t e
end
/-! ### raise C(e, ..) -/
def sRaise (cls : Str) (fls : List Str) (fs : M (List T)) : S := fun ρ => sb (fs ρ) fun us ρ => match toFVs us with
  | some xs => if us.length = fls.length ∧ us.length ≤ 1000 then some (.error (⟨cls, (fls.zip xs).reverse⟩, ρ)) else none
  | none => none
structure XcI (P : Program) (w : World) (K : PySem.W.Frag) (mg : Str → Option Value) (base : Heap) (cls : Str) (k : Nat) (fls : List Str) : Prop where
  ex : ∃ C fI fd, mg cls = some (.ref C) ∧ OexC K C ∧ PySem.W.findIn K (.ref C) "__init__" = some (some (.ref fI)) ∧ PySem.W.typeIn K (.ref fI) = some (.type "function") ∧ FnOk P w K mg base (L2.CX P w) k fI fd ("self" :: fls) (spInit K C fls) ∧ Binds K fd ("self" :: fls) []
theorem fs_raise {X : Cx} {W : WX} {e : Expr} {es : List Expr} {fs : M (List T)} {cls : Str} {k : Nat} {fls : List Str} {p pos pos2 : Pos} (E : XcI X.prog X.w X.K X.mg X.base cls k fls) (hr : Room (k + 1) X.A) (hc : X.calm = true) (tk : Takes X W) (hg : Gl X cls) (ha : FA X W (e :: es) fs)
    (hdb : (cls == ("__debug__" : Str)) = false := by decide) (he : starEach (e :: es) X.env = (false, eval e X.env) :: starEach es X.env := by rfl) (hpl : (backTo pos (starEach es X.env)).any (·.1) = false := by rfl) :
    FS X W (.Raise (some (.Call (.Name cls p) (e :: es) [] pos)) none pos2) (sRaise cls fls fs) := by
  obtain ⟨C, fI, fd, hm, T, iC, tI, F1, hb⟩ := E
  obtain ⟨ta, pa, qa⟩ := ha
  have hx : Passes (L2.CX X.prog X.w) X (fun _ _ _ => False) := passes_call tk fun _ _ _ _ h => h.elim
  refine ⟨_, ps_raise hc tk (pmk_oex (dvs := []) (ds := []) T iC tI F1 hr hb .nil hx hg hm pa hdb he hpl), fun H0 H σ ρ tmp D nb I h => qa H0 H σ ρ tmp _ I (h.sb.imp fun us ρ1 h1 vs H1 e1 hl I1 => ?_)⟩
  split at h1
  · rename_i xs hxs
    split at h1
    · rename_i hc2
      obtain ⟨s, c, hP, hs, _, _, _⟩ := I1.take
      have hR := RepP.unzip hl hP
      have hF := FReps.of us xs vs c hxs hR
      refine ⟨by omega, fun a ha => ⟨a, vs, by rw [List.append_nil], by omega, T, upd_same, fun d hd hda => ⟨rfl, d, (fls.zip vs).reverse, upd_same, by rw [upd_ne hda]; exact upd_same, by rw [upd_ne hda] at hd; exact hd, ?_⟩⟩⟩
      rw [upd_ne hda] at hd
      have e2 : Same H1 (upd (del (upd (upd (upd H1 a (exo a C none)) d (exd d (fls.zip vs).reverse)) a (exo a C (some d))) a) d (.xd (fls.zip vs).reverse)) := fun b o hb => by
        have h1 : b ≠ a := fun z => by rw [z, ha] at hb; cases hb
        have h2 : b ≠ d := fun z => by rw [z, hd] at hb; cases hb
        rw [upd_ne h2, del_ne h1, upd_ne h1, upd_ne h2, upd_ne h1]
        exact hb
      refine h1 σ (.ref C) (some d) _ ((I1.drop).clear.same e2) ⟨hm, .inr ⟨d, _, rfl, upd_same, ?_⟩⟩
      intro f t ht
      exact Kv.lookup (Kv.reverse (Kv.zip (FReps.same e2 xs vs hF))) f t ht
    · exact h1.elim
  · exact h1.elim
/-! ### raise C("text"), C without own __init__ -/
def sRaise0 (cls : Str) : S := fun ρ => some (.error (⟨cls, []⟩, ρ))
theorem fs_raise0 {X : Cx} {W : WX} {cls m : Str} {C : Addr} {j : Nat} {bmB : List Value} {B newId initId : String} {p p2 pos pos2 : Pos} (F : ExcBaseFacts B newId initId bmB) (q : PySem.W.excIn X.K C bmB newId = true) (gC : X.mg cls = some (.ref C)) (kC : PySem.W.keepIn X.K (.ref C) = true) (r : Raises X (.ref C)) (hc : X.calm = true) (tk : Takes X W) (hg : Gl X cls)
    (hdb : (cls == ("__debug__" : Str)) = false := by decide) : FS X W (.Raise (some (.Call (.Name cls p) [.Constant (.str m) j p2] [] pos)) none pos2) (sRaise0 cls) :=
  ⟨_, ps_raise hc tk (pmk_own F q gC kC r hg hdb), fun H0 H σ ρ tmp D nb I h => h σ (.ref C) none H I.clear ⟨gC, .inl ⟨rfl, rfl⟩⟩⟩
end FL
namespace FL
open PySem PySem.Spec L2
open PyProof.Rows hiding St
/-! ## try: body, except C as n: suite; the exception is held as a value -/
section
variable {X : Cx} {pins : List (Addr × Obj)} {σ : L2.St} {H : Hp} {s : Shared}
/-- an object of the heap that is not tracked and was not there at the entry is tracked from here on -/
theorem invTrack {a : Addr} {C : Value} {d : Option Addr} {oe : Obj} {vs : Array Value} (I : Inv X pins σ H s) (n0 : X.s_0.heap.get? a = none) (na : H a = none) (e : s.heap.get? a = some oe) (z : Zc C d oe) (hd : oe.data = .fields vs)
    (nL : a ≠ X.env.locals) (np : ∀ p ∈ X.pn ++ pins, p.1 ≠ a) (nc : ∀ x c, X.env.cells.lookup x = some c → c ≠ a) : Inv X pins σ (upd H a (exv C d a)) s := by
  have ne0 : ∀ b o, X.s_0.heap.get? b = some o → b ≠ a := fun b o e z => by rw [z, n0] at e; cases e
  refine ⟨I.ok, I.os, I.bare, ⟨I.base.keep, I.base.slot, fun b o e n hx => ?_, I.base.there, fun b xs e => ?_, fun b o u e => ?_, fun b ps e => ?_⟩, I.loc, I.cell, ?_, fun x c e => ?_, fun p hp => ?_, fun b u e => ?_, I.len⟩
  · rw [upd_ne (ne0 b o e)]
    exact I.base.free b o e n hx
  · have q := I.base.tups b xs e
    rw [upd_ne (ne_of_none q na)]
    exact q
  · have q := I.base.frzs b o u e
    rw [upd_ne (ne_of_none q na)]
    exact q
  · obtain ⟨m, q⟩ := I.base.tbls b ps e
    exact ⟨m, by rw [upd_ne (ne_of_none q na)]; exact q⟩
  · rw [upd_ne (Ne.symm nL)]
    exact I.free
  · rw [upd_ne (nc x c e)]
    exact I.freeC x c e
  · obtain ⟨e, n, ne, nf, d⟩ := I.pin p hp
    exact ⟨e, by rw [upd_ne (np p hp)]; exact n, ne, nf, d⟩
  · by_cases hb : b = a
    · subst hb
      rw [upd_same] at e
      cases e
      exact ⟨⟨oe, vs, ‹_›, z, hd⟩, ⟨oe, ‹_›⟩, fun h1 h2 ⟨o, v, q, r⟩ k => ⟨o, v, k _ q, r⟩⟩
    · rw [upd_ne hb] at e
      exact (I.hok b u e).stay (fun c v _ q => q) (fun c q => by rw [upd_ne (ne_of_none q na)]; exact q) fun c xs q => by rw [upd_ne (ne_of_none q na)]; exact q
end
section
variable {X : Cx} {pins : List (Addr × Obj)} {σ : L2.St} {H : Hp} {s : Shared}
theorem invSuite (I : Inv X pins σ H s) (a : Addr) : Inv (X.suite a (X.pn ++ pins)) [] σ H s :=
  ⟨I.ok.suite _ _, I.os, I.bare, I.base, I.loc, I.cell, I.free, I.freeC, fun p hp => I.pin p (by rw [List.append_nil] at hp; exact hp), I.hok, I.len⟩
theorem invUnsuite {a : Addr} {pn' : List (Addr × Obj)} (I : Inv (X.suite a (X.pn ++ pins)) pn' σ H s) (ok : X.Ok) : Inv X pins σ H s :=
  ⟨ok, I.os, I.bare, I.base, I.loc, I.cell, I.free, I.freeC, fun p hp => I.pin p (List.mem_append_left _ hp), I.hok, I.len⟩
end
def wHold (K : PySem.W.Frag) (c : Value) (i : Nat) (ts : TS) (Wout : WX) (D : Ends) : WX := fun cls d σ H =>
  ∃ b, PySem.W.exmOne K cls c = some b ∧ (b = true → ∀ a, H a = none → ts { nx := fun σ' H' => D.nx (σ'.set i none) H', rt := D.rt, bk := fun σ' H' => D.bk (σ'.set i none) H', ct := fun σ' H' => D.ct (σ'.set i none) H' } (σ.set i (some (.ref a))) (upd H a (exv cls d a))) ∧
    (b = false → Wout cls d σ H)
section
variable {X : Cx} {x n : Str} {c : Value} {i : Nat} {body suite : List Stmt} {b₀ : Stmt} {np pos pos' : Pos} {tb : WX → TS} {ts : TS} {Wout : WX}
theorem ps_try_hold (hs : X.stack = X.env :: X.outer) (hf : X.env.frame = some X.env.locals) (hN : X.N.Nodup) (hi : X.N[i]? = some n) (hln : X.env.kindOf n = some .local) (hex : X.ex = []) (hc : Names X x c) (tk : Takes X Wout)
    (hb : ∀ (W : WX) (pn : List (Addr × Obj)) (xe : Value → Shared → Prop), Takes (X.tr pn xe) W → PassesOwn (model X.prog X.w) X.A X.env xe → PSs (X.tr pn xe) body (tb W))
    (hsu : ∀ (a : Addr) (pn : List (Addr × Obj)), PSs (X.suite a pn) (b₀ :: suite) ts) :
    PS X (.Try body [.ExceptHandler (some (.Name x np)) (some n) (b₀ :: suite) pos'] [] [] pos) (fun D σ H => tb (wHold X.K c i ts Wout D) D σ H) := by
  refine ⟨fun pins s σ H D I h => ?_⟩
  have ok := I.ok
  have hfs : X.A.frames = some (X.env :: X.outer) := by rw [ok.frames, hs]
  have hlc : Loc X.env.scope n := .inl hln
  refine wpAny_Try_except ?_
  refine wpAny_mono ((hb (wHold X.K c i ts Wout D) (X.pn ++ pins) (fun e s₁ => wpAny (model X.prog X.w) X.A (noteFrame e X.env) (fun _ s₂ => wpAny (model X.prog X.w) X.A (setFlight e none) (fun _ s₃ =>
    wpAny (model X.prog X.w) X.A (handleBy e X.env [.ExceptHandler (some (.Name x np)) (some n) (b₀ :: suite) pos']) (SP X pins D) X.xe s₃) X.xe s₂) X.xe s₁) (fun u s' hx1 => ?_) PassesOwn.looking).run [] s σ H D (I.toTry _) h) (fun f s1 hq9 => ?_) (fun e s1 he => he)
  · -- the catch
    obtain ⟨a, B, sI, pn1, σ1, H9, cls, d, rfl, J0, nb1, up1, sk1, na1, os1, ag1, b, hb9, hy9, hn9⟩ := hx1
    have J1 : Inv X pins σ1 H9 sI := J0.ofTry ok
    have sk2 : Sky B (X.env :: X.outer) a (Zc cls d) X.env.locals s'.heap := by rw [← hs]; exact sk1
    show wpAny (model X.prog X.w) X.A (noteFrame (.ref a) X.env) _ _ _
    refine Sky.land Zc.steady hfs hf sk2 fun hp3 g3 q3 => ?_
    have Y3 : Inv X pins σ1 H9 { s' with heap := hp3 } := J1.landed nb1 g3.1 (up1.trans q3) os1 ag1
    obtain ⟨o3, w3, e3, z3, d3⟩ := g3.there
    have nfr9 : ∀ {h : Heap} {o : Obj} {vs : Array Value}, h.FunFrames B (X.env :: X.outer) → h.get? a = some o → o.data = .fields vs → a ∉ frs (X.env :: X.outer) := fun {h o vs} ff e dd hm => by
      obtain ⟨_, o', e', hnf⟩ := ff.mem hm
      rw [e] at e'; cases e'
      exact hnf _ dd
    have nf9 := nfr9 g3.2.2.1 e3 d3
    have nL : a ≠ X.env.locals := fun z => nf9 (List.mem_filterMap.mpr ⟨X.env, List.mem_cons_self, by rw [hf, z]⟩)
    have nF : a ∉ X.fs := fun hm => by
      obtain ⟨e, he, q⟩ := List.mem_filterMap.mp hm
      exact nf9 (List.mem_filterMap.mpr ⟨e, List.mem_cons_of_mem _ he, q⟩)
    have R3 := Y3.suite e3 d3 na1 nL nF
    refine wpAny_handleBy_cons (codeAny_handlers_test ?_) (by intro q; cases q)
    have LT9 : PySem.W.Looks (model X.prog X.w) hp3 (typeOf (.ref a)) cls := fun A Q E s k q => wpAny_typeOf_ref (k _ _ e3) (by rw [z3.1]; exact q)
    have LM9 := PySem.W.exm_one (M := model X.prog X.w) (Y3.kIn) LT9 hb9
    have tst : ∀ {Q : Value → Shared → Prop} {E : Value → Shared → Prop}, Q c { s' with heap := hp3 } → wpAny (model X.prog X.w) (X.A.mark (some (.ref a))) (eval (.Name x np) X.env) Q E { s' with heap := hp3 } := fun {Q E} q => by
      obtain ⟨hg, hdbg, hm | ⟨hm, hv, hnn⟩⟩ := hc
      · exact ld_glob (X := X.suite a ((a, o3) :: (X.pn ++ pins))) R3 hg hm q hdbg
      · exact ld_blt (X := X.suite a ((a, o3) :: (X.pn ++ pins))) R3 hg hm hv q hnn hdbg
    refine tst (LM9.here ?_)
    cases b with
    | true =>
      refine codeAny_handlers_suite_as ?_
      refine HandSPX.lands_againZ g3 fun hp4 g4 q4 => ?_
      have Y4 : Inv X pins σ1 H9 { s' with heap := hp4 } := J1.landed nb1 g4.1 ((up1.trans q3).trans q4) os1 ag1
      obtain ⟨o4, w4, e4, z4, d4⟩ := g4.there
      have hsI : sI.heap.get? a = none := by
        cases e : sI.heap.get? a with
        | none => rfl
        | some o =>
          have := nb1 a o e (by rw [hs]; exact nf9)
          rw [g3.2.1] at this
          cases this
      have n0 : X.s_0.heap.get? a = none := by
        cases e : X.s_0.heap.get? a with
        | none => rfl
        | some o =>
          obtain ⟨o', q⟩ := J1.base.there a o e (by rw [hex]; exact fun z => nomatch z)
          rw [hsI] at q
          cases q
      have K4 := invTrack Y4 n0 na1 e4 z4 d4 nL (fun p hp z => by
        have q := (J1.pin p hp).1
        rw [z, hsI] at q
        cases q) (fun x c e z => by
        obtain ⟨v, o, q, _⟩ := J1.cell x c e
        rw [z, hsI] at q
        cases q)
      have S4 := invSuite K4 a
      refine store_ok (X := X.suite a (X.pn ++ pins)) (v := .ref a) S4 hN hi hlc rfl (fun s8 R5 => ?_) (.inr hln)
      refine wpAny_mono ((hsu a (X.pn ++ pins)).run [] s8 _ _ _ R5 (hy9 rfl a na1)) (fun f s9 hq9 => ?_) (fun _ _ z => False.elim z)
      have fin9 : ∀ {σ9 : St} {H8 : Hp} {Q : Shared → Prop}, Inv (X.suite a (X.pn ++ pins)) [] σ9 H8 s9 → (∀ s77, Inv X pins (σ9.set i none) H8 s77 → Q s77) →
          wpAny (model X.prog X.w) X.A (do bindName X.env n .none; unbindBehindTheSuite X.env n pos') (fun _ s77 => Q s77) X.xe s9 := fun {σ9 H8 Q} R6 hq => gone_ok (invUnsuite R6 ok) hN hi hln hq
      cases f with
      | next =>
        obtain ⟨σ9, H8, R6, q9⟩ := hq9
        exact fin9 R6 fun s77 Y7 => ⟨_, _, Y7, q9⟩
      | brk =>
        obtain ⟨σ9, H8, R6, q9⟩ := hq9
        exact fin9 R6 fun s77 Y7 => ⟨_, _, Y7, q9⟩
      | cont =>
        obtain ⟨σ9, H8, R6, q9⟩ := hq9
        exact fin9 R6 fun s77 Y7 => ⟨_, _, Y7, q9⟩
      | ret u =>
        obtain ⟨v9, σ9, H8, R6, r9, q9⟩ := hq9
        exact fin9 R6 fun s77 Y7 => ⟨_, _, _, Y7, r9, q9⟩
    | false =>
      show wpAny _ X.A (handleBy (.ref a) X.env []) _ _ _
      refine wpAny_handleBy_nil ?_
      obtain ⟨kk1, kk2, kk3, oe, vs, T, oT, ts', he, hz, hd, h1, hr⟩ := id g3
      unfold PySem.passOn
      refine wpAny_bind (wpAny_field he hd h1 ?_)
      rw [if_neg (show ¬ ((Value.ref T == Value.none) = true) from by simp)]
      have fin8 : wpAny (model X.prog X.w) X.A (setFlight (.ref a) X.env.frame) (fun _ s4 => wpAny (model X.prog X.w) X.A (throw (.ref a) : Sem Flow) (SP X pins D) X.xe s4) X.xe { s' with heap := hp3 } := by
        rw [hf]
        refine HandSPX.setFlight_upZ g3 fun hp4 hh4 q4 => wpAny_throw (tk _ _ ?_)
        exact ⟨a, B, sI, pins, σ1, H9, cls, d, rfl, J1, nb1, (up1.trans q3).trans q4, .inr (.inr (by rw [hs]; exact hh4)), na1, os1, ag1, hn9 rfl⟩
      first
        | exact wpAny_bind (wpAny_pure (wpAny_bind fin8))
        | exact wpAny_bind fin8
  · cases f with
    | next =>
      obtain ⟨σ1, H9, J0, q⟩ := hq9
      exact wpAny_execs_nil ⟨σ1, H9, J0.ofTry ok, q⟩
    | brk =>
      obtain ⟨σ1, H9, J0, q⟩ := hq9
      exact ⟨σ1, H9, J0.ofTry ok, q⟩
    | cont =>
      obtain ⟨σ1, H9, J0, q⟩ := hq9
      exact ⟨σ1, H9, J0.ofTry ok, q⟩
    | ret u =>
      obtain ⟨v, σ1, H9, J0, r, q⟩ := hq9
      exact ⟨v, σ1, H9, J0.ofTry ok, r, q⟩
end
end FL
namespace FL
open PySem PySem.Spec L2
open PyProof.Rows hiding St
/-! ## statements at a def's top: nothing else is held -/
def Fs0 (K : PySem.W.Frag) (mg : Str → Option Value) (W : WX) (t : TS) (s : S) : Prop := ∀ H0 H σ ρ (D : Ends), Iv K mg H0 H σ ρ [] → Pq K mg W H0 [] D (s ρ) → t D σ H
structure FS0 (X : Cx) (W : WX) (st : Stmt) (s : S) : Prop where
  ex : ∃ t, PS X st t ∧ Fs0 X.K X.mg W t s
structure FSs0 (X : Cx) (W : WX) (st : List Stmt) (s : S) : Prop where
  ex : ∃ t, PSs X st t ∧ Fs0 X.K X.mg W t s
theorem nb_nil : Nb [] := fun p hp => by cases hp
section
variable {X : Cx} {W : WX} {st : Stmt} {rest : List Stmt} {s s' : S}
theorem FS.top (h : FS X W st s) : FS0 X W st s := by
  obtain ⟨t, p, q⟩ := h
  exact ⟨t, p, fun H0 H σ ρ D I k => q H0 H σ ρ [] D nb_nil I k⟩
theorem FSs.top (h : FSs X W rest s) : FSs0 X W rest s := by
  obtain ⟨t, p, q⟩ := h
  exact ⟨t, p, fun H0 H σ ρ D I k => q H0 H σ ρ [] D nb_nil I k⟩
end
theorem delS {K : PySem.W.Frag} {mg : Str → Option Value} {H : Hp} {s : Addr → Prop} {c : Cnt} {ρ : En} {σ : L2.St} {i : Nat} (h : RepS K mg H s ρ σ c) : RepS K mg H s (ρ.set i none) (σ.set i none) c := by
  induction ρ generalizing σ c i with
  | nil =>
    have h' : σ = [] := h
    subst h'
    exact rfl
  | cons o ρ ih =>
    obtain ⟨x, r, c1, c2, rfl, h1, h2, h3⟩ := h
    cases i with
    | zero => exact ⟨none, r, c1, c2, rfl, h1, fun t ht => (nomatch ht), h3⟩
    | succ i => exact ⟨x, r.set i none, c1, c2, rfl, h1, h2, ih h3⟩
theorem Iv.del {K : PySem.W.Frag} {mg : Str → Option Value} {H0 H : Hp} {σ : L2.St} {ρ : En} {tmp : List (T × V)} {i : Nat} (I : Iv K mg H0 H σ ρ tmp) : Iv K mg H0 H (σ.set i none) (ρ.set i none) tmp := by
  obtain ⟨ext, c, s, c1, c2, w, hc, hS, hP⟩ := I
  exact ⟨ext, c, s, c1, c2, w, hc, delS hS, hP⟩
def sTry (i : Nat) (sub : Str → Option Bool) (body suite : S) : S := fun ρ => match body ρ with
  | some (.error (x, ρ')) => (match sub x.cls with
    | some true => (match suite (ρ'.set i (some (.exc x.cls x.fs))) with
      | some (.ok (.nx ρ2)) => some (.ok (.nx (ρ2.set i none)))
      | some (.ok (.bk ρ2)) => some (.ok (.bk (ρ2.set i none)))
      | some (.ok (.ct ρ2)) => some (.ok (.ct (ρ2.set i none)))
      | some (.ok (.rt u)) => some (.ok (.rt u))
      | _ => none)
    | some false => some (.error (x, ρ'))
    | none => none)
  | r => r
section
variable {X : Cx} {Wout : WX} {x n : Str} {c : Value} {i : Nat} {body suite : List Stmt} {b₀ : Stmt} {np pos pos' : Pos} {sb ss : S} {sub : Str → Option Bool}
theorem fs0_try (hs : X.stack = X.env :: X.outer) (hf : X.env.frame = some X.env.locals) (hN : X.N.Nodup) (hi : X.N[i]? = some n) (hln : X.env.kindOf n = some .local) (hex : X.ex = []) (hc : Names X x c) (tk : Takes X Wout)
    (hsub : ∀ y b, sub y = some b → ∀ C, X.mg y = some C → PySem.W.exmOne X.K C c = some b)
    (hb : ∀ (W : WX) (pn : List (Addr × Obj)) (xe : Value → Shared → Prop), Takes (X.tr pn xe) W → PassesOwn (model X.prog X.w) X.A X.env xe → FSs (X.tr pn xe) W body sb)
    (hsu : ∀ (a : Addr) (pn : List (Addr × Obj)), FSs (X.suite a pn) (fun _ _ _ _ => False) (b₀ :: suite) ss) :
    FS0 X Wout (.Try body [.ExceptHandler (some (.Name x np)) (some n) (b₀ :: suite) pos'] [] [] pos) (sTry i sub sb ss) := by
  let tb : WX → TS := fun W D σ H => ∀ pn xe (h1 : Takes (X.tr pn xe) W) (h2 : PassesOwn (model X.prog X.w) X.A X.env xe), (hb W pn xe h1 h2).ex.choose D σ H
  let ts : TS := fun D σ H => ∀ a pn, (hsu a pn).ex.choose D σ H
  refine ⟨_, ps_try_hold (tb := tb) (ts := ts) hs hf hN hi hln hex hc tk (fun W pn xe h1 h2 => ⟨fun pins s σ H D I h => (hb W pn xe h1 h2).ex.choose_spec.1.run pins s σ H D I (h pn xe h1 h2)⟩) (fun a pn => ⟨fun pins s σ H D I h => (hsu a pn).ex.choose_spec.1.run pins s σ H D I (h a pn)⟩), fun H0 H σ ρ D I h => ?_⟩
  intro pn xe h1 h2
  refine (hb _ pn xe h1 h2).ex.choose_spec.2 H0 H σ ρ [] D nb_nil I ?_
  revert h
  unfold sTry
  rcases sb ρ with _ | ⟨⟨y, ρ'⟩ | fl⟩
  · exact fun h => h
  · intro h σ1 cls d H1 I1 rx
    dsimp only at h
    cases hsx : sub y.cls with
    | none =>
      rw [hsx] at h
      exact h.elim
    | some b =>
      rw [hsx] at h
      refine ⟨b, hsub _ _ hsx cls rx.1, fun hbt a ha a2 pn2 => ?_, fun hbf => ?_⟩
      · subst hbt
        dsimp only at h
        have e2 : Same H1 (upd H1 a (exv cls d a)) := fun b o q => by rw [upd_ne (ne_of_none q ha)]; exact q
        have I2 : Iv X.K X.mg H0 (upd H1 a (exv cls d a)) (σ1.set i (some (.ref a))) (ρ'.set i (some (.exc y.cls y.fs))) [] := by
          have I3 : Iv X.K X.mg H0 (upd H1 a (exv cls d a)) σ1 ρ' [(.exc y.cls y.fs, .ref a)] := I1.flat e2 fun s => ⟨a, cls, d, rfl, upd_same, rx.1, rx.2.same e2⟩
          exact I3.put rfl
        refine (hsu a2 pn2).ex.choose_spec.2 H0 _ _ _ [] _ nb_nil I2 ?_
        revert h
        rcases ss (ρ'.set i (some (.exc y.cls y.fs))) with _ | ⟨z | fl⟩
        · exact fun h => h.elim
        · exact fun h => h.elim
        · cases fl with
          | nx ρ2 => exact fun h σ2 H2 I2 => h _ _ I2.del
          | rt u => exact fun h => h
          | bk ρ2 => exact fun h σ2 H2 I2 => h _ _ I2.del
          | ct ρ2 => exact fun h σ2 H2 I2 => h _ _ I2.del
      · subst hbf
        exact h σ1 cls d H1 I1 rx
  · cases fl <;> exact fun h => h
end
section
variable {X : Cx} {W : WX} {st : Stmt} {rest : List Stmt} {s s' : S}
theorem fss0_cons (h1 : FS0 X W st s) (h2 : FSs0 X W rest s') : FSs0 X W (st :: rest) (sSeq s s') := by
  obtain ⟨t1, p1, q1⟩ := h1
  obtain ⟨t2, p2, q2⟩ := h2
  refine ⟨_, pss_cons p1 p2, fun H0 H σ ρ D I h => q1 H0 H σ ρ _ I ?_⟩
  unfold sSeq at h
  revert h
  rcases s ρ with _ | ⟨x | fl⟩
  · exact fun h => h
  · exact fun h => h
  · cases fl with
    | nx ρ' => exact fun h σ' H' I' => q2 H0 H' σ' ρ' D I' h
    | _ => exact fun h => h
theorem fss0_one (h1 : FS0 X W st s) : FSs0 X W [st] s := by
  obtain ⟨t1, p1, q1⟩ := h1
  exact ⟨_, pss_one p1, q1⟩
end
theorem fs_enter0 {K : PySem.W.Frag} {mg : Str → Option Value} {t : TS} {body : S} {N : List Str} {n : Nat} {vs : List V} {H : Hp} {Q : VK} {E : XK} (qt : Fs0 K mg (fun cls d _ H' => E cls d H') t body) (h : spF K mg n (dfOf N.length body) vs H Q E) :
    t { nx := fun _ H' => Q .non H', rt := Q } (L2.start N vs) H := by
  obtain ⟨ts, h1, hb, h2, h3⟩ := h
  refine qt H H (L2.start N vs) (ts.map some ++ List.replicate (N.length - ts.length) none) _ ⟨Same.refl H, zc, fun b => H b ≠ none, zc, zc, ⟨fun b => Nat.zero_le _, fun b hb => absurd hb (by simp), fun b hb => hb⟩, fun b => Nat.le_refl _, ?_, True.intro⟩ ?_
  · unfold L2.start
    rw [Reps.length h2]
    exact start_reps hb h2
  · unfold dfOf at h3
    revert h3
    cases body (ts.map some ++ List.replicate (N.length - ts.length) none) with
    | none => exact fun h => h
    | some r =>
      cases r with
      | error x => exact fun h σ' cls d H' I' rx => h cls d H' I'.ext rx
      | ok fl =>
        cases fl with
        | nx ρ' => exact fun h σ' H' I' => h .non H' I'.ext ⟨zc, fun b => Nat.zero_le _, fun b hb => absurd hb (by simp), rfl⟩
        | rt u => exact fun h => h
        | bk u => exact fun h => h.elim
        | ct u => exact fun h => h.elim
theorem fn_ok0 {P : Program} {w : World} {K : PySem.W.Frag} {mg : Str → Option Value} {base : Heap} {x qual : Str} {st : Stmt} {f : Addr} {fd : FuncData} {N ps : List Str} {k : Nat} {body : S} (n : Nat) (F : Fun K x qual st f fd) (Sc : FnScope N ps (defScope st)) (hn : ps.length = n)
    (hbody : ∀ (cdv : Value) (A : Around) (outer : List Env) (s : Shared) (H : Hp) (E : XK), Room k (A.deeper (envOfC qual (defScope st) s.heap.objs.size f cdv)) →
      Takes (cxOf (L2.CX P w) P w K mg base N qual (defScope st) f cdv A outer s H E) (fun cls d _ H' => E cls d H') →
      PassesOwn (model P w) (A.deeper (envOfC qual (defScope st) s.heap.objs.size f cdv)) (envOfC qual (defScope st) s.heap.objs.size f cdv) (cxOf (L2.CX P w) P w K mg base N qual (defScope st) f cdv A outer s H E).xe →
      FSs0 (cxOf (L2.CX P w) P w K mg base N qual (defScope st) f cdv A outer s H E) (fun cls d _ H' => E cls d H') (defBody st) body) :
    FnOk P w K mg base (L2.CX P w) (k + 1) f fd ps (spF K mg n (dfOf N.length body)) := by
  refine F.okX Sc (fun vs H Q E h => ?_) (fun cdv A outer s H vs Q E hr h => ?_)
  · obtain ⟨ts, h1, _, h2, _⟩ := h
    rw [Reps.length h2, h1, hn]
  · obtain ⟨ts, h1, hb, h2, h3⟩ := h
    have tk : Takes (cxOf (L2.CX P w) P w K mg base N qual (defScope st) f cdv A outer s H E) (fun cls d _ H' => E cls d H') := takes_of rfl rfl rfl rfl
    have po : PassesOwn (model P w) (A.deeper (envOfC qual (defScope st) s.heap.objs.size f cdv)) (envOfC qual (defScope st) s.heap.objs.size f cdv) (cxOf (L2.CX P w) P w K mg base N qual (defScope st) f cdv A outer s H E).xe := passes_of (X := cxOf (L2.CX P w) P w K mg base N qual (defScope st) f cdv A outer s H E) rfl
    obtain ⟨t, pt, qt⟩ := hbody cdv A outer s H E hr tk po
    exact ⟨t, pt, fs_enter0 qt ⟨ts, h1, hb, h2, h3⟩⟩
theorem cal_mk0 {P : Program} {w : World} {K : PySem.W.Frag} {mg : Str → Option Value} {base : Heap} {x qual : Str} {st : Stmt} {f : Addr} {fd : FuncData} {N ps : List Str} {k : Nat} {body : S} (n : Nat) (F : Fun K x qual st f fd) (hm : mg x = some (.ref f)) (hb : Binds K fd ps []) (Sc : FnScope N ps (defScope st)) (hn : ps.length = n)
    (hbody : ∀ (cdv : Value) (A : Around) (outer : List Env) (s : Shared) (H : Hp) (E : XK), Room k (A.deeper (envOfC qual (defScope st) s.heap.objs.size f cdv)) →
      Takes (cxOf (L2.CX P w) P w K mg base N qual (defScope st) f cdv A outer s H E) (fun cls d _ H' => E cls d H') →
      PassesOwn (model P w) (A.deeper (envOfC qual (defScope st) s.heap.objs.size f cdv)) (envOfC qual (defScope st) s.heap.objs.size f cdv) (cxOf (L2.CX P w) P w K mg base N qual (defScope st) f cdv A outer s H E).xe →
      FSs0 (cxOf (L2.CX P w) P w K mg base N qual (defScope st) f cdv A outer s H E) (fun cls d _ H' => E cls d H') (defBody st) body) : Cal P w K mg base x (k + 1) n (dfOf N.length body) :=
  ⟨f, fd, ps, hm, F.kp, hb, fn_ok0 n F Sc hn hbody, fun h0 => List.length_eq_zero_iff.mp (hn.trans h0)⟩
theorem cal_mkG0 {P : Program} {w : World} {K : PySem.W.Frag} {mg : Str → Option Value} {base : Heap} {x qual : Str} {st : Stmt} {f : Addr} {fd : FuncData} {N ps : List Str} {k : Nat} {body : S} (n : Nat) (F : Fun K x qual st f fd) (hm : mg x = some (.ref f)) (hb : Binds K fd ps []) (Sc : FnScope N ps (defScope st)) (hn : ps.length = n)
    (hbody : ∀ (cdv : Value) (A : Around) (outer : List Env) (s : Shared) (H : Hp) (E : XK), NoG (A.deeper (envOfC qual (defScope st) s.heap.objs.size f cdv)) → Room k (A.deeper (envOfC qual (defScope st) s.heap.objs.size f cdv)) →
      Takes (cxOf (L2.CX P w) P w K mg base N qual (defScope st) f cdv A outer s H E) (fun cls d _ H' => E cls d H') →
      PassesOwn (model P w) (A.deeper (envOfC qual (defScope st) s.heap.objs.size f cdv)) (envOfC qual (defScope st) s.heap.objs.size f cdv) (cxOf (L2.CX P w) P w K mg base N qual (defScope st) f cdv A outer s H E).xe →
      FSs0 (cxOf (L2.CX P w) P w K mg base N qual (defScope st) f cdv A outer s H E) (fun cls d _ H' => E cls d H') (defBody st) body) : CalG P w K mg base x (k + 1) n (dfOf N.length body) := by
  refine ⟨f, fd, ps, hm, F.kp, hb, fn_okG F Sc (fun vs H Q E h => ?_) (fun cdv A outer s H vs Q E hG hr h => ?_)⟩
  · obtain ⟨ts, h1, _, h2, _⟩ := h
    rw [Reps.length h2, h1, hn]
  · have tk : Takes (cxOf (L2.CX P w) P w K mg base N qual (defScope st) f cdv A outer s H E) (fun cls d _ H' => E cls d H') := takes_of rfl rfl rfl rfl
    have po : PassesOwn (model P w) (A.deeper (envOfC qual (defScope st) s.heap.objs.size f cdv)) (envOfC qual (defScope st) s.heap.objs.size f cdv) (cxOf (L2.CX P w) P w K mg base N qual (defScope st) f cdv A outer s H E).xe := passes_of (X := cxOf (L2.CX P w) P w K mg base N qual (defScope st) f cdv A outer s H E) rfl
    obtain ⟨t, pt, qt⟩ := hbody cdv A outer s H E hG hr tk po
    exact ⟨t, pt, fs_enter0 qt h⟩
end FL
namespace FL
open PySem PySem.Spec L2
open PyProof.Rows hiding St
/-! ## {} as a value; a number is none -/
section
open PySem.SeqAt PySem.MeetsSeq
open PySem.AutoSeq1 (wpAny_loadPart')
theorem dict_no_int (l : Addr) (es : Array DictEntry) (ep : Nat) (dd : Option Addr) (sl : Array (Option Value)) (b : Int) (u : Tok) :
    Meets (Builtin.«dict.__eq__» ⟨[.ref l, .int b u], []⟩) (fun _ R s => s.heap.get? l = some { cls := .type "dict", dict := dd, data := .dict es ep, slots := sl } ∧ R (.ok (.ret .notImplemented)) s) :=
  .of_wp fun prog w A R s h => by obtain ⟨hp, g, d, tk, os⟩ := s; obtain ⟨hl, h⟩ := h; have f1 := PySem.F.sub_int_dict; wp_walk using wpAny_loadPart' hl; exact ⟨_, rfl, h⟩
theorem int_no_dict (b : Int) (u : Tok) (l : Addr) (c : Value) (es : Array DictEntry) (ep : Nat) (dd : Option Addr) (sl : Array (Option Value)) :
    Meets (Builtin.«int.__eq__» ⟨[.int b u, .ref l], []⟩) (fun _ R s => s.heap.get? l = some { cls := c, dict := dd, data := .dict es ep, slots := sl } ∧ R (.ok (.ret .notImplemented)) s) :=
  .of_wp fun prog w A R s h => by obtain ⟨hp, g, d, tk, os⟩ := s; obtain ⟨hl, h⟩ := h; wp_walk using wpAny_loadPart' hl, wpAny_load hl; exact ⟨_, rfl, h⟩
variable {A : Around} {s : Shared}
theorem eqAt_int_dict {l : Addr} {o : Obj} {es : Array DictEntry} {ep : Nat} (b : Int) (u : Tok) (ho : s.heap.get? l = some o) (hc : o.cls = .type "dict") (hd : o.data = .dict es ep) (hu : A.units < cLine) : EqAt A s (.int b u) (.ref l) false := fun prog w E Q h => by
  obtain ⟨cls, dd, data, sl⟩ := o
  simp only at hc hd
  subst hc hd
  unfold eqBool
  refine wpAny_holding ?_
  refine wpAny_ite_split (fun hab => absurd (eq_of_beq hab) nofun) (fun _ => ?_)
  exact wpAny_bind (rc_eq_decline_or (k := false) (typeIs_int s b u) ⟨_, ho, rfl⟩ (by decide) PySem.F.sub_dict_int PySem.F.slot_int_eq PySem.F.slot_dict_eq_refl
    (fun _ hq => call_meets PySem.F.slot_int_eq (typeIs_int s b u) PySem.F.entry_int_eq (PySem.F.args_int_eq_2 _ _) (int_no_dict b u l (.type "dict") es ep dd sl) ⟨ho, hq⟩)
    (fun _ hq => call_meets PySem.F.slot_dict_eq_refl ⟨_, ho, rfl⟩ PySem.F.entry_dict_eq (PySem.F.args_dict_eq_2 _ _) (dict_no_int l es ep dd sl b u) ⟨ho, hq⟩)
    (fun _ hq => wpAny_of_eq (rfl : isSame (.int b u) (.ref l) = pure false) hq) (.inr hu) (wpAny_truthy_bool h))
end
section
variable {X : Cx} {pins : List (Addr × Obj)} {σ : L2.St} {H : Hp} {s : Shared}
/-- a dict that is read alone -/
theorem emp_obj {a : Addr} {o : Obj} (I : Inv X pins σ H s) (h : H a = some (.frz o (.dK []))) : ∃ u es ep, s.heap.get? a = some u ∧ u.cls = .type "dict" ∧ u.data = .dict es ep := by
  obtain ⟨_, _, _, vs, _, u, es, ep, h1, h2, h3, _⟩ := (show ObjOk X.prog X.w H s.heap a (.frz o (.dK [])) from I.hok a _ h)
  exact ⟨u, es, ep, h1, h2.1, h3⟩
def allInt (xs : List V) : Prop := ∀ x ∈ xs, ∃ i, x = .int i
def rEmpIn (K : PySem.W.Frag) (neg : Bool) : R2 := fun x y H Q => ∃ a o p xs, x = .ref a ∧ H a = some (.frz o (.dK [])) ∧ y = .ref p ∧ SqL K H p xs ∧ allInt xs ∧ Q (.bl neg) H
theorem mem_emp {A : Around} {a : Addr} {u : Obj} {es : Array DictEntry} {ep : Nat} (hu : A.units < cLine) (h1 : s.heap.get? a = some u) (h2 : u.cls = .type "dict") (h3 : u.data = .dict es ep) : ∀ {xs : List V} {us : List Value}, Vals xs us → allInt xs → ∀ w ∈ us, SeqAt.EqAt A s w (.ref a) ((fun _ => false) w)
  | _, _, .nil, _ => fun u hu => by cases hu
  | y :: xs, w :: us, .cons r t, f => fun u' hu' => by
    rcases List.mem_cons.mp hu' with rfl | hu'
    · obtain ⟨i, rfl⟩ := f y List.mem_cons_self
      obtain ⟨t, rfl⟩ := r
      exact eqAt_int_dict i t h1 h2 h3 hu
    · exact mem_emp hu h1 h2 h3 t (fun z hz => f z (List.mem_cons_of_mem _ hz)) u' hu'
theorem op_empIn (hu : X.A.units + 64 < cLine) : OpR X (compareOp .In) (rEmpIn X.K false) := by
  intro pins s σ H x y v u Q I rx ry h
  obtain ⟨a, o, p, xs, rfl, ha, rfl, hq, f, q⟩ := h
  cases rx
  cases ry
  obtain ⟨its, rv, hl, _⟩ := I.list hq
  obtain ⟨u, es, ep, h1, h2, h3⟩ := emp_obj I ha
  have hu1 : X.A.in1.units < cLine := by show X.A.units + 1 < cLine; omega
  refine SeqAt.in_listAt (fun _ => false) hl.isList (fun z hz => mem_emp hu1 h1 h2 h3 rv f z (by simpa using hz)) ⟨.bl false, H, I, ?_, q⟩
  show Value.bool _ = Value.bool false
  simp
theorem op_empNotIn (hu : X.A.units + 64 < cLine) : OpR X (compareOp .NotIn) (rEmpIn X.K true) := by
  intro pins s σ H x y v u Q I rx ry h
  obtain ⟨a, o, p, xs, rfl, ha, rfl, hq, f, q⟩ := h
  cases rx
  cases ry
  obtain ⟨its, rv, hl, _⟩ := I.list hq
  obtain ⟨u, es, ep, h1, h2, h3⟩ := emp_obj I ha
  have hu1 : X.A.in1.units < cLine := by show X.A.units + 1 < cLine; omega
  refine SeqAt.notIn_listAt (fun _ => false) hl.isList (fun z hz => mem_emp hu1 h1 h2 h3 rv f z (by simpa using hz)) ⟨.bl true, H, I, ?_, q⟩
  show Value.bool _ = Value.bool true
  simp
/-- {}, held as it is -/
theorem pe_emp {pos : Pos} : PE X (.Dict [] [] pos) (fun _ H Q => ∀ p o, H p = none → Q (.ref p) (upd H p (.frz o (.dK [])))) := ⟨fun pins s σ H Q I h =>
  wpAny_Dict_empty ⟨.ref s.heap.objs.size, _, I.laid (a := s.heap.objs.size) (o := .frz { cls := .type "dict", data := .dict #[] } (.dK [])) (t' := s.toks) (fun _ _ q => Heap.get?_push_of_some _ q) (Nat.le_refl _) ⟨Heap.get?_push_size _ rfl, dk_empty s.heap I.big⟩, rfl, h _ _ (I.hok.fresh (Nat.le_refl _))⟩⟩
theorem fe_emp {W : WX} {pos : Pos} : FE X W (.Dict [] [] pos) (eK .emp) := by
  refine ⟨_, pe_emp, fun H0 H σ ρ tmp Q I h p o hp => ?_⟩
  have e := same_new (o := .frz o (.dK [])) hp
  exact h (.ref p) _ e (I.flat e fun s => ⟨p, o, rfl, upd_same⟩)
end
end FL
namespace FL
open PySem PySem.Spec L2
open PyProof.Rows hiding St
/-! ## in, not in: whatever the items are -/
def isI : T → Bool
  | .int _ => true
  | _ => false
def isEmp : T → Bool
  | .emp => true
  | _ => false
def hasD (x y : T) : Option Bool := match hasT x y with
  | some b => some b
  | none => match y with
    | .lst o ys => if isEmp x = true ∧ ys.all isI = true then some false else if okT 60 x = true ∧ okT 60 (.lst o ys) = true then some (ys.any fun t => teq t x) else none
    | _ => none
def gInD : T → T → Option T := fun x y => (hasD x y).map .bl
def gNinD : T → T → Option T := fun x y => (hasD x y).map fun b => .bl (!b)
def rInX (K : PySem.W.Frag) : R2 := fun x y H Q => rInU K x y H Q ∨ rEmpIn K false x y H Q ∨ rInD K x y H Q
def rNinX (K : PySem.W.Frag) : R2 := fun x y H Q => rNinU K x y H Q ∨ rEmpIn K true x y H Q ∨ rNotInD K x y H Q
theorem op_inX {X : Cx} (hu : X.A.units + 65 < cLine) : OpR X (compareOp .In) (rInX X.K) := OpR.or op_inU (OpR.or (op_empIn (by omega)) (op_inD hu))
theorem op_ninX {X : Cx} (hu : X.A.units + 65 < cLine) : OpR X (compareOp .NotIn) (rNinX X.K) := OpR.or op_ninU (OpR.or (op_empNotIn (by omega)) (op_notInD hu))
theorem room65 {k : Nat} {A : Around} (r : Room k A) : A.units + 65 < cLine := by have := r.un; omega
section
variable {K : PySem.W.Frag} {mg : Str → Option Value}
theorem all_isI {H : Hp} {s : Addr → Prop} : ∀ {ts : List T} {vs : List V} {c : Cnt}, ts.all isI = true → Reps K mg H s ts vs c → allInt vs
  | [], vs, _, _, h => by have h' : vs = [] := h; rw [h']; exact fun x hx => nomatch hx
  | t :: ts, vs, c, hf, h => by
    obtain ⟨v, r, c1, c2, rfl, h1, h2, h3⟩ := h
    have hf' : isI t = true ∧ ts.all isI = true := by simpa using hf
    intro x hx
    rcases List.mem_cons.mp hx with rfl | hx
    · cases t <;> first | exact absurd hf'.1 Bool.false_ne_true | exact ⟨_, h2⟩
    · exact all_isI hf'.2 h3 x hx
theorem any_toDs (x : T) : ∀ ys, ((toDs ys).any fun z => PyData.eqv z (toD x)) = ys.any fun t => teq t x
  | [] => rfl
  | t :: ts => by
    show (PyData.eqv (toD t) (toD x) || _) = _
    rw [eqv_teq, List.any_cons, any_toDs x ts]
theorem hasD_ok {H0 H : Hp} {σ : L2.St} {ρ : En} {tmp : List (T × V)} {x y : T} {vx vy : V} {b : Bool} (h : hasD x y = some b) (I : Iv K mg H0 H σ ρ ((y, vy) :: (x, vx) :: tmp)) :
    hasT x y = some b ∨ (b = false ∧ ∃ a o p xs, vx = .ref a ∧ H a = some (.frz o (.dK [])) ∧ vy = .ref p ∧ SqL K H p xs ∧ allInt xs) ∨ ∃ d ds, Dp K H vx d ∧ Dp K H vy (.list ds) ∧ SeqAt.shaped d = true ∧ SeqAt.shaped (.list ds) = true ∧ (ds.any fun z => PyData.eqv z d) = b := by
  unfold hasD at h
  split at h
  · rename_i b' hb
    cases h
    exact .inl hb
  · right
    split at h
    · rename_i o ys _
      obtain ⟨s, cx, cy, hx, hy, kk⟩ := I.two
      split at h
      · rename_i hc
        cases h
        obtain ⟨a, vs, c', rfl, h1, h2, h3⟩ := hy.lstS
        left
        match x, hc.1, hx with
        | .emp, _, hx =>
          obtain ⟨b, u, rfl, h4⟩ := hx
          exact ⟨rfl, b, u, a, vs, rfl, h4, rfl, h1, all_isI hc.2 h3⟩
      · split at h
        · rename_i hc
          cases h
          right
          have dy := Rep.dp _ _ _ (okT_noE 60 _ hc.2) hy
          refine ⟨toD x, toDs ys, Rep.dp x _ _ (okT_noE 60 x hc.1) hx, dy, okT_shaped hc.1, okT_shaped hc.2, ?_⟩
          exact any_toDs x ys
        · exact nomatch h
    · exact nomatch h
theorem ok_inX : OpOk K mg (rInX K) gInD := fun H0 H σ ρ tmp x y z vx vy Q h I k => by
  unfold gInD at h
  obtain ⟨b, hb, rfl⟩ := Option.map_eq_some_iff.mp h
  rcases hasD_ok hb I with e | ⟨rfl, a, o, p, xs, h1, h2, h3, h4, h5⟩ | ⟨d, ds, h1, h2, h3, h4, h5⟩
  · exact .inl (ok_in H0 H σ ρ tmp x y _ vx vy Q (by unfold gIn; rw [e]; rfl) I k)
  · exact .inr (.inl ⟨a, o, p, xs, h1, h2, h3, h4, h5, k _ H (Same.refl H) (I.two_flat fun s => rfl)⟩)
  · exact .inr (.inr ⟨d, ds, h1, h2, h3, h4, k _ H (Same.refl H) (I.two_flat fun s => by rw [h5]; rfl)⟩)
theorem ok_ninX : OpOk K mg (rNinX K) gNinD := fun H0 H σ ρ tmp x y z vx vy Q h I k => by
  unfold gNinD at h
  obtain ⟨b, hb, rfl⟩ := Option.map_eq_some_iff.mp h
  rcases hasD_ok hb I with e | ⟨rfl, a, o, p, xs, h1, h2, h3, h4, h5⟩ | ⟨d, ds, h1, h2, h3, h4, h5⟩
  · exact .inl (ok_nin H0 H σ ρ tmp x y _ vx vy Q (by unfold gNin; rw [e]; rfl) I k)
  · exact .inr (.inl ⟨a, o, p, xs, h1, h2, h3, h4, h5, k _ H (Same.refl H) (I.two_flat fun s => rfl)⟩)
  · exact .inr (.inr ⟨d, ds, h1, h2, h3, h4, k _ H (Same.refl H) (I.two_flat fun s => by rw [h5]; rfl)⟩)
end
end FL
namespace FL
open PySem PySem.Spec L2
open PyProof.Rows hiding St
/-! ## isinstance(e, C), e a held exception -/
structure ExcH (K : PySem.W.Frag) (D : Addr) : Prop where
  cl : (PySem.W.clsIn K D).isSome = true
  hg : PySem.W.findIn K (.ref D) "__getattribute__" = some (some (.builtin "BaseException.__getattribute__"))
  hk : PySem.W.findIn K (.ref D) "__getattr__" = some none
  hs : PySem.W.subIn K (.ref D) (.type "BaseException") = some true
  ha : PySem.W.findIn K (.ref D) "__class__" = some (some (.builtin "object.__class__"))
  hn : PySem.W.specialIn K (.builtin "object.__class__") "__get__" = some (some (.builtin "getset_descriptor.__get__"))
  ht : PySem.W.takesIn K (.builtin "object.__class__") = some true
  hm : PySem.W.mroIn K D (.type "object") = some true
/-- it, a class -/
def rIsH (K : PySem.W.Frag) : List V → Hp → VK → Prop := fun xs H Q => ∃ (a D : Addr) (d : Option Addr) (c : V) (cv : Value) (b : Bool), xs = [.ref a, c] ∧ H a = some (exv (.ref D) d a) ∧ (d = none ∨ ∃ dd vs, d = some dd ∧ H dd = some (.xd vs)) ∧ ExcH K D ∧ (∀ u, RelV c u → u = cv) ∧ PySem.W.kitOne K (.ref D) cv = some b ∧ Q (.bl b) H
theorem call_isH {X : Cx} : CallR X (.builtin "isinstance") (rIsH X.K) := by
  intro pins s σ H xs us Q I r h
  obtain ⟨a, D, d, c, cv, b, rfl, ea, ed, E, hcv, ek, q⟩ := h
  cases r with
  | cons rx rr =>
    cases rr with
    | cons rt rr =>
      cases rr
      cases rx
      have ec := hcv _ rt
      subst ec
      obtain ⟨oe, vs, hget, hz, hv⟩ : ∃ (oe : Obj) (vs : Array Value), s.heap.get? a = some oe ∧ Zc (.ref D) d oe ∧ oe.data = .fields vs := by
        have z : ObjOk X.prog X.w H s.heap a (.ext fun h => ∃ (oe : Obj) (vs : Array Value), h.get? a = some oe ∧ Zc (.ref D) d oe ∧ oe.data = .fields vs) := I.hok a _ ea
        exact z.1
      have J : ∃ od, PySem.W.InstAt s.heap a oe D od := by
        obtain ⟨oc, od, oda, osl⟩ := oe
        obtain ⟨h1, h2⟩ := hz
        dsimp only at h1 h2 hv
        subst h1 h2 hv
        rcases ed with rfl | ⟨dd, fs, rfl, hd⟩
        · exact ⟨none, hget, rfl, rfl, trivial⟩
        · have z : ObjOk X.prog X.w H s.heap dd (.xd fs) := I.hok dd _ hd
          obtain ⟨o, ho⟩ := objOk_get z
          exact ⟨some o, hget, rfl, rfl, ho⟩
      obtain ⟨od, J⟩ := J
      exact PySem.W.kia_one (PySem.W.kitx_exc E.cl E.hg E.hk E.hs E.ha E.hn E.ht E.hm) I.kIn J ek (fun z => nomatch z) fun tk => ⟨.bl b, H, I.kept (t' := tk) fun _ _ z => z, rfl, q⟩
/-! ## e.f, e a held exception -/
def tFldH (K : PySem.W.Frag) (f : Str) (te : TE) : TE := fun σ H Q => te σ H fun x H1 => ∃ (a C dd : Addr) (fs : List (Str × V)) (v : V), x = .ref a ∧ H1 a = some (exv (.ref C) (some dd) a) ∧ H1 dd = some (.xd fs) ∧ XfC K C ∧ PySem.W.findIn K (.ref C) f = some none ∧ fs.lookup f = some v ∧ Q v H1
theorem pe_fldH {X : Cx} {e : Expr} {te : TE} {pos : Pos} {n : Str} (he : PE X e te) (hb : attributeBase e n X.env (eval e X.env) = eval e X.env := by rfl) : PE X (.Attribute e n pos) (tFldH X.K n te) := by
  refine ⟨fun pins s σ H Q I h => ?_⟩
  refine attr_of hb (thn (he.run pins s σ H _ I h) fun u s1 hh => ?_)
  obtain ⟨x, H1, I1, rx, a, C, dd, fs, v, ex, e1, e2, T, hno, l, q⟩ := hh
  subst ex
  obtain rfl : u = Value.ref a := rx
  obtain ⟨oe, vs, ha, hz, hd⟩ : ∃ (oe : Obj) (vs : Array Value), s1.heap.get? a = some oe ∧ Zc (.ref C) (some dd) oe ∧ oe.data = .fields vs := by
    have z : ObjOk X.prog X.w H1 s1.heap a (.ext fun h => ∃ (oe : Obj) (vs : Array Value), h.get? a = some oe ∧ Zc (.ref C) (some dd) oe ∧ oe.data = .fields vs) := I1.hok a _ e1
    exact z.1
  have hxd : ObjOk X.prog X.w H1 s1.heap dd (.xd fs) := I1.hok dd _ e2
  obtain ⟨mA, hns, hr⟩ := hxd
  obtain ⟨od, ho, hl⟩ := lookIn_ns hns
  obtain ⟨w, hu, ru⟩ := RelO.some_of (v := v) (o := mA n) (by rw [← l]; exact hr n)
  have J : PySem.W.InstAt s1.heap a oe C (some od) := ⟨ha, hz.1, by unfold PySem.W.notCls; rw [hd] <;> rfl, by rw [hz.2]; exact ho⟩
  exact HandSPX.exc_get I1.kIn J T.ga T.gg T.exC (PySem.W.findObj_own T.hdC hno rfl (by rw [hl, hu])) (handed_of ru) ⟨v, H1, I1.tok _, ru, q⟩
/-! ## what the law's text says of the classes -/
/-- the class that the name x holds -/
inductive ClsX (mg : Str → Option Value) (x : Str) : V → Value → Prop where
  | own {C : Addr} (h : mg x = some (.ref C)) : ClsX mg x (.ref C) (.ref C)
  | blt {n : String} (h : mg x = none) (hv : bootBuiltins x = some (.type n)) (hx : x ≠ "__name__") : ClsX mg x (.ty n) (.type n)
theorem ClsX.cv {mg : Str → Option Value} {x : Str} {c : V} {u : Value} (h : ClsX mg x c u) : ClsV c u := by
  cases h with
  | own h => exact .own _
  | blt h => exact .ty _
/-- how isinstance answers of held exceptions by their classes; of None: no -/
structure IsC (K : PySem.W.Frag) (mg : Str → Option Value) (x : Str) (tab : List (Str × Bool)) : Prop where
  ex : ∃ c u, ClsX mg x c u ∧ PySem.W.kitOne K (.type "NoneType") u = some false ∧ ∀ y b, tab.lookup y = some b → ∃ D, mg y = some (.ref D) ∧ ExcH K D ∧ PySem.W.kitOne K (.ref D) u = some b
theorem pe_cls {X : Cx} {x : Str} {c : V} {u : Value} {pos : Pos} (hg : Gl X x) (h : ClsX X.mg x c u) (hdb : (x == ("__debug__" : Str)) = false := by decide) : PE X (.Name x pos) (tC c) := by
  cases h with
  | own h => exact pe_glob hg h rfl hdb
  | blt h hv hx => exact pe_bltn hg h hv rfl hx hdb
/-- a held exception, as isinstance sees it -/
def ExV (K : PySem.W.Frag) (H : Hp) (x : V) (t : Value) : Prop := ∃ (a D : Addr) (d : Option Addr), x = .ref a ∧ t = .ref D ∧ H a = some (exv (.ref D) d a) ∧ (d = none ∨ ∃ dd vs, d = some dd ∧ H dd = some (.xd vs)) ∧ ExcH K D
theorem kit_exv {X : Cx} {pins : List (Addr × Obj)} {σ : L2.St} {H : Hp} {s : Shared} {x : V} {u t : Value} (I : Inv X pins σ H s) (rx : RelV x u) (h : ExV X.K H x t) : ∃ P : Heap → Prop, PySem.W.KitX X.K u t P ∧ P s.heap ∧ u ≠ .builtin "__main__.__loader__#opaque" := by
  obtain ⟨a, D, d, rfl, rfl, ea, ed, E⟩ := h
  obtain rfl : u = Value.ref a := rx
  obtain ⟨oe, vs, hget, hz, hv⟩ : ∃ (oe : Obj) (vs : Array Value), s.heap.get? a = some oe ∧ Zc (.ref D) d oe ∧ oe.data = .fields vs := by
    have z : ObjOk X.prog X.w H s.heap a (.ext fun h => ∃ (oe : Obj) (vs : Array Value), h.get? a = some oe ∧ Zc (.ref D) d oe ∧ oe.data = .fields vs) := I.hok a _ ea
    exact z.1
  have J : ∃ od, PySem.W.InstAt s.heap a oe D od := by
    obtain ⟨oc, od, oda, osl⟩ := oe
    obtain ⟨h1, h2⟩ := hz
    dsimp only at h1 h2 hv
    subst h1 h2 hv
    rcases ed with rfl | ⟨dd, fs, rfl, hd⟩
    · exact ⟨none, hget, rfl, rfl, trivial⟩
    · have z : ObjOk X.prog X.w H s.heap dd (.xd fs) := I.hok dd _ hd
      obtain ⟨o, ho⟩ := objOk_get z
      exact ⟨some o, hget, rfl, rfl, ho⟩
  obtain ⟨od, J⟩ := J
  exact ⟨_, PySem.W.kitx_exc E.cl E.hg E.hk E.hs E.ha E.hn E.ht E.hm, J, fun z => nomatch z⟩
def rIsX (K : PySem.W.Frag) : List V → Hp → VK → Prop := fun xs H Q => ∃ (x c : V) (t u : Value) (b : Bool), xs = [x, c] ∧ ClsV c u ∧ (ExV K H x t ∨ TyX K H x t) ∧ PySem.W.kitOne K t u = some b ∧ Q (.bl b) H
def rIsXT (K : PySem.W.Frag) : List V → Hp → VK → Prop := fun xs H Q => ∃ (x : V) (tp : Addr) (cs : List V) (t : Value) (us : List Value) (b : Bool), xs = [x, .ref tp] ∧ H tp = some (.tup cs) ∧ Paired ClsV cs us ∧ (ExV K H x t ∨ TyX K H x t) ∧ PySem.W.kitAny K t us = some b ∧ Q (.bl b) H
theorem call_isX {X : Cx} : CallR X (.builtin "isinstance") (rIsX X.K) := by
  intro pins s σ H xs us Q I r h
  obtain ⟨x, c, t, u, b, rfl, k, ty, e, q⟩ := h
  obtain ⟨u1, u2, rfl, r1, r2⟩ := vals2 r
  have e2 := k.eq r2
  subst e2
  obtain ⟨P, Z, p, hx⟩ : ∃ P : Heap → Prop, PySem.W.KitX X.K u1 t P ∧ P s.heap ∧ u1 ≠ .builtin "__main__.__loader__#opaque" := ty.elim (kit_exv I r1) (kit_of I r1)
  exact PySem.W.kia_one Z I.kIn p e hx fun tk => ⟨.bl b, H, I.tok tk, rfl, q⟩
theorem call_isXT {X : Cx} : CallR X (.builtin "isinstance") (rIsXT X.K) := by
  intro pins s σ H xs us Q I r h
  obtain ⟨x, tp, cs, t, ws, b, rfl, hT, k, ty, e, q⟩ := h
  obtain ⟨u1, u2, rfl, r1, r2⟩ := vals2 r
  cases (show u2 = Value.ref tp from r2)
  obtain ⟨P, Z, p, hx⟩ : ∃ P : Heap → Prop, PySem.W.KitX X.K u1 t P ∧ P s.heap ∧ u1 ≠ .builtin "__main__.__loader__#opaque" := ty.elim (kit_exv I r1) (kit_of I r1)
  obtain ⟨_, its, rv, o, h1, h2, n, h3⟩ := (show ObjOk X.prog X.w H s.heap tp (.tup cs) from I.hok tp _ hT)
  have e3 := ClsV.all k rv
  subst e3
  obtain ⟨oc, od, dt, sl⟩ := o
  simp only at h2 h3
  subst h2 h3
  exact PySem.W.kia_tup Z I.kIn p h1 e hx fun tk => ⟨.bl b, H, I.tok tk, rfl, q⟩
/-! ## isinstance(e, C) -/
def eIsC (tab : List (Str × Bool)) (f : M T) : M T := fun ρ => ob (f ρ) fun x ρ => match x with
  | .exc c _ => (match tab.lookup c with
    | some b => ok (.bl b) ρ
    | none => none)
  | .non => ok (.bl false) ρ
  | _ => none
theorem exv_of {K : PySem.W.Frag} {mg : Str → Option Value} {H : Hp} {cls : Str} {fs : List (Str × FV)} {v : V} {D : Addr} (h : RepE K mg H cls fs v) (hm : mg cls = some (.ref D)) (E : ExcH K D) : ExV K H v (.ref D) := by
  obtain ⟨a', C, d, rfl, ea, em, ef⟩ := h
  rw [hm] at em
  cases em
  exact ⟨a', D, d, rfl, rfl, ea, ef.imp (fun z => z.2) (fun ⟨dd, vs, z1, z2, _⟩ => ⟨dd, vs, z1, z2⟩), E⟩
theorem fe_isC {X : Cx} {W : WX} {a : Expr} {f : M T} {x : Str} {p p2 pos : Pos} {tab : List (Str × Bool)} (hg : Gl X "isinstance") (hm : X.mg "isinstance" = none) (hv : bootBuiltins "isinstance" = some (.builtin "isinstance")) (hg2 : Gl X x) (I0 : IsC X.K X.mg x tab) (ha : FE X W a f)
    (hdb : (x == ("__debug__" : Str)) = false := by decide) (he : starEach [a, .Name x p2] X.env = (false, eval a X.env) :: starEach [.Name x p2] X.env := by rfl) (hpl : (backTo pos (starEach [.Name x p2] X.env)).any (·.1) = false := by rfl) (he2 : starEach [.Name x p2] X.env = (false, eval (.Name x p2) X.env) :: starEach [] X.env := by rfl) :
    FE X W (.Call (.Name "isinstance" p) [a, .Name x p2] [] pos) (eIsC tab f) := by
  obtain ⟨te, pe, qe⟩ := ha
  obtain ⟨c, u, hc, hn, ht⟩ := I0
  refine ⟨_, pe_callB call_isX hg hm hv (pa_cons pe (pa_cons (pe_cls hg2 hc hdb) pa_nil he2) he) (by decide) (by decide) he hpl, fun H0 H σ ρ tmp Q I h => qe H0 H σ ρ tmp _ I (h.ob.imp fun w ρ1 h1 v H1 e1 I1 => ?_)⟩
  obtain ⟨s, cx, hx, _⟩ := I1.one'
  match w, h1, I1, hx with
  | .exc cc fs, h1, I1, hx =>
    dsimp only at h1
    cases hs : tab.lookup cc with
    | none => rw [hs] at h1; exact h1.elim
    | some b =>
      rw [hs] at h1
      obtain ⟨D, hD, E, hk⟩ := ht cc b hs
      exact ⟨v, c, .ref D, u, b, rfl, hc.cv, .inl (exv_of hx hD E), hk, h1 _ H1 e1 (I1.drop1.flat (Same.refl H1) fun s => rfl)⟩
  | .non, h1, I1, hx =>
    have ev : v = .non := hx
    subst ev
    exact ⟨.non, c, .type "NoneType", u, false, rfl, hc.cv, .inr (.base .non), hn, h1 _ H1 e1 (I1.drop1.flat (Same.refl H1) fun s => rfl)⟩
/-! ## isinstance(e, (C, ..)) -/
inductive ClsS (mg : Str → Option Value) : List Str → List V → List Value → Prop where
  | nil : ClsS mg [] [] []
  | cons {x : Str} {xs : List Str} {c : V} {cs : List V} {u : Value} {us : List Value} (h : ClsX mg x c u) (r : ClsS mg xs cs us) : ClsS mg (x :: xs) (c :: cs) (u :: us)
structure ClsL (K : PySem.W.Frag) (mg : Str → Option Value) (xs : List Str) (tab : List (Str × Bool)) : Prop where
  ex : ∃ cs us, ClsS mg xs cs us ∧ PySem.W.kitAny K (.type "NoneType") us = some false ∧ ∀ y b, tab.lookup y = some b → ∃ D, mg y = some (.ref D) ∧ ExcH K D ∧ PySem.W.kitAny K (.ref D) us = some b
def tCs : List V → TA
  | [] => tNil
  | c :: cs => tCons (tC c) (tCs cs)
theorem tCs_ok : ∀ {cs : List V} {σ : L2.St} {H : Hp} {Q : List V → Hp → Prop}, Q cs H → tCs cs σ H Q
  | [], _, _, _, h => h
  | c :: cs, σ, H, Q, h => tCs_ok (cs := cs) (Q := fun vs H1 => Q (c :: vs) H1) h
structure PCs (X : Cx) (xs : List Str) (es : List Expr) : Prop where
  run : ∀ cs us, ClsS X.mg xs cs us → PA X es (tCs cs)
theorem pcs_nil {X : Cx} : PCs X [] [] := ⟨fun cs us h => by cases h; exact pa_nil⟩
theorem pcs_cons {X : Cx} {x : Str} {xs : List Str} {es : List Expr} {p : Pos} (hr : PCs X xs es) (hg : Gl X x) (hdb : (x == ("__debug__" : Str)) = false := by decide) (hs : starEach (.Name x p :: es) X.env = (false, eval (.Name x p) X.env) :: starEach es X.env := by rfl) : PCs X (x :: xs) (.Name x p :: es) := ⟨fun cs us h => by
  cases h with
  | cons h1 h2 => exact pa_cons (pe_cls hg h1 hdb) (hr.run _ _ h2) hs⟩
theorem paired_cls {mg : Str → Option Value} : ∀ {xs : List Str} {cs : List V} {us : List Value}, ClsS mg xs cs us → Paired ClsV cs us
  | _, _, _, .nil => .nil
  | _, _, _, .cons h r => .cons h.cv (paired_cls r)
theorem cls_len {mg : Str → Option Value} : ∀ {xs : List Str} {cs : List V} {us : List Value}, ClsS mg xs cs us → cs.length = xs.length
  | _, _, _, .nil => rfl
  | _, _, _, .cons h r => by simp [cls_len r]
theorem fe_isCT {X : Cx} {W : WX} {a : Expr} {f : M T} {xs : List Str} {es : List Expr} {k : Nat} {p p2 pos : Pos} {tab : List (Str × Bool)} (hg : Gl X "isinstance") (hm : X.mg "isinstance" = none) (hv : bootBuiltins "isinstance" = some (.builtin "isinstance")) (I0 : ClsL X.K X.mg xs tab) (hcs : PCs X xs es) (ha : FE X W a f) (hlen : xs.length ≤ 1000 := by decide)
    (he : starEach [a, .Tuple es k p2] X.env = (false, eval a X.env) :: starEach [.Tuple es k p2] X.env := by rfl) (hpl : (backTo pos (starEach [.Tuple es k p2] X.env)).any (·.1) = false := by rfl) (he2 : starEach [.Tuple es k p2] X.env = (false, eval (.Tuple es k p2) X.env) :: starEach [] X.env := by rfl) :
    FE X W (.Call (.Name "isinstance" p) [a, .Tuple es k p2] [] pos) (eIsC tab f) := by
  obtain ⟨te, pe, qe⟩ := ha
  obtain ⟨cs, us, hc, hn, ht⟩ := I0
  have hlc : cs.length ≤ 1000 := by rw [cls_len hc]; exact hlen
  refine ⟨_, pe_callB call_isXT hg hm hv (pa_cons pe (pa_cons (pe_tup (hcs.run cs us hc)) pa_nil he2) he) (by decide) (by decide) he hpl, fun H0 H σ ρ tmp Q I h => qe H0 H σ ρ tmp _ I (h.ob.imp fun w ρ1 h1 v H1 e1 I1 => ?_)⟩
  refine tCs_ok (cs := cs) ⟨sz1000 hlc, fun q hq => ?_⟩
  have e3 := same_new (o := .tup cs) hq
  have I2 := I1.same e3
  obtain ⟨s, cx, hx, _⟩ := I2.one'
  match w, h1, I2, hx with
  | .exc cc fs, h1, I2, hx =>
    dsimp only at h1
    cases hs : tab.lookup cc with
    | none => rw [hs] at h1; exact h1.elim
    | some b =>
      rw [hs] at h1
      obtain ⟨D, hD, E, hk⟩ := ht cc b hs
      exact ⟨v, q, cs, .ref D, us, b, rfl, upd_same, paired_cls hc, .inl (exv_of hx hD E), hk, h1 _ _ (e1.trans e3) (I2.drop1.flat (Same.refl _) fun s => rfl)⟩
  | .non, h1, I2, hx =>
    have ev : v = .non := hx
    subst ev
    exact ⟨.non, q, cs, .type "NoneType", us, false, rfl, upd_same, paired_cls hc, .inr (.base .non), hn, h1 _ _ (e1.trans e3) (I2.drop1.flat (Same.refl _) fun s => rfl)⟩
mutual
theorem fv_nol : ∀ x : FV, nol (FV.t x) = true
  | .non => rfl
  | .int _ => rfl
  | .str _ => rfl
  | .tup xs => fvs_nol xs
theorem fvs_nol : ∀ xs : List FV, nols (FV.ts xs) = true
  | [] => rfl
  | x :: xs => by
    show (nol (FV.t x) && nols (FV.ts xs)) = true
    rw [fv_nol x, fvs_nol xs]
    rfl
end
mutual
theorem FRep.rep {K : PySem.W.Frag} {mg : Str → Option Value} {H : Hp} {s : Addr → Prop} : ∀ (x : FV) (v : V), FRep K H x v → Rep K mg H s (FV.t x) v zc
  | .non, _, h => h
  | .int _, _, h => h
  | .str _, _, h => h
  | .tup xs, v, h => by
    obtain ⟨a, vs, rfl, h1, h2⟩ := h
    exact ⟨a, vs, rfl, .inr ⟨fvs_nol xs, h1⟩, FReps.reps xs vs h2⟩
theorem FReps.reps {K : PySem.W.Frag} {mg : Str → Option Value} {H : Hp} {s : Addr → Prop} : ∀ (xs : List FV) (vs : List V), FReps K H xs vs → Reps K mg H s (FV.ts xs) vs zc
  | [], _, h => h
  | x :: xs, vs, h => by
    obtain ⟨v, r, rfl, h1, h2⟩ := h
    exact ⟨v, r, zc, zc, rfl, fun _ => Nat.le_refl _, FRep.rep x v h1, FReps.reps xs r h2⟩
end
structure Fdc (K : PySem.W.Frag) (mg : Str → Option Value) (n : Str) (cs : List Str) : Prop where
  ex : ∀ c ∈ cs, ∃ D, mg c = some (.ref D) ∧ XfC K D ∧ PySem.W.findIn K (.ref D) n = some none
def eFld (cs : List Str) (n : Str) (f : M T) : M T := fun ρ => ob (f ρ) fun x ρ => match x with
  | .exc c fs => if c ∈ cs then (match fs.lookup n with
    | some y => ok (FV.t y) ρ
    | none => none) else none
  | _ => none
theorem fe_fld {X : Cx} {W : WX} {a : Expr} {f : M T} {n : Str} {cs : List Str} {pos : Pos} (F : Fdc X.K X.mg n cs) (ha : FE X W a f)
    (hb : attributeBase a n X.env (eval a X.env) = eval a X.env := by rfl) : FE X W (.Attribute a n pos) (eFld cs n f) := by
  obtain ⟨te, pe, qe⟩ := ha
  refine ⟨_, pe_fldH pe hb, fun H0 H σ ρ tmp Q I h => qe H0 H σ ρ tmp _ I (h.ob.imp fun u ρ1 h1 v H1 e1 I1 => ?_)⟩
  match u, h1, I1 with
  | .exc c fs, h1, I1 =>
    dsimp only at h1
    split at h1
    · rename_i hcs
      cases hs : fs.lookup n with
      | none => rw [hs] at h1; exact h1.elim
      | some y =>
        rw [hs] at h1
        obtain ⟨s, cx, hx, _⟩ := I1.one'
        obtain ⟨a', C, d, rfl, ea, em, ef⟩ := hx
        rcases ef with ⟨rfl, _⟩ | ⟨dd, vs, rfl, ed, ef⟩
        · cases hs
        · obtain ⟨w, hw, hf⟩ := ef n y hs
          obtain ⟨D, hD, T, hno⟩ := F.ex c hcs
          rw [em] at hD
          cases hD
          exact ⟨a', D, dd, vs, w, rfl, ea, ed, T, hno, hw, h1 _ H1 e1 (I1.drop1.flat (Same.refl H1) fun s => FRep.rep y w hf)⟩
    · exact h1.elim
/-! ## try, by what the text says of the clause's class -/
structure Ctc (K : PySem.W.Frag) (mg : Str → Option Value) (x : Str) (tab : List (Str × Bool)) : Prop where
  ex : ∃ u, (mg x = some u ∨ (mg x = none ∧ bootBuiltins x = some u ∧ x ≠ "__name__")) ∧ ∀ y b, tab.lookup y = some b → ∃ D, mg y = some (.ref D) ∧ PySem.W.exmOne K (.ref D) u = some b
section
variable {X : Cx} {Wout : WX} {x n : Str} {i : Nat} {body suite : List Stmt} {b₀ : Stmt} {np pos pos' : Pos} {sb ss : S} {tab : List (Str × Bool)}
theorem fs0_tryC (hs : X.stack = X.env :: X.outer) (hf : X.env.frame = some X.env.locals) (hN : X.N.Nodup) (hi : X.N[i]? = some n) (hln : X.env.kindOf n = some .local) (hex : X.ex = []) (hg : Gl X x) (C : Ctc X.K X.mg x tab) (tk : Takes X Wout)
    (hb : ∀ (W : WX) (pn : List (Addr × Obj)) (xe : Value → Shared → Prop), Takes (X.tr pn xe) W → PassesOwn (model X.prog X.w) X.A X.env xe → FSs (X.tr pn xe) W body sb)
    (hsu : ∀ (a : Addr) (pn : List (Addr × Obj)), FSs (X.suite a pn) (fun _ _ _ _ => False) (b₀ :: suite) ss) (hdb : (x == ("__debug__" : Str)) = false := by decide) :
    FS0 X Wout (.Try body [.ExceptHandler (some (.Name x np)) (some n) (b₀ :: suite) pos'] [] [] pos) (sTry i (fun y => tab.lookup y) sb ss) := by
  obtain ⟨u, hu, ht⟩ := C
  refine fs0_try (c := u) hs hf hN hi hln hex ⟨hg, hdb, hu⟩ tk (fun y b hy C hC => ?_) hb hsu
  obtain ⟨D, hD, hk⟩ := ht y b hy
  rw [hD] at hC
  cases hC
  exact hk
end
/-! ## raise C("..") -/
structure XcP (K : PySem.W.Frag) (mg : Str → Option Value) (x : Str) : Prop where
  ex : ∃ C, mg x = some (.ref C) ∧ PySem.W.excIn K C [.type "ValueError", .type "Exception", .type "BaseException", .type "object"] "ValueError.__new__" = true ∧ PySem.W.keepIn K (.ref C) = true ∧ PySem.W.subIn K (.ref C) (.type "BaseException") = some true ∧ PySem.W.typeIn K (.ref C) = some (.type "type")
theorem fs_raiseC0 {X : Cx} {W : WX} {cls m : Str} {j : Nat} {p p2 pos pos2 : Pos} (E : XcP X.K X.mg cls) (hc : X.calm = true) (tk : Takes X W) (hg : Gl X cls)
    (hdb : (cls == ("__debug__" : Str)) = false := by decide) : FS X W (.Raise (some (.Call (.Name cls p) [.Constant (.str m) j p2] [] pos)) none pos2) (sRaise0 cls) := by
  obtain ⟨C, gC, q, kC, bC, tC⟩ := E
  exact fs_raise0 PySem.F.excBase_ValueError q gC kC (raises_own bC tC) hc tk hg hdb
/-! ## the facts of a class, by evaluation -/
theorem kit_of_sub {K : PySem.W.Frag} {C : Addr} {t : Value} {b : Bool} (hne : (t == .ref C) = false) (h1 : PySem.W.isClsIn K C = true) (h2 : PySem.W.typeIn K (.ref C) = some (.type "type")) (h3 : PySem.W.subIn K t (.ref C) = some b) : PySem.W.kitOne K t (.ref C) = some b := by
  unfold PySem.W.kitOne
  rw [if_neg (by rw [hne]; exact Bool.false_ne_true)]
  have e2 : ((PySem.W.clsIn K C).isSome && PySem.W.typeIn K (.ref C) == some (.type "type")) = true := by
    have h1' : (PySem.W.clsIn K C).isSome = true := h1
    rw [h1', h2]
    rfl
  show (if ((PySem.W.clsIn K C).isSome && PySem.W.typeIn K (.ref C) == some (.type "type")) = true then PySem.W.subIn K t (.ref C) else none) = some b
  rw [if_pos e2]
  exact h3
theorem kit_same {K : PySem.W.Frag} {C : Addr} : PySem.W.kitOne K (.ref C) (.ref C) = some true := by
  unfold PySem.W.kitOne
  rw [if_pos (by simp)]
theorem exm_of_sub {K : PySem.W.Frag} {S : Addr} {t : Value} {b : Bool} (h1 : PySem.W.subIn K (.ref S) (.type "BaseException") = some true) (h2 : PySem.W.isClsIn K S = true) (h3 : PySem.W.typeIn K (.ref S) = some (.type "type")) (h4 : PySem.W.subIn K t (.ref S) = some b) :
    PySem.W.exmOne K t (.ref S) = some b := by
  have e1 : (PySem.W.subIn K (.ref S) (.type "BaseException") == some true) = true := by rw [h1] <;> rfl
  have e2 : ((PySem.W.clsIn K S).isSome && PySem.W.typeIn K (.ref S) == some (.type "type")) = true := by
    have h2' : (PySem.W.clsIn K S).isSome = true := h2
    rw [h2', h3] <;> rfl
  show (if (PySem.W.subIn K (.ref S) (.type "BaseException") == some true) = true then (if ((PySem.W.clsIn K S).isSome && PySem.W.typeIn K (.ref S) == some (.type "type")) = true then PySem.W.subIn K t (.ref S) else none) else none) = some b
  rw [if_pos e1, if_pos e2]
  exact h4
theorem kit_any_nil {K : PySem.W.Frag} {t : Value} : PySem.W.kitAny K t [] = some false := rfl
theorem kit_any_no {K : PySem.W.Frag} {t c : Value} {cs : List Value} {b : Bool} (h : PySem.W.kitOne K t c = some false) (hr : PySem.W.kitAny K t cs = some b) : PySem.W.kitAny K t (c :: cs) = some b := by
  unfold PySem.W.kitAny
  rw [h]
  exact hr
theorem kit_any_yes {K : PySem.W.Frag} {t c : Value} {cs : List Value} (h : PySem.W.kitOne K t c = some true) : PySem.W.kitAny K t (c :: cs) = some true := by
  unfold PySem.W.kitAny
  rw [h]
theorem look1 {α : Type} {y k : Str} {v b : α} {P : Prop} {l : List (Str × α)} (h : ((k, v) :: l).lookup y = some b) (h1 : y = k → v = b → P) (h2 : l.lookup y = some b → P) : P := by
  rw [List.lookup_cons] at h
  by_cases hy : (y == k) = true
  · rw [hy] at h
    exact h1 (by simpa using hy) (by simpa using h)
  · rw [Bool.not_eq_true] at hy
    rw [hy] at h
    exact h2 h
theorem kit_of_blt {K : PySem.W.Frag} {n : String} {t : Value} {b : Bool} (hne : (t == .type n) = false) (h : PySem.W.kitMeta n = true) (h3 : PySem.W.subIn K t (.type n) = some b) : PySem.W.kitOne K t (.type n) = some b := by
  unfold PySem.W.kitOne
  rw [if_neg (by rw [hne]; exact Bool.false_ne_true)]
  show (if PySem.W.kitMeta n = true then PySem.W.subIn K t (.type n) else none) = some b
  rw [if_pos h]
  exact h3
theorem ref_ne {C D : Addr} {K : PySem.W.Frag} (h : PySem.W.subIn K (.ref D) (.ref C) = some false) (hs : PySem.W.subIn K (.ref C) (.ref C) = some true) : ((Value.ref D : Value) == .ref C) = false := by
  by_cases e : D = C
  · subst e
    rw [hs] at h
    cases h
  · simpa using e
/-- kitOne of two own classes, whatever they are -/
theorem kit_own {K : PySem.W.Frag} {C D : Addr} {b : Bool} (h1 : PySem.W.isClsIn K C = true) (h2 : PySem.W.typeIn K (.ref C) = some (.type "type")) (h3 : PySem.W.subIn K (.ref D) (.ref C) = some b) (hs : PySem.W.subIn K (.ref C) (.ref C) = some true) : PySem.W.kitOne K (.ref D) (.ref C) = some b := by
  by_cases e : D = C
  · subst e
    rw [hs] at h3
    cases h3
    exact kit_same
  · exact kit_of_sub (by simpa using e) h1 h2 h3
theorem kit_nonC {K : PySem.W.Frag} {C : Addr} {b : Bool} (h1 : PySem.W.isClsIn K C = true) (h2 : PySem.W.typeIn K (.ref C) = some (.type "type")) (h3 : PySem.W.subIn K (.type "NoneType") (.ref C) = some b) : PySem.W.kitOne K (.type "NoneType") (.ref C) = some b := kit_of_sub rfl h1 h2 h3
/-! ## the own __init__s -/
section
variable {P : Program} {w : World} {K : PySem.W.Frag} {mg : Str → Option Value} {base : Heap} {cls qual : Str} {st : Stmt} {f C : Addr} {fd : FuncData} {f1 f2 f3 m : Str}
theorem xci1 (gC : mg cls = some (.ref C)) (T : OexC K C) (iC : PySem.W.findIn K (.ref C) "__init__" = some (some (.ref f))) (tI : PySem.W.typeIn K (.ref f) = some (.type "function")) (F : Fun K "__init__" qual st f fd) (Sc : FnScope ["self", f1] ["self", f1] (defScope st)) (hd : Binds K fd ["self", f1] []) (h1 : PySem.W.findIn K (.ref C) f1 = some none)
    (hb : ∀ (cdv : Value) (A : Around) (outer : List Env) (s : Shared) (H : Hp) (E : XK), PSs (cxOf (L2.CX P w) P w K mg base ["self", f1] qual (defScope st) f cdv A outer s H E) (defBody st) (tSeq (tIni K m) (tOst K f1 (tVar 0) (tVar 1)))) : XcI P w K mg base cls 1 [f1] :=
  ⟨C, f, fd, gC, T, iC, tI, init1 (k := 0) F Sc h1 hb, hd⟩
theorem xci3 (gC : mg cls = some (.ref C)) (T : OexC K C) (iC : PySem.W.findIn K (.ref C) "__init__" = some (some (.ref f))) (tI : PySem.W.typeIn K (.ref f) = some (.type "function")) (F : Fun K "__init__" qual st f fd) (Sc : FnScope ["self", f1, f2, f3] ["self", f1, f2, f3] (defScope st)) (hd : Binds K fd ["self", f1, f2, f3] []) (h1 : PySem.W.findIn K (.ref C) f1 = some none) (h2 : PySem.W.findIn K (.ref C) f2 = some none) (h3 : PySem.W.findIn K (.ref C) f3 = some none)
    (hb : ∀ (cdv : Value) (A : Around) (outer : List Env) (s : Shared) (H : Hp) (E : XK), PSs (cxOf (L2.CX P w) P w K mg base ["self", f1, f2, f3] qual (defScope st) f cdv A outer s H E) (defBody st) (tSeq (tIni K m) (tSeq (tOst K f1 (tVar 0) (tVar 1)) (tSeq (tOst K f2 (tVar 0) (tVar 2)) (tOst K f3 (tVar 0) (tVar 3)))))) : XcI P w K mg base cls 1 [f1, f2, f3] :=
  ⟨C, f, fd, gC, T, iC, tI, init3 (k := 0) F Sc h1 h2 h3 hb, hd⟩
end
theorem refsVE_ref {C : Addr} {l : List Value} (h : PySem.HandSPX.refsVE l = true) : PySem.HandSPX.refsVE (.ref C :: l) = true := h
theorem refsVE_tail : PySem.HandSPX.refsVE [.type "ValueError", .type "Exception", .type "BaseException", .type "object"] = true := by decide +kernel
end FL
namespace FL
open PySem PySem.Spec L2
open PyProof.Rows hiding St
/-! ## C(e, ..) as a value: an exception that is held -/
section
variable {X : Cx} {pins : List (Addr × Obj)} {σ : L2.St} {H : Hp} {s : Shared}
theorem pe_ofMk {e : Expr} {t : L2.St → Hp → XK → Prop} (h : PMk X e t) : PE X e (fun σ H Q => t σ H fun cls d H' => ∀ a, H' a = none → Q (.ref a) (upd H' a (exv cls d a))) := by
  refine ⟨fun pins s σ H Q I hq => ?_⟩
  refine wpAny_mono (h pins s σ H _ I hq) (fun u s' hx => ?_) (fun _ _ z => z)
  obtain ⟨a, oe, vs, sI, H', cls, d, rfl, J, k, na, ho, hz, hd, h1, hn, os1, bare1, hr, q⟩ := hx
  have new : ObjOk X.prog X.w (upd H' a (exv cls d a)) s'.heap a (exv cls d a) := ⟨⟨oe, vs, ho, hz, hd⟩, ⟨oe, ho⟩, fun _ _ ⟨o, v, q, r⟩ kk => ⟨o, v, kk _ q, r⟩⟩
  have J2 := J.laidN (h' := s'.heap) (t' := s'.toks) k na hn new
  exact ⟨.ref a, _, ⟨J2.ok, os1.trans J2.os, bare1, J2.base, J2.loc, J2.cell, J2.free, J2.freeC, J2.pin, J2.hok, J2.len⟩, rfl, q a hn⟩
end
def eMk (cls : Str) (fls : List Str) (fs : M (List T)) : M T := fun ρ => ob (fs ρ) fun us ρ => match toFVs us with
  | some xs => if us.length = fls.length ∧ us.length ≤ 1000 then ok (.exc cls (fls.zip xs).reverse) ρ else none
  | none => none
theorem fe_mk {X : Cx} {W : WX} {e : Expr} {es : List Expr} {fs : M (List T)} {cls : Str} {k : Nat} {fls : List Str} {p pos : Pos} (E : XcI X.prog X.w X.K X.mg X.base cls k fls) (hr : Room (k + 1) X.A) (tk : Takes X W) (hg : Gl X cls) (ha : FA X W (e :: es) fs)
    (hdb : (cls == ("__debug__" : Str)) = false := by decide) (he : starEach (e :: es) X.env = (false, eval e X.env) :: starEach es X.env := by rfl) (hpl : (backTo pos (starEach es X.env)).any (·.1) = false := by rfl) :
    FE X W (.Call (.Name cls p) (e :: es) [] pos) (eMk cls fls fs) := by
  obtain ⟨C, fI, fd, hm, T, iC, tI, F1, hb⟩ := E
  obtain ⟨ta, pa, qa⟩ := ha
  have hx : Passes (L2.CX X.prog X.w) X (fun _ _ _ => False) := passes_call tk fun _ _ _ _ h => h.elim
  refine ⟨_, pe_ofMk (pmk_oex (dvs := []) (ds := []) T iC tI F1 hr hb .nil hx hg hm pa hdb he hpl), fun H0 H σ ρ tmp Q I h => qa H0 H σ ρ tmp _ I (h.ob.imp fun us ρ1 h1 vs H1 e1 hl I1 => ?_)⟩
  split at h1
  · rename_i xs hxs
    split at h1
    · rename_i hc2
      obtain ⟨s, c, hP, hs, _, _, _⟩ := I1.take
      have hR := RepP.unzip hl hP
      have hF := FReps.of us xs vs c hxs hR
      refine ⟨by omega, fun a ha => ⟨a, vs, by rw [List.append_nil], by omega, T, upd_same, fun d hd hda => ⟨rfl, d, (fls.zip vs).reverse, upd_same, by rw [upd_ne hda]; exact upd_same, by rw [upd_ne hda] at hd; exact hd, ?_⟩⟩⟩
      rw [upd_ne hda] at hd
      have e2 : Same H1 (upd (del (upd (upd (upd H1 a (exo a C none)) d (exd d (fls.zip vs).reverse)) a (exo a C (some d))) a) d (.xd (fls.zip vs).reverse)) := fun b o hb => by
        have h1 : b ≠ a := fun z => by rw [z, ha] at hb; cases hb
        have h2 : b ≠ d := fun z => by rw [z, hd] at hb; cases hb
        rw [upd_ne h2, del_ne h1, upd_ne h1, upd_ne h2, upd_ne h1]
        exact hb
      intro a2 ha2
      have e3 := same_new (o := exv (.ref C) (some d) a2) ha2
      have e23 := e2.trans e3
      refine h1 (.ref a2) _ (e1.trans e23) ((I1.drop).flat e23 fun s => ?_)
      refine ⟨a2, .ref C, some d, rfl, upd_same, hm, .inr ⟨d, (fls.zip vs).reverse, rfl, ?_, ?_⟩⟩
      · exact e3 _ _ upd_same
      · intro f t ht
        exact Kv.lookup (Kv.reverse (Kv.zip (FReps.same e23 xs vs hF))) f t ht
    · exact h1.elim
  · exact h1.elim
def eMk0 (cls : Str) (f : M T) : M T := fun ρ => ob (f ρ) fun _ ρ => ok (.exc cls []) ρ
theorem fe_mk0 {X : Cx} {W : WX} {e : Expr} {f : M T} {cls : Str} {p pos : Pos} (E : XcP X.K X.mg cls) (hg : Gl X cls) (ha : FE X W e f) (hs : starEach [e] X.env = (false, eval e X.env) :: starEach [] X.env := by rfl) (hdb : (cls == ("__debug__" : Str)) = false := by decide) :
    FE X W (.Call (.Name cls p) [e] [] pos) (eMk0 cls f) := by
  obtain ⟨C, gC, q, kC, bC, tC⟩ := E
  obtain ⟨te, pe, qe⟩ := ha
  refine ⟨_, pe_ofMk (SkE.pmk_own1 PySem.F.excBase_ValueError q gC kC (raises_own bC tC) hg pe hs hdb), fun H0 H σ ρ tmp Q I h => qe H0 H σ ρ tmp _ I (h.ob.imp fun u ρ1 h1 v H1 e1 I1 a ha => ?_)⟩
  have e3 := same_new (o := exv (.ref C) none a) ha
  exact h1 (.ref a) _ (e1.trans e3) ((I1.drop1).flat e3 fun s => ⟨a, .ref C, none, rfl, upd_same, gC, .inl ⟨rfl, rfl⟩⟩)
@[simp] theorem eMk_ap {cls : Str} {fls : List Str} {fs : M (List T)} {ρ : En} : eMk cls fls fs ρ = ob (fs ρ) fun us ρ => match toFVs us with
  | some xs => if us.length = fls.length ∧ us.length ≤ 1000 then ok (.exc cls (fls.zip xs).reverse) ρ else none
  | none => none := rfl
@[simp] theorem eMk0_ap {cls : Str} {f : M T} {ρ : En} : eMk0 cls f ρ = ob (f ρ) fun _ ρ => ok (.exc cls []) ρ := rfl
end FL
namespace FL
open PySem PySem.Spec L2
open PyProof.Rows hiding St
/-! ## is True, is not True -/
def rIsB : R2 := fun x y H Q => ∃ a b, x = .bl a ∧ y = .bl b ∧ Q (.bl (a == b)) H
def rNotB : R2 := fun x y H Q => ∃ a b, x = .bl a ∧ y = .bl b ∧ Q (.bl (!(a == b))) H
theorem op_isB {X : Cx} : OpR X (compareOp .Is) rIsB := by
  intro pins s σ H x y v u Q I rx ry h
  obtain ⟨a, b, rfl, rfl, q⟩ := h
  cases (show v = Value.bool a from rx)
  cases (show u = Value.bool b from ry)
  by_cases e : a = b
  · subst e
    exact wpAny_is_self rfl ⟨.bl true, H, I, rfl, by simpa using q⟩
  · exact wpAny_is_other rfl (fun z => e (Value.bool.inj z)) ⟨.bl false, H, I, rfl, by rw [show (a == b) = false from by simpa using e] at q; exact q⟩
theorem op_notB {X : Cx} : OpR X (compareOp .IsNot) rNotB := by
  intro pins s σ H x y v u Q I rx ry h
  obtain ⟨a, b, rfl, rfl, q⟩ := h
  cases (show v = Value.bool a from rx)
  cases (show u = Value.bool b from ry)
  by_cases e : a = b
  · subst e
    exact wpAny_isNot_self rfl ⟨.bl false, H, I, rfl, by simpa using q⟩
  · exact wpAny_isNot_other rfl (fun z => e (Value.bool.inj z)) ⟨.bl true, H, I, rfl, by rw [show (a == b) = false from by simpa using e] at q; exact q⟩
def gIsB : T → T → Option T
  | .bl a, .bl b => some (.bl (a == b))
  | _, _ => none
def gNotB : T → T → Option T
  | .bl a, .bl b => some (.bl (!(a == b)))
  | _, _ => none
@[simp] theorem gIsB_b {a b : Bool} : gIsB (.bl a) (.bl b) = some (.bl (a == b)) := rfl
@[simp] theorem gNotB_b {a b : Bool} : gNotB (.bl a) (.bl b) = some (.bl (!(a == b))) := rfl
theorem ok_isB {K : PySem.W.Frag} {mg : Str → Option Value} : OpOk K mg rIsB gIsB := fun H0 H σ ρ tmp x y z vx vy Q h I k => by
  match x, y, h, I with
  | .bl a, .bl b, h, I =>
    cases h
    have ey := I.bl
    have ex := I.drop1.bl
    subst ey
    subst ex
    exact ⟨a, b, rfl, rfl, k _ H (Same.refl H) (I.two_flat fun s => rfl)⟩
theorem ok_notB {K : PySem.W.Frag} {mg : Str → Option Value} : OpOk K mg rNotB gNotB := fun H0 H σ ρ tmp x y z vx vy Q h I k => by
  match x, y, h, I with
  | .bl a, .bl b, h, I =>
    cases h
    have ey := I.bl
    have ex := I.drop1.bl
    subst ey
    subst ex
    exact ⟨a, b, rfl, rfl, k _ H (Same.refl H) (I.two_flat fun s => rfl)⟩
end FL
set_option maxHeartbeats 4000000
namespace FL
open PySem PySem.Spec L2
open PyProof.Rows hiding St
/-! ## a short tuple, many times -/
def rMulT (K : PySem.W.Frag) : R2 := fun x y H Q => ∃ l k xs, x = .ref l ∧ y = .int k ∧ SqT K H l xs ∧ xs ≠ [] ∧ 2 ≤ k ∧ k ≤ 5000 ∧ xs.length ≤ 100 ∧ ∀ p, H p = none → Q (.ref p) (upd H p (.tup (List.replicate k.toNat xs).flatten))
theorem op_mulT {X : Cx} : OpR X (binaryOp .Mult) (rMulT X.K) := by
  intro pins s σ H x y v u Q I rx ry h
  obtain ⟨l, k, xs, rfl, rfl, hT, hne, h1, h2, hz, q⟩ := h
  obtain rfl : v = Value.ref l := rx
  obtain ⟨t, rfl⟩ := ry
  obtain ⟨its, r, ⟨⟨cls, dd, data, sl⟩, ho, hc, n, hd⟩, hs⟩ := I.tuple hT
  dsimp only at hc hd
  subst hc
  subst hd
  have len1 : its.length = xs.length := r.length.symm
  have pos : 0 < its.length := by
    rw [len1]
    exact List.length_pos_iff.mpr hne
  have sz1 : its.toArray.size = xs.length := by rw [List.size_toArray, len1]
  have emp : its.toArray.isEmpty = false := by
    cases its with
    | nil => simp at pos
    | cons a b => rfl
  have prod : ((its.toArray.size : Nat) : Int) * k ≤ 500000 := by
    rw [sz1]
    have := Int.mul_le_mul (show ((xs.length : Nat) : Int) ≤ 100 by omega) h2 (by omega) (by omega)
    omega
  have prodN : k.toNat * xs.length ≤ 5000 * 100 := Nat.mul_le_mul (by omega) hz
  have flat : (List.replicate k.toNat its).flatten.length ≤ sizeLine := by
    rw [PyProof.Rows.lm_len_rep_flat, len1, sizeLine_eq]
    omega
  have many : Builtin.Tuple.tupleTooMany (((its.toArray.size : Nat) : Int) * k) = false := by
    unfold Builtin.Tuple.tupleTooMany
    rw [sizeLine_eq]
    exact decide_eq_false (by omega)
  have walk := tuple_mulW l its.toArray n dd sl k t (by simp; omega) (by rw [emp, Bool.false_or]; exact beq_eq_false_iff_ne.mpr (by omega)) (by rw [emp, Bool.or_false]; exact decide_eq_false (by omega)) (by omega) many
    (by rw [size_rep, List.size_toArray]; exact flat)
  refine wpAny_binaryOp_repeat_ref (T := "tuple") (U := "int") (by decide) ⟨_, ho, rfl⟩ (fun s' => typeIs_int s' k t) noFill_tuple_mul F.fills_int_mul F.slot_int_rmul repeat_tuple F.slot_int_index.lookup ?_
  refine call_meets F.slot_int_rmul (typeIs_int s k t) F.entry_int_rmul (F.args_int_rmul_2 _ _) (int_rmul_tuple k t l its.toArray n dd sl) ⟨ho, rfl, ⟨_, ho, rfl⟩, ?_⟩
  refine call_meets F.slot_tuple_mul ⟨_, ho, rfl⟩ F.entry_tuple_mul (F.args_tuple_mul_2 _ _) walk ⟨ho, ?_⟩
  rw [size_rep]
  have lay := I.laid (t' := s.toks) (o := .tup (List.replicate k.toNat xs).flatten) (fun b ob q => Heap.get?_push_of_some _ q) (Nat.le_refl _) ⟨by
    rw [PyProof.Rows.lm_len_rep_flat, sizeLine_eq]
    omega, _, r.rep k.toNat, IsTup.new _ _⟩
  exact ⟨.ref s.heap.objs.size, _, lay, rfl, q _ (I.hok.fresh (Nat.le_refl _))⟩
def gMulT : T → T → Option T
  | .tup xs, .int k => if xs ≠ [] ∧ nols xs = true ∧ 2 ≤ k ∧ k ≤ 5000 ∧ xs.length ≤ 100 then some (.tup (rept k xs)) else none
  | _, _ => none
@[simp] theorem gMulT_t {xs : List T} {k : Int} : gMulT (.tup xs) (.int k) = if xs ≠ [] ∧ nols xs = true ∧ 2 ≤ k ∧ k ≤ 5000 ∧ xs.length ≤ 100 then some (.tup (rept k xs)) else none := rfl
theorem ok_mulT {K : PySem.W.Frag} {mg : Str → Option Value} : OpOk K mg (rMulT K) gMulT := fun H0 H σ ρ tmp x y z vx vy Q h I k => by
  unfold gMulT at h
  split at h
  · split at h
    · rename_i xs n hc
      cases h
      have ey := I.int
      subst ey
      obtain ⟨s, cx, cy, hx, hy, kk⟩ := I.two
      obtain ⟨a, vs, rfl, h1, h1', h2⟩ := hx.tupS
      have lv : vs.length = xs.length := lens h2
      refine ⟨a, n, vs, rfl, rfl, h1, ?_, hc.2.2.1, hc.2.2.2.1, by rw [lv]; exact hc.2.2.2.2, fun p hp => ?_⟩
      · intro e
        subst e
        exact hc.1 (List.length_eq_zero_iff.mp lv.symm)
      · have e3 := same_new (o := .tup (List.replicate n.toNat vs).flatten) hp
        refine k _ _ e3 (kk _ _ _ e3 ⟨zc, ⟨p, _, rfl, .inl upd_same, ?_⟩, fun b => Nat.zero_le _⟩)
        exact Reps.mono (fun _ h => h) e3 _ _ zc zc (fun _ => Nat.le_refl _) (Reps.rept (Reps.nol (s' := s) xs vs cx hc.2.1 h2) n.toNat)
    · cases h
  · cases h
end FL
namespace FL
open PySem PySem.Spec L2
open PyProof.Rows hiding St
/-! ## a list that is not written any more -/
section
variable {X : Cx} {pins : List (Addr × Obj)} {σ : L2.St} {H : Hp} {s : Shared}
theorem Inv.frz {a : Addr} {xs : List V} (I : Inv X pins σ H s) (ha : H a = some (.lst xs)) : ∃ o, Inv X pins σ (upd H a (.frz o (.lst xs))) s := by
  obtain ⟨hle, its, n, hv, hg⟩ := (show ObjOk X.prog X.w H s.heap a (.lst xs) from I.hok a _ ha)
  have ne : ∀ {b}, H b = none → b ≠ a := fun hb z => by rw [z, ha] at hb; cases hb
  have ne2 : ∀ {b u}, H b = some u → (∀ ys, u ≠ .lst ys) → b ≠ a := fun hb hu z => by
    rw [z, ha] at hb
    cases hb
    exact hu _ rfl
  refine ⟨{ cls := .type "list", data := .seq its.toArray n }, I.ok, I.os, I.bare, ⟨I.base.keep, I.base.slot, fun b o e n hx => ?_, I.base.there, fun b ys e => ?_, fun b o u e => ?_, fun b ps e => ?_⟩, I.loc, I.cell, ?_, fun x c e => ?_, fun p hp => ?_, fun b u e => ?_, I.len⟩
  · rw [upd_ne (ne (I.base.free b o e n hx))]
    exact I.base.free b o e n hx
  · have z := I.base.tups b ys e
    rw [upd_ne (ne2 z fun _ q => by cases q)]
    exact z
  · have z := I.base.frzs b o u e
    rw [upd_ne (ne2 z fun _ q => by cases q)]
    exact z
  · obtain ⟨m, z⟩ := I.base.tbls b ps e
    exact ⟨m, by rw [upd_ne (ne2 z fun _ q => by cases q)]; exact z⟩
  · rw [upd_ne (ne I.free)]
    exact I.free
  · rw [upd_ne (ne (I.freeC x c e))]
    exact I.freeC x c e
  · obtain ⟨h1, h2, h3⟩ := I.pin p hp
    exact ⟨h1, by rw [upd_ne (ne h2)]; exact h2, h3⟩
  · by_cases hb : b = a
    · subst hb
      rw [upd_same] at e
      cases e
      exact ⟨hg, hle, its, n, hv, hg⟩
    · rw [upd_ne hb] at e
      exact (I.hok b u e).stay (fun _ _ _ q => q) (fun c q => by rw [upd_ne (ne2 q fun _ z => by cases z)]; exact q) fun c ys q => by rw [upd_ne (ne2 q fun _ z => by cases z)]; exact q
end
theorem Iv.frz {K : PySem.W.Frag} {mg : Str → Option Value} {H0 H : Hp} {σ : L2.St} {ρ : En} {tmp : List (T × V)} {i : Nat} {ts : List T} (nb : Nb tmp) (hn : nobs ts = true) (h : ρ[i]? = some (some (.lst .ow ts))) (hl : nols ts = true) (I : Iv K mg H0 H σ ρ tmp) :
    ∃ a xs, H a = some (.lst xs) ∧ ∀ o, Iv K mg H0 (upd H a (.frz o (.lst xs))) σ (ρ.set i (some (.lst .fz ts))) tmp := by
  obtain ⟨v, hv, ext, c, s, c1, c2, w, hc, hS, d1, d2, hd, hR, hP⟩ := I.move h
  obtain ⟨a, vs, c', rfl, ha, h3, h4, h2⟩ := hR
  have k0 := hc a
  have k1 := hd a
  have k2 := w.one a
  have hc1 : c1 a = 0 := by omega
  have hd2 : d2 a = 0 := by omega
  obtain ⟨w1, w2, w3⟩ := w.own a (by omega)
  refine ⟨a, vs, ha, fun o => ?_⟩
  have I2 : Iv K mg H0 (upd H a (.frz o (.lst vs))) σ (ρ.set i none) ((.lst .fz ts, .ref a) :: tmp) := by
    refine ⟨fun b u q => ?_, c, s, c1, fun b => d2 b, ⟨w.one, fun b hb => ⟨(w.own b hb).1, ?_, (w.own b hb).2.2⟩, fun b hb => ?_⟩, fun b => by have := hc b; have := hd b; show c1 b + d2 b ≤ c b; omega, RepS.upd ha w1 hc1 hS, zc, d2, fun b => by simp, ⟨a, vs, rfl, .inl ⟨o, upd_same⟩, ?_⟩, RepP.upd ha w1 nb hd2 hP⟩
    · rw [upd_ne (fun z => by rw [z, w3] at q; cases q)]
      exact ext b u q
    · by_cases hba : b = a
      · rw [hba, upd_same]; exact fun z => by cases z
      · rw [upd_ne hba]; exact (w.own b hb).2.1
    · by_cases hba : b = a
      · rw [hba, upd_same]; exact fun z => by cases z
      · rw [upd_ne hba]; exact w.shd b hb
    · exact Reps.upd ha w1 ts vs zc hn rfl (Reps.nol (s' := s) ts vs c' hl h2)
  have I3 := I2.put (i := i) (by simpa [nob] using hn)
  rw [List.set_set] at I3
  have e : σ.set i (some (.ref a)) = σ := by
    apply List.ext_getElem?
    intro j
    by_cases hj : j = i
    · subst hj
      have hlen : j < σ.length := by
        apply Classical.byContradiction
        intro z
        rw [List.getElem?_eq_none (by omega)] at hv
        cases hv
      rw [List.getElem?_set_self hlen, hv]
    · rw [List.getElem?_set_ne (fun z => hj z.symm)]
  rw [e] at I3
  exact I3
def sFrz (i : Nat) : S := fun ρ => match ρ[i]? with
  | some (some (.lst .ow ts)) => if nols ts = true ∧ nobs ts = true then some (.ok (.nx (ρ.set i (some (.lst .fz ts))))) else none
  | _ => none
theorem fss_frz {X : Cx} {W : WX} {i : Nat} {rest : List Stmt} {s : S} (h : FSs X W rest s) : FSs X W rest (sSeq (sFrz i) s) := by
  obtain ⟨t, p, q⟩ := h
  refine ⟨fun D σ H => ∃ a xs, H a = some (.lst xs) ∧ ∀ o, t D σ (upd H a (.frz o (.lst xs))), ⟨fun pins s σ H D I ⟨a, xs, ha, hk⟩ => ?_⟩, fun H0 H σ ρ tmp D nb I h => ?_⟩
  · obtain ⟨o, I2⟩ := Inv.frz I ha
    exact p.run pins s σ _ D I2 (hk o)
  · by_cases hg : ∃ ts, ρ[i]? = some (some (.lst .ow ts)) ∧ nols ts = true ∧ nobs ts = true
    · obtain ⟨ts, ht, hc⟩ := hg
      have e : sSeq (sFrz i) s ρ = s (ρ.set i (some (.lst .fz ts))) := by
        unfold sSeq sFrz
        simp only [ht, hc]
        rfl
      rw [e] at h
      obtain ⟨a, xs, ha, hk⟩ := Iv.frz nb hc.2 ht hc.1 I
      exact ⟨a, xs, ha, fun o => q H0 _ σ _ tmp D nb (hk o) h⟩
    · have e : sSeq (sFrz i) s ρ = none := by
        have e2 : sFrz i ρ = none := by
          unfold sFrz
          split
          · rename_i ts ht
            exact if_neg fun hc => hg ⟨ts, ht, hc⟩
          · rfl
        unfold sSeq
        rw [e2]
      rw [e] at h
      exact h.elim
end FL
namespace FL
open PySem PySem.Spec L2
open PyProof.Rows hiding St
/-! ## two names for one list -/
mutual
/-- the way to the list that stands at a -/
def findP (a : Addr) : T → Option (List Nat)
  | .tup ts => if nols ts = true then none else findPs a 0 ts
  | .lst .ow ts => findPs a 0 ts
  | .lst (.pn b) ts => match findPs a 0 ts with
    | some p => some p
    | none => if b = a then some [] else none
  | _ => none
def findPs (a : Addr) : Nat → List T → Option (List Nat)
  | _, [] => none
  | k, t :: ts => match findP a t with
    | some p => some (k :: p)
    | none => findPs a (k + 1) ts
end
/-- .. from a name on -/
def findE (a : Addr) : Nat → En → Option Pl
  | _, [] => none
  | i, none :: ρ => findE a (i + 1) ρ
  | i, some t :: ρ => match findP a t with
    | some p => some (i, p)
    | none => findE a (i + 1) ρ
section
variable {K : PySem.W.Frag} {mg : Str → Option Value} {H : Hp} {s : Addr → Prop}
mutual
theorem findP_ok (a : Addr) : ∀ (t : T) (v0 : V) (c : Cnt) (p : List Nat), Rep K mg H s t v0 c → findP a t = some p → Nav H v0 p (.ref a) ∧ ∃ us, getA p t = some (.lst (.pn a) us)
  | .non, _, _, _, _, h => by simp [findP] at h
  | .bl _, _, _, _, _, h => by simp [findP] at h
  | .int _, _, _, _, _, h => by simp [findP] at h
  | .str _, _, _, _, _, h => by simp [findP] at h
  | .exc _ _, _, _, _, _, h => by simp [findP] at h
  | .emp, _, _, _, _, h => by simp [findP] at h
  | .vid _, _, _, _, _, h => by simp [findP] at h
  | .lst .sh ts, _, _, _, _, h => by simp [findP] at h
  | .lst .bo ts, _, _, _, _, h => by simp [findP] at h
  | .lst .fz ts, _, _, _, _, h => by simp [findP] at h
  | .tup ts, v0, c, p, hr, h => by
    unfold findP at h
    split at h
    · cases h
    · rename_i hn
      obtain ⟨b, vs, rfl, h1, h2⟩ := hr
      have k1 : H b = some (.tup vs) := h1.elim (fun z => z) fun z => absurd z.1 hn
      obtain ⟨k, r, t, w, e1, e2, e3, e4, us, e5⟩ := findPs_ok a ts vs c 0 p h2 h
      rw [Nat.zero_add] at e1
      subst e1
      refine ⟨⟨b, vs, w, rfl, .inl k1, e3, e4⟩, us, ?_⟩
      unfold getA
      rw [if_neg hn, e2]
      exact e5
  | .lst .ow ts, v0, c, p, hr, h => by
    unfold findP at h
    obtain ⟨b, vs, c', rfl, h1, h3, h4, h2⟩ := hr
    obtain ⟨k, r, t, w, e1, e2, e3, e4, us, e5⟩ := findPs_ok a ts vs c' 0 p h2 h
    rw [Nat.zero_add] at e1
    subst e1
    refine ⟨⟨b, vs, w, rfl, .inr h1, e3, e4⟩, us, ?_⟩
    show (ts[k]?).bind (getA r) = _
    rw [e2]
    exact e5
  | .lst (.pn q) ts, v0, c, p, hr, h => by
    unfold findP at h
    obtain ⟨e0, b, vs, c', e1, h1, h3, h4, h2⟩ := hr
    split at h
    case h_2 =>
      split at h
      · rename_i hq
        cases h
        subst hq
        exact ⟨e0.symm, ts, rfl⟩
      · cases h
    case h_1 r0 hr0 =>
      cases h
      subst e1
      obtain ⟨k, r, t, w, e1, e2, e3, e4, us, e5⟩ := findPs_ok a ts vs c' 0 p h2 hr0
      rw [Nat.zero_add] at e1
      subst e1
      refine ⟨⟨b, vs, w, rfl, .inr h1, e3, e4⟩, us, ?_⟩
      show (ts[k]?).bind (getA r) = _
      rw [e2]
      exact e5
theorem findPs_ok (a : Addr) : ∀ (ts : List T) (vs : List V) (c : Cnt) (i : Nat) (p : List Nat), Reps K mg H s ts vs c → findPs a i ts = some p → ∃ k r t w, p = (i + k) :: r ∧ ts[k]? = some t ∧ vs[k]? = some w ∧ Nav H w r (.ref a) ∧ ∃ us, getA r t = some (.lst (.pn a) us)
  | [], _, _, _, _, _, h => by simp [findPs] at h
  | t :: ts, vs, c, i, p, hr, h => by
    obtain ⟨v, r, c1, c2, rfl, h1, h2, h3⟩ := hr
    unfold findPs at h
    split at h
    · rename_i q hq
      cases h
      obtain ⟨g1, g2⟩ := findP_ok a t v c1 q h2 hq
      exact ⟨0, q, t, v, rfl, rfl, rfl, g1, g2⟩
    · obtain ⟨k, q, u, w, e1, e2, e3, e4, e5⟩ := findPs_ok a ts r c2 (i + 1) p h3 h
      exact ⟨k + 1, q, u, w, by rw [e1, Nat.add_assoc, Nat.add_comm 1 k], by simpa using e2, by simpa using e3, e4, e5⟩
end
theorem findE_ok {a : Addr} : ∀ {ρ : En} {i : Nat} {ip : Pl}, findE a i ρ = some ip → ∃ k t, ip.1 = i + k ∧ ρ[k]? = some (some t) ∧ findP a t = some ip.2
  | [], _, _, h => by simp [findE] at h
  | none :: ρ, i, ip, h => by
    unfold findE at h
    obtain ⟨k, t, e1, e2, e3⟩ := findE_ok h
    exact ⟨k + 1, t, by omega, by simpa using e2, e3⟩
  | some t :: ρ, i, ip, h => by
    unfold findE at h
    split at h
    · rename_i p hp
      cases h
      exact ⟨0, t, rfl, rfl, hp⟩
    · obtain ⟨k, u, e1, e2, e3⟩ := findE_ok h
      exact ⟨k + 1, u, by omega, by simpa using e2, e3⟩
end
/-- the place that a second name stands for -/
def aliP (i : Nat) (ρ : En) : Option Pl := match ρ[i]? with
  | some (some (.vid a)) => findE a 0 ρ
  | _ => none
def pAli (i : Nat) : M Pl := fun ρ => match aliP i ρ with
  | some ip => ok ip ρ
  | none => none
/-- what it stands for, read -/
def eAli (i : Nat) : M T := fun ρ => match aliP i ρ with
  | some ip => (match atP ρ ip with
    | some u => ok (bor u) ρ
    | none => none)
  | none => none
theorem Iv.ali {K : PySem.W.Frag} {mg : Str → Option Value} {H0 H : Hp} {σ : L2.St} {ρ : En} {tmp : List (T × V)} {i : Nat} {ip : Pl} (I : Iv K mg H0 H σ ρ tmp) (h : aliP i ρ = some ip) :
    ∃ a t v0, σ[i]? = some (some (.ref a)) ∧ ρ[ip.1]? = some (some t) ∧ σ[ip.1]? = some (some v0) ∧ Nav H v0 ip.2 (.ref a) ∧ ∃ us, getA ip.2 t = some (.lst (.pn a) us) := by
  unfold aliP at h
  split at h
  · rename_i a ha
    obtain ⟨v, hv, I2⟩ := I.borrow ha
    obtain ⟨s, c, _, hR⟩ := I.slot ha hv
    have ev : v = .ref a := hR
    subst ev
    obtain ⟨k, t, e1, e2, e3⟩ := findE_ok h
    rw [Nat.zero_add] at e1
    obtain ⟨v0, hv0, I3⟩ := I.borrow (i := k) e2
    obtain ⟨s', c', _, hR'⟩ := I.slot e2 hv0
    obtain ⟨g1, g2⟩ := findP_ok a t v0 c' ip.2 hR' e3
    exact ⟨a, t, v0, hv, by rw [e1]; exact e2, by rw [e1]; exact hv0, g1, g2⟩
  · cases h
section
variable {X : Cx} {W : WX} {pos : Pos}
theorem fp_ali (i : Nat) {x : Str} (hN : X.N[i]? = some x := by rfl) (hv : Vis X.env.scope x := by first | exact Or.inl rfl | exact Or.inr (Or.inl rfl) | exact Or.inr (Or.inr rfl)) (hd : (x == ("__debug__" : Str)) = false := by decide)
    (hcd : (x == ("__classdict__" : Str)) = false := by decide) : FP X W (.Name x pos) (pAli i) := by
  refine ⟨tVar i, pe_var hN hv hd hcd, fun H0 H σ ρ tmp Q I h => ?_⟩
  unfold pAli at h
  split at h
  · rename_i ip hip
    obtain ⟨a, t, v0, g1, g2, g3, g4, _⟩ := I.ali hip
    exact ⟨.ref a, g1, h (.ref a) v0 H (Same.refl H) I g3 g4⟩
  · exact h.elim
theorem fe_ali (i : Nat) {x : Str} (hN : X.N[i]? = some x := by rfl) (hv : Vis X.env.scope x := by first | exact Or.inl rfl | exact Or.inr (Or.inl rfl) | exact Or.inr (Or.inr rfl)) (hd : (x == ("__debug__" : Str)) = false := by decide)
    (hcd : (x == ("__classdict__" : Str)) = false := by decide) : FE X W (.Name x pos) (eAli i) := by
  refine ⟨tVar i, pe_var hN hv hd hcd, fun H0 H σ ρ tmp Q I h => ?_⟩
  unfold eAli at h
  split at h
  · rename_i ip hip
    split at h
    · rename_i u hu
      obtain ⟨a, t, v0, g1, g2, g3, g4, us, g5⟩ := I.ali hip
      obtain ⟨t', ht', hu'⟩ := atP_inv hu
      rw [g2] at ht'
      cases ht'
      refine ⟨.ref a, g1, h (.ref a) H (Same.refl H) ?_⟩
      obtain ⟨ext, c, s, c1, c2, w, hc, hS, hP⟩ := I
      obtain ⟨v, d1, d2, hv, hd, hb, hR, hS'⟩ := hS.get g2
      rw [g3] at hv
      cases hv
      obtain ⟨c', hN'⟩ := hR.node g4 hu'
      exact ⟨ext, c, s, c1, c2, w, hc, hS, ⟨zc, c2, fun b => by simp, Rep.bor _ _ _ hN', hP⟩⟩
    · exact h.elim
  · exact h.elim
end
end FL
namespace FL
open PySem PySem.Spec L2
open PyProof.Rows hiding St
section
variable {K : PySem.W.Frag} {mg : Str → Option Value} {H : Hp} {s : Addr → Prop}
theorem Reps.put {t u : T} : ∀ {ts : List T} {vs : List V} {c : Cnt} {k : Nat}, Reps K mg H s ts vs c → ts[k]? = some t → (∀ w c', vs[k]? = some w → Rep K mg H s t w c' → Rep K mg H s u w c') → Reps K mg H s (ts.set k u) vs c
  | [], _, _, _, _, e, _ => by simp at e
  | t0 :: ts, vs, c, 0, h, e, hk => by
    obtain ⟨v, r, c1, c2, rfl, h1, h2, h3⟩ := h
    have e' : t0 = t := by simpa using e
    subst e'
    exact ⟨v, r, c1, c2, rfl, h1, hk v c1 rfl h2, h3⟩
  | t0 :: ts, vs, c, k + 1, h, e, hk => by
    obtain ⟨v, r, c1, c2, rfl, h1, h2, h3⟩ := h
    exact ⟨v, ts.set k u |> fun _ => r, c1, c2, rfl, h1, h2, Reps.put h3 (by simpa using e) fun w c' hw => hk w c' (by simpa using hw)⟩
/-- a thing at a place is seen otherwise -/
theorem Rep.put {u u' : T} {v : V} (hu : ∀ c, Rep K mg H s u v c → Rep K mg H s u' v c) : ∀ {p : List Nat} {t : T} {v0 : V} {c : Cnt}, Rep K mg H s t v0 c → Nav H v0 p v → getA p t = some u → Rep K mg H s (FL.setA p t u') v0 c
  | [], t, v0, c, h, n, g => by
    have n' : v = v0 := n
    have g' : t = u := by simpa [getA] using g
    subst n'
    subst g'
    exact hu c h
  | k :: r, .tup ts, v0, c, h, n, g => by
    obtain ⟨b, vs, v1, e1, h1, h2, h3⟩ := n
    subst e1
    unfold getA at g
    split at g
    · cases g
    · rename_i hn
      obtain ⟨t1, ht1, g⟩ := Option.bind_eq_some_iff.mp g
      obtain ⟨a0, ws, e2, k1, k2⟩ := h
      cases e2
      have k1' : H b = some (.tup ws) := k1.elim (fun z => z) fun z => absurd z.1 hn
      have : ws = vs := by
        rcases h1 with z | z <;> rw [k1'] at z <;> cases z
        rfl
      subst this
      have es : FL.setA (k :: r) (.tup ts) u' = .tup (ts.set k (FL.setA r t1 u')) := by simp [FL.setA, ht1]
      rw [es]
      refine ⟨b, ws, rfl, .inl k1', Reps.put k2 ht1 fun w c' hw hr => ?_⟩
      rw [h2] at hw
      cases hw
      exact Rep.put hu hr h3 g
  | k :: r, .lst o ts, v0, c, h, n, g => by
    obtain ⟨b, vs, v1, e1, h1, h2, h3⟩ := n
    subst e1
    by_cases ho : o = .fz
    · subst ho
      cases g
    · have g' : (ts[k]?).bind (getA r) = some u := by cases o <;> first | exact g | exact absurd rfl ho
      obtain ⟨t1, ht1, g⟩ := Option.bind_eq_some_iff.mp g'
      have es : FL.setA (k :: r) (.lst o ts) u' = .lst o (ts.set k (FL.setA r t1 u')) := by simp [FL.setA, ht1]
      rw [es]
      have same : ∀ {ws : List V}, H b = some (.lst ws) → ws = vs := fun k1 => by
        rcases h1 with z | z <;> rw [k1] at z <;> cases z
        rfl
      have go : ∀ {ws : List V} {c' : Cnt}, ws = vs → Reps K mg H s ts ws c' → Reps K mg H s (ts.set k (FL.setA r t1 u')) ws c' := fun e k2 => by
        subst e
        exact Reps.put k2 ht1 fun w c' hw hr => by
          rw [h2] at hw
          cases hw
          exact Rep.put hu hr h3 g
      cases o with
      | fz => exact absurd rfl ho
      | sh =>
        obtain ⟨a0, ws, e2, k1, k3, k2⟩ := h
        cases e2
        exact ⟨b, ws, rfl, k1, k3, go (same k1) k2⟩
      | bo =>
        obtain ⟨a0, ws, e2, k1, k2⟩ := h
        cases e2
        exact ⟨b, ws, rfl, k1, go (same k1) k2⟩
      | ow =>
        obtain ⟨a0, ws, c', e2, k1, k3, k4, k2⟩ := h
        cases e2
        exact ⟨b, ws, c', rfl, k1, k3, k4, go (same k1) k2⟩
      | pn q =>
        obtain ⟨e0, a0, ws, c', e2, k1, k3, k4, k2⟩ := h
        cases e2
        exact ⟨e0, b, ws, c', rfl, k1, k3, k4, go (same k1) k2⟩
  | k :: r, .non, v0, c, h, n, g => by simp [getA] at g
  | k :: r, .bl _, v0, c, h, n, g => by simp [getA] at g
  | k :: r, .int _, v0, c, h, n, g => by simp [getA] at g
  | k :: r, .str _, v0, c, h, n, g => by simp [getA] at g
  | k :: r, .exc _ _, v0, c, h, n, g => by simp [getA] at g
  | k :: r, .emp, v0, c, h, n, g => by simp [getA] at g
  | k :: r, .vid _, v0, c, h, n, g => by simp [getA] at g
theorem nob_setA {u u' : T} (hu : nob u' = true) : ∀ {p : List Nat} {t : T}, nob t = true → getA p t = some u → nob (setA p t u') = true
  | [], t, h, g => hu
  | k :: r, .tup ts, h, g => by
    unfold getA at g
    split at g
    · cases g
    · obtain ⟨t1, ht1, g⟩ := Option.bind_eq_some_iff.mp g
      have hb : nobs ts = true := h
      have es : FL.setA (k :: r) (.tup ts) u' = .tup (ts.set k (FL.setA r t1 u')) := by simp [FL.setA, ht1]
      rw [es]
      have h1 : nob t1 = true := by
        rw [nobs_all] at hb
        exact List.all_eq_true.mp hb t1 (List.mem_of_getElem? ht1)
      exact set_ok hb (nob_setA hu h1 g)
  | k :: r, .lst o ts, h, g => by
    by_cases ho : o = .fz
    · subst ho
      cases g
    · have g' : (ts[k]?).bind (getA r) = some u := by cases o <;> first | exact g | exact absurd rfl ho
      obtain ⟨t1, ht1, g⟩ := Option.bind_eq_some_iff.mp g'
      have es : FL.setA (k :: r) (.lst o ts) u' = .lst o (ts.set k (FL.setA r t1 u')) := by simp [FL.setA, ht1]
      rw [es]
      have z : (o != .bo && nobs ts) = true := h
      simp at z
      have h1 : nob t1 = true := by
        have hb := z.2
        rw [nobs_all] at hb
        exact List.all_eq_true.mp hb t1 (List.mem_of_getElem? ht1)
      show (o != .bo && nobs (ts.set k (FL.setA r t1 u'))) = true
      rw [set_ok z.2 (nob_setA hu h1 g)]
      simp [z.1]
  | k :: r, .non, h, g => by simp [getA] at g
  | k :: r, .bl _, h, g => by simp [getA] at g
  | k :: r, .int _, h, g => by simp [getA] at g
  | k :: r, .str _, h, g => by simp [getA] at g
  | k :: r, .exc _ _, h, g => by simp [getA] at g
  | k :: r, .emp, h, g => by simp [getA] at g
  | k :: r, .vid _, h, g => by simp [getA] at g
where
  set_ok {ts : List T} {k : Nat} {u : T} (h : nobs ts = true) (hu : nob u = true) : nobs (ts.set k u) = true := by
    rw [nobs_all] at h ⊢
    rw [List.all_eq_true] at h ⊢
    intro x hx
    rcases List.mem_or_eq_of_mem_set hx with z | z
    · exact h x z
    · rw [z]; exact hu
end
/-- the list at a place is marked -/
def pinP (ρ : En) (ip : Pl) (a : Addr) (us : List T) : En := match ρ[ip.1]? with
  | some (some t) => ρ.set ip.1 (some (setA ip.2 t (.lst (.pn a) us)))
  | _ => ρ
theorem Iv.pin {K : PySem.W.Frag} {mg : Str → Option Value} {H0 H : Hp} {σ : L2.St} {ρ : En} {tmp : List (T × V)} {ip : Pl} {a : Addr} {v0 : V} {us : List T} (I : Iv K mg H0 H σ ρ tmp) (h : atP ρ ip = some (.lst .ow us)) (hσ : σ[ip.1]? = some (some v0)) (n : Nav H v0 ip.2 (.ref a)) : Iv K mg H0 H σ (pinP ρ ip a us) tmp := by
  obtain ⟨t, ht, hg⟩ := atP_inv h
  obtain ⟨ext, c, s, c1, c2, w, hc, hS, hP⟩ := I
  obtain ⟨v, d1, d2, hv, hd, hb, hR, hS'⟩ := hS.get ht
  rw [hσ] at hv
  cases hv
  have hR' : Rep K mg H s (FL.setA ip.2 t (.lst (.pn a) us)) v0 d1 := Rep.put (u := .lst .ow us) (u' := .lst (.pn a) us) (v := .ref a) (fun c' hr => ⟨rfl, hr⟩) hR n hg
  have hnb : nob (.lst .ow us) = true := by
    have := Iv.nobs_own (mk := .ow) (p := ip.2) (t := t) (us := us) (σ := σ) (tmp := tmp) (H0 := H0) (H := H) ⟨ext, c, s, c1, c2, w, hc, hS, hP⟩ ht hg
    simpa [nob] using this
  have hb' : nob (setA ip.2 t (.lst (.pn a) us)) = true := nob_setA (by simpa [nob] using hnb) hb hg
  refine ⟨ext, c, s, c1, c2, w, hc, ?_, hP⟩
  unfold pinP
  rw [ht]
  have S3 := RepS.retree (i := ip.1) hb' hR' hσ (e := c1) (fun b => by have := hd b; omega) hS'
  rwa [List.set_set] at S3
end FL
namespace FL
open PySem PySem.Spec L2
open PyProof.Rows hiding St
/-! ## x = a place, and what follows, wherever the list stands -/
open Classical in
noncomputable def allA (f : Addr → So) : So := if ∀ a, f a = f 0 then f 0 else none
theorem allA_eq {f : Addr → So} {r : So} (h : ∀ a, f a = r) : allA f = r := by
  unfold allA
  rw [if_pos (fun a => by rw [h a, h 0]), h 0]
theorem allA_at {f : Addr → So} (h : allA f ≠ none) (a : Addr) : allA f = f a := by
  unfold allA at h ⊢
  split
  · rename_i hf
    exact (hf a).symm
  · rename_i hf
    rw [if_neg hf] at h
    exact absurd rfl h
noncomputable def sPin (p : M Pl) (i : Nat) (s : S) : S := fun ρ => sb (p ρ) fun ip ρ1 => match atP ρ1 ip with
  | some (.lst (.pn a) us) => s (ρ1.set i (some (.vid a)))
  | some (.lst .ow us) => allA fun a => s ((pinP ρ1 ip a us).set i (some (.vid a)))
  | _ => none
theorem Iv.vid {K : PySem.W.Frag} {mg : Str → Option Value} {H0 H : Hp} {σ : L2.St} {ρ : En} {tmp : List (T × V)} (a : Addr) (I : Iv K mg H0 H σ ρ tmp) : Iv K mg H0 H σ ρ ((.vid a, .ref a) :: tmp) := by
  obtain ⟨ext, c, s, c1, c2, w, hc, hS, hP⟩ := I
  exact ⟨ext, c, s, c1, c2, w, hc, hS, ⟨zc, c2, fun b => by simp, rfl, hP⟩⟩
section
variable {X : Cx} {W : WX} {e : Expr} {pos : Pos} {rest : List Stmt} {s : S} {p : M Pl}
theorem fss_pin {i : Nat} {ix : List Nat} {tg : Expr} (hp : FP X W e p) (hg : FG X tg ix (gN i)) (h : FSs X W rest s) (hs : swapsWithSole [tg] e pos.line X.env = pure false := by rfl) (hw : swappedStores [tg] e X.env = pure none := by rfl) (h1 : (assignEach [tg] X.env).map (·.2) = [assign tg X.env] := by rfl) :
    FSs X W (.Assign [tg] e pos :: rest) (sPin p i s) := by
  obtain ⟨t, pt, qt⟩ := hp
  obtain ⟨g, pg, qg⟩ := hg
  obtain ⟨t2, p2, q2⟩ := h
  refine ⟨_, pss_cons (ps_asg pt pg hs hw h1) p2, fun H0 H σ ρ tmp D nb I h => qt H0 H σ ρ tmp _ I (h.sb.imp fun ip ρ1 h1 v v0 H1 e1 I1 hσ n1 => ?_)⟩
  have gn : ∀ (a : Addr) (ρ : En), gN i (.vid a) ρ = some (ρ.set i (some (.vid a))) := fun a ρ => by
    unfold gN
    exact if_pos (rfl : nob (.vid a) = true)
  revert h1
  split
  · rename_i a us hat
    intro h1
    obtain ⟨t', ht', hg'⟩ := atP_inv hat
    obtain ⟨s', c, _, hR⟩ := I1.slot ht' hσ
    obtain ⟨c', hN⟩ := hR.node n1 hg'
    obtain ⟨ev, _⟩ := hN
    subst ev
    exact qg H0 H1 σ ρ1 _ tmp (.vid a) (.ref a) _ (gn a ρ1) (I1.vid a) fun σ' _ I' => q2 H0 H1 σ' _ tmp D nb I' h1
  · rename_i us hat
    intro h1
    have ho : ownP ρ1 ip = some us := by
      unfold ownP
      rw [hat]
    obtain ⟨a, vs, ev, _, _⟩ := I1.nodeAt hσ n1 ho
    subst ev
    have hne : allA (fun a => s ((pinP ρ1 ip a us).set i (some (.vid a)))) ≠ none := fun z => by
      rw [z] at h1
      exact h1.elim
    rw [allA_at hne a] at h1
    exact qg H0 H1 σ _ _ tmp (.vid a) (.ref a) _ (gn a _) ((I1.pin hat hσ n1).vid a) fun σ' _ I' => q2 H0 H1 σ' _ tmp D nb I' h1
  · intro h1
    exact h1.elim
end
/-! ## the marks are taken off -/
mutual
def unp : T → T
  | .tup ts => .tup (unps ts)
  | .lst (.pn _) ts => .lst .ow (unps ts)
  | .lst o ts => .lst o (unps ts)
  | t => t
def unps : List T → List T
  | [] => []
  | t :: ts => unp t :: unps ts
end
mutual
theorem nolUnp : ∀ t, nol t = true → nol (unp t) = true
  | .non, h => h
  | .bl _, h => h
  | .int _, h => h
  | .str _, h => h
  | .exc _ _, h => h
  | .emp, h => h
  | .vid _, h => h
  | .tup ts, h => nolsUnp ts h
  | .lst _ ts, h => by simp [nol] at h
theorem nolsUnp : ∀ ts, nols ts = true → nols (unps ts) = true
  | [], h => h
  | t :: ts, h => by
    have h' : nol t = true ∧ nols ts = true := by simpa [nols] using h
    show (nol (unp t) && nols (unps ts)) = true
    rw [nolUnp t h'.1, nolsUnp ts h'.2]
    rfl
end
section
variable {K : PySem.W.Frag} {mg : Str → Option Value} {H : Hp} {s : Addr → Prop}
mutual
theorem Rep.unp : ∀ (t : T) (v : V) (c : Cnt), Rep K mg H s t v c → Rep K mg H s (FL.unp t) v c
  | .non, _, _, h => h
  | .bl _, _, _, h => h
  | .int _, _, _, h => h
  | .str _, _, _, h => h
  | .exc _ _, _, _, h => h
  | .emp, _, _, h => h
  | .vid _, _, _, h => h
  | .tup ts, v, c, h => by
    obtain ⟨a, vs, e1, h1, h2⟩ := h
    exact ⟨a, vs, e1, h1.elim .inl (fun z => .inr ⟨nolsUnp ts z.1, z.2⟩), Reps.unp ts vs c h2⟩
  | .lst .sh ts, v, c, h => by
    obtain ⟨a, vs, e1, h1, h3, h2⟩ := h
    exact ⟨a, vs, e1, h1, h3, Reps.unp ts vs zc h2⟩
  | .lst .bo ts, v, c, h => by
    obtain ⟨a, vs, e1, h1, h2⟩ := h
    exact ⟨a, vs, e1, h1, Reps.unp ts vs zc h2⟩
  | .lst .fz ts, v, c, h => by
    obtain ⟨a, vs, e1, h1, h2⟩ := h
    exact ⟨a, vs, e1, h1, Reps.unp ts vs zc h2⟩
  | .lst .ow ts, v, c, h => by
    obtain ⟨a, vs, c1, e1, h1, h3, h4, h2⟩ := h
    exact ⟨a, vs, c1, e1, h1, h3, h4, Reps.unp ts vs c1 h2⟩
  | .lst (.pn p) ts, v, c, h => by
    obtain ⟨e0, a, vs, c1, e1, h1, h3, h4, h2⟩ := h
    exact ⟨a, vs, c1, e1, h1, h3, h4, Reps.unp ts vs c1 h2⟩
theorem Reps.unp : ∀ (ts : List T) (vs : List V) (c : Cnt), Reps K mg H s ts vs c → Reps K mg H s (FL.unps ts) vs c
  | [], _, _, h => h
  | t :: ts, vs, c, h => by
    obtain ⟨v, r, c1, c2, e1, h1, h2, h3⟩ := h
    exact ⟨v, r, c1, c2, e1, h1, Rep.unp t v c1 h2, Reps.unp ts r c2 h3⟩
end
end
def eMoveU (i : Nat) : M T := fun ρ => match ρ[i]? with
  | some (some t) => ok (unp t) (ρ.set i none)
  | _ => none
theorem fe_moveU {X : Cx} {W : WX} {pos : Pos} (i : Nat) {x : Str} (hN : X.N[i]? = some x := by rfl) (hv : Vis X.env.scope x := by first | exact Or.inl rfl | exact Or.inr (Or.inl rfl) | exact Or.inr (Or.inr rfl)) (hd : (x == ("__debug__" : Str)) = false := by decide)
    (hcd : (x == ("__classdict__" : Str)) = false := by decide) : FE X W (.Name x pos) (eMoveU i) := by
  refine ⟨tVar i, pe_var hN hv hd hcd, fun H0 H σ ρ tmp Q I h => ?_⟩
  unfold eMoveU at h
  split at h
  · rename_i t ht
    obtain ⟨v, hv, ext, c, s, c1, c2, w, hc, hS, d1, d2, h1, hR, hP⟩ := I.move ht
    exact ⟨v, hv, h v H (Same.refl H) ⟨ext, c, s, c1, c2, w, hc, hS, d1, d2, h1, Rep.unp t v d1 hR, hP⟩⟩
  · exact h.elim
end FL
namespace FL
open PySem PySem.Spec L2
open PyProof.Rows hiding St
/-! ## x.insert(i, e), x.pop(i) -/
section
variable {X : Cx} {W : WX} {e a o : Expr} {f fa : M T} {pos apos cpos : Pos} {p : M Pl}
def sIns (p : M Pl) (fi f : M T) : S := fun ρ => sb (p ρ) fun ip ρ => if (ownP ρ ip).isSome = true then (sb (fi ρ) fun k ρ => sb (f ρ) fun y ρ => match k, ownP ρ ip with
  | .int k, some us => if nob y = true ∧ us.length < 16777216 ∧ 0 ≤ k ∧ k ≤ 16777216 then some (.ok (.nx (putP ρ ip (us.take k.toNat ++ [y] ++ us.drop k.toNat)))) else none
  | _, _ => none) else none
theorem nobs_ins {us : List T} {y : T} {k : Nat} (h : nobs us = true) (hy : nob y = true) : nobs (us.take k ++ [y] ++ us.drop k) = true := by
  rw [nobs_all] at h ⊢
  rw [List.all_eq_true] at h ⊢
  intro x hx
  rcases List.mem_append.mp hx with hx | hx
  · rcases List.mem_append.mp hx with hx | hx
    · exact h x (List.mem_of_mem_take hx)
    · rw [List.mem_singleton.mp hx]; exact hy
  · exact h x (List.mem_of_mem_drop hx)
theorem Reps.ins {K : PySem.W.Frag} {mg : Str → Option Value} {H : Hp} {s : Addr → Prop} {y : T} {w : V} {cy : Cnt} (hy : Rep K mg H s y w cy) : ∀ {us : List T} {vs : List V} {c : Cnt} (k : Nat), Reps K mg H s us vs c → Reps K mg H s (us.take k ++ [y] ++ us.drop k) (vs.take k ++ [w] ++ vs.drop k) (fun b => c b + cy b)
  | us, vs, c, 0, h => by
    simp only [List.take_zero, List.nil_append, List.drop_zero, List.singleton_append]
    exact ⟨w, vs, cy, c, rfl, fun b => by show cy b + c b ≤ c b + cy b; omega, hy, h⟩
  | [], vs, c, k + 1, h => by
    have h' : vs = [] := h
    subst h'
    exact ⟨w, [], cy, zc, rfl, fun b => by show cy b + 0 ≤ c b + cy b; omega, hy, rfl⟩
  | u :: us, vs, c, k + 1, h => by
    obtain ⟨v, r, c1, c2, rfl, h1, h2, h3⟩ := h
    have ih := Reps.ins hy k h3
    exact ⟨v, _, c1, fun b => c2 b + cy b, rfl, fun b => by have := h1 b; show c1 b + (c2 b + cy b) ≤ c b + cy b; omega, h2, ih⟩
theorem fs_insert (hp : FP X W o p) (hi : FE X W a fa) (hf : FE X W e f) (hbase : attributeBase o "insert" X.env (eval o X.env) = eval o X.env := by rfl)
    (hfew : ((backTo cpos (starEach [a, e] X.env)).all (fun x => !x.1) && (backToKw cpos (keywordEach [] X.env)).all (fun x => x.1.isSome) && decide ([a, e].length + ([] : List Keyword).length + (if ([] : List Keyword).isEmpty then 0 else 1) < 30)) = true := by rfl)
    (hline : (apos.endLine == cpos.line) = true := by rfl) (hs : starEach [a, e] X.env = (false, eval a X.env) :: starEach [e] X.env := by rfl) (hs2 : starEach [e] X.env = (false, eval e X.env) :: starEach [] X.env := by rfl) (hplain : (backTo cpos (starEach [e] X.env)).any (·.1) = false := by rfl)
    (hsw : swapsWith (.Call (.Attribute o "insert" apos) [a, e] [] cpos) none pos.line X.env = pure false := by rfl) : FS X W (.Expr (.Call (.Attribute o "insert" apos) [a, e] [] cpos) pos) (sIns p fa f) := by
  obtain ⟨to, po, qo⟩ := hp
  obtain ⟨ti, pi, qi⟩ := hi
  obtain ⟨te, pe, qe⟩ := hf
  refine ⟨_, ps_expr (pe_bm PySem.F.plainAttrs_list PySem.F.slot_list_insert PySem.F.type_list_insert mt_insert po (pa_cons pi (pa_cons pe pa_nil hs2) hs) hbase hfew hline hs hplain) hsw, fun H0 H σ ρ tmp D nb I h => qo H0 H σ ρ tmp _ I (h.sb.imp fun ip ρ1 h1 v v0 H1 e1 I1 hσ n1 => ?_)⟩
  split at h1
  · rename_i hso
    obtain ⟨us0, hu0⟩ := Option.isSome_iff_exists.mp hso
    obtain ⟨ad0, vs0, rfl, k0, _⟩ := I1.nodeAt hσ n1 hu0
    refine ⟨tyl k0, qi H0 H1 σ ρ1 tmp _ I1 (h1.sb.imp fun kt ρ2 h2 vk H2 e2 I2 => qe H0 H2 σ ρ2 _ _ I2 (h2.sb.imp fun y ρ3 h3 vy H3 e3 I3 => ?_))⟩
    split at h3
    · rename_i kk us hu
      split at h3
      · rename_i hc
        obtain ⟨t, mk, hmk, ht, hg, hput⟩ := ownP_inv hu
        have n3 := (n1.same e2).same e3
        have I4 := I3.perm (.swap _ _ _)
        have ek := I4.int
        subst ek
        have I5 := I4.drop1
        obtain ⟨vs, q1, q2, q3⟩ := Iv.mut (ps := [(y, vy)]) hmk I5 nb ht hσ n3 hg
        have hn := I5.nobs_own ht hg
        refine ⟨ad0, vs, kk, vy, rfl, rfl, q1, by rw [q2, line16]; exact hc.2.1, hc.2.2.1, by omega, ?_⟩
        have I6 := q3 (us.take kk.toNat ++ [y] ++ us.drop kk.toNat) (vs.take kk.toNat ++ [vy] ++ vs.drop kk.toNat) (nobs_ins hn hc.1) fun s c' cp _ hr hP => by
          obtain ⟨c1, c2, hs, hR, _⟩ := hP
          exact ⟨fun b => c' b + c1 b, Reps.ins hR kk.toNat hr, fun b => by have := hs b; show c' b + c1 b ≤ _; omega⟩
        rw [hput] at h3
        exact h3 σ _ I6
      · exact h3.elim
    · exact h3.elim
  · exact h1.elim
def sPopAt (p : M Pl) (fi : M T) : S := fun ρ => sb (p ρ) fun ip ρ => if (ownP ρ ip).isSome = true then (sb (fi ρ) fun k ρ => match k, ownP ρ ip with
  | .int k, some us => (match ixN us.length k with
    | some j => if j < us.length ∧ us.length ≤ 16777216 then some (.ok (.nx (putP ρ ip (us.eraseIdx j)))) else none
    | none => none)
  | _, _ => none) else none
theorem Reps.erase {K : PySem.W.Frag} {mg : Str → Option Value} {H : Hp} {s : Addr → Prop} : ∀ {us : List T} {vs : List V} {c : Cnt} (k : Nat), Reps K mg H s us vs c → Reps K mg H s (us.eraseIdx k) (vs.eraseIdx k) c
  | [], vs, c, k, h => by
    have h' : vs = [] := h
    subst h'
    exact rfl
  | u :: us, vs, c, 0, h => by
    obtain ⟨v, r, c1, c2, rfl, h1, h2, h3⟩ := h
    exact Reps.le (fun b => by have := h1 b; omega) h3
  | u :: us, vs, c, k + 1, h => by
    obtain ⟨v, r, c1, c2, rfl, h1, h2, h3⟩ := h
    exact ⟨v, r.eraseIdx k, c1, c2, rfl, h1, h2, Reps.erase k h3⟩
theorem fs_popAt (hp : FP X W o p) (hi : FE X W a fa) (hbase : attributeBase o "pop" X.env (eval o X.env) = eval o X.env := by rfl)
    (hfew : ((backTo cpos (starEach [a] X.env)).all (fun x => !x.1) && (backToKw cpos (keywordEach [] X.env)).all (fun x => x.1.isSome) && decide ([a].length + ([] : List Keyword).length + (if ([] : List Keyword).isEmpty then 0 else 1) < 30)) = true := by rfl)
    (hline : (apos.endLine == cpos.line) = true := by rfl) (hs : starEach [a] X.env = (false, eval a X.env) :: starEach [] X.env := by rfl) (hplain : (backTo cpos (starEach [] X.env)).any (·.1) = false := by rfl)
    (hsw : swapsWith (.Call (.Attribute o "pop" apos) [a] [] cpos) none pos.line X.env = pure false := by rfl) : FS X W (.Expr (.Call (.Attribute o "pop" apos) [a] [] cpos) pos) (sPopAt p fa) := by
  obtain ⟨to, po, qo⟩ := hp
  obtain ⟨ti, pi, qi⟩ := hi
  refine ⟨_, ps_expr (pe_bm PySem.F.plainAttrs_list PySem.F.slot_list_pop PySem.F.type_list_pop mt_popAt po (pa_cons pi pa_nil hs) hbase hfew hline hs hplain) hsw, fun H0 H σ ρ tmp D nb I h => qo H0 H σ ρ tmp _ I (h.sb.imp fun ip ρ1 h1 v v0 H1 e1 I1 hσ n1 => ?_)⟩
  split at h1
  · rename_i hso
    obtain ⟨us0, hu0⟩ := Option.isSome_iff_exists.mp hso
    obtain ⟨ad0, vs0, rfl, k0, _⟩ := I1.nodeAt hσ n1 hu0
    refine ⟨tyl k0, qi H0 H1 σ ρ1 tmp _ I1 (h1.sb.imp fun kt ρ2 h2 vk H2 e2 I2 => ?_)⟩
    split at h2
    · rename_i kk us hu
      split at h2
      · rename_i j hj
        split at h2
        · rename_i hc
          obtain ⟨t, mk, hmk, ht, hg, hput⟩ := ownP_inv hu
          have n2 := n1.same e2
          have ek := I2.int
          subst ek
          have I3 := I2.drop1
          obtain ⟨vs, q1, q2, q3⟩ := Iv.mut (ps := []) hmk I3 nb ht hσ n2 hg
          have hn := I3.nobs_own ht hg
          obtain ⟨z1, z2, z3, z4⟩ := ixN_seq hj
          refine ⟨ad0, vs, kk, j, vs[j]'(by omega), rfl, rfl, q1, by omega, by omega, by rw [q2]; exact z1, List.getElem?_eq_getElem _, ?_⟩
          have hn' : nobs (us.eraseIdx j) = true := by
            rw [nobs_all] at hn ⊢
            rw [List.all_eq_true] at hn ⊢
            exact fun x hx => hn x (List.mem_of_mem_eraseIdx hx)
          have I4 := q3 (us.eraseIdx j) (vs.eraseIdx j) hn' fun s c' cp _ hr hP => ⟨c', Reps.erase j hr, fun b => Nat.le_add_right _ _⟩
          rw [hput] at h2
          exact h2 σ _ I4
        · exact h2.elim
      · exact h2.elim
    · exact h2.elim
  · exact h1.elim
end
end FL
namespace FL
open PySem PySem.Spec L2
open PyProof.Rows hiding St
/-! ## x.extend(e), e a new list -/
section
variable {X : Cx} {W : WX} {e a o : Expr} {f fa : M T} {pos apos cpos : Pos} {p : M Pl}
def sExt (p : M Pl) (f : M T) : S := fun ρ => sb (p ρ) fun ip ρ => if (ownP ρ ip).isSome = true then (sb (f ρ) fun y ρ => match y, ownP ρ ip with
  | .lst .ow zs, some us => if nob (.lst .ow zs) = true ∧ us.length + zs.length ≤ 16777216 then some (.ok (.nx (putP ρ ip (us ++ zs)))) else none
  | _, _ => none) else none
theorem nobs_ext {us zs : List T} (h : nobs us = true) (hz : nob (.lst .ow zs) = true) : nobs (us ++ zs) = true := by
  have hz2 : nobs zs = true := by
    have : ((Ow.ow != .bo) && nobs zs) = true := hz
    simp at this
    exact this
  rw [nobs_all] at h hz2 ⊢
  simp [h, hz2]
theorem fs_extend (hp : FP X W o p) (hf : FE X W e f) (hbase : attributeBase o "extend" X.env (eval o X.env) = eval o X.env := by rfl)
    (hfew : ((backTo cpos (starEach [e] X.env)).all (fun x => !x.1) && (backToKw cpos (keywordEach [] X.env)).all (fun x => x.1.isSome) && decide ([e].length + ([] : List Keyword).length + (if ([] : List Keyword).isEmpty then 0 else 1) < 30)) = true := by rfl)
    (hline : (apos.endLine == cpos.line) = true := by rfl) (hs : starEach [e] X.env = (false, eval e X.env) :: starEach [] X.env := by rfl) (hplain : (backTo cpos (starEach [] X.env)).any (·.1) = false := by rfl)
    (hsw : swapsWith (.Call (.Attribute o "extend" apos) [e] [] cpos) none pos.line X.env = pure false := by rfl) : FS X W (.Expr (.Call (.Attribute o "extend" apos) [e] [] cpos) pos) (sExt p f) := by
  obtain ⟨to, po, qo⟩ := hp
  obtain ⟨te, pe, qe⟩ := hf
  refine ⟨_, ps_expr (pe_bm PySem.F.plainAttrs_list PySem.F.slot_list_extend PySem.F.type_list_extend mt_extend po (pa_cons pe pa_nil hs) hbase hfew hline hs hplain) hsw, fun H0 H σ ρ tmp D nb I h => qo H0 H σ ρ tmp _ I (h.sb.imp fun ip ρ1 h1 v v0 H1 e1 I1 hσ n1 => ?_)⟩
  split at h1
  · rename_i hso
    obtain ⟨us0, hu0⟩ := Option.isSome_iff_exists.mp hso
    obtain ⟨ad0, vs0, rfl, k0, _⟩ := I1.nodeAt hσ n1 hu0
    refine ⟨tyl k0, qe H0 H1 σ ρ1 tmp _ I1 (h1.sb.imp fun y ρ2 h2 vy H2 e2 I2 => ?_)⟩
    split at h2
    · rename_i zs us hu
      split at h2
      · rename_i hc
        obtain ⟨t, mk, hmk, ht, hg, hput⟩ := ownP_inv hu
        have n2 := n1.same e2
        obtain ⟨s0, cz0, hz0, _⟩ := Iv.take (ps := [(T.lst .ow zs, vy)]) I2
        obtain ⟨d1, d2, _, hR0, _⟩ := hz0
        obtain ⟨b, zvs, c0, hb0, hb1, _, hb3⟩ := Rep.lst (by simp) hR0
        subst hb0
        obtain ⟨vs, q1, q2, q3⟩ := Iv.mut (ps := [(T.lst .ow zs, .ref b)]) hmk I2 nb ht hσ n2 hg
        have hn := I2.nobs_own ht hg
        have hzl : zvs.length = zs.length := Reps.length hb3
        refine ⟨ad0, b, vs, zvs, rfl, rfl, q1, hb1, by rw [q2, hzl, line16]; exact hc.2, ?_⟩
        have I3 := q3 (us ++ zs) (vs ++ zvs) (nobs_ext hn hc.1) fun s c' cp _ hr hP => by
          obtain ⟨c1, c2, hs, hR, _⟩ := hP
          obtain ⟨b', zvs', c3, hb0', hb1', hb2', hb3'⟩ := Rep.lst (by simp) hR
          cases hb0'
          rw [hb1] at hb1'
          cases hb1'
          exact ⟨fun b => c' b + c3 b, Reps.append (fun b => Nat.le_refl _) hr hb3', fun b => by have := hs b; have := hb2' b; show c' b + c3 b ≤ _; omega⟩
        rw [hput] at h2
        exact h2 σ _ I3
      · exact h2.elim
    · exact h2.elim
  · exact h1.elim
end
end FL
namespace FL
open PySem PySem.Spec L2
open PyProof.Rows hiding St
/-! ## str(x) of a whole number or a text -/
section
variable {K : PySem.W.Frag} {mg : Str → Option Value}
abbrev rStrU : List V → Hp → VK → Prop := fun xs H Q => (∃ i, xs = [.int i] ∧ i.natAbs.log2 < 1920 ∧ Q (.str (toString i)) H) ∨ (∃ a, xs = [.str a] ∧ Q (.str a) H)
theorem call_strU {X : Cx} : CallR X (.type "str") rStrU := CallR.or call_str_int SkE.call_str_str
def gStrU : List T → Option T
  | [.int i] => if i.natAbs.log2 < 1920 then some (.str (toString i)) else none
  | [.str x] => some (.str x)
  | _ => none
@[simp] theorem gStrU_i (i : Int) : gStrU [.int i] = if i.natAbs.log2 < 1920 then some (.str (toString i)) else none := rfl
@[simp] theorem gStrU_s (x : Str) : gStrU [.str x] = some (.str x) := rfl
theorem cb_strU : CbOk K mg rStrU gStrU := fun H0 H σ ρ tmp xs z vs Q h hl I k => by
  unfold gStrU at h
  split at h
  · split at h
    · rename_i hz
      cases h
      obtain ⟨rfl, I2⟩ := Iv.ints1 hl I
      exact .inl ⟨_, rfl, hz, k _ H (Same.refl H) (I2.flat (Same.refl H) fun s => rfl)⟩
    · cases h
  · cases h
    obtain ⟨v, rfl, I2⟩ := one_arg' hl I
    have e := Iv.str I2
    subst e
    exact .inr ⟨_, rfl, k _ H (Same.refl H) (I2.drop1.flat (Same.refl H) fun s => rfl)⟩
  · cases h
end
end FL
namespace FL
open PySem PySem.Spec L2
open PyProof.Rows hiding St
/-! ## a thing handed to another name for a while -/
mutual
/-- the thing as a name beside sees it -/
def vidT : T → Option T
  | .non => some .non
  | .bl b => some (.bl b)
  | .int i => some (.int i)
  | .str x => some (.str x)
  | .tup ts => (vidTs ts).map .tup
  | .lst (.pn a) _ => some (.vid a)
  | _ => none
def vidTs : List T → Option (List T)
  | [] => some []
  | t :: ts => (vidT t).bind fun u => (vidTs ts).map fun us => u :: us
end
mutual
/-- the outer marks taken off -/
def unpO : T → T
  | .tup ts => .tup (unpOs ts)
  | .lst (.pn _) ts => .lst .ow ts
  | t => t
def unpOs : List T → List T
  | [] => []
  | t :: ts => unpO t :: unpOs ts
end
mutual
theorem nol_vidT : ∀ (t u : T), vidT t = some u → nol u = nol t
  | .non, _, h => by cases h; rfl
  | .bl _, _, h => by cases h; rfl
  | .int _, _, h => by cases h; rfl
  | .str _, _, h => by cases h; rfl
  | .tup ts, u, h => by
    obtain ⟨us, h1, rfl⟩ := Option.map_eq_some_iff.mp h
    exact nols_vidT ts us h1
  | .lst (.pn a) ts, u, h => by cases h; rfl
  | .lst .ow ts, u, h => by cases h
  | .lst .sh ts, u, h => by cases h
  | .lst .bo ts, u, h => by cases h
  | .lst .fz ts, u, h => by cases h
  | .exc _ _, u, h => by cases h
  | .emp, u, h => by cases h
  | .vid _, u, h => by cases h
theorem nols_vidT : ∀ (ts us : List T), vidTs ts = some us → nols us = nols ts
  | [], us, h => by cases h; rfl
  | t :: ts, us, h => by
    obtain ⟨u, h1, h⟩ := Option.bind_eq_some_iff.mp h
    obtain ⟨vs, h2, rfl⟩ := Option.map_eq_some_iff.mp h
    show (nol u && nols vs) = (nol t && nols ts)
    rw [nol_vidT t u h1, nols_vidT ts vs h2]
end
mutual
theorem nob_vidT : ∀ (t u : T), vidT t = some u → nob u = true
  | .non, _, h => by cases h; rfl
  | .bl _, _, h => by cases h; rfl
  | .int _, _, h => by cases h; rfl
  | .str _, _, h => by cases h; rfl
  | .tup ts, u, h => by
    obtain ⟨us, h1, rfl⟩ := Option.map_eq_some_iff.mp h
    exact nobs_vidT ts us h1
  | .lst (.pn a) ts, u, h => by cases h; rfl
  | .lst .ow ts, u, h => by cases h
  | .lst .sh ts, u, h => by cases h
  | .lst .bo ts, u, h => by cases h
  | .lst .fz ts, u, h => by cases h
  | .exc _ _, u, h => by cases h
  | .emp, u, h => by cases h
  | .vid _, u, h => by cases h
theorem nobs_vidT : ∀ (ts us : List T), vidTs ts = some us → nobs us = true
  | [], us, h => by cases h; rfl
  | t :: ts, us, h => by
    obtain ⟨u, h1, h⟩ := Option.bind_eq_some_iff.mp h
    obtain ⟨vs, h2, rfl⟩ := Option.map_eq_some_iff.mp h
    show (nob u && nobs vs) = true
    rw [nob_vidT t u h1, nobs_vidT ts vs h2]
    rfl
end
mutual
theorem nol_unpO : ∀ (t : T), nol (unpO t) = nol t
  | .non => rfl
  | .bl _ => rfl
  | .int _ => rfl
  | .str _ => rfl
  | .tup ts => nols_unpO ts
  | .lst (.pn a) ts => rfl
  | .lst .ow ts => rfl
  | .lst .sh ts => rfl
  | .lst .bo ts => rfl
  | .lst .fz ts => rfl
  | .exc _ _ => rfl
  | .emp => rfl
  | .vid _ => rfl
theorem nols_unpO : ∀ (ts : List T), nols (unpOs ts) = nols ts
  | [] => rfl
  | t :: ts => by
    show (nol (unpO t) && nols (unpOs ts)) = (nol t && nols ts)
    rw [nol_unpO t, nols_unpO ts]
end
mutual
theorem nob_unpO : ∀ (t : T), nob t = true → nob (unpO t) = true
  | .non, h => h
  | .bl _, h => h
  | .int _, h => h
  | .str _, h => h
  | .tup ts, h => nobs_unpO ts h
  | .lst (.pn a) ts, h => by simpa [nob, unpO] using h
  | .lst .ow ts, h => h
  | .lst .sh ts, h => h
  | .lst .bo ts, h => h
  | .lst .fz ts, h => h
  | .exc _ _, h => h
  | .emp, h => h
  | .vid _, h => h
theorem nobs_unpO : ∀ (ts : List T), nobs ts = true → nobs (unpOs ts) = true
  | [], h => h
  | t :: ts, h => by
    have h' : nob t = true ∧ nobs ts = true := by simpa [nobs] using h
    show (nob (unpO t) && nobs (unpOs ts)) = true
    rw [nob_unpO t h'.1, nobs_unpO ts h'.2]
    rfl
end
section
variable {K : PySem.W.Frag} {mg : Str → Option Value} {H : Hp} {s : Addr → Prop}
mutual
theorem Rep.vidT : ∀ (t u : T) (v : V) (c : Cnt), FL.vidT t = some u → Rep K mg H s t v c → Rep K mg H s u v zc
  | .non, _, v, c, h, r => by cases h; exact r
  | .bl _, _, v, c, h, r => by cases h; exact r
  | .int _, _, v, c, h, r => by cases h; exact r
  | .str _, _, v, c, h, r => by cases h; exact r
  | .tup ts, u, v, c, h, r => by
    obtain ⟨us, h1, rfl⟩ := Option.map_eq_some_iff.mp h
    obtain ⟨a, vs, e1, k1, k2⟩ := r
    exact ⟨a, vs, e1, k1.imp id (fun z => ⟨by rw [nols_vidT ts us h1]; exact z.1, z.2⟩), Reps.vidT ts us vs c h1 k2⟩
  | .lst (.pn a) ts, u, v, c, h, r => by cases h; exact r.1
  | .lst .ow ts, u, _, _, h, _ => by cases h
  | .lst .sh ts, u, _, _, h, _ => by cases h
  | .lst .bo ts, u, _, _, h, _ => by cases h
  | .lst .fz ts, u, _, _, h, _ => by cases h
  | .exc _ _, u, _, _, h, _ => by cases h
  | .emp, u, _, _, h, _ => by cases h
  | .vid _, u, _, _, h, _ => by cases h
theorem Reps.vidT : ∀ (ts us : List T) (vs : List V) (c : Cnt), FL.vidTs ts = some us → Reps K mg H s ts vs c → Reps K mg H s us vs zc
  | [], us, vs, c, h, r => by cases h; exact r
  | t :: ts, us, vs, c, h, r => by
    obtain ⟨u, h1, h⟩ := Option.bind_eq_some_iff.mp h
    obtain ⟨ws, h2, rfl⟩ := Option.map_eq_some_iff.mp h
    obtain ⟨v, r, c1, c2, e1, k1, k2, k3⟩ := r
    exact ⟨v, r, zc, zc, e1, fun _ => Nat.le_refl _, Rep.vidT t u v c1 h1 k2, Reps.vidT ts ws r c2 h2 k3⟩
end
mutual
/-- what two names see as one, is that for both -/
theorem Rep.vidB : ∀ (t u : T) (v v' : V) (c c' : Cnt), FL.vidT t = some u → Rep K mg H s t v c → Rep K mg H s u v' c' → Rep K mg H s t v' c
  | .non, _, v, _, c, _, h, r, q => by cases h; exact q
  | .bl _, _, v, _, c, _, h, r, q => by cases h; exact q
  | .int _, _, v, _, c, _, h, r, q => by cases h; exact q
  | .str _, _, v, _, c, _, h, r, q => by cases h; exact q
  | .tup ts, u, v, v', c, c', h, r, q => by
    obtain ⟨us, h1, rfl⟩ := Option.map_eq_some_iff.mp h
    obtain ⟨a, vs, e1, k1, k2⟩ := r
    obtain ⟨a', vs', e1', k1', k2'⟩ := q
    exact ⟨a', vs', e1', k1'.imp id (fun z => ⟨by rw [← nols_vidT ts us h1]; exact z.1, z.2⟩), Reps.vidB ts us vs vs' c c' h1 k2 k2'⟩
  | .lst (.pn a) ts, u, v, v', c, _, h, r, q => by
    cases h
    have e : v' = .ref a := q
    rw [e, ← r.1]
    exact r
  | .lst .ow ts, u, _, _, _, _, h, _, _ => by cases h
  | .lst .sh ts, u, _, _, _, _, h, _, _ => by cases h
  | .lst .bo ts, u, _, _, _, _, h, _, _ => by cases h
  | .lst .fz ts, u, _, _, _, _, h, _, _ => by cases h
  | .exc _ _, u, _, _, _, _, h, _, _ => by cases h
  | .emp, u, _, _, _, _, h, _, _ => by cases h
  | .vid _, u, _, _, _, _, h, _, _ => by cases h
theorem Reps.vidB : ∀ (ts us : List T) (vs vs' : List V) (c c' : Cnt), FL.vidTs ts = some us → Reps K mg H s ts vs c → Reps K mg H s us vs' c' → Reps K mg H s ts vs' c
  | [], us, vs, vs', c, _, h, r, q => by cases h; exact q
  | t :: ts, us, vs, vs', c, c', h, r, q => by
    obtain ⟨u, h1, h⟩ := Option.bind_eq_some_iff.mp h
    obtain ⟨ws, h2, rfl⟩ := Option.map_eq_some_iff.mp h
    obtain ⟨v, r, c1, c2, e1, k1, k2, k3⟩ := r
    obtain ⟨v', r', c1', c2', e1', k1', k2', k3'⟩ := q
    exact ⟨v', r', c1, c2, e1', k1, Rep.vidB t u v v' c1 c1' h1 k2 k2', Reps.vidB ts ws r r' c2 c2' h2 k3 k3'⟩
end
mutual
theorem Rep.unpO : ∀ (t : T) (v : V) (c : Cnt), Rep K mg H s t v c → Rep K mg H s (FL.unpO t) v c
  | .non, _, _, h => h
  | .bl _, _, _, h => h
  | .int _, _, _, h => h
  | .str _, _, _, h => h
  | .exc _ _, _, _, h => h
  | .emp, _, _, h => h
  | .vid _, _, _, h => h
  | .tup ts, v, c, h => by
    obtain ⟨a, vs, e1, h1, h2⟩ := h
    exact ⟨a, vs, e1, h1.imp id (fun z => ⟨by rw [nols_unpO ts]; exact z.1, z.2⟩), Reps.unpO ts vs c h2⟩
  | .lst .sh ts, v, c, h => h
  | .lst .bo ts, v, c, h => h
  | .lst .fz ts, v, c, h => h
  | .lst .ow ts, v, c, h => h
  | .lst (.pn p) ts, v, c, h => h.2
theorem Reps.unpO : ∀ (ts : List T) (vs : List V) (c : Cnt), Reps K mg H s ts vs c → Reps K mg H s (FL.unpOs ts) vs c
  | [], _, _, h => h
  | t :: ts, vs, c, h => by
    obtain ⟨v, r, c1, c2, e1, h1, h2, h3⟩ := h
    exact ⟨v, r, c1, c2, e1, h1, Rep.unpO t v c1 h2, Reps.unpO ts r c2 h3⟩
end
end
/-! ### a part of a tuple -/
def getU : List Nat → T → Option T
  | [], t => some t
  | k :: r, .tup ts => if nols ts = true then none else (ts[k]?).bind (getU r)
  | _ :: _, _ => none
def setU : List Nat → T → T → T
  | [], _, u => u
  | k :: r, .tup ts, u => match ts[k]? with
    | some t => .tup (ts.set k (setU r t u))
    | none => .tup ts
  | _ :: _, t, _ => t
section
variable {K : PySem.W.Frag} {mg : Str → Option Value} {H : Hp} {s : Addr → Prop}
theorem Reps.out : ∀ {ts : List T} {vs : List V} {c : Cnt} {k : Nat} {t : T}, Reps K mg H s ts vs c → ts[k]? = some t → ∃ (v : V) (ck cr : Cnt), (∀ b, ck b + cr b ≤ c b) ∧ Rep K mg H s t v ck ∧
    ∀ (t' : T) (c' : Cnt), Rep K mg H s t' v c' → Reps K mg H s (ts.set k t') vs (fun b => c' b + cr b)
  | [], _, _, _, _, _, e => by simp at e
  | t0 :: ts, vs, c, 0, t, h, e => by
    obtain ⟨v, r, c1, c2, e1, h1, h2, h3⟩ := h
    have e' : t0 = t := by simpa using e
    subst e'
    exact ⟨v, c1, c2, h1, h2, fun t' c' hr => ⟨v, r, c', c2, e1, fun b => Nat.le_refl _, hr, h3⟩⟩
  | t0 :: ts, vs, c, k + 1, t, h, e => by
    obtain ⟨v, r, c1, c2, e1, h1, h2, h3⟩ := h
    obtain ⟨w, ck, cr, g2, g3, g4⟩ := Reps.out (k := k) (t := t) h3 (by simpa using e)
    refine ⟨w, ck, fun b => c1 b + cr b, fun b => ?_, g3, fun t' c' hr => ⟨v, r, c1, fun b => c' b + cr b, e1, fun b => by show c1 b + (c' b + cr b) ≤ c' b + (c1 b + cr b); omega, h2, g4 t' c' hr⟩⟩
    have := h1 b
    have := g2 b
    show ck b + (c1 b + cr b) ≤ c b
    omega
theorem getU_tup {k : Nat} {r : List Nat} {ts : List T} {w : T} (g : getU (k :: r) (.tup ts) = some w) : ∃ t1, nols ts = false ∧ ts[k]? = some t1 ∧ getU r t1 = some w := by
  unfold getU at g
  split at g
  · cases g
  · rename_i hn
    obtain ⟨t1, ht1, g⟩ := Option.bind_eq_some_iff.mp g
    exact ⟨t1, by simpa using hn, ht1, g⟩
theorem nols_set {ts : List T} {k : Nat} {u t1 : T} (ht : ts[k]? = some t1) (e : nol u = nol t1) : nols (ts.set k u) = nols ts := by
  rw [nols_all, nols_all]
  induction ts generalizing k with
  | nil => rfl
  | cons x xs ih =>
    cases k with
    | zero =>
      have e' : x = t1 := by simpa using ht
      simp [e, e']
    | succ k => simp [ih (k := k) (by simpa using ht)]
theorem nobs_setU {ts : List T} {k : Nat} {u : T} (h : nobs ts = true) (hu : nob u = true) : nobs (ts.set k u) = true := by
  rw [nobs_all] at h ⊢
  rw [List.all_eq_true] at h ⊢
  intro x hx
  rcases List.mem_or_eq_of_mem_set hx with z | z
  · exact h x z
  · rw [z]; exact hu
theorem nob_getU : ∀ {p : List Nat} {t w : T}, nob t = true → getU p t = some w → nob w = true
  | [], t, w, h, g => by
    have g' : t = w := by simpa [getU] using g
    exact g' ▸ h
  | k :: r, .tup ts, w, h, g => by
    obtain ⟨t1, _, h1, h2⟩ := getU_tup g
    have h' : nobs ts = true := h
    rw [nobs_all] at h'
    exact nob_getU (List.all_eq_true.mp h' t1 (List.mem_of_getElem? h1)) h2
  | k :: r, .lst _ _, _, _, g => by cases g
  | k :: r, .non, _, _, g => by cases g
  | k :: r, .bl _, _, _, g => by cases g
  | k :: r, .int _, _, _, g => by cases g
  | k :: r, .str _, _, _, g => by cases g
  | k :: r, .exc _ _, _, _, g => by cases g
  | k :: r, .emp, _, _, g => by cases g
  | k :: r, .vid _, _, _, g => by cases g
theorem nob_setU {u : T} (hu : nob u = true) : ∀ {p : List Nat} {t w : T}, nob t = true → getU p t = some w → nob (setU p t u) = true
  | [], t, w, h, g => hu
  | k :: r, .tup ts, w, h, g => by
    obtain ⟨t1, _, h1, h2⟩ := getU_tup g
    have h' : nobs ts = true := h
    have h3 : nob t1 = true := by
      have h'' := h'
      rw [nobs_all] at h''
      exact List.all_eq_true.mp h'' t1 (List.mem_of_getElem? h1)
    have es : setU (k :: r) (.tup ts) u = .tup (ts.set k (setU r t1 u)) := by simp [setU, h1]
    rw [es]
    exact nobs_setU h' (nob_setU hu h3 h2)
  | k :: r, .lst _ _, _, _, g => by cases g
  | k :: r, .non, _, _, g => by cases g
  | k :: r, .bl _, _, _, g => by cases g
  | k :: r, .int _, _, _, g => by cases g
  | k :: r, .str _, _, _, g => by cases g
  | k :: r, .exc _ _, _, _, g => by cases g
  | k :: r, .emp, _, _, g => by cases g
  | k :: r, .vid _, _, _, g => by cases g
/-- a part, and the rest -/
theorem Rep.out : ∀ {p : List Nat} {t w : T} {v0 : V} {c : Cnt}, Rep K mg H s t v0 c → getU p t = some w → ∃ (v : V) (cw cr : Cnt), (∀ b, cw b + cr b ≤ c b) ∧ Rep K mg H s w v cw ∧
    ∀ (w' : T) (c' : Cnt), Rep K mg H s w' v c' → Rep K mg H s (setU p t w') v0 (fun b => c' b + cr b)
  | [], t, w, v0, c, h, g => by
    have g' : t = w := by simpa [getU] using g
    subst g'
    exact ⟨v0, c, zc, fun b => by simp, h, fun w' c' hr => hr.le fun b => Nat.le_add_right _ _⟩
  | k :: r, .tup ts, w, v0, c, h, g => by
    obtain ⟨t1, hn, h1, h2⟩ := getU_tup g
    obtain ⟨a, vs, e1, k1, k2⟩ := h
    have k1' : H a = some (.tup vs) := k1.elim id fun z => by rw [hn] at z; cases z.1
    obtain ⟨v, ck, cr, q1, q2, q3⟩ := Reps.out k2 h1
    obtain ⟨v', cw, cr', q1', q2', q3'⟩ := Rep.out q2 h2
    refine ⟨v', cw, fun b => cr' b + cr b, fun b => ?_, q2', fun w' c' hr => ?_⟩
    · have := q1 b
      have := q1' b
      show cw b + (cr' b + cr b) ≤ c b
      omega
    · have es : setU (k :: r) (.tup ts) w' = .tup (ts.set k (setU r t1 w')) := by simp [setU, h1]
      rw [es]
      exact ⟨a, vs, e1, .inl k1', (q3 _ _ (q3' w' c' hr)).le fun b => by show c' b + cr' b + cr b ≤ c' b + (cr' b + cr b); omega⟩
  | k :: r, .lst _ _, _, _, _, _, g => by cases g
  | k :: r, .non, _, _, _, _, g => by cases g
  | k :: r, .bl _, _, _, _, _, g => by cases g
  | k :: r, .int _, _, _, _, _, g => by cases g
  | k :: r, .str _, _, _, _, _, g => by cases g
  | k :: r, .exc _ _, _, _, _, _, g => by cases g
  | k :: r, .emp, _, _, _, _, g => by cases g
  | k :: r, .vid _, _, _, _, _, g => by cases g
end
/-! ### steps that no code makes -/
def Gho (g : S) : Prop := ∀ (K : PySem.W.Frag) (mg : Str → Option Value) (H0 H : Hp) (σ : L2.St) (ρ : En) (tmp : List (T × V)), Iv K mg H0 H σ ρ tmp → match g ρ with
  | some (.ok (.nx ρ')) => Iv K mg H0 H σ ρ' tmp
  | none => True
  | _ => False
section
variable {X : Cx} {W : WX} {rest : List Stmt} {s g : S}
theorem fss_ghB (hg : Gho g) (h : FSs X W rest s) : FSs X W rest (sSeq g s) := by
  obtain ⟨t, p, q⟩ := h
  refine ⟨t, p, fun H0 H σ ρ tmp D nb I h => ?_⟩
  have k := hg X.K X.mg H0 H σ ρ tmp I
  unfold sSeq at h
  revert h k
  cases g ρ with
  | none => exact fun h _ => h.elim
  | some r =>
    cases r with
    | error x => exact fun _ k => k.elim
    | ok fl =>
      cases fl with
      | nx ρ' => exact fun h k => q H0 H σ ρ' tmp D nb k h
      | rt u => exact fun _ k => k.elim
      | bk u => exact fun _ k => k.elim
      | ct u => exact fun _ k => k.elim
theorem fss_ghA (hg : Gho g) (h : FSs X W rest s) : FSs X W rest (sSeq s g) := by
  obtain ⟨t, p, q⟩ := h
  refine ⟨t, p, fun H0 H σ ρ tmp D nb I h => q H0 H σ ρ tmp D nb I ?_⟩
  unfold sSeq at h
  revert h
  cases s ρ with
  | none => exact fun h => h
  | some r =>
    cases r with
    | error x => exact fun h => h
    | ok fl =>
      cases fl with
      | nx ρ' =>
        intro h σ' H' I'
        have k := hg X.K X.mg H0 H' σ' ρ' tmp I'
        revert h k
        show Pq X.K X.mg W H0 tmp D (g ρ') → _
        cases g ρ' with
        | none => exact fun h _ => h.elim
        | some r =>
          cases r with
          | error x => exact fun _ k => k.elim
          | ok fl =>
            cases fl with
            | nx ρ'' => exact fun h k => h σ' H' k
            | rt u => exact fun _ k => k.elim
            | bk u => exact fun _ k => k.elim
            | ct u => exact fun _ k => k.elim
      | rt u => exact fun h => h
      | bk u => exact fun h => h
      | ct u => exact fun h => h
end
open Classical in
/-- slot i takes over what is at (j, p) -/
noncomputable def sTk (i j : Nat) (p : List Nat) : S := fun ρ => match ρ[i]?, ρ[j]? with
  | some (some u), some (some t) => (match getU p t with
    | some w => if i ≠ j ∧ vidT w = some u then some (.ok (.nx ((ρ.set j (some (setU p t u))).set i (some w)))) else none
    | none => none)
  | _, _ => none
open Classical in
/-- .. and hands it back -/
noncomputable def sGv (i j : Nat) (p : List Nat) : S := fun ρ => match ρ[i]?, ρ[j]? with
  | some (some w), some (some t) => (match getU p t with
    | some u => if i ≠ j ∧ vidT w = some u then some (.ok (.nx ((ρ.set i none).set j (some (setU p t (unpO w)))))) else none
    | none => none)
  | _, _ => none
theorem Iv.tk {K : PySem.W.Frag} {mg : Str → Option Value} {H0 H : Hp} {σ : L2.St} {ρ : En} {tmp : List (T × V)} {i j : Nat} {p : List Nat} {u t w : T} (I : Iv K mg H0 H σ ρ tmp) (hi : ρ[i]? = some (some u)) (hj : ρ[j]? = some (some t)) (hw : getU p t = some w) (hij : i ≠ j) (hc : vidT w = some u) :
    Iv K mg H0 H σ ((ρ.set j (some (setU p t u))).set i (some w)) tmp := by
  obtain ⟨ext, c, s, c1, c2, w0, hc0, hS, hP⟩ := I
  obtain ⟨vj, d1, d2, hvj, hd, hbj, hRj, hSj⟩ := hS.get hj
  have hi' : (ρ.set j none)[i]? = some (some u) := by rw [List.getElem?_set_ne (fun z => hij z.symm)]; exact hi
  obtain ⟨vi, e1, e2, hvi, he, hbi, hRi, hSi⟩ := hSj.get hi'
  obtain ⟨vp, cw, cr, q1, q2, q3⟩ := Rep.out hRj hw
  have rw1 : Rep K mg H s w vi cw := Rep.vidB w u vp vi cw e1 hc q2 hRi
  have ru1 : Rep K mg H s (setU p t u) vj (fun b => zc b + cr b) := q3 u zc (Rep.vidT w u vp cw hc q2)
  have nb1 : nob (setU p t u) = true := nob_setU (nob_vidT w u hc) hbj hw
  have nb2 : nob w = true := nob_getU hbj hw
  have S1 := RepS.retree (i := j) nb1 ru1 hvj (e := fun b => e2 b + cr b) (fun b => by show e2 b + (0 + cr b) ≤ e2 b + cr b; omega) hSi
  have S2 := RepS.retree (i := i) nb2 rw1 hvi (e := fun b => e2 b + cr b + cw b) (fun b => Nat.le_refl _) S1
  have eρ : (((ρ.set j none).set i none).set j (some (setU p t u))).set i (some w) = (ρ.set j (some (setU p t u))).set i (some w) := by
    apply List.ext_getElem?
    intro k
    simp only [List.getElem?_set, List.length_set]
    split <;> split <;> first | rfl | (split <;> rfl) | rfl
  rw [eρ] at S2
  exact ⟨ext, c, s, _, c2, w0, fun b => by
    have := hc0 b
    have := hd b
    have := he b
    have := q1 b
    show e2 b + cr b + cw b + c2 b ≤ c b
    omega, S2, hP⟩
theorem Iv.gv {K : PySem.W.Frag} {mg : Str → Option Value} {H0 H : Hp} {σ : L2.St} {ρ : En} {tmp : List (T × V)} {i j : Nat} {p : List Nat} {u t w : T} (I : Iv K mg H0 H σ ρ tmp) (hi : ρ[i]? = some (some w)) (hj : ρ[j]? = some (some t)) (hw : getU p t = some u) (hij : i ≠ j) (hc : vidT w = some u) :
    Iv K mg H0 H σ ((ρ.set i none).set j (some (setU p t (FL.unpO w)))) tmp := by
  obtain ⟨ext, c, s, c1, c2, w0, hc0, hS, hP⟩ := I
  obtain ⟨vi, e1, e2, hvi, he, hbi, hRi, hSi⟩ := hS.get hi
  have hj' : (ρ.set i none)[j]? = some (some t) := by rw [List.getElem?_set_ne hij]; exact hj
  obtain ⟨vj, d1, d2, hvj, hd, hbj, hRj, hSj⟩ := hSi.get hj'
  obtain ⟨vp, cw, cr, q1, q2, q3⟩ := Rep.out hRj hw
  have rw1 : Rep K mg H s w vp e1 := Rep.vidB w u vi vp e1 cw hc hRi q2
  have ru1 : Rep K mg H s (setU p t (FL.unpO w)) vj (fun b => e1 b + cr b) := q3 (FL.unpO w) e1 (Rep.unpO w vp e1 rw1)
  have nb1 : nob (setU p t (FL.unpO w)) = true := nob_setU (nob_unpO w hbi) hbj hw
  have S1 := RepS.retree (i := j) nb1 ru1 hvj (e := fun b => d2 b + (e1 b + cr b)) (fun b => Nat.le_refl _) hSj
  rw [List.set_set] at S1
  exact ⟨ext, c, s, _, c2, w0, fun b => by
    have := hc0 b
    have := hd b
    have := he b
    have := q1 b
    show d2 b + (e1 b + cr b) + c2 b ≤ c b
    omega, S1, hP⟩
theorem gho_tk {i j : Nat} {p : List Nat} : Gho (sTk i j p) := fun K mg H0 H σ ρ tmp I => by
  have key : ∀ r, sTk i j p ρ = r → match r with
    | some (.ok (.nx ρ')) => Iv K mg H0 H σ ρ' tmp
    | none => True
    | _ => False := by
    intro r hr
    unfold sTk at hr
    split at hr
    · rename_i u t hi hj
      split at hr
      · rename_i w hw
        split at hr
        · rename_i hc
          subst hr
          exact I.tk hi hj hw hc.1 hc.2
        · subst hr
          trivial
      · subst hr
        trivial
    · subst hr
      trivial
  exact key _ rfl
theorem gho_gv {i j : Nat} {p : List Nat} : Gho (sGv i j p) := fun K mg H0 H σ ρ tmp I => by
  have key : ∀ r, sGv i j p ρ = r → match r with
    | some (.ok (.nx ρ')) => Iv K mg H0 H σ ρ' tmp
    | none => True
    | _ => False := by
    intro r hr
    unfold sGv at hr
    split at hr
    · rename_i w t hi hj
      split at hr
      · rename_i u hw
        split at hr
        · rename_i hc
          subst hr
          exact I.gv hi hj hw hc.1 hc.2
        · subst hr
          trivial
      · subst hr
        trivial
    · subst hr
      trivial
  exact key _ rfl
theorem sTk_at {i j : Nat} {p : List Nat} {ρ : En} {u t w : T} (hi : ρ[i]? = some (some u)) (hj : ρ[j]? = some (some t)) (hw : getU p t = some w) (hc : vidT w = some u) (hij : i ≠ j) : sTk i j p ρ = some (.ok (.nx ((ρ.set j (some (setU p t u))).set i (some w)))) := by
  unfold sTk
  simp only [hi, hj, hw]
  exact if_pos ⟨hij, hc⟩
theorem sGv_at {i j : Nat} {p : List Nat} {ρ : En} {u t w : T} (hi : ρ[i]? = some (some w)) (hj : ρ[j]? = some (some t)) (hw : getU p t = some u) (hc : vidT w = some u) (hij : i ≠ j) : sGv i j p ρ = some (.ok (.nx ((ρ.set i none).set j (some (setU p t (unpO w)))))) := by
  unfold sGv
  simp only [hi, hj, hw]
  exact if_pos ⟨hij, hc⟩
/-- the list at (j, p) is marked, wherever it stands -/
noncomputable def sPinA (j : Nat) (p : List Nat) (s : S) : S := fun ρ => match ρ[j]? with
  | some (some t) => (match getU p t with
    | some (.lst .ow us) => allA fun a => s (ρ.set j (some (setU p t (.lst (.pn a) us))))
    | _ => none)
  | _ => none
theorem sPinA_at {j : Nat} {p : List Nat} {s : S} {ρ : En} {t : T} {us : List T} {r : So} (hj : ρ[j]? = some (some t)) (hw : getU p t = some (.lst .ow us)) (h : ∀ a, s (ρ.set j (some (setU p t (.lst (.pn a) us)))) = r) : sPinA j p s ρ = r := by
  unfold sPinA
  simp only [hj, hw]
  exact allA_eq h
theorem fss_pinA {X : Cx} {W : WX} {rest : List Stmt} {s : S} {j : Nat} {p : List Nat} (h : FSs X W rest s) : FSs X W rest (sPinA j p s) := by
  obtain ⟨t0, p0, q⟩ := h
  refine ⟨t0, p0, fun H0 H σ ρ tmp D nb I h => ?_⟩
  unfold sPinA at h
  split at h
  · rename_i t ht
    split at h
    · rename_i us hw
      obtain ⟨ext, c, s', c1, c2, w, hc, hS, hP⟩ := I
      obtain ⟨v, d1, d2, hv, hd, hb, hR, hS'⟩ := hS.get ht
      obtain ⟨vp, cw, cr, q1, q2, q3⟩ := Rep.out hR hw
      obtain ⟨a, vs, c', ev, k1, k2, k3, k4⟩ := q2
      have hne : allA (fun a => s (ρ.set j (some (setU p t (.lst (.pn a) us))))) ≠ none := fun z => by
        rw [z] at h
        exact h.elim
      rw [allA_at hne a] at h
      have rp : Rep X.K X.mg H s' (.lst (.pn a) us) vp cw := ⟨ev, a, vs, c', ev, k1, k2, k3, k4⟩
      have hnb : nob (.lst (.pn a) us) = true := by
        have := nob_getU hb hw
        simpa [nob] using this
      have S1 := RepS.retree (i := j) (nob_setU hnb hb hw) (q3 _ _ rp) hv (e := c1) (fun b => by
        have := hd b
        have := q1 b
        show d2 b + (cw b + cr b) ≤ c1 b
        omega) hS'
      rw [List.set_set] at S1
      exact q H0 H σ _ tmp D nb ⟨ext, c, s', c1, c2, w, hc, S1, hP⟩ h
    · exact h.elim
  · exact h.elim
/-- a thing as a name beside sees it, read -/
def eVidP (p : M Pl) : M T := fun ρ => ob (p ρ) fun ip ρ => match atP ρ ip with
  | some w => (match vidT w with
    | some u => ok u ρ
    | none => none)
  | none => none
theorem fe_vidP {X : Cx} {W : WX} {e : Expr} {p : M Pl} (h : FP X W e p) : FE X W e (eVidP p) := by
  obtain ⟨te, pe, qe⟩ := h
  refine ⟨te, pe, fun H0 H σ ρ tmp Q I h => qe H0 H σ ρ tmp _ I (h.ob.imp fun ip ρ1 h1 v v0 H1 e1 I1 hσ n1 => ?_)⟩
  split at h1
  · rename_i w hw
    split at h1
    · rename_i u hu
      obtain ⟨t', ht', hg'⟩ := atP_inv hw
      obtain ⟨ext, c, s, c1, c2, w0, hc, hS, hP⟩ := I1
      obtain ⟨v', d1, d2, hv, hd, hb, hR, hS'⟩ := hS.get ht'
      rw [hσ] at hv
      cases hv
      obtain ⟨c', hN⟩ := hR.node n1 hg'
      exact h1 v H1 e1 ⟨ext, c, s, c1, c2, w0, hc, hS, ⟨zc, c2, fun b => by simp, Rep.vidT w u v c' hu hN, hP⟩⟩
    · exact h1.elim
  · exact h1.elim
/-! ### a for whose turns are seen each otherwise -/
def loopL (g : Tg) : List S → List T → S
  | [], [], ρ => some (.ok (.nx ρ))
  | b :: bs, t :: ts, ρ => match g t ρ with
    | none => none
    | some ρ1 => match b ρ1 with
      | some (.ok (.nx ρ2)) => loopL g bs ts ρ2
      | some (.ok (.ct ρ2)) => loopL g bs ts ρ2
      | some (.ok (.bk ρ2)) => some (.ok (.nx ρ2))
      | r => r
  | _, _, _ => none
def sForL (fi : M Src) (g : Tg) (bs : List S) : S := fun ρ => sb (fi ρ) fun u ρ => loopL g bs u.1 ρ
inductive FBs (X : Cx) (W : WX) (body : List Stmt) : List S → Prop where
  | nil : FBs X W body []
  | cons {s : S} {bs : List S} : FSs X W body s → FBs X W body bs → FBs X W body (s :: bs)
theorem FBs.mem {X : Cx} {W : WX} {body : List Stmt} {bs : List S} (h : FBs X W body bs) : ∀ b ∈ bs, FSs X W body b := by
  induction h with
  | nil => simp
  | cons h1 _ ih =>
    intro b hb
    rcases List.mem_cons.mp hb with rfl | hb
    · exact h1
    · exact ih b hb
theorem fs_forL {X : Cx} {W : WX} {tg iter : Expr} {body : List Stmt} {bs : List S} {fi : M Src} {g : Tg} {ix : List Nat} {pos : Pos} (hp : PassesOwn (model X.prog X.w) X.A X.env X.xe) (hc : X.calm = true) (hi : FI X W tg iter fi) (hg : FG X tg ix g) (hb : FBs X W body bs)
    (hs : ∀ x, foldedSetIterable iter X.env x = pure x := by intro _; rfl) : FS X W (.For tg iter body [] pos) (sForL fi g bs) := by
  obtain ⟨wi, pi, qi⟩ := hi
  obtain ⟨g', pg, qg⟩ := hg
  have pb : PSs X body (fun D σ H => ∃ t0 : TS, PSs X body t0 ∧ t0 D σ H) := ⟨fun pins s σ H D I ⟨t0, p0, h⟩ => p0.run pins s σ H D I h⟩
  refine ⟨_, ps_for hp hc pi pg pb hs, fun H0 H σ ρ tmp D nb I h => qi H0 H σ ρ tmp _ I (h.sb.imp fun u ρ1 h1 J vs H1 e1 hl nbp I1 hJ => ?_)⟩
  have nb2 : Nb (u.2.zip vs ++ tmp) := (nb_of nbp).append nb
  refine ⟨fun i m σ' H' => m = u.1.length - i ∧ i ≤ u.1.length ∧ ∃ ρ' bs', (∀ b ∈ bs', FSs X W body b) ∧ Iv X.K X.mg H0 H' σ' ρ' (u.2.zip vs ++ tmp) ∧ Pq X.K X.mg W H0 tmp D (loopL g bs' (u.1.drop i) ρ'), ⟨u.1.length, by simp, Nat.zero_le _, ρ1, bs, hb.mem, I1, by simpa using h1⟩, ?_⟩
  rintro i m σ' H' ⟨hm, hi, ρ', bs', hbs, I', h'⟩
  cases q : u.1[i]? with
  | none =>
    have hle : u.1.length ≤ i := List.getElem?_eq_none_iff.mp q
    rw [List.drop_eq_nil_of_le hle] at h'
    cases bs' with
    | nil => exact .inl ⟨(hJ H0 H' σ' ρ' tmp I' i).2 hle, h' σ' H' I'.drop⟩
    | cons b bs' => exact h'.elim
  | some x =>
    have hlt : i < u.1.length := (List.getElem?_eq_some_iff.mp q).1
    obtain ⟨hgo, hnb, hy⟩ := (hJ H0 H' σ' ρ' tmp I' i).1 x q
    rw [drop_get q] at h'
    cases bs' with
    | nil => exact h'.elim
    | cons b bs' =>
    unfold loopL at h'
    refine .inr ⟨hgo, fun σ2 H2 => ∃ ρ2, Iv X.K X.mg H0 H2 σ2 ρ2 (u.2.zip vs ++ tmp) ∧ Pq X.K X.mg W H0 tmp D (loopL g bs' (u.1.drop (i + 1)) ρ2), fun σ2 H2 ⟨ρ2, I2, h2⟩ => ⟨u.1.length - (i + 1), by omega, rfl, by omega, ρ2, bs', fun b hb => hbs b (List.mem_cons_of_mem _ hb), I2, h2⟩, fun y H2 hyld => ?_⟩
    obtain ⟨t, pt, qb⟩ := hbs b List.mem_cons_self
    obtain ⟨e2, I2⟩ := hy y H2 hyld
    split at h'
    · exact h'.elim
    · rename_i ρ2 eg
      refine qg H0 H2 σ' ρ' ρ2 _ x y _ eg I2 fun σ3 _ I3 => ⟨t, pt, qb H0 H2 σ3 ρ2 _ _ nb2 I3 ?_⟩
      revert h'
      cases b ρ2 with
      | none => exact fun h' => h'
      | some r =>
        cases r with
        | error x => exact fun h' => h'
        | ok fl =>
          cases fl with
          | nx ρ3 => exact fun h' σ4 H4 I4 => ⟨ρ3, I4, h'⟩
          | ct ρ3 => exact fun h' σ4 H4 I4 => ⟨ρ3, I4, h'⟩
          | bk ρ3 => exact fun h' σ4 H4 I4 => h' σ4 H4 I4.drop
          | rt w => exact fun h' => h'
/-- a list that is not kept: it may hold what is borrowed -/
def eLstB (g : M (List T)) : M T := fun ρ => ob (g ρ) fun xs ρ => if xs.length ≤ 1000 then ok (.lst .ow xs) ρ else none
theorem fe_lstB {X : Cx} {W : WX} {es : List Expr} {pos : Pos} {g : M (List T)} (ha : FA X W es g) : FE X W (.List es pos) (eLstB g) := by
  obtain ⟨ta, pa, qa⟩ := ha
  refine ⟨_, pe_lst pa, fun H0 H σ ρ tmp Q I h => qa H0 H σ ρ tmp _ I (h.ob.imp fun xs ρ1 h1 vs H1 e1 hl I1 => ?_)⟩
  split at h1
  · rename_i hc
    exact ⟨sz1000 (by rw [hl]; exact hc), fun p hp => h1 _ _ (e1.trans (same_new hp)) (I1.newLst hl hp)⟩
  · exact h1.elim
@[simp] theorem eLstB_ap {g : M (List T)} {ρ : En} : eLstB g ρ = ob (g ρ) fun xs ρ => if xs.length ≤ 1000 then ok (.lst .ow xs) ρ else none := rfl
end FL
namespace FL
open PySem PySem.Spec L2
open PyProof.Rows hiding St
/-! ## {..}[key] -/
def eDx (l : List (Str × M T)) (fk : M T) : M T := fun ρ => ob (evD l ρ) fun us ρ => ob (fk ρ) fun k ρ => match k with
  | .str x => (match lookT (l.map (·.1)) us x with
    | some t => ok t ρ
    | none => none)
  | _ => none
section
variable {X : Cx} {W : WX} {e a b c v : Expr} {es vs : List Expr} {ks : List (Option Expr)} {f fa fb fc fk fd : M T} {pos p2 apos cpos : Pos} {l : List (Str × M T)}
theorem fe_dx (hu : X.A.units + 1 < cLine) (hd : FD X W pos ks vs l) (hk : FE X W b fk) (hs : NoSl b) (hnd : (l.map (·.1)).Nodup := by decide) (hall : ks.all (·.isSome) = true := by rfl) (hl : ks.length = vs.length := by rfl) (h0 : ks ≠ [] := by simp) (h15 : ks.length ≤ 15 := by decide) (hl15 : l.length ≤ 15 := by decide)
    : FE X W (.Subscript (.Dict ks vs pos) b cpos) (eDx l fk) := by
  obtain ⟨trs, pp, qp⟩ := hd
  obtain ⟨tk, pk, qk⟩ := hk
  refine ⟨_, pe_dget hu (pe_disp pp hall hl h0 h15) pk hs, fun H0 H σ ρ tmp Q I h p hp => ?_⟩
  have e0 : Same H (upd H p (.dK [])) := same_new hp
  have hp0 : H0 p = none := by
    cases q : H0 p with
    | none => rfl
    | some o =>
      rw [I.ext p o q] at hp
      cases hp
  refine qp H0 _ σ ρ tmp _ (I.same e0) (h.ob.imp fun us ρ1 h1 ws H1 e1 hlw hlu I1 => ?_)
  have hpk : H1 p = some (.dK []) := e1 p _ upd_same
  have hwl : ws.length = l.length := by rw [hlw, hlu]
  let kvs : List (Key × V) := (l.map fun q => (Sum.inr q.1 : Key)).zip ws
  have ekv : (l.map fun q => V.str q.1).zip ws = kvs.map fun kv => (kV kv.1, kv.2) := by
    show _ = ((l.map fun q => (Sum.inr q.1 : Key)).zip ws).map _
    clear h1 I1 qp pp h hl15 hnd
    induction l generalizing ws us with
    | nil => simp
    | cons q r ih =>
      cases ws with
      | nil => simp
      | cons w ws =>
        cases us with
        | nil => simp at hlu
        | cons u us => simp [kV, ih us ws (by simpa using hlw) (by simpa using hlu) (by simpa using hwl)]
  have hmk : (kvs.map (·.1)) = l.map fun q => (Sum.inr q.1 : Key) := by
    show ((l.map fun q => (Sum.inr q.1 : Key)).zip ws).map (·.1) = _
    rw [List.map_fst_zip]
    simp [hwl]
  have hmg : mergeK [] kvs = kvs := by
    rw [merge_new]
    · simp
    · rw [hmk]
      have : (l.map fun q => (Sum.inr q.1 : Key)) = (l.map (·.1)).map Sum.inr := by simp
      rw [List.map_nil, List.nil_append, this]
      exact List.Pairwise.map _ (fun a b (h : a ≠ b) (e : (Sum.inr a : Key) = Sum.inr b) => h (Sum.inr.inj e)) hnd
  refine ⟨hpk, kvs, ekv, ?_, ?_⟩
  · have : kvs.length = l.length := by
      have := congrArg List.length hmk
      simpa using this
    omega
  · rw [hmg]
    have e2 : Same H (upd H1 p (.dK kvs)) := fun x o q => by
      rw [upd_ne (ne_of_none q hp)]
      exact e1 x o (e0 x o q)
    have I2 := I1.updO (o' := .dK kvs) hp0 hpk dk_not
    have hp2 : upd H1 p (.dK kvs) p = some (.dK kvs) := upd_same
    refine qk H0 _ σ ρ1 _ _ I2 (h1.ob.imp fun k ρ2 h2 vk H3 e3 I3 => ?_)
    match k, h2, I3 with
    | .str x, h2, I3 =>
      have ek : vk = .str x := I3.str
      have hp3 : H3 p = some (.dK kvs) := e3 p _ hp2
      have ee : Same H H3 := e2.trans e3
      subst ek
      have hkv : kvs = ((l.map (·.1)).map fun k => (Sum.inr k : Key)).zip ws := by
        show (l.map fun q => (Sum.inr q.1 : Key)).zip ws = _
        rw [List.map_map]
        rfl
      have I5 : Iv X.K X.mg H0 H3 σ ρ2 (us.zip ws ++ tmp) := I3.drop1
      rcases look_ok (l := l.map (·.1)) (us := us) (ws := ws) (x := x) (by simpa using hlu) (by simpa using hwl) with ⟨t, v, g1, g2, g3⟩ | ⟨g1, g2⟩
      · rw [← hkv] at g2
        refine ⟨p, v, rfl, ?_, ?_⟩
        · have := DGet.k (k := Sum.inr x) hp3
          rw [g2] at this
          exact this
        · dsimp only at h2
          rw [g1] at h2
          exact h2 _ H3 ee (I5.pick g3)
      · dsimp only at h2
        rw [g1] at h2
        exact h2.elim
@[simp] theorem eDx_ap {ρ : En} : eDx l fk ρ = ob (evD l ρ) fun us ρ => ob (fk ρ) fun k ρ => match k with
  | .str x => (match lookT (l.map (·.1)) us x with
    | some t => ok t ρ
    | none => none)
  | _ => none := rfl
end
end FL
namespace FL
open PySem PySem.Spec L2
open PyProof.Rows hiding St
/-! ## enumerate(a tuple) -/
set_option maxHeartbeats 1000000 in
theorem enumB_meets {v : Value} {o : Obj} {Hh : Heap → Prop} (B : Begins v o Hh) :
    Meets (Builtin.«enumerate.__new__» ⟨[.type "enumerate", v], []⟩) (fun _ R s => Hh s.heap ∧
      R (.ok (.ret (.ref (s.heap.push o).objs.size))) { s with heap := (s.heap.push o).push { cls := .type "enumerate", data := .fields #[.none, .bool false, .ref s.heap.objs.size, rawInt 0, .none, .none] } }) := by
  refine .of_wp fun prog w A R s hs => ?_
  obtain ⟨hp, g, d, tk, os⟩ := s
  obtain ⟨h1, hr⟩ := hs
  have sube := sub_enumerate
  have begin1 : ∀ {A1 : Around} {E1 Q1 : Value → Shared → Prop}, Q1 (.ref hp.objs.size) ⟨hp.push o, g, d, tk, os⟩ → wpAny (model prog w) A1 (pyIter v) Q1 E1 ⟨hp, g, d, tk, os⟩ := fun q => B.iter prog w _ _ ⟨hp, g, d, tk, os⟩ _ h1 q
  wp_walk using begin1
  refine wpAny_stack_any fun st => wpAny_pure ?_
  split
  · rename_i c _ _ _ _ _
    cases (c == Value.type "enumerate")
    · wp_walk using begin1
      exact ⟨_, rfl, hr⟩
    · wp_walk using begin1
      exact ⟨_, rfl, hr⟩
  · wp_walk using begin1
    exact ⟨_, rfl, hr⟩
theorem enumB_call {prog : Program} {w : World} {A : Around} {E : Value → Shared → Prop} {s : Shared} {v : Value} {o : Obj} {Hh : Heap → Prop} {Q : Value → Shared → Prop} (B : Begins v o Hh) (h1 : Hh s.heap)
    (h : ∀ h', IsEnum h' (s.heap.objs.size + 1) s.heap.objs.size 0 .none → h'.get? s.heap.objs.size = some o → (∀ b ob, s.heap.get? b = some ob → h'.get? b = some ob) → Q (.ref (s.heap.objs.size + 1)) { s with heap := h' }) :
    wpAny (model prog w) A (call (.type "enumerate") [v]) Q E s := by
  refine callType_new F.called_enumerate (by decide) (F.typeCall_enumerate_1 _) (F.newCall_enumerate_1 _) (fun obj => F.args_object_init_2 obj _) F.entry_enumerate_new (enumB_meets B) ⟨h1, ?_⟩
  have sz : (s.heap.push o).objs.size = s.heap.objs.size + 1 := Heap.size_push ..
  show _ ∧ _
  rw [sz]
  have en : IsEnum ((s.heap.push o).push { cls := .type "enumerate", data := .fields #[.none, .bool false, .ref s.heap.objs.size, rawInt 0, .none, .none] }) (s.heap.objs.size + 1) s.heap.objs.size 0 .none := by
    have k := Heap.get?_push_size (s.heap.push o) (o := { cls := .type "enumerate", data := .fields #[.none, .bool false, .ref s.heap.objs.size, rawInt 0, .none, .none] }) rfl
    rw [sz] at k
    exact k
  exact ⟨⟨_, en, rfl⟩, h _ en (Heap.get?_push_of_some _ (Heap.get?_push_size _ B.free)) fun b ob x => Heap.get?_push_of_some _ (Heap.get?_push_of_some _ x)⟩
/-- the tuple at a, each item in a new pair -/
def Itet (K : PySem.W.Frag) (a : Addr) : It :=
  ⟨fun i H => ∃ (xs : List V) (x : V), SqT K H a xs ∧ xs[i]? = some x, fun i H v H' => ∃ T x, v = .ref T ∧ H T = none ∧ H' = upd H T (.tup [.int (i : Nat), x]) ∧ ∀ xs, SqT K H a xs → xs[i]? = some x, fun i H => ∃ xs : List V, SqT K H a xs ∧ xs.length ≤ i⟩
theorem turn_enT {P : Program} {w : World} {K : PySem.W.Frag} {elts : List Expr} {kk : Nat} {tpos : Pos} (a e it : Addr) :
    Turn P w K (.Tuple elts kk tpos) (Itet K a) [e, it] e (fun i h => (∃ old, IsEnum h e it ((i : Nat) : Int) old) ∧ h.IsTupleIter it a i ∧ e ≠ it) where
  mem := by simp
  obj := fun i h st b hb => by
    obtain ⟨⟨old, he⟩, ⟨o, ho, hc, hd⟩, _⟩ := st
    rcases (by simpa using hb : b = e ∨ b = it) with z | z
    · rw [z]; exact ⟨_, he, fun v q => nomatch q⟩
    · rw [z]; exact ⟨o, ho, fun v q => by rw [hd] at q; cases q⟩
  keep := fun i h h' st k => by
    obtain ⟨⟨old, he⟩, hi, hne⟩ := st
    exact ⟨⟨old, k e (by simp) _ he⟩, hi.at fun o q => k it (by simp) o q, hne⟩
  item := by
    intro X hP hw hK hc i pins s σ H E I hf st hg
    subst hP hw hK
    obtain ⟨⟨old, he⟩, hit, hne⟩ := st
    obtain ⟨xs, x, hq, hx⟩ := hg
    obtain ⟨its, rv, p, hz⟩ := I.tuple hq
    obtain ⟨u, hu, ru⟩ := rv.get hx
    have tup : s.heap.IsTuple a its.toArray := p
    have hel : e < s.heap.objs.size := Heap.lt_size he
    have hil : it < s.heap.objs.size := by obtain ⟨_, q, _⟩ := hit; exact Heap.lt_size q
    have nat : a ≠ it := fun z => by
      obtain ⟨o, q, c, _⟩ := hit
      obtain ⟨o2, q2, c2, _⟩ := tup
      rw [z, q] at q2
      cases q2
      rw [c] at c2
      injection c2 with k
      exact absurd k (by decide)
    have nae : e ≠ a := fun z => by
      obtain ⟨o2, q2, c2, _⟩ := tup
      have he2 : s.heap.get? e = _ := he
      rw [z, q2] at he2
      cases he2
      injection c2 with k
      exact absurd k (by decide)
    have hlt : i < its.toArray.size := by
      have := (List.getElem?_eq_some_iff.mp hu).1
      simpa using this
    refine wpAny_pyNext_enum_itemD (Draws.tuple (A := X.A.in1) (I.ok.hd hc) it a nat its.toArray) he ⟨hit, tup⟩ hlt hne (by simp [hne, nae]) fun y h' tk hP ho st' hT hsz hk => ?_
    have ey : y = u := by
      have hP' : its.toArray[i]? = some y := hP
      have : its[i]? = some y := by simpa using hP'
      rw [hu] at this
      exact (Option.some.inj this).symm
    subst ey
    refine ⟨_, rfl, wpAny_letOwnedTupleGo_enum (s := { s with heap := h', toks := tk + 1 }) ho fun h'' he' sb => ?_⟩
    have hT2 : h''.get? s.heap.objs.size = some { cls := .type "tuple", data := .seq #[.int i tk, y] } := (sb.2 _ (Nat.ne_of_gt hel)).trans hT
    have new : ObjOk X.prog X.w (upd H s.heap.objs.size (.tup [.int (i : Nat), x])) h'' s.heap.objs.size (.tup [.int (i : Nat), x]) :=
      ⟨by show 2 ≤ sizeLine; decide, [.int i tk, y], .cons ⟨_, rfl⟩ (.cons ru .nil), ⟨_, hT2, rfl, _, rfl⟩⟩
    have I1 : Inv X pins σ (upd H s.heap.objs.size (.tup [.int (i : Nat), x])) { s with heap := h'', toks := tk + 1 } :=
      I.turnedNew (ch := [e, it]) (fun b ob hb q => (sb.2 b (fun z => hb (by simp [z]))).trans (hk b ob (fun z => hb (by simp [z])) (fun z => hb (by simp [z])) q)) hf (Nat.le_refl _) new
    refine ⟨.ref s.heap.objs.size, _, I1, rfl, ⟨_, x, rfl, I.hok.fresh (Nat.le_refl _), rfl, fun ys hy => by rw [I.tuple_inj hy hq]; exact hx⟩, ⟨⟨y, ?_⟩, st'.1.at fun o q => (sb.2 it (Ne.symm hne)).trans q, hne⟩, fun b hb => ?_⟩
    · rw [show ((i + 1 : Nat) : Int) = (i : Int) + 1 by omega]
      exact he'
    · have hb' : b < s.heap.objs.size := by
        rcases (by simpa using hb : b = e ∨ b = it) with z | z
        · rw [z]; exact hel
        · rw [z]; exact hil
      rw [upd_ne (Nat.ne_of_lt hb')]
      exact (hf b hb).1
  done := by
    intro X hP hw hK hc i pins s σ H E I hf st hg
    subst hP hw hK
    obtain ⟨⟨old, he⟩, hit, hne⟩ := st
    obtain ⟨xs, hq, hx⟩ := hg
    obtain ⟨its, rv, p, hz⟩ := I.tuple hq
    obtain ⟨f0, f1, f2, f3, f4, f5⟩ := hf it (by simp)
    have hl := rv.length
    have tup : s.heap.IsTuple a its.toArray := p
    have fin : wpAny (model X.prog X.w) X.A (pyNext (.ref e)) (fun r s' => r = none ∧ Inv X pins σ H s') E s := by
      have ty : s.TypeIs (.ref e) "enumerate" := ⟨_, he, rfl⟩
      unfold pyNext
      refine wpAny_bind (wpAny_attempt (wpAny_callSpecial?_slot (name := Str.ofString "__next__") ty F.slot_enumerate_next (wpAny_call_entry F.slot_enumerate_next ty F.entry_enumerate_next ?_ (F.args_enumerate_next_1 _))))
      show wpAny _ _ (field (.ref e) 2 >>= _) _ _ _
      refine wpAny_bind (wpAny_field he rfl (x := .ref it) rfl ?_)
      refine wpAny_bind (wpAny_nextOf_tuple_end (I.ok.hd hc) hit tup (Array.getElem?_eq_none (by simp; omega)) fun h' x eb hx' => ?_)
      obtain ⟨o, ho, hco⟩ := hx'
      refine wpAny_bind (wpAny_isInstance (T := "StopIteration") (b := true) ⟨o, ho, hco⟩ isSubtype_stop ?_)
      exact wpAny_pure ⟨rfl, I.turned (t' := s.toks) (fun b o hb q => eb b o hb q) f0 f1 f3 f4 f5⟩
    exact fin
  self := fun A i s Q E st h => let ⟨⟨_, he⟩, _⟩ := st; wpAny_pyIter_enum he h
def iEnumA (K : PySem.W.Frag) (ta : TA) : TI := fun σ H R => ta σ H fun vs H1 => ∃ a, vs = [.ref a] ∧ ((∃ xs, SqL K H1 a xs ∧ R (Ite K a) H1) ∨ ∃ xs, SqT K H1 a xs ∧ R (Itet K a) H1)
theorem pi_enumA {X : Cx} {e : Expr} {ta : TA} {p pos tpos : Pos} {elts : List Expr} {kk : Nat} (hg : Gl X "enumerate") (hm : X.mg "enumerate" = none) (ha : PA X [e] ta) (hs : starEach [e] X.env = [(false, eval e X.env)] := by rfl) :
    PI X (.Tuple elts kk tpos) (.Call (.Name "enumerate" p) [e] [] pos) (iEnumA X.K ta) := by
  refine ⟨fun pins s σ H R I h => ?_⟩
  refine Call_ (ld_blt I hg hm boot_enumerate (PyProof.Rows.callWith_type1 (thn (ha.run pos pins s σ H _ I h) fun us s1 ⟨vs, H1, I1, r1, q1⟩ => ?_) hs rfl))
  obtain ⟨a, ex, q⟩ := q1
  subst ex
  cases r1 with
  | cons r rr =>
    cases rr
    cases r
    have apart : ∀ b ∈ [s1.heap.objs.size + 1, s1.heap.objs.size], FpOk X pins H1 b := fun b hb => by
      have hle : s1.heap.objs.size ≤ b := by
        rcases (by simpa using hb : b = s1.heap.objs.size + 1 ∨ b = s1.heap.objs.size) with z | z
        · rw [z]; exact Nat.le_add_right _ _
        · rw [z]; exact Nat.le_refl _
      exact I1.fpOk hle (I1.hok.fresh hle)
    rcases q with ⟨xs, hq, q⟩ | ⟨xs, hq, q⟩
    · obtain ⟨its, rv, p', hz⟩ := I1.list hq
      refine call_enumerate_list p'.isList fun h' he hit hsz hk => wpAny_pyIter_enum he ?_
      have I2 : Inv X pins σ H1 { s1 with heap := h' } := I1.kept (t' := s1.toks) hk
      exact ⟨s1.heap.objs.size + 1, [s1.heap.objs.size + 1, s1.heap.objs.size], _, _, H1, rfl, I2, turn_enum a (s1.heap.objs.size + 1) s1.heap.objs.size, ⟨⟨.none, he⟩, hit, Nat.succ_ne_self _⟩, apart, q⟩
    · obtain ⟨its, rv, p', hz⟩ := I1.tuple hq
      refine enumB_call (begins_tuple a its.toArray) p' fun h' he ho hk => wpAny_pyIter_enum he ?_
      have I2 : Inv X pins σ H1 { s1 with heap := h' } := I1.kept (t' := s1.toks) hk
      exact ⟨s1.heap.objs.size + 1, [s1.heap.objs.size + 1, s1.heap.objs.size], _, _, H1, rfl, I2, turn_enT a (s1.heap.objs.size + 1) s1.heap.objs.size, ⟨⟨.none, he⟩, ⟨_, ho, rfl, rfl⟩, Nat.succ_ne_self _⟩, apart, q⟩
def sEnA (f : M T) : M Src := fun ρ => ob (f ρ) fun u ρ => match u with
  | .lst o ts => if nob (.lst o ts) = true then ok (enT 0 (shrs ts), [shr (.lst o ts)]) ρ else none
  | .tup ts => if nob (.tup ts) = true then ok (enT 0 (shrs ts), [shr (.tup ts)]) ρ else none
  | _ => none
theorem it_enT {K : PySem.W.Frag} {mg : Str → Option Value} {ts : List T} {a : Addr} : ItOk K mg (Itet K a) (enT 0 (shrs ts)) [(shr (.tup ts), .ref a)] := by
  intro H0 H σ ρ tmp I i
  have I' : Iv K mg H0 H σ ρ ((shr (.tup ts), .ref a) :: tmp) := I
  obtain ⟨s, cx, hx, _⟩ := Iv.one' I'
  have hx' : Rep K mg H s (.tup (shrs ts)) (.ref a) cx := hx
  obtain ⟨a', vs, e1, h1, _, h3⟩ := hx'.tupS
  cases e1
  refine ⟨fun t ht => ?_, fun hl => ⟨vs, h1, by rw [Reps.length h3]; rwa [enT_len] at hl⟩⟩
  rw [enT_get] at ht
  obtain ⟨t0, ht0, rfl⟩ := Option.map_eq_some_iff.mp ht
  obtain ⟨v, hv, hr⟩ := Reps.get h3 ht0
  refine ⟨⟨vs, v, h1, hv⟩, ?_, fun x H' hy => ?_⟩
  · have : t0 ∈ shrs ts := List.mem_of_getElem? ht0
    have hall := nobs_shrs ts
    rw [nobs_all] at hall
    have := List.all_eq_true.mp hall t0 this
    simp [nob, nobs, this]
  · obtain ⟨Ta, x0, rfl, hTa, rfl, hy⟩ := hy
    have hx' : vs[i]? = some x0 := hy vs h1
    rw [hv] at hx'
    cases hx'
    have I2 := I'.item (t := t0) (x := v) fun s' h' => by
      have h'' : Rep K mg H s' (.tup (shrs ts)) (.ref a) zc := h'
      obtain ⟨a2, vs2, e2, g1, _, g3⟩ := h''.tupS
      cases e2
      obtain ⟨v2, hv2, hr2⟩ := Reps.get g3 ht0
      have hx2 : vs2[i]? = some v := hy vs2 g1
      rw [hv2] at hx2
      cases hx2
      exact hr2
    have I3 : Iv K mg H0 H σ ρ (([.int (i : Int), t0] : List T).zip [.int (i : Int), v] ++ ((shr (.tup ts), .ref a) :: tmp)) := I2.flat (Same.refl H) fun s => rfl
    rw [show ((0 + i : Nat) : Int) = (i : Int) by simp]
    exact ⟨same_new hTa, I3.newTup rfl hTa⟩
theorem fi_enA {X : Cx} {W : WX} {e : Expr} {f : M T} {pos p tpos : Pos} {elts : List Expr} {kk : Nat} (hg : Gl X "enumerate") (hm : X.mg "enumerate" = none) (ha : FE X W e f) (hs' : starEach [e] X.env = (false, eval e X.env) :: starEach [] X.env := by rfl) (hs : starEach [e] X.env = [(false, eval e X.env)] := by rfl) :
    FI X W (.Tuple elts kk tpos) (.Call (.Name "enumerate" p) [e] [] pos) (sEnA f) := by
  obtain ⟨te, pe, qe⟩ := ha
  refine ⟨_, pi_enumA hg hm (pa_cons pe pa_nil hs') hs, fun H0 H σ ρ tmp R I h => qe H0 H σ ρ tmp _ I (h.ob.imp fun u ρ1 h1 v H1 e1 I1 => ?_)⟩
  match u, h1, I1 with
  | .lst o ts, h1, I1 =>
    simp only at h1
    split at h1
    · rename_i hb
      obtain ⟨s, cx, hx, _⟩ := Iv.one' I1
      obtain ⟨a, vs, c', rfl, g1, _, _⟩ := hx.lstS
      exact ⟨a, rfl, .inl ⟨vs, g1, h1 (Ite X.K a) [.ref a] H1 e1 rfl shd1 (I1.shrTop hb) it_en⟩⟩
    · exact h1.elim
  | .tup ts, h1, I1 =>
    simp only at h1
    split at h1
    · rename_i hb
      obtain ⟨s, cx, hx, _⟩ := Iv.one' I1
      obtain ⟨a, vs, rfl, g1, _, _⟩ := hx.tupS
      exact ⟨a, rfl, .inr ⟨vs, g1, h1 (Itet X.K a) [.ref a] H1 e1 rfl shd1 (I1.shrTop hb) it_enT⟩⟩
    · exact h1.elim
/-! ### a tuple of texts of the module -/
def GTup (K : PySem.W.Frag) (mg : Str → Option Value) (x : Str) (ss : List Str) : Prop := ∃ (a : Addr) (o : Obj) (its : Array Value) (n : Nat), mg x = some (.ref a) ∧ K.lookup a = some o ∧ o.cls = .type "tuple" ∧ o.data = .seq its n ∧ its.size ≤ sizeLine ∧ Vals (ss.map V.str) its.toList
theorem fe_gtupC {X : Cx} {W : WX} {x : Str} {ss : List Str} {pos : Pos} (hg : Gl X x) (h : GTup X.K X.mg x ss) (hd : (x == ("__debug__" : Str)) = false := by decide) : FE X W (.Name x pos) (eK (.tup (ss.map T.str))) := by
  obtain ⟨a, o, its, n, h1, h2, h3, h4, h5, h6⟩ := h
  refine fe_c (pe_glob (v := .ref a) hg h1 rfl hd) fun H s => ⟨a, ss.map V.str, rfl, .inr ⟨?_, .inr ⟨o, its, n, h2, h3, h4, h5, h6⟩⟩, ?_⟩
  · rw [nols_all]
    simp [nol]
  · exact go H s ss
where
  go (H : Hp) (s : Addr → Prop) : ∀ ss : List Str, Reps X.K X.mg H s (ss.map T.str) (ss.map V.str) zc
    | [] => rfl
    | z :: ss => ⟨.str z, ss.map V.str, zc, zc, rfl, fun _ => Nat.le_refl _, rfl, go H s ss⟩
@[simp] theorem sEnA_ap {f : M T} {ρ : En} : sEnA f ρ = ob (f ρ) fun u ρ => match u with
  | .lst o ts => if nob (.lst o ts) = true then ok (enT 0 (shrs ts), [shr (.lst o ts)]) ρ else none
  | .tup ts => if nob (.tup ts) = true then ok (enT 0 (shrs ts), [shr (.tup ts)]) ρ else none
  | _ => none := rfl
end FL
set_option maxHeartbeats 4000000
namespace FL
open PySem PySem.Spec L2
open PyProof.Rows hiding St
/-! ## a tuple, once or many times -/
theorem tuple_once (l : Addr) (items : Array Value) (n : Nat) (dd : Option Addr) (sl : Array (Option Value)) (u : Tok) :
    Meets (Builtin.«tuple.__mul__» ⟨[.ref l, .int 1 u], []⟩) (fun _ R s => s.heap.get? l = some { cls := .type "tuple", dict := dd, data := .seq items n, slots := sl } ∧ R (.ok (.ret (Value.ref l))) s) :=
  .of_wp fun prog w A R s h => by
    obtain ⟨hp, g, d, tk, os⟩ := s
    obtain ⟨hl, h⟩ := h
    have f1 := AutoSeq1.idx_int
    have c1 : (items.isEmpty || (1 : Int) == 1) = true := by simp
    wp_walk using wpAny_loadPart' hl
    exact ⟨_, rfl, h⟩
def rMul1 (K : PySem.W.Frag) : R2 := fun x y H Q => ∃ l xs, x = .ref l ∧ y = .int 1 ∧ SqT K H l xs ∧ Q (.ref l) H
theorem op_mul1 {X : Cx} : OpR X (binaryOp .Mult) (rMul1 X.K) := by
  intro pins s σ H x y v u Q I rx ry h
  obtain ⟨l, xs, rfl, rfl, hT, q⟩ := h
  obtain rfl : v = Value.ref l := rx
  obtain ⟨t, rfl⟩ := ry
  obtain ⟨its, r, ⟨⟨cls, dd, data, sl⟩, ho, hc, n, hd⟩, hs⟩ := I.tuple hT
  dsimp only at hc hd
  subst hc
  subst hd
  refine wpAny_binaryOp_repeat_ref (T := "tuple") (U := "int") (by decide) ⟨_, ho, rfl⟩ (fun s' => typeIs_int s' 1 t) noFill_tuple_mul F.fills_int_mul F.slot_int_rmul repeat_tuple F.slot_int_index.lookup ?_
  refine call_meets F.slot_int_rmul (typeIs_int s 1 t) F.entry_int_rmul (F.args_int_rmul_2 _ _) (int_rmul_tuple 1 t l its.toArray n dd sl) ⟨ho, rfl, ⟨_, ho, rfl⟩, ?_⟩
  refine call_meets F.slot_tuple_mul ⟨_, ho, rfl⟩ F.entry_tuple_mul (F.args_tuple_mul_2 _ _) (tuple_once l its.toArray n dd sl t) ⟨ho, ?_⟩
  exact ⟨.ref l, H, I, rfl, q⟩
def gMulO : T → T → Option T := fun x y => match x, y with
  | .tup xs, .int k => if k = 1 then some (.tup xs) else gMulT (.tup xs) (.int k)
  | _, _ => none
@[simp] theorem gMulO_t {xs : List T} {k : Int} : gMulO (.tup xs) (.int k) = if k = 1 then some (.tup xs) else gMulT (.tup xs) (.int k) := rfl
def rMulO (K : PySem.W.Frag) : R2 := fun x y H Q => rMul1 K x y H Q ∨ rMulT K x y H Q
theorem op_mulO {X : Cx} : OpR X (binaryOp .Mult) (rMulO X.K) := OpR.or op_mul1 op_mulT
theorem ok_mulO {K : PySem.W.Frag} {mg : Str → Option Value} : OpOk K mg (rMulO K) gMulO := fun H0 H σ ρ tmp x y z vx vy Q h I k => by
  unfold gMulO at h
  split at h
  · rename_i xs n
    split at h
    · rename_i h1
      cases h
      subst h1
      have ey := I.int
      subst ey
      obtain ⟨s, cx, hx, _⟩ := Iv.one' I.drop1
      obtain ⟨a, vs, rfl, g1, _, _⟩ := hx.tupS
      exact .inl ⟨a, vs, rfl, rfl, g1, k _ _ (Same.refl H) I.drop1⟩
    · exact .inr (ok_mulT H0 H σ ρ tmp _ _ z vx vy Q h I k)
  · cases h
end FL
namespace FL
open PySem PySem.Spec L2
open PyProof.Rows hiding St
/-! ## the end: the law's def answers True -/
theorem reps_ints {K : PySem.W.Frag} {mg : Str → Option Value} {H : Hp} {s : Addr → Prop} : ∀ (l : List Int), Reps K mg H s (l.map T.int) (l.map V.int) zc
  | [] => rfl
  | i :: l => ⟨.int i, _, zc, zc, rfl, fun _ => Nat.le_refl _, rfl, reps_ints l⟩
theorem nobs_ints : ∀ (l : List Int), nobs (l.map T.int) = true
  | [] => rfl
  | i :: l => nobs_ints l
theorem cx_false {P : Program} {w : World} {l : List Env} {H : Hp} {s : Shared} {e : Value} {s' : Shared} (h : L2.CX P w l H s (fun _ _ _ => False) e s') : False := by
  obtain ⟨_, _, _, _, _, _, _, _, _, _, _, _, z⟩ := h
  exact z
theorem law_end {P : Program} {w : World} {K : PySem.W.Frag} {mg mb : Str → Option Value} {k : Nat} {fa a : Addr} {x : Str} {Fl : DF} {s1 : Shared} {vs : List Value} {ns : List Int}
    (KX : K.In s1.heap) (hns : s1.heap.Ns mainGlobals mg) (hb : s1.heap.Ns builtinsNs mb) (hbb : ∀ x : Str, x ≠ "__name__" → mb x = bootBuiltins x) (hlim : s1.heap.NoLimit) (hg : s1.gens = #[])
    (ha : s1.heap.get? a = some { cls := .type "list", data := .seq vs.toArray }) (hi : IntsAre vs ns) (hl : ns.length ≤ sizeLine) (hr : Room k callerA) (hm : mg x = some (.ref fa))
    (F : ∀ base : Heap, K.In base → base.Ns mainGlobals mg → CalG P w K mg base x k 1 Fl) (hF : Fl [.lst .fz (ns.map T.int)] = some (.ok (.bl true))) :
    codeAny (model P w) callerA (.call (.ref fa) ⟨[.ref a], []⟩) (fun r s' => r = .ok (.ret (.bool true)) ∧ OldK s1.heap s'.heap ∧ s'.os = s1.os ∧ AllBare s'.gens) s1 := by
  have rv : Vals (ns.map V.int) vs := vals_ints hi
  have hlen : vs.length = ns.length := hi.length
  -- the abstract heap tracks nothing, or the script alone
  have main : ∀ H : Hp, (∀ b u, H b = some u → b = a ∧ u = .frz { cls := .type "list", data := .seq vs.toArray } (.lst (ns.map V.int))) → (H a ≠ none → K.lookup a = none) → FzL K H a (ns.map V.int) →
      codeAny (model P w) callerA (.call (.ref fa) ⟨[.ref a], []⟩) (fun r s' => r = .ok (.ret (.bool true)) ∧ OldK s1.heap s'.heap ∧ s'.os = s1.os ∧ AllBare s'.gens) s1 := by
    intro H hH hK hS
    have hok : HOk P w H s1.heap := fun b u z => by
      obtain ⟨rfl, rfl⟩ := hH b u z
      exact ⟨ha, by rw [List.length_map]; exact hl, vs, _, rv, ha⟩
    have noD : ∀ {b : Addr} {o : Obj} {es : Array DictEntry} {ep : Nat}, s1.heap.get? b = some o → o.data = .dict es ep → H b = none := by
      intro b o es ep e d
      match q : H b with
      | none => rfl
      | some u =>
        obtain ⟨rfl, _⟩ := hH b u q
        rw [ha] at e
        cases e
        cases d
    have nsB : ∀ {b : Addr} {m : Str → Option Value}, s1.heap.Ns b m → (hidT s1.heap H).Ns b m := by
      rintro b m ⟨o, es, ep, e, d, r⟩
      exact ⟨o, es, ep, hidT_get e (noD e d), d, r⟩
    have kin : K.In (hidT s1.heap H) := by
      intro b o e
      refine hidT_get (KX b o e) ?_
      match q : H b with
      | none => rfl
      | some u =>
        obtain ⟨rfl, _⟩ := hH b u q
        rw [hK (by rw [q]; exact fun z => by cases z)] at e
        cases e
    have gl := nsB hns
    obtain ⟨mc, hmc1, hmc2⟩ := hlim
    have e0 : Env0 P w K mg (hidT s1.heap H) callerA [] s1 H :=
      { frames := rfl, mod := ⟨kin, gl, ⟨mb, nsB hb, hbb⟩, ⟨mc, nsB hmc1, hmc2⟩⟩, bs := fun b o e => of_hidT e, bsz := Nat.le_of_eq (hidT_size _ _), funs := trivial, frf := fun b z => (nomatch z), hok := hok, bare := .of_eq hg }
    obtain ⟨f, fd, ps, hm', hk', hbd, G⟩ := F _ kin gl
    rw [hm] at hm'
    cases hm'
    have sp : spF K mg 1 Fl [.ref a] H (fun v _ => v = .bl true) (fun _ _ _ => False) := by
      refine ⟨[.lst .fz (ns.map T.int)], rfl, ?_, ⟨.ref a, [], zc, zc, rfl, fun _ => Nat.le_refl _, ⟨a, _, rfl, hS, reps_ints ns⟩, rfl⟩, ?_⟩
      · simp [nobs, nob, nobs_ints]
      · rw [hF]
        rintro v H' _ ⟨c, _, _, hR⟩
        exact hR
    have hps : ps.length = 1 := (G.len _ _ _ _ sp).symm
    have bt := hbd s1 [.ref a] KX (by simp [hps])
    refine codeAny_mono (G.run callerA [] s1 H ⟨[.ref a], []⟩ [.ref a] [.ref a] _ _ rfl hr e0 bt (.cons rfl .nil) sp) fun r s' h => ?_
    cases r with
    | error e => exact (cx_false h).elim
    | ok fl =>
      cases fl with
      | next => exact h.elim
      | brk => exact h.elim
      | cont => exact h.elim
      | ret u =>
        obtain ⟨v, H', os, bare, un, hok', rv', rfl⟩ := h
        obtain rfl : u = Value.bool true := rv'
        refine ⟨rfl, OldK.of_keep fun b o e => ?_, os, bare⟩
        match q : H b with
        | none => exact un.keep b o e q (fun z => (nomatch z)) (fun z => (nomatch z))
        | some u =>
          obtain ⟨rfl, rfl⟩ := hH b u q
          have z2 := un.frzs _ _ _ q
          rw [ha] at e
          cases e
          exact (hok' _ _ z2).1
  match hk : K.lookup a with
  | some o =>
    have e := KX a o hk
    rw [ha] at e
    cases e
    exact main (fun _ => none) (fun b u z => by cases z) (fun z => absurd rfl z) (.inr ⟨_, vs.toArray, _, hk, rfl, rfl, rfl, by rw [List.size_toArray, hlen]; exact hl, by simpa using rv⟩)
  | none =>
    refine main (fun b => if b = a then some (.frz { cls := .type "list", data := .seq vs.toArray } (.lst (ns.map V.int))) else none) (fun b u z => ?_) (fun _ => hk) (.inl ⟨_, if_pos rfl⟩)
    split at z
    · cases z
      exact ⟨by assumption, rfl⟩
    · cases z
/-- the goal that k_head leaves -/
theorem walk_fl {l : PySem.W.OpenLaw} {n k : Nat} {q : Program} {loose : List Str} {XP : (Str → Option Value) → Heap → Prop} {YP : World → Heap → Prop} {d : DefRec} {K : Params → PySem.W.Frag} {Fl : DF}
    (hn : l.most = some n) (hn2 : n ≤ sizeLine) (hdf : d.params.defaults = []) (hr : Room k callerA) (hY : ∀ (w : World) (h : Heap), YP w h → (K w.params).In h)
    (F : ∀ (w : World) (mg : Str → Option Value) (fa : Addr) (h : Heap), (K w.params).In h → h.Ns mainGlobals mg → mg d.name = some (.ref fa) → ∀ base : Heap, (K w.params).In base → base.Ns mainGlobals mg → CalG l.prog w (K w.params) mg base d.name k 1 Fl)
    (hF : ∀ ns : List Int, ns.length ≤ n → (∀ z ∈ ns, Builtin.Int.intBits z ≤ 1048576) → Fl [.lst .fz (ns.map T.int)] = some (.ok (.bl true))) :
    PySem.W.WalkO q loose XP YP l.row.toRowW d [] (fun f vs => PySem.call f vs) := by
  refine Att.attach_callB hn hdf fun w s0 s1 mg mb fa o pm cd doc a vs ns G Y ho hd hcd hmg hobj hints hlen hbits hg => ?_
  exact law_end (hY w _ Y) G.T.g G.T.b G.T.builtins G.T.nolimit hg hobj hints (Nat.le_trans hlen hn2) hr hmg (fun base h1 h2 => F w mg fa _ (hY w _ Y) G.T.g hmg base h1 h2) (hF ns hlen hbits)
end FL
namespace FL
open PySem PySem.Spec L2
open PyProof.Rows hiding St
/-! ## what the combinators compute, for simp -/
section
variable {ρ : En} {f fa fb fc : M T} {g : T → T → Option T} {i j : Nat} {t u : T} {s s' : S}
@[simp] theorem eUse_ap : eUse i ρ = match ρ[i]? with | some (some t) => ok (shr t) (ρ.set i (some (shr t))) | _ => none := rfl
@[simp] theorem eMove_ap : eMove i ρ = match ρ[i]? with | some (some t) => ok t (ρ.set i none) | _ => none := rfl
@[simp] theorem eBor_ap : eBor i ρ = match ρ[i]? with | some (some t) => ok (bor t) ρ | _ => none := rfl
@[simp] theorem eK_ap : eK t ρ = ok t ρ := rfl
@[simp] theorem eOp_ap : eOp g fa fb ρ = ob (fa ρ) fun x ρ => ob (fb ρ) fun y ρ => ol (g x y) ρ := rfl
@[simp] theorem eUn_ap {g : T → Option T} : eUn g fa ρ = ob (fa ρ) fun x ρ => ol (g x) ρ := rfl
@[simp] theorem tb_ap : tb f ρ = ob (f ρ) fun x ρ => match x with | .bl k => ok k ρ | _ => none := rfl
@[simp] theorem tAn_ap {f g : M Bool} : tAn f g ρ = ob (f ρ) fun k ρ => if k = true then g ρ else ok false ρ := rfl
@[simp] theorem tOrr_ap {f g : M Bool} : tOrr f g ρ = ob (f ρ) fun k ρ => if k = true then ok true ρ else g ρ := rfl
@[simp] theorem tNo_ap {f : M Bool} : tNo f ρ = ob (f ρ) fun k ρ => ok (!k) ρ := rfl
@[simp] theorem eAn_ap : eAn fa fb ρ = ob (fa ρ) fun x ρ => match x with | .bl true => fb ρ | .bl false => ok (.bl false) ρ | _ => none := rfl
@[simp] theorem eOr_ap : eOr fa fb ρ = ob (fa ρ) fun x ρ => match x with | .bl true => ok (.bl true) ρ | .bl false => fb ρ | _ => none := rfl
@[simp] theorem eNo_ap : eNo f ρ = ob (f ρ) fun x ρ => match x with | .bl k => ok (.bl (!k)) ρ | _ => none := rfl
@[simp] theorem eIf_ap {t : M Bool} : eIf t fa fb ρ = ob (t ρ) fun k ρ => if k = true then fa ρ else fb ρ := rfl
@[simp] theorem eCh_ap {g' : T → T → Option T} : eCh g g' fa fb fc ρ = ob (fa ρ) fun x ρ => ob (fb ρ) fun y ρ => match g x y with
  | some (.bl true) => ob (fc ρ) fun z ρ => ol (g' y z) ρ
  | some (.bl false) => ok (.bl false) ρ
  | _ => none := rfl
@[simp] theorem aNil_ap : aNil ρ = ok [] ρ := rfl
@[simp] theorem aCons_ap {g : M (List T)} : aCons f g ρ = ob (f ρ) fun x ρ => ob (g ρ) fun xs ρ => ok (x :: xs) ρ := rfl
@[simp] theorem eTup_ap {g : M (List T)} : eTup g ρ = ob (g ρ) fun xs ρ => if nobs xs = true ∧ xs.length ≤ 1000 then ok (.tup xs) ρ else none := rfl
@[simp] theorem eLst_ap {g : M (List T)} : eLst g ρ = ob (g ρ) fun xs ρ => if nobs xs = true ∧ xs.length ≤ 1000 then ok (.lst .ow xs) ρ else none := rfl
@[simp] theorem oNone_ap : oNone ρ = ok none ρ := rfl
@[simp] theorem oSome_ap : oSome f ρ = ob (f ρ) fun x ρ => match x with | .int i => ok (some i) ρ | _ => none := rfl
@[simp] theorem eSl_ap {g : T → Option Int → Option Int → Option T} {fl fh : M (Option Int)} : eSl g f fl fh ρ = ob (f ρ) fun x ρ => ob (fl ρ) fun l ρ => ob (fh ρ) fun h ρ => ol (g x l h) ρ := rfl
@[simp] theorem eCb_ap {g : List T → Option T} {fs : M (List T)} : eCb g fs ρ = ob (fs ρ) fun xs ρ => ol (g xs) ρ := rfl
@[simp] theorem eCall_ap {n : Nat} {F : DF} {fs : M (List T)} : eCall n F fs ρ = ob (fs ρ) fun xs ρ => if xs.length = n then (match F (shrs xs) with
  | some (.ok u) => ok u ρ
  | some (.error x) => some (.error (x, ρ))
  | none => none) else none := rfl
@[simp] theorem eCall0_ap {F : DF} : eCall0 F ρ = match F [] with | some (.ok u) => ok u ρ | _ => none := rfl
@[simp] theorem eIsT_ap {n : String} : eIsT n f ρ = ob (f ρ) fun x ρ => if isE x = true then none else ok (.bl (isTy n x)) ρ := rfl
@[simp] theorem eLrg_ap : eLrg f ρ = ob (f ρ) fun x ρ => match x with | .int n => if 0 ≤ n ∧ n.toNat ≤ 16777216 then ok (.lst .ow (rngT 0 1 n.toNat)) ρ else none | _ => none := rfl
@[simp] theorem eMb_ap {okr : T → Bool} {g : T → List T → Option T} {fs : M (List T)} : eMb okr g f fs ρ = ob (f ρ) fun x ρ => if okr x = true then (ob (fs ρ) fun xs ρ => ol (g x xs) ρ) else none := rfl
@[simp] theorem eRepr_ap : eRepr f ρ = ob (f ρ) fun x ρ => ol (gRepr x) ρ := rfl
@[simp] theorem eDg_ap {l : List (Str × M T)} {fk fd : M T} : eDg l fk fd ρ = ob (evD l ρ) fun us ρ => ob (fk ρ) fun k ρ => ob (fd ρ) fun d ρ => match k with
  | .str x => ok ((lookT (l.map (·.1)) us x).getD d) ρ
  | _ => none := rfl
@[simp] theorem evD_nil : evD [] ρ = ok [] ρ := rfl
@[simp] theorem evD_cons {k : Str} {r : List (Str × M T)} : evD ((k, f) :: r) ρ = ob (f ρ) fun x ρ => ob (evD r ρ) fun xs ρ => ok (x :: xs) ρ := rfl
@[simp] theorem sNext_ap : sNext ρ = some (.ok (.nx ρ)) := rfl
@[simp] theorem sSeq_ap : sSeq s s' ρ = match s ρ with | some (.ok (.nx ρ')) => s' ρ' | r => r := rfl
@[simp] theorem sBreak_ap : sBreak ρ = some (.ok (.bk ρ)) := rfl
@[simp] theorem sCont_ap : sCont ρ = some (.ok (.ct ρ)) := rfl
@[simp] theorem sDrop_ap : sDrop f ρ = sb (f ρ) fun _ ρ => some (.ok (.nx ρ)) := rfl
@[simp] theorem sRet_ap : sRet f ρ = sb (f ρ) fun u _ => if alw u = true then some (.ok (.rt u)) else none := rfl
@[simp] theorem sRetN_ap : sRetN ρ = some (.ok (.rt .non)) := rfl
@[simp] theorem sIf_ap {t : M Bool} : sIf t s s' ρ = sb (t ρ) fun k ρ => if k = true then s ρ else s' ρ := rfl
@[simp] theorem gN_ap : gN i t ρ = if nob t = true then some (ρ.set i (some t)) else none := rfl
@[simp] theorem gsNil_ap : gsNil [] ρ = some ρ := rfl
@[simp] theorem gsCons_ap {g : Tg} {gs : List T → En → Option En} {r : List T} : gsCons g gs (t :: r) ρ = match g t ρ with | some ρ' => gs r ρ' | none => none := rfl
@[simp] theorem gT_ap {n : Nat} {gs : List T → En → Option En} {ts : List T} : gT n gs (.tup ts) ρ = if ts.length = n then gs ts ρ else none := rfl
@[simp] theorem sAsg_ap {g : Tg} : sAsg f g ρ = sb (f ρ) fun u ρ => match g u ρ with | some ρ' => some (.ok (.nx ρ')) | none => none := rfl
@[simp] theorem sPar_ap {fs : M (List T)} : sPar i j fs ρ = sb (fs ρ) fun us ρ => match us with
  | [x, y] => if nob x = true ∧ nob y = true then some (.ok (.nx ((ρ.set i (some x)).set j (some y)))) else none
  | _ => none := rfl
@[simp] theorem sFor_ap {fi : M Src} {g : Tg} : sFor fi g s ρ = sb (fi ρ) fun u ρ => loop g s u.1 ρ := rfl
@[simp] theorem loop_nil {g : Tg} : loop g s [] ρ = some (.ok (.nx ρ)) := rfl
@[simp] theorem sAny_ap : sAny f ρ = ob (f ρ) fun u ρ => match u with
  | .lst o ts => if nob (.lst o ts) = true then ok (shrs ts, [shr (.lst o ts)]) ρ else none
  | .tup ts => if nob (.tup ts) = true then ok (shrs ts, [shr (.tup ts)]) ρ else none
  | .str z => ok (signs z, []) ρ
  | _ => none := rfl
@[simp] theorem sEn_ap : sEn f ρ = ob (f ρ) fun u ρ => match u with
  | .lst o ts => if nob (.lst o ts) = true then ok (enT 0 (shrs ts), [shr (.lst o ts)]) ρ else none
  | _ => none := rfl
@[simp] theorem sRng1_ap {fs : M (List T)} : sRng1 fs ρ = ob (fs ρ) fun us ρ => match us with
  | [.int n] => if in62 n = true then ok (rngT 0 1 n.toNat, []) ρ else none
  | _ => none := rfl
@[simp] theorem sRng2_ap {fs : M (List T)} : sRng2 fs ρ = ob (fs ρ) fun us ρ => match us with
  | [.int i, .int j] => if in62 i = true ∧ in62 j = true then ok (rngT i 1 (j - i).toNat, []) ρ else none
  | _ => none := rfl
/-- the rest of a comprehension, its source known -/
def lcO (ρ : En) (r : Out Src) (k : List T → Option (List T)) : Out T := match r with
  | some (.ok (u, _)) => if u.1.length ≤ 1000000 then ol ((k u.1).map (T.lst .ow)) ρ else none
  | some (.error (x, _)) => some (.error (x, ρ))
  | none => none
@[simp] theorem lcO_ok {u : Src} {ρ' : En} {k : List T → Option (List T)} : lcO ρ (ok u ρ') k = if u.1.length ≤ 1000000 then ol ((k u.1).map (T.lst .ow)) ρ else none := rfl
@[simp] theorem eLc_ap {fi : M Src} {vs : List Nat} {g : Tg} {tt : M Bool} {fe : M T} : eLc fi vs g tt fe ρ = lcO ρ (fi (shE ρ)) (lcGo (shE ρ) vs g tt fe) := by
  unfold eLc lcO
  rcases fi (shE ρ) with _ | ⟨⟨x, _⟩ | ⟨u, ρ'⟩⟩
  · rfl
  · rfl
  · dsimp only
    by_cases h : u.1.length ≤ 1000000
    · rw [if_pos h, if_pos h]
      cases lcGo (shE ρ) vs g tt fe u.1 <;> rfl
    · rw [if_neg h, if_neg h]
@[simp] theorem tYesF_ap : tYesF ρ = ok true ρ := rfl
@[simp] theorem wipeE_nil : wipeE ρ [] = ρ := rfl
@[simp] theorem wipeE_cons {v : Nat} {vs : List Nat} : wipeE ρ (v :: vs) = (wipeE ρ vs).set v none := rfl
@[simp] theorem shE_ap : shE ρ = ρ.map (·.map shr) := rfl
@[simp] theorem shr_int {i : Int} : shr (.int i) = .int i := rfl
@[simp] theorem shr_bl {i : Bool} : shr (.bl i) = .bl i := rfl
@[simp] theorem shr_str {i : Str} : shr (.str i) = .str i := rfl
@[simp] theorem shr_non : shr .non = .non := rfl
@[simp] theorem shr_tup {ts : List T} : shr (.tup ts) = .tup (ts.map shr) := by rw [← shrs_map]; rfl
@[simp] theorem shr_ow {ts : List T} : shr (.lst .ow ts) = .lst .sh (ts.map shr) := by rw [← shrs_map]; rfl
@[simp] theorem shr_sh {ts : List T} : shr (.lst .sh ts) = .lst .sh (ts.map shr) := by rw [← shrs_map]; rfl
@[simp] theorem shr_bo {ts : List T} : shr (.lst .bo ts) = .lst .sh (ts.map shr) := by rw [← shrs_map]; rfl
@[simp] theorem shr_fz {ts : List T} : shr (.lst .fz ts) = .lst .fz (ts.map shr) := by rw [← shrs_map]; rfl
@[simp] theorem shrs_ap {ts : List T} : shrs ts = ts.map shr := shrs_map ts
@[simp] theorem bors_ap {ts : List T} : bors ts = ts.map bor := bors_map ts
@[simp] theorem bor_int {i : Int} : bor (.int i) = .int i := rfl
@[simp] theorem bor_bl {i : Bool} : bor (.bl i) = .bl i := rfl
@[simp] theorem bor_str {i : Str} : bor (.str i) = .str i := rfl
@[simp] theorem bor_non : bor .non = .non := rfl
@[simp] theorem bor_tup {ts : List T} : bor (.tup ts) = .tup (ts.map bor) := by rw [← bors_map]; rfl
@[simp] theorem bor_ow {ts : List T} : bor (.lst .ow ts) = .lst .bo (ts.map bor) := by rw [← bors_map]; rfl
@[simp] theorem bor_sh {ts : List T} : bor (.lst .sh ts) = .lst .sh (ts.map bor) := by rw [← bors_map]; rfl
@[simp] theorem bor_fz {ts : List T} : bor (.lst .fz ts) = .lst .fz (ts.map bor) := by rw [← bors_map]; rfl
@[simp] theorem nobs_ap {ts : List T} : nobs ts = ts.all nob := nobs_all ts
@[simp] theorem alws_ap {ts : List T} : alws ts = ts.all alw := alws_all ts
@[simp] theorem nols_ap {ts : List T} : nols ts = ts.all nol := nols_all ts
@[simp] theorem nob_int {i : Int} : nob (.int i) = true := rfl
@[simp] theorem nob_bl {i : Bool} : nob (.bl i) = true := rfl
@[simp] theorem nob_str {i : Str} : nob (.str i) = true := rfl
@[simp] theorem nob_non : nob .non = true := rfl
@[simp] theorem nob_tup {ts : List T} : nob (.tup ts) = ts.all nob := by rw [← nobs_all]; rfl
@[simp] theorem nob_ow {ts : List T} : nob (.lst .ow ts) = ts.all nob := by rw [← nobs_all]; rfl
@[simp] theorem nob_sh {ts : List T} : nob (.lst .sh ts) = ts.all nob := by rw [← nobs_all]; rfl
@[simp] theorem nob_fz {ts : List T} : nob (.lst .fz ts) = ts.all nob := by rw [← nobs_all]; rfl
@[simp] theorem alw_int {i : Int} : alw (.int i) = true := rfl
@[simp] theorem alw_bl {i : Bool} : alw (.bl i) = true := rfl
@[simp] theorem alw_str {i : Str} : alw (.str i) = true := rfl
@[simp] theorem alw_non : alw .non = true := rfl
@[simp] theorem alw_tup {ts : List T} : alw (.tup ts) = ts.all alw := by rw [← alws_all]; rfl
@[simp] theorem alw_fz {ts : List T} : alw (.lst .fz ts) = ts.all alw := by rw [← alws_all]; rfl
@[simp] theorem alw_ow {ts : List T} : alw (.lst .ow ts) = ts.all alw := by rw [← alws_all]; rfl
@[simp] theorem nol_int {i : Int} : nol (.int i) = true := rfl
@[simp] theorem nol_bl {i : Bool} : nol (.bl i) = true := rfl
@[simp] theorem nol_str {i : Str} : nol (.str i) = true := rfl
@[simp] theorem nol_non : nol .non = true := rfl
@[simp] theorem nol_tup {ts : List T} : nol (.tup ts) = ts.all nol := by rw [← nols_all]; rfl
@[simp] theorem nol_lst {o : Ow} {ts : List T} : nol (.lst o ts) = false := rfl
@[simp] theorem nob_shr' {t : T} : nob (shr t) = true := nob_shr t
@[simp] theorem shr_shr' {t : T} : shr (shr t) = shr t := shr_shr t
@[simp] theorem isE_int {i : Int} : isE (.int i) = false := rfl
@[simp] theorem isE_bl {i : Bool} : isE (.bl i) = false := rfl
@[simp] theorem isE_str {i : Str} : isE (.str i) = false := rfl
@[simp] theorem isE_non : isE .non = false := rfl
@[simp] theorem isE_tup {ts : List T} : isE (.tup ts) = false := rfl
@[simp] theorem isE_lst {o : Ow} {ts : List T} : isE (.lst o ts) = false := rfl
@[simp] theorem isE_exc {c : Str} {fs : List (Str × FV)} : isE (.exc c fs) = true := rfl
/-! what has no lists is as it is -/
theorem shr_nol : ∀ t, nol t = true → shr t = t := go
where
  go : ∀ t, nol t = true → shr t = t
    | .non, _ => rfl
    | .bl _, _ => rfl
    | .int _, _ => rfl
    | .str _, _ => rfl
    | .exc _ _, _ => rfl
    | .emp, _ => rfl
    | .vid _, _ => rfl
    | .tup ts, h => by
      show T.tup (shrs ts) = _
      rw [gos ts h]
    | .lst o ts, h => by cases h
  gos : ∀ ts, nols ts = true → shrs ts = ts
    | [], _ => rfl
    | t :: ts, h => by
      have h' : nol t = true ∧ nols ts = true := by simpa [nols] using h
      show shr t :: shrs ts = _
      rw [go t h'.1, gos ts h'.2]
theorem bor_nol : ∀ t, nol t = true → bor t = t := go
where
  go : ∀ t, nol t = true → bor t = t
    | .non, _ => rfl
    | .bl _, _ => rfl
    | .int _, _ => rfl
    | .str _, _ => rfl
    | .exc _ _, _ => rfl
    | .emp, _ => rfl
    | .vid _, _ => rfl
    | .tup ts, h => by
      show T.tup (bors ts) = _
      rw [gos ts h]
    | .lst o ts, h => by cases h
  gos : ∀ ts, nols ts = true → bors ts = ts
    | [], _ => rfl
    | t :: ts, h => by
      have h' : nol t = true ∧ nols ts = true := by simpa [nols] using h
      show bor t :: bors ts = _
      rw [go t h'.1, gos ts h'.2]
theorem nob_nol : ∀ t, nol t = true → nob t = true := fun t h => by
  rw [← shr_nol t h]
  exact nob_shr t
theorem alw_nol : ∀ t, nol t = true → alw t = true := go
where
  go : ∀ t, nol t = true → alw t = true
    | .non, _ => rfl
    | .bl _, _ => rfl
    | .int _, _ => rfl
    | .str _, _ => rfl
    | .exc _ _, _ => rfl
    | .emp, _ => rfl
    | .vid _, _ => rfl
    | .tup ts, h => gos ts h
    | .lst o ts, h => by cases h
  gos : ∀ ts, nols ts = true → alws ts = true
    | [], _ => rfl
    | t :: ts, h => by
      have h' : nol t = true ∧ nols ts = true := by simpa [nols] using h
      show (alw t && alws ts) = true
      rw [go t h'.1, gos ts h'.2]
      rfl
end
/-! ### loops, turn by turn -/
theorem wloop_succ {c : M Bool} {b : S} {n : Nat} {ρ : En} : wloop c b (n + 1) ρ = sb (c ρ) fun k ρ1 => if k = true then (match b ρ1 with
      | some (.ok (.nx ρ2)) => wloop c b n ρ2
      | some (.ok (.ct ρ2)) => wloop c b n ρ2
      | some (.ok (.bk ρ2)) => some (.ok (.nx ρ2))
      | r => r) else some (.ok (.nx ρ1)) := rfl
theorem loop_cons {g : Tg} {b : S} {t : T} {ts : List T} {ρ : En} : loop g b (t :: ts) ρ = match g t ρ with
    | none => none
    | some ρ1 => match b ρ1 with
      | some (.ok (.nx ρ2)) => loop g b ts ρ2
      | some (.ok (.ct ρ2)) => loop g b ts ρ2
      | some (.ok (.bk ρ2)) => some (.ok (.nx ρ2))
      | r => r := rfl
theorem wloop_go {c : M Bool} {b : S} {n : Nat} {ρ ρ1 ρ2 : En} (h : c ρ = ok true ρ1) (h2 : b ρ1 = some (.ok (.nx ρ2))) : wloop c b (n + 1) ρ = wloop c b n ρ2 := by
  rw [wloop_succ, h, sb_ok, if_pos rfl, h2]
theorem wloop_end {c : M Bool} {b : S} {n : Nat} {ρ ρ1 : En} (h : c ρ = ok false ρ1) : wloop c b (n + 1) ρ = some (.ok (.nx ρ1)) := by
  rw [wloop_succ, h, sb_ok, if_neg Bool.false_ne_true]
theorem loop_go {g : Tg} {b : S} {t : T} {ts : List T} {ρ ρ1 ρ2 : En} (h : g t ρ = some ρ1) (h2 : b ρ1 = some (.ok (.nx ρ2))) : loop g b (t :: ts) ρ = loop g b ts ρ2 := by
  rw [loop_cons, h]
  simp only [h2]
theorem loop_ret {g : Tg} {b : S} {t u : T} {ts : List T} {ρ ρ1 : En} (h : g t ρ = some ρ1) (h2 : b ρ1 = some (.ok (.rt u))) : loop g b (t :: ts) ρ = some (.ok (.rt u)) := by
  rw [loop_cons, h]
  simp only [h2]
theorem lc_go {ρ : En} {vs : List Nat} {g : Tg} {tt : M Bool} {fe : M T} {t y : T} {ts : List T} {ρ2 ρ3 ρ4 : En} (h : g t (wipeE ρ vs) = some ρ2) (h2 : tt ρ2 = ok true ρ3) (h3 : fe ρ3 = ok y ρ4) (ha : alw y = true) : lcGo ρ vs g tt fe (t :: ts) = (lcGo ρ vs g tt fe ts).map (y :: ·) := by
  simp only [ok] at h2 h3
  simp only [lcGo, h, h2, h3, ha, if_true]
theorem lc_skip {ρ : En} {vs : List Nat} {g : Tg} {tt : M Bool} {fe : M T} {t : T} {ts : List T} {ρ2 ρ3 : En} (h : g t (wipeE ρ vs) = some ρ2) (h2 : tt ρ2 = ok false ρ3) : lcGo ρ vs g tt fe (t :: ts) = lcGo ρ vs g tt fe ts := by
  simp only [ok] at h2
  simp only [lcGo, h, h2]
/-- a comprehension without tests is a map -/
theorem lc_map {α : Type} {ρ : En} {vs : List Nat} {g : Tg} {fe : M T} {k : α → T} {y : α → T} : ∀ {l : List α}, (∀ a ∈ l, ∃ ρ2 ρ4, g (k a) (wipeE ρ vs) = some ρ2 ∧ fe ρ2 = ok (y a) ρ4 ∧ alw (y a) = true) → lcGo ρ vs g tYesF fe (l.map k) = some (l.map y)
  | [], _ => rfl
  | a :: l, h => by
    obtain ⟨ρ2, ρ4, h1, h2, h3⟩ := h a (by simp)
    rw [List.map_cons, lc_go h1 (tYesF_ap (ρ := ρ2)) h2 h3, lc_map fun b hb => h b (by simp [hb])]
    rfl
/-! ### operations by their arguments' kinds -/
section
variable {i j : Int} {x y z : Str} {xs ys : List T} {o p : Ow} {t u : T} {lo hi : Option Int}
@[simp] theorem gAdd_i : gAdd (.int i) (.int j) = some (.int (i + j)) := rfl
@[simp] theorem gAdd_s : gAdd (.str x) (.str y) = if x.length + y.length ≤ 16777216 then some (.str (x ++ y)) else none := rfl
@[simp] theorem gAdd_t : gAdd (.tup xs) (.tup ys) = if xs.length + ys.length ≤ 16777216 then some (.tup (xs ++ ys)) else none := rfl
@[simp] theorem gAdd_l : gAdd (.lst o xs) (.lst p ys) = if o ≠ .fz ∧ p ≠ .fz ∧ xs.length + ys.length ≤ 16777216 then some (.lst .ow (xs ++ ys)) else none := rfl
@[simp] theorem gMul_i : gMul (.int i) (.int j) = if i.natAbs < 2 ^ 64 ∨ j.natAbs < 2 ^ 64 then some (.int (i * j)) else none := rfl
@[simp] theorem gMul_l : gMul (.lst o xs) (.int i) = if o ≠ .fz ∧ nols xs = true ∧ i.natAbs < 2 ^ 63 ∧ xs.length * i.toNat ≤ 16777216 then some (.lst .ow (rept i xs)) else none := rfl
@[simp] theorem gI_i {g : Int → Int → T} : gI g (.int i) (.int j) = some (g i j) := rfl
@[simp] theorem gIc_i {c : Int → Int → Bool} {g : Int → Int → T} : gIc c g (.int i) (.int j) = if c i j = true then some (g i j) else none := rfl
@[simp] theorem gNeg_i : gNeg (.int i) = some (.int (-i)) := rfl
@[simp] theorem gIx_l : gIx (.lst o xs) (.int i) = atI xs i := rfl
@[simp] theorem gIx_t : gIx (.tup xs) (.int i) = atI xs i := rfl
@[simp] theorem gIx_s : gIx (.str z) (.int i) = if z.length ≤ 16777216 then (atI z.cps.toList i).map fun c => .str ⟨#[c]⟩ else none := rfl
@[simp] theorem gSl_l : gSl (.lst o xs) lo hi = some (.lst .ow (cutT xs lo hi)) := rfl
@[simp] theorem gSl_t : gSl (.tup xs) lo hi = some (.tup (cutT xs lo hi)) := rfl
@[simp] theorem gSl_s : gSl (.str z) lo hi = if z.length ≤ 16777216 then some (.str (cutS z lo hi)) else none := rfl
@[simp] theorem gLen_l : gLen [.lst o xs] = some (.int xs.length) := rfl
@[simp] theorem gLen_t : gLen [.tup xs] = some (.int xs.length) := rfl
@[simp] theorem gLen_s : gLen [.str z] = if z.length ≤ 16777216 then some (.int z.length) else none := rfl
@[simp] theorem gAbs_i : gAbs [.int i] = some (.int (if i < 0 then -i else i)) := rfl
@[simp] theorem gMax_i : gMax [.int i, .int j] = some (.int (if j > i then j else i)) := rfl
@[simp] theorem gMin_i : gMin [.int i, .int j] = some (.int (if j < i then j else i)) := rfl
@[simp] theorem gInt_i : gInt [.int i] = some (.int i) := rfl
@[simp] theorem gInt_b {k : Bool} : gInt [.bl k] = some (.int (if k then 1 else 0)) := rfl
@[simp] theorem gTuple_l : gTuple [.lst o xs] = some (.tup xs) := rfl
@[simp] theorem gTuple_t : gTuple [.tup xs] = some (.tup xs) := rfl
@[simp] theorem gList_l : gList [.lst o xs] = some (.lst .ow xs) := rfl
@[simp] theorem gList_t : gList [.tup xs] = some (.lst .ow xs) := rfl
@[simp] theorem gIsN_n : gIsN t .non = some (.bl (isN t)) := rfl
@[simp] theorem gNotN_n : gNotN t .non = some (.bl (!isN t)) := rfl
@[simp] theorem isN_i : isN (.int i) = false := rfl
@[simp] theorem isN_n : isN .non = true := rfl
@[simp] theorem isN_t : isN (.tup xs) = false := rfl
@[simp] theorem isN_l : isN (.lst o xs) = false := rfl
@[simp] theorem isN_s : isN (.str x) = false := rfl
@[simp] theorem teq_i : teq (.int i) (.int j) = (i == j) := by simp [teq]
@[simp] theorem teq_s : teq (.str x) (.str y) = (x == y) := by simp [teq]
@[simp] theorem teq_t : teq (.tup xs) (.tup ys) = teqs xs ys := by simp [teq]
@[simp] theorem teq_l : teq (.lst o xs) (.lst p ys) = teqs xs ys := by simp [teq]
@[simp] theorem teq_nn : teq .non .non = true := by simp [teq]
@[simp] theorem teqs_nil : teqs [] [] = true := by simp [teqs]
@[simp] theorem teqs_nc : teqs [] (t :: xs) = false := by simp [teqs]
@[simp] theorem teqs_cn : teqs (t :: xs) [] = false := by simp [teqs]
@[simp] theorem teqs_cc : teqs (t :: xs) (u :: ys) = (teq t u && teqs xs ys) := by simp [teqs]
@[simp] theorem okT_i {n : Nat} : okT n (.int i) = true := by simp [okT]
@[simp] theorem okT_n {n : Nat} : okT n .non = true := by simp [okT]
@[simp] theorem okT_b {n : Nat} {k : Bool} : okT n (.bl k) = true := by simp [okT]
@[simp] theorem okT_s {n : Nat} : okT n (.str x) = PyData.strOk x := by simp [okT]
@[simp] theorem okT_t {n : Nat} : okT (n + 1) (.tup xs) = xs.all (okT n) := by
  have : ∀ l, okTs n l = l.all (okT n) := fun l => by induction l with
    | nil => rfl
    | cons a l ih => simp [okTs, ih]
  simp [okT, this]
@[simp] theorem okT_l {n : Nat} : okT (n + 1) (.lst o xs) = xs.all (okT n) := by
  have : ∀ l, okTs n l = l.all (okT n) := fun l => by induction l with
    | nil => rfl
    | cons a l ih => simp [okTs, ih]
  simp [okT, this]
@[simp] theorem atI_0 {α : Type} {a : α} {l : List α} : atI (a :: l) 0 = some a := by simp [atI, ixN]
@[simp] theorem atI_nat' {α : Type} {l : List α} {n : Nat} : atI l (n : Int) = l[n]? := by
  unfold atI ixN
  by_cases h : n < l.length
  · simp [h]
  · simp [h, List.getElem?_eq_none_iff.mpr (Nat.le_of_not_lt h)]
theorem atI_lit {α : Type} {l : List α} {n : Nat} : atI l (OfNat.ofNat n : Int) = l[n]? := atI_nat'
@[simp] theorem atI_1 {α : Type} {l : List α} : atI l 1 = l[1]? := atI_nat' (n := 1)
@[simp] theorem atI_2 {α : Type} {l : List α} : atI l 2 = l[2]? := atI_nat' (n := 2)
@[simp] theorem atI_3 {α : Type} {l : List α} : atI l 3 = l[3]? := atI_nat' (n := 3)
@[simp] theorem atI_4 {α : Type} {l : List α} : atI l 4 = l[4]? := atI_nat' (n := 4)
@[simp] theorem atI_5 {α : Type} {l : List α} : atI l 5 = l[5]? := atI_nat' (n := 5)
@[simp] theorem atI_6 {α : Type} {l : List α} : atI l 6 = l[6]? := atI_nat' (n := 6)
@[simp] theorem atI_7 {α : Type} {l : List α} : atI l 7 = l[7]? := atI_nat' (n := 7)
theorem atI_last' {α : Type} {l : List α} (h : l ≠ []) : atI l (-1) = some (l.getLast h) := by
  unfold atI ixN
  have : 0 < l.length := List.length_pos_iff.mpr h
  have h1 : -(l.length : Int) ≤ -1 := by omega
  have h2 : ((-1 : Int) + (l.length : Int)).toNat = l.length - 1 := by omega
  simp [h1, h2, List.getLast_eq_getElem, List.getElem?_eq_getElem (show l.length - 1 < l.length by omega)]
end
/-! ### isinstance's table -/
theorem isTy_int (t : T) : isTy "int" t = (match t with | .int _ => true | .bl _ => true | _ => false) := by cases t <;> first | (show (kitB _ _).getD false = true; simp only [tyN]; decide +kernel) | (show (kitB _ _).getD false = false; simp only [tyN]; decide +kernel)
theorem isTy_bool (t : T) : isTy "bool" t = (match t with | .bl _ => true | _ => false) := by cases t <;> first | (show (kitB _ _).getD false = true; simp only [tyN]; decide +kernel) | (show (kitB _ _).getD false = false; simp only [tyN]; decide +kernel)
theorem isTy_str (t : T) : isTy "str" t = (match t with | .str _ => true | _ => false) := by cases t <;> first | (show (kitB _ _).getD false = true; simp only [tyN]; decide +kernel) | (show (kitB _ _).getD false = false; simp only [tyN]; decide +kernel)
theorem isTy_list (t : T) : isTy "list" t = (match t with | .lst _ _ => true | _ => false) := by cases t <;> first | (show (kitB _ _).getD false = true; simp only [tyN]; decide +kernel) | (show (kitB _ _).getD false = false; simp only [tyN]; decide +kernel)
theorem isTy_tuple (t : T) : isTy "tuple" t = (match t with | .tup _ => true | _ => false) := by cases t <;> first | (show (kitB _ _).getD false = true; simp only [tyN]; decide +kernel) | (show (kitB _ _).getD false = false; simp only [tyN]; decide +kernel)
end FL
namespace FL
open PySem PySem.Spec L2
open PyProof.Rows hiding St
/-! ## repr of what is small -/
mutual
/-- its numbers are small, its texts are texts -/
def sml : T → Bool
  | .non => true
  | .bl _ => true
  | .int i => decide (i.natAbs < 1000000)
  | .str x => PyData.strOk x
  | .exc _ _ => false
  | .emp => false
  | .vid _ => false
  | .tup ts => smls ts
  | .lst _ ts => smls ts
def smls : List T → Bool
  | [] => true
  | t :: ts => sml t && smls ts
end
mutual
def wT : T → Nat
  | .non => 0
  | .bl _ => 0
  | .int _ => 20
  | .str x => x.cps.size
  | .exc _ _ => 0
  | .emp => 0
  | .vid _ => 0
  | .tup ts => wTs ts
  | .lst _ ts => wTs ts
def wTs : List T → Nat
  | [] => 0
  | t :: ts => wT t + 1 + wTs ts
end
theorem log2_sml {n : Nat} (h : n < 1000000) : n.log2 ≤ 19 := by
  by_cases z : n = 0
  · subst z; decide
  · have := (Nat.log2_lt z (k := 20)).mpr (by omega)
    omega
mutual
theorem sml_ok : ∀ t, sml t = true → PyData.leavesShort 13 (toD t) = true ∧ (toD t).showable = true ∧ (toD t).weight ≤ wT t
  | .exc _ _, h => by simp [sml] at h
  | .emp, h => by simp [sml] at h
  | .vid _, h => by simp [sml] at h
  | .non, _ => ⟨rfl, rfl, Nat.le_refl _⟩
  | .bl _, _ => ⟨rfl, rfl, Nat.le_refl _⟩
  | .int i, h => by
    have hi : i.natAbs < 1000000 := by simpa [sml] using h
    have hl := log2_sml hi
    refine ⟨?_, ?_, ?_⟩
    · simp only [toD, PyData.leavesShort, decide_eq_true_eq]
      exact PyData.shown_int_le2 (by omega) (by omega)
    · simp only [toD, PyData.showable, decide_eq_true_eq]
      omega
    · simp only [toD, PyData.weight, wT]
      split <;> omega
  | .str x, h => by
    have hx : x.cps.all (fun c => decide (c < 1114112)) = true := by simpa [sml, PyData.strOk] using h
    refine ⟨?_, rfl, Nat.le_refl _⟩
    simp only [toD, PyData.leavesShort]
    rw [← Array.all_toList] at hx
    rw [List.all_eq_true] at hx ⊢
    intro c hc
    have := of_decide_eq_true (hx c hc)
    exact decide_eq_true (by omega)
  | .tup ts, h => by
    obtain ⟨h1, h2, h3⟩ := smls_ok ts (by simpa [sml] using h)
    exact ⟨by simpa only [toD, PyData.leavesShort] using h1, by simpa only [toD, PyData.showable] using h2, by simpa only [toD, PyData.weight, wT] using h3⟩
  | .lst _ ts, h => by
    obtain ⟨h1, h2, h3⟩ := smls_ok ts (by simpa [sml] using h)
    exact ⟨by simpa only [toD, PyData.leavesShort] using h1, by simpa only [toD, PyData.showable] using h2, by simpa only [toD, PyData.weight, wT] using h3⟩
theorem smls_ok : ∀ ts, smls ts = true → PyData.leavesShortAll 13 (toDs ts) = true ∧ PyData.showableAll (toDs ts) = true ∧ PyData.weightAll (toDs ts) ≤ wTs ts
  | [], _ => ⟨rfl, rfl, Nat.le_refl _⟩
  | t :: ts, h => by
    have h' : sml t = true ∧ smls ts = true := by simpa [smls] using h
    obtain ⟨a1, a2, a3⟩ := sml_ok t h'.1
    obtain ⟨b1, b2, b3⟩ := smls_ok ts h'.2
    refine ⟨by simp only [toDs, PyData.leavesShortAll, a1, b1, Bool.and_self], by simp only [toDs, PyData.showableAll, a2, b2, Bool.and_self], ?_⟩
    simp only [toDs, PyData.weightAll, wTs]
    omega
end
theorem sml_shown {t : T} (h : sml t = true) (hw : wT t ≤ 1000000) : (toD t).showable = true ∧ (toD t).shown.length ≤ 16777216 := by
  obtain ⟨h1, h2, h3⟩ := sml_ok t h
  have h4 := PyData.shown_le 13 (by decide) _ h1
  exact ⟨h2, by omega⟩
theorem gRepr_t {xs : List T} (h0 : okT 60 (.tup xs) = true) (h : sml (.tup xs) = true) (hw : wT (.tup xs) ≤ 1000000) : gRepr (.tup xs) = some (.str (toD (.tup xs)).shown) := by
  unfold gRepr
  exact if_pos ⟨h0, sml_shown h hw⟩
theorem gRepr_l {o : Ow} {xs : List T} (h0 : okT 60 (.lst o xs) = true) (h : sml (.lst o xs) = true) (hw : wT (.lst o xs) ≤ 1000000) : gRepr (.lst o xs) = some (.str (toD (.lst o xs)).shown) := by
  unfold gRepr
  exact if_pos ⟨h0, sml_shown h hw⟩
theorem smls_all (ts : List T) : smls ts = ts.all sml := by
  induction ts with
  | nil => rfl
  | cons t ts ih => simp only [smls, ih, List.all_cons]
theorem wTs_le {α : Type} {f : α → T} {c : Nat} : ∀ {l : List α}, (∀ a ∈ l, wT (f a) ≤ c) → wTs (l.map f) ≤ l.length * (c + 1)
  | [], _ => Nat.zero_le _
  | a :: l, h => by
    have h1 := h a (by simp)
    have h2 := wTs_le (l := l) fun b hb => h b (by simp [hb])
    simp only [List.map_cons, wTs, List.length_cons, Nat.add_mul]
    omega
/-! ### the text that repr writes is a text -/
mutual
/-- it holds no text -/
def noS : T → Bool
  | .str _ => false
  | .exc _ _ => false
  | .emp => false
  | .vid _ => false
  | .tup ts => noSs ts
  | .lst _ ts => noSs ts
  | _ => true
def noSs : List T → Bool
  | [] => true
  | t :: ts => noS t && noSs ts
end
theorem noSs_all (ts : List T) : noSs ts = ts.all noS := by
  induction ts with
  | nil => rfl
  | cons t ts ih => simp only [noSs, ih, List.all_cons]
mutual
theorem noS_free {k : Nat} (hk : 1000 < k) : ∀ t, noS t = true → k ∉ (toD t).shown.cps.toList
  | .exc _ _, h => by simp [noS] at h
  | .emp, h => by simp [noS] at h
  | .vid _, h => by simp [noS] at h
  | .non, _ => by
    show k ∉ (PyData.none).shown.cps.toList
    rw [PyData.shown_none]
    have e : (("None" : String) : Str).cps.toList = [78, 111, 110, 101] := by decide
    rw [e]; intro hm; simp only [List.mem_cons, List.not_mem_nil, or_false] at hm
    omega
  | .bl b, _ => by
    show k ∉ (PyData.bool b).shown.cps.toList
    rw [PyData.shown_bool]
    cases b
    · show k ∉ (Str.ofString "False").cps.toList
      have e : (Str.ofString "False").cps.toList = [70, 97, 108, 115, 101] := by decide
      rw [e]; intro hm; simp only [List.mem_cons, List.not_mem_nil, or_false] at hm
      omega
    · show k ∉ (Str.ofString "True").cps.toList
      have e : (Str.ofString "True").cps.toList = [84, 114, 117, 101] := by decide
      rw [e]; intro hm; simp only [List.mem_cons, List.not_mem_nil, or_false] at hm
      omega
  | .int i, _ => shown_int_free' ⟨by omega, by omega⟩ i
  | .str x, h => by simp [noS] at h
  | .tup ts, h => by
    have ih := noSs_free hk ts (by simpa [noS] using h)
    show k ∉ (PyData.tuple (toDs ts)).shown.cps.toList
    rw [PyData.shown_tuple]
    rw [mem_cps_append, mem_cps_append, signs_lparen, mem_join, signs_tuple_end, signs_sep]
    rintro ((hm | (⟨t, ht, hc⟩ | ⟨hl, hm⟩)) | hm)
    · simp only [List.mem_cons, List.not_mem_nil, or_false] at hm; omega
    · exact ih t ht hc
    · simp only [List.mem_cons, List.not_mem_nil, or_false] at hm; omega
    · split at hm <;> simp only [List.mem_cons, List.not_mem_nil, or_false] at hm <;> omega
  | .lst _ ts, h => by
    have ih := noSs_free hk ts (by simpa [noS] using h)
    show k ∉ (PyData.list (toDs ts)).shown.cps.toList
    rw [PyData.shown_list, mem_cps_append, mem_cps_append, signs_lbrack, signs_rbrack, mem_join, signs_sep]
    rintro ((hm | (⟨t, ht, hc⟩ | ⟨hl, hm⟩)) | hm)
    · simp only [List.mem_cons, List.not_mem_nil, or_false] at hm; omega
    · exact ih t ht hc
    · simp only [List.mem_cons, List.not_mem_nil, or_false] at hm; omega
    · simp only [List.mem_cons, List.not_mem_nil, or_false] at hm; omega
theorem noSs_free {k : Nat} (hk : 1000 < k) : ∀ ts, noSs ts = true → ∀ t ∈ PyData.shownAll (toDs ts), k ∉ t.cps.toList
  | [], _ => fun t ht => by simp [toDs, PyData.shownAll] at ht
  | t :: ts, h => fun u hu => by
    have h' : noS t = true ∧ noSs ts = true := by simpa [noSs] using h
    rw [toDs, PyData.shownAll_cons, List.mem_cons] at hu
    rcases hu with e | hu
    · rw [e]; exact noS_free hk t h'.1
    · exact noSs_free hk ts h'.2 u hu
end
theorem noS_ok {t : T} (h : noS t = true) : PyData.strOk (toD t).shown = true := by
  unfold PyData.strOk
  rw [← Array.all_toList, List.all_eq_true]
  intro c hc
  refine decide_eq_true ?_
  apply Classical.byContradiction
  intro z
  exact noS_free (k := c) (by omega) t h hc
end FL
namespace FL
open PySem PySem.Spec L2
open PyProof.Rows hiding St
/-! ## what repr writes is a text, whatever data it is -/
theorem digitChar_lt (d : Nat) (h : d < 16) : (Nat.digitChar d).toNat < 128 := by
  match d, h with
  | 0, _ | 1, _ | 2, _ | 3, _ | 4, _ | 5, _ | 6, _ | 7, _ | 8, _ | 9, _ | 10, _ | 11, _ | 12, _ | 13, _ | 14, _ | 15, _ => decide
  | n + 16, h => omega
theorem core_lt : ∀ (f n : Nat) (ds : List Char), (∀ c ∈ ds, c.toNat < 128) → ∀ c ∈ Nat.toDigitsCore 16 f n ds, c.toNat < 128
  | 0, n, ds, h => by simpa [Nat.toDigitsCore] using h
  | f + 1, n, ds, h => by
    unfold Nat.toDigitsCore
    have hd : ∀ c ∈ Nat.digitChar (n % 16) :: ds, c.toNat < 128 := by
      intro c hc
      rcases List.mem_cons.mp hc with rfl | hc
      · exact digitChar_lt _ (Nat.mod_lt _ (by decide))
      · exact h c hc
    intro c hc
    dsimp only at hc
    split at hc
    · exact hd c hc
    · exact core_lt f (n / 16) _ hd c hc
theorem digits_lt (n : Nat) : ∀ c ∈ (Nat.toDigits 16 n).map Char.toNat, c < 128 := by
  intro c hc
  obtain ⟨x, hx, rfl⟩ := List.mem_map.mp hc
  exact core_lt _ _ [] (fun _ z => nomatch z) x hx
theorem reprChar_mem {q c k : Nat} (hk : 1000 < k) (h : k ∈ Builtin.Str.reprChar q c) : k = c := by
  unfold Builtin.Str.reprChar at h
  have hx : ∀ w : Nat, k ∉ List.replicate (w - ((Nat.toDigits 16 c).map Char.toNat).length) 48 ++ (Nat.toDigits 16 c).map Char.toNat := by
    intro w hm
    rcases List.mem_append.mp hm with z | z
    · have := List.eq_of_mem_replicate z
      omega
    · have := digits_lt c k z
      omega
  dsimp only at h
  split at h
  · simp at h; omega
  · split at h
    · simp at h; omega
    · split at h
      · simp at h; omega
      · split at h
        · simp at h; omega
        · split at h
          · simpa using h
          · split at h
            · rcases List.mem_append.mp h with z | z
              · simp at z; omega
              · exact absurd z (hx 2)
            · split at h
              · rcases List.mem_append.mp h with z | z
                · simp at z; omega
                · exact absurd z (hx 4)
              · rcases List.mem_append.mp h with z | z
                · simp at z; omega
                · exact absurd z (hx 8)
theorem fold_mem {q k : Nat} (hk : 1000 < k) : ∀ (l : List Nat) (acc : Array Nat), k ∈ (l.foldl (fun out c => out ++ (Builtin.Str.reprChar q c).toArray) acc).toList → k ∈ acc.toList ∨ k ∈ l
  | [], acc, h => .inl h
  | c :: l, acc, h => by
    rcases fold_mem hk l _ h with z | z
    · rw [Array.toList_append] at z
      rcases List.mem_append.mp z with z | z
      · exact .inl z
      · exact .inr (by rw [reprChar_mem hk (c := c) (by simpa using z)]; simp)
    · exact .inr (by simp [z])
theorem reprText_free {k : Nat} (hk : 1000 < k) {x : Str} (h : k ∈ (PySem.reprText x).cps.toList) : k ∈ x.cps.toList := by
  unfold PySem.reprText at h
  rw [Array.toList_push] at h
  have hq : PySem.reprQuote x ≠ k := by unfold PySem.reprQuote; split <;> omega
  rcases List.mem_append.mp h with z | z
  · rw [← Array.foldl_toList] at z
    rcases fold_mem hk _ _ z with z | z
    · simp at z; exact absurd z.symm hq
    · exact z
  · simp at z; exact absurd z.symm hq
mutual
theorem txt_free {k : Nat} (hk : 1114112 ≤ k) : ∀ (n : Nat) (t : T), okT n t = true → k ∉ (toD t).shown.cps.toList
  | n, .exc _ _, h => by simp [okT] at h
  | n, .emp, h => by simp [okT] at h
  | n, .vid _, h => by simp [okT] at h
  | _, .non, _ => noS_free (k := k) (by omega) .non rfl
  | _, .bl b, _ => noS_free (k := k) (by omega) (.bl b) rfl
  | _, .int i, _ => noS_free (k := k) (by omega) (.int i) rfl
  | n, .str x, h => by
    show k ∉ (PySem.reprText x).cps.toList
    intro hm
    have h1 := reprText_free (by omega) hm
    have hx : x.cps.all (fun c => decide (c < 1114112)) = true := by simpa [okT, PyData.strOk] using h
    rw [← Array.all_toList, List.all_eq_true] at hx
    have := of_decide_eq_true (hx k h1)
    omega
  | n, .tup ts, h => by
    have h' : okTs (n - 1) ts = true := by simp [okT] at h; exact h.2
    have ih := txts_free hk (n - 1) ts h'
    show k ∉ (PyData.tuple (toDs ts)).shown.cps.toList
    rw [PyData.shown_tuple]
    rw [mem_cps_append, mem_cps_append, signs_lparen, mem_join, signs_tuple_end, signs_sep]
    rintro ((hm | (⟨t, ht, hc⟩ | ⟨hl, hm⟩)) | hm)
    · simp only [List.mem_cons, List.not_mem_nil, or_false] at hm; omega
    · exact ih t ht hc
    · simp only [List.mem_cons, List.not_mem_nil, or_false] at hm; omega
    · split at hm <;> simp only [List.mem_cons, List.not_mem_nil, or_false] at hm <;> omega
  | n, .lst _ ts, h => by
    have h' : okTs (n - 1) ts = true := by simp [okT] at h; exact h.2
    have ih := txts_free hk (n - 1) ts h'
    show k ∉ (PyData.list (toDs ts)).shown.cps.toList
    rw [PyData.shown_list, mem_cps_append, mem_cps_append, signs_lbrack, signs_rbrack, mem_join, signs_sep]
    rintro ((hm | (⟨t, ht, hc⟩ | ⟨hl, hm⟩)) | hm)
    · simp only [List.mem_cons, List.not_mem_nil, or_false] at hm; omega
    · exact ih t ht hc
    · simp only [List.mem_cons, List.not_mem_nil, or_false] at hm; omega
    · simp only [List.mem_cons, List.not_mem_nil, or_false] at hm; omega
theorem txts_free {k : Nat} (hk : 1114112 ≤ k) : ∀ (n : Nat) (ts : List T), okTs n ts = true → ∀ t ∈ PyData.shownAll (toDs ts), k ∉ t.cps.toList
  | n, [], _ => fun t ht => by simp [toDs, PyData.shownAll] at ht
  | n, t :: ts, h => fun u hu => by
    have h' : okT n t = true ∧ okTs n ts = true := by simpa [okTs] using h
    rw [toDs, PyData.shownAll_cons, List.mem_cons] at hu
    rcases hu with e | hu
    · rw [e]; exact txt_free hk n t h'.1
    · exact txts_free hk n ts h'.2 u hu
end
theorem shown_ok {n : Nat} {t : T} (h : okT n t = true) : PyData.strOk (toD t).shown = true := by
  unfold PyData.strOk
  rw [← Array.all_toList, List.all_eq_true]
  intro c hc
  refine decide_eq_true ?_
  apply Classical.byContradiction
  intro z
  exact txt_free (k := c) (by omega) n t h hc
/-- repr of what is small tells a text, whatever it is -/
theorem gRepr_ok : ∀ {t : T} {z : T}, gRepr t = some z → ∃ x, z = .str x ∧ PyData.strOk x = true := by
  intro t z h
  unfold gRepr at h
  split at h
  · split at h
    · rename_i hc
      cases h
      exact ⟨_, rfl, shown_ok hc.1⟩
    · cases h
  · split at h
    · rename_i hc
      cases h
      exact ⟨_, rfl, shown_ok hc.1⟩
    · cases h
  · cases h
mutual
theorem okT_up : ∀ (n : Nat) (t : T), okT n t = true → okT (n + 1) t = true
  | n, .exc _ _, h => by simp [okT] at h
  | n, .emp, h => by simp [okT] at h
  | n, .vid _, h => by simp [okT] at h
  | _, .non, _ => by simp [okT]
  | _, .bl b, _ => by simp [okT]
  | _, .int i, _ => by simp [okT]
  | n, .str x, h => by simpa [okT] using h
  | n, .tup ts, h => by
    have h' : n ≠ 0 ∧ okTs (n - 1) ts = true := by simpa [okT] using h
    have := okTs_up (n - 1) ts h'.2
    rw [show n - 1 + 1 = n by omega] at this
    simpa [okT] using this
  | n, .lst _ ts, h => by
    have h' : n ≠ 0 ∧ okTs (n - 1) ts = true := by simpa [okT] using h
    have := okTs_up (n - 1) ts h'.2
    rw [show n - 1 + 1 = n by omega] at this
    simpa [okT] using this
theorem okTs_up : ∀ (n : Nat) (ts : List T), okTs n ts = true → okTs (n + 1) ts = true
  | n, [], _ => rfl
  | n, t :: ts, h => by
    have h' : okT n t = true ∧ okTs n ts = true := by simpa [okTs] using h
    simp only [okTs, okT_up n t h'.1, okTs_up n ts h'.2, Bool.and_self]
end
theorem okT_add {t : T} {k : Nat} (m : Nat) (h : okT k t = true) : okT (m + k) t = true := by
  induction m with
  | zero => simpa using h
  | succ m ih =>
    rw [show m + 1 + k = (m + k) + 1 by omega]
    exact okT_up _ _ ih
theorem toDs_map (l : List T) : toDs l = l.map toD := by
  induction l with
  | nil => rfl
  | cons a l ih => simp only [toDs, ih, List.map_cons]
end FL
namespace FL
open PySem PySem.Spec L2
open PyProof.Rows hiding St
/-! ## what the newer combinators compute, for simp -/
section
variable {ρ : En} {f : M T} {s s' : S} {t : T} {ts : List T} {n : Nat}
@[simp] theorem sFrz_ap : sFrz n ρ = match ρ[n]? with
  | some (some (.lst .ow ts)) => if nols ts = true ∧ nobs ts = true then some (.ok (.nx (ρ.set n (some (.lst .fz ts))))) else none
  | _ => none := rfl
@[simp] theorem eIsC_ap {tab : List (Str × Bool)} : eIsC tab f ρ = ob (f ρ) fun x ρ => match x with
  | .exc c _ => (match tab.lookup c with
    | some b => ok (.bl b) ρ
    | none => none)
  | .non => ok (.bl false) ρ
  | _ => none := rfl
@[simp] theorem eFld_ap {cs : List Str} {x : Str} : eFld cs x f ρ = ob (f ρ) fun y ρ => match y with
  | .exc c fs => if c ∈ cs then (match fs.lookup x with
    | some y => ok (FV.t y) ρ
    | none => none) else none
  | _ => none := rfl
@[simp] theorem sRaise_ap {cls : Str} {fls : List Str} {fs : M (List T)} : sRaise cls fls fs ρ = sb (fs ρ) fun us ρ => match toFVs us with
  | some xs => if us.length = fls.length ∧ us.length ≤ 1000 then some (.error (⟨cls, (fls.zip xs).reverse⟩, ρ)) else none
  | none => none := rfl
@[simp] theorem sRaise0_ap {cls : Str} : sRaise0 cls ρ = some (.error (⟨cls, []⟩, ρ)) := rfl
@[simp] theorem sTry_ap {i : Nat} {sub : Str → Option Bool} : sTry i sub s s' ρ = match s ρ with
  | some (.error (x, ρ')) => (match sub x.cls with
    | some true => (match s' (ρ'.set i (some (.exc x.cls x.fs))) with
      | some (.ok (.nx ρ2)) => some (.ok (.nx (ρ2.set i none)))
      | some (.ok (.bk ρ2)) => some (.ok (.bk (ρ2.set i none)))
      | some (.ok (.ct ρ2)) => some (.ok (.ct (ρ2.set i none)))
      | some (.ok (.rt u)) => some (.ok (.rt u))
      | _ => none)
    | some false => some (.error (x, ρ'))
    | none => none)
  | r => r := rfl
@[simp] theorem sRng3_ap {fs : M (List T)} : sRng3 fs ρ = ob (fs ρ) fun us ρ => match us with
  | [.int i, .int j, .int c] => if c ≠ 0 ∧ c.natAbs < 1073741824 ∧ Builtin.Range.small i j c = true ∧ 0 ≤ Builtin.Range.rangeSize i j c then ok (rngT i c (rngN i j c), []) ρ else none
  | _ => none := rfl
@[simp] theorem ob_err {α β : Type} {e : Ex × En} {k : α → En → Out β} : ob (some (.error e)) k = some (.error e) := rfl
@[simp] theorem sb_err {α : Type} {e : Ex × En} {k : α → En → So} : sb (some (.error e)) k = some (.error e) := rfl
@[simp] theorem toFVs_nil : toFVs [] = some [] := rfl
@[simp] theorem toFVs_non : toFVs (.non :: ts) = (toFVs ts).map (.non :: ·) := by simp only [toFVs, toFV]; cases toFVs ts <;> rfl
@[simp] theorem toFVs_int {i : Int} : toFVs (.int i :: ts) = (toFVs ts).map (.int i :: ·) := by simp only [toFVs, toFV]; cases toFVs ts <;> rfl
@[simp] theorem toFVs_str {x : Str} : toFVs (.str x :: ts) = (toFVs ts).map (.str x :: ·) := by simp only [toFVs, toFV]; cases toFVs ts <;> rfl
@[simp] theorem toFVs_tup {us : List T} : toFVs (.tup us :: ts) = (toFVs us).bind fun xs => (toFVs ts).map (.tup xs :: ·) := by simp only [toFVs, toFV]; cases toFVs us <;> cases toFVs ts <;> rfl
@[simp] theorem FVt_non : FV.t .non = .non := rfl
@[simp] theorem FVt_int {i : Int} : FV.t (.int i) = .int i := rfl
@[simp] theorem FVt_str {x : Str} : FV.t (.str x) = .str x := rfl
@[simp] theorem FVt_tup {xs : List FV} : FV.t (.tup xs) = .tup (FV.ts xs) := rfl
@[simp] theorem FVts_nil : FV.ts [] = [] := rfl
@[simp] theorem FVts_cons {x : FV} {xs : List FV} : FV.ts (x :: xs) = FV.t x :: FV.ts xs := rfl
@[simp] theorem shr_exc {c : Str} {fs : List (Str × FV)} : shr (.exc c fs) = .exc c fs := rfl
@[simp] theorem bor_exc {c : Str} {fs : List (Str × FV)} : bor (.exc c fs) = .exc c fs := rfl
@[simp] theorem nob_exc {c : Str} {fs : List (Str × FV)} : nob (.exc c fs) = true := rfl
@[simp] theorem alw_exc {c : Str} {fs : List (Str × FV)} : alw (.exc c fs) = true := rfl
@[simp] theorem isN_exc {c : Str} {fs : List (Str × FV)} : isN (.exc c fs) = false := rfl
@[simp] theorem shr_emp : shr .emp = .emp := rfl
@[simp] theorem bor_emp : bor .emp = .emp := rfl
@[simp] theorem nob_emp : nob .emp = true := rfl
@[simp] theorem alw_emp : alw .emp = true := rfl
@[simp] theorem isN_emp : isN .emp = false := rfl
@[simp] theorem isN_bl {k : Bool} : isN (.bl k) = false := rfl
@[simp] theorem isE_emp : isE .emp = false := rfl
@[simp] theorem shr_bors {t : T} : shr (bor t) = shr t := go t
where
  go : ∀ t, shr (bor t) = shr t
    | .non => rfl
    | .bl _ => rfl
    | .int _ => rfl
    | .str _ => rfl
    | .exc _ _ => rfl
    | .emp => rfl
    | .vid _ => rfl
    | .tup ts => by show T.tup (shrs (bors ts)) = .tup (shrs ts); rw [gos ts]
    | .lst .sh ts => by show T.lst .sh (shrs (bors ts)) = .lst .sh (shrs ts); rw [gos ts]
    | .lst .bo ts => by show T.lst .sh (shrs (bors ts)) = .lst .sh (shrs ts); rw [gos ts]
    | .lst .ow ts => by show T.lst .sh (shrs (bors ts)) = .lst .sh (shrs ts); rw [gos ts]
    | .lst (.pn p) ts => by show T.lst .sh (shrs (bors ts)) = .lst .sh (shrs ts); rw [gos ts]
    | .lst .fz ts => by show T.lst .fz (shrs (bors ts)) = .lst .fz (shrs ts); rw [gos ts]
  gos : ∀ ts, shrs (bors ts) = shrs ts
    | [] => rfl
    | t :: ts => by show shr (bor t) :: shrs (bors ts) = shr t :: shrs ts; rw [go t, gos ts]
@[simp] theorem teq_bb {a b : Bool} : teq (.bl a) (.bl b) = (a == b) := by simp [teq]
@[simp] theorem teq_bi {a : Bool} {j : Int} : teq (.bl a) (.int j) = ((if a then 1 else 0) == j) := by simp [teq]
@[simp] theorem teq_ib {i : Int} {b : Bool} : teq (.int i) (.bl b) = (i == (if b then 1 else 0)) := by simp [teq]
@[simp] theorem csi_int : shr ∘ T.int = T.int := rfl
@[simp] theorem cbi_int : bor ∘ T.int = T.int := rfl
@[simp] theorem cni_int : nob ∘ T.int = fun _ => true := rfl
theorem isTy_intX (t : T) : isTy "int" t = (match t with | .int _ => true | .bl _ => true | _ => false) := isTy_int t
@[simp] theorem str_beq_self {x : Str} : (x == x) = true := by simp
end
end FL
namespace FL
open PySem PySem.Spec L2
open PyProof.Rows hiding St
/-! ## two names for one list: what is computed -/
section
variable {ρ : En} {f fi : M T} {s : S} {p : M Pl} {i k : Nat} {a b : Addr} {t u : T} {ts : List T} {o : Ow} {r : List Nat}
@[simp] theorem shr_pn : shr (.lst (.pn b) ts) = .lst .sh (ts.map shr) := by rw [← shrs_map]; rfl
@[simp] theorem bor_pn : bor (.lst (.pn b) ts) = .lst .bo (ts.map bor) := by rw [← bors_map]; rfl
@[simp] theorem nob_pn : nob (.lst (.pn b) ts) = ts.all nob := by
  rw [← nobs_all]
  show ((Ow.pn b != .bo) && nobs ts) = _
  simp
theorem sPin_ap : sPin p i s ρ = sb (p ρ) fun ip ρ1 => match atP ρ1 ip with
  | some (.lst (.pn a) us) => s (ρ1.set i (some (.vid a)))
  | some (.lst .ow us) => allA fun a => s ((pinP ρ1 ip a us).set i (some (.vid a)))
  | _ => none := rfl
/-- the list at the place gets a second name -/
theorem sPin_new {ip : Pl} {ρ1 : En} {us : List T} {x : So} (h : p ρ = ok ip ρ1) (h2 : atP ρ1 ip = some (.lst .ow us)) (h3 : ∀ a, s ((pinP ρ1 ip a us).set i (some (.vid a))) = x) : sPin p i s ρ = x := by
  rw [sPin_ap, h]
  show (match atP ρ1 ip with
    | some (.lst (.pn a) us) => s (ρ1.set i (some (.vid a)))
    | some (.lst .ow us) => allA fun a => s ((pinP ρ1 ip a us).set i (some (.vid a)))
    | _ => none) = x
  rw [h2]
  exact allA_eq h3
@[simp] theorem eMoveU_ap : eMoveU i ρ = match ρ[i]? with | some (some t) => ok (unp t) (ρ.set i none) | _ => none := rfl
@[simp] theorem sIns_ap : sIns p fi f ρ = sb (p ρ) fun ip ρ => if (ownP ρ ip).isSome = true then (sb (fi ρ) fun k ρ => sb (f ρ) fun y ρ => match k, ownP ρ ip with
  | .int k, some us => if nob y = true ∧ us.length < 16777216 ∧ 0 ≤ k ∧ k ≤ 16777216 then some (.ok (.nx (putP ρ ip (us.take k.toNat ++ [y] ++ us.drop k.toNat)))) else none
  | _, _ => none) else none := rfl
@[simp] theorem sPopAt_ap : sPopAt p fi ρ = sb (p ρ) fun ip ρ => if (ownP ρ ip).isSome = true then (sb (fi ρ) fun k ρ => match k, ownP ρ ip with
  | .int k, some us => (match ixN us.length k with
    | some j => if j < us.length ∧ us.length ≤ 16777216 then some (.ok (.nx (putP ρ ip (us.eraseIdx j)))) else none
    | none => none)
  | _, _ => none) else none := rfl
@[simp] theorem pAli_ap : pAli i ρ = match aliP i ρ with | some ip => ok ip ρ | none => none := rfl
@[simp] theorem eAli_ap : eAli i ρ = match aliP i ρ with | some ip => (match atP ρ ip with | some u => ok (bor u) ρ | none => none) | none => none := rfl
@[simp] theorem findE_nil : findE a i [] = none := rfl
@[simp] theorem findE_none {ρ : En} : findE a i (none :: ρ) = findE a (i + 1) ρ := rfl
@[simp] theorem findE_some {ρ : En} : findE a i (some t :: ρ) = match findP a t with | some p => some (i, p) | none => findE a (i + 1) ρ := rfl
@[simp] theorem findP_int {x : Int} : findP a (.int x) = none := rfl
@[simp] theorem findP_bl {x : Bool} : findP a (.bl x) = none := rfl
@[simp] theorem findP_str {x : Str} : findP a (.str x) = none := rfl
@[simp] theorem findP_non : findP a .non = none := rfl
@[simp] theorem findP_emp : findP a .emp = none := rfl
@[simp] theorem findP_vid : findP a (.vid b) = none := rfl
@[simp] theorem findP_sh : findP a (.lst .sh ts) = none := rfl
@[simp] theorem findP_bo : findP a (.lst .bo ts) = none := rfl
@[simp] theorem findP_fz : findP a (.lst .fz ts) = none := rfl
theorem findPs_none : ∀ {ts : List T} {k : Nat}, (∀ t ∈ ts, findP a t = none) → findPs a k ts = none
  | [], k, h => rfl
  | t :: ts, k, h => by
    unfold findPs
    rw [h t (by simp)]
    exact findPs_none fun x hx => h x (by simp [hx])
theorem findP_ow (h : ∀ t ∈ ts, findP a t = none) : findP a (.lst .ow ts) = none := findPs_none h
/-- an item that was put among others -/
theorem findPs_set : ∀ {ts : List T} {k i : Nat} {r : List Nat}, (∀ t ∈ ts, findP a t = none) → i < ts.length → findP a u = some r → findPs a k (ts.set i u) = some ((k + i) :: r)
  | [], k, i, r, _, h, _ => by simp at h
  | t :: ts, k, 0, r, h, _, hu => by
    show (match findP a u with | some p => some (k :: p) | none => findPs a (k + 1) ts) = _
    rw [hu]
    rfl
  | t :: ts, k, i + 1, r, h, hl, hu => by
    show (match findP a t with | some p => some (k :: p) | none => findPs a (k + 1) (ts.set i u)) = _
    rw [h t (by simp)]
    show findPs a (k + 1) (ts.set i u) = _
    rw [findPs_set (fun x hx => h x (by simp [hx])) (by simpa using hl) hu, show k + 1 + i = k + (i + 1) by omega]
theorem findP_own (h : ∀ t ∈ ts, findP a t = none) (hl : i < ts.length) (hu : findP a u = some r) : findP a (.lst .ow (ts.set i u)) = some (i :: r) := by
  show findPs a 0 (ts.set i u) = _
  rw [findPs_set h hl hu, Nat.zero_add]
theorem findP_pin (h : ∀ t ∈ ts, findP a t = none) : findP a (.lst (.pn a) ts) = some [] := by
  show (match findPs a 0 ts with | some p => some p | none => if a = a then some [] else none) = _
  rw [findPs_none h]
  exact if_pos rfl
theorem findP_pin2 (h : ∀ t ∈ ts, findP a t = none) (hl : i < ts.length) (hu : findP a u = some r) : findP a (.lst (.pn b) (ts.set i u)) = some (i :: r) := by
  show (match findPs a 0 (ts.set i u) with | some p => some p | none => if b = a then some [] else none) = _
  rw [findPs_set h hl hu, Nat.zero_add]
@[simp] theorem getA_nil : getA [] t = some t := rfl
@[simp] theorem getA_ow : getA (k :: r) (.lst .ow ts) = (ts[k]?).bind (getA r) := rfl
@[simp] theorem getA_pn : getA (k :: r) (.lst (.pn b) ts) = (ts[k]?).bind (getA r) := rfl
@[simp] theorem setA_nil : setA [] t u = u := rfl
theorem setA_l (h : ts[k]? = some t) : setA (k :: r) (.lst o ts) u = .lst o (ts.set k (setA r t u)) := by
  simp [setA, h]
theorem atP_p {j : Nat} (h : ρ[j]? = some (some t)) : atP ρ (j, r) = getA r t := by
  unfold atP
  rw [h]
theorem unps_map : ∀ ts : List T, unps ts = ts.map unp
  | [] => rfl
  | t :: ts => by show unp t :: unps ts = _; rw [unps_map ts]; rfl
@[simp] theorem unp_ow : unp (.lst .ow ts) = .lst .ow (ts.map unp) := by rw [← unps_map]; rfl
@[simp] theorem unp_pn : unp (.lst (.pn b) ts) = .lst .ow (ts.map unp) := by rw [← unps_map]; rfl
@[simp] theorem unp_int {x : Int} : unp (.int x) = .int x := rfl
@[simp] theorem unp_bl {x : Bool} : unp (.bl x) = .bl x := rfl
@[simp] theorem unp_str {x : Str} : unp (.str x) = .str x := rfl
@[simp] theorem unp_non : unp .non = .non := rfl
@[simp] theorem unp_tup : unp (.tup ts) = .tup (ts.map unp) := by rw [← unps_map]; rfl
end
end FL
namespace Rh
open PySem L2
noncomputable section
def B_to_word : FL.S := (FL.sSeq (FL.sIf (FL.tb (FL.eOp FL.gIsN (FL.eBor 0) (FL.eK .non)))
  (FL.sRet (FL.eK (.str "-")))
  FL.sNext)
  (FL.sRet (FL.eCb FL.gStr (FL.aCons (FL.eBor 0) FL.aNil))))
def F_to_word : FL.DF := FL.dfOf 1 B_to_word
def B__law_cell_at : FL.S := (FL.sSeq (FL.sIf (FL.tb (FL.eOp FL.gLt (FL.eBor 1) (FL.eCb FL.gLen (FL.aCons (FL.eBor 0) FL.aNil))))
  (FL.sRet (FL.eOp FL.gIx (FL.eBor 0) (FL.eBor 1)))
  FL.sNext)
  (FL.sRet (FL.eK (.int 0))))
def F__law_cell_at : FL.DF := FL.dfOf 2 B__law_cell_at
def L__law_digits_1 : FL.S := (FL.sIf (FL.tAn (FL.tb (FL.eBor 4)) (FL.tb (FL.eOp FL.gGt (FL.eBor 3) (FL.eK (.int 0)))))
  (FL.sSeq (FL.sApp (FL.pVar 6) (FL.eOp FL.gMod (FL.eBor 3) (FL.eBor 8)))
  (FL.sAsg (FL.eOp FL.gDiv (FL.eBor 3) (FL.eBor 8)) (FL.gN 3)))
  (FL.sSeq (FL.sAsg (FL.eOp FL.gMod (FL.eOp FL.gPow (FL.eOp FL.gAdd (FL.eBor 5) (FL.eOp FL.gMul (FL.eK (.int 104729)) (FL.eOp FL.gAdd (FL.eBor 7) (FL.eK (.int 1))))) (FL.eK (.int 2))) (FL.eK (.int 2147483587))) (FL.gN 5))
  (FL.sApp (FL.pVar 6) (FL.eOp FL.gMod (FL.eOp FL.gDiv (FL.eBor 5) (FL.eK (.int 16))) (FL.eBor 8)))))
def B__law_digits : FL.S := (FL.sSeq (FL.sAsg (FL.eCb FL.gAbs (FL.aCons (FL.eBor 0) FL.aNil)) (FL.gN 3))
  (FL.sSeq (FL.sAsg (FL.eOp FL.gGe (FL.eBor 3) (FL.eOp FL.gPow (FL.eK (.int 10)) (FL.eK (.int 18)))) (FL.gN 4))
  (FL.sSeq (FL.sAsg (FL.eOp FL.gAdd (FL.eOp FL.gMod (FL.eBor 3) (FL.eK (.int 2147483647))) (FL.eOp FL.gMul (FL.eK (.int 7919)) (FL.eBor 1))) (FL.gN 5))
  (FL.sSeq (FL.sAsg (FL.eLst FL.aNil) (FL.gN 6))
  (FL.sSeq (FL.sFor (FL.sEn (FL.eMove 2)) (FL.gT 2 (FL.gsCons (FL.gN 7) (FL.gsCons (FL.gN 8) FL.gsNil)))
  L__law_digits_1)
  (FL.sRet (FL.eMove 6)))))))
def F__law_digits : FL.DF := FL.dfOf 9 B__law_digits
def B__law_name : FL.S := (FL.sSeq (FL.sAsg (FL.eOp FL.gIx (FL.eK (.str "abcdefghijklmnopqrstuvwxyz")) (FL.eOp FL.gMod (FL.eOp FL.gAdd (FL.eBor 0) (FL.eOp FL.gMul (FL.eK (.int 7)) (FL.eBor 1))) (FL.eK (.int 26)))) (FL.gN 2))
  (FL.sSeq (FL.sAsg (FL.eOp FL.gIx (FL.eLst (FL.aCons (FL.eK (.str "")) (FL.aCons (FL.eK (.str "x")) (FL.aCons (FL.eK (.str "zz")) (FL.aCons (FL.eK (.str "qqqqqqq")) FL.aNil))))) (FL.eOp FL.gMod (FL.eOp FL.gDiv (FL.eBor 0) (FL.eK (.int 26))) (FL.eK (.int 4)))) (FL.gN 3))
  (FL.sRet (FL.eOp FL.gIx (FL.eLst (FL.aCons (FL.eOp FL.gAdd (FL.eUse 3) (FL.eUse 2)) (FL.aCons (FL.eOp FL.gAdd (FL.eUse 2) (FL.eUse 3)) FL.aNil))) (FL.eOp FL.gMod (FL.eOp FL.gDiv (FL.eBor 0) (FL.eK (.int 104))) (FL.eK (.int 2)))))))
def F__law_name : FL.DF := FL.dfOf 4 B__law_name
def E__law_to_row_1 : FL.M FL.T := (FL.eOp FL.gMod (FL.eOp FL.gAdd (FL.eOp FL.gIx (FL.eBor 0) (FL.eK (.int 4))) (FL.eOp FL.gMul (FL.eBor 9) (FL.eOp FL.gAdd (FL.eOp FL.gIx (FL.eBor 0) (FL.eK (.int 5))) (FL.eK (.int 1))))) (FL.eOp FL.gAdd (FL.eBor 2) (FL.eK (.int 1))))
def E__law_to_row_2 : FL.M FL.T := (FL.eAn (FL.eOp FL.gEq (FL.eOp FL.gIx (FL.eBor 0) (FL.eK (.int 0))) (FL.eK (.int 3))) (FL.eOp FL.gEq (FL.eOp FL.gMod (FL.eOp FL.gDiv (FL.eOp FL.gIx (FL.eBor 0) (FL.eK (.int 6))) (FL.eOp FL.gIx (FL.eLst (FL.aCons (FL.eK (.int 1)) (FL.aCons (FL.eK (.int 2)) (FL.aCons (FL.eK (.int 4)) (FL.aCons (FL.eK (.int 8)) (FL.aCons (FL.eK (.int 16)) (FL.aCons (FL.eK (.int 32)) FL.aNil))))))) (FL.eBor 9))) (FL.eK (.int 2))) (FL.eK (.int 1))))
def E__law_to_row_3 : FL.M FL.T := (FL.eOp FL.gIx (FL.eLst (FL.aCons (FL.eOp FL.gIx (FL.eBor 4) (FL.eBor 9)) (FL.aCons (FL.eK .non) FL.aNil))) (FL.eCb FL.gInt (FL.aCons (FL.eOp FL.gIx (FL.eBor 8) (FL.eBor 9)) FL.aNil)))
def B__law_to_row : FL.S := (FL.sSeq (FL.sAsg (FL.eLc (FL.sRng1 (FL.aCons (FL.eK (.int 8)) FL.aNil)) [9] (FL.gN 9) FL.tYesF E__law_to_row_1) (FL.gN 4))
  (FL.sSeq (FL.sAsg (FL.eOp FL.gMod (FL.eOp FL.gIx (FL.eBor 0) (FL.eK (.int 1))) (FL.eCb FL.gLen (FL.aCons (FL.eBor 1) FL.aNil))) (FL.gN 5))
  (FL.sSeq (FL.sAsg (FL.eOp FL.gMod (FL.eOp FL.gIx (FL.eBor 0) (FL.eK (.int 2))) (FL.eOp FL.gIx (FL.eBor 1) (FL.eBor 5))) (FL.gN 6))
  (FL.sSeq (FL.sAsg (FL.eOp FL.gMod (FL.eOp FL.gIx (FL.eBor 0) (FL.eK (.int 3))) (FL.eOp FL.gIx (FL.eBor 1) (FL.eBor 5))) (FL.gN 7))
  (FL.sSeq (FL.sIf (FL.tb (FL.eOp FL.gEq (FL.eOp FL.gIx (FL.eBor 0) (FL.eK (.int 0))) (FL.eK (.int 0))))
  (FL.sRet (FL.eTup (FL.aCons (FL.eK (.str "put")) (FL.aCons (FL.eUse 5) (FL.aCons (FL.eUse 6) (FL.aCons (FL.eOp FL.gIx (FL.eBor 4) (FL.eK (.int 0))) FL.aNil))))))
  FL.sNext)
  (FL.sSeq (FL.sIf (FL.tb (FL.eOp FL.gEq (FL.eOp FL.gIx (FL.eBor 0) (FL.eK (.int 0))) (FL.eK (.int 1))))
  (FL.sRet (FL.eTup (FL.aCons (FL.eK (.str "swap")) (FL.aCons (FL.eUse 5) (FL.aCons (FL.eMove 6) (FL.aCons (FL.eUse 7) (FL.aCons (FL.eOp FL.gIx (FL.eBor 4) (FL.eK (.int 0))) FL.aNil)))))))
  FL.sNext)
  (FL.sSeq (FL.sIf (FL.tb (FL.eOp FL.gLt (FL.eOp FL.gIx (FL.eBor 0) (FL.eK (.int 0))) (FL.eK (.int 4))))
  (FL.sSeq (FL.sAsg (FL.eLc (FL.sRng1 (FL.aCons (FL.eK (.int 6)) FL.aNil)) [9] (FL.gN 9) FL.tYesF E__law_to_row_2) (FL.gN 8))
  (FL.sRet (FL.eTup (FL.aCons (FL.eK (.str "ask")) (FL.aCons (FL.eUse 5) (FL.aCons (FL.eCb FL.gTuple (FL.aCons (FL.eLc (FL.sRng1 (FL.aCons (FL.eOp FL.gIx (FL.eBor 1) (FL.eBor 5)) FL.aNil)) [9] (FL.gN 9) FL.tYesF E__law_to_row_3) FL.aNil)) FL.aNil))))))
  FL.sNext)
  (FL.sSeq (FL.sIf (FL.tb (FL.eOp FL.gEq (FL.eOp FL.gIx (FL.eBor 0) (FL.eK (.int 0))) (FL.eK (.int 4))))
  (FL.sRet (FL.eTup (FL.aCons (FL.eK (.str "any")) (FL.aCons (FL.eCb FL.gTuple (FL.aCons (FL.eSl FL.gSl (FL.eBor 4) FL.oNone (FL.oSome (FL.eOp FL.gAdd (FL.eK (.int 1)) (FL.eOp FL.gMod (FL.eOp FL.gIx (FL.eBor 0) (FL.eK (.int 2))) (FL.eK (.int 4)))))) FL.aNil)) FL.aNil))))
  FL.sNext)
  (FL.sSeq (FL.sIf (FL.tb (FL.eOp FL.gEq (FL.eOp FL.gIx (FL.eBor 0) (FL.eK (.int 0))) (FL.eK (.int 5))))
  (FL.sRet (FL.eTup (FL.aCons (FL.eK (.str "call")) (FL.aCons (FL.eOp FL.gIx (FL.eBor 0) (FL.eK (.int 7))) (FL.aCons (FL.eOp FL.gIx (FL.eBor 4) (FL.eK (.int 0))) FL.aNil)))))
  FL.sNext)
  (FL.sSeq (FL.sIf (FL.tb (FL.eOp FL.gLe (FL.eOp FL.gIx (FL.eBor 1) (FL.eBor 5)) (FL.eBor 3)))
  (FL.sRet (FL.eTup (FL.aCons (FL.eK (.str "put")) (FL.aCons (FL.eUse 5) (FL.aCons (FL.eMove 7) (FL.aCons (FL.eOp FL.gIx (FL.eBor 4) (FL.eK (.int 0))) FL.aNil))))))
  FL.sNext)
  (FL.sRet (FL.eTup (FL.aCons (FL.eOp FL.gIx (FL.eLst (FL.aCons (FL.eK (.str "take")) (FL.aCons (FL.eK (.str "give")) FL.aNil))) (FL.eOp FL.gSubI (FL.eOp FL.gIx (FL.eBor 0) (FL.eK (.int 0))) (FL.eK (.int 6)))) (FL.aCons (FL.eMove 5) (FL.aCons (FL.eOp FL.gIx (FL.eBor 4) (FL.eK (.int 0))) FL.aNil)))))))))))))))
def F__law_to_row : FL.DF := FL.dfOf 10 B__law_to_row
def B__law_menu : FL.S := (FL.sRet (FL.eLst (FL.aCons (FL.eTup (FL.aCons (FL.eK (.int 2)) FL.aNil)) (FL.aCons (FL.eTup (FL.aCons (FL.eK (.int 3)) FL.aNil)) (FL.aCons (FL.eTup (FL.aCons (FL.eK (.int 4)) FL.aNil)) (FL.aCons (FL.eTup (FL.aCons (FL.eK (.int 5)) FL.aNil)) (FL.aCons (FL.eTup (FL.aCons (FL.eK (.int 6)) FL.aNil)) (FL.aCons (FL.eTup (FL.aCons (FL.eK (.int 2)) (FL.aCons (FL.eK (.int 2)) FL.aNil))) (FL.aCons (FL.eTup (FL.aCons (FL.eK (.int 2)) (FL.aCons (FL.eK (.int 3)) FL.aNil))) (FL.aCons (FL.eTup (FL.aCons (FL.eK (.int 3)) (FL.aCons (FL.eK (.int 2)) FL.aNil))) (FL.aCons (FL.eTup (FL.aCons (FL.eK (.int 2)) (FL.aCons (FL.eK (.int 4)) FL.aNil))) (FL.aCons (FL.eTup (FL.aCons (FL.eK (.int 4)) (FL.aCons (FL.eK (.int 2)) FL.aNil))) (FL.aCons (FL.eTup (FL.aCons (FL.eK (.int 2)) (FL.aCons (FL.eK (.int 2)) (FL.aCons (FL.eK (.int 2)) FL.aNil)))) FL.aNil)))))))))))))
def F__law_menu : FL.DF := FL.dfOf 0 B__law_menu
def B__law_to : FL.S := (FL.sSeq (FL.sIf (FL.tb (FL.eOp FL.gIsN (FL.eBor 0) (FL.eK .non)))
  (FL.sRet (FL.eK (.str "-")))
  FL.sNext)
  (FL.sRet (FL.eCb FL.gStr (FL.aCons (FL.eBor 0) FL.aNil))))
def F__law_to : FL.DF := FL.dfOf 1 B__law_to
def E_row_text_1 : FL.M FL.T := (FL.eCall 1 F_to_word (FL.aCons (FL.eBor 3) FL.aNil))
def L_row_text_1 : FL.S := (FL.sIf (FL.tb (FL.eIsT "tuple" (FL.eBor 2)))
  (FL.sExt (FL.pVar 1) (FL.eLc (FL.sAny (FL.eMove 2)) [3] (FL.gN 3) FL.tYesF E_row_text_1))
  (FL.sApp (FL.pVar 1) (FL.eCb FL.gStrU (FL.aCons (FL.eBor 2) FL.aNil))))
def B_row_text : FL.S := (FL.sSeq (FL.sAsg (FL.eLst (FL.aCons (FL.eOp FL.gIx (FL.eBor 0) (FL.eK (.int 0))) FL.aNil)) (FL.gN 1))
  (FL.sSeq (FL.sFor (FL.sAny (FL.eSl FL.gSl (FL.eBor 0) (FL.oSome (FL.eK (.int 1))) FL.oNone)) (FL.gN 2)
  L_row_text_1)
  (FL.sRet (FL.eMb FL.isS FL.gJoin (FL.eK (.str " ")) (FL.aCons (FL.eBor 1) FL.aNil)))))
def F_row_text : FL.DF := FL.dfOf 4 B_row_text
def E__law_plan_1 : FL.M FL.T := (FL.eOp FL.gMod (FL.eOp FL.gIx (FL.eBor 5) (FL.eOp FL.gAdd (FL.eK (.int 3)) (FL.eBor 11))) (FL.eOp FL.gIx (FL.eBor 6) (FL.eBor 11)))
def E__law_plan_2 : FL.M FL.T := (FL.eOp FL.gMod (FL.eOp FL.gIx (FL.eBor 5) (FL.eOp FL.gAdd (FL.eK (.int 6)) (FL.eBor 11))) (FL.eBor 8))
def E__law_plan_3 : FL.M FL.T := (FL.eCall 4 F__law_to_row (FL.aCons (FL.eSl FL.gSl (FL.eBor 12) (FL.oSome (FL.eOp FL.gAdd (FL.eK (.int 1)) (FL.eOp FL.gMul (FL.eK (.int 8)) (FL.eBor 14)))) (FL.oSome (FL.eOp FL.gAdd (FL.eK (.int 9)) (FL.eOp FL.gMul (FL.eK (.int 8)) (FL.eBor 14))))) (FL.aCons (FL.eBor 6) (FL.aCons (FL.eBor 13) (FL.aCons (FL.eCb FL.gLen (FL.aCons (FL.eBor 9) FL.aNil)) FL.aNil)))))
def L__law_plan_1 : FL.S := (FL.sSeq (FL.sAsg (FL.eCall 3 F__law_digits (FL.aCons (FL.eCall 2 F__law_cell_at (FL.aCons (FL.eBor 0) (FL.aCons (FL.eOp FL.gAdd (FL.eK (.int 1)) (FL.eBor 11)) FL.aNil))) (FL.aCons (FL.eOp FL.gAdd (FL.eK (.int 1)) (FL.eBor 11)) (FL.aCons (FL.eOp FL.gAdd (FL.eLst (FL.aCons (FL.eUse 2) FL.aNil)) (FL.eOp FL.gMul (FL.eLst (FL.aCons (FL.eK (.int 8)) (FL.aCons (FL.eK (.int 3)) (FL.aCons (FL.eK (.int 6)) (FL.aCons (FL.eK (.int 6)) (FL.aCons (FL.eK (.int 9)) (FL.aCons (FL.eK (.int 8)) (FL.aCons (FL.eK (.int 64)) (FL.aCons (FL.eUse 8) FL.aNil))))))))) (FL.eBor 2))) FL.aNil)))) (FL.gN 12))
  (FL.sSeq (FL.sAsg (FL.eOp FL.gAdd (FL.eK (.int 1)) (FL.eOp FL.gIx (FL.eBor 12) (FL.eK (.int 0)))) (FL.gN 13))
  (FL.sApp (FL.pVar 10) (FL.eLc (FL.sRng1 (FL.aCons (FL.eBor 13) FL.aNil)) [14] (FL.gN 14) FL.tYesF E__law_plan_3))))
def B__law_plan : FL.S := (FL.sSeq (FL.sAsg (FL.eCall 3 F__law_digits (FL.aCons (FL.eCall 2 F__law_cell_at (FL.aCons (FL.eBor 0) (FL.aCons (FL.eK (.int 0)) FL.aNil))) (FL.aCons (FL.eK (.int 0)) (FL.aCons (FL.eLst (FL.aCons (FL.eCb FL.gLen (FL.aCons (FL.eBor 4) FL.aNil)) (FL.aCons (FL.eMove 1) (FL.aCons (FL.eMove 3) (FL.aCons (FL.eK (.int 6)) (FL.aCons (FL.eK (.int 6)) (FL.aCons (FL.eK (.int 6)) (FL.aCons (FL.eK (.int 6)) (FL.aCons (FL.eK (.int 6)) (FL.aCons (FL.eK (.int 6)) FL.aNil)))))))))) FL.aNil)))) (FL.gN 5))
  (FL.sSeq (FL.sAsg (FL.eOp FL.gIx (FL.eBor 4) (FL.eOp FL.gIx (FL.eBor 5) (FL.eK (.int 0)))) (FL.gN 6))
  (FL.sSeq (FL.sAsg (FL.eLc (FL.sRng1 (FL.aCons (FL.eCb FL.gLen (FL.aCons (FL.eBor 6) FL.aNil)) FL.aNil)) [11] (FL.gN 11) FL.tYesF E__law_plan_1) (FL.gN 7))
  (FL.sSeq (FL.sAsg (FL.eOp FL.gAdd (FL.eK (.int 1)) (FL.eOp FL.gIx (FL.eBor 5) (FL.eK (.int 1)))) (FL.gN 8))
  (FL.sSeq (FL.sAsg (FL.eLc (FL.sRng1 (FL.aCons (FL.eOp FL.gAdd (FL.eK (.int 1)) (FL.eOp FL.gIx (FL.eBor 5) (FL.eK (.int 2)))) FL.aNil)) [11] (FL.gN 11) FL.tYesF E__law_plan_2) (FL.gN 9))
  (FL.sSeq (FL.sAsg (FL.eLst FL.aNil) (FL.gN 10))
  (FL.sSeq (FL.sFor (FL.sRng1 (FL.aCons (FL.eBor 8) FL.aNil)) (FL.gN 11)
  L__law_plan_1)
  (FL.sRet (FL.eTup (FL.aCons (FL.eMove 6) (FL.aCons (FL.eMove 7) (FL.aCons (FL.eMove 10) (FL.aCons (FL.eMove 9) FL.aNil)))))))))))))
def F__law_plan : FL.DF := FL.dfOf 15 B__law_plan
def E__law_program_1 : FL.M FL.T := (FL.eTup (FL.aCons (FL.eCall 2 F__law_name (FL.aCons (FL.eOp FL.gMod (FL.eBor 1) (FL.eK (.int 208))) (FL.aCons (FL.eBor 9) FL.aNil))) (FL.aCons (FL.eOp FL.gIx (FL.eBor 2) (FL.eBor 9)) (FL.aCons (FL.eOp FL.gIx (FL.eBor 3) (FL.eBor 9)) FL.aNil))))
def E__law_program_2 : FL.M FL.T := (FL.eCall 2 F__law_name (FL.aCons (FL.eOp FL.gMod (FL.eOp FL.gDiv (FL.eBor 1) (FL.eK (.int 208))) (FL.eK (.int 208))) (FL.aCons (FL.eBor 9) FL.aNil)))
def L__law_program_1 : FL.S := (FL.sSeq (FL.sIf (FL.tb (FL.eOp FL.gEq (FL.eOp FL.gIx (FL.eBor 12) (FL.eK (.int 0))) (FL.eK (.str "call"))))
  (FL.sAsg (FL.eTup (FL.aCons (FL.eK (.str "call")) (FL.aCons (FL.eOp FL.gIx (FL.eBor 7) (FL.eOp FL.gIx (FL.eBor 12) (FL.eK (.int 1)))) (FL.aCons (FL.eOp FL.gIx (FL.eBor 12) (FL.eK (.int 2))) FL.aNil)))) (FL.gN 12))
  (FL.sIf (FL.tb (FL.eOp FL.gNe (FL.eOp FL.gIx (FL.eBor 12) (FL.eK (.int 0))) (FL.eK (.str "any"))))
  (FL.sAsg (FL.eOp FL.gAdd (FL.eTup (FL.aCons (FL.eOp FL.gIx (FL.eBor 12) (FL.eK (.int 0))) (FL.aCons (FL.eOp FL.gIx (FL.eOp FL.gIx (FL.eBor 6) (FL.eOp FL.gIx (FL.eBor 12) (FL.eK (.int 1)))) (FL.eK (.int 0))) FL.aNil))) (FL.eSl FL.gSl (FL.eBor 12) (FL.oSome (FL.eK (.int 2))) FL.oNone)) (FL.gN 12))
  FL.sNext))
  (FL.sApp (FL.pVar 11) (FL.eMove 12)))
def L__law_program_2 : FL.S := (FL.sSeq (FL.sAsg (FL.eLst FL.aNil) (FL.gN 11))
  (FL.sSeq (FL.sFor (FL.sAny (FL.eUse 10)) (FL.gN 12)
  L__law_program_1)
  (FL.sApp (FL.pVar 8) (FL.eTup (FL.aCons (FL.eOp FL.gIx (FL.eBor 7) (FL.eBor 9)) (FL.aCons (FL.eMove 11) FL.aNil))))))
def E__law_program_3 : FL.M FL.T := (FL.eTup (FL.aCons (FL.eCall 2 F__law_name (FL.aCons (FL.eOp FL.gMod (FL.eOp FL.gDiv (FL.eBor 1) (FL.eK (.int 43264))) (FL.eK (.int 208))) (FL.aCons (FL.eBor 9) FL.aNil))) (FL.aCons (FL.eOp FL.gIx (FL.eBor 7) (FL.eBor 10)) FL.aNil)))
def B__law_program : FL.S := (FL.sSeq (FL.sAsg (FL.eMove 0) (FL.gT 4 (FL.gsCons (FL.gN 2) (FL.gsCons (FL.gN 3) (FL.gsCons (FL.gN 4) (FL.gsCons (FL.gN 5) FL.gsNil))))))
  (FL.sSeq (FL.sAsg (FL.eLc (FL.sRng1 (FL.aCons (FL.eCb FL.gLen (FL.aCons (FL.eBor 2) FL.aNil)) FL.aNil)) [9] (FL.gN 9) FL.tYesF E__law_program_1) (FL.gN 6))
  (FL.sSeq (FL.sAsg (FL.eLc (FL.sRng1 (FL.aCons (FL.eCb FL.gLen (FL.aCons (FL.eBor 4) FL.aNil)) FL.aNil)) [9] (FL.gN 9) FL.tYesF E__law_program_2) (FL.gN 7))
  (FL.sSeq (FL.sAsg (FL.eLst FL.aNil) (FL.gN 8))
  (FL.sSeq (FL.sFor (FL.sEn (FL.eMove 4)) (FL.gT 2 (FL.gsCons (FL.gN 9) (FL.gsCons (FL.gN 10) FL.gsNil)))
  L__law_program_2)
  (FL.sRet (FL.eTup (FL.aCons (FL.eMove 6) (FL.aCons (FL.eMove 8) (FL.aCons (FL.eLc (FL.sEn (FL.eMove 5)) [9, 10] (FL.gT 2 (FL.gsCons (FL.gN 9) (FL.gsCons (FL.gN 10) FL.gsNil))) FL.tYesF E__law_program_3) FL.aNil))))))))))
def F__law_program : FL.DF := FL.dfOf 13 B__law_program
def E__law_words_1 : FL.M FL.T := (FL.eCall 1 F__law_to (FL.aCons (FL.eBor 3) FL.aNil))
def L__law_words_1 : FL.S := (FL.sIf (FL.tb (FL.eIsT "tuple" (FL.eBor 2)))
  (FL.sAsg (FL.eOp FL.gAdd (FL.eUse 1) (FL.eLc (FL.sAny (FL.eMove 2)) [3] (FL.gN 3) FL.tYesF E__law_words_1)) (FL.gN 1))
  (FL.sApp (FL.pVar 1) (FL.eCb FL.gStrU (FL.aCons (FL.eBor 2) FL.aNil))))
def B__law_words : FL.S := (FL.sSeq (FL.sAsg (FL.eLst (FL.aCons (FL.eOp FL.gIx (FL.eBor 0) (FL.eK (.int 0))) FL.aNil)) (FL.gN 1))
  (FL.sSeq (FL.sFor (FL.sAny (FL.eSl FL.gSl (FL.eBor 0) (FL.oSome (FL.eK (.int 1))) FL.oNone)) (FL.gN 2)
  L__law_words_1)
  (FL.sRet (FL.eMb FL.isS FL.gJoin (FL.eK (.str " ")) (FL.aCons (FL.eBor 1) FL.aNil)))))
def F__law_words : FL.DF := FL.dfOf 4 B__law_words
def E_written_1 : FL.M FL.T := (FL.eMb FL.isS FL.gJoin (FL.eK (.str " ")) (FL.aCons (FL.eLst (FL.aCons (FL.eK (.str "box")) (FL.aCons (FL.eUse 5) (FL.aCons (FL.eCb FL.gStr (FL.aCons (FL.eBor 8) FL.aNil)) (FL.aCons (FL.eCb FL.gStr (FL.aCons (FL.eBor 7) FL.aNil)) FL.aNil))))) FL.aNil))
def E_written_2 : FL.M FL.T := (FL.eCall 1 F_row_text (FL.aCons (FL.eBor 10) FL.aNil))
def L_written_1 : FL.S := (FL.sSeq (FL.sApp (FL.pVar 4) (FL.eOp FL.gAdd (FL.eK (.str "proc ")) (FL.eUse 5)))
  (FL.sExt (FL.pVar 4) (FL.eLc (FL.sAny (FL.eMove 6)) [10] (FL.gN 10) FL.tYesF E_written_2)))
def E_written_3 : FL.M FL.T := (FL.eOp FL.gAdd (FL.eOp FL.gAdd (FL.eOp FL.gAdd (FL.eK (.str "hand ")) (FL.eUse 5)) (FL.eK (.str " "))) (FL.eUse 9))
def B_written : FL.S := (FL.sSeq (FL.sAsg (FL.eMove 0) (FL.gT 3 (FL.gsCons (FL.gN 1) (FL.gsCons (FL.gN 2) (FL.gsCons (FL.gN 3) FL.gsNil)))))
  (FL.sSeq (FL.sAsg (FL.eLc (FL.sAny (FL.eMove 1)) [5, 8, 7] (FL.gT 3 (FL.gsCons (FL.gN 5) (FL.gsCons (FL.gN 8) (FL.gsCons (FL.gN 7) FL.gsNil)))) FL.tYesF E_written_1) (FL.gN 4))
  (FL.sSeq (FL.sFor (FL.sAny (FL.eMove 2)) (FL.gT 2 (FL.gsCons (FL.gN 5) (FL.gsCons (FL.gN 6) FL.gsNil)))
  L_written_1)
  (FL.sSeq (FL.sExt (FL.pVar 4) (FL.eLc (FL.sAny (FL.eMove 3)) [5, 9] (FL.gT 2 (FL.gsCons (FL.gN 5) (FL.gsCons (FL.gN 9) FL.gsNil))) FL.tYesF E_written_3))
  (FL.sRet (FL.eMb FL.isS FL.gJoin (FL.eK (.str "\n")) (FL.aCons (FL.eBor 4) FL.aNil)))))))
def F_written : FL.DF := FL.dfOf 11 B_written
def E__law_text_1 : FL.M FL.T := (FL.eOp FL.gAdd (FL.eOp FL.gAdd (FL.eOp FL.gAdd (FL.eOp FL.gAdd (FL.eOp FL.gAdd (FL.eK (.str "box ")) (FL.eUse 5)) (FL.eK (.str " "))) (FL.eCb FL.gStr (FL.aCons (FL.eBor 7) FL.aNil))) (FL.eK (.str " "))) (FL.eCb FL.gStr (FL.aCons (FL.eBor 8) FL.aNil)))
def E__law_text_2 : FL.M FL.T := (FL.eCall 1 F__law_words (FL.aCons (FL.eBor 9) FL.aNil))
def L__law_text_1 : FL.S := (FL.sAsg (FL.eOp FL.gAdd (FL.eOp FL.gAdd (FL.eUse 4) (FL.eLst (FL.aCons (FL.eOp FL.gAdd (FL.eK (.str "proc ")) (FL.eUse 5)) FL.aNil))) (FL.eLc (FL.sAny (FL.eMove 6)) [9] (FL.gN 9) FL.tYesF E__law_text_2)) (FL.gN 4))
def E__law_text_3 : FL.M FL.T := (FL.eOp FL.gAdd (FL.eOp FL.gAdd (FL.eOp FL.gAdd (FL.eK (.str "hand ")) (FL.eUse 5)) (FL.eK (.str " "))) (FL.eUse 10))
def B__law_text : FL.S := (FL.sSeq (FL.sAsg (FL.eMove 0) (FL.gT 3 (FL.gsCons (FL.gN 1) (FL.gsCons (FL.gN 2) (FL.gsCons (FL.gN 3) FL.gsNil)))))
  (FL.sSeq (FL.sAsg (FL.eLc (FL.sAny (FL.eMove 1)) [5, 7, 8] (FL.gT 3 (FL.gsCons (FL.gN 5) (FL.gsCons (FL.gN 7) (FL.gsCons (FL.gN 8) FL.gsNil)))) FL.tYesF E__law_text_1) (FL.gN 4))
  (FL.sSeq (FL.sFor (FL.sAny (FL.eMove 2)) (FL.gT 2 (FL.gsCons (FL.gN 5) (FL.gsCons (FL.gN 6) FL.gsNil)))
  L__law_text_1)
  (FL.sRet (FL.eMb FL.isS FL.gJoin (FL.eK (.str "\n")) (FL.aCons (FL.eOp FL.gAdd (FL.eBor 4) (FL.eLc (FL.sAny (FL.eMove 3)) [5, 10] (FL.gT 2 (FL.gsCons (FL.gN 5) (FL.gsCons (FL.gN 10) FL.gsNil))) FL.tYesF E__law_text_3)) FL.aNil))))))
def F__law_text : FL.DF := FL.dfOf 11 B__law_text
def B__law_program_at : FL.S := (FL.sSeq (FL.sAsg (FL.eCall 5 F__law_plan (FL.aCons (FL.eSl FL.gSl (FL.eBor 0) (FL.oSome (FL.eBor 1)) (FL.oSome (FL.eOp FL.gAdd (FL.eBor 1) (FL.eK (.int 7))))) (FL.aCons (FL.eK (.int 6)) (FL.aCons (FL.eK (.int 8)) (FL.aCons (FL.eK (.int 3)) (FL.aCons (FL.eCall0 F__law_menu) FL.aNil)))))) (FL.gN 2))
  (FL.sRet (FL.eCall 2 F__law_program (FL.aCons (FL.eBor 2) (FL.aCons (FL.eOp FL.gIx (FL.eCall 3 F__law_digits (FL.aCons (FL.eCall 2 F__law_cell_at (FL.aCons (FL.eBor 0) (FL.aCons (FL.eBor 1) FL.aNil))) (FL.aCons (FL.eK (.int 11)) (FL.aCons (FL.eLst (FL.aCons (FL.eOp FL.gPow (FL.eK (.int 2)) (FL.eK (.int 40))) FL.aNil)) FL.aNil)))) (FL.eK (.int 0))) FL.aNil)))))
def F__law_program_at : FL.DF := FL.dfOf 3 B__law_program_at
def B__law_right : FL.S := (FL.sSeq (FL.sAsg (FL.eCall 1 F_written (FL.aCons (FL.eBor 0) FL.aNil)) (FL.gN 2))
  (FL.sRet (FL.eAn (FL.eIsT "str" (FL.eBor 2)) (FL.eAn (FL.eOp FL.gEq (FL.eBor 2) (FL.eCall 1 F__law_text (FL.aCons (FL.eBor 1) FL.aNil))) (FL.eOp FL.gEq (FL.eBor 0) (FL.eBor 1))))))
def F__law_right : FL.DF := FL.dfOf 3 B__law_right
def L_law_1 : FL.S := (FL.sSet (FL.eTup (FL.aCons (FL.eK (.str "any")) (FL.aCons (FL.eTup (FL.aCons (FL.eK (.int 0)) (FL.aCons (FL.eK (.int 1)) (FL.aCons (FL.eK (.int 0)) FL.aNil)))) FL.aNil))) (FL.pIx (FL.pIx (FL.pIx (FL.pVar 5) (FL.eK (.int 1))) (FL.eK (.int 0))) (FL.eK (.int 1))) (FL.eK (.int 0)))
def L_law_2 : FL.S := (FL.sSeq (FL.sAsg (FL.eCall 2 F__law_program_at (FL.aCons (FL.eBor 0) (FL.aCons (FL.eBor 2) FL.aNil))) (FL.gN 3))
  (FL.sSeq (FL.sAsg (FL.eCall 2 F__law_program_at (FL.aCons (FL.eBor 0) (FL.aCons (FL.eBor 2) FL.aNil))) (FL.gN 4))
  (FL.sSeq (FL.sIf (FL.tOrr (FL.tNo (FL.tb (FL.eCall 2 F__law_right (FL.aCons (FL.eBor 3) (FL.aCons (FL.eBor 4) FL.aNil))))) (FL.tOrr (FL.tNo (FL.tb (FL.eCall 2 F__law_right (FL.aCons (FL.eBor 1) (FL.aCons (FL.eBor 1) FL.aNil))))) (FL.tNo (FL.tb (FL.eCall 2 F__law_right (FL.aCons (FL.eBor 3) (FL.aCons (FL.eBor 4) FL.aNil)))))))
  (FL.sRet (FL.eK (.bl false)))
  FL.sNext)
  (FL.sPinA 3 [0]
  (FL.sPinA 3 [1]
  (FL.sPinA 3 [2]
  (FL.sPinA 4 [0]
  (FL.sPinA 4 [1]
  (FL.sPinA 4 [2]
  (FL.sSeq (FL.sForL (FL.sAny (FL.eLst (FL.aCons (FL.eVidP (FL.pVar 3)) (FL.aCons (FL.eVidP (FL.pVar 4)) FL.aNil)))) (FL.gN 5)
  [(FL.sSeq (FL.sTk 5 3 []) (FL.sSeq L_law_1 (FL.sGv 5 3 []))), (FL.sSeq (FL.sTk 5 4 []) (FL.sSeq L_law_1 (FL.sGv 5 4 [])))])
  (FL.sSeq (FL.sIf (FL.tNo (FL.tb (FL.eCall 2 F__law_right (FL.aCons (FL.eBor 3) (FL.aCons (FL.eBor 4) FL.aNil)))))
  (FL.sRet (FL.eK (.bl false)))
  FL.sNext)
  (FL.sAsg (FL.eMove 3) (FL.gN 1)))))))))))))
def B_law : FL.S := (FL.sSeq (FL.sAsg (FL.eCall 2 F__law_program_at (FL.aCons (FL.eLst (FL.aCons (FL.eK (.int 7)) FL.aNil)) (FL.aCons (FL.eK (.int 0)) FL.aNil))) (FL.gN 1))
  (FL.sSeq (FL.sFor (FL.sRng3 (FL.aCons (FL.eK (.int 0)) (FL.aCons (FL.eCb FL.gMax (FL.aCons (FL.eK (.int 1)) (FL.aCons (FL.eCb FL.gMin (FL.aCons (FL.eCb FL.gLen (FL.aCons (FL.eBor 0) FL.aNil)) (FL.aCons (FL.eK (.int 63)) FL.aNil))) FL.aNil))) (FL.aCons (FL.eK (.int 7)) FL.aNil)))) (FL.gN 2)
  L_law_2)
  (FL.sRet (FL.eK (.bl true)))))
def F_law : FL.DF := FL.dfOf 6 B_law
end
end Rh
namespace FL
open PySem PySem.Spec L2
section
variable {ρ : En} {i : Nat} {us : List T} {p : M Pl} {f fi : M T} {op : List T → Option (List T)}
@[simp] theorem pVar_ap : pVar i ρ = match ρ[i]? with | some (some _) => ok (i, []) ρ | _ => none := rfl
@[simp] theorem ownP_v : ownP ρ (i, []) = match ρ[i]? with | some (some (.lst .ow us)) => some us | some (some (.lst (.pn _) us)) => some us | _ => none := by
  unfold ownP atP
  rcases ρ[i]? with _ | _ | t <;> try rfl
  cases t <;> try rfl
  rename_i o xs
  cases o <;> rfl
@[simp] theorem putP_v : putP ρ (i, []) us = match ρ[i]? with | some (some t) => ρ.set i (some (.lst (match t with | .lst (.pn a) _ => .pn a | _ => .ow) us)) | _ => ρ := by
  unfold putP
  rcases ρ[i]? with _ | _ | t <;> try rfl
  have e : mkA [] t = (match t with | .lst (.pn a) _ => Ow.pn a | _ => .ow) := by
    cases t <;> try rfl
    rename_i o xs
    cases o <;> rfl
  show ρ.set i (some (T.lst (mkA [] t) us)) = _
  rw [e]
@[simp] theorem sApp_ap : sApp p f ρ = sb (p ρ) fun ip ρ => if (ownP ρ ip).isSome = true then (sb (f ρ) fun y ρ => match ownP ρ ip with
  | some us => if nob y = true ∧ us.length < 16777216 then some (.ok (.nx (putP ρ ip (us ++ [y])))) else none
  | none => none) else none := rfl
@[simp] theorem sSet_ap : sSet f p fi ρ = sb (f ρ) fun y ρ => sb (p ρ) fun ip ρ => if (ownP ρ ip).isSome = true then (sb (fi ρ) fun k ρ => match k, ownP ρ ip with
  | .int k, some us => (match ixN us.length k with
    | some j => if nob y = true ∧ j < us.length then some (.ok (.nx (putP ρ ip (us.set j y)))) else none
    | none => none)
  | _, _ => none) else none := rfl
@[simp] theorem sOp0_ap : sOp0 p op ρ = sb (p ρ) fun ip ρ => match ownP ρ ip with
  | some us => (match op us with
    | some us' => some (.ok (.nx (putP ρ ip us')))
    | none => none)
  | none => none := rfl
@[simp] theorem opPop_s {l : List T} {x : T} : opPop (l ++ [x]) = some l := by simp [opPop]
@[simp] theorem ixN_m1 {n : Nat} : ixN (n + 1) (-1) = some n := by
  simp [ixN]
  omega
@[simp] theorem set_last {α : Type} {l : List α} {x y : α} : (l ++ [x]).set l.length y = l ++ [y] := by simp
@[simp] theorem set_last' {α β : Type} {l : List β} {f : β → α} {x y : α} : (l.map f ++ [x]).set l.length y = l.map f ++ [y] := by
  have := set_last (l := l.map f) (x := x) (y := y)
  rwa [List.length_map] at this
end
end FL
namespace Rh
open PySem L2
open FL hiding Off
/-! the seven words -/
@[simp] theorem ok_put : PyData.strOk "put" = true := by decide +kernel
@[simp] theorem w_put_swap : (("put" : Str) == "swap") = false := by decide +kernel
@[simp] theorem e_put_swap : (("put" : Str) = "swap") = False := eq_false (by decide +kernel)
@[simp] theorem w_put_ask : (("put" : Str) == "ask") = false := by decide +kernel
@[simp] theorem e_put_ask : (("put" : Str) = "ask") = False := eq_false (by decide +kernel)
@[simp] theorem w_put_any : (("put" : Str) == "any") = false := by decide +kernel
@[simp] theorem e_put_any : (("put" : Str) = "any") = False := eq_false (by decide +kernel)
@[simp] theorem w_put_call : (("put" : Str) == "call") = false := by decide +kernel
@[simp] theorem e_put_call : (("put" : Str) = "call") = False := eq_false (by decide +kernel)
@[simp] theorem w_put_take : (("put" : Str) == "take") = false := by decide +kernel
@[simp] theorem e_put_take : (("put" : Str) = "take") = False := eq_false (by decide +kernel)
@[simp] theorem w_put_give : (("put" : Str) == "give") = false := by decide +kernel
@[simp] theorem e_put_give : (("put" : Str) = "give") = False := eq_false (by decide +kernel)
@[simp] theorem ok_swap : PyData.strOk "swap" = true := by decide +kernel
@[simp] theorem w_swap_put : (("swap" : Str) == "put") = false := by decide +kernel
@[simp] theorem e_swap_put : (("swap" : Str) = "put") = False := eq_false (by decide +kernel)
@[simp] theorem w_swap_ask : (("swap" : Str) == "ask") = false := by decide +kernel
@[simp] theorem e_swap_ask : (("swap" : Str) = "ask") = False := eq_false (by decide +kernel)
@[simp] theorem w_swap_any : (("swap" : Str) == "any") = false := by decide +kernel
@[simp] theorem e_swap_any : (("swap" : Str) = "any") = False := eq_false (by decide +kernel)
@[simp] theorem w_swap_call : (("swap" : Str) == "call") = false := by decide +kernel
@[simp] theorem e_swap_call : (("swap" : Str) = "call") = False := eq_false (by decide +kernel)
@[simp] theorem w_swap_take : (("swap" : Str) == "take") = false := by decide +kernel
@[simp] theorem e_swap_take : (("swap" : Str) = "take") = False := eq_false (by decide +kernel)
@[simp] theorem w_swap_give : (("swap" : Str) == "give") = false := by decide +kernel
@[simp] theorem e_swap_give : (("swap" : Str) = "give") = False := eq_false (by decide +kernel)
@[simp] theorem ok_ask : PyData.strOk "ask" = true := by decide +kernel
@[simp] theorem w_ask_put : (("ask" : Str) == "put") = false := by decide +kernel
@[simp] theorem e_ask_put : (("ask" : Str) = "put") = False := eq_false (by decide +kernel)
@[simp] theorem w_ask_swap : (("ask" : Str) == "swap") = false := by decide +kernel
@[simp] theorem e_ask_swap : (("ask" : Str) = "swap") = False := eq_false (by decide +kernel)
@[simp] theorem w_ask_any : (("ask" : Str) == "any") = false := by decide +kernel
@[simp] theorem e_ask_any : (("ask" : Str) = "any") = False := eq_false (by decide +kernel)
@[simp] theorem w_ask_call : (("ask" : Str) == "call") = false := by decide +kernel
@[simp] theorem e_ask_call : (("ask" : Str) = "call") = False := eq_false (by decide +kernel)
@[simp] theorem w_ask_take : (("ask" : Str) == "take") = false := by decide +kernel
@[simp] theorem e_ask_take : (("ask" : Str) = "take") = False := eq_false (by decide +kernel)
@[simp] theorem w_ask_give : (("ask" : Str) == "give") = false := by decide +kernel
@[simp] theorem e_ask_give : (("ask" : Str) = "give") = False := eq_false (by decide +kernel)
@[simp] theorem ok_any : PyData.strOk "any" = true := by decide +kernel
@[simp] theorem w_any_put : (("any" : Str) == "put") = false := by decide +kernel
@[simp] theorem e_any_put : (("any" : Str) = "put") = False := eq_false (by decide +kernel)
@[simp] theorem w_any_swap : (("any" : Str) == "swap") = false := by decide +kernel
@[simp] theorem e_any_swap : (("any" : Str) = "swap") = False := eq_false (by decide +kernel)
@[simp] theorem w_any_ask : (("any" : Str) == "ask") = false := by decide +kernel
@[simp] theorem e_any_ask : (("any" : Str) = "ask") = False := eq_false (by decide +kernel)
@[simp] theorem w_any_call : (("any" : Str) == "call") = false := by decide +kernel
@[simp] theorem e_any_call : (("any" : Str) = "call") = False := eq_false (by decide +kernel)
@[simp] theorem w_any_take : (("any" : Str) == "take") = false := by decide +kernel
@[simp] theorem e_any_take : (("any" : Str) = "take") = False := eq_false (by decide +kernel)
@[simp] theorem w_any_give : (("any" : Str) == "give") = false := by decide +kernel
@[simp] theorem e_any_give : (("any" : Str) = "give") = False := eq_false (by decide +kernel)
@[simp] theorem ok_call : PyData.strOk "call" = true := by decide +kernel
@[simp] theorem w_call_put : (("call" : Str) == "put") = false := by decide +kernel
@[simp] theorem e_call_put : (("call" : Str) = "put") = False := eq_false (by decide +kernel)
@[simp] theorem w_call_swap : (("call" : Str) == "swap") = false := by decide +kernel
@[simp] theorem e_call_swap : (("call" : Str) = "swap") = False := eq_false (by decide +kernel)
@[simp] theorem w_call_ask : (("call" : Str) == "ask") = false := by decide +kernel
@[simp] theorem e_call_ask : (("call" : Str) = "ask") = False := eq_false (by decide +kernel)
@[simp] theorem w_call_any : (("call" : Str) == "any") = false := by decide +kernel
@[simp] theorem e_call_any : (("call" : Str) = "any") = False := eq_false (by decide +kernel)
@[simp] theorem w_call_take : (("call" : Str) == "take") = false := by decide +kernel
@[simp] theorem e_call_take : (("call" : Str) = "take") = False := eq_false (by decide +kernel)
@[simp] theorem w_call_give : (("call" : Str) == "give") = false := by decide +kernel
@[simp] theorem e_call_give : (("call" : Str) = "give") = False := eq_false (by decide +kernel)
@[simp] theorem ok_take : PyData.strOk "take" = true := by decide +kernel
@[simp] theorem w_take_put : (("take" : Str) == "put") = false := by decide +kernel
@[simp] theorem e_take_put : (("take" : Str) = "put") = False := eq_false (by decide +kernel)
@[simp] theorem w_take_swap : (("take" : Str) == "swap") = false := by decide +kernel
@[simp] theorem e_take_swap : (("take" : Str) = "swap") = False := eq_false (by decide +kernel)
@[simp] theorem w_take_ask : (("take" : Str) == "ask") = false := by decide +kernel
@[simp] theorem e_take_ask : (("take" : Str) = "ask") = False := eq_false (by decide +kernel)
@[simp] theorem w_take_any : (("take" : Str) == "any") = false := by decide +kernel
@[simp] theorem e_take_any : (("take" : Str) = "any") = False := eq_false (by decide +kernel)
@[simp] theorem w_take_call : (("take" : Str) == "call") = false := by decide +kernel
@[simp] theorem e_take_call : (("take" : Str) = "call") = False := eq_false (by decide +kernel)
@[simp] theorem w_take_give : (("take" : Str) == "give") = false := by decide +kernel
@[simp] theorem e_take_give : (("take" : Str) = "give") = False := eq_false (by decide +kernel)
@[simp] theorem ok_give : PyData.strOk "give" = true := by decide +kernel
@[simp] theorem w_give_put : (("give" : Str) == "put") = false := by decide +kernel
@[simp] theorem e_give_put : (("give" : Str) = "put") = False := eq_false (by decide +kernel)
@[simp] theorem w_give_swap : (("give" : Str) == "swap") = false := by decide +kernel
@[simp] theorem e_give_swap : (("give" : Str) = "swap") = False := eq_false (by decide +kernel)
@[simp] theorem w_give_ask : (("give" : Str) == "ask") = false := by decide +kernel
@[simp] theorem e_give_ask : (("give" : Str) = "ask") = False := eq_false (by decide +kernel)
@[simp] theorem w_give_any : (("give" : Str) == "any") = false := by decide +kernel
@[simp] theorem e_give_any : (("give" : Str) = "any") = False := eq_false (by decide +kernel)
@[simp] theorem w_give_call : (("give" : Str) == "call") = false := by decide +kernel
@[simp] theorem e_give_call : (("give" : Str) = "call") = False := eq_false (by decide +kernel)
@[simp] theorem w_give_take : (("give" : Str) == "take") = false := by decide +kernel
@[simp] theorem e_give_take : (("give" : Str) = "take") = False := eq_false (by decide +kernel)
@[simp] theorem nat_beq (a b : Nat) : ((a : Int) == (b : Int)) = (a == b) := by
  by_cases h : a = b
  · simp [h]
  · have h2 : (a : Int) ≠ (b : Int) := by omega
    rw [beq_eq_false_iff_ne.mpr h, beq_eq_false_iff_ne.mpr h2]
/-! ## the law's own mathematics -/
def Nt (n : Nat) : T := .int (n : Int)
@[simp] theorem Nt_eta : (fun n : Nat => T.int (n : Int)) = Nt := rfl
@[simp] theorem Nt_ap (n : Nat) : Nt n = .int (n : Int) := rfl
inductive Row where
  | put (b w to : Nat) | swap (b o n to : Nat) | ask (b : Nat) (tos : List (Option Nat)) | any (tos : List Nat) | call (q to : Nat) | take (b to : Nat) | give (b to : Nat)
structure Plan where
  worths : List Nat
  firsts : List Nat
  procs : List (List Row)
  hands : List Nat
structure Sta where
  store : List Nat
  piles : List (List (Nat × Nat))
def encTo : Option Nat → T
  | some n => Nt n
  | none => .non
def encF (f : Nat × Nat) : T := .tup [Nt f.1, Nt f.2]
def encPi (p : List (Nat × Nat)) : T := .tup (p.map encF)
def encSt (s : Sta) : T := .tup [.tup (s.store.map Nt), .tup (s.piles.map encPi)]
def encR : Row → T
  | .put b w to => .tup [.str "put", Nt b, Nt w, Nt to]
  | .swap b o n to => .tup [.str "swap", Nt b, Nt o, Nt n, Nt to]
  | .ask b tos => .tup [.str "ask", Nt b, .tup (tos.map encTo)]
  | .any tos => .tup [.str "any", .tup (tos.map Nt)]
  | .call q to => .tup [.str "call", Nt q, Nt to]
  | .take b to => .tup [.str "take", Nt b, Nt to]
  | .give b to => .tup [.str "give", Nt b, Nt to]
def encRs (o : Ow) (l : List Row) : T := .lst o (l.map encR)
def encPlan (o : Ow) (p : Plan) : T := .tup [.tup (p.worths.map Nt), .lst o (p.firsts.map Nt), .lst o (p.procs.map (encRs o)), .lst o (p.hands.map Nt)]
/-- names of boxes, procedures, hands, by their numbers -/
structure Nms where
  b : Nat → Str
  p : Nat → Str
  h : Nat → Str
def encRP (N : Nms) : Row → T
  | .put b w to => .tup [.str "put", .str (N.b b), Nt w, Nt to]
  | .swap b o n to => .tup [.str "swap", .str (N.b b), Nt o, Nt n, Nt to]
  | .ask b tos => .tup [.str "ask", .str (N.b b), .tup (tos.map encTo)]
  | .any tos => .tup [.str "any", .tup (tos.map Nt)]
  | .call q to => .tup [.str "call", .str (N.p q), Nt to]
  | .take b to => .tup [.str "take", .str (N.b b), Nt to]
  | .give b to => .tup [.str "give", .str (N.b b), Nt to]
def encBx (N : Nms) (ws fs : List Nat) : List T := (List.range ws.length).map fun k => .tup [.str (N.b k), Nt (ws.getD k 0), Nt (fs.getD k 0)]
def encPc (N : Nms) (o : Ow) (ps : List (List Row)) : List T := (List.range ps.length).map fun k => .tup [.str (N.p k), .lst o ((ps.getD k []).map (encRP N))]
def encHd (N : Nms) (hs : List Nat) : List T := (List.range hs.length).map fun k => .tup [.str (N.h k), .str (N.p (hs.getD k 0))]
def encProg (N : Nms) (o : Ow) (p : Plan) : T := .tup [.lst o (encBx N p.worths p.firsts), .lst o (encPc N o p.procs), .lst o (encHd N p.hands)]
/-! ### what has no lists -/
@[simp] theorem nol_encTo (x : Option Nat) : nol (encTo x) = true := by cases x <;> rfl
@[simp] theorem nol_encF (x : Nat × Nat) : nol (encF x) = true := by simp [encF]
@[simp] theorem nol_encPi (x : List (Nat × Nat)) : nol (encPi x) = true := by simp [encPi]
@[simp] theorem nol_encSt (x : Sta) : nol (encSt x) = true := by simp [encSt]
@[simp] theorem nol_encR (r : Row) : nol (encR r) = true := by cases r <;> simp [encR]
@[simp] theorem nol_encRP (N : Nms) (r : Row) : nol (encRP N r) = true := by cases r <;> simp [encRP]
section
variable (x : Option Nat) (f : Nat × Nat) (p : List (Nat × Nat)) (s : Sta) (r : Row) (N : Nms)
@[simp] theorem shr_encTo : shr (encTo x) = encTo x := shr_nol _ (by simp)
@[simp] theorem shr_encF : shr (encF f) = encF f := shr_nol _ (by simp)
@[simp] theorem shr_encPi : shr (encPi p) = encPi p := shr_nol _ (by simp)
@[simp] theorem shr_encSt : shr (encSt s) = encSt s := shr_nol _ (by simp)
@[simp] theorem shr_encR : shr (encR r) = encR r := shr_nol _ (by simp)
@[simp] theorem shr_encRP : shr (encRP N r) = encRP N r := shr_nol _ (by simp)
@[simp] theorem bor_encTo : bor (encTo x) = encTo x := bor_nol _ (by simp)
@[simp] theorem bor_encF : bor (encF f) = encF f := bor_nol _ (by simp)
@[simp] theorem bor_encPi : bor (encPi p) = encPi p := bor_nol _ (by simp)
@[simp] theorem bor_encSt : bor (encSt s) = encSt s := bor_nol _ (by simp)
@[simp] theorem bor_encR : bor (encR r) = encR r := bor_nol _ (by simp)
@[simp] theorem bor_encRP : bor (encRP N r) = encRP N r := bor_nol _ (by simp)
@[simp] theorem nob_encTo : nob (encTo x) = true := nob_nol _ (by simp)
@[simp] theorem nob_encF : nob (encF f) = true := nob_nol _ (by simp)
@[simp] theorem nob_encPi : nob (encPi p) = true := nob_nol _ (by simp)
@[simp] theorem nob_encSt : nob (encSt s) = true := nob_nol _ (by simp)
@[simp] theorem nob_encR : nob (encR r) = true := nob_nol _ (by simp)
@[simp] theorem nob_encRP : nob (encRP N r) = true := nob_nol _ (by simp)
@[simp] theorem alw_encTo : alw (encTo x) = true := alw_nol _ (by simp)
@[simp] theorem alw_encF : alw (encF f) = true := alw_nol _ (by simp)
@[simp] theorem alw_encPi : alw (encPi p) = true := alw_nol _ (by simp)
@[simp] theorem alw_encSt : alw (encSt s) = true := alw_nol _ (by simp)
@[simp] theorem alw_encR : alw (encR r) = true := alw_nol _ (by simp)
@[simp] theorem alw_encRP : alw (encRP N r) = true := alw_nol _ (by simp)
end
section
variable (N : Nms)
@[simp] theorem cs_Nt : shr ∘ Nt = Nt := rfl
@[simp] theorem cb_Nt : bor ∘ Nt = Nt := rfl
@[simp] theorem cn_Nt : nob ∘ Nt = fun _ => true := rfl
@[simp] theorem ca_Nt : alw ∘ Nt = fun _ => true := rfl
@[simp] theorem cl_Nt : nol ∘ Nt = fun _ => true := rfl
@[simp] theorem cs_encTo : shr ∘ encTo = encTo := funext fun x => by simp
@[simp] theorem cb_encTo : bor ∘ encTo = encTo := funext fun x => by simp
@[simp] theorem cn_encTo : nob ∘ encTo = fun _ => true := funext fun x => by simp
@[simp] theorem ca_encTo : alw ∘ encTo = fun _ => true := funext fun x => by simp
@[simp] theorem cl_encTo : nol ∘ encTo = fun _ => true := funext fun x => by simp
@[simp] theorem cs_encF : shr ∘ encF = encF := funext fun x => by simp
@[simp] theorem cb_encF : bor ∘ encF = encF := funext fun x => by simp
@[simp] theorem cn_encF : nob ∘ encF = fun _ => true := funext fun x => by simp
@[simp] theorem ca_encF : alw ∘ encF = fun _ => true := funext fun x => by simp
@[simp] theorem cl_encF : nol ∘ encF = fun _ => true := funext fun x => by simp
@[simp] theorem cs_encPi : shr ∘ encPi = encPi := funext fun x => by simp
@[simp] theorem cb_encPi : bor ∘ encPi = encPi := funext fun x => by simp
@[simp] theorem cn_encPi : nob ∘ encPi = fun _ => true := funext fun x => by simp
@[simp] theorem ca_encPi : alw ∘ encPi = fun _ => true := funext fun x => by simp
@[simp] theorem cl_encPi : nol ∘ encPi = fun _ => true := funext fun x => by simp
@[simp] theorem cs_encR : shr ∘ encR = encR := funext fun x => by simp
@[simp] theorem cb_encR : bor ∘ encR = encR := funext fun x => by simp
@[simp] theorem cn_encR : nob ∘ encR = fun _ => true := funext fun x => by simp
@[simp] theorem ca_encR : alw ∘ encR = fun _ => true := funext fun x => by simp
@[simp] theorem cs_encRP : shr ∘ encRP N = encRP N := funext fun x => by simp
@[simp] theorem cb_encRP : bor ∘ encRP N = encRP N := funext fun x => by simp
@[simp] theorem cn_encRP : nob ∘ encRP N = fun _ => true := funext fun x => by simp
@[simp] theorem ca_encRP : alw ∘ encRP N = fun _ => true := funext fun x => by simp
end
@[simp] theorem gIx_F0 (f : Nat × Nat) : gIx (encF f) (.int 0) = some (Nt f.1) := by simp [encF]
@[simp] theorem gIx_F1 (f : Nat × Nat) : gIx (encF f) (.int 1) = some (Nt f.2) := by simp [encF]
/-! ### slices -/
@[simp] theorem cut_to {xs : List T} {b : Nat} : cutT xs none (some (b : Int)) = xs.take b := by
  unfold cutT
  rw [HT.sIx_none, HT.sIx_nat]
  simp
@[simp] theorem cut_from {xs : List T} {b : Nat} : cutT xs (some (b : Int)) none = xs.drop b := by
  unfold cutT
  rw [HT.sIx_none, HT.sIx_nat]
  by_cases h : b ≤ xs.length
  · rw [Nat.min_eq_left h]
    exact List.take_of_length_le (by simp)
  · rw [Nat.min_eq_right (by omega)]
    simp [List.drop_eq_nil_of_le (show xs.length ≤ b by omega)]
@[simp] theorem cut_from1 {xs : List T} {b : Nat} : cutT xs (some ((b : Int) + 1)) none = xs.drop (b + 1) := cut_from (b := b + 1)
@[simp] theorem cut_butlast {xs : List T} : cutT xs none (some (-1)) = xs.dropLast := by
  unfold cutT
  rw [HT.sIx_none]
  have : HT.sIx xs.length xs.length (some (-1)) = xs.length - 1 := by
    unfold HT.sIx
    cases xs with
    | nil => simp
    | cons a l => simp; omega
  rw [this, List.dropLast_eq_take]
  simp
/-! ### the store -/
def putS (l : List Nat) (b w : Nat) : List Nat := l.take b ++ [w] ++ l.drop (b + 1)
@[simp] theorem atI_last {α : Type} {l : List α} {x : α} : atI (l ++ [x]) (-1) = some x := by
  rw [atI_last' (by simp)]
  simp
@[simp] theorem teqs_sn {l : List T} {x : T} : teqs (l ++ [x]) [] = false := by cases l <;> simp
@[simp] theorem encPi_snoc (p : List (Nat × Nat)) (f : Nat × Nat) : encPi (p ++ [f]) = .tup (p.map encF ++ [encF f]) := by simp [encPi]
@[simp] theorem encPi_nil : encPi [] = .tup [] := rfl
@[simp] theorem okT_encF (n : Nat) (f : Nat × Nat) : okT (n + 1) (encF f) = true := by simp [encF]
@[simp] theorem okT_encPi (n : Nat) (p : List (Nat × Nat)) : okT (n + 2) (encPi p) = true := by simp [encPi, Function.comp_def]
@[simp] theorem okT_encSt (n : Nat) (s : Sta) : okT (n + 4) (encSt s) = true := by simp [encSt, Function.comp_def]
/-! ### piles -/
def settle (en : Nat → Nat) (p : List (Nat × Nat)) : List (Nat × Nat) := (p.reverse.dropWhile fun f => f.2 == en f.1).reverse
@[simp] theorem settle_nil (en : Nat → Nat) : settle en [] = [] := rfl
theorem settle_snoc (en : Nat → Nat) (p : List (Nat × Nat)) (f : Nat × Nat) : settle en (p ++ [f]) = if f.2 = en f.1 then settle en p else p ++ [f] := by
  unfold settle
  rw [List.reverse_append, List.reverse_singleton, List.singleton_append, List.dropWhile_cons]
  by_cases h : f.2 = en f.1 <;> simp [h]
def ends (p : Plan) : List Nat := p.procs.map List.length
/-- a pile whose last frame goes on -/
def goneOn (en : Nat → Nat) (p : List (Nat × Nat)) (to : Nat) : List (Nat × Nat) := settle en (p.dropLast ++ [((p.getLast?.getD (0, 0)).1, to)])
theorem encPi_ne (l : List (Nat × Nat)) (f : Nat × Nat) : atI ((l ++ [f]).map encF) (-1) = some (encF f) := by simp
/-! ### names -/
@[simp] theorem flatT_s (x : Str) : flatT (.str x) = true := rfl
theorem findT_str (nm : Nat → Str) (j : Nat) : ∀ (n m : Nat) (l : List Nat), (∀ a ∈ l, ∀ b ∈ l, nm a = nm b → a = b) → l.Nodup → l[n]? = some j → findT (.str (nm j)) (l.map fun k => T.str (nm k)) m = some (m + n)
  | 0, m, a :: l, hi, hd, h => by
    have e : a = j := by simpa using h
    simp [findT, e]
  | n + 1, m, a :: l, hi, hd, h => by
    have hj : l[n]? = some j := by simpa using h
    have hm : j ∈ l := List.mem_of_getElem? hj
    have hne : nm a ≠ nm j := fun z => by
      have := hi a (by simp) j (by simp [hm]) z
      rw [this] at hd
      exact (List.nodup_cons.mp hd).1 hm
    have ih := findT_str nm j n (m + 1) l (fun x hx y hy => hi x (by simp [hx]) y (by simp [hy])) (List.nodup_cons.mp hd).2 hj
    simp [findT, hne, ih]
    omega
  | n, m, [], _, _, h => by simp at h
def Inj (n : Nat) (nm : Nat → Str) : Prop := ∀ a, a < n → ∀ b, b < n → nm a = nm b → a = b
end Rh
namespace Rh
open PySem L2
open FL hiding Off
@[simp] theorem nat_beq0 (a : Nat) : ((a : Int) == 0) = (a == 0) := nat_beq a 0
@[simp] theorem nat_beqs (a b : Nat) : ((a : Int) == (b : Int) + 1) = (a == b + 1) := nat_beq a (b + 1)
theorem range_getD {α β : Type} (l : List α) (d : α) (f : α → β) : ((List.range l.length).map fun k => f (l.getD k d)) = l.map f := by
  apply List.ext_getElem?
  intro i
  simp only [List.getElem?_map, List.getElem?_range]
  by_cases h : i < l.length
  · simp [h]
  · simp [h]
section
variable (N : Nms) (p : Plan)
@[simp] theorem gIx_P0 (o : Ow) : gIx (encProg N o p) (.int 0) = some (.lst o (encBx N p.worths p.firsts)) := by simp [encProg]
@[simp] theorem gIx_P1 (o : Ow) : gIx (encProg N o p) (.int 1) = some (.lst o (encPc N o p.procs)) := by simp [encProg]
@[simp] theorem gIx_P2 (o : Ow) : gIx (encProg N o p) (.int 2) = some (.lst o (encHd N p.hands)) := by simp [encProg]
@[simp] theorem gIx_L0 (o : Ow) : gIx (encPlan o p) (.int 0) = some (.tup (p.worths.map Nt)) := by simp [encPlan]
@[simp] theorem gIx_L1 (o : Ow) : gIx (encPlan o p) (.int 1) = some (.lst o (p.firsts.map Nt)) := by simp [encPlan]
@[simp] theorem gIx_L2 (o : Ow) : gIx (encPlan o p) (.int 2) = some (.lst o (p.procs.map (encRs o))) := by simp [encPlan]
@[simp] theorem gIx_L3 (o : Ow) : gIx (encPlan o p) (.int 3) = some (.lst o (p.hands.map Nt)) := by simp [encPlan]
@[simp] theorem shr_Rs : shr (encRs .sh l) = encRs .sh l := by simp [encRs]
@[simp] theorem shr_Bx (ws fs : List Nat) : (encBx N ws fs).map shr = encBx N ws fs := by simp [encBx, Function.comp_def]
@[simp] theorem bor_Bx (ws fs : List Nat) : (encBx N ws fs).map bor = encBx N ws fs := by simp [encBx, Function.comp_def]
@[simp] theorem nob_Bx (ws fs : List Nat) : (encBx N ws fs).all nob = true := by simp [encBx, Function.comp_def]
@[simp] theorem shr_Pc (ps : List (List Row)) : (encPc N .sh ps).map shr = encPc N .sh ps := by simp [encPc, Function.comp_def]
@[simp] theorem bor_Pc (ps : List (List Row)) : (encPc N .sh ps).map bor = encPc N .sh ps := by simp [encPc, Function.comp_def]
@[simp] theorem nob_Pc (ps : List (List Row)) : (encPc N .sh ps).all nob = true := by simp [encPc, Function.comp_def]
@[simp] theorem shr_Hd (hs : List Nat) : (encHd N hs).map shr = encHd N hs := by simp [encHd, Function.comp_def]
@[simp] theorem bor_Hd (hs : List Nat) : (encHd N hs).map bor = encHd N hs := by simp [encHd, Function.comp_def]
@[simp] theorem nob_Hd (hs : List Nat) : (encHd N hs).all nob = true := by simp [encHd, Function.comp_def]
@[simp] theorem shr_Prog : shr (encProg N .sh p) = encProg N .sh p := by simp [encProg]
@[simp] theorem bor_Prog : bor (encProg N .sh p) = encProg N .sh p := by simp [encProg]
@[simp] theorem nob_Prog : nob (encProg N .sh p) = true := by simp [encProg]
@[simp] theorem shr_Plan : shr (encPlan .sh p) = encPlan .sh p := by simp [encPlan, encRs, Function.comp_def]
@[simp] theorem bor_Plan : bor (encPlan .sh p) = encPlan .sh p := by simp [encPlan, encRs, Function.comp_def]
@[simp] theorem nob_Plan : nob (encPlan .sh p) = true := by simp [encPlan, encRs, Function.comp_def]
@[simp] theorem len_Bx (ws fs : List Nat) : (encBx N ws fs).length = ws.length := by simp [encBx]
@[simp] theorem len_Pc (o : Ow) (ps : List (List Row)) : (encPc N o ps).length = ps.length := by simp [encPc]
@[simp] theorem len_Hd (hs : List Nat) : (encHd N hs).length = hs.length := by simp [encHd]
end
@[simp] theorem pc_at (N : Nms) (o : Ow) (ps : List (List Row)) (q : Nat) (rs : List Row) (h : ps[q]? = some rs) : (encPc N o ps)[q]? = some (.tup [.str (N.p q), .lst o (rs.map (encRP N))]) := by
  have hq : q < ps.length := by
    by_cases z : q < ps.length
    · exact z
    · rw [List.getElem?_eq_none (by omega)] at h
      cases h
  have e : ps[q] = rs := by simpa [hq] using h
  simp [encPc, hq, e]
/-- may a row be done when the box holds so much -/
def goes (r : Row) (holds hand : Nat) : Bool := match r with
  | .swap _ o _ _ => holds == o
  | .ask _ tos => (tos.getD holds none).isSome
  | .take _ _ => holds == 0
  | .give _ _ => holds == hand + 1
  | _ => true
def boxOf : Row → Nat
  | .put b _ _ => b
  | .swap b _ _ _ => b
  | .ask b _ => b
  | .take b _ => b
  | .give b _ => b
  | _ => 0
def isAny : Row → Bool | .any _ => true | _ => false
def isCall : Row → Bool | .call _ _ => true | _ => false
@[simp] theorem isN_encTo (x : Option Nat) : isN (encTo x) = !x.isSome := by cases x <;> rfl
structure WfP (p : Plan) : Prop where
  w0 : 0 < p.worths.length
  w1 : p.worths.length ≤ 1000
  fl : p.firsts.length = p.worths.length
  p1 : p.procs.length ≤ 1000
  h1 : p.hands.length ≤ 1000
  hq : ∀ q ∈ p.hands, q < p.procs.length
  bx : ∀ rs ∈ p.procs, ∀ r ∈ rs, isAny r = false → isCall r = false → boxOf r < p.worths.length
  ask : ∀ rs ∈ p.procs, ∀ b tos, Row.ask b tos ∈ rs → tos.length = p.worths.getD b 0
  asn : ∀ rs ∈ p.procs, ∀ b tos, Row.ask b tos ∈ rs → ∀ t, some t ∈ tos → t ≤ rs.length
  put : ∀ rs ∈ p.procs, ∀ b w t, Row.put b w t ∈ rs → w < p.worths.getD b 0 ∧ t ≤ rs.length
  swap : ∀ rs ∈ p.procs, ∀ b o w t, Row.swap b o w t ∈ rs → w < p.worths.getD b 0 ∧ t ≤ rs.length
  take : ∀ rs ∈ p.procs, ∀ b t, Row.take b t ∈ rs → p.hands.length < p.worths.getD b 0 ∧ t ≤ rs.length
  give : ∀ rs ∈ p.procs, ∀ b t, Row.give b t ∈ rs → t ≤ rs.length
  call : ∀ rs ∈ p.procs, ∀ q t, Row.call q t ∈ rs → q < p.procs.length ∧ t ≤ rs.length
  any : ∀ rs ∈ p.procs, ∀ tos, Row.any tos ∈ rs → 0 < tos.length ∧ tos.length ≤ 1000 ∧ ∀ t ∈ tos, t ≤ rs.length
  fi : ∀ b, b < p.worths.length → p.firsts.getD b 0 < p.worths.getD b 0
structure WfN (p : Plan) (N : Nms) : Prop where
  b : Inj p.worths.length N.b
  p : Inj p.procs.length N.p
/-- a pile that is in order -/
def okPile (p : Plan) (l : List (Nat × Nat)) : Prop :=
  (∀ f ∈ l, ∃ rs, p.procs[f.1]? = some rs ∧ f.2 ≤ rs.length) ∧ ∀ f, l.getLast? = some f → ∀ rs, p.procs[f.1]? = some rs → f.2 < rs.length
structure WfS (p : Plan) (n : Nat) (s : Sta) : Prop where
  sl : s.store.length = p.worths.length
  sv : ∀ b, b < p.worths.length → s.store.getD b 0 < p.worths.getD b 0
  pl : s.piles.length = p.hands.length
  po : ∀ l ∈ s.piles, okPile p l
  pn : ∀ l ∈ s.piles, l.length ≤ n
/-- what a hand may choose -/
def chs (p : Plan) (s : Sta) (hand : Nat) : List Nat :=
  match (s.piles.getD hand []).getLast? with
  | none => []
  | some f => match (p.procs.getD f.1 []).getD f.2 (.any []) with
    | .any tos => List.range tos.length
    | .call _ _ => [0]
    | r => if goes r (s.store.getD (boxOf r) 0) hand then [0] else []
/-- what a walk needs to know of the pile that a hand has -/
theorem pile_cases (p : Plan) (s : Sta) (n hand : Nat) (hs : WfS p n s) (hh : hand < p.hands.length) :
    s.piles[hand]? = some [] ∨ ∃ l q t rs r, s.piles[hand]? = some (l ++ [(q, t)]) ∧ p.procs[q]? = some rs ∧ rs[t]? = some r ∧ rs ∈ p.procs ∧ r ∈ rs ∧ l.length + 1 ≤ n ∧ okPile p (l ++ [(q, t)]) := by
  have hl : hand < s.piles.length := by rw [hs.pl]; exact hh
  have e : s.piles[hand]? = some s.piles[hand] := by simp [hl]
  have hm : s.piles[hand] ∈ s.piles := by simp
  rcases List.eq_nil_or_concat s.piles[hand] with z | ⟨l, f, z⟩
  · left; rw [e, z]
  · right
    rw [List.concat_eq_append] at z
    obtain ⟨q, t⟩ := f
    have ho := hs.po _ hm
    have hn := hs.pn _ hm
    rw [z] at ho hn
    obtain ⟨rs, h1, h2⟩ := ho.1 (q, t) (by simp)
    have h3 := ho.2 (q, t) (by simp) rs h1
    exact ⟨l, q, t, rs, rs[t], by rw [e, z], h1, by simp [h3], List.mem_of_getElem? h1, by simp, by simpa using hn, ho⟩
theorem rng_map (n : Nat) : rngT 0 1 n = (List.range n).map Nt := by
  simp [rngT]
theorem teqs_rfl' (l : List T) (h : ∀ t ∈ l, teq t t = true) : teqs l l = true := by
  induction l with
  | nil => rfl
  | cons a l ih => rw [teqs_cc, h a (by simp), ih fun t ht => h t (by simp [ht])]; rfl
theorem cut_nn {xs : List T} {a b : Nat} : cutT xs (some (a : Int)) (some (b : Int)) = (xs.drop a).take (b - a) := by
  unfold cutT
  rw [HT.sIx_nat, HT.sIx_nat]
  by_cases h : a ≤ xs.length
  · rw [Nat.min_eq_left h]
    by_cases h2 : b ≤ xs.length
    · rw [Nat.min_eq_left h2]
    · rw [Nat.min_eq_right (show xs.length ≤ b by omega)]
      rw [List.take_of_length_le (by simp), List.take_of_length_le (by simp; omega)]
  · rw [Nat.min_eq_right (show xs.length ≤ a by omega)]
    simp [List.drop_eq_nil_of_le (show xs.length ≤ a by omega)]
theorem in62_nat {n : Nat} (h : n ≤ 1000000) : in62 (n : Int) = true := by
  unfold in62
  exact decide_eq_true (by omega)
end Rh
namespace Rh
open PySem L2
open FL hiding Off
theorem log2_40 {n : Nat} (h : n < 2 ^ 41) : n.log2 < 9000 := by
  by_cases z : n = 0
  · subst z; decide
  · have := (Nat.log2_lt z (k := 41)).mpr h
    omega
/-- each digit is less than its size -/
def Dig (ds sizes : List Nat) : Prop := ds.length = sizes.length ∧ ∀ i, i < sizes.length → ds.getD i 0 < sizes.getD i 0
theorem Dig.cons {d n : Nat} {ds ns : List Nat} (h : d < n) (h2 : Dig ds ns) : Dig (d :: ds) (n :: ns) := by
  refine ⟨by simp [h2.1], fun i hi => ?_⟩
  cases i with
  | zero => simpa using h
  | succ i => simpa using h2.2 i (by simpa using hi)
theorem digits_loop (cell turn : T) (wide : Bool) : ∀ (ns : List Nat) (k : Nat) (acc : List Nat) (num seed : Int) (s7 s8 : Option T), (∀ n ∈ ns, 0 < n ∧ n < 2 ^ 41) → (k + ns.length ≤ 100000) → 0 ≤ seed → seed < 2 ^ 41 → acc.length + ns.length ≤ 100000 →
    ∃ ds num' seed' s7' s8', loop (gT 2 (gsCons (gN 7) (gsCons (gN 8) gsNil))) L__law_digits_1 (enT k (ns.map Nt)) [some cell, some turn, none, some (.int num), some (.bl wide), some (.int seed), some (.lst .ow (acc.map Nt)), s7, s8] = some (.ok (.nx [some cell, some turn, none, some (.int num'), some (.bl wide), some (.int seed'), some (.lst .ow ((acc ++ ds).map Nt)), s7', s8'])) ∧ Dig ds ns
  | [], k, acc, num, seed, s7, s8, _, _, _, _, _ => ⟨[], num, seed, s7, s8, by simp [enT], rfl, fun i hi => by simp at hi⟩
  | n :: ns, k, acc, num, seed, s7, s8, hn, hk, h0, h1, ha => by
    obtain ⟨hn0, hn1⟩ := hn n (by simp)
    have hl := log2_40 hn1
    have hn' : ∀ m ∈ ns, 0 < m ∧ m < 2 ^ 41 := fun m hm => hn m (by simp [hm])
    simp at hk ha
    by_cases hw : wide = true ∧ num > 0
    · obtain ⟨hw1, hw2⟩ := hw
      obtain ⟨d, hd⟩ : ∃ d : Nat, num % (n : Int) = d := by
        have := Int.emod_nonneg num (show (n : Int) ≠ 0 by omega)
        exact ⟨(num % (n : Int)).toNat, by omega⟩
      have hd2 : d < n := by
        have := Int.emod_lt_of_pos num (show (0 : Int) < n by omega)
        omega
      obtain ⟨ds, num', seed', s7', s8', ih, hD⟩ := digits_loop cell turn wide ns (k + 1) (acc ++ [d]) (num / (n : Int)) seed (some (.int k)) (some (.int n)) hn' (by omega) h0 h1 (by simp; omega)
      refine ⟨d :: ds, num', seed', s7', s8', ?_, Dig.cons hd2 hD⟩
      rw [List.map_cons, enT, loop_go (ρ1 := [some cell, some turn, none, some (.int num), some (.bl wide), some (.int seed), some (.lst .ow (acc.map Nt)), some (.int k), some (.int n)]) (ρ2 := [some cell, some turn, none, some (.int (num / (n : Int))), some (.bl wide), some (.int seed), some (.lst .ow ((acc ++ [d]).map Nt)), some (.int k), some (.int n)])]
      · rw [ih]
        simp
      · simp
      · simp [L__law_digits_1, hw1, hw2, hn0, hl, hd, show acc.length < 16777216 by omega]
    · have hd := Int.emod_nonneg ((seed + 104729 * ((k : Int) + 1)) ^ 2) (show (2147483587 : Int) ≠ 0 by decide)
      have hd1 := Int.emod_lt_of_pos ((seed + 104729 * ((k : Int) + 1)) ^ 2) (show (0 : Int) < 2147483587 by decide)
      generalize hs : (seed + 104729 * ((k : Int) + 1)) ^ 2 % 2147483587 = sd at hd hd1
      obtain ⟨d, e1⟩ : ∃ d : Nat, sd / 16 % (n : Int) = d := by
        have := Int.emod_nonneg (sd / 16) (show (n : Int) ≠ 0 by omega)
        exact ⟨(sd / 16 % (n : Int)).toNat, by omega⟩
      have e2 : d < n := by
        have := Int.emod_lt_of_pos (sd / 16) (show (0 : Int) < n by omega)
        omega
      have e3 : (seed + 104729 * ((k : Int) + 1)).natAbs < 18446744073709551616 := by omega
      obtain ⟨ds, num', seed', s7', s8', ih, hD⟩ := digits_loop cell turn wide ns (k + 1) (acc ++ [d]) num sd (some (.int k)) (some (.int n)) hn' (by omega) hd (by omega) (by simp; omega)
      refine ⟨d :: ds, num', seed', s7', s8', ?_, Dig.cons e2 hD⟩
      have e4 : (16 : Nat).log2 < 9000 := by decide
      rw [List.map_cons, enT, loop_go (ρ1 := [some cell, some turn, none, some (.int num), some (.bl wide), some (.int seed), some (.lst .ow (acc.map Nt)), some (.int k), some (.int n)]) (ρ2 := [some cell, some turn, none, some (.int num), some (.bl wide), some (.int sd), some (.lst .ow ((acc ++ [d]).map Nt)), some (.int k), some (.int n)])]
      · rw [ih]
        simp
      · simp
      · cases wide with
        | false => simp [L__law_digits_1, e3, hs, hn0, e4, e1, show acc.length < 16777216 by omega]
        | true =>
          have hw2 : ¬ (0 < num) := fun z => hw ⟨rfl, z⟩
          simp [L__law_digits_1, e3, hs, hn0, e4, e1, hw2, show acc.length < 16777216 by omega]
theorem digits_eq (cell : Int) (turn : Nat) (ns : List Nat) (hn : ∀ n ∈ ns, 0 < n ∧ n < 2 ^ 41) (hl : ns.length ≤ 1000) (ht : turn ≤ 1000000) : ∃ ds, F__law_digits [.int cell, .int (turn : Int), .lst .sh (ns.map Nt)] = some (.ok (.lst .ow (ds.map Nt))) ∧ Dig ds ns := by
  have h1 := Int.emod_nonneg (if cell < 0 then -cell else cell) (show (2147483647 : Int) ≠ 0 by decide)
  have h2 := Int.emod_lt_of_pos (if cell < 0 then -cell else cell) (show (0 : Int) < 2147483647 by decide)
  obtain ⟨ds, num', seed', s7', s8', h, hD⟩ := digits_loop (.int cell) (.int (turn : Int)) (decide ((10 : Int) ^ 18 ≤ (if cell < 0 then -cell else cell))) ns 0 [] (if cell < 0 then -cell else cell) ((if cell < 0 then -cell else cell) % 2147483647 + 7919 * (turn : Int)) none none hn (by omega) (by omega) (by omega) (by simp; omega)
  refine ⟨ds, ?_, hD⟩
  simp at h
  simp [F__law_digits, B__law_digits, dfOf, h]
end Rh
namespace Rh
open PySem L2
open FL hiding Off
/-- the name that a number and a place give -/
def nm (n k : Nat) : Str := match F__law_name [.int (n : Int), .int (k : Int)] with
  | some (.ok (.str x)) => x
  | _ => default
def isStr : Option (Except Ex T) → Bool
  | some (.ok (.str _)) => true
  | _ => false
theorem name_all : ((List.range 208).all fun n => (List.range 8).all fun k => isStr (F__law_name [.int (n : Int), .int (k : Int)]) && PyData.strOk (nm n k) && decide ((nm n k).cps.size ≤ 8) && (List.range 8).all fun j => j == k || !(nm n j == nm n k)) = true := by decide +kernel
theorem name_eq (n k : Nat) (hn : n < 208) (hk : k < 8) : F__law_name [.int (n : Int), .int (k : Int)] = some (.ok (.str (nm n k))) := by
  have h := name_all
  rw [List.all_eq_true] at h
  have h := h n (by simpa using hn)
  rw [List.all_eq_true] at h
  have h := h k (by simpa using hk)
  simp only [Bool.and_eq_true] at h
  have h1 := h.1.1.1
  unfold nm
  revert h1
  rcases F__law_name [.int (n : Int), .int (k : Int)] with _ | _ | t
  · exact fun z => by cases z
  · exact fun z => by cases z
  · cases t <;> exact fun z => by first | rfl | cases z
theorem name_inj (n : Nat) (hn : n < 208) (m : Nat) (hm : m ≤ 8) : Inj m (nm n) := by
  intro a ha b hb e
  have h := name_all
  rw [List.all_eq_true] at h
  have h := h n (by simpa using hn)
  rw [List.all_eq_true] at h
  have h := h b (by simp; omega)
  simp only [Bool.and_eq_true] at h
  have h2 := h.2
  rw [List.all_eq_true] at h2
  have h3 := h2 a (by simp; omega)
  rw [e] at h3
  simpa using h3
theorem name_ok (n k : Nat) (hn : n < 208) (hk : k < 8) : PyData.strOk (nm n k) = true ∧ (nm n k).cps.size ≤ 8 := by
  have h := name_all
  rw [List.all_eq_true] at h
  have h := h n (by simpa using hn)
  rw [List.all_eq_true] at h
  have h := h k (by simpa using hk)
  simp only [Bool.and_eq_true, decide_eq_true_eq] at h
  exact ⟨h.1.1.2, h.1.2⟩
end Rh
namespace Rh
open PySem L2
open FL hiding Off
def RowOk (ws : List Nat) (hands many en : Nat) : Row → Prop
  | .put b w to => b < ws.length ∧ w < ws.getD b 0 ∧ to ≤ en
  | .swap b o w to => b < ws.length ∧ o < ws.getD b 0 ∧ w < ws.getD b 0 ∧ to ≤ en
  | .ask b tos => b < ws.length ∧ tos.length = ws.getD b 0 ∧ ∀ t, some t ∈ tos → t ≤ en
  | .any tos => 0 < tos.length ∧ tos.length ≤ 4 ∧ ∀ t ∈ tos, t ≤ en
  | .call q to => q < many ∧ to ≤ en
  | .take b to => b < ws.length ∧ hands < ws.getD b 0 ∧ to ≤ en
  | .give b to => b < ws.length ∧ hands < ws.getD b 0 ∧ to ≤ en
def tosN (d4 d5 en : Nat) : List Nat := (List.range 8).map fun j => (d4 + j * (d5 + 1)) % (en + 1)
theorem tosN_le (d4 d5 en t : Nat) (h : t ∈ tosN d4 d5 en) : t ≤ en := by
  obtain ⟨j, _, rfl⟩ := List.mem_map.mp h
  have := Nat.mod_lt (d4 + j * (d5 + 1)) (show 0 < en + 1 by omega)
  omega
def stopB (d0 d6 j : Nat) : Bool := d0 == 3 && d6 / 2 ^ j % 2 == 1
theorem mod_n (a b : Nat) (h : 0 < b) : gMod (.int (a : Int)) (.int (b : Int)) = some (.int ((a % b : Nat) : Int)) := by
  simp [h]
theorem in62_8 : in62 8 = true := by decide
theorem in62_6 : in62 6 = true := by decide
theorem row_tos (d0 d1 d2 d3 d4 d5 d6 d7 : Nat) (ws : List Nat) (en hands : Nat) (ρ : En) (he : en ≤ 1000) (h4 : ρ.length = 10) (h0 : ρ[0]? = some (some (.lst .sh ([d0, d1, d2, d3, d4, d5, d6, d7].map Nt)))) (h2 : ρ[2]? = some (some (.int (en : Int)))) :
    lcGo ρ [9] (gN 9) tYesF E__law_to_row_1 ((List.range 8).map Nt) = some ((tosN d4 d5 en).map Nt) := by
  unfold tosN
  rw [List.map_map]
  refine lc_map fun a ha => ⟨ρ.set 9 (some (.int (a : Int))), ρ.set 9 (some (.int (a : Int))), by simp, ?_, by simp⟩
  have ha : a < 8 := by simpa using ha
  have e0 : (ρ.set 9 (some (T.int (a : Int))))[0]? = some (some (.lst .sh ([d0, d1, d2, d3, d4, d5, d6, d7].map Nt))) := by simpa using h0
  have e2 : (ρ.set 9 (some (T.int (a : Int))))[2]? = some (some (.int (en : Int))) := by simpa using h2
  have e9 : (ρ.set 9 (some (T.int (a : Int))))[9]? = some (some (.int (a : Int))) := by simp [h4]
  generalize ρ.set 9 (some (T.int (a : Int))) = ρ' at e0 e2 e9 ⊢
  simp at e0
  simp [E__law_to_row_1, e0, e2, e9, show a < 18446744073709551616 by omega, show (0 : Int) < (en : Int) + 1 by omega]
theorem row_stops (d0 d1 d2 d3 d4 d5 d6 d7 : Nat) (ρ : En) (h4 : ρ.length = 10) (h0 : ρ[0]? = some (some (.lst .sh ([d0, d1, d2, d3, d4, d5, d6, d7].map Nt)))) :
    lcGo ρ [9] (gN 9) tYesF E__law_to_row_2 ((List.range 6).map Nt) = some ((List.range 6).map fun j => .bl (stopB d0 d6 j)) := by
  refine lc_map fun a ha => ⟨ρ.set 9 (some (.int (a : Int))), ρ.set 9 (some (.int (a : Int))), by simp, ?_, by simp⟩
  have ha : a < 6 := by simpa using ha
  have e0 : (ρ.set 9 (some (T.int (a : Int))))[0]? = some (some (.lst .sh ([d0, d1, d2, d3, d4, d5, d6, d7].map Nt))) := by simpa using h0
  have e9 : (ρ.set 9 (some (T.int (a : Int))))[9]? = some (some (.int (a : Int))) := by simp [h4]
  generalize ρ.set 9 (some (T.int (a : Int))) = ρ' at e0 e9 ⊢
  simp at e0
  by_cases h3 : d0 = 3
  · subst h3
    have : a = 0 ∨ a = 1 ∨ a = 2 ∨ a = 3 ∨ a = 4 ∨ a = 5 := by omega
    have l1 : Nat.log2 1 < 9000 := by decide
    have l2 : Nat.log2 2 < 9000 := by decide
    have l3 : Nat.log2 4 < 9000 := by decide
    have l4 : Nat.log2 8 < 9000 := by decide
    have l5 : Nat.log2 16 < 9000 := by decide
    have l6 : Nat.log2 32 < 9000 := by decide
    rcases this with rfl | rfl | rfl | rfl | rfl | rfl <;> simp [E__law_to_row_2, e0, e9, gEq, stopB, l1, l2, l3, l4, l5, l6]
    all_goals
      congr 2
      rw [Bool.eq_iff_iff, beq_iff_eq, beq_iff_eq]
      omega
  · have h3' : (d0 == 3) = false := by simpa using h3
    have h5 : ((d0 : Int) == 3) = false := by simpa using (by omega : (d0 : Int) ≠ 3)
    simp [E__law_to_row_2, e0, e9, gEq, stopB, h3', h5]
theorem rng_8 : rngT 0 1 8 = (List.range 8).map Nt := rng_map 8
theorem rng_6 : rngT 0 1 6 = (List.range 6).map Nt := rng_map 6
/-- where an ask goes on for each worth -/
def askTos (d0 d6 : Nat) (tos : List Nat) (w : Nat) : List (Option Nat) := (List.range w).map fun j => if stopB d0 d6 j then none else some (tos.getD j 0)
theorem row_ask (d0 d6 : Nat) (tos : List Nat) (w : Nat) (hl : tos.length = 8) (hw : w ≤ 6) (ρ : En) (h4 : ρ.length = 10) (h0 : ρ[4]? = some (some (.lst .sh (tos.map Nt)))) (h8 : ρ[8]? = some (some (.lst .sh ((List.range 6).map fun j => .bl (stopB d0 d6 j))))) :
    lcGo ρ [9] (gN 9) tYesF E__law_to_row_3 ((List.range w).map Nt) = some ((askTos d0 d6 tos w).map encTo) := by
  unfold askTos
  rw [List.map_map]
  refine lc_map fun a ha => ⟨ρ.set 9 (some (.int (a : Int))), ρ.set 9 (some (.int (a : Int))), by simp, ?_, by simp⟩
  have ha : a < w := by simpa using ha
  have e0 : (ρ.set 9 (some (T.int (a : Int))))[4]? = some (some (.lst .sh (tos.map Nt))) := by simpa using h0
  have e8 : (ρ.set 9 (some (T.int (a : Int))))[8]? = some (some (.lst .sh ((List.range 6).map fun j => .bl (stopB d0 d6 j)))) := by simpa using h8
  have e9 : (ρ.set 9 (some (T.int (a : Int))))[9]? = some (some (.int (a : Int))) := by simp [h4]
  generalize ρ.set 9 (some (T.int (a : Int))) = ρ' at e0 e8 e9 ⊢
  have h5 : a < tos.length := by omega
  cases hs : stopB d0 d6 a <;> simp [E__law_to_row_3, e0, e8, e9, h5, show a < 6 by omega, Function.comp_def, hs, encTo]
theorem row_pre (d0 d1 d2 d3 d4 d5 d6 d7 : Nat) (ws : List Nat) (en hands : Nat) (he : en ≤ 1000) (hw0 : 0 < ws.length) (b w : Nat) (hb : d1 % ws.length = b) (hbm : b < ws.length) (hw : ws[b] = w) (hv0 : 0 < w) (rest : S) :
    (sSeq (sAsg (eLc (sRng1 (aCons (eK (.int 8)) aNil)) [9] (gN 9) tYesF E__law_to_row_1) (gN 4))
  (sSeq (sAsg (eOp gMod (eOp gIx (eBor 0) (eK (.int 1))) (eCb gLen (aCons (eBor 1) aNil))) (gN 5))
  (sSeq (sAsg (eOp gMod (eOp gIx (eBor 0) (eK (.int 2))) (eOp gIx (eBor 1) (eBor 5))) (gN 6))
  (sSeq (sAsg (eOp gMod (eOp gIx (eBor 0) (eK (.int 3))) (eOp gIx (eBor 1) (eBor 5))) (gN 7)) rest)))) [some (.lst .sh ([d0, d1, d2, d3, d4, d5, d6, d7].map Nt)), some (.tup (ws.map Nt)), some (.int (en : Int)), some (.int (hands : Int)), none, none, none, none, none, none] =
   rest [some (.lst .sh ([d0, d1, d2, d3, d4, d5, d6, d7].map Nt)), some (.tup (ws.map Nt)), some (.int (en : Int)), some (.int (hands : Int)), some (.lst .ow ((tosN d4 d5 en).map Nt)), some (.int (b : Int)), some (.int ((d2 % w : Nat) : Int)), some (.int ((d3 % w : Nat) : Int)), none, none] := by
  have hT := row_tos d0 d1 d2 d3 d4 d5 d6 d7 ws en hands [some (.lst .sh ([d0, d1, d2, d3, d4, d5, d6, d7].map Nt)), some (.tup (ws.map Nt)), some (.int (en : Int)), some (.int (hands : Int)), none, none, none, none, none, none] he rfl rfl rfl
  have eb : (d1 : Int) % (ws.length : Int) = (b : Int) := by rw [← hb]; simp
  simp at hT
  simp [in62_8, rng_8, hT, hw0, eb, hbm, hw, hv0]
theorem dfOf_run {n : Nat} {b : S} {as : List T} {t : T} (h : b (as.map some ++ List.replicate (n - as.length) none) = some (.ok (.rt t))) : dfOf n b as = some (.ok t) := by
  unfold dfOf
  rw [h]
theorem to_row_eq (d0 d1 d2 d3 d4 d5 d6 d7 : Nat) (ws : List Nat) (en hands many : Nat) (he : en ≤ 1000) (hd0 : d0 < 8) (hd7 : d7 < many) (hw0 : 0 < ws.length) (hw1 : ws.length ≤ 1000) (hv : ∀ b, b < ws.length → 0 < ws.getD b 0 ∧ ws.getD b 0 ≤ 6) :
    ∃ r, F__law_to_row [.lst .sh ([d0, d1, d2, d3, d4, d5, d6, d7].map Nt), .tup (ws.map Nt), .int (en : Int), .int (hands : Int)] = some (.ok (encR r)) ∧ RowOk ws hands many en r := by
  have hb : d1 % ws.length < ws.length := Nat.mod_lt _ hw0
  obtain ⟨b, hbe⟩ : ∃ b, d1 % ws.length = b := ⟨_, rfl⟩
  rw [hbe] at hb
  obtain ⟨hv0, hv1⟩ := hv b hb
  obtain ⟨w, hwe⟩ : ∃ w, ws.getD b 0 = w := ⟨_, rfl⟩
  have ew : ws[b] = w := by rw [← hwe]; simp [hb]
  rw [hwe] at hv0 hv1
  have hTl : (tosN d4 d5 en).length = 8 := by simp [tosN]
  have hTm : ∀ t ∈ tosN d4 d5 en, t ≤ en := fun t => tosN_le d4 d5 en t
  have P := fun rest => row_pre d0 d1 d2 d3 d4 d5 d6 d7 ws en hands he hw0 b w hbe hb ew hv0 rest
  have m2 : d2 % w < w := Nat.mod_lt _ hv0
  have m3 : d3 % w < w := Nat.mod_lt _ hv0
  generalize tosN d4 d5 en = tos at P hTl hTm
  generalize d2 % w = o at P m2
  generalize d3 % w = o' at P m3
  have ht0 : tos.getD 0 0 ≤ en := by
    have : tos.getD 0 0 = tos[0] := by simp [hTl]
    rw [this]
    exact hTm _ (by simp)
  have tl : tos[0]? = some (tos.getD 0 0) := by simp [hTl]
  generalize tos.getD 0 0 = t0 at ht0 tl
  have tl : atI (tos.map Nt) 0 = some (.int (t0 : Int)) := by
    show atI _ ((0 : Nat) : Int) = _
    rw [atI_nat']
    simp [tl]
  have D0 : ∀ k : Nat, ((d0 : Int) == (k : Int)) = (d0 == k) := nat_beq d0
  suffices H : ∃ r, (B__law_to_row ([.lst .sh ([d0, d1, d2, d3, d4, d5, d6, d7].map Nt), .tup (ws.map Nt), .int (en : Int), .int (hands : Int)].map some ++ List.replicate 6 none)) = some (.ok (.rt (encR r))) ∧ RowOk ws hands many en r by
    obtain ⟨r, h1, h2⟩ := H
    exact ⟨r, dfOf_run h1, h2⟩
  show ∃ r, B__law_to_row [some (.lst .sh ([d0, d1, d2, d3, d4, d5, d6, d7].map Nt)), some (.tup (ws.map Nt)), some (.int (en : Int)), some (.int (hands : Int)), none, none, none, none, none, none] = _ ∧ _
  unfold B__law_to_row
  rw [P]
  by_cases q0 : d0 = 0
  · refine ⟨.put b o t0, ?_, hb, by rw [hwe]; exact m2, ht0⟩
    subst q0
    simp [gEq, tl, encR]
  by_cases q1 : d0 = 1
  · refine ⟨.swap b o o' t0, ?_, hb, by rw [hwe]; exact m2, by rw [hwe]; exact m3, ht0⟩
    subst q1
    simp [gEq, tl, encR]
  have n0 : ((d0 : Int) == 0) = false := by rw [beq_eq_false_iff_ne]; omega
  have n1 : ((d0 : Int) == 1) = false := by rw [beq_eq_false_iff_ne]; omega
  by_cases q3 : d0 < 4
  · have hS := row_stops d0 d1 d2 d3 d4 d5 d6 d7 [some (.lst .sh ([d0, d1, d2, d3, d4, d5, d6, d7].map Nt)), some (.tup (ws.map Nt)), some (.int (en : Int)), some (.int (hands : Int)), some (.lst .sh (tos.map Nt)), some (.int (b : Int)), some (.int (o : Int)), some (.int (o' : Int)), none, none] rfl rfl
    have hA := row_ask d0 d6 tos w hTl hv1 [some (.lst .sh ([d0, d1, d2, d3, d4, d5, d6, d7].map Nt)), some (.tup (ws.map Nt)), some (.int (en : Int)), some (.int (hands : Int)), some (.lst .sh (tos.map Nt)), some (.int (b : Int)), some (.int (o : Int)), some (.int (o' : Int)), some (.lst .sh ((List.range 6).map fun j => .bl (stopB d0 d6 j))), none] rfl rfl rfl
    refine ⟨.ask b (askTos d0 d6 tos w), ?_, hb, by rw [hwe]; simp [askTos], fun t ht => ?_⟩
    · have hiw : in62 (w : Int) = true := in62_nat (by omega)
      simp at hS hA
      simp [gEq, n0, n1, show (d0 : Int) < 4 by omega, in62_6, rng_6, hS, hb, ew, hiw, rng_map, hA, encR, show w ≤ 1000000 by omega, Function.comp_def]
    · obtain ⟨j, hj, e⟩ := List.mem_map.mp ht
      have hj : j < w := by simpa using hj
      split at e
      · cases e
      · have : tos.getD j 0 = tos[j] := by simp [show j < tos.length by omega]
        rw [this] at e
        cases e
        exact hTm _ (by simp)
  have n3 : ¬ ((d0 : Int) < 4) := by omega
  by_cases q4 : d0 = 4
  · refine ⟨.any (tos.take (1 + d2 % 4)), ?_, ?_⟩
    · subst q4
      obtain ⟨c, hc⟩ : ∃ c : Nat, 1 + d2 % 4 = c := ⟨_, rfl⟩
      have e : (1 : Int) + (d2 : Int) % 4 = (c : Int) := by omega
      rw [hc]
      simp [gEq, e, encR, ← List.map_take]
    · refine ⟨by simp [hTl]; omega, by simp; omega, fun t ht => hTm t (List.mem_of_mem_take ht)⟩
  have n4 : ((d0 : Int) == 4) = false := by rw [beq_eq_false_iff_ne]; omega
  by_cases q5 : d0 = 5
  · refine ⟨.call d7 t0, ?_, hd7, ht0⟩
    subst q5
    simp [gEq, tl, encR]
  have n5 : ((d0 : Int) == 5) = false := by rw [beq_eq_false_iff_ne]; omega
  by_cases qh : w ≤ hands
  · refine ⟨.put b o' t0, ?_, hb, by rw [hwe]; exact m3, ht0⟩
    simp [gEq, n0, n1, n3, n4, n5, hb, ew, show (w : Int) ≤ (hands : Int) by omega, tl, encR]
  have nh : ¬ ((w : Int) ≤ (hands : Int)) := by omega
  by_cases q6 : d0 = 6
  · refine ⟨.take b t0, ?_, hb, by rw [hwe]; omega, ht0⟩
    subst q6
    simp [gEq, hb, ew, nh, tl, encR]
  · refine ⟨.give b t0, ?_, hb, by rw [hwe]; omega, ht0⟩
    have : d0 = 7 := by omega
    subst this
    simp [gEq, hb, ew, nh, tl, encR]
end Rh
namespace Rh
open PySem L2
open FL hiding Off
@[simp] theorem cs_int : shr ∘ T.int = T.int := rfl
@[simp] theorem cb_int : bor ∘ T.int = T.int := rfl
@[simp] theorem cn_int : nob ∘ T.int = fun _ => true := rfl
theorem cell_eq (ns : List Int) (k : Nat) : ∃ c, F__law_cell_at [.lst .sh (ns.map T.int), .int (k : Int)] = some (.ok (.int c)) := by
  by_cases h : k < ns.length
  · exact ⟨ns[k], by simp [F__law_cell_at, B__law_cell_at, dfOf, h]⟩
  · exact ⟨0, by simp [F__law_cell_at, B__law_cell_at, dfOf, h]⟩
def val (o : Out T) (y : T) : Prop := ∃ ρ, o = ok y ρ
@[simp] theorem val_ok (x y : T) (ρ : En) : val (ok x ρ) y ↔ x = y := ⟨fun ⟨ρ', h⟩ => by simp only [ok] at h; cases h; rfl, fun h => ⟨ρ, by rw [h]⟩⟩
theorem lc_val {α : Type} {ρ : En} {vs : List Nat} {g : Tg} {fe : M T} {k : α → T} {y : α → T} {l : List α} (h : ∀ a ∈ l, ∃ ρ2, g (k a) (wipeE ρ vs) = some ρ2 ∧ val (fe ρ2) (y a) ∧ alw (y a) = true) : lcGo ρ vs g tYesF fe (l.map k) = some (l.map y) :=
  lc_map fun a ha => by
    obtain ⟨ρ2, h1, ⟨ρ4, h2⟩, h3⟩ := h a ha
    exact ⟨ρ2, ρ4, h1, h2, h3⟩
/-- a comprehension whose elements are only known to be -/
theorem lc_ex {α β : Type} {ρ : En} {vs : List Nat} {g : Tg} {fe : M T} {k : α → T} {enc : β → T} {P : α → β → Prop} : ∀ {l : List α}, (∀ a ∈ l, ∃ b ρ2, g (k a) (wipeE ρ vs) = some ρ2 ∧ val (fe ρ2) (enc b) ∧ alw (enc b) = true ∧ P a b) → ∃ bs : List β, lcGo ρ vs g tYesF fe (l.map k) = some (bs.map enc) ∧ bs.length = l.length ∧ ∀ b ∈ bs, ∃ a ∈ l, P a b
  | [], _ => ⟨[], rfl, rfl, by simp⟩
  | a :: l, h => by
    obtain ⟨b, ρ2, h1, ⟨ρ4, h2⟩, h3, h4⟩ := h a (by simp)
    obtain ⟨bs, e1, e2, e3⟩ := lc_ex (l := l) (P := P) (enc := enc) (k := k) (ρ := ρ) (vs := vs) (g := g) (fe := fe) fun c hc => h c (List.mem_cons_of_mem _ hc)
    refine ⟨b :: bs, ?_, by simp [e2], ?_⟩
    · rw [List.map_cons, lc_go h1 (tYesF_ap (ρ := ρ2)) h2 h3, e1]
      rfl
    · intro c hc
      rcases List.mem_cons.mp hc with rfl | hc
      · exact ⟨a, by simp, h4⟩
      · obtain ⟨x, hx, hp⟩ := e3 c hc
        exact ⟨x, by simp [hx], hp⟩
theorem rept_Nt (R : Nat) (l : List Nat) : rept (R : Int) (l.map Nt) = ((List.replicate R l).flatten).map Nt := by
  unfold rept
  rw [Int.toNat_natCast, List.map_flatten, List.map_replicate]
theorem flat_len (l : List Nat) : ∀ R : Nat, ((List.replicate R l).flatten).length = R * l.length
  | 0 => by simp
  | R + 1 => by
    rw [List.replicate_succ, List.flatten_cons, List.length_append, flat_len l R, Nat.add_mul]
    omega
theorem flat_get (l : List Nat) (hl : l.length = 8) : ∀ (R j i : Nat), j < R → i < 8 → ((List.replicate R l).flatten).getD (8 * j + i) 0 = l.getD i 0
  | 0, j, i, h, _ => by omega
  | R + 1, 0, i, _, hi => by
    rw [List.replicate_succ, List.flatten_cons]
    simp [List.getElem?_append, hl, hi]
  | R + 1, j + 1, i, h, hi => by
    rw [List.replicate_succ, List.flatten_cons]
    have ih := flat_get l hl R j i (by omega) hi
    simp only [List.getD_eq_getElem?_getD] at ih ⊢
    rw [List.getElem?_append_right (by omega), hl]
    rw [show 8 * (j + 1) + i - 8 = 8 * j + i by omega]
    exact ih
theorem take8 (l : List Nat) (h : 8 ≤ l.length) : l.take 8 = [l.getD 0 0, l.getD 1 0, l.getD 2 0, l.getD 3 0, l.getD 4 0, l.getD 5 0, l.getD 6 0, l.getD 7 0] := by
  match l, h with
  | a :: b :: c :: d :: e :: f :: g :: i :: r, _ => rfl
theorem getD_drop' (l : List Nat) (m i : Nat) : (l.drop m).getD i 0 = l.getD (m + i) 0 := by
  simp [List.getD_eq_getElem?_getD, List.getElem?_drop]
/-- eight digits of a row -/
theorem slice8 (ds : List Nat) (R many j : Nat) (h : Dig ds (R :: (List.replicate R [8, 3, 6, 6, 9, 8, 64, many]).flatten)) (hj : j < R) :
    ∃ d0 d1 d2 d3 d4 d5 d6 d7, (ds.drop (1 + 8 * j)).take 8 = [d0, d1, d2, d3, d4, d5, d6, d7] ∧ d0 < 8 ∧ d7 < many := by
  have hlen : ds.length = 1 + R * 8 := by
    rw [h.1, List.length_cons, flat_len]
    simp
    omega
  have hd : ∀ i, i < 8 → ds.getD (1 + 8 * j + i) 0 < [8, 3, 6, 6, 9, 8, 64, many].getD i 0 := fun i hi => by
    have := h.2 (1 + 8 * j + i) (by rw [List.length_cons, flat_len]; simp; omega)
    have e : (R :: (List.replicate R [8, 3, 6, 6, 9, 8, 64, many]).flatten).getD (1 + 8 * j + i) 0 = ((List.replicate R [8, 3, 6, 6, 9, 8, 64, many]).flatten).getD (8 * j + i) 0 := by
      rw [show 1 + 8 * j + i = (8 * j + i) + 1 by omega]
      rfl
    rw [e, flat_get _ rfl R j i hj hi] at this
    exact this
  rw [take8 _ (by simp; omega)]
  refine ⟨_, _, _, _, _, _, _, _, rfl, ?_, ?_⟩
  · rw [getD_drop']
    exact hd 0 (by omega)
  · rw [getD_drop']
    exact hd 7 (by omega)
end Rh
namespace Rh
open PySem L2
open FL hiding Off
@[simp] theorem shr_RsO (l : List Row) : shr (encRs .ow l) = encRs .sh l := by simp [encRs]
@[simp] theorem shr_RsB (l : List Row) : shr (encRs .bo l) = encRs .sh l := by simp [encRs]
@[simp] theorem bor_RsO (l : List Row) : bor (encRs .ow l) = encRs .bo l := by simp [encRs]
@[simp] theorem bor_RsS (l : List Row) : bor (encRs .sh l) = encRs .sh l := by simp [encRs]
@[simp] theorem nob_RsO (l : List Row) : nob (encRs .ow l) = true := by simp [encRs]
@[simp] theorem nob_RsS (l : List Row) : nob (encRs .sh l) = true := by simp [encRs]
@[simp] theorem alw_RsO (l : List Row) : alw (encRs .ow l) = true := by simp [encRs]
@[simp] theorem cs_RsO : shr ∘ encRs .ow = encRs .sh := funext fun l => by simp
@[simp] theorem cs_RsB : shr ∘ encRs .bo = encRs .sh := funext fun l => by simp
@[simp] theorem cs_RsS : shr ∘ encRs .sh = encRs .sh := funext fun l => by simp
@[simp] theorem cb_RsO : bor ∘ encRs .ow = encRs .bo := funext fun l => by simp
@[simp] theorem cb_RsS : bor ∘ encRs .sh = encRs .sh := funext fun l => by simp
def encW (ws : List Nat) : T := .tup (ws.map Nt)
@[simp] theorem nol_encW (x : List Nat) : nol (encW x) = true := by simp [encW]
@[simp] theorem cs_encW : shr ∘ encW = encW := funext fun x => shr_nol _ (by simp)
@[simp] theorem cb_encW : bor ∘ encW = encW := funext fun x => bor_nol _ (by simp)
@[simp] theorem shr_encW (x : List Nat) : shr (encW x) = encW x := shr_nol _ (by simp)
@[simp] theorem bor_encW (x : List Nat) : bor (encW x) = encW x := bor_nol _ (by simp)
@[simp] theorem nob_encW (x : List Nat) : nob (encW x) = true := nob_nol _ (by simp)
def MenuOk (ws : List Nat) : Prop := 0 < ws.length ∧ ws.length ≤ 3 ∧ ∀ b, b < ws.length → 0 < ws.getD b 0 ∧ ws.getD b 0 ≤ 6
/-- a procedure's rows are in order -/
def ProcOk (ws : List Nat) (hands many R : Nat) (rs : List Row) : Prop := 0 < rs.length ∧ rs.length ≤ R ∧ ∀ r ∈ rs, RowOk ws hands many rs.length r
def blk (many : Nat) : List Nat := [8, 3, 6, 6, 9, 8, 64, many]
theorem plan_proc (script : T) (P4 head firsts : T) (ns : List Int) (R many k : Nat) (ws hds : List Nat) (acc : List (List Row)) (s1 s3 s4 s5 s7 s11 s12 s13 s14 : Option T) (hsc : script = .lst .sh (ns.map T.int)) (hR0 : 0 < R) (hR : R ≤ 100) (hm0 : 0 < many) (hm : many ≤ 100) (hk : k < many) (hw : MenuOk ws) (hh : hds.length ≤ 100) (ha : acc.length ≤ 1000) :
    ∃ rs en ds, L__law_plan_1 [some script, s1, some (.int (R : Int)), s3, s4, s5, some (.tup (ws.map Nt)), s7, some (.int (many : Int)), some (.lst .ow (hds.map Nt)), some (.lst .ow (acc.map (encRs .ow))), some (.int (k : Int)), s12, s13, s14] = some (.ok (.nx [some script, s1, some (.int (R : Int)), s3, s4, s5, some (.tup (ws.map Nt)), s7, some (.int (many : Int)), some (.lst .ow (hds.map Nt)), some (.lst .ow ((acc ++ [rs]).map (encRs .ow))), some (.int (k : Int)), some ds, some en, s14])) ∧ ProcOk ws hds.length many R rs := by
  subst hsc
  obtain ⟨c, hc⟩ := cell_eq ns (1 + k)
  obtain ⟨ds, hdg, hD⟩ := digits_eq c (1 + k) (R :: (List.replicate R (blk many)).flatten) (by
    intro n hn
    rcases List.mem_cons.mp hn with rfl | hn
    · omega
    · obtain ⟨l, hl, hn⟩ := List.mem_flatten.mp hn
      rw [(List.mem_replicate.mp hl).2] at hn
      simp [blk] at hn
      omega) (by
    rw [List.length_cons, flat_len]
    simp [blk]
    omega) (by omega)
  have hlen : ds.length = 1 + R * 8 := by
    rw [hD.1, List.length_cons, flat_len]
    simp [blk]
    omega
  have hd0 : ds.getD 0 0 < R := by
    have := hD.2 0 (by simp)
    simpa using this
  obtain ⟨e0, he0⟩ : ∃ e0, ds.getD 0 0 = e0 := ⟨_, rfl⟩
  rw [he0] at hd0
  have hds0 : atI (ds.map Nt) 0 = some (.int (e0 : Int)) := by
    show atI _ ((0 : Nat) : Int) = _
    rw [atI_nat', List.getElem?_map]
    have : ds[0]? = some e0 := by rw [← he0]; simp [show 0 < ds.length by omega]
    rw [this]
    rfl
  have hrept : rept (R : Int) [.int 8, .int 3, .int 6, .int 6, .int 9, .int 8, .int 64, .int (many : Int)] = ((List.replicate R (blk many)).flatten).map Nt := rept_Nt R (blk many)
  obtain ⟨en, hen⟩ : ∃ en, e0 + 1 = en := ⟨_, rfl⟩
  have hen2 : (1 : Int) + (e0 : Int) = (en : Int) := by omega
  have hcast : ((1 + k : Nat) : Int) = 1 + (k : Int) := by omega
  rw [hcast] at hc hdg
  obtain ⟨rs, l1, l2, l3⟩ := lc_ex (l := List.range en) (k := Nt) (enc := encR) (P := fun _ r => RowOk ws hds.length many en r) (vs := [14]) (g := gN 14) (fe := E__law_plan_3)
    (ρ := [some (.lst .sh (ns.map T.int)), s1.map shr, some (.int (R : Int)), s3.map shr, s4.map shr, s5.map shr, some (.tup (ws.map Nt)), s7.map shr, some (.int (many : Int)), some (.lst .sh (hds.map Nt)), some (.lst .sh (acc.map (encRs .sh))), some (.int (k : Int)), some (.lst .sh (ds.map Nt)), some (.int (en : Int)), s14.map shr]) (by
    intro j hj
    have hj : j < en := by simpa using hj
    obtain ⟨d0, d1, d2, d3, d4, d5, d6, d7, hs, h0, h7⟩ := slice8 ds R many j hD (by omega)
    obtain ⟨r, hr1, hr2⟩ := to_row_eq d0 d1 d2 d3 d4 d5 d6 d7 ws en hds.length many (by omega) h0 h7 hw.1 (by have := hw.2.1; omega) hw.2.2
    have hcut : cutT (ds.map Nt) (some (1 + 8 * (j : Int))) (some (9 + 8 * (j : Int))) = ([d0, d1, d2, d3, d4, d5, d6, d7]).map Nt := by
      have := cut_nn (xs := ds.map Nt) (a := 1 + 8 * j) (b := 9 + 8 * j)
      rw [show ((1 + 8 * j : Nat) : Int) = 1 + 8 * (j : Int) by omega, show ((9 + 8 * j : Nat) : Int) = 9 + 8 * (j : Int) by omega] at this
      rw [this, ← hs, ← List.map_drop, ← List.map_take]
      congr 2
      omega
    refine ⟨r, _, rfl, ?_, by simp, hr2⟩
    simp at hcut hr1
    simp [E__law_plan_3, hcut, hr1])
  refine ⟨rs, .int (en : Int), .lst .ow (ds.map Nt), ?_, ?_⟩
  · have hin : in62 (en : Int) = true := in62_nat (by omega)
    obtain ⟨fl, hfl⟩ : ∃ fl, (List.replicate R (blk many)).flatten = fl := ⟨_, rfl⟩
    have hfll : fl.length = R * 8 := by rw [← hfl, flat_len]; rfl
    rw [hfl] at hdg hrept
    simp at hdg
    simp [L__law_plan_1, hc, hrept, hdg, hds0, hen2, hin, rng_map, l1, hfll, show R < 9223372036854775808 by omega, show 8 * R ≤ 16777216 by omega, show 1 + R * 8 ≤ 16777216 by omega, show R * 8 + 1 ≤ 16777216 by omega, show R * 8 ≤ 16777215 by omega, show en ≤ 1000000 by omega, show acc.length < 16777216 by omega]
    rfl
  · rw [List.length_range] at l2
    refine ⟨by omega, by omega, fun r hr => ?_⟩
    obtain ⟨a, ha, hp⟩ := l3 r hr
    rw [l2]
    exact hp
theorem plan_loop (script : T) (ns : List Int) (R many : Nat) (ws hds : List Nat) (s1 s3 s4 s5 s7 s14 : Option T) (hsc : script = .lst .sh (ns.map T.int)) (hR0 : 0 < R) (hR : R ≤ 100) (hm0 : 0 < many) (hm : many ≤ 100) (hw : MenuOk ws) (hh : hds.length ≤ 100) :
    ∀ (ks : List Nat) (acc : List (List Row)) (s11 s12 s13 : Option T), (∀ k ∈ ks, k < many) → acc.length + ks.length ≤ 1000 → ∃ ps s11' s12' s13', loop (gN 11) L__law_plan_1 (ks.map Nt) [some script, s1, some (.int (R : Int)), s3, s4, s5, some (.tup (ws.map Nt)), s7, some (.int (many : Int)), some (.lst .ow (hds.map Nt)), some (.lst .ow (acc.map (encRs .ow))), s11, s12, s13, s14] = some (.ok (.nx [some script, s1, some (.int (R : Int)), s3, s4, s5, some (.tup (ws.map Nt)), s7, some (.int (many : Int)), some (.lst .ow (hds.map Nt)), some (.lst .ow ((acc ++ ps).map (encRs .ow))), s11', s12', s13', s14])) ∧ ps.length = ks.length ∧ ∀ rs ∈ ps, ProcOk ws hds.length many R rs
  | [], acc, s11, s12, s13, _, _ => ⟨[], s11, s12, s13, by simp, rfl, by simp⟩
  | k :: ks, acc, s11, s12, s13, hk, ha => by
    simp at ha
    obtain ⟨rs, en, ds, h1, h2⟩ := plan_proc script .non .non .non ns R many k ws hds acc s1 s3 s4 s5 s7 s11 s12 s13 s14 hsc hR0 hR hm0 hm (hk k (by simp)) hw hh (by omega)
    obtain ⟨ps, s11', s12', s13', h3, h4, h5⟩ := plan_loop script ns R many ws hds s1 s3 s4 s5 s7 s14 hsc hR0 hR hm0 hm hw hh ks (acc ++ [rs]) (some (.int (k : Int))) (some ds) (some en) (fun x hx => hk x (by simp [hx])) (by simp; omega)
    refine ⟨rs :: ps, s11', s12', s13', ?_, by simp [h4], ?_⟩
    · rw [List.map_cons, loop_go (by simp) h1, h3]
      simp
    · intro x hx
      rcases List.mem_cons.mp hx with rfl | hx
      · exact h2
      · exact h5 x hx
/-- a plan that is in order -/
structure PlanOk (P R H : Nat) (menu : List (List Nat)) (p : Plan) : Prop where
  w : MenuOk p.worths
  m : p.worths ∈ menu
  fl : p.firsts.length = p.worths.length
  fv : ∀ b, b < p.worths.length → p.firsts.getD b 0 < p.worths.getD b 0
  q0 : 0 < p.procs.length
  q1 : p.procs.length ≤ P
  h0 : 0 < p.hands.length
  h1 : p.hands.length ≤ H
  hq : ∀ q ∈ p.hands, q < p.procs.length
  pr : ∀ rs ∈ p.procs, ProcOk p.worths p.hands.length p.procs.length R rs
theorem plan_eq (ns : List Int) (P R H : Nat) (menu : List (List Nat)) (hP0 : 0 < P) (hP : P ≤ 100) (hR0 : 0 < R) (hR : R ≤ 100) (hH0 : 0 < H) (hH : H ≤ 3) (hm0 : 0 < menu.length) (hm1 : menu.length ≤ 1000) (hm : ∀ ws ∈ menu, MenuOk ws) :
    ∃ p, F__law_plan [.lst .sh (ns.map T.int), .int (P : Int), .int (R : Int), .int (H : Int), .lst .sh (menu.map encW)] = some (.ok (encPlan .ow p)) ∧ PlanOk P R H menu p := by
  obtain ⟨c, hc⟩ := cell_eq ns 0
  obtain ⟨ds, hdg, hD⟩ := digits_eq c 0 [menu.length, P, H, 6, 6, 6, 6, 6, 6] (by
    intro n hn
    simp at hn
    omega) (by simp) (by omega)
  have hlen : ds.length = 9 := hD.1
  have ix : ∀ m k : Nat, m + k < 9 → atI (ds.map Nt) ((m : Int) + (k : Int)) = some (.int ((ds.getD (m + k) 0 : Nat) : Int)) := fun m k h => by
    rw [show (m : Int) + (k : Int) = ((m + k : Nat) : Int) by omega, atI_nat', List.getElem?_map]
    have : ds[m + k]? = some (ds.getD (m + k) 0) := by simp [show m + k < ds.length by omega]
    rw [this]
    rfl
  have h0 : ds.getD 0 0 < menu.length := hD.2 0 (by simp)
  have h1 : ds.getD 1 0 < P := hD.2 1 (by simp)
  have h2 : ds.getD 2 0 < H := hD.2 2 (by simp)
  have i0 : atI (ds.map Nt) 0 = some (.int ((ds.getD 0 0 : Nat) : Int)) := ix 0 0 (by omega)
  have i1 : atI (ds.map Nt) 1 = some (.int ((ds.getD 1 0 : Nat) : Int)) := ix 1 0 (by omega)
  have i2 : atI (ds.map Nt) 2 = some (.int ((ds.getD 2 0 : Nat) : Int)) := ix 2 0 (by omega)
  have i3 : ∀ k : Nat, k < 3 → atI (ds.map Nt) (3 + (k : Int)) = some (.int ((ds.getD (3 + k) 0 : Nat) : Int)) := fun k h => ix 3 k (by omega)
  have i6 : ∀ k : Nat, k < 3 → atI (ds.map Nt) (6 + (k : Int)) = some (.int ((ds.getD (6 + k) 0 : Nat) : Int)) := fun k h => ix 6 k (by omega)
  clear ix hD
  obtain ⟨e0, he0⟩ : ∃ e, ds.getD 0 0 = e := ⟨_, rfl⟩
  obtain ⟨e1, he1⟩ : ∃ e, ds.getD 1 0 = e := ⟨_, rfl⟩
  obtain ⟨e2, he2⟩ : ∃ e, ds.getD 2 0 = e := ⟨_, rfl⟩
  obtain ⟨g3, hg3⟩ : ∃ g : Nat → Nat, ∀ k, g k = ds.getD (3 + k) 0 := ⟨fun k => ds.getD (3 + k) 0, fun _ => rfl⟩
  obtain ⟨g6, hg6⟩ : ∃ g : Nat → Nat, ∀ k, g k = ds.getD (6 + k) 0 := ⟨fun k => ds.getD (6 + k) 0, fun _ => rfl⟩
  rw [he0] at h0 i0
  rw [he1] at h1 i1
  rw [he2] at h2 i2
  simp only [← hg3] at i3
  simp only [← hg6] at i6
  obtain ⟨ws, hws⟩ : ∃ ws, menu[e0] = ws := ⟨_, rfl⟩
  have hwm : ws ∈ menu := by rw [← hws]; simp
  have hw := hm ws hwm
  obtain ⟨hw1, hw2, hw3⟩ := hw
  obtain ⟨many, hmany⟩ : ∃ many, e1 + 1 = many := ⟨_, rfl⟩
  have hmany2 : (1 : Int) + (e1 : Int) = (many : Int) := by omega
  obtain ⟨hn, hhn⟩ : ∃ hn, e2 + 1 = hn := ⟨_, rfl⟩
  have hhn2 : (1 : Int) + (e2 : Int) = (hn : Int) := by omega
  obtain ⟨firsts, hfi⟩ : ∃ firsts, ((List.range ws.length).map fun k => g3 k % ws.getD k 0) = firsts := ⟨_, rfl⟩
  obtain ⟨hands, hha⟩ : ∃ hands, ((List.range hn).map fun k => g6 k % many) = hands := ⟨_, rfl⟩
  have hal : hands.length = hn := by rw [← hha]; simp
  have l1 : lcGo [some (.lst .sh (ns.map T.int)), none, some (.int (R : Int)), none, some (.lst .sh (menu.map encW)), some (.lst .sh (ds.map Nt)), some (.tup (ws.map Nt)), none, none, none, none, none, none, none, none] [11] (gN 11) tYesF E__law_plan_1 ((List.range ws.length).map Nt) = some (firsts.map Nt) := by
    rw [← hfi, List.map_map]
    refine lc_val fun a ha => ⟨_, rfl, ?_, by simp⟩
    have ha : a < ws.length := by simpa using ha
    have hz := hw3 a ha
    simp [ha] at hz
    simp [E__law_plan_1, i3 a (by omega), ha, hz.1]
  have l2 : lcGo [some (.lst .sh (ns.map T.int)), none, some (.int (R : Int)), none, some (.lst .sh (menu.map encW)), some (.lst .sh (ds.map Nt)), some (.tup (ws.map Nt)), some (.lst .sh (firsts.map Nt)), some (.int (many : Int)), none, none, none, none, none, none] [11] (gN 11) tYesF E__law_plan_2 ((List.range hn).map Nt) = some (hands.map Nt) := by
    rw [← hha, List.map_map]
    refine lc_val fun a ha => ⟨_, rfl, ?_, by simp⟩
    have ha : a < hn := by simpa using ha
    simp [E__law_plan_2, i6 a (by omega), show 0 < many by omega]
  obtain ⟨ps, s11', s12', s13', l3, l4, l5⟩ := plan_loop (.lst .sh (ns.map T.int)) ns R many ws hands none none (some (.lst .sh (menu.map encW))) (some (.lst .ow (ds.map Nt))) (some (.lst .ow (firsts.map Nt))) none rfl hR0 hR (by omega) (by omega) ⟨hw1, hw2, hw3⟩ (by omega) (List.range many) [] none none none (by simp) (by simp; omega)
  refine ⟨⟨ws, firsts, ps, hands⟩, ?_, ?_⟩
  · have a1 : in62 (ws.length : Int) = true := in62_nat (by omega)
    have a2 : in62 (hn : Int) = true := in62_nat (by omega)
    have a3 : in62 (many : Int) = true := in62_nat (by omega)
    simp at hc hdg l1 l2 l3
    simp [F__law_plan, B__law_plan, dfOf, hc, hdg, i0, i1, i2, h0, hws, a1, a2, a3, rng_map, l1, l2, l3, hmany2, hhn2, show ws.length ≤ 1000000 by omega, show hn ≤ 1000000 by omega, encPlan, encW]
  · refine ⟨⟨hw1, hw2, hw3⟩, hwm, ?_, fun b hb => ?_, ?_, ?_, ?_, ?_, ?_, ?_⟩
    · show firsts.length = ws.length
      rw [← hfi]; simp
    · have hb : b < ws.length := hb
      have := hw3 b hb
      show firsts.getD b 0 < ws.getD b 0
      rw [← hfi]
      simp [hb] at this ⊢
      exact Nat.mod_lt _ this.1
    · simp [l4]; omega
    · simp [l4]; omega
    · show 0 < hands.length
      omega
    · show hands.length ≤ H
      omega
    · intro q hq
      have hq : q ∈ hands := hq
      rw [← hha] at hq
      obtain ⟨k, _, rfl⟩ := List.mem_map.mp hq
      simp [l4]
      exact Nat.mod_lt _ (by omega)
    · intro rs hrs
      have := l5 rs hrs
      simpa [l4] using this
end Rh
namespace Rh
open PySem L2
open FL hiding Off
theorem enT_map {α : Type} (f : α → T) (d : α) : ∀ (l : List α) (n : Nat), enT n (l.map f) = (List.range l.length).map fun k => T.tup [.int ((n + k : Nat) : Int), f (l.getD k d)]
  | [], n => rfl
  | a :: l, n => by
    rw [List.map_cons, enT, enT_map f d l (n + 1), List.length_cons, List.range_succ_eq_map, List.map_cons, List.map_map]
    congr 1
    apply List.map_congr_left
    intro k _
    simp only [Function.comp, Nat.succ_eq_add_one, List.getD_cons_succ]
    rw [show n + 1 + k = n + (k + 1) by omega]
/-- the names of a plan's things -/
def nms (n : Nat) : Nms := ⟨nm (n % 208), nm (n / 208 % 208), nm (n / 43264 % 208)⟩
def RowIn (p : Plan) (r : Row) : Prop := (isAny r = false → isCall r = false → boxOf r < p.worths.length) ∧ ∀ q to, r = .call q to → q < p.procs.length
theorem prog_row (p : Plan) (N : Nms) (r : Row) (acc : List Row) (s1 s2 s3 s5 s8 s9 s10 : Option T) (hr : RowIn p r) (ha : acc.length ≤ 1000000) :
    L__law_program_1 [none, s1, s2, s3, none, s5, some (.lst .ow (encBx N p.worths p.firsts)), some (.lst .ow ((List.range p.procs.length).map fun k => .str (N.p k))), s8, s9, s10, some (.lst .ow (acc.map (encRP N))), some (encR r)] = some (.ok (.nx [none, s1, s2, s3, none, s5, some (.lst .ow (encBx N p.worths p.firsts)), some (.lst .ow ((List.range p.procs.length).map fun k => .str (N.p k))), s8, s9, s10, some (.lst .ow ((acc ++ [r]).map (encRP N))), none])) := by
  have hb : ∀ b, b < p.worths.length → (encBx N p.worths p.firsts)[b]? = some (.tup [.str (N.b b), Nt (p.worths.getD b 0), Nt (p.firsts.getD b 0)]) := fun b h => by simp [encBx, h]
  have h1 := hr.1
  have hl : acc.length < 16777216 := by omega
  cases r with
  | any tos => simp [L__law_program_1, encR, encRP, gEq, gNe, hl]
  | call q to =>
    have hq := hr.2 q to rfl
    simp [L__law_program_1, encR, encRP, gEq, gNe, hq, hl]
  | _ =>
    have h2 := h1 rfl rfl
    have h3 := hb _ h2
    have c2 : ∀ {xs : List T}, cutT xs (some 2) none = xs.drop 2 := cut_from (b := 2)
    simp [boxOf] at h2 h3
    simp [L__law_program_1, encR, encRP, gEq, gNe, h3, hl, c2]
theorem prog_rows (p : Plan) (N : Nms) (s1 s2 s3 s5 s8 s9 s10 : Option T) : ∀ (l acc : List Row) (s12 : Option T), (∀ r ∈ l, RowIn p r) → acc.length + l.length ≤ 1000000 →
    ∃ s12', loop (gN 12) L__law_program_1 (l.map encR) [none, s1, s2, s3, none, s5, some (.lst .ow (encBx N p.worths p.firsts)), some (.lst .ow ((List.range p.procs.length).map fun k => .str (N.p k))), s8, s9, s10, some (.lst .ow (acc.map (encRP N))), s12] = some (.ok (.nx [none, s1, s2, s3, none, s5, some (.lst .ow (encBx N p.worths p.firsts)), some (.lst .ow ((List.range p.procs.length).map fun k => .str (N.p k))), s8, s9, s10, some (.lst .ow ((acc ++ l).map (encRP N))), s12']))
  | [], acc, s12, _, _ => ⟨s12, by simp⟩
  | r :: l, acc, s12, hl, ha => by
    simp at ha
    obtain ⟨s12', h⟩ := prog_rows p N s1 s2 s3 s5 s8 s9 s10 l (acc ++ [r]) none (fun x hx => hl x (by simp [hx])) (by simp; omega)
    refine ⟨s12', ?_⟩
    rw [List.map_cons, loop_go (by simp) (prog_row p N r acc s1 s2 s3 s5 s8 s9 s10 (hl r (by simp)) (by omega)), h]
    simp
def pcOf (N : Nms) (ps : List (List Row)) (k : Nat) : T := .tup [.str (N.p k), .lst .ow ((ps.getD k []).map (encRP N))]
theorem nob_pcOf (N : Nms) (ps : List (List Row)) (k : Nat) : nob (pcOf N ps k) = true := by simp [pcOf]
theorem prog_procs (p : Plan) (N : Nms) (hp : ∀ rs ∈ p.procs, rs.length ≤ 1000 ∧ ∀ r ∈ rs, RowIn p r) (s1 s2 s3 s5 : Option T) : ∀ (ks : List Nat) (acc : List T) (s9 s10 s11 s12 : Option T), (∀ k ∈ ks, k < p.procs.length) → acc.length + ks.length ≤ 1000000 →
    ∃ s9' s10' s11' s12', loop (gT 2 (gsCons (gN 9) (gsCons (gN 10) gsNil))) L__law_program_2 (ks.map fun k : Nat => T.tup [.int (k : Int), encRs .sh (p.procs.getD k [])]) [none, s1, s2, s3, none, s5, some (.lst .ow (encBx N p.worths p.firsts)), some (.lst .ow ((List.range p.procs.length).map fun k => .str (N.p k))), some (.lst .ow acc), s9, s10, s11, s12] = some (.ok (.nx [none, s1, s2, s3, none, s5, some (.lst .ow (encBx N p.worths p.firsts)), some (.lst .ow ((List.range p.procs.length).map fun k => .str (N.p k))), some (.lst .ow (acc ++ ks.map (pcOf N p.procs))), s9', s10', s11', s12']))
  | [], acc, s9, s10, s11, s12, _, _ => ⟨s9, s10, s11, s12, by simp⟩
  | k :: ks, acc, s9, s10, s11, s12, hk, ha => by
    simp at ha
    have hkk := hk k (by simp)
    obtain ⟨rs, hrs⟩ : ∃ rs, p.procs.getD k [] = rs := ⟨_, rfl⟩
    have hrm : rs ∈ p.procs := by
      rw [← hrs]
      simp [hkk]
    obtain ⟨hr1, hr2⟩ := hp rs hrm
    obtain ⟨t12, h⟩ := prog_rows p N s1 s2 s3 s5 (some (.lst .ow acc)) (some (.int (k : Int))) (some (encRs .sh rs)) rs [] s12 hr2 (by simp; omega)
    obtain ⟨s9', s10', s11', s12', ih⟩ := prog_procs p N hp s1 s2 s3 s5 ks (acc ++ [pcOf N p.procs k]) (some (.int (k : Int))) (some (encRs .sh rs)) none t12 (fun x hx => hk x (by simp [hx])) (by simp; omega)
    refine ⟨s9', s10', s11', s12', ?_⟩
    rw [List.map_cons, hrs, loop_go (ρ1 := [none, s1, s2, s3, none, s5, some (.lst .ow (encBx N p.worths p.firsts)), some (.lst .ow ((List.range p.procs.length).map fun k => .str (N.p k))), some (.lst .ow acc), some (.int (k : Int)), some (encRs .sh rs), s11, s12]) (by simp) (ρ2 := [none, s1, s2, s3, none, s5, some (.lst .ow (encBx N p.worths p.firsts)), some (.lst .ow ((List.range p.procs.length).map fun k => .str (N.p k))), some (.lst .ow (acc ++ [pcOf N p.procs k])), some (.int (k : Int)), some (encRs .sh rs), none, t12])]
    · rw [ih]
      simp
    · simp at h
      have hrs' : p.procs[k] = rs := by simpa [hkk] using hrs
      have er : encRs .sh rs = .lst .sh (rs.map encR) := rfl
      simp [L__law_program_2, er, encRs] at h ⊢
      simp [h, hkk, pcOf, hrs', show acc.length < 16777216 by omega]
@[simp] theorem shr_PcO (N : Nms) (ps : List (List Row)) : (encPc N .ow ps).map shr = encPc N .sh ps := by simp [encPc, Function.comp_def]
@[simp] theorem bor_PcO (N : Nms) (ps : List (List Row)) : (encPc N .ow ps).map bor = encPc N .bo ps := by simp [encPc, Function.comp_def]
@[simp] theorem shr_PcB (N : Nms) (ps : List (List Row)) : (encPc N .bo ps).map shr = encPc N .sh ps := by simp [encPc, Function.comp_def]
@[simp] theorem nob_PcO (N : Nms) (ps : List (List Row)) : (encPc N .ow ps).all nob = true := by simp [encPc, Function.comp_def]
@[simp] theorem alw_PcO (N : Nms) (ps : List (List Row)) : (encPc N .ow ps).all alw = true := by simp [encPc, Function.comp_def]
@[simp] theorem alw_Bx (N : Nms) (ws fs : List Nat) : (encBx N ws fs).all alw = true := by simp [encBx, Function.comp_def]
@[simp] theorem alw_Hd (N : Nms) (hs : List Nat) : (encHd N hs).all alw = true := by simp [encHd, Function.comp_def]
theorem PlanOk.rowIn {P R H : Nat} {menu : List (List Nat)} {p : Plan} (h : PlanOk P R H menu p) : ∀ rs ∈ p.procs, ∀ r ∈ rs, RowIn p r := by
  intro rs hrs r hr
  have := (h.pr rs hrs).2.2 r hr
  cases r <;> simp [RowOk] at this <;> refine ⟨?_, ?_⟩ <;> simp [boxOf, isAny, isCall, this] <;> try (intro _ _ h; simp_all)
theorem program_eq (P R H : Nat) (menu : List (List Nat)) (p : Plan) (n : Nat) (h : PlanOk P R H menu p) (hP : P ≤ 8) (hR : R ≤ 1000) (hH : H ≤ 8) :
    F__law_program [encPlan .sh p, .int (n : Int)] = some (.ok (encProg (nms n) .ow p)) := by
  have hw := h.w.2.1
  have hq := h.q1
  have hh := h.h1
  obtain ⟨N, hN⟩ : ∃ N, nms n = N := ⟨_, rfl⟩
  have nb : ∀ k, k < p.worths.length → F__law_name [.int ((n % 208 : Nat) : Int), .int (k : Int)] = some (.ok (.str (N.b k))) := fun k hk => by rw [← hN]; exact name_eq _ k (Nat.mod_lt _ (by decide)) (by omega)
  have np : ∀ k, k < p.procs.length → F__law_name [.int ((n / 208 % 208 : Nat) : Int), .int (k : Int)] = some (.ok (.str (N.p k))) := fun k hk => by rw [← hN]; exact name_eq _ k (Nat.mod_lt _ (by decide)) (by omega)
  have nh : ∀ k, k < p.hands.length → F__law_name [.int ((n / 43264 % 208 : Nat) : Int), .int (k : Int)] = some (.ok (.str (N.h k))) := fun k hk => by rw [← hN]; exact name_eq _ k (Nat.mod_lt _ (by decide)) (by omega)
  rw [hN]
  have g1 : Nat.log2 208 < 9000 := by decide
  have g2 : Nat.log2 43264 < 9000 := by decide
  have l1 : ∀ ρ : En, ρ.length = 13 → ρ[1]? = some (some (.int (n : Int))) → ρ[2]? = some (some (.tup (p.worths.map Nt))) → ρ[3]? = some (some (.lst .sh (p.firsts.map Nt))) → lcGo ρ [9] (gN 9) tYesF E__law_program_1 ((List.range p.worths.length).map Nt) = some (encBx N p.worths p.firsts) := by
    intro ρ h0 h1 h2 h3
    unfold encBx
    refine lc_val fun k hk => ⟨ρ.set 9 (some (.int (k : Int))), by simp, ?_, by simp⟩
    have hk : k < p.worths.length := by simpa using hk
    have e1 : (ρ.set 9 (some (T.int (k : Int))))[1]? = some (some (.int (n : Int))) := by simpa using h1
    have e2 : (ρ.set 9 (some (T.int (k : Int))))[2]? = some (some (.tup (p.worths.map Nt))) := by simpa using h2
    have e3 : (ρ.set 9 (some (T.int (k : Int))))[3]? = some (some (.lst .sh (p.firsts.map Nt))) := by simpa using h3
    have e9 : (ρ.set 9 (some (T.int (k : Int))))[9]? = some (some (.int (k : Int))) := by simp [h0]
    generalize ρ.set 9 (some (T.int (k : Int))) = ρ' at e1 e2 e3 e9 ⊢
    have := nb k hk
    simp at this
    simp [E__law_program_1, e1, e2, e3, e9, this, hk, h.fl]
  have l2 : ∀ ρ : En, ρ.length = 13 → ρ[1]? = some (some (.int (n : Int))) → lcGo ρ [9] (gN 9) tYesF E__law_program_2 ((List.range p.procs.length).map Nt) = some ((List.range p.procs.length).map fun k => T.str (N.p k)) := by
    intro ρ h0 h1
    refine lc_val fun k hk => ⟨ρ.set 9 (some (.int (k : Int))), by simp, ?_, by simp⟩
    have hk : k < p.procs.length := by simpa using hk
    have e1 : (ρ.set 9 (some (T.int (k : Int))))[1]? = some (some (.int (n : Int))) := by simpa using h1
    have e9 : (ρ.set 9 (some (T.int (k : Int))))[9]? = some (some (.int (k : Int))) := by simp [h0]
    generalize ρ.set 9 (some (T.int (k : Int))) = ρ' at e1 e9 ⊢
    have := np k hk
    simp at this
    simp [E__law_program_2, e1, e9, this, g1]
  have l3 : ∀ ρ : En, ρ.length = 13 → ρ[1]? = some (some (.int (n : Int))) → ρ[7]? = some (some (.lst .sh ((List.range p.procs.length).map fun k => T.str (N.p k)))) → lcGo ρ [9, 10] (gT 2 (gsCons (gN 9) (gsCons (gN 10) gsNil))) tYesF E__law_program_3 ((List.range p.hands.length).map fun k : Nat => T.tup [.int (k : Int), Nt (p.hands.getD k 0)]) = some (encHd N p.hands) := by
    intro ρ h0 h1 h7
    unfold encHd
    refine lc_val fun k hk => ⟨((ρ.set 10 none).set 9 (some (.int (k : Int)))).set 10 (some (Nt (p.hands.getD k 0))), by simp, ?_, by simp⟩
    have hk : k < p.hands.length := by simpa using hk
    have hj : p.hands.getD k 0 < p.procs.length := by
      have : p.hands.getD k 0 = p.hands[k] := by simp [hk]
      rw [this]
      exact h.hq _ (by simp)
    generalize p.hands.getD k 0 = q at hj ⊢
    have e1 : (((ρ.set 10 none).set 9 (some (T.int (k : Int)))).set 10 (some (Nt q)))[1]? = some (some (.int (n : Int))) := by simpa using h1
    have e7 : (((ρ.set 10 none).set 9 (some (T.int (k : Int)))).set 10 (some (Nt q)))[7]? = some (some (.lst .sh ((List.range p.procs.length).map fun k => T.str (N.p k)))) := by simpa using h7
    have e9 : (((ρ.set 10 none).set 9 (some (T.int (k : Int)))).set 10 (some (Nt q)))[9]? = some (some (.int (k : Int))) := by simp [h0]
    have e10 : (((ρ.set 10 none).set 9 (some (T.int (k : Int)))).set 10 (some (Nt q)))[10]? = some (some (.int (q : Int))) := by simp [h0]
    generalize ((ρ.set 10 none).set 9 (some (T.int (k : Int)))).set 10 (some (Nt q)) = ρ' at e1 e7 e9 e10 ⊢
    have := nh k hk
    simp at this
    simp [E__law_program_3, e1, e7, e9, e10, this, g2, hj]
  obtain ⟨s9', s10', s11', s12', l4⟩ := prog_procs p N (fun rs hrs => ⟨by have := (h.pr rs hrs).2.1; omega, h.rowIn rs hrs⟩) (some (.int (n : Int))) (some (.tup (p.worths.map Nt))) (some (.lst .sh (p.firsts.map Nt))) (some (.lst .sh (p.hands.map Nt))) (List.range p.procs.length) [] none none none none (by simp) (by simp; omega)
  have a1 : in62 (p.worths.length : Int) = true := in62_nat (by omega)
  have a2 : in62 (p.procs.length : Int) = true := in62_nat (by omega)
  have t1 : enT 0 (p.procs.map (encRs .sh)) = (List.range p.procs.length).map fun k : Nat => T.tup [.int (k : Int), encRs .sh (p.procs.getD k [])] := by
    rw [enT_map (encRs .sh) []]
    simp
  have t2 : enT 0 (p.hands.map Nt) = (List.range p.hands.length).map fun k : Nat => T.tup [.int (k : Int), Nt (p.hands.getD k 0)] := by
    rw [enT_map Nt 0]
    simp
  have fin : (List.range p.procs.length).map (pcOf N p.procs) = encPc N .ow p.procs := rfl
  have ft : List.map (shr ∘ fun k => T.str (N.p k)) (List.range p.procs.length) = (List.range p.procs.length).map fun k => T.str (N.p k) := rfl
  have nr : nob (.lst .ow (encPc N .ow p.procs)) = true := by simp [encPc]
  have hbx := shr_Bx N p.worths p.firsts
  obtain ⟨tl, htl⟩ : ∃ tl, ((List.range p.procs.length).map fun k => T.str (N.p k)) = tl := ⟨_, rfl⟩
  have ts : tl.map shr = tl := by rw [← htl]; simp [Function.comp_def]
  have tn : tl.all nob = true := by rw [← htl]; simp
  simp only [htl] at l2 l3 l4 ft
  rw [List.nil_append, fin] at l4
  simp only [List.getD_eq_getElem?_getD] at l3 l4
  simp only [Nt_ap] at l3
  simp [F__law_program, B__law_program, dfOf, encPlan, a1, a2, rng_map, l1, l2, l3, l4, t1, t2, ts, tn, show p.worths.length ≤ 1000000 by omega, show p.procs.length ≤ 1000000 by omega, show p.hands.length ≤ 1000000 by omega, encProg]
end Rh
namespace Rh
open PySem L2
open FL hiding Off
structure NmOk (N : Nms) : Prop where
  b : ∀ k, k < 8 → PyData.strOk (N.b k) = true ∧ (N.b k).cps.size ≤ 8
  p : ∀ k, k < 8 → PyData.strOk (N.p k) = true ∧ (N.p k).cps.size ≤ 8
  h : ∀ k, k < 8 → PyData.strOk (N.h k) = true ∧ (N.h k).cps.size ≤ 8
theorem nms_ok (n : Nat) : NmOk (nms n) :=
  ⟨fun k hk => name_ok _ k (Nat.mod_lt _ (by decide)) hk, fun k hk => name_ok _ k (Nat.mod_lt _ (by decide)) hk, fun k hk => name_ok _ k (Nat.mod_lt _ (by decide)) hk⟩
end Rh
namespace FL
open PySem PySem.Spec L2
open PyProof.Rows hiding St
section
variable {p : M Pl} {f : M T} {ρ : En}
@[simp] theorem sExt_ap : sExt p f ρ = sb (p ρ) fun ip ρ => if (ownP ρ ip).isSome = true then (sb (f ρ) fun y ρ => match y, ownP ρ ip with
  | .lst .ow zs, some us => if nob (.lst .ow zs) = true ∧ us.length + zs.length ≤ 16777216 then some (.ok (.nx (putP ρ ip (us ++ zs)))) else none
  | _, _ => none) else none := rfl
end
end FL
namespace Rh
open PySem L2
open FL hiding Off
/-! ## texts of words -/
@[simp] theorem cb_st : bor ∘ T.str = T.str := funext fun x => by simp
@[simp] theorem cs_st : FL.shr ∘ T.str = T.str := funext fun x => by simp
@[simp] theorem cn_st : FL.nob ∘ T.str = fun _ => true := funext fun x => by simp
@[simp] theorem ca_st : FL.alw ∘ T.str = fun _ => true := funext fun x => by simp
@[simp] theorem isS_st (x : Str) : isS (.str x) = true := rfl
theorem strOk_app (a b : Str) : PyData.strOk (a ++ b) = (PyData.strOk a && PyData.strOk b) := by
  show (a.cps ++ b.cps).all _ = _
  rw [Array.all_append]
  rfl
def jn (a : Str) (ys : List Str) : Str := Txt.join a ys
theorem jn_eq (a : Str) (ys : List Str) : jn a ys = Str.join a ys := StrLaws.glued_eq_join a ys
theorem jn_one (a x : Str) : jn a [x] = x := by rw [jn_eq]; rfl
theorem jn_cons (a x y : Str) (r : List Str) : jn a (x :: y :: r) = x ++ a ++ jn a (y :: r) := by rw [jn_eq, jn_eq]; rfl
theorem strOk_jn (a : Str) (ha : PyData.strOk a = true) : ∀ ys : List Str, (∀ y ∈ ys, PyData.strOk y = true) → PyData.strOk (jn a ys) = true
  | [], _ => by
    rw [jn_eq]
    show PyData.strOk Str.empty = true
    decide +kernel
  | [x], h => by rw [jn_one]; exact h x (by simp)
  | x :: y :: r, h => by
    rw [jn_cons, strOk_app, strOk_app, h x (by simp), ha, strOk_jn a ha (y :: r) fun z hz => h z (by simp [hz])]
    rfl
theorem jn_len (a : Str) (ys : List Str) (c n : Nat) (hc : ∀ y ∈ ys, y.length ≤ c) (hn : ys.length ≤ n) : (jn a ys).length ≤ n * (c + a.length) ∧ (ys.map (·.length)).sum + ys.length * a.length ≤ n * (c + a.length) := by
  have h1 := StrLaws.join_length_le a ys
  rw [← jn_eq] at h1
  have h2 : ∀ l : List Str, (∀ y ∈ l, y.length ≤ c) → (l.map (·.length)).sum ≤ l.length * c := fun l => by
    induction l with
    | nil => intro _; simp
    | cons y l ih =>
      intro h
      have := ih fun z hz => h z (by simp [hz])
      have := h y (by simp)
      simp only [List.map_cons, List.sum_cons, List.length_cons, Nat.add_mul]
      omega
  have h3 := h2 ys hc
  have h4 : ys.length * (c + a.length) ≤ n * (c + a.length) := Nat.mul_le_mul hn (Nat.le_refl _)
  rw [Nat.mul_add] at h4
  exact ⟨by omega, by omega⟩
theorem strsT_map (xs : List Str) : strsT (xs.map T.str) = some xs := by
  induction xs with
  | nil => rfl
  | cons x xs ih => rw [List.map_cons]; simp [strsT, ih]
theorem gJoin_map (a : Str) (o : Ow) (ys : List Str) (h : (ys.map (·.length)).sum + ys.length * a.length ≤ 16777216) : gJoin (.str a) [.lst o (ys.map T.str)] = some (.str (jn a ys)) := by
  unfold gJoin
  simp only [strsT_map]
  exact if_pos h
def toW : Option Nat → Str
  | none => "-"
  | some n => (toString (n : Int) : String)
def WOk (x : Str) : Prop := PyData.strOk x = true ∧ x.length ≤ 30
theorem WOk_int (n : Nat) (h : n ≤ 1000000) : WOk (toW (some n)) := by
  have h2 : ((n : Int)).natAbs < 10 ^ 8 := by
    have : ((n : Int)).natAbs = n := Int.natAbs_natCast n
    rw [this]
    have : (1000000 : Nat) < 10 ^ 8 := by decide
    omega
  have e := int_text_length_le10 (k := 8) (by decide) h2
  refine ⟨shown_ok (n := 1) (t := .int n) (by simp), ?_⟩
  show (Str.ofString (toString (n : Int))).length ≤ 30
  rw [ofString_length]
  exact Nat.le_trans e (by decide)
theorem WOk_to (x : Option Nat) (h : ∀ n, x = some n → n ≤ 1000000) : WOk (toW x) := by
  cases x with
  | none => exact ⟨by decide +kernel, by decide +kernel⟩
  | some n => exact WOk_int n (h n rfl)
theorem log2_1920 (n : Nat) (h : n ≤ 1000000) : n.log2 < 1920 := by
  by_cases z : n = 0
  · subst z; decide
  · have := (Nat.log2_lt z (k := 20)).mpr (by omega)
    omega
theorem gStr_nat (n : Nat) (h : n ≤ 1000000) : gStr [Nt n] = some (.str (toW (some n))) := if_pos (by
  rw [Int.natAbs_natCast]
  exact log2_1920 n h)
theorem gStrU_nat (n : Nat) (h : n ≤ 1000000) : gStrU [Nt n] = some (.str (toW (some n))) := if_pos (by
  rw [Int.natAbs_natCast]
  exact log2_1920 n h)
theorem to_word_eq (x : Option Nat) (h : ∀ n, x = some n → n ≤ 1000000) : F_to_word [encTo x] = some (.ok (.str (toW x))) ∧ F__law_to [encTo x] = some (.ok (.str (toW x))) := by
  cases x with
  | none => exact ⟨by simp [F_to_word, B_to_word, dfOf, toW], by simp [F__law_to, B__law_to, dfOf, toW]⟩
  | some n =>
    have e := gStr_nat n (h n rfl)
    have ee : encTo (some n) = .int (n : Int) := rfl
    simp at e
    rw [ee]
    exact ⟨by simp [F_to_word, B_to_word, dfOf, e], by simp [F__law_to, B__law_to, dfOf, e]⟩
end Rh
namespace Rh
open PySem L2
open FL hiding Off
/-! ## a row as words -/
inductive Pt : T → List Str → Prop where
  | s (x : Str) : WOk x → Pt (.str x) [x]
  | i (n : Nat) : n ≤ 1000000 → Pt (Nt n) [toW (some n)]
  | t (tos : List (Option Nat)) : (∀ o ∈ tos, ∀ n, o = some n → n ≤ 1000000) → tos.length ≤ 20 → Pt (.tup (tos.map encTo)) (tos.map toW)
inductive Pts : List T → List Str → Prop where
  | nil : Pts [] []
  | cons {t : T} {w : List Str} {ts : List T} {ws : List Str} : Pt t w → Pts ts ws → Pts (t :: ts) (w ++ ws)
theorem row_lc {ρ : En} (hρ : ρ.length = 4) (tos : List (Option Nat)) (h : ∀ o ∈ tos, ∀ n, o = some n → n ≤ 1000000) : lcGo ρ [3] (gN 3) tYesF E_row_text_1 (tos.map encTo) = some (tos.map fun o => T.str (toW o)) ∧ lcGo ρ [3] (gN 3) tYesF E__law_words_1 (tos.map encTo) = some (tos.map fun o => T.str (toW o)) :=
  ⟨lc_map fun o ho => by
    have e := (to_word_eq o (h o ho)).1
    exact ⟨_, _, by simp; rfl, by simp [E_row_text_1, hρ, e]; rfl, by simp⟩,
  lc_map fun o ho => by
    have e := (to_word_eq o (h o ho)).2
    exact ⟨_, _, by simp; rfl, by simp [E__law_words_1, hρ, e]; rfl, by simp⟩⟩
theorem Pt.len {t : T} {w : List Str} (h : Pt t w) : w.length ≤ 20 := by
  cases h <;> simp_all
theorem Pts.len {t : List T} {w : List Str} (h : Pts t w) : w.length ≤ t.length * 20 := by
  induction h with
  | nil => simp
  | cons h1 _ ih =>
    have := h1.len
    simp
    omega
theorem Pt.ok {t : T} {w : List Str} (h : Pt t w) : ∀ x ∈ w, WOk x := by
  cases h with
  | s x h => simpa using h
  | i n h => simpa using WOk_int n h
  | t tos h _ =>
    intro x hx
    obtain ⟨o, ho, rfl⟩ := List.mem_map.mp hx
    exact WOk_to o (h o ho)
theorem Pts.ok {t : List T} {w : List Str} (h : Pts t w) : ∀ x ∈ w, WOk x := by
  induction h with
  | nil => simp
  | cons h1 _ ih =>
    intro x hx
    rcases List.mem_append.mp hx with hx | hx
    · exact h1.ok x hx
    · exact ih x hx
theorem row_loop {ts : List T} {ws : List Str} (h : Pts ts ws) : ∀ (acc : List Str) (x0 x2 x3 : Option T), acc.length + ts.length * 20 ≤ 100000 →
    ∃ t2 t3, loop (gN 2) L_row_text_1 ts [x0, some (.lst .ow (acc.map T.str)), x2, x3] = some (.ok (.nx [x0, some (.lst .ow ((acc ++ ws).map T.str)), t2, t3])) := by
  induction h with
  | nil => exact fun acc x0 x2 x3 _ => ⟨x2, x3, by simp⟩
  | @cons t w ts ws h1 h2 ih =>
    intro acc x0 x2 x3 hl
    simp at hl
    have hlw := h1.len
    have step : ∃ t2, gN 2 t [x0, some (.lst .ow (acc.map T.str)), x2, x3] = some [x0, some (.lst .ow (acc.map T.str)), some t, x3] ∧ L_row_text_1 [x0, some (.lst .ow (acc.map T.str)), some t, x3] = some (.ok (.nx [x0, some (.lst .ow ((acc ++ w).map T.str)), t2, x3])) := by
      cases h1 with
      | s x _ => exact ⟨some (.str x), by simp, by simp [L_row_text_1, isTy_tuple, show acc.length < 16777216 by omega]⟩
      | i n hn =>
        have e : gStrU [.int (n : Int)] = some (.str (toW (some n))) := gStrU_nat n hn
        refine ⟨some (Nt n), by simp, ?_⟩
        generalize toW (some n) = z at e ⊢
        simp [-gStrU_i, L_row_text_1, isTy_tuple, e, show acc.length < 16777216 by omega]
      | t tos hb hl2 =>
        have e := fun ρ hρ => (row_lc (ρ := ρ) hρ tos hb).1
        exact ⟨_, by simp, by simp [L_row_text_1, isTy_tuple, e, Function.comp_def, show tos.length ≤ 1000000 by omega, show acc.length + tos.length ≤ 16777216 by omega]; rfl⟩
    obtain ⟨t2, s1, s2⟩ := step
    obtain ⟨u2, u3, e⟩ := ih (acc ++ w) x0 t2 x3 (by simp; omega)
    refine ⟨u2, u3, ?_⟩
    rw [loop_go s1 s2, e]
    simp
theorem words_loop {ts : List T} {ws : List Str} (h : Pts ts ws) : ∀ (acc : List Str) (x0 x2 x3 : Option T), acc.length + ts.length * 20 ≤ 100000 →
    ∃ t2 t3, loop (gN 2) L__law_words_1 ts [x0, some (.lst .ow (acc.map T.str)), x2, x3] = some (.ok (.nx [x0, some (.lst .ow ((acc ++ ws).map T.str)), t2, t3])) := by
  induction h with
  | nil => exact fun acc x0 x2 x3 _ => ⟨x2, x3, by simp⟩
  | @cons t w ts ws h1 h2 ih =>
    intro acc x0 x2 x3 hl
    simp at hl
    have hlw := h1.len
    have step : ∃ t2, gN 2 t [x0, some (.lst .ow (acc.map T.str)), x2, x3] = some [x0, some (.lst .ow (acc.map T.str)), some t, x3] ∧ L__law_words_1 [x0, some (.lst .ow (acc.map T.str)), some t, x3] = some (.ok (.nx [x0, some (.lst .ow ((acc ++ w).map T.str)), t2, x3])) := by
      cases h1 with
      | s x _ => exact ⟨some (.str x), by simp, by simp [L__law_words_1, isTy_tuple, show acc.length < 16777216 by omega]⟩
      | i n hn =>
        have e : gStrU [.int (n : Int)] = some (.str (toW (some n))) := gStrU_nat n hn
        refine ⟨some (Nt n), by simp, ?_⟩
        generalize toW (some n) = z at e ⊢
        simp [-gStrU_i, L__law_words_1, isTy_tuple, e, show acc.length < 16777216 by omega]
      | t tos hb hl2 =>
        have e := fun ρ hρ => (row_lc (ρ := ρ) hρ tos hb).2
        exact ⟨_, by simp, by simp [L__law_words_1, isTy_tuple, e, Function.comp_def, show tos.length ≤ 1000000 by omega, show acc.length + tos.length ≤ 16777216 by omega]; rfl⟩
    obtain ⟨t2, s1, s2⟩ := step
    obtain ⟨u2, u3, e⟩ := ih (acc ++ w) x0 t2 x3 (by simp; omega)
    refine ⟨u2, u3, ?_⟩
    rw [loop_go s1 s2, e]
    simp
theorem row_text_gen (w : Str) {ts : List T} {ws : List Str} (h : Pts ts ws) (hw : WOk w) (hl : ts.length ≤ 10) (hn : nols ts = true) :
    F_row_text [.tup (.str w :: ts)] = some (.ok (.str (jn " " (w :: ws)))) ∧ F__law_words [.tup (.str w :: ts)] = some (.ok (.str (jn " " (w :: ws)))) := by
  have h1 := h.len
  have h2 : ∀ y ∈ w :: ws, y.length ≤ 30 := fun y hy => by
    rcases List.mem_cons.mp hy with rfl | hy
    · exact hw.2
    · exact (h.ok y hy).2
  have hj := (jn_len " " (w :: ws) 30 300 h2 (by simp; omega)).2
  have gj := gJoin_map " " .bo (w :: ws) (by
    refine Nat.le_trans hj ?_
    have : (" " : Str).length = 1 := by decide +kernel
    omega)
  obtain ⟨t2, t3, r1⟩ := row_loop h [w] (some (.tup (.str w :: ts))) none none (by simp; omega)
  obtain ⟨u2, u3, r2⟩ := words_loop h [w] (some (.tup (.str w :: ts))) none none (by simp; omega)
  have hsh : ts.map FL.shr = ts := by
    have := shr_nol (.tup ts) hn
    simpa using this
  have hbo : ts.map bor = ts := by
    have := bor_nol (.tup ts) hn
    simpa using this
  have hnb : (∀ x, x ∈ ts → FL.nob x = true) = True := by
    have := nob_nol (.tup ts) hn
    exact eq_true (by simpa using this)
  have hcut : cutT (T.str w :: ts) (some 1) none = ts := by simp [cutT, HT.sIx]
  simp at r1 r2 gj
  exact ⟨by simp [F_row_text, B_row_text, dfOf, hsh, hbo, hnb, hcut, r1, gj], by simp [F__law_words, B__law_words, dfOf, hsh, hbo, hnb, hcut, r2, gj]⟩
end Rh
namespace Rh
open PySem L2
open FL hiding Off
/-! ## a program as lines -/
def RowB : Row → Prop
  | .put b w to => b < 8 ∧ w ≤ 1000000 ∧ to ≤ 1000000
  | .swap b o w to => b < 8 ∧ o ≤ 1000000 ∧ w ≤ 1000000 ∧ to ≤ 1000000
  | .ask b tos => b < 8 ∧ tos.length ≤ 20 ∧ ∀ o ∈ tos, ∀ n, o = some n → n ≤ 1000000
  | .any tos => tos.length ≤ 20 ∧ ∀ n ∈ tos, n ≤ 1000000
  | .call q to => q < 8 ∧ to ≤ 1000000
  | .take b to => b < 8 ∧ to ≤ 1000000
  | .give b to => b < 8 ∧ to ≤ 1000000
structure PB (p : Plan) : Prop where
  w : p.worths.length ≤ 8
  q : p.procs.length ≤ 8
  h : p.hands.length ≤ 8
  wv : ∀ k, p.worths.getD k 0 ≤ 1000000 ∧ p.firsts.getD k 0 ≤ 1000000
  pr : ∀ rs ∈ p.procs, rs.length ≤ 20 ∧ ∀ r ∈ rs, RowB r
  hv : ∀ q ∈ p.hands, q < 8
def wdR (N : Nms) : Row → List Str
  | .put b w to => ["put", N.b b, toW (some w), toW (some to)]
  | .swap b o w to => ["swap", N.b b, toW (some o), toW (some w), toW (some to)]
  | .ask b tos => "ask" :: N.b b :: tos.map toW
  | .any tos => "any" :: tos.map fun n => toW (some n)
  | .call q to => ["call", N.p q, toW (some to)]
  | .take b to => ["take", N.b b, toW (some to)]
  | .give b to => ["give", N.b b, toW (some to)]
def rowTx (N : Nms) (r : Row) : Str := jn " " (wdR N r)
theorem WOk_nm {x : Str} (h : PyData.strOk x = true ∧ x.cps.size ≤ 8) : WOk x := ⟨h.1, Nat.le_trans h.2 (by decide)⟩
theorem wdR_ok {N : Nms} (hN : NmOk N) {r : Row} (hr : RowB r) : (∀ x ∈ wdR N r, WOk x) ∧ (wdR N r).length ≤ 25 := by
  have nb := fun k hk => WOk_nm (hN.b k hk)
  have np := fun k hk => WOk_nm (hN.p k hk)
  have nn := WOk_int
  have k1 : WOk "put" := ⟨by decide +kernel, by decide +kernel⟩
  have k2 : WOk "swap" := ⟨by decide +kernel, by decide +kernel⟩
  have k3 : WOk "ask" := ⟨by decide +kernel, by decide +kernel⟩
  have k4 : WOk "any" := ⟨by decide +kernel, by decide +kernel⟩
  have k5 : WOk "call" := ⟨by decide +kernel, by decide +kernel⟩
  have k6 : WOk "take" := ⟨by decide +kernel, by decide +kernel⟩
  have k7 : WOk "give" := ⟨by decide +kernel, by decide +kernel⟩
  have nt := WOk_to
  cases r with
  | ask b tos =>
    obtain ⟨h1, h2, h3⟩ := hr
    refine ⟨fun x hx => ?_, by simp [wdR]; omega⟩
    simp only [wdR, List.mem_cons, List.mem_map] at hx
    rcases hx with rfl | rfl | ⟨o, ho, rfl⟩
    · exact k3
    · exact nb b h1
    · exact nt o (h3 o ho)
  | any tos =>
    obtain ⟨h2, h3⟩ := hr
    refine ⟨fun x hx => ?_, by simp [wdR]; omega⟩
    simp only [wdR, List.mem_cons, List.mem_map] at hx
    rcases hx with rfl | ⟨o, ho, rfl⟩
    · exact k4
    · exact nn o (h3 o ho)
  | put b w to => exact ⟨by simp [wdR, k1, nb b hr.1, nn w hr.2.1, nn to hr.2.2], by simp [wdR]⟩
  | swap b o w to => exact ⟨by simp [wdR, k2, nb b hr.1, nn o hr.2.1, nn w hr.2.2.1, nn to hr.2.2.2], by simp [wdR]⟩
  | call q to => exact ⟨by simp [wdR, k5, np q hr.1, nn to hr.2], by simp [wdR]⟩
  | take b to => exact ⟨by simp [wdR, k6, nb b hr.1, nn to hr.2], by simp [wdR]⟩
  | give b to => exact ⟨by simp [wdR, k7, nb b hr.1, nn to hr.2], by simp [wdR]⟩
theorem sp_len : (" " : Str).length = 1 := by decide +kernel
theorem sp_ok : PyData.strOk " " = true := by decide +kernel
theorem rowTx_ok {N : Nms} (hN : NmOk N) {r : Row} (hr : RowB r) : PyData.strOk (rowTx N r) = true ∧ (rowTx N r).length ≤ 800 := by
  obtain ⟨h1, h2⟩ := wdR_ok hN hr
  refine ⟨strOk_jn _ sp_ok _ fun y hy => (h1 y hy).1, ?_⟩
  have := (jn_len " " (wdR N r) 30 25 (fun y hy => (h1 y hy).2) h2).1
  rw [sp_len] at this
  exact Nat.le_trans this (by decide)
theorem row_text_eq {N : Nms} (hN : NmOk N) {r : Row} (hr : RowB r) : F_row_text [encRP N r] = some (.ok (.str (rowTx N r))) ∧ F__law_words [encRP N r] = some (.ok (.str (rowTx N r))) := by
  have nb := fun k hk => WOk_nm (hN.b k hk)
  have np := fun k hk => WOk_nm (hN.p k hk)
  cases r with
  | put b w to => exact row_text_gen "put" (ts := [.str (N.b b), Nt w, Nt to]) (.cons (.s _ (nb b hr.1)) (.cons (.i w hr.2.1) (.cons (.i to hr.2.2) .nil))) ⟨by decide +kernel, by decide +kernel⟩ (by simp) (by simp [nols])
  | swap b o w to => exact row_text_gen "swap" (ts := [.str (N.b b), Nt o, Nt w, Nt to]) (.cons (.s _ (nb b hr.1)) (.cons (.i o hr.2.1) (.cons (.i w hr.2.2.1) (.cons (.i to hr.2.2.2) .nil)))) ⟨by decide +kernel, by decide +kernel⟩ (by simp) (by simp [nols])
  | ask b tos =>
    have e : ("ask" : Str) :: N.b b :: tos.map toW = ("ask" : Str) :: ([N.b b] ++ (tos.map toW ++ [])) := by simp
    show F_row_text [encRP N (.ask b tos)] = some (.ok (.str (jn " " ("ask" :: N.b b :: tos.map toW)))) ∧ F__law_words [encRP N (.ask b tos)] = some (.ok (.str (jn " " ("ask" :: N.b b :: tos.map toW))))
    rw [e]
    exact row_text_gen "ask" (ts := [.str (N.b b), .tup (tos.map encTo)]) (.cons (.s _ (nb b hr.1)) (.cons (.t tos hr.2.2 hr.2.1) .nil)) ⟨by decide +kernel, by decide +kernel⟩ (by simp) (by simp [nols, Function.comp_def])
  | any tos =>
    have e : ("any" : Str) :: tos.map (fun n => toW (some n)) = ("any" : Str) :: ((tos.map some).map toW ++ []) := by simp [Function.comp_def]
    have e2 : encRP N (.any tos) = .tup [.str "any", .tup ((tos.map some).map encTo)] := by
      simp [encRP, Function.comp_def]
      intro a _
      rfl
    show F_row_text [encRP N (.any tos)] = some (.ok (.str (jn " " ("any" :: tos.map (fun n => toW (some n)))))) ∧ F__law_words [encRP N (.any tos)] = some (.ok (.str (jn " " ("any" :: tos.map (fun n => toW (some n))))))
    rw [e, e2]
    exact row_text_gen "any" (ts := [.tup ((tos.map some).map encTo)]) (.cons (.t (tos.map some) (by simp; exact hr.2) (by simpa using hr.1)) .nil) ⟨by decide +kernel, by decide +kernel⟩ (by simp) (by simp [nols, Function.comp_def])
  | call q to => exact row_text_gen "call" (ts := [.str (N.p q), Nt to]) (.cons (.s _ (np q hr.1)) (.cons (.i to hr.2) .nil)) ⟨by decide +kernel, by decide +kernel⟩ (by simp) (by simp [nols])
  | take b to => exact row_text_gen "take" (ts := [.str (N.b b), Nt to]) (.cons (.s _ (nb b hr.1)) (.cons (.i to hr.2) .nil)) ⟨by decide +kernel, by decide +kernel⟩ (by simp) (by simp [nols])
  | give b to => exact row_text_gen "give" (ts := [.str (N.b b), Nt to]) (.cons (.s _ (nb b hr.1)) (.cons (.i to hr.2) .nil)) ⟨by decide +kernel, by decide +kernel⟩ (by simp) (by simp [nols])
end Rh
namespace Rh
open PySem L2
open FL hiding Off
def bxTx (N : Nms) (p : Plan) (k : Nat) : Str := jn " " ["box", N.b k, toW (some (p.worths.getD k 0)), toW (some (p.firsts.getD k 0))]
def pcTx (N : Nms) (ps : List (List Row)) (k : Nat) : List Str := (("proc " : Str) ++ N.p k) :: (ps.getD k []).map (rowTx N)
def hdTx (N : Nms) (hs : List Nat) (k : Nat) : Str := ("hand " : Str) ++ N.h k ++ (" " : Str) ++ N.p (hs.getD k 0)
def linesP (N : Nms) (p : Plan) : List Str := (List.range p.worths.length).map (bxTx N p) ++ (List.range p.procs.length).flatMap (pcTx N p.procs) ++ (List.range p.hands.length).map (hdTx N p.hands)
theorem len_app (a b : Str) : (a ++ b).length = a.length + b.length := Str.length_append ..
theorem str_assoc (a b c : Str) : a ++ b ++ c = a ++ (b ++ c) := Str.append_assoc ..
theorem l_box : ("box" : Str).length = 3 := by decide +kernel
theorem l_boxs : ("box " : Str).length = 4 := by decide +kernel
theorem l_proc : ("proc " : Str).length = 5 := by decide +kernel
theorem l_hand : ("hand " : Str).length = 5 := by decide +kernel
theorem l_nl : ("\n" : Str).length = 1 := by decide +kernel
theorem e_boxs : ("box " : Str) = ("box" : Str) ++ (" " : Str) := by decide +kernel
theorem o_box : PyData.strOk "box" = true := by decide +kernel
theorem o_proc : PyData.strOk "proc " = true := by decide +kernel
theorem o_hand : PyData.strOk "hand " = true := by decide +kernel
theorem o_nl : PyData.strOk "\n" = true := by decide +kernel
theorem bx_lc {N : Nms} (hN : NmOk N) {p : Plan} (h : PB p) {ρ : En} (hρ : ρ.length = 11) : lcGo ρ [5, 8, 7] (gT 3 (gsCons (gN 5) (gsCons (gN 8) (gsCons (gN 7) gsNil)))) tYesF E_written_1 (encBx N p.worths p.firsts) = some ((List.range p.worths.length).map fun k => T.str (bxTx N p k)) ∧
    lcGo ρ [5, 7, 8] (gT 3 (gsCons (gN 5) (gsCons (gN 7) (gsCons (gN 8) gsNil)))) tYesF E__law_text_1 (encBx N p.worths p.firsts) = some ((List.range p.worths.length).map fun k => T.str (bxTx N p k)) := by
  have key : ∀ k ∈ List.range p.worths.length, WOk (N.b k) ∧ WOk (toW (some (p.worths.getD k 0))) ∧ WOk (toW (some (p.firsts.getD k 0))) ∧ gStr [Nt (p.worths.getD k 0)] = some (.str (toW (some (p.worths.getD k 0)))) ∧ gStr [Nt (p.firsts.getD k 0)] = some (.str (toW (some (p.firsts.getD k 0)))) := fun k hk => by
    have hk : k < p.worths.length := by simpa using hk
    have h8 := h.w
    exact ⟨WOk_nm (hN.b k (by omega)), WOk_int _ (h.wv k).1, WOk_int _ (h.wv k).2, gStr_nat _ (h.wv k).1, gStr_nat _ (h.wv k).2⟩
  unfold encBx
  constructor
  · refine lc_map fun k hk => ?_
    obtain ⟨k1, k2, k3, k4, k5⟩ := key k hk
    unfold bxTx
    generalize p.worths.getD k 0 = w at k2 k4 ⊢
    generalize p.firsts.getD k 0 = f at k3 k5 ⊢
    have gj := gJoin_map " " .ow ["box", N.b k, toW (some w), toW (some f)] (by
      have a1 := k1.2
      have a2 := k2.2
      have a3 := k3.2
      simp only [List.map_cons, List.map_nil, List.sum_cons, List.sum_nil, List.length_cons, List.length_nil, l_box, sp_len]
      omega)
    generalize toW (some w) = tw at k4 gj ⊢
    generalize toW (some f) = tf at k5 gj ⊢
    simp at k4 k5 gj
    exact ⟨_, _, by simp; rfl, by simp [E_written_1, hρ, k4, k5, gj]; rfl, by simp⟩
  · refine lc_map fun k hk => ?_
    obtain ⟨k1, k2, k3, k4, k5⟩ := key k hk
    unfold bxTx
    generalize p.worths.getD k 0 = w at k2 k4 ⊢
    generalize p.firsts.getD k 0 = f at k3 k5 ⊢
    have a1 := k1.2
    have a2 := k2.2
    have a3 := k3.2
    generalize toW (some w) = tw at k4 a2 ⊢
    generalize toW (some f) = tf at k5 a3 ⊢
    have e : jn " " ["box", N.b k, tw, tf] = ("box " : Str) ++ N.b k ++ (" " : Str) ++ tw ++ (" " : Str) ++ tf := by
      rw [jn_cons, jn_cons, jn_cons, jn_one, e_boxs]
      simp only [str_assoc]
    rw [e]
    have g1 : gAdd (.str "box ") (.str (N.b k)) = some (.str (("box " : Str) ++ N.b k)) := by rw [gAdd_s, if_pos (by rw [l_boxs]; omega)]
    have g2 : gAdd (.str (("box " : Str) ++ N.b k)) (.str " ") = some (.str (("box " : Str) ++ N.b k ++ (" " : Str))) := by rw [gAdd_s, if_pos (by rw [len_app, l_boxs, sp_len]; omega)]
    have g3 : gAdd (.str (("box " : Str) ++ N.b k ++ (" " : Str))) (.str tw) = some (.str (("box " : Str) ++ N.b k ++ (" " : Str) ++ tw)) := by rw [gAdd_s, if_pos (by rw [len_app, len_app, l_boxs, sp_len]; omega)]
    have g4 : gAdd (.str (("box " : Str) ++ N.b k ++ (" " : Str) ++ tw)) (.str " ") = some (.str (("box " : Str) ++ N.b k ++ (" " : Str) ++ tw ++ (" " : Str))) := by rw [gAdd_s, if_pos (by rw [len_app, len_app, len_app, l_boxs, sp_len]; omega)]
    have g5 : gAdd (.str (("box " : Str) ++ N.b k ++ (" " : Str) ++ tw ++ (" " : Str))) (.str tf) = some (.str (("box " : Str) ++ N.b k ++ (" " : Str) ++ tw ++ (" " : Str) ++ tf)) := by rw [gAdd_s, if_pos (by rw [len_app, len_app, len_app, len_app, l_boxs, sp_len]; omega)]
    generalize ("box " : Str) ++ N.b k ++ (" " : Str) ++ tw ++ (" " : Str) ++ tf = s5 at g5 ⊢
    generalize ("box " : Str) ++ N.b k ++ (" " : Str) ++ tw ++ (" " : Str) = s4 at g4 g5
    generalize ("box " : Str) ++ N.b k ++ (" " : Str) ++ tw = s3 at g3 g4
    generalize ("box " : Str) ++ N.b k ++ (" " : Str) = s2 at g2 g3
    generalize ("box " : Str) ++ N.b k = s1 at g1 g2
    simp only [Nt_ap] at k4 k5
    exact ⟨_, _, by simp; rfl, by simp [-gAdd_s, E__law_text_1, hρ, k4, k5, g1, g2, g3, g4, g5]; rfl, by simp⟩
theorem hd_add {N : Nms} (hN : NmOk N) (k q : Nat) (hk : k < 8) (hq : q < 8) : ∃ s1 s2, gAdd (.str "hand ") (.str (N.h k)) = some (.str s1) ∧ gAdd (.str s1) (.str " ") = some (.str s2) ∧ gAdd (.str s2) (.str (N.p q)) = some (.str (("hand " : Str) ++ N.h k ++ (" " : Str) ++ N.p q)) := by
  have a1 := (WOk_nm (hN.h k hk)).2
  have a2 := (WOk_nm (hN.p q hq)).2
  exact ⟨_, _, by rw [gAdd_s, if_pos (by rw [l_hand]; omega)], by rw [gAdd_s, if_pos (by rw [len_app, l_hand, sp_len]; omega)], by rw [gAdd_s, if_pos (by rw [len_app, len_app, l_hand, sp_len]; omega)]⟩
theorem hd_lc {N : Nms} (hN : NmOk N) {p : Plan} (h : PB p) {ρ : En} (hρ : ρ.length = 11) : lcGo ρ [5, 9] (gT 2 (gsCons (gN 5) (gsCons (gN 9) gsNil))) tYesF E_written_3 (encHd N p.hands) = some ((List.range p.hands.length).map fun k => T.str (hdTx N p.hands k)) ∧
    lcGo ρ [5, 10] (gT 2 (gsCons (gN 5) (gsCons (gN 10) gsNil))) tYesF E__law_text_3 (encHd N p.hands) = some ((List.range p.hands.length).map fun k => T.str (hdTx N p.hands k)) := by
  have key : ∀ k ∈ List.range p.hands.length, k < 8 ∧ p.hands.getD k 0 < 8 := fun k hk => by
    have hk : k < p.hands.length := by simpa using hk
    have h8 := h.h
    have e : p.hands.getD k 0 = p.hands[k] := by simp [hk]
    exact ⟨by omega, by rw [e]; exact h.hv _ (List.getElem_mem hk)⟩
  unfold encHd
  constructor
  · refine lc_map fun k hk => ?_
    obtain ⟨k1, k2⟩ := key k hk
    unfold hdTx
    generalize p.hands.getD k 0 = q at k2 ⊢
    obtain ⟨s1, s2, g1, g2, g3⟩ := hd_add hN k q k1 k2
    generalize ("hand " : Str) ++ N.h k ++ (" " : Str) ++ N.p q = s3 at g3 ⊢
    exact ⟨_, _, by simp; rfl, by simp [-gAdd_s, E_written_3, hρ, g1, g2, g3]; rfl, by simp⟩
  · refine lc_map fun k hk => ?_
    obtain ⟨k1, k2⟩ := key k hk
    unfold hdTx
    generalize p.hands.getD k 0 = q at k2 ⊢
    obtain ⟨s1, s2, g1, g2, g3⟩ := hd_add hN k q k1 k2
    generalize ("hand " : Str) ++ N.h k ++ (" " : Str) ++ N.p q = s3 at g3 ⊢
    exact ⟨_, _, by simp; rfl, by simp [-gAdd_s, E__law_text_3, hρ, g1, g2, g3]; rfl, by simp⟩
end Rh
namespace Rh
open PySem L2
open FL hiding Off
def pcS (N : Nms) (ps : List (List Row)) (k : Nat) : T := .tup [.str (N.p k), .lst .sh ((ps.getD k []).map (encRP N))]
theorem pc_add {N : Nms} (hN : NmOk N) (k : Nat) (hk : k < 8) : gAdd (.str "proc ") (.str (N.p k)) = some (.str (("proc " : Str) ++ N.p k)) := by
  have a1 := (WOk_nm (hN.p k hk)).2
  rw [gAdd_s, if_pos (by rw [l_proc]; omega)]
theorem rows_lc {N : Nms} (hN : NmOk N) {rs : List Row} (hr : ∀ r ∈ rs, RowB r) {ρ : En} (hρ : ρ.length = 11) : lcGo ρ [10] (gN 10) tYesF E_written_2 (rs.map (encRP N)) = some (rs.map fun r => T.str (rowTx N r)) ∧ lcGo ρ [9] (gN 9) tYesF E__law_text_2 (rs.map (encRP N)) = some (rs.map fun r => T.str (rowTx N r)) :=
  ⟨lc_map fun r h => by
    have e := (row_text_eq hN (hr r h)).1
    exact ⟨_, _, by simp; rfl, by simp [E_written_2, hρ, e]; rfl, by simp⟩,
  lc_map fun r h => by
    have e := (row_text_eq hN (hr r h)).2
    exact ⟨_, _, by simp; rfl, by simp [E__law_text_2, hρ, e]; rfl, by simp⟩⟩
theorem wr_loop {N : Nms} (hN : NmOk N) (ps : List (List Row)) (x0 x1 x2 x3 : Option T) : ∀ (ks : List Nat) (acc : List Str) (x5 x6 x7 x8 x9 x10 : Option T), (∀ k ∈ ks, k < 8 ∧ (ps.getD k []).length ≤ 20 ∧ ∀ r ∈ ps.getD k [], RowB r) → acc.length + ks.length * 21 ≤ 100000 →
    ∃ t5 t6 t7 t8 t9 t10, loop (gT 2 (gsCons (gN 5) (gsCons (gN 6) gsNil))) L_written_1 (ks.map (pcS N ps)) [x0, x1, x2, x3, some (.lst .ow (acc.map T.str)), x5, x6, x7, x8, x9, x10] = some (.ok (.nx [x0, x1, x2, x3, some (.lst .ow ((acc ++ ks.flatMap (pcTx N ps)).map T.str)), t5, t6, t7, t8, t9, t10]))
  | [], acc, x5, x6, x7, x8, x9, x10, _, _ => ⟨x5, x6, x7, x8, x9, x10, by simp⟩
  | k :: ks, acc, x5, x6, x7, x8, x9, x10, hk, ha => by
    obtain ⟨h1, h2, h3⟩ := hk k (by simp)
    simp only [List.length_cons] at ha
    have g1 := pc_add hN k h1
    have hlc := fun ρ hρ => (rows_lc hN h3 (ρ := ρ) hρ).1
    obtain ⟨t5, t6, t7, t8, t9, t10, ih⟩ := wr_loop hN ps x0 x1 x2 x3 ks (acc ++ pcTx N ps k) (some (.str (N.p k))) (some (.lst .sh ((ps.getD k []).map (encRP N)))) x7 x8 x9 x10 (fun x hx => hk x (by simp [hx])) (by simp [pcTx] at h2 ⊢; omega)
    refine ⟨t5, t6, t7, t8, t9, t10, ?_⟩
    rw [List.map_cons, List.flatMap_cons, ← List.append_assoc, loop_go (ρ1 := [x0, x1, x2, x3, some (.lst .ow (acc.map T.str)), some (.str (N.p k)), some (.lst .sh ((ps.getD k []).map (encRP N))), x7, x8, x9, x10]) (ρ2 := [x0, x1, x2, x3, some (.lst .ow ((acc ++ pcTx N ps k).map T.str)), some (.str (N.p k)), some (.lst .sh ((ps.getD k []).map (encRP N))), x7, x8, x9, x10])]
    · exact ih
    · unfold pcS
      generalize ps.getD k [] = rs
      simp
    · unfold pcTx
      generalize ps.getD k [] = rs at h2 hlc ⊢
      generalize ("proc " : Str) ++ N.p k = z at g1 ⊢
      simp [-gAdd_s, L_written_1, g1, hlc, Function.comp_def, show acc.length < 16777216 by omega, show rs.length ≤ 1000000 by omega, show acc.length + 1 + rs.length ≤ 16777216 by omega]
theorem tx_loop {N : Nms} (hN : NmOk N) (ps : List (List Row)) (x0 x1 x2 x3 : Option T) : ∀ (ks : List Nat) (acc : List Str) (x5 x6 x7 x8 x9 x10 : Option T), (∀ k ∈ ks, k < 8 ∧ (ps.getD k []).length ≤ 20 ∧ ∀ r ∈ ps.getD k [], RowB r) → acc.length + ks.length * 21 ≤ 100000 →
    ∃ t5 t6 t7 t8 t9 t10, loop (gT 2 (gsCons (gN 5) (gsCons (gN 6) gsNil))) L__law_text_1 (ks.map (pcS N ps)) [x0, x1, x2, x3, some (.lst .ow (acc.map T.str)), x5, x6, x7, x8, x9, x10] = some (.ok (.nx [x0, x1, x2, x3, some (.lst .ow ((acc ++ ks.flatMap (pcTx N ps)).map T.str)), t5, t6, t7, t8, t9, t10]))
  | [], acc, x5, x6, x7, x8, x9, x10, _, _ => ⟨x5, x6, x7, x8, x9, x10, by simp⟩
  | k :: ks, acc, x5, x6, x7, x8, x9, x10, hk, ha => by
    obtain ⟨h1, h2, h3⟩ := hk k (by simp)
    simp only [List.length_cons] at ha
    have g1 := pc_add hN k h1
    have hlc := fun ρ hρ => (rows_lc hN h3 (ρ := ρ) hρ).2
    obtain ⟨t5, t6, t7, t8, t9, t10, ih⟩ := tx_loop hN ps x0 x1 x2 x3 ks (acc ++ pcTx N ps k) (some (.str (N.p k))) (some (.lst .sh ((ps.getD k []).map (encRP N)))) x7 x8 x9 x10 (fun x hx => hk x (by simp [hx])) (by simp [pcTx] at h2 ⊢; omega)
    refine ⟨t5, t6, t7, t8, t9, t10, ?_⟩
    rw [List.map_cons, List.flatMap_cons, ← List.append_assoc, loop_go (ρ1 := [x0, x1, x2, x3, some (.lst .ow (acc.map T.str)), some (.str (N.p k)), some (.lst .sh ((ps.getD k []).map (encRP N))), x7, x8, x9, x10]) (ρ2 := [x0, x1, x2, x3, some (.lst .ow ((acc ++ pcTx N ps k).map T.str)), some (.str (N.p k)), some (.lst .sh ((ps.getD k []).map (encRP N))), x7, x8, x9, x10])]
    · exact ih
    · unfold pcS
      generalize ps.getD k [] = rs
      simp
    · unfold pcTx
      generalize ps.getD k [] = rs at h2 hlc ⊢
      generalize ("proc " : Str) ++ N.p k = z at g1 ⊢
      simp [-gAdd_s, L__law_text_1, g1, hlc, Function.comp_def, show acc.length + 1 ≤ 16777216 by omega, show rs.length ≤ 1000000 by omega, show acc.length + 1 + rs.length ≤ 16777216 by omega, show acc.length + (rs.length + 1) ≤ 16777216 by omega]
theorem jn_len_le (N : Nms) (hN : NmOk N) (p : Plan) (h : PB p) : (∀ x ∈ linesP N p, PyData.strOk x = true ∧ x.length ≤ 800) ∧ (linesP N p).length ≤ 200 := by
  have h1 := h.w
  have h2 := h.q
  have h3 := h.h
  have hp : ∀ k, k < p.procs.length → (p.procs.getD k []).length ≤ 20 ∧ ∀ r ∈ p.procs.getD k [], RowB r := fun k hk => by
    have e : p.procs.getD k [] = p.procs[k] := by simp [hk]
    rw [e]
    exact h.pr _ (List.getElem_mem hk)
  constructor
  · intro x hx
    unfold linesP at hx
    rcases List.mem_append.mp hx with hx | hx
    · rcases List.mem_append.mp hx with hx | hx
      · obtain ⟨k, hk, rfl⟩ := List.mem_map.mp hx
        have hk : k < p.worths.length := by simpa using hk
        have a1 := WOk_nm (hN.b k (by omega))
        have a2 := WOk_int _ (h.wv k).1
        have a3 := WOk_int _ (h.wv k).2
        have hw : ∀ y ∈ [("box" : Str), N.b k, toW (some (p.worths.getD k 0)), toW (some (p.firsts.getD k 0))], WOk y := fun y hy => by
          simp only [List.mem_cons, List.not_mem_nil, or_false] at hy
          rcases hy with rfl | rfl | rfl | rfl
          · exact ⟨o_box, by rw [l_box]; omega⟩
          · exact a1
          · exact a2
          · exact a3
        refine ⟨strOk_jn _ sp_ok _ fun y hy => (hw y hy).1, ?_⟩
        have := (jn_len " " _ 30 4 (fun y hy => (hw y hy).2) (Nat.le_refl _)).1
        rw [sp_len] at this
        exact Nat.le_trans this (by decide)
      · obtain ⟨k, hk, hx⟩ := List.mem_flatMap.mp hx
        have hk : k < p.procs.length := by simpa using hk
        rcases List.mem_cons.mp hx with rfl | hx
        · have a1 := WOk_nm (hN.p k (by omega))
          refine ⟨by rw [strOk_app, o_proc, a1.1]; rfl, ?_⟩
          have := a1.2
          rw [len_app, l_proc]
          omega
        · obtain ⟨r, hr, rfl⟩ := List.mem_map.mp hx
          exact rowTx_ok hN ((hp k hk).2 r hr)
    · obtain ⟨k, hk, rfl⟩ := List.mem_map.mp hx
      have hk : k < p.hands.length := by simpa using hk
      have e : p.hands.getD k 0 = p.hands[k] := by simp [hk]
      have a1 := WOk_nm (hN.h k (by omega))
      have a2 := WOk_nm (hN.p (p.hands.getD k 0) (by rw [e]; exact h.hv _ (List.getElem_mem hk)))
      unfold hdTx
      refine ⟨by rw [strOk_app, strOk_app, strOk_app, o_hand, a1.1, sp_ok, a2.1]; rfl, ?_⟩
      have := a1.2
      have := a2.2
      rw [len_app, len_app, len_app, l_hand, sp_len]
      omega
  · have hf : ∀ ks : List Nat, (∀ k ∈ ks, k < p.procs.length) → (ks.flatMap (pcTx N p.procs)).length ≤ ks.length * 21 := fun ks => by
      induction ks with
      | nil => intro _; simp
      | cons k ks ih =>
        intro hh
        have i1 := ih fun x hx => hh x (by simp [hx])
        have i2 := (hp k (hh k (by simp))).1
        have i3 : (pcTx N p.procs k).length = (p.procs.getD k []).length + 1 := by simp only [pcTx, List.length_cons, List.length_map]
        simp only [List.flatMap_cons, List.length_append, List.length_cons]
        omega
    have h4 := hf (List.range p.procs.length) (by simp)
    unfold linesP
    simp only [List.length_append, List.length_map, List.length_range] at h4 ⊢
    omega
theorem written_eq (N : Nms) (hN : NmOk N) (p : Plan) (h : PB p) : F_written [encProg N .sh p] = some (.ok (.str (jn "\n" (linesP N p)))) ∧ F__law_text [encProg N .sh p] = some (.ok (.str (jn "\n" (linesP N p)))) := by
  have h1 := h.w
  have h2 := h.q
  have h3 := h.h
  obtain ⟨l1, l2⟩ := jn_len_le N hN p h
  have hj := (jn_len "\n" (linesP N p) 800 200 (fun y hy => (l1 y hy).2) l2).2
  rw [l_nl] at hj
  have hk : ∀ k ∈ List.range p.procs.length, k < 8 ∧ (p.procs.getD k []).length ≤ 20 ∧ ∀ r ∈ p.procs.getD k [], RowB r := fun k hk => by
    have hk : k < p.procs.length := by simpa using hk
    have e : p.procs.getD k [] = p.procs[k] := by simp [hk]
    rw [e]
    exact ⟨by omega, h.pr _ (List.getElem_mem hk)⟩
  have b1 := fun ρ hρ => (bx_lc hN h (ρ := ρ) hρ).1
  have b2 := fun ρ hρ => (bx_lc hN h (ρ := ρ) hρ).2
  have c1 := fun ρ hρ => (hd_lc hN h (ρ := ρ) hρ).1
  have c2 := fun ρ hρ => (hd_lc hN h (ρ := ρ) hρ).2
  have ep : encPc N .sh p.procs = (List.range p.procs.length).map (pcS N p.procs) := rfl
  obtain ⟨t5, t6, t7, t8, t9, t10, L1⟩ := wr_loop hN p.procs none (some (.lst .sh (encBx N p.worths p.firsts))) none (some (.lst .sh (encHd N p.hands))) (List.range p.procs.length) ((List.range p.worths.length).map (bxTx N p)) none none none none none none hk (by simp; omega)
  obtain ⟨u5, u6, u7, u8, u9, u10, L2'⟩ := tx_loop hN p.procs none (some (.lst .sh (encBx N p.worths p.firsts))) none (some (.lst .sh (encHd N p.hands))) (List.range p.procs.length) ((List.range p.worths.length).map (bxTx N p)) none none none none none none hk (by simp; omega)
  obtain ⟨lp, hlp⟩ : ∃ lp, (List.range p.worths.length).map (bxTx N p) ++ (List.range p.procs.length).flatMap (pcTx N p.procs) = lp := ⟨_, rfl⟩
  have el : linesP N p = lp ++ (List.range p.hands.length).map (hdTx N p.hands) := by rw [← hlp]; rfl
  rw [hlp] at L1 L2'
  have hll : lp.length ≤ 200 := by
    rw [el, List.length_append] at l2
    omega
  have gj := fun o => gJoin_map "\n" o (linesP N p) (by rw [l_nl]; omega)
  rw [el] at gj ⊢
  rw [← ep] at L1 L2'
  generalize jn "\n" (lp ++ (List.range p.hands.length).map (hdTx N p.hands)) = z at gj ⊢
  simp [Function.comp_def] at L1 L2' gj
  constructor
  · simp [F_written, B_written, dfOf, encProg, b1, c1, L1, gj, Function.comp_def, show p.worths.length ≤ 1000000 by omega, show p.hands.length ≤ 1000000 by omega, show lp.length + p.hands.length ≤ 16777216 by omega]
  · simp [F__law_text, B__law_text, dfOf, encProg, b2, c2, L2', gj, Function.comp_def, show p.worths.length ≤ 1000000 by omega, show p.hands.length ≤ 1000000 by omega, show lp.length + p.hands.length ≤ 16777216 by omega]
end Rh
namespace Rh
open PySem L2
open FL hiding Off
theorem sSeq_go' {s s' : S} {ρ ρ' : En} (h : s ρ = some (.ok (.nx ρ'))) : sSeq s s' ρ = s' ρ' := by
  unfold sSeq
  rw [h]
/-! ### a program that is seen by another name -/
def prgO (a b c : Ow) (N : Nms) (p : Plan) : T := .tup [.lst a (encBx N p.worths p.firsts), .lst b (encPc N .ow p.procs), .lst c (encHd N p.hands)]
abbrev prgP (a b c : Addr) (N : Nms) (p : Plan) : T := prgO (.pn a) (.pn b) (.pn c) N p
def prgV (a b c : Addr) : T := .tup [.vid a, .vid b, .vid c]
theorem prgO_ow (N : Nms) (p : Plan) : prgO .ow .ow .ow N p = encProg N .ow p := rfl
theorem vid_prg (a b c : Addr) (N : Nms) (p : Plan) : vidT (prgP a b c N p) = some (prgV a b c) := by
  simp [prgP, prgO, prgV, vidT, vidTs]
theorem unp_prg (a b c : Addr) (N : Nms) (p : Plan) : unpO (prgP a b c N p) = encProg N .ow p := by
  simp [prgP, prgO, encProg, unpO, unpOs]
theorem nols_prg (a b c : Ow) (N : Nms) (p : Plan) : nols [.lst a (encBx N p.worths p.firsts), .lst b (encPc N .ow p.procs), .lst c (encHd N p.hands)] = false := by simp
theorem gq0 (a b c : Ow) (N : Nms) (p : Plan) : getU [0] (prgO a b c N p) = some (.lst a (encBx N p.worths p.firsts)) := by
  unfold prgO getU
  rw [if_neg (by rw [nols_prg]; simp)]
  rfl
theorem gq1 (a b c : Ow) (N : Nms) (p : Plan) : getU [1] (prgO a b c N p) = some (.lst b (encPc N .ow p.procs)) := by
  unfold prgO getU
  rw [if_neg (by rw [nols_prg]; simp)]
  rfl
theorem gq2 (a b c : Ow) (N : Nms) (p : Plan) : getU [2] (prgO a b c N p) = some (.lst c (encHd N p.hands)) := by
  unfold prgO getU
  rw [if_neg (by rw [nols_prg]; simp)]
  rfl
@[simp] theorem bor_prgP (a b c : Addr) (N : Nms) (p : Plan) : bor (prgO (.pn a) (.pn b) (.pn c) N p) = encProg N .bo p := by simp [prgO, encProg]
@[simp] theorem nob_prgV (a b c : Addr) : nob (prgV a b c) = true := by
  simp [prgV]
  exact ⟨rfl, rfl, rfl⟩
@[simp] theorem shr_prgV (a b c : Addr) : FL.shr (prgV a b c) = prgV a b c := by
  simp [prgV]
  exact ⟨rfl, rfl, rfl⟩
theorem eVid_at {i : Nat} {ρ : En} {t u : T} (h : ρ[i]? = some (some t)) (hv : vidT t = some u) : eVidP (pVar i) ρ = ok u ρ := by
  unfold eVidP pVar
  simp only [h]
  show (match atP ρ (i, []) with | some w => (match vidT w with | some u => ok u ρ | none => none) | none => none) = _
  have : atP ρ (i, []) = some t := by
    unfold atP
    rw [h]
    rfl
  rw [this]
  simp only [hv]
theorem loopL_go {g : Tg} {b : S} {bs : List S} {t : T} {ts : List T} {ρ ρ1 ρ2 : En} (h1 : g t ρ = some ρ1) (h2 : b ρ1 = some (.ok (.nx ρ2))) : loopL g (b :: bs) (t :: ts) ρ = loopL g bs ts ρ2 := by
  simp only [loopL, h1, h2]
/-- the first row of the first procedure put otherwise -/
def setR : List (List Row) → List (List Row)
  | [] => []
  | r :: rs => (r.set 0 (.any [0, 1, 0])) :: rs
def setP1 (p : Plan) : Plan := ⟨p.worths, p.firsts, setR p.procs, p.hands⟩
theorem set_row (N : Nms) (p : Plan) (a b c : Addr) (x0 x1 x2 x3 x4 : Option T) (h0 : p.procs ≠ []) (hl : ∀ rs ∈ p.procs, 0 < rs.length) :
    L_law_1 [x0, x1, x2, x3, x4, some (prgP a b c N p)] = some (.ok (.nx [x0, x1, x2, x3, x4, some (prgP a b c N (setP1 p))])) := by
  obtain ⟨ws, fs, ps, hs⟩ := p
  cases ps with
  | nil => exact absurd rfl h0
  | cons r0 ps =>
    have hr0 : 0 < r0.length := hl r0 (by simp)
    have ec : ∀ l, encPc N .ow (l :: ps) = .tup [.str (N.p 0), .lst .ow (l.map (encRP N))] :: (List.range ps.length).map fun k => .tup [.str (N.p (k + 1)), .lst .ow ((ps.getD k []).map (encRP N))] := fun l => by
      simp [encPc, List.range_succ_eq_map, Function.comp_def]
    obtain ⟨tl, htl⟩ : ∃ tl, ((List.range ps.length).map fun k => T.tup [.str (N.p (k + 1)), .lst .ow ((ps.getD k []).map (encRP N))]) = tl := ⟨_, rfl⟩
    rw [htl] at ec
    obtain ⟨E, hE⟩ : ∃ E, prgP a b c N ⟨ws, fs, r0 :: ps, hs⟩ = E := ⟨_, rfl⟩
    have hE2 : E = .tup [.lst (.pn a) (encBx N ws fs), .lst (.pn b) (.tup [.str (N.p 0), .lst .ow (r0.map (encRP N))] :: tl), .lst (.pn c) (encHd N hs)] := by
      rw [← hE]
      simp only [prgP, prgO, ec]
    rw [hE]
    have e1 : atP [x0, x1, x2, x3, x4, some E] (5, []) = some E := rfl
    have e2 : atP [x0, x1, x2, x3, x4, some E] (5, [1]) = some (.lst (.pn b) (.tup [.str (N.p 0), .lst .ow (r0.map (encRP N))] :: tl)) := by
      show getA [1] E = _
      rw [hE2]
      unfold getA
      rw [if_neg (by simp)]
      rfl
    have e3 : atP [x0, x1, x2, x3, x4, some E] (5, [1, 0]) = some (.tup [.str (N.p 0), .lst .ow (r0.map (encRP N))]) := by
      show getA [1, 0] E = _
      rw [hE2]
      unfold getA
      rw [if_neg (by simp)]
      rfl
    have e4 : getA [1, 0, 1] E = some (.lst .ow (r0.map (encRP N))) := by
      rw [hE2]
      unfold getA
      rw [if_neg (by simp)]
      show getA [1] (.tup [.str (N.p 0), .lst .ow (r0.map (encRP N))]) = _
      unfold getA
      rw [if_neg (by simp)]
      rfl
    have e5 : ownP [x0, x1, x2, x3, x4, some E] (5, [1, 0, 1]) = some (r0.map (encRP N)) := by
      have : atP [x0, x1, x2, x3, x4, some E] (5, [1, 0, 1]) = some (.lst .ow (r0.map (encRP N))) := e4
      unfold ownP
      rw [this]
    have e6 : ∀ us, putP [x0, x1, x2, x3, x4, some E] (5, [1, 0, 1]) us = [x0, x1, x2, x3, x4, some (.tup [.lst (.pn a) (encBx N ws fs), .lst (.pn b) (.tup [.str (N.p 0), .lst .ow us] :: tl), .lst (.pn c) (encHd N hs)])] := fun us => by
      have hm : mkA [1, 0, 1] E = .ow := by
        unfold mkA
        rw [e4]
      show [x0, x1, x2, x3, x4, some (setA [1, 0, 1] E (.lst (mkA [1, 0, 1] E) us))] = _
      rw [hm, hE2]
      rfl
    have p1 : pIx (pVar 5) (eK (.int 1)) [x0, x1, x2, x3, x4, some E] = ok (5, [1]) [x0, x1, x2, x3, x4, some E] := by
      simp [pIx, e1]
      simp [hE2, ixN]
    have p2 : pIx (pIx (pVar 5) (eK (.int 1))) (eK (.int 0)) [x0, x1, x2, x3, x4, some E] = ok (5, [1, 0]) [x0, x1, x2, x3, x4, some E] := by
      rw [pIx, p1]
      simp [e2, ixN]
    have p3 : pIx (pIx (pIx (pVar 5) (eK (.int 1))) (eK (.int 0))) (eK (.int 1)) [x0, x1, x2, x3, x4, some E] = ok (5, [1, 0, 1]) [x0, x1, x2, x3, x4, some E] := by
      rw [pIx, p2]
      simp [e3, ixN]
    have hix : ixN r0.length 0 = some 0 := by
      simp [ixN]
      intro z
      simp [z] at hr0
    unfold L_law_1
    rw [sSet_ap]
    simp [p3, e5, e6, hr0, hix]
    have hm : setP1 ⟨ws, fs, r0 :: ps, hs⟩ = ⟨ws, fs, (r0.set 0 (.any [0, 1, 0])) :: ps, hs⟩ := rfl
    rw [hm]
    simp only [prgP, prgO, ec, List.map_set]
    rfl
end Rh
namespace Rh
open PySem L2
open FL hiding Off
@[simp] theorem nob_PlanO (p : Plan) : FL.nob (encPlan .ow p) = true := by simp [encPlan, Function.comp_def]
@[simp] theorem bor_PlanO (p : Plan) : bor (encPlan .ow p) = encPlan .bo p := by simp [encPlan, Function.comp_def]
@[simp] theorem shr_PlanB (p : Plan) : FL.shr (encPlan .bo p) = encPlan .sh p := by simp [encPlan, Function.comp_def]
@[simp] theorem shr_ProgO (N : Nms) (p : Plan) : FL.shr (encProg N .ow p) = encProg N .sh p := by simp [encProg]
@[simp] theorem shr_ProgB (N : Nms) (p : Plan) : FL.shr (encProg N .bo p) = encProg N .sh p := by simp [encProg]
@[simp] theorem bor_ProgO (N : Nms) (p : Plan) : bor (encProg N .ow p) = encProg N .bo p := by simp [encProg]
@[simp] theorem nob_ProgO (N : Nms) (p : Plan) : FL.nob (encProg N .ow p) = true := by simp [encProg]
@[simp] theorem alw_ProgO (N : Nms) (p : Plan) : alw (encProg N .ow p) = true := by
  simp [encProg, encBx, encHd]
def menu07 : List (List Nat) := [[2], [3], [4], [5], [6], [2, 2], [2, 3], [3, 2], [2, 4], [4, 2], [2, 2, 2]]
theorem fin_ok (l : List Nat) (h : (List.range l.length).all (fun b => decide (0 < l.getD b 0 ∧ l.getD b 0 ≤ 6)) = true) : ∀ b, b < l.length → 0 < l.getD b 0 ∧ l.getD b 0 ≤ 6 := fun b hb => of_decide_eq_true (List.all_eq_true.mp h b (by simpa using hb))
theorem menu07_ok : ∀ m ∈ menu07, MenuOk m := by
  intro m hm
  simp only [menu07, List.mem_cons, List.not_mem_nil, or_false] at hm
  rcases hm with rfl | rfl | rfl | rfl | rfl | rfl | rfl | rfl | rfl | rfl | rfl <;> exact ⟨by decide, by decide, fin_ok _ (by decide)⟩
theorem menu_eq : F__law_menu [] = some (.ok (.lst .ow (menu07.map encW))) := by
  simp [F__law_menu, B__law_menu, dfOf, menu07, encW]
theorem cell_o (ns : List Int) (k : Nat) (o : Ow) (ho : o = .fz ∨ o = .sh) : ∃ c, F__law_cell_at [.lst o (ns.map T.int), .int (k : Int)] = some (.ok (.int c)) := by
  rcases ho with rfl | rfl
  · by_cases h : k < ns.length
    · exact ⟨ns[k], by simp [F__law_cell_at, B__law_cell_at, dfOf, h]⟩
    · exact ⟨0, by simp [F__law_cell_at, B__law_cell_at, dfOf, h]⟩
  · exact cell_eq ns k
theorem PlanOk.pb {p : Plan} (h : PlanOk 6 8 3 menu07 p) : PB p := by
  obtain ⟨w1, w2, w3⟩ := h.w
  have q1 := h.q1
  have h1 := h.h1
  have wv : ∀ b, p.worths.getD b 0 ≤ 6 := fun b => by
    by_cases hb : b < p.worths.length
    · exact (w3 b hb).2
    · simp [show p.worths.length ≤ b by omega]
  refine ⟨by omega, by omega, by omega, fun k => ⟨Nat.le_trans (wv k) (by omega), ?_⟩, fun rs hrs => ?_, fun q hq => by have := h.hq q hq; omega⟩
  · by_cases hb : k < p.worths.length
    · have := h.fv k hb
      have := wv k
      omega
    · have := h.fl
      simp [show p.firsts.length ≤ k by omega]
  · obtain ⟨r1, r2, r3⟩ := h.pr rs hrs
    refine ⟨by omega, fun r hr => ?_⟩
    have hr := r3 r hr
    cases r with
    | put b w to =>
      obtain ⟨a1, a2, a3⟩ := hr
      have := wv b
      exact ⟨by omega, by omega, by omega⟩
    | swap b o w to =>
      obtain ⟨a1, a2, a3, a4⟩ := hr
      have := wv b
      exact ⟨by omega, by omega, by omega, by omega⟩
    | ask b tos =>
      obtain ⟨a1, a2, a3⟩ := hr
      have := wv b
      exact ⟨by omega, by omega, fun o ho n e => by subst e; have := a3 n ho; omega⟩
    | any tos =>
      obtain ⟨a1, a2, a3⟩ := hr
      exact ⟨by omega, fun n hn => by have := a3 n hn; omega⟩
    | call q to =>
      obtain ⟨a1, a2⟩ := hr
      exact ⟨by omega, by omega⟩
    | take b to =>
      obtain ⟨a1, a2, a3⟩ := hr
      exact ⟨by omega, by omega⟩
    | give b to =>
      obtain ⟨a1, a2, a3⟩ := hr
      exact ⟨by omega, by omega⟩
theorem pow40 : gPow (.int 2) (.int 40) = some (.int ((2 ^ 40 : Nat) : Int)) := by
  unfold gPow
  rw [gIc_i, if_pos (by decide +kernel)]
  rfl
theorem prog_at_eq (ns : List Int) (k : Nat) (o : Ow) (ho : o = .fz ∨ o = .sh) : ∃ p n, F__law_program_at [.lst o (ns.map T.int), Nt k] = some (.ok (encProg (nms n) .ow p)) ∧ PlanOk 6 8 3 menu07 p := by
  obtain ⟨p, hp, hok⟩ := plan_eq ((ns.drop k).take 7) 6 8 3 menu07 (by omega) (by omega) (by omega) (by omega) (by omega) (by omega) (by decide) (by decide) menu07_ok
  obtain ⟨c, hc⟩ := cell_o ns k o ho
  obtain ⟨ds, hd, hD⟩ := digits_eq c 11 [2 ^ 40] (by decide) (by decide) (by omega)
  obtain ⟨d, rfl⟩ : ∃ d, ds = [d] := by
    have hl : ds.length = 1 := hD.1
    match ds, hl with
    | [a], _ => exact ⟨a, rfl⟩
  have hpr := program_eq 6 8 3 menu07 p d hok (by omega) (by omega) (by omega)
  have hsl : cutT (ns.map T.int) (some (k : Int)) (some ((k : Int) + 7)) = ((ns.drop k).take 7).map T.int := by
    have := cut_nn (xs := ns.map T.int) (a := k) (b := k + 7)
    rw [← List.map_drop, ← List.map_take, show k + 7 - k = 7 by omega] at this
    exact this
  refine ⟨p, d, ?_, hok⟩
  have hm := menu_eq
  have p40 := pow40
  obtain ⟨M, hM⟩ : ∃ M, menu07.map encW = M := ⟨_, rfl⟩
  have hMs : M.map FL.shr = M := by
    rw [← hM]
    simp [Function.comp_def]
  rw [hM] at hm hp
  simp only [List.map_cons, List.map_nil, Nt_ap] at hd hpr
  obtain ⟨G, hG⟩ : ∃ G : Int, ((2 ^ 40 : Nat) : Int) = G := ⟨_, rfl⟩
  rw [hG] at hd p40
  generalize nms d = N at hpr ⊢
  have h11 : T.int ((11 : Nat) : Int) = .int 11 := rfl
  rw [h11] at hd
  have hsls : (((ns.drop k).take 7).map T.int).map FL.shr = ((ns.drop k).take 7).map T.int := by simp
  generalize ((ns.drop k).take 7).map T.int = sl at hp hsl hsls
  have hM2 : (∀ x, x ∈ M → FL.nob x = true) = True := eq_true fun x hx => by
    rw [← hM] at hx
    obtain ⟨y, _, rfl⟩ := List.mem_map.mp hx
    simp
  rcases ho with rfl | rfl
  · simp at hp
    simp [F__law_program_at, B__law_program_at, dfOf, hm, hMs, hM2, hsl, hsls, hp, hc, p40, hd, hpr]
  · simp at hp
    simp [F__law_program_at, B__law_program_at, dfOf, hm, hMs, hM2, hsl, hsls, hp, hc, p40, hd, hpr]
end Rh
namespace Rh
open PySem L2
open FL hiding Off
theorem teq_RP {N : Nms} (r : Row) : teq (encRP N r) (encRP N r) = true := by
  have hN : ∀ l : List Nat, teqs (l.map Nt) (l.map Nt) = true := fun l => teqs_rfl' _ fun t ht => by
    obtain ⟨x, _, rfl⟩ := List.mem_map.mp ht
    simp
  have hT : ∀ l : List (Option Nat), teqs (l.map encTo) (l.map encTo) = true := fun l => teqs_rfl' _ fun t ht => by
    obtain ⟨x, _, rfl⟩ := List.mem_map.mp ht
    cases x
    · exact teq_nn
    · show teq (Nt _) (Nt _) = true
      simp
  cases r <;> simp [encRP, hN, hT]
theorem teq_Prog (N : Nms) (o o' : Ow) (p : Plan) : teq (encProg N o p) (encProg N o' p) = true := by
  have h1 : teqs (encBx N p.worths p.firsts) (encBx N p.worths p.firsts) = true := teqs_rfl' _ fun t ht => by
    obtain ⟨x, _, rfl⟩ := List.mem_map.mp ht
    simp
  have h3 : teqs (encHd N p.hands) (encHd N p.hands) = true := teqs_rfl' _ fun t ht => by
    obtain ⟨x, _, rfl⟩ := List.mem_map.mp ht
    simp
  have hr : ∀ l : List Row, teqs (l.map (encRP N)) (l.map (encRP N)) = true := fun l => teqs_rfl' _ fun t ht => by
    obtain ⟨x, _, rfl⟩ := List.mem_map.mp ht
    exact teq_RP x
  have h2 : teqs (encPc N o p.procs) (encPc N o' p.procs) = true := by
    unfold encPc
    have : ∀ ks : List Nat, teqs (ks.map fun k => T.tup [.str (N.p k), .lst o ((p.procs.getD k []).map (encRP N))]) (ks.map fun k => T.tup [.str (N.p k), .lst o' ((p.procs.getD k []).map (encRP N))]) = true := fun ks => by
      induction ks with
      | nil => simp
      | cons k ks ih =>
        rw [List.map_cons, List.map_cons, teqs_cc, ih, teq_t, teqs_cc, teqs_cc, teq_l, hr]
        simp
    exact this _
  simp [encProg, h1, h2, h3]
theorem okT_RP {N : Nms} (hN : NmOk N) {r : Row} (hr : RowB r) (n : Nat) : okT (n + 5) (encRP N r) = true := by
  have hb := fun k hk => (hN.b k hk).1
  have hp := fun k hk => (hN.p k hk).1
  have k1 : PyData.strOk "put" = true := by decide +kernel
  have k2 : PyData.strOk "swap" = true := by decide +kernel
  have k3 : PyData.strOk "ask" = true := by decide +kernel
  have k4 : PyData.strOk "any" = true := by decide +kernel
  have k5 : PyData.strOk "call" = true := by decide +kernel
  have k6 : PyData.strOk "take" = true := by decide +kernel
  have k7 : PyData.strOk "give" = true := by decide +kernel
  have hT : ∀ (m : Nat) (x : Option Nat), okT m (encTo x) = true := fun m x => by cases x <;> rfl
  cases r with
  | put b w to => simp [encRP, k1, hb b hr.1]
  | swap b o w to => simp [encRP, k2, hb b hr.1]
  | ask b tos => simp [encRP, k3, hb b hr.1, hT]
  | any tos => simp [encRP, k4, Function.comp_def]
  | call q to => simp [encRP, k5, hp q hr.1]
  | take b to => simp [encRP, k6, hb b hr.1]
  | give b to => simp [encRP, k7, hb b hr.1]
theorem okT_Prog {N : Nms} (hN : NmOk N) {p : Plan} (h : PB p) (o : Ow) (n : Nat) : okT (n + 10) (encProg N o p) = true := by
  have hb := fun k hk => (hN.b k hk).1
  have hp := fun k hk => (hN.p k hk).1
  have hh := fun k hk => (hN.h k hk).1
  have h1 := h.w
  have h2 := h.q
  have h3 := h.h
  have e1 : ∀ m, (encBx N p.worths p.firsts).all (okT (m + 5)) = true := fun m => by
    rw [List.all_eq_true]
    intro t ht
    obtain ⟨k, hk, rfl⟩ := List.mem_map.mp ht
    have hk : k < p.worths.length := by simpa using hk
    simp [hb k (by omega)]
  have e2 : ∀ m, (encPc N o p.procs).all (okT (m + 8)) = true := fun m => by
    rw [List.all_eq_true]
    intro t ht
    obtain ⟨k, hk, rfl⟩ := List.mem_map.mp ht
    have hk : k < p.procs.length := by simpa using hk
    have hr : ∀ r ∈ p.procs.getD k [], RowB r := by
      have e : p.procs.getD k [] = p.procs[k] := by simp [hk]
      rw [e]
      exact (h.pr _ (List.getElem_mem hk)).2
    generalize p.procs.getD k [] = rs at hr
    simp [hp k (by omega)]
    intro r hr2
    exact okT_RP hN (hr r hr2) (m + 1)
  have e3 : ∀ m, (encHd N p.hands).all (okT (m + 5)) = true := fun m => by
    rw [List.all_eq_true]
    intro t ht
    obtain ⟨k, hk, rfl⟩ := List.mem_map.mp ht
    have hk : k < p.hands.length := by simpa using hk
    have e : p.hands.getD k 0 = p.hands[k] := by simp [hk]
    have hq : p.hands.getD k 0 < 8 := by rw [e]; exact h.hv _ (List.getElem_mem hk)
    generalize p.hands.getD k 0 = q at hq
    simp [hh k (by omega), hp q hq]
  have a1 := e1 (n + 3)
  have a2 := e2 n
  have a3 := e3 (n + 3)
  simp only [encProg, okT_t, okT_l, List.all_cons, List.all_nil]
  simp only [show n + 10 - 1 - 1 = n + 8 by omega, show n + 3 + 5 = n + 8 by omega] at *
  simp [a1, a2, a3]
theorem law_right_eq (N : Nms) (hN : NmOk N) (p : Plan) (h : PB p) : F__law_right [encProg N .sh p, encProg N .sh p] = some (.ok (.bl true)) := by
  obtain ⟨w1, w2⟩ := written_eq N hN p h
  obtain ⟨l1, l2⟩ := jn_len_le N hN p h
  have hz : PyData.strOk (jn "\n" (linesP N p)) = true := strOk_jn _ o_nl _ fun y hy => (l1 y hy).1
  generalize jn "\n" (linesP N p) = z at w1 w2 hz
  have g1 : gEq (.str z) (.str z) = some (.bl true) := by simp [gEq, hz]
  have g2 : gEq (encProg N .sh p) (encProg N .sh p) = some (.bl true) := by
    have := okT_Prog hN h .sh 50
    have := teq_Prog N .sh .sh p
    simp_all [gEq]
  simp [F__law_right, B__law_right, dfOf, w1, w2, isTy_str, g1, g2]
theorem setR_len (ps : List (List Row)) : (setR ps).length = ps.length := by cases ps <;> rfl
theorem setP_pb {p : Plan} (h : PB p) : PB (setP1 p) := by
  refine ⟨h.w, by show (setR p.procs).length ≤ 8; rw [setR_len]; exact h.q, h.h, h.wv, fun rs hrs => ?_, h.hv⟩
  have hrs : rs ∈ setR p.procs := hrs
  cases hp : p.procs with
  | nil => rw [hp] at hrs; simp [setR] at hrs
  | cons r0 ps =>
    rw [hp] at hrs
    have hpr := h.pr
    rw [hp] at hpr
    rcases List.mem_cons.mp hrs with rfl | hrs
    · obtain ⟨a1, a2⟩ := hpr r0 (by simp)
      refine ⟨by simpa using a1, fun r hr => ?_⟩
      rcases List.mem_or_eq_of_mem_set hr with z | z
      · exact a2 r z
      · rw [z]
        exact ⟨by simp, by simp⟩
    · exact hpr rs (by simp [hrs])
theorem items07 (N : Nms) (p : Plan) (a b c d e f : Addr) (x0 x1 x2 x5 : Option T) :
    (sAny (eLst (aCons (eVidP (pVar 3)) (aCons (eVidP (pVar 4)) aNil)))) [x0, x1, x2, some (prgP a b c N p), some (prgP d e f N p), x5] =
      ok ([prgV a b c, prgV d e f], [.lst .sh [prgV a b c, prgV d e f]]) [x0, x1, x2, some (prgP a b c N p), some (prgP d e f N p), x5] := by
  have v1 : eVidP (pVar 3) [x0, x1, x2, some (prgP a b c N p), some (prgP d e f N p), x5] = _ := eVid_at rfl (vid_prg a b c N p)
  have v2 : eVidP (pVar 4) [x0, x1, x2, some (prgP a b c N p), some (prgP d e f N p), x5] = _ := eVid_at rfl (vid_prg d e f N p)
  simp [v1, v2]
theorem step07 (ns : List Int) (k : Nat) (Na : Nms) (pa : Plan) (hNa : NmOk Na) (hpa : PB pa) (x3 x4 x5 : Option T) :
    ∃ N p, NmOk N ∧ PB p ∧ L_law_2 [some (.lst .fz (ns.map T.int)), some (encProg Na .ow pa), some (Nt k), x3, x4, x5] = some (.ok (.nx [some (.lst .fz (ns.map T.int)), some (encProg N .ow p), some (Nt k), none, some (encProg N .ow p), none])) := by
  obtain ⟨p, n, hp, hok⟩ := prog_at_eq ns k .fz (.inl rfl)
  have hN := nms_ok n
  generalize nms n = N at hp hN
  have hpb := hok.pb
  have hpb2 := setP_pb hpb
  have r1 := law_right_eq N hN p hpb
  have r2 := law_right_eq Na hNa pa hpa
  have r3 := law_right_eq N hN (setP1 p) hpb2
  have hps : p.procs ≠ [] := fun z => by have := hok.q0; rw [z] at this; simp at this
  have hrs : ∀ rs ∈ p.procs, 0 < rs.length := fun rs h => (hok.pr rs h).1
  refine ⟨N, setP1 p, hN, hpb2, ?_⟩
  obtain ⟨X0, hX0⟩ : ∃ X0, some (T.lst .fz (ns.map T.int)) = X0 := ⟨_, rfl⟩
  obtain ⟨X1, hX1⟩ : ∃ X1, some (encProg Na .ow pa) = X1 := ⟨_, rfl⟩
  obtain ⟨X2, hX2⟩ : ∃ X2, some (Nt k) = X2 := ⟨_, rfl⟩
  unfold L_law_2
  rw [sSeq_go' (ρ' := [X0, X1, X2, some (encProg N .ow p), x4, x5]) (by
    rw [← hX0, ← hX1, ← hX2]
    simp only [Nt_ap] at hp
    simp [hp])]
  rw [sSeq_go' (ρ' := [X0, X1, X2, some (encProg N .ow p), some (encProg N .ow p), x5]) (by
    rw [← hX0, ← hX1, ← hX2]
    simp only [Nt_ap] at hp
    simp [hp])]
  rw [sSeq_go' (ρ' := [X0, X1, X2, some (encProg N .ow p), some (encProg N .ow p), x5]) (by
    rw [← hX1]
    simp [r1, r2])]
  refine sPinA_at (t := prgO .ow .ow .ow N p) rfl (gq0 _ _ _ _ _) fun a => ?_
  refine sPinA_at (t := prgO (.pn a) .ow .ow N p) rfl (gq1 _ _ _ _ _) fun b => ?_
  refine sPinA_at (t := prgO (.pn a) (.pn b) .ow N p) rfl (gq2 _ _ _ _ _) fun c => ?_
  refine sPinA_at (t := prgO .ow .ow .ow N p) rfl (gq0 _ _ _ _ _) fun d => ?_
  refine sPinA_at (t := prgO (.pn d) .ow .ow N p) rfl (gq1 _ _ _ _ _) fun e => ?_
  refine sPinA_at (t := prgO (.pn d) (.pn e) .ow N p) rfl (gq2 _ _ _ _ _) fun f => ?_
  show sSeq _ _ [X0, X1, X2, some (prgP a b c N p), some (prgP d e f N p), x5] = _
  have i1 := items07 N p a b c d e f X0 X1 X2 x5
  have g1 : gN 5 (prgV a b c) [X0, X1, X2, some (prgP a b c N p), some (prgP d e f N p), x5] = some [X0, X1, X2, some (prgP a b c N p), some (prgP d e f N p), some (prgV a b c)] := by simp
  have k1 : sTk 5 3 [] [X0, X1, X2, some (prgP a b c N p), some (prgP d e f N p), some (prgV a b c)] = some (.ok (.nx [X0, X1, X2, some (prgV a b c), some (prgP d e f N p), some (prgP a b c N p)])) := sTk_at rfl rfl rfl (vid_prg a b c N p) (by decide)
  have s1 := set_row N p a b c X0 X1 X2 (some (prgV a b c)) (some (prgP d e f N p)) hps hrs
  have k2 : sGv 5 3 [] [X0, X1, X2, some (prgV a b c), some (prgP d e f N p), some (prgP a b c N (setP1 p))] = some (.ok (.nx [X0, X1, X2, some (unpO (prgP a b c N (setP1 p))), some (prgP d e f N p), none])) := sGv_at rfl rfl rfl (vid_prg a b c N (setP1 p)) (by decide)
  rw [unp_prg] at k2
  have b1 : (sSeq (sTk 5 3 []) (sSeq L_law_1 (sGv 5 3 []))) [X0, X1, X2, some (prgP a b c N p), some (prgP d e f N p), some (prgV a b c)] = some (.ok (.nx [X0, X1, X2, some (encProg N .ow (setP1 p)), some (prgP d e f N p), none])) := by
    rw [sSeq_go' k1, sSeq_go' s1, k2]
  have g2 : gN 5 (prgV d e f) [X0, X1, X2, some (encProg N .ow (setP1 p)), some (prgP d e f N p), none] = some [X0, X1, X2, some (encProg N .ow (setP1 p)), some (prgP d e f N p), some (prgV d e f)] := by simp
  have k3 : sTk 5 4 [] [X0, X1, X2, some (encProg N .ow (setP1 p)), some (prgP d e f N p), some (prgV d e f)] = some (.ok (.nx [X0, X1, X2, some (encProg N .ow (setP1 p)), some (prgV d e f), some (prgP d e f N p)])) := sTk_at rfl rfl rfl (vid_prg d e f N p) (by decide)
  have s2 := set_row N p d e f X0 X1 X2 (some (encProg N .ow (setP1 p))) (some (prgV d e f)) hps hrs
  have k4 : sGv 5 4 [] [X0, X1, X2, some (encProg N .ow (setP1 p)), some (prgV d e f), some (prgP d e f N (setP1 p))] = some (.ok (.nx [X0, X1, X2, some (encProg N .ow (setP1 p)), some (unpO (prgP d e f N (setP1 p))), none])) := sGv_at rfl rfl rfl (vid_prg d e f N (setP1 p)) (by decide)
  rw [unp_prg] at k4
  have b2 : (sSeq (sTk 5 4 []) (sSeq L_law_1 (sGv 5 4 []))) [X0, X1, X2, some (encProg N .ow (setP1 p)), some (prgP d e f N p), some (prgV d e f)] = some (.ok (.nx [X0, X1, X2, some (encProg N .ow (setP1 p)), some (encProg N .ow (setP1 p)), none])) := by
    rw [sSeq_go' k3, sSeq_go' s2, k4]
  have lp : sForL (sAny (eLst (aCons (eVidP (pVar 3)) (aCons (eVidP (pVar 4)) aNil)))) (gN 5) [sSeq (sTk 5 3 []) (sSeq L_law_1 (sGv 5 3 [])), sSeq (sTk 5 4 []) (sSeq L_law_1 (sGv 5 4 []))] [X0, X1, X2, some (prgP a b c N p), some (prgP d e f N p), x5] = some (.ok (.nx [X0, X1, X2, some (encProg N .ow (setP1 p)), some (encProg N .ow (setP1 p)), none])) := by
    unfold sForL
    rw [i1, sb_ok]
    rw [loopL_go g1 b1, loopL_go g2 b2]
    rfl
  rw [sSeq_go' lp]
  simp [r3]
  exact ⟨hX0.symm, hX2.symm⟩
theorem loop07 (ns : List Int) : ∀ (ks : List Nat) (Na : Nms) (pa : Plan) (x2 x3 x4 x5 : Option T), NmOk Na → PB pa →
    ∃ ρ, loop (gN 2) L_law_2 (ks.map Nt) [some (.lst .fz (ns.map T.int)), some (encProg Na .ow pa), x2, x3, x4, x5] = some (.ok (.nx ρ))
  | [], Na, pa, x2, x3, x4, x5, _, _ => ⟨_, rfl⟩
  | k :: ks, Na, pa, x2, x3, x4, x5, h1, h2 => by
    obtain ⟨N, p, hN, hp, e⟩ := step07 ns k Na pa h1 h2 x3 x4 x5
    obtain ⟨ρ, ih⟩ := loop07 ns ks N p (some (Nt k)) none (some (encProg N .ow p)) none hN hp
    refine ⟨ρ, ?_⟩
    rw [List.map_cons, loop_go rfl e]
    exact ih
theorem df_ret1' {N : Nat} {B : S} {u x : T} (h : B (some x :: List.replicate (N - 1) none) = some (.ok (.rt u))) : dfOf N B [x] = some (.ok u) := by
  unfold dfOf
  rw [List.map_cons, List.map_nil, List.length_cons, List.length_nil, List.cons_append, List.nil_append, h]
theorem small_all : ((List.range 64).all fun m => Builtin.Range.small 0 (m : Int) 7 && decide (0 ≤ Builtin.Range.rangeSize 0 (m : Int) 7)) = true := by decide +kernel
theorem small_m (m : Nat) (h : m < 64) : Builtin.Range.small 0 (m : Int) 7 = true ∧ 0 ≤ Builtin.Range.rangeSize 0 (m : Int) 7 := by
  have := List.all_eq_true.mp small_all m (by simpa using h)
  rw [Bool.and_eq_true] at this
  exact ⟨this.1, of_decide_eq_true this.2⟩
theorem r3_eq {fs : M (List T)} {ρ : En} {i j c : Int} (h : fs ρ = ok [.int i, .int j, .int c] ρ) (h1 : c ≠ 0 ∧ c.natAbs < 1073741824 ∧ Builtin.Range.small i j c = true ∧ 0 ≤ Builtin.Range.rangeSize i j c) : sRng3 fs ρ = ok (rngT i c (rngN i j c), []) ρ := by
  unfold sRng3
  rw [h]
  exact if_pos h1
theorem e8_eq (ns : List Int) (X1 : Option T) (m : Nat) (L : S) (gm : gMax [.int 1, .int (if (63 : Int) < (ns.length : Int) then (63 : Int) else (ns.length : Int))] = some (.int (m : Int))) (sm1 : Builtin.Range.small 0 (m : Int) 7 = true) (sm2 : 0 ≤ Builtin.Range.rangeSize 0 (m : Int) 7) : (FL.sFor (FL.sRng3 (FL.aCons (FL.eK (.int 0)) (FL.aCons (FL.eCb FL.gMax (FL.aCons (FL.eK (.int 1)) (FL.aCons (FL.eCb FL.gMin (FL.aCons (FL.eCb FL.gLen (FL.aCons (FL.eBor 0) FL.aNil)) (FL.aCons (FL.eK (.int 63)) FL.aNil))) FL.aNil))) (FL.aCons (FL.eK (.int 7)) FL.aNil)))) (FL.gN 2)
  L) [some (.lst .fz (ns.map T.int)), X1, none, none, none, none] = loop (gN 2) L (rngT 0 7 (rngN 0 m 7)) [some (.lst .fz (ns.map T.int)), X1, none, none, none, none] := by
  have h := r3_eq (fs := (FL.aCons (FL.eK (.int 0)) (FL.aCons (FL.eCb FL.gMax (FL.aCons (FL.eK (.int 1)) (FL.aCons (FL.eCb FL.gMin (FL.aCons (FL.eCb FL.gLen (FL.aCons (FL.eBor 0) FL.aNil)) (FL.aCons (FL.eK (.int 63)) FL.aNil))) FL.aNil))) (FL.aCons (FL.eK (.int 7)) FL.aNil)))) (ρ := [some (.lst .fz (ns.map T.int)), X1, none, none, none, none]) (i := 0) (j := m) (c := 7) (by simp [-gMax_i, gm]) ⟨by decide, by decide, sm1, sm2⟩
  unfold sFor
  rw [h]
  rfl
theorem law_main (ns : List Int) : F_law [.lst .fz (ns.map T.int)] = some (.ok (.bl true)) := by
  obtain ⟨p0, n0, hp0, hok0⟩ := prog_at_eq [7] 0 .sh (.inr rfl)
  have hN0 := nms_ok n0
  generalize nms n0 = N0 at hp0 hN0
  obtain ⟨m, hm⟩ : ∃ m : Nat, (if (if (63 : Int) < (ns.length : Int) then (63 : Int) else (ns.length : Int)) > 1 then (if (63 : Int) < (ns.length : Int) then (63 : Int) else (ns.length : Int)) else 1) = (m : Int) ∧ m < 64 := by
    refine ⟨max 1 (min ns.length 63), ?_, by omega⟩
    by_cases h1 : (63 : Int) < (ns.length : Int)
    · simp only [h1, if_true]
      rw [if_pos (by omega)]
      omega
    · simp only [h1, if_false]
      by_cases h2 : (ns.length : Int) > 1
      · rw [if_pos h2]
        omega
      · rw [if_neg h2]
        omega
  obtain ⟨hm1, hm2⟩ := hm
  obtain ⟨sm1, sm2⟩ := small_m m hm2
  have gm : gMax [.int 1, .int (if (63 : Int) < (ns.length : Int) then (63 : Int) else (ns.length : Int))] = some (.int (m : Int)) := by rw [gMax_i, hm1]
  have hr : rngT 0 7 (rngN 0 (m : Int) 7) = ((List.range (rngN 0 (m : Int) 7)).map fun i => 7 * i).map Nt := by
    unfold rngT
    rw [List.map_map]
    refine List.map_congr_left fun i _ => ?_
    have e : (0 : Int) + (i : Int) * 7 = ((7 * i : Nat) : Int) := by omega
    show T.int (0 + (i : Int) * 7) = T.int ((7 * i : Nat) : Int)
    rw [e]
  obtain ⟨q, hq⟩ : ∃ q, rngN 0 (m : Int) 7 = q := ⟨_, rfl⟩
  rw [hq] at hr
  obtain ⟨ρ, lp⟩ := loop07 ns ((List.range q).map fun i => 7 * i) N0 p0 none none none none hN0 hok0.pb
  rw [← hr] at lp
  have e7 : T.lst .sh (([7] : List Int).map T.int) = .lst .sh [.int 7] := rfl
  rw [e7] at hp0
  refine df_ret1' (N := 6) ?_
  unfold B_law
  obtain ⟨PA, hPA⟩ : ∃ PA : DF, F__law_program_at = PA := ⟨_, rfl⟩
  rw [hPA] at hp0 ⊢
  rw [sSeq_go' (ρ' := [some (.lst .fz (ns.map T.int)), some (encProg N0 .ow p0), none, none, none, none]) (by
    simp only [Nt_ap] at hp0
    simp at hp0
    simp [hp0])]
  have e8 := e8_eq ns (some (encProg N0 .ow p0)) m L_law_2 gm sm1 sm2
  rw [hq] at e8
  rw [sSeq_go' (e8.trans lp)]
  simp
end Rh
namespace Rh
open PySem PySem.Spec L2
open PyProof.Rows hiding St
/-! ## the text -/
def topS (i : Nat) : Stmt := PySem.Challenge.pw_roundhand_k07_written.main.body.getD i (.Pass ⟨0, 0, 0, 0⟩)
structure Blt (K : PySem.W.Frag) (mg : Str → Option Value) : Prop where
  abs : mg "abs" = none
  enumerate : mg "enumerate" = none
  int : mg "int" = none
  isinstance : mg "isinstance" = none
  len : mg "len" = none
  max : mg "max" = none
  min : mg "min" = none
  range : mg "range" = none
  str : mg "str" = none
  tuple : mg "tuple" = none
/-! ### to_word -/
abbrev s_to_word : Stmt := topS 1
theorem sc_to_word : FnScope ["to"] ["to"] (defScope s_to_word) := ⟨rfl, rfl, rfl, by decide +kernel, rfl, by decide +kernel, by decide +kernel⟩
theorem ok_to_word {P : Program} {w : World} {K : PySem.W.Frag} {mg : Str → Option Value} {base : Heap} {f : Addr} {fd : FuncData} (T : Blt K mg)  (Ff : Fun K "to_word" "to_word" s_to_word f fd) (hf : mg "to_word" = some (.ref f)) : FL.Cal P w K mg base "to_word" 1 1 F_to_word :=
  FL.cal_mk 1 Ff hf (Ff.binds (ps := ["to"]) fun _ _ _ _ _ _ us hl => match us, hl with | [_], _ => rfl) sc_to_word rfl fun cdv A outer s H E hr tk po =>
  (FL.fss_cons (FL.fs_if (FL.ft_cmp op_isN FL.ok_isN (FL.fe_bor 0) FL.fe_non (nomark _))
  (FL.fss_one (FL.fs_ret FL.fe_str))
  FL.fss_nil)
  (FL.fss_one (FL.fs_ret (FL.fe_callTy call_str_int FL.cb_str (by rfl) T.str (by decide +kernel) (FL.fa_cons (FL.fe_bor 0) FL.fa_nil)))))
/-! ### law_cell_at -/
abbrev s__law_cell_at : Stmt := topS 5
theorem sc__law_cell_at : FnScope ["_law_script", "_law_k"] ["_law_script", "_law_k"] (defScope s__law_cell_at) := ⟨rfl, rfl, rfl, by decide +kernel, rfl, by decide +kernel, by decide +kernel⟩
theorem ok__law_cell_at {P : Program} {w : World} {K : PySem.W.Frag} {mg : Str → Option Value} {base : Heap} {f : Addr} {fd : FuncData} (T : Blt K mg)  (Ff : Fun K "_law_cell_at" "_law_cell_at" s__law_cell_at f fd) (hf : mg "_law_cell_at" = some (.ref f)) : FL.Cal P w K mg base "_law_cell_at" 1 2 F__law_cell_at :=
  FL.cal_mk 2 Ff hf (Ff.binds (ps := ["_law_script", "_law_k"]) fun _ _ _ _ _ _ us hl => match us, hl with | [_, _], _ => rfl) sc__law_cell_at rfl fun cdv A outer s H E hr tk po =>
  (FL.fss_cons (FL.fs_if (FL.ft_cmp op_lt FL.ok_lt (FL.fe_bor 1) (FL.fe_callB call_len FL.cb_len (by rfl) T.len (by decide +kernel) (FL.fa_cons (FL.fe_bor 0) FL.fa_nil)) (nomark _))
  (FL.fss_one (FL.fs_ret (FL.fe_ix ix_seq FL.ok_ix (FL.fe_bor 0) (FL.fe_bor 1) (fun _ _ => rfl))))
  FL.fss_nil)
  (FL.fss_one (FL.fs_ret FL.fe_int)))
/-! ### law_digits -/
abbrev s__law_digits : Stmt := topS 6
theorem sc__law_digits : FnScope ["_law_cell", "_law_turn", "_law_sizes", "_law_number", "_law_wide", "_law_seed", "_law_found", "_law_k", "_law_size"] ["_law_cell", "_law_turn", "_law_sizes"] (defScope s__law_digits) := ⟨rfl, rfl, rfl, by decide +kernel, rfl, by decide +kernel, by decide +kernel⟩
theorem ok__law_digits {P : Program} {w : World} {K : PySem.W.Frag} {mg : Str → Option Value} {base : Heap} {f : Addr} {fd : FuncData} (T : Blt K mg)  (Ff : Fun K "_law_digits" "_law_digits" s__law_digits f fd) (hf : mg "_law_digits" = some (.ref f)) : FL.Cal P w K mg base "_law_digits" 1 3 F__law_digits :=
  FL.cal_mk 3 Ff hf (Ff.binds (ps := ["_law_cell", "_law_turn", "_law_sizes"]) fun _ _ _ _ _ _ us hl => match us, hl with | [_, _, _], _ => rfl) sc__law_digits rfl fun cdv A outer s H E hr tk po =>
  (FL.fss_cons (FL.fs_asg (FL.fe_callB call_abs FL.cb_abs (by rfl) T.abs (by decide +kernel) (FL.fa_cons (FL.fe_bor 0) FL.fa_nil)) (FL.fg_name (i := 3) sc__law_digits.nd))
  (FL.fss_cons (FL.fs_asg (FL.fe_cmp op_ge FL.ok_ge (FL.fe_bor 3) (FL.fe_op op_pow FL.ok_pow FL.fe_int FL.fe_int) (nomark _)) (FL.fg_name (i := 4) sc__law_digits.nd))
  (FL.fss_cons (FL.fs_asg (FL.fe_op FL.op_addU FL.ok_add (FL.fe_op op_mod FL.ok_mod (FL.fe_bor 3) FL.fe_int) (FL.fe_op FL.op_mulU FL.ok_mul FL.fe_int (FL.fe_bor 1))) (FL.fg_name (i := 5) sc__law_digits.nd))
  (FL.fss_cons (FL.fs_asg (FL.fe_lst FL.fa_nil) (FL.fg_name (i := 6) sc__law_digits.nd))
  (FL.fss_cons (FL.fs_for po rfl (FL.fi_en (by rfl) T.enumerate (FL.fe_move 2)) (FL.fg_tup rfl (FL.fgs_cons (FL.fg_name (i := 7) sc__law_digits.nd) (FL.fgs_cons (FL.fg_name (i := 8) sc__law_digits.nd) FL.fgs_nil)))
  (FL.fss_one (FL.fs_if (FL.ft_w (FL.fw_and (FL.ft_val (FL.fe_bor 4)) (FL.fw_and1 (FL.ft_cmp op_gt FL.ok_gt (FL.fe_bor 3) FL.fe_int (nomark _)))))
  (FL.fss_cons (FL.fs_append (FL.fp_var 6) (FL.fe_op op_mod FL.ok_mod (FL.fe_bor 3) (FL.fe_bor 8)))
  (FL.fss_one (FL.fs_asg (FL.fe_op op_fdivW FL.ok_div (FL.fe_bor 3) (FL.fe_bor 8)) (FL.fg_name (i := 3) sc__law_digits.nd))))
  (FL.fss_cons (FL.fs_asg (FL.fe_op op_mod FL.ok_mod (FL.fe_op op_pow FL.ok_pow (FL.fe_op FL.op_addU FL.ok_add (FL.fe_bor 5) (FL.fe_op FL.op_mulU FL.ok_mul FL.fe_int (FL.fe_op FL.op_addU FL.ok_add (FL.fe_bor 7) FL.fe_int))) FL.fe_int) FL.fe_int) (FL.fg_name (i := 5) sc__law_digits.nd))
  (FL.fss_one (FL.fs_append (FL.fp_var 6) (FL.fe_op op_mod FL.ok_mod (FL.fe_op op_fdivW FL.ok_div (FL.fe_bor 5) FL.fe_int) (FL.fe_bor 8))))))))
  (FL.fss_one (FL.fs_ret (FL.fe_move 6))))))))
/-! ### law_name -/
abbrev s__law_name : Stmt := topS 7
theorem sc__law_name : FnScope ["_law_number", "_law_k", "_law_stem", "_law_more"] ["_law_number", "_law_k"] (defScope s__law_name) := ⟨rfl, rfl, rfl, by decide +kernel, rfl, by decide +kernel, by decide +kernel⟩
theorem ok__law_name {P : Program} {w : World} {K : PySem.W.Frag} {mg : Str → Option Value} {base : Heap} {f : Addr} {fd : FuncData} (T : Blt K mg)  (Ff : Fun K "_law_name" "_law_name" s__law_name f fd) (hf : mg "_law_name" = some (.ref f)) : FL.Cal P w K mg base "_law_name" 1 2 F__law_name :=
  FL.cal_mk 2 Ff hf (Ff.binds (ps := ["_law_number", "_law_k"]) fun _ _ _ _ _ _ us hl => match us, hl with | [_, _], _ => rfl) sc__law_name rfl fun cdv A outer s H E hr tk po =>
  (FL.fss_cons (FL.fs_asg (FL.fe_ix ix_seq FL.ok_ix FL.fe_str (FL.fe_op op_mod FL.ok_mod (FL.fe_op FL.op_addU FL.ok_add (FL.fe_bor 0) (FL.fe_op FL.op_mulU FL.ok_mul FL.fe_int (FL.fe_bor 1))) FL.fe_int) (fun _ _ => rfl)) (FL.fg_name (i := 2) sc__law_name.nd))
  (FL.fss_cons (FL.fs_asg (FL.fe_ix ix_seq FL.ok_ix (FL.fe_lst (FL.fa_cons FL.fe_str (FL.fa_cons FL.fe_str (FL.fa_cons FL.fe_str (FL.fa_cons FL.fe_str FL.fa_nil))))) (FL.fe_op op_mod FL.ok_mod (FL.fe_op op_fdivW FL.ok_div (FL.fe_bor 0) FL.fe_int) FL.fe_int) (fun _ _ => rfl)) (FL.fg_name (i := 3) sc__law_name.nd))
  (FL.fss_one (FL.fs_ret (FL.fe_ix ix_seq FL.ok_ix (FL.fe_lst (FL.fa_cons (FL.fe_op FL.op_addU FL.ok_add (FL.fe_use 3) (FL.fe_use 2)) (FL.fa_cons (FL.fe_op FL.op_addU FL.ok_add (FL.fe_use 2) (FL.fe_use 3)) FL.fa_nil))) (FL.fe_op op_mod FL.ok_mod (FL.fe_op op_fdivW FL.ok_div (FL.fe_bor 0) FL.fe_int) FL.fe_int) (fun _ _ => rfl))))))
/-! ### law_to_row -/
abbrev s__law_to_row : Stmt := topS 8
theorem sc__law_to_row : FnScope ["_law_d", "_law_worths", "_law_end", "_law_hands", "_law_tos", "_law_box", "_law_one", "_law_other", "_law_stops", "_law_j"] ["_law_d", "_law_worths", "_law_end", "_law_hands"] (defScope s__law_to_row) := ⟨rfl, rfl, rfl, by decide +kernel, rfl, by decide +kernel, by decide +kernel⟩
theorem ok__law_to_row {P : Program} {w : World} {K : PySem.W.Frag} {mg : Str → Option Value} {base : Heap} {f : Addr} {fd : FuncData} (T : Blt K mg)  (Ff : Fun K "_law_to_row" "_law_to_row" s__law_to_row f fd) (hf : mg "_law_to_row" = some (.ref f)) : FL.Cal P w K mg base "_law_to_row" 1 4 F__law_to_row :=
  FL.cal_mk 4 Ff hf (Ff.binds (ps := ["_law_d", "_law_worths", "_law_end", "_law_hands"]) fun _ _ _ _ _ _ us hl => match us, hl with | [_, _, _, _], _ => rfl) sc__law_to_row rfl fun cdv A outer s H E hr tk po =>
  (FL.fss_cons (FL.fs_asg (FL.fe_lc (own := [("_law_j", 9)]) rfl sc__law_to_row.nd (FL.fi_rng1 (by rfl) T.range (FL.fa_cons FL.fe_int FL.fa_nil)) (blkOk_by (own := [("_law_j", 9)]) (by kernel_rfl)) (fun _ => (FL.fg_name (i := 9) sc__law_to_row.nd)) (by decide) (fun _ => FL.fts_nil) (fun _ => (FL.fe_op op_mod FL.ok_mod (FL.fe_op FL.op_addU FL.ok_add (FL.fe_ix ix_seq FL.ok_ix (FL.fe_bor 0) FL.fe_int (fun _ _ => rfl)) (FL.fe_op FL.op_mulU FL.ok_mul (FL.fe_bor 9) (FL.fe_op FL.op_addU FL.ok_add (FL.fe_ix ix_seq FL.ok_ix (FL.fe_bor 0) FL.fe_int (fun _ _ => rfl)) FL.fe_int))) (FL.fe_op FL.op_addU FL.ok_add (FL.fe_bor 2) FL.fe_int)))) (FL.fg_name (i := 4) sc__law_to_row.nd))
  (FL.fss_cons (FL.fs_asg (FL.fe_op op_mod FL.ok_mod (FL.fe_ix ix_seq FL.ok_ix (FL.fe_bor 0) FL.fe_int (fun _ _ => rfl)) (FL.fe_callB call_len FL.cb_len (by rfl) T.len (by decide +kernel) (FL.fa_cons (FL.fe_bor 1) FL.fa_nil))) (FL.fg_name (i := 5) sc__law_to_row.nd))
  (FL.fss_cons (FL.fs_asg (FL.fe_op op_mod FL.ok_mod (FL.fe_ix ix_seq FL.ok_ix (FL.fe_bor 0) FL.fe_int (fun _ _ => rfl)) (FL.fe_ix ix_seq FL.ok_ix (FL.fe_bor 1) (FL.fe_bor 5) (fun _ _ => rfl))) (FL.fg_name (i := 6) sc__law_to_row.nd))
  (FL.fss_cons (FL.fs_asg (FL.fe_op op_mod FL.ok_mod (FL.fe_ix ix_seq FL.ok_ix (FL.fe_bor 0) FL.fe_int (fun _ _ => rfl)) (FL.fe_ix ix_seq FL.ok_ix (FL.fe_bor 1) (FL.fe_bor 5) (fun _ _ => rfl))) (FL.fg_name (i := 7) sc__law_to_row.nd))
  (FL.fss_cons (FL.fs_if (FL.ft_cmp (op_eqD hr.units) FL.ok_eq (FL.fe_ix ix_seq FL.ok_ix (FL.fe_bor 0) FL.fe_int (fun _ _ => rfl)) FL.fe_int (nomark _))
  (FL.fss_one (FL.fs_ret (FL.fe_tup (FL.fa_cons FL.fe_str (FL.fa_cons (FL.fe_use 5) (FL.fa_cons (FL.fe_use 6) (FL.fa_cons (FL.fe_ix ix_seq FL.ok_ix (FL.fe_bor 4) FL.fe_int (fun _ _ => rfl)) FL.fa_nil)))))))
  FL.fss_nil)
  (FL.fss_cons (FL.fs_if (FL.ft_cmp (op_eqD hr.units) FL.ok_eq (FL.fe_ix ix_seq FL.ok_ix (FL.fe_bor 0) FL.fe_int (fun _ _ => rfl)) FL.fe_int (nomark _))
  (FL.fss_one (FL.fs_ret (FL.fe_tup (FL.fa_cons FL.fe_str (FL.fa_cons (FL.fe_use 5) (FL.fa_cons (FL.fe_move 6) (FL.fa_cons (FL.fe_use 7) (FL.fa_cons (FL.fe_ix ix_seq FL.ok_ix (FL.fe_bor 4) FL.fe_int (fun _ _ => rfl)) FL.fa_nil))))))))
  FL.fss_nil)
  (FL.fss_cons (FL.fs_if (FL.ft_cmp op_lt FL.ok_lt (FL.fe_ix ix_seq FL.ok_ix (FL.fe_bor 0) FL.fe_int (fun _ _ => rfl)) FL.fe_int (nomark _))
  (FL.fss_cons (FL.fs_asg (FL.fe_lc (own := [("_law_j", 9)]) rfl sc__law_to_row.nd (FL.fi_rng1 (by rfl) T.range (FL.fa_cons FL.fe_int FL.fa_nil)) (blkOk_by (own := [("_law_j", 9)]) (by kernel_rfl)) (fun _ => (FL.fg_name (i := 9) sc__law_to_row.nd)) (by decide) (fun _ => FL.fts_nil) (fun _ => (FL.fe_and (FL.fe_cmp (op_eqD hr.units) FL.ok_eq (FL.fe_ix ix_seq FL.ok_ix (FL.fe_bor 0) FL.fe_int (fun _ _ => rfl)) FL.fe_int (nomark _)) (FL.fe_one (FL.fe_cmp (op_eqD hr.units) FL.ok_eq (FL.fe_op op_mod FL.ok_mod (FL.fe_op op_fdivW FL.ok_div (FL.fe_ix ix_seq FL.ok_ix (FL.fe_bor 0) FL.fe_int (fun _ _ => rfl)) (FL.fe_ix ix_seq FL.ok_ix (FL.fe_lst (FL.fa_cons FL.fe_int (FL.fa_cons FL.fe_int (FL.fa_cons FL.fe_int (FL.fa_cons FL.fe_int (FL.fa_cons FL.fe_int (FL.fa_cons FL.fe_int FL.fa_nil))))))) (FL.fe_bor 9) (fun _ _ => rfl))) FL.fe_int) FL.fe_int (nomark _)))))) (FL.fg_name (i := 8) sc__law_to_row.nd))
  (FL.fss_one (FL.fs_ret (FL.fe_tup (FL.fa_cons FL.fe_str (FL.fa_cons (FL.fe_use 5) (FL.fa_cons (FL.fe_callTy call_tuple_of FL.cb_tuple (by rfl) T.tuple (by decide +kernel) (FL.fa_cons (FL.fe_lc (own := [("_law_j", 9)]) rfl sc__law_to_row.nd (FL.fi_rng1 (by rfl) T.range (FL.fa_cons (FL.fe_ix ix_seq FL.ok_ix (FL.fe_bor 1) (FL.fe_bor 5) (fun _ _ => rfl)) FL.fa_nil)) (blkOk_by (own := [("_law_j", 9)]) (by kernel_rfl)) (fun _ => (FL.fg_name (i := 9) sc__law_to_row.nd)) (by decide) (fun _ => FL.fts_nil) (fun _ => (FL.fe_ix ix_seq FL.ok_ix (FL.fe_lst (FL.fa_cons (FL.fe_ix ix_seq FL.ok_ix (FL.fe_bor 4) (FL.fe_bor 9) (fun _ _ => rfl)) (FL.fa_cons FL.fe_non FL.fa_nil))) (FL.fe_callTy FL.call_intU FL.cb_int (by rfl) T.int (by decide +kernel) (FL.fa_cons (FL.fe_ix ix_seq FL.ok_ix (FL.fe_bor 8) (FL.fe_bor 9) (fun _ _ => rfl)) FL.fa_nil)) (fun _ _ => rfl)))) FL.fa_nil)) FL.fa_nil)))))))
  FL.fss_nil)
  (FL.fss_cons (FL.fs_if (FL.ft_cmp (op_eqD hr.units) FL.ok_eq (FL.fe_ix ix_seq FL.ok_ix (FL.fe_bor 0) FL.fe_int (fun _ _ => rfl)) FL.fe_int (nomark _))
  (FL.fss_one (FL.fs_ret (FL.fe_tup (FL.fa_cons FL.fe_str (FL.fa_cons (FL.fe_callTy call_tuple_of FL.cb_tuple (by rfl) T.tuple (by decide +kernel) (FL.fa_cons (FL.fe_sl FL.sl_U FL.ok_sl (FL.fe_bor 4) FL.fo_none (FL.fo_some (FL.fe_op FL.op_addU FL.ok_add FL.fe_int (FL.fe_op op_mod FL.ok_mod (FL.fe_ix ix_seq FL.ok_ix (FL.fe_bor 0) FL.fe_int (fun _ _ => rfl)) FL.fe_int)))) FL.fa_nil)) FL.fa_nil)))))
  FL.fss_nil)
  (FL.fss_cons (FL.fs_if (FL.ft_cmp (op_eqD hr.units) FL.ok_eq (FL.fe_ix ix_seq FL.ok_ix (FL.fe_bor 0) FL.fe_int (fun _ _ => rfl)) FL.fe_int (nomark _))
  (FL.fss_one (FL.fs_ret (FL.fe_tup (FL.fa_cons FL.fe_str (FL.fa_cons (FL.fe_ix ix_seq FL.ok_ix (FL.fe_bor 0) FL.fe_int (fun _ _ => rfl)) (FL.fa_cons (FL.fe_ix ix_seq FL.ok_ix (FL.fe_bor 4) FL.fe_int (fun _ _ => rfl)) FL.fa_nil))))))
  FL.fss_nil)
  (FL.fss_cons (FL.fs_if (FL.ft_cmp op_le FL.ok_le (FL.fe_ix ix_seq FL.ok_ix (FL.fe_bor 1) (FL.fe_bor 5) (fun _ _ => rfl)) (FL.fe_bor 3) (nomark _))
  (FL.fss_one (FL.fs_ret (FL.fe_tup (FL.fa_cons FL.fe_str (FL.fa_cons (FL.fe_use 5) (FL.fa_cons (FL.fe_move 7) (FL.fa_cons (FL.fe_ix ix_seq FL.ok_ix (FL.fe_bor 4) FL.fe_int (fun _ _ => rfl)) FL.fa_nil)))))))
  FL.fss_nil)
  (FL.fss_one (FL.fs_ret (FL.fe_tup (FL.fa_cons (FL.fe_ix ix_seq FL.ok_ix (FL.fe_lst (FL.fa_cons FL.fe_str (FL.fa_cons FL.fe_str FL.fa_nil))) (FL.fe_op op_sub FL.ok_sub (FL.fe_ix ix_seq FL.ok_ix (FL.fe_bor 0) FL.fe_int (fun _ _ => rfl)) FL.fe_int) (fun _ _ => rfl)) (FL.fa_cons (FL.fe_move 5) (FL.fa_cons (FL.fe_ix ix_seq FL.ok_ix (FL.fe_bor 4) FL.fe_int (fun _ _ => rfl)) FL.fa_nil))))))))))))))))
/-! ### law_menu -/
abbrev s__law_menu : Stmt := topS 11
theorem sc__law_menu : FnScope [] [] (defScope s__law_menu) := ⟨rfl, rfl, rfl, by decide +kernel, rfl, by decide +kernel, by decide +kernel⟩
theorem ok__law_menu {P : Program} {w : World} {K : PySem.W.Frag} {mg : Str → Option Value} {base : Heap} {f : Addr} {fd : FuncData} (T : Blt K mg)  (Ff : Fun K "_law_menu" "_law_menu" s__law_menu f fd) (hf : mg "_law_menu" = some (.ref f)) : FL.Cal P w K mg base "_law_menu" 1 0 F__law_menu :=
  FL.cal_mk 0 Ff hf (Ff.binds (ps := []) fun _ _ _ _ _ _ us hl => match us, hl with | [], _ => rfl) sc__law_menu rfl fun cdv A outer s H E hr tk po =>
  (FL.fss_one (FL.fs_ret (FL.fe_lst (FL.fa_cons (FL.fe_tup (FL.fa_cons FL.fe_int FL.fa_nil)) (FL.fa_cons (FL.fe_tup (FL.fa_cons FL.fe_int FL.fa_nil)) (FL.fa_cons (FL.fe_tup (FL.fa_cons FL.fe_int FL.fa_nil)) (FL.fa_cons (FL.fe_tup (FL.fa_cons FL.fe_int FL.fa_nil)) (FL.fa_cons (FL.fe_tup (FL.fa_cons FL.fe_int FL.fa_nil)) (FL.fa_cons (FL.fe_tup (FL.fa_cons FL.fe_int (FL.fa_cons FL.fe_int FL.fa_nil))) (FL.fa_cons (FL.fe_tup (FL.fa_cons FL.fe_int (FL.fa_cons FL.fe_int FL.fa_nil))) (FL.fa_cons (FL.fe_tup (FL.fa_cons FL.fe_int (FL.fa_cons FL.fe_int FL.fa_nil))) (FL.fa_cons (FL.fe_tup (FL.fa_cons FL.fe_int (FL.fa_cons FL.fe_int FL.fa_nil))) (FL.fa_cons (FL.fe_tup (FL.fa_cons FL.fe_int (FL.fa_cons FL.fe_int FL.fa_nil))) (FL.fa_cons (FL.fe_tup (FL.fa_cons FL.fe_int (FL.fa_cons FL.fe_int (FL.fa_cons FL.fe_int FL.fa_nil)))) FL.fa_nil))))))))))))))
/-! ### law_to -/
abbrev s__law_to : Stmt := topS 12
theorem sc__law_to : FnScope ["_law_to_here"] ["_law_to_here"] (defScope s__law_to) := ⟨rfl, rfl, rfl, by decide +kernel, rfl, by decide +kernel, by decide +kernel⟩
theorem ok__law_to {P : Program} {w : World} {K : PySem.W.Frag} {mg : Str → Option Value} {base : Heap} {f : Addr} {fd : FuncData} (T : Blt K mg)  (Ff : Fun K "_law_to" "_law_to" s__law_to f fd) (hf : mg "_law_to" = some (.ref f)) : FL.Cal P w K mg base "_law_to" 1 1 F__law_to :=
  FL.cal_mk 1 Ff hf (Ff.binds (ps := ["_law_to_here"]) fun _ _ _ _ _ _ us hl => match us, hl with | [_], _ => rfl) sc__law_to rfl fun cdv A outer s H E hr tk po =>
  (FL.fss_cons (FL.fs_if (FL.ft_cmp op_isN FL.ok_isN (FL.fe_bor 0) FL.fe_non (nomark _))
  (FL.fss_one (FL.fs_ret FL.fe_str))
  FL.fss_nil)
  (FL.fss_one (FL.fs_ret (FL.fe_callTy call_str_int FL.cb_str (by rfl) T.str (by decide +kernel) (FL.fa_cons (FL.fe_bor 0) FL.fa_nil)))))
/-! ### row_text -/
abbrev s_row_text : Stmt := topS 2
theorem sc_row_text : FnScope ["row", "words", "part", "to"] ["row"] (defScope s_row_text) := ⟨rfl, rfl, rfl, by decide +kernel, rfl, by decide +kernel, by decide +kernel⟩
theorem ok_row_text {P : Program} {w : World} {K : PySem.W.Frag} {mg : Str → Option Value} {base : Heap} {f : Addr} {fd : FuncData} (T : Blt K mg) (c_to_word : FL.Cal P w K mg base "to_word" 1 1 F_to_word) (Ff : Fun K "row_text" "row_text" s_row_text f fd) (hf : mg "row_text" = some (.ref f)) : FL.Cal P w K mg base "row_text" 2 1 F_row_text :=
  FL.cal_mk 1 Ff hf (Ff.binds (ps := ["row"]) fun _ _ _ _ _ _ us hl => match us, hl with | [_], _ => rfl) sc_row_text rfl fun cdv A outer s H E hr tk po =>
  (FL.fss_cons (FL.fs_asg (FL.fe_lst (FL.fa_cons (FL.fe_ix ix_seq FL.ok_ix (FL.fe_bor 0) FL.fe_int (fun _ _ => rfl)) FL.fa_nil)) (FL.fg_name (i := 1) sc_row_text.nd))
  (FL.fss_cons (FL.fs_for po rfl (FL.fi_any (FL.fe_sl FL.sl_U FL.ok_sl (FL.fe_bor 0) (FL.fo_some FL.fe_int) FL.fo_none)) (FL.fg_name (i := 2) sc_row_text.nd)
  (FL.fss_one (FL.fs_if (FL.ft_val (FL.fe_isT (by decide +kernel) (by rfl) T.isinstance (by decide +kernel) (by rfl) T.tuple (by decide +kernel) (by decide) (by decide) (FL.fe_bor 2)))
  (FL.fss_one (FL.fs_extend (FL.fp_var 1) (FL.fe_lc (own := [("to", 3)]) rfl sc_row_text.nd (FL.fi_any (FL.fe_move 2)) (blkOk_by (own := [("to", 3)]) (by kernel_rfl)) (fun _ => (FL.fg_name (i := 3) sc_row_text.nd)) (by decide) (fun _ => FL.fts_nil) (fun _ => (FL.fe_callC takes0 c_to_word (hr.mono (by decide)) (by rfl) (FL.fa_cons (FL.fe_bor 3) FL.fa_nil))))))
  (FL.fss_one (FL.fs_append (FL.fp_var 1) (FL.fe_callTy FL.call_strU FL.cb_strU (by rfl) T.str (by decide +kernel) (FL.fa_cons (FL.fe_bor 2) FL.fa_nil)))))))
  (FL.fss_one (FL.fs_ret (FL.fe_bm PySem.F.plainAttrs_str PySem.F.slot_str_join PySem.F.type_str_join mt_join FL.mb_join FL.ty_str FL.fe_str (FL.fa_cons (FL.fe_bor 1) FL.fa_nil))))))
/-! ### law_plan -/
abbrev s__law_plan : Stmt := topS 9
theorem sc__law_plan : FnScope ["_law_script", "_law_most_procs", "_law_most_rows", "_law_most_hands", "_law_menu_here", "_law_head", "_law_worths", "_law_firsts", "_law_many", "_law_hands", "_law_procs", "_law_k", "_law_row", "_law_end", "_law_j"] ["_law_script", "_law_most_procs", "_law_most_rows", "_law_most_hands", "_law_menu_here"] (defScope s__law_plan) := ⟨rfl, rfl, rfl, by decide +kernel, rfl, by decide +kernel, by decide +kernel⟩
theorem ok__law_plan {P : Program} {w : World} {K : PySem.W.Frag} {mg : Str → Option Value} {base : Heap} {f : Addr} {fd : FuncData} (T : Blt K mg) (c__law_cell_at : FL.Cal P w K mg base "_law_cell_at" 1 2 F__law_cell_at) (c__law_digits : FL.Cal P w K mg base "_law_digits" 1 3 F__law_digits) (c__law_to_row : FL.Cal P w K mg base "_law_to_row" 1 4 F__law_to_row) (Ff : Fun K "_law_plan" "_law_plan" s__law_plan f fd) (hf : mg "_law_plan" = some (.ref f)) : FL.Cal P w K mg base "_law_plan" 2 5 F__law_plan :=
  FL.cal_mk 5 Ff hf (Ff.binds (ps := ["_law_script", "_law_most_procs", "_law_most_rows", "_law_most_hands", "_law_menu_here"]) fun _ _ _ _ _ _ us hl => match us, hl with | [_, _, _, _, _], _ => rfl) sc__law_plan rfl fun cdv A outer s H E hr tk po =>
  (FL.fss_cons (FL.fs_asg (FL.fe_callC tk c__law_digits (hr.mono (by decide)) (by rfl) (FL.fa_cons (FL.fe_callC tk c__law_cell_at (hr.mono (by decide)) (by rfl) (FL.fa_cons (FL.fe_bor 0) (FL.fa_cons FL.fe_int FL.fa_nil))) (FL.fa_cons FL.fe_int (FL.fa_cons (FL.fe_lst (FL.fa_cons (FL.fe_callB call_len FL.cb_len (by rfl) T.len (by decide +kernel) (FL.fa_cons (FL.fe_bor 4) FL.fa_nil)) (FL.fa_cons (FL.fe_move 1) (FL.fa_cons (FL.fe_move 3) (FL.fa_cons FL.fe_int (FL.fa_cons FL.fe_int (FL.fa_cons FL.fe_int (FL.fa_cons FL.fe_int (FL.fa_cons FL.fe_int (FL.fa_cons FL.fe_int FL.fa_nil)))))))))) FL.fa_nil)))) (FL.fg_name (i := 5) sc__law_plan.nd))
  (FL.fss_cons (FL.fs_asg (FL.fe_ix ix_seq FL.ok_ix (FL.fe_bor 4) (FL.fe_ix ix_seq FL.ok_ix (FL.fe_bor 5) FL.fe_int (fun _ _ => rfl)) (fun _ _ => rfl)) (FL.fg_name (i := 6) sc__law_plan.nd))
  (FL.fss_cons (FL.fs_setLc (i := 7) (own := [("_law_k", 11)]) rfl sc__law_plan.nd rfl rfl (sw_true rfl rfl rfl (by decide +kernel)) (FL.fi_rng1 (by rfl) T.range (FL.fa_cons (FL.fe_callB call_len FL.cb_len (by rfl) T.len (by decide +kernel) (FL.fa_cons (FL.fe_bor 6) FL.fa_nil)) FL.fa_nil)) (blkOk_by (own := [("_law_k", 11)]) (by kernel_rfl)) (fun _ => (FL.fg_name (i := 11) sc__law_plan.nd)) (by decide) (fun _ => FL.fts_nil) (fun _ => (FL.fe_op op_mod FL.ok_mod (FL.fe_ix ix_seq FL.ok_ix (FL.fe_bor 5) (FL.fe_op FL.op_addU FL.ok_add FL.fe_int (FL.fe_bor 11)) (fun _ _ => rfl)) (FL.fe_ix ix_seq FL.ok_ix (FL.fe_bor 6) (FL.fe_bor 11) (fun _ _ => rfl)))))
  (FL.fss_cons (FL.fs_asg (FL.fe_op FL.op_addU FL.ok_add FL.fe_int (FL.fe_ix ix_seq FL.ok_ix (FL.fe_bor 5) FL.fe_int (fun _ _ => rfl))) (FL.fg_name (i := 8) sc__law_plan.nd))
  (FL.fss_cons (FL.fs_asg (FL.fe_lc (own := [("_law_k", 11)]) rfl sc__law_plan.nd (FL.fi_rng1 (by rfl) T.range (FL.fa_cons (FL.fe_op FL.op_addU FL.ok_add FL.fe_int (FL.fe_ix ix_seq FL.ok_ix (FL.fe_bor 5) FL.fe_int (fun _ _ => rfl))) FL.fa_nil)) (blkOk_by (own := [("_law_k", 11)]) (by kernel_rfl)) (fun _ => (FL.fg_name (i := 11) sc__law_plan.nd)) (by decide) (fun _ => FL.fts_nil) (fun _ => (FL.fe_op op_mod FL.ok_mod (FL.fe_ix ix_seq FL.ok_ix (FL.fe_bor 5) (FL.fe_op FL.op_addU FL.ok_add FL.fe_int (FL.fe_bor 11)) (fun _ _ => rfl)) (FL.fe_bor 8)))) (FL.fg_name (i := 9) sc__law_plan.nd))
  (FL.fss_cons (FL.fs_asg (FL.fe_lst FL.fa_nil) (FL.fg_name (i := 10) sc__law_plan.nd))
  (FL.fss_cons (FL.fs_for po rfl (FL.fi_rng1 (by rfl) T.range (FL.fa_cons (FL.fe_bor 8) FL.fa_nil)) (FL.fg_name (i := 11) sc__law_plan.nd)
  (FL.fss_cons (FL.fs_asg (FL.fe_callC tk c__law_digits (hr.mono (by decide)) (by rfl) (FL.fa_cons (FL.fe_callC tk c__law_cell_at (hr.mono (by decide)) (by rfl) (FL.fa_cons (FL.fe_bor 0) (FL.fa_cons (FL.fe_op FL.op_addU FL.ok_add FL.fe_int (FL.fe_bor 11)) FL.fa_nil))) (FL.fa_cons (FL.fe_op FL.op_addU FL.ok_add FL.fe_int (FL.fe_bor 11)) (FL.fa_cons (FL.fe_op FL.op_addU FL.ok_add (FL.fe_lst (FL.fa_cons (FL.fe_use 2) FL.fa_nil)) (FL.fe_op FL.op_mulU FL.ok_mul (FL.fe_lst (FL.fa_cons FL.fe_int (FL.fa_cons FL.fe_int (FL.fa_cons FL.fe_int (FL.fa_cons FL.fe_int (FL.fa_cons FL.fe_int (FL.fa_cons FL.fe_int (FL.fa_cons FL.fe_int (FL.fa_cons (FL.fe_use 8) FL.fa_nil))))))))) (FL.fe_bor 2))) FL.fa_nil)))) (FL.fg_name (i := 12) sc__law_plan.nd))
  (FL.fss_cons (FL.fs_asg (FL.fe_op FL.op_addU FL.ok_add FL.fe_int (FL.fe_ix ix_seq FL.ok_ix (FL.fe_bor 12) FL.fe_int (fun _ _ => rfl))) (FL.fg_name (i := 13) sc__law_plan.nd))
  (FL.fss_one (FL.fs_append (FL.fp_var 10) (FL.fe_lc (own := [("_law_j", 14)]) rfl sc__law_plan.nd (FL.fi_rng1 (by rfl) T.range (FL.fa_cons (FL.fe_bor 13) FL.fa_nil)) (blkOk_by (own := [("_law_j", 14)]) (by kernel_rfl)) (fun _ => (FL.fg_name (i := 14) sc__law_plan.nd)) (by decide) (fun _ => FL.fts_nil) (fun _ => (FL.fe_callC takes0 c__law_to_row (hr.mono (by decide)) (by rfl) (FL.fa_cons (FL.fe_sl FL.sl_U FL.ok_sl (FL.fe_bor 12) (FL.fo_some (FL.fe_op FL.op_addU FL.ok_add FL.fe_int (FL.fe_op FL.op_mulU FL.ok_mul FL.fe_int (FL.fe_bor 14)))) (FL.fo_some (FL.fe_op FL.op_addU FL.ok_add FL.fe_int (FL.fe_op FL.op_mulU FL.ok_mul FL.fe_int (FL.fe_bor 14))))) (FL.fa_cons (FL.fe_bor 6) (FL.fa_cons (FL.fe_bor 13) (FL.fa_cons (FL.fe_callB call_len FL.cb_len (by rfl) T.len (by decide +kernel) (FL.fa_cons (FL.fe_bor 9) FL.fa_nil)) FL.fa_nil))))))))))))
  (FL.fss_one (FL.fs_ret (FL.fe_tup (FL.fa_cons (FL.fe_move 6) (FL.fa_cons (FL.fe_move 7) (FL.fa_cons (FL.fe_move 10) (FL.fa_cons (FL.fe_move 9) FL.fa_nil))))))))))))))
/-! ### law_program -/
abbrev s__law_program : Stmt := topS 10
theorem sc__law_program : FnScope ["_law_plan_here", "_law_number", "_law_worths", "_law_firsts", "_law_procs", "_law_hands", "_law_boxes", "_law_titles", "_law_rows", "_law_k", "_law_proc", "_law_built", "_law_row"] ["_law_plan_here", "_law_number"] (defScope s__law_program) := ⟨rfl, rfl, rfl, by decide +kernel, rfl, by decide +kernel, by decide +kernel⟩
theorem ok__law_program {P : Program} {w : World} {K : PySem.W.Frag} {mg : Str → Option Value} {base : Heap} {f : Addr} {fd : FuncData} (T : Blt K mg) (c__law_name : FL.Cal P w K mg base "_law_name" 1 2 F__law_name) (Ff : Fun K "_law_program" "_law_program" s__law_program f fd) (hf : mg "_law_program" = some (.ref f)) : FL.Cal P w K mg base "_law_program" 2 2 F__law_program :=
  FL.cal_mk 2 Ff hf (Ff.binds (ps := ["_law_plan_here", "_law_number"]) fun _ _ _ _ _ _ us hl => match us, hl with | [_, _], _ => rfl) sc__law_program rfl fun cdv A outer s H E hr tk po =>
  (FL.fss_cons (FL.fs_asg (FL.fe_move 0) (FL.fg_tup rfl (FL.fgs_cons (FL.fg_name (i := 2) sc__law_program.nd) (FL.fgs_cons (FL.fg_name (i := 3) sc__law_program.nd) (FL.fgs_cons (FL.fg_name (i := 4) sc__law_program.nd) (FL.fgs_cons (FL.fg_name (i := 5) sc__law_program.nd) FL.fgs_nil))))))
  (FL.fss_cons (FL.fs_setLc (i := 6) (own := [("_law_k", 9)]) rfl sc__law_program.nd rfl rfl (sw_true rfl rfl rfl (by decide +kernel)) (FL.fi_rng1 (by rfl) T.range (FL.fa_cons (FL.fe_callB call_len FL.cb_len (by rfl) T.len (by decide +kernel) (FL.fa_cons (FL.fe_bor 2) FL.fa_nil)) FL.fa_nil)) (blkOk_by (own := [("_law_k", 9)]) (by kernel_rfl)) (fun _ => (FL.fg_name (i := 9) sc__law_program.nd)) (by decide) (fun _ => FL.fts_nil) (fun _ => (FL.fe_tup (FL.fa_cons (FL.fe_callC takes0 c__law_name (hr.mono (by decide)) (by rfl) (FL.fa_cons (FL.fe_op op_mod FL.ok_mod (FL.fe_bor 1) FL.fe_int) (FL.fa_cons (FL.fe_bor 9) FL.fa_nil))) (FL.fa_cons (FL.fe_ix ix_seq FL.ok_ix (FL.fe_bor 2) (FL.fe_bor 9) (fun _ _ => rfl)) (FL.fa_cons (FL.fe_ix ix_seq FL.ok_ix (FL.fe_bor 3) (FL.fe_bor 9) (fun _ _ => rfl)) FL.fa_nil))))))
  (FL.fss_cons (FL.fs_asg (FL.fe_lc (own := [("_law_k", 9)]) rfl sc__law_program.nd (FL.fi_rng1 (by rfl) T.range (FL.fa_cons (FL.fe_callB call_len FL.cb_len (by rfl) T.len (by decide +kernel) (FL.fa_cons (FL.fe_bor 4) FL.fa_nil)) FL.fa_nil)) (blkOk_by (own := [("_law_k", 9)]) (by kernel_rfl)) (fun _ => (FL.fg_name (i := 9) sc__law_program.nd)) (by decide) (fun _ => FL.fts_nil) (fun _ => (FL.fe_callC takes0 c__law_name (hr.mono (by decide)) (by rfl) (FL.fa_cons (FL.fe_op op_mod FL.ok_mod (FL.fe_op op_fdivW FL.ok_div (FL.fe_bor 1) FL.fe_int) FL.fe_int) (FL.fa_cons (FL.fe_bor 9) FL.fa_nil))))) (FL.fg_name (i := 7) sc__law_program.nd))
  (FL.fss_cons (FL.fs_asg (FL.fe_lst FL.fa_nil) (FL.fg_name (i := 8) sc__law_program.nd))
  (FL.fss_cons (FL.fs_for po rfl (FL.fi_en (by rfl) T.enumerate (FL.fe_move 4)) (FL.fg_tup rfl (FL.fgs_cons (FL.fg_name (i := 9) sc__law_program.nd) (FL.fgs_cons (FL.fg_name (i := 10) sc__law_program.nd) FL.fgs_nil)))
  (FL.fss_cons (FL.fs_asg (FL.fe_lst FL.fa_nil) (FL.fg_name (i := 11) sc__law_program.nd))
  (FL.fss_cons (FL.fs_for po rfl (FL.fi_any (FL.fe_use 10)) (FL.fg_name (i := 12) sc__law_program.nd)
  (FL.fss_cons (FL.fs_if (FL.ft_cmp (op_eqD hr.units) FL.ok_eq (FL.fe_ix ix_seq FL.ok_ix (FL.fe_bor 12) FL.fe_int (fun _ _ => rfl)) FL.fe_str (nomark _))
  (FL.fss_one (FL.fs_asg (FL.fe_tup (FL.fa_cons FL.fe_str (FL.fa_cons (FL.fe_ix ix_seq FL.ok_ix (FL.fe_bor 7) (FL.fe_ix ix_seq FL.ok_ix (FL.fe_bor 12) FL.fe_int (fun _ _ => rfl)) (fun _ _ => rfl)) (FL.fa_cons (FL.fe_ix ix_seq FL.ok_ix (FL.fe_bor 12) FL.fe_int (fun _ _ => rfl)) FL.fa_nil)))) (FL.fg_name (i := 12) sc__law_program.nd)))
  (FL.fss_one (FL.fs_if (FL.ft_cmp (op_neD hr.units) FL.ok_ne (FL.fe_ix ix_seq FL.ok_ix (FL.fe_bor 12) FL.fe_int (fun _ _ => rfl)) FL.fe_str (nomark _))
  (FL.fss_one (FL.fs_asg (FL.fe_op FL.op_addU FL.ok_add (FL.fe_tup (FL.fa_cons (FL.fe_ix ix_seq FL.ok_ix (FL.fe_bor 12) FL.fe_int (fun _ _ => rfl)) (FL.fa_cons (FL.fe_ix ix_seq FL.ok_ix (FL.fe_ix ix_seq FL.ok_ix (FL.fe_bor 6) (FL.fe_ix ix_seq FL.ok_ix (FL.fe_bor 12) FL.fe_int (fun _ _ => rfl)) (fun _ _ => rfl)) FL.fe_int (fun _ _ => rfl)) FL.fa_nil))) (FL.fe_sl FL.sl_U FL.ok_sl (FL.fe_bor 12) (FL.fo_some FL.fe_int) FL.fo_none)) (FL.fg_name (i := 12) sc__law_program.nd)))
  FL.fss_nil)))
  (FL.fss_one (FL.fs_append (FL.fp_var 11) (FL.fe_move 12)))))
  (FL.fss_one (FL.fs_append (FL.fp_var 8) (FL.fe_tup (FL.fa_cons (FL.fe_ix ix_seq FL.ok_ix (FL.fe_bor 7) (FL.fe_bor 9) (fun _ _ => rfl)) (FL.fa_cons (FL.fe_move 11) FL.fa_nil))))))))
  (FL.fss_one (FL.fs_ret (FL.fe_tup (FL.fa_cons (FL.fe_move 6) (FL.fa_cons (FL.fe_move 8) (FL.fa_cons (FL.fe_lc (own := [("_law_k", 9), ("_law_proc", 10)]) rfl sc__law_program.nd (FL.fi_en (by rfl) T.enumerate (FL.fe_move 5)) (blkOk_by (own := [("_law_k", 9), ("_law_proc", 10)]) (by kernel_rfl)) (fun _ => (FL.fg_tup rfl (FL.fgs_cons (FL.fg_name (i := 9) sc__law_program.nd) (FL.fgs_cons (FL.fg_name (i := 10) sc__law_program.nd) FL.fgs_nil)))) (by decide) (fun _ => FL.fts_nil) (fun _ => (FL.fe_tup (FL.fa_cons (FL.fe_callC takes0 c__law_name (hr.mono (by decide)) (by rfl) (FL.fa_cons (FL.fe_op op_mod FL.ok_mod (FL.fe_op op_fdivW FL.ok_div (FL.fe_bor 1) FL.fe_int) FL.fe_int) (FL.fa_cons (FL.fe_bor 9) FL.fa_nil))) (FL.fa_cons (FL.fe_ix ix_seq FL.ok_ix (FL.fe_bor 7) (FL.fe_bor 10) (fun _ _ => rfl)) FL.fa_nil))))) FL.fa_nil)))))))))))
/-! ### law_words -/
abbrev s__law_words : Stmt := topS 13
theorem sc__law_words : FnScope ["_law_row", "_law_words_here", "_law_part", "_law_to_here"] ["_law_row"] (defScope s__law_words) := ⟨rfl, rfl, rfl, by decide +kernel, rfl, by decide +kernel, by decide +kernel⟩
theorem ok__law_words {P : Program} {w : World} {K : PySem.W.Frag} {mg : Str → Option Value} {base : Heap} {f : Addr} {fd : FuncData} (T : Blt K mg) (c__law_to : FL.Cal P w K mg base "_law_to" 1 1 F__law_to) (Ff : Fun K "_law_words" "_law_words" s__law_words f fd) (hf : mg "_law_words" = some (.ref f)) : FL.Cal P w K mg base "_law_words" 2 1 F__law_words :=
  FL.cal_mk 1 Ff hf (Ff.binds (ps := ["_law_row"]) fun _ _ _ _ _ _ us hl => match us, hl with | [_], _ => rfl) sc__law_words rfl fun cdv A outer s H E hr tk po =>
  (FL.fss_cons (FL.fs_asg (FL.fe_lst (FL.fa_cons (FL.fe_ix ix_seq FL.ok_ix (FL.fe_bor 0) FL.fe_int (fun _ _ => rfl)) FL.fa_nil)) (FL.fg_name (i := 1) sc__law_words.nd))
  (FL.fss_cons (FL.fs_for po rfl (FL.fi_any (FL.fe_sl FL.sl_U FL.ok_sl (FL.fe_bor 0) (FL.fo_some FL.fe_int) FL.fo_none)) (FL.fg_name (i := 2) sc__law_words.nd)
  (FL.fss_one (FL.fs_if (FL.ft_val (FL.fe_isT (by decide +kernel) (by rfl) T.isinstance (by decide +kernel) (by rfl) T.tuple (by decide +kernel) (by decide) (by decide) (FL.fe_bor 2)))
  (FL.fss_one (FL.fs_asg (FL.fe_op FL.op_addU FL.ok_add (FL.fe_use 1) (FL.fe_lc (own := [("_law_to_here", 3)]) rfl sc__law_words.nd (FL.fi_any (FL.fe_move 2)) (blkOk_by (own := [("_law_to_here", 3)]) (by kernel_rfl)) (fun _ => (FL.fg_name (i := 3) sc__law_words.nd)) (by decide) (fun _ => FL.fts_nil) (fun _ => (FL.fe_callC takes0 c__law_to (hr.mono (by decide)) (by rfl) (FL.fa_cons (FL.fe_bor 3) FL.fa_nil))))) (FL.fg_name (i := 1) sc__law_words.nd)))
  (FL.fss_one (FL.fs_append (FL.fp_var 1) (FL.fe_callTy FL.call_strU FL.cb_strU (by rfl) T.str (by decide +kernel) (FL.fa_cons (FL.fe_bor 2) FL.fa_nil)))))))
  (FL.fss_one (FL.fs_ret (FL.fe_bm PySem.F.plainAttrs_str PySem.F.slot_str_join PySem.F.type_str_join mt_join FL.mb_join FL.ty_str FL.fe_str (FL.fa_cons (FL.fe_bor 1) FL.fa_nil))))))
/-! ### written -/
abbrev s_written : Stmt := topS 3
theorem sc_written : FnScope ["program", "boxes", "procs", "hands", "rows", "name", "some", "first", "worths", "proc", "row"] ["program"] (defScope s_written) := ⟨rfl, rfl, rfl, by decide +kernel, rfl, by decide +kernel, by decide +kernel⟩
theorem ok_written {P : Program} {w : World} {K : PySem.W.Frag} {mg : Str → Option Value} {base : Heap} {f : Addr} {fd : FuncData} (T : Blt K mg) (c_row_text : FL.Cal P w K mg base "row_text" 2 1 F_row_text) (Ff : Fun K "written" "written" s_written f fd) (hf : mg "written" = some (.ref f)) : FL.Cal P w K mg base "written" 3 1 F_written :=
  FL.cal_mk 1 Ff hf (Ff.binds (ps := ["program"]) fun _ _ _ _ _ _ us hl => match us, hl with | [_], _ => rfl) sc_written rfl fun cdv A outer s H E hr tk po =>
  (FL.fss_cons (FL.fs_asg (FL.fe_move 0) (FL.fg_tup rfl (FL.fgs_cons (FL.fg_name (i := 1) sc_written.nd) (FL.fgs_cons (FL.fg_name (i := 2) sc_written.nd) (FL.fgs_cons (FL.fg_name (i := 3) sc_written.nd) FL.fgs_nil)))))
  (FL.fss_cons (FL.fs_setLc (i := 4) (own := [("name", 5), ("worths", 8), ("first", 7)]) rfl sc_written.nd rfl rfl (sw_true rfl rfl rfl (by decide +kernel)) (FL.fi_any (FL.fe_move 1)) (blkOk_by (own := [("name", 5), ("worths", 8), ("first", 7)]) (by kernel_rfl)) (fun _ => (FL.fg_tup rfl (FL.fgs_cons (FL.fg_name (i := 5) sc_written.nd) (FL.fgs_cons (FL.fg_name (i := 8) sc_written.nd) (FL.fgs_cons (FL.fg_name (i := 7) sc_written.nd) FL.fgs_nil))))) (by decide) (fun _ => FL.fts_nil) (fun _ => (FL.fe_bm PySem.F.plainAttrs_str PySem.F.slot_str_join PySem.F.type_str_join mt_join FL.mb_join FL.ty_str FL.fe_str (FL.fa_cons (FL.fe_lst (FL.fa_cons FL.fe_str (FL.fa_cons (FL.fe_use 5) (FL.fa_cons (FL.fe_callTy call_str_int FL.cb_str (by rfl) T.str (by decide +kernel) (FL.fa_cons (FL.fe_bor 8) FL.fa_nil)) (FL.fa_cons (FL.fe_callTy call_str_int FL.cb_str (by rfl) T.str (by decide +kernel) (FL.fa_cons (FL.fe_bor 7) FL.fa_nil)) FL.fa_nil))))) FL.fa_nil))))
  (FL.fss_cons (FL.fs_for po rfl (FL.fi_any (FL.fe_move 2)) (FL.fg_tup rfl (FL.fgs_cons (FL.fg_name (i := 5) sc_written.nd) (FL.fgs_cons (FL.fg_name (i := 6) sc_written.nd) FL.fgs_nil)))
  (FL.fss_cons (FL.fs_append (FL.fp_var 4) (FL.fe_op FL.op_addU FL.ok_add FL.fe_str (FL.fe_use 5)))
  (FL.fss_one (FL.fs_extend (FL.fp_var 4) (FL.fe_lc (own := [("row", 10)]) rfl sc_written.nd (FL.fi_any (FL.fe_move 6)) (blkOk_by (own := [("row", 10)]) (by kernel_rfl)) (fun _ => (FL.fg_name (i := 10) sc_written.nd)) (by decide) (fun _ => FL.fts_nil) (fun _ => (FL.fe_callC takes0 c_row_text (hr.mono (by decide)) (by rfl) (FL.fa_cons (FL.fe_bor 10) FL.fa_nil))))))))
  (FL.fss_cons (FL.fs_extend (FL.fp_var 4) (FL.fe_lc (own := [("name", 5), ("proc", 9)]) rfl sc_written.nd (FL.fi_any (FL.fe_move 3)) (blkOk_by (own := [("name", 5), ("proc", 9)]) (by kernel_rfl)) (fun _ => (FL.fg_tup rfl (FL.fgs_cons (FL.fg_name (i := 5) sc_written.nd) (FL.fgs_cons (FL.fg_name (i := 9) sc_written.nd) FL.fgs_nil)))) (by decide) (fun _ => FL.fts_nil) (fun _ => (FL.fe_op FL.op_addU FL.ok_add (FL.fe_op FL.op_addU FL.ok_add (FL.fe_op FL.op_addU FL.ok_add FL.fe_str (FL.fe_use 5)) FL.fe_str) (FL.fe_use 9)))))
  (FL.fss_one (FL.fs_ret (FL.fe_bm PySem.F.plainAttrs_str PySem.F.slot_str_join PySem.F.type_str_join mt_join FL.mb_join FL.ty_str FL.fe_str (FL.fa_cons (FL.fe_bor 4) FL.fa_nil))))))))
/-! ### law_text -/
abbrev s__law_text : Stmt := topS 14
theorem sc__law_text : FnScope ["_law_program_here", "_law_boxes", "_law_procs", "_law_hands", "_law_rows", "_law_name_here", "_law_some", "_law_worths", "_law_first", "_law_row", "_law_proc"] ["_law_program_here"] (defScope s__law_text) := ⟨rfl, rfl, rfl, by decide +kernel, rfl, by decide +kernel, by decide +kernel⟩
theorem ok__law_text {P : Program} {w : World} {K : PySem.W.Frag} {mg : Str → Option Value} {base : Heap} {f : Addr} {fd : FuncData} (T : Blt K mg) (c__law_words : FL.Cal P w K mg base "_law_words" 2 1 F__law_words) (Ff : Fun K "_law_text" "_law_text" s__law_text f fd) (hf : mg "_law_text" = some (.ref f)) : FL.Cal P w K mg base "_law_text" 3 1 F__law_text :=
  FL.cal_mk 1 Ff hf (Ff.binds (ps := ["_law_program_here"]) fun _ _ _ _ _ _ us hl => match us, hl with | [_], _ => rfl) sc__law_text rfl fun cdv A outer s H E hr tk po =>
  (FL.fss_cons (FL.fs_asg (FL.fe_move 0) (FL.fg_tup rfl (FL.fgs_cons (FL.fg_name (i := 1) sc__law_text.nd) (FL.fgs_cons (FL.fg_name (i := 2) sc__law_text.nd) (FL.fgs_cons (FL.fg_name (i := 3) sc__law_text.nd) FL.fgs_nil)))))
  (FL.fss_cons (FL.fs_setLc (i := 4) (own := [("_law_name_here", 5), ("_law_worths", 7), ("_law_first", 8)]) rfl sc__law_text.nd rfl rfl (sw_true rfl rfl rfl (by decide +kernel)) (FL.fi_any (FL.fe_move 1)) (blkOk_by (own := [("_law_name_here", 5), ("_law_worths", 7), ("_law_first", 8)]) (by kernel_rfl)) (fun _ => (FL.fg_tup rfl (FL.fgs_cons (FL.fg_name (i := 5) sc__law_text.nd) (FL.fgs_cons (FL.fg_name (i := 7) sc__law_text.nd) (FL.fgs_cons (FL.fg_name (i := 8) sc__law_text.nd) FL.fgs_nil))))) (by decide) (fun _ => FL.fts_nil) (fun _ => (FL.fe_op FL.op_addU FL.ok_add (FL.fe_op FL.op_addU FL.ok_add (FL.fe_op FL.op_addU FL.ok_add (FL.fe_op FL.op_addU FL.ok_add (FL.fe_op FL.op_addU FL.ok_add FL.fe_str (FL.fe_use 5)) FL.fe_str) (FL.fe_callTy call_str_int FL.cb_str (by rfl) T.str (by decide +kernel) (FL.fa_cons (FL.fe_bor 7) FL.fa_nil))) FL.fe_str) (FL.fe_callTy call_str_int FL.cb_str (by rfl) T.str (by decide +kernel) (FL.fa_cons (FL.fe_bor 8) FL.fa_nil)))))
  (FL.fss_cons (FL.fs_for po rfl (FL.fi_any (FL.fe_move 2)) (FL.fg_tup rfl (FL.fgs_cons (FL.fg_name (i := 5) sc__law_text.nd) (FL.fgs_cons (FL.fg_name (i := 6) sc__law_text.nd) FL.fgs_nil)))
  (FL.fss_one (FL.fs_asg (FL.fe_op FL.op_addU FL.ok_add (FL.fe_op FL.op_addU FL.ok_add (FL.fe_use 4) (FL.fe_lst (FL.fa_cons (FL.fe_op FL.op_addU FL.ok_add FL.fe_str (FL.fe_use 5)) FL.fa_nil))) (FL.fe_lc (own := [("_law_row", 9)]) rfl sc__law_text.nd (FL.fi_any (FL.fe_move 6)) (blkOk_by (own := [("_law_row", 9)]) (by kernel_rfl)) (fun _ => (FL.fg_name (i := 9) sc__law_text.nd)) (by decide) (fun _ => FL.fts_nil) (fun _ => (FL.fe_callC takes0 c__law_words (hr.mono (by decide)) (by rfl) (FL.fa_cons (FL.fe_bor 9) FL.fa_nil))))) (FL.fg_name (i := 4) sc__law_text.nd))))
  (FL.fss_one (FL.fs_ret (FL.fe_bm PySem.F.plainAttrs_str PySem.F.slot_str_join PySem.F.type_str_join mt_join FL.mb_join FL.ty_str FL.fe_str (FL.fa_cons (FL.fe_op FL.op_addU FL.ok_add (FL.fe_bor 4) (FL.fe_lc (own := [("_law_name_here", 5), ("_law_proc", 10)]) rfl sc__law_text.nd (FL.fi_any (FL.fe_move 3)) (blkOk_by (own := [("_law_name_here", 5), ("_law_proc", 10)]) (by kernel_rfl)) (fun _ => (FL.fg_tup rfl (FL.fgs_cons (FL.fg_name (i := 5) sc__law_text.nd) (FL.fgs_cons (FL.fg_name (i := 10) sc__law_text.nd) FL.fgs_nil)))) (by decide) (fun _ => FL.fts_nil) (fun _ => (FL.fe_op FL.op_addU FL.ok_add (FL.fe_op FL.op_addU FL.ok_add (FL.fe_op FL.op_addU FL.ok_add FL.fe_str (FL.fe_use 5)) FL.fe_str) (FL.fe_use 10))))) FL.fa_nil)))))))
/-! ### law_program_at -/
abbrev s__law_program_at : Stmt := topS 15
theorem sc__law_program_at : FnScope ["_law_script", "_law_at", "_law_plan_here"] ["_law_script", "_law_at"] (defScope s__law_program_at) := ⟨rfl, rfl, rfl, by decide +kernel, rfl, by decide +kernel, by decide +kernel⟩
theorem ok__law_program_at {P : Program} {w : World} {K : PySem.W.Frag} {mg : Str → Option Value} {base : Heap} {f : Addr} {fd : FuncData} (T : Blt K mg) (c__law_cell_at : FL.Cal P w K mg base "_law_cell_at" 1 2 F__law_cell_at) (c__law_digits : FL.Cal P w K mg base "_law_digits" 1 3 F__law_digits) (c__law_plan : FL.Cal P w K mg base "_law_plan" 2 5 F__law_plan) (c__law_program : FL.Cal P w K mg base "_law_program" 2 2 F__law_program) (c__law_menu : FL.Cal P w K mg base "_law_menu" 1 0 F__law_menu) (Ff : Fun K "_law_program_at" "_law_program_at" s__law_program_at f fd) (hf : mg "_law_program_at" = some (.ref f)) : FL.Cal P w K mg base "_law_program_at" 3 2 F__law_program_at :=
  FL.cal_mk 2 Ff hf (Ff.binds (ps := ["_law_script", "_law_at"]) fun _ _ _ _ _ _ us hl => match us, hl with | [_, _], _ => rfl) sc__law_program_at rfl fun cdv A outer s H E hr tk po =>
  (FL.fss_cons (FL.fs_asg (FL.fe_callC tk c__law_plan (hr.mono (by decide)) (by rfl) (FL.fa_cons (FL.fe_sl FL.sl_U FL.ok_sl (FL.fe_bor 0) (FL.fo_some (FL.fe_bor 1)) (FL.fo_some (FL.fe_op FL.op_addU FL.ok_add (FL.fe_bor 1) FL.fe_int))) (FL.fa_cons FL.fe_int (FL.fa_cons FL.fe_int (FL.fa_cons FL.fe_int (FL.fa_cons (FL.fe_callC0 c__law_menu (hr.mono (by decide)) (by rfl)) FL.fa_nil)))))) (FL.fg_name (i := 2) sc__law_program_at.nd))
  (FL.fss_one (FL.fs_ret (FL.fe_callC tk c__law_program (hr.mono (by decide)) (by rfl) (FL.fa_cons (FL.fe_bor 2) (FL.fa_cons (FL.fe_ix ix_seq FL.ok_ix (FL.fe_callC tk c__law_digits (hr.mono (by decide)) (by rfl) (FL.fa_cons (FL.fe_callC tk c__law_cell_at (hr.mono (by decide)) (by rfl) (FL.fa_cons (FL.fe_bor 0) (FL.fa_cons (FL.fe_bor 1) FL.fa_nil))) (FL.fa_cons FL.fe_int (FL.fa_cons (FL.fe_lst (FL.fa_cons (FL.fe_op op_pow FL.ok_pow FL.fe_int FL.fe_int) FL.fa_nil)) FL.fa_nil)))) FL.fe_int (fun _ _ => rfl)) FL.fa_nil))))))
/-! ### law_right -/
abbrev s__law_right : Stmt := topS 16
theorem sc__law_right : FnScope ["_law_program_here", "_law_kept", "_law_found"] ["_law_program_here", "_law_kept"] (defScope s__law_right) := ⟨rfl, rfl, rfl, by decide +kernel, rfl, by decide +kernel, by decide +kernel⟩
theorem ok__law_right {P : Program} {w : World} {K : PySem.W.Frag} {mg : Str → Option Value} {base : Heap} {f : Addr} {fd : FuncData} (T : Blt K mg) (c_written : FL.Cal P w K mg base "written" 3 1 F_written) (c__law_text : FL.Cal P w K mg base "_law_text" 3 1 F__law_text) (Ff : Fun K "_law_right" "_law_right" s__law_right f fd) (hf : mg "_law_right" = some (.ref f)) : FL.Cal P w K mg base "_law_right" 4 2 F__law_right :=
  FL.cal_mk 2 Ff hf (Ff.binds (ps := ["_law_program_here", "_law_kept"]) fun _ _ _ _ _ _ us hl => match us, hl with | [_, _], _ => rfl) sc__law_right rfl fun cdv A outer s H E hr tk po =>
  (FL.fss_cons (FL.fs_asg (FL.fe_callC tk c_written (hr.mono (by decide)) (by rfl) (FL.fa_cons (FL.fe_bor 0) FL.fa_nil)) (FL.fg_name (i := 2) sc__law_right.nd))
  (FL.fss_one (FL.fs_ret (FL.fe_and (FL.fe_isT (by decide +kernel) (by rfl) T.isinstance (by decide +kernel) (by rfl) T.str (by decide +kernel) (by decide) (by decide) (FL.fe_bor 2)) (FL.fe_and (FL.fe_cmp (op_eqD hr.units) FL.ok_eq (FL.fe_bor 2) (FL.fe_callC tk c__law_text (hr.mono (by decide)) (by rfl) (FL.fa_cons (FL.fe_bor 1) FL.fa_nil)) (nomark _)) (FL.fe_one (FL.fe_cmp (op_eqD hr.units) FL.ok_eq (FL.fe_bor 0) (FL.fe_bor 1) (nomark _))))))))
/-! ### law -/
abbrev s_law : Stmt := topS 17
theorem sc_law : FnScope ["_law_script", "_law_ahead", "_law_at", "_law_program_here", "_law_kept", "_law_one"] ["_law_script"] (defScope s_law) := ⟨rfl, rfl, rfl, by decide +kernel, rfl, by decide +kernel, by decide +kernel⟩
theorem ok_law {P : Program} {w : World} {K : PySem.W.Frag} {mg : Str → Option Value} {base : Heap} {f : Addr} {fd : FuncData} (T : Blt K mg) (c__law_program_at : FL.Cal P w K mg base "_law_program_at" 3 2 F__law_program_at) (c__law_right : FL.Cal P w K mg base "_law_right" 4 2 F__law_right) (Ff : Fun K "law" "law" s_law f fd) (hf : mg "law" = some (.ref f)) : FL.Cal P w K mg base "law" 5 1 F_law :=
  FL.cal_mk (N := ["_law_script", "_law_ahead", "_law_at", "_law_program_here", "_law_kept", "_law_one"]) (body := B_law) 1 Ff hf (Ff.binds (ps := ["_law_script"]) fun _ _ _ _ _ _ us hl => match us, hl with | [_], _ => rfl) sc_law rfl fun cdv A outer s H E hr tk po =>
  (FL.fss_cons (FL.fs_asg (FL.fe_callC tk c__law_program_at (hr.mono (by decide)) (by rfl) (FL.fa_cons (FL.fe_lst (FL.fa_cons FL.fe_int FL.fa_nil)) (FL.fa_cons FL.fe_int FL.fa_nil))) (FL.fg_name (i := 1) sc_law.nd))
  (FL.fss_cons (FL.fs_for po rfl (FL.fi_rng3 (by rfl) T.range (FL.fa_cons FL.fe_int (FL.fa_cons (FL.fe_callB (call_max2 rfl) FL.cb_max (by rfl) T.max (by decide +kernel) (FL.fa_cons FL.fe_int (FL.fa_cons (FL.fe_callB (call_min2 rfl) FL.cb_min (by rfl) T.min (by decide +kernel) (FL.fa_cons (FL.fe_callB call_len FL.cb_len (by rfl) T.len (by decide +kernel) (FL.fa_cons (FL.fe_bor 0) FL.fa_nil)) (FL.fa_cons FL.fe_int FL.fa_nil))) FL.fa_nil))) (FL.fa_cons FL.fe_int FL.fa_nil)))) (FL.fg_name (i := 2) sc_law.nd)
  (FL.fss_cons (FL.fs_asg (FL.fe_callC tk c__law_program_at (hr.mono (by decide)) (by rfl) (FL.fa_cons (FL.fe_bor 0) (FL.fa_cons (FL.fe_bor 2) FL.fa_nil))) (FL.fg_name (i := 3) sc_law.nd))
  (FL.fss_cons (FL.fs_asg (FL.fe_callC tk c__law_program_at (hr.mono (by decide)) (by rfl) (FL.fa_cons (FL.fe_bor 0) (FL.fa_cons (FL.fe_bor 2) FL.fa_nil))) (FL.fg_name (i := 4) sc_law.nd))
  (FL.fss_cons (FL.fs_if (FL.ft_w (FL.fw_or (FL.ft_not (FL.ft_val (FL.fe_callC tk c__law_right (hr.mono (by decide)) (by rfl) (FL.fa_cons (FL.fe_bor 3) (FL.fa_cons (FL.fe_bor 4) FL.fa_nil))))) (FL.fw_or (FL.ft_not (FL.ft_val (FL.fe_callC tk c__law_right (hr.mono (by decide)) (by rfl) (FL.fa_cons (FL.fe_bor 1) (FL.fa_cons (FL.fe_bor 1) FL.fa_nil))))) (FL.fw_or1 (FL.ft_not (FL.ft_val (FL.fe_callC tk c__law_right (hr.mono (by decide)) (by rfl) (FL.fa_cons (FL.fe_bor 3) (FL.fa_cons (FL.fe_bor 4) FL.fa_nil)))))))))
  (FL.fss_one (FL.fs_ret FL.fe_bl))
  FL.fss_nil)
  (FL.fss_pinA (FL.fss_pinA (FL.fss_pinA (FL.fss_pinA (FL.fss_pinA (FL.fss_pinA (FL.fss_cons (FL.fs_forL po rfl (FL.fi_any (FL.fe_lst (FL.fa_cons (FL.fe_vidP (FL.fp_var 3)) (FL.fa_cons (FL.fe_vidP (FL.fp_var 4)) FL.fa_nil)))) (FL.fg_name (i := 5) sc_law.nd)
  (FL.FBs.cons (FL.fss_ghB FL.gho_tk (FL.fss_ghA FL.gho_gv (FL.fss_one (FL.fs_set (FL.fe_tup (FL.fa_cons FL.fe_str (FL.fa_cons (FL.fe_tup (FL.fa_cons FL.fe_int (FL.fa_cons FL.fe_int (FL.fa_cons FL.fe_int FL.fa_nil)))) FL.fa_nil))) (FL.fp_ix (FL.fp_ix (FL.fp_ix (FL.fp_var 5) FL.fe_int (fun _ _ => rfl)) FL.fe_int (fun _ _ => rfl)) FL.fe_int (fun _ _ => rfl)) FL.fe_int (fun pe po pi => ps_asg pe (pg_sub po pi set_list))))))
  (FL.FBs.cons (FL.fss_ghB FL.gho_tk (FL.fss_ghA FL.gho_gv (FL.fss_one (FL.fs_set (FL.fe_tup (FL.fa_cons FL.fe_str (FL.fa_cons (FL.fe_tup (FL.fa_cons FL.fe_int (FL.fa_cons FL.fe_int (FL.fa_cons FL.fe_int FL.fa_nil)))) FL.fa_nil))) (FL.fp_ix (FL.fp_ix (FL.fp_ix (FL.fp_var 5) FL.fe_int (fun _ _ => rfl)) FL.fe_int (fun _ _ => rfl)) FL.fe_int (fun _ _ => rfl)) FL.fe_int (fun pe po pi => ps_asg pe (pg_sub po pi set_list))))))
  FL.FBs.nil)))
  (FL.fss_cons (FL.fs_if (FL.ft_not (FL.ft_val (FL.fe_callC tk c__law_right (hr.mono (by decide)) (by rfl) (FL.fa_cons (FL.fe_bor 3) (FL.fa_cons (FL.fe_bor 4) FL.fa_nil)))))
  (FL.fss_one (FL.fs_ret FL.fe_bl))
  FL.fss_nil)
  (FL.fss_one (FL.fs_asg (FL.fe_move 3) (FL.fg_name (i := 1) sc_law.nd)))))))))))))))
  (FL.fss_one (FL.fs_ret FL.fe_bl))))
/-! ## what the top has left -/
theorem all_mk {P : Program} {w : World} {K : PySem.W.Frag} {h : Heap} {mg : Str → Option Value} (X : K.In h) (G : h.Ns mainGlobals mg)
    {f0 f1 f2 f3 f4 f5 f6 f7 f8 f9 f10 f11 f12 f13 f14 f15 : Addr} {od0 an0 od1 an1 od2 an2 od3 an3 od4 an4 od5 an5 od6 an6 od7 an7 od8 an8 od9 an9 od10 an10 od11 an11 od12 an12 od13 an13 od14 an14 od15 an15 : Option Addr}
    {sl0 sl1 sl2 sl3 sl4 sl5 sl6 sl7 sl8 sl9 sl10 sl11 sl12 sl13 sl14 sl15 : Array (Option Value)} {oc0 kV0 dc0 pm0 cd0 ct0 oc1 kV1 dc1 pm1 cd1 ct1 oc2 kV2 dc2 pm2 cd2 ct2 oc3 kV3 dc3 pm3 cd3 ct3 oc4 kV4 dc4 pm4 cd4 ct4 oc5 kV5 dc5 pm5 cd5 ct5 oc6 kV6 dc6 pm6 cd6 ct6 oc7 kV7 dc7 pm7 cd7 ct7 oc8 kV8 dc8 pm8 cd8 ct8 oc9 kV9 dc9 pm9 cd9 ct9 oc10 kV10 dc10 pm10 cd10 ct10 oc11 kV11 dc11 pm11 cd11 ct11 oc12 kV12 dc12 pm12 cd12 ct12 oc13 kV13 dc13 pm13 cd13 ct13 oc14 kV14 dc14 pm14 cd14 ct14 oc15 kV15 dc15 pm15 cd15 ct15 : Value}
    (a0 : PySem.W.nsIn K mainGlobals "to_word" = some (some (.ref f0))) (l0 : K.lookup f0 = some ⟨oc0, od0, .func (PySem.W.fnOf "to_word" "to_word" (defArgs s_to_word) (defBody s_to_word) (defScope s_to_word) .none kV0 dc0 pm0 an0 cd0 ct0), sl0⟩)
    (c0 : PySem.W.codeIn K cd0 "to_word" = true) (k0 : PySem.W.keepIn K (.ref f0) = true)
    (a1 : PySem.W.nsIn K mainGlobals "row_text" = some (some (.ref f1))) (l1 : K.lookup f1 = some ⟨oc1, od1, .func (PySem.W.fnOf "row_text" "row_text" (defArgs s_row_text) (defBody s_row_text) (defScope s_row_text) .none kV1 dc1 pm1 an1 cd1 ct1), sl1⟩)
    (c1 : PySem.W.codeIn K cd1 "row_text" = true) (k1 : PySem.W.keepIn K (.ref f1) = true)
    (a2 : PySem.W.nsIn K mainGlobals "written" = some (some (.ref f2))) (l2 : K.lookup f2 = some ⟨oc2, od2, .func (PySem.W.fnOf "written" "written" (defArgs s_written) (defBody s_written) (defScope s_written) .none kV2 dc2 pm2 an2 cd2 ct2), sl2⟩)
    (c2 : PySem.W.codeIn K cd2 "written" = true) (k2 : PySem.W.keepIn K (.ref f2) = true)
    (a3 : PySem.W.nsIn K mainGlobals "_law_cell_at" = some (some (.ref f3))) (l3 : K.lookup f3 = some ⟨oc3, od3, .func (PySem.W.fnOf "_law_cell_at" "_law_cell_at" (defArgs s__law_cell_at) (defBody s__law_cell_at) (defScope s__law_cell_at) .none kV3 dc3 pm3 an3 cd3 ct3), sl3⟩)
    (c3 : PySem.W.codeIn K cd3 "_law_cell_at" = true) (k3 : PySem.W.keepIn K (.ref f3) = true)
    (a4 : PySem.W.nsIn K mainGlobals "_law_digits" = some (some (.ref f4))) (l4 : K.lookup f4 = some ⟨oc4, od4, .func (PySem.W.fnOf "_law_digits" "_law_digits" (defArgs s__law_digits) (defBody s__law_digits) (defScope s__law_digits) .none kV4 dc4 pm4 an4 cd4 ct4), sl4⟩)
    (c4 : PySem.W.codeIn K cd4 "_law_digits" = true) (k4 : PySem.W.keepIn K (.ref f4) = true)
    (a5 : PySem.W.nsIn K mainGlobals "_law_name" = some (some (.ref f5))) (l5 : K.lookup f5 = some ⟨oc5, od5, .func (PySem.W.fnOf "_law_name" "_law_name" (defArgs s__law_name) (defBody s__law_name) (defScope s__law_name) .none kV5 dc5 pm5 an5 cd5 ct5), sl5⟩)
    (c5 : PySem.W.codeIn K cd5 "_law_name" = true) (k5 : PySem.W.keepIn K (.ref f5) = true)
    (a6 : PySem.W.nsIn K mainGlobals "_law_to_row" = some (some (.ref f6))) (l6 : K.lookup f6 = some ⟨oc6, od6, .func (PySem.W.fnOf "_law_to_row" "_law_to_row" (defArgs s__law_to_row) (defBody s__law_to_row) (defScope s__law_to_row) .none kV6 dc6 pm6 an6 cd6 ct6), sl6⟩)
    (c6 : PySem.W.codeIn K cd6 "_law_to_row" = true) (k6 : PySem.W.keepIn K (.ref f6) = true)
    (a7 : PySem.W.nsIn K mainGlobals "_law_plan" = some (some (.ref f7))) (l7 : K.lookup f7 = some ⟨oc7, od7, .func (PySem.W.fnOf "_law_plan" "_law_plan" (defArgs s__law_plan) (defBody s__law_plan) (defScope s__law_plan) .none kV7 dc7 pm7 an7 cd7 ct7), sl7⟩)
    (c7 : PySem.W.codeIn K cd7 "_law_plan" = true) (k7 : PySem.W.keepIn K (.ref f7) = true)
    (a8 : PySem.W.nsIn K mainGlobals "_law_program" = some (some (.ref f8))) (l8 : K.lookup f8 = some ⟨oc8, od8, .func (PySem.W.fnOf "_law_program" "_law_program" (defArgs s__law_program) (defBody s__law_program) (defScope s__law_program) .none kV8 dc8 pm8 an8 cd8 ct8), sl8⟩)
    (c8 : PySem.W.codeIn K cd8 "_law_program" = true) (k8 : PySem.W.keepIn K (.ref f8) = true)
    (a9 : PySem.W.nsIn K mainGlobals "_law_menu" = some (some (.ref f9))) (l9 : K.lookup f9 = some ⟨oc9, od9, .func (PySem.W.fnOf "_law_menu" "_law_menu" (defArgs s__law_menu) (defBody s__law_menu) (defScope s__law_menu) .none kV9 dc9 pm9 an9 cd9 ct9), sl9⟩)
    (c9 : PySem.W.codeIn K cd9 "_law_menu" = true) (k9 : PySem.W.keepIn K (.ref f9) = true)
    (a10 : PySem.W.nsIn K mainGlobals "_law_to" = some (some (.ref f10))) (l10 : K.lookup f10 = some ⟨oc10, od10, .func (PySem.W.fnOf "_law_to" "_law_to" (defArgs s__law_to) (defBody s__law_to) (defScope s__law_to) .none kV10 dc10 pm10 an10 cd10 ct10), sl10⟩)
    (c10 : PySem.W.codeIn K cd10 "_law_to" = true) (k10 : PySem.W.keepIn K (.ref f10) = true)
    (a11 : PySem.W.nsIn K mainGlobals "_law_words" = some (some (.ref f11))) (l11 : K.lookup f11 = some ⟨oc11, od11, .func (PySem.W.fnOf "_law_words" "_law_words" (defArgs s__law_words) (defBody s__law_words) (defScope s__law_words) .none kV11 dc11 pm11 an11 cd11 ct11), sl11⟩)
    (c11 : PySem.W.codeIn K cd11 "_law_words" = true) (k11 : PySem.W.keepIn K (.ref f11) = true)
    (a12 : PySem.W.nsIn K mainGlobals "_law_text" = some (some (.ref f12))) (l12 : K.lookup f12 = some ⟨oc12, od12, .func (PySem.W.fnOf "_law_text" "_law_text" (defArgs s__law_text) (defBody s__law_text) (defScope s__law_text) .none kV12 dc12 pm12 an12 cd12 ct12), sl12⟩)
    (c12 : PySem.W.codeIn K cd12 "_law_text" = true) (k12 : PySem.W.keepIn K (.ref f12) = true)
    (a13 : PySem.W.nsIn K mainGlobals "_law_program_at" = some (some (.ref f13))) (l13 : K.lookup f13 = some ⟨oc13, od13, .func (PySem.W.fnOf "_law_program_at" "_law_program_at" (defArgs s__law_program_at) (defBody s__law_program_at) (defScope s__law_program_at) .none kV13 dc13 pm13 an13 cd13 ct13), sl13⟩)
    (c13 : PySem.W.codeIn K cd13 "_law_program_at" = true) (k13 : PySem.W.keepIn K (.ref f13) = true)
    (a14 : PySem.W.nsIn K mainGlobals "_law_right" = some (some (.ref f14))) (l14 : K.lookup f14 = some ⟨oc14, od14, .func (PySem.W.fnOf "_law_right" "_law_right" (defArgs s__law_right) (defBody s__law_right) (defScope s__law_right) .none kV14 dc14 pm14 an14 cd14 ct14), sl14⟩)
    (c14 : PySem.W.codeIn K cd14 "_law_right" = true) (k14 : PySem.W.keepIn K (.ref f14) = true)
    (a15 : PySem.W.nsIn K mainGlobals "law" = some (some (.ref f15))) (l15 : K.lookup f15 = some ⟨oc15, od15, .func (PySem.W.fnOf "law" "law" (defArgs s_law) (defBody s_law) (defScope s_law) .none kV15 dc15 pm15 an15 cd15 ct15), sl15⟩)
    (c15 : PySem.W.codeIn K cd15 "law" = true) (k15 : PySem.W.keepIn K (.ref f15) = true)
    (z_abs : PySem.W.nsIn K mainGlobals "abs" = some none)
    (z_enumerate : PySem.W.nsIn K mainGlobals "enumerate" = some none)
    (z_int : PySem.W.nsIn K mainGlobals "int" = some none)
    (z_isinstance : PySem.W.nsIn K mainGlobals "isinstance" = some none)
    (z_len : PySem.W.nsIn K mainGlobals "len" = some none)
    (z_max : PySem.W.nsIn K mainGlobals "max" = some none)
    (z_min : PySem.W.nsIn K mainGlobals "min" = some none)
    (z_range : PySem.W.nsIn K mainGlobals "range" = some none)
    (z_str : PySem.W.nsIn K mainGlobals "str" = some none)
    (z_tuple : PySem.W.nsIn K mainGlobals "tuple" = some none)
    : ∀ base : Heap, K.In base → base.Ns mainGlobals mg → FL.CalG P w K mg base "law" 5 1 F_law := by
  intro base _ _
  have T : Blt K mg := ⟨PySem.W.mg_none_of X G z_abs, PySem.W.mg_none_of X G z_enumerate, PySem.W.mg_none_of X G z_int, PySem.W.mg_none_of X G z_isinstance, PySem.W.mg_none_of X G z_len, PySem.W.mg_none_of X G z_max, PySem.W.mg_none_of X G z_min, PySem.W.mg_none_of X G z_range, PySem.W.mg_none_of X G z_str, PySem.W.mg_none_of X G z_tuple⟩
  have q_to_word := ok_to_word (P := P) (w := w) (base := base) T  (fun_mk (st := s_to_word) l0 c0 k0) (PySem.W.mg_of X G a0)
  have q__law_cell_at := ok__law_cell_at (P := P) (w := w) (base := base) T  (fun_mk (st := s__law_cell_at) l3 c3 k3) (PySem.W.mg_of X G a3)
  have q__law_digits := ok__law_digits (P := P) (w := w) (base := base) T  (fun_mk (st := s__law_digits) l4 c4 k4) (PySem.W.mg_of X G a4)
  have q__law_name := ok__law_name (P := P) (w := w) (base := base) T  (fun_mk (st := s__law_name) l5 c5 k5) (PySem.W.mg_of X G a5)
  have q__law_to_row := ok__law_to_row (P := P) (w := w) (base := base) T  (fun_mk (st := s__law_to_row) l6 c6 k6) (PySem.W.mg_of X G a6)
  have q__law_menu := ok__law_menu (P := P) (w := w) (base := base) T  (fun_mk (st := s__law_menu) l9 c9 k9) (PySem.W.mg_of X G a9)
  have q__law_to := ok__law_to (P := P) (w := w) (base := base) T  (fun_mk (st := s__law_to) l10 c10 k10) (PySem.W.mg_of X G a10)
  have q_row_text := ok_row_text (P := P) (w := w) (base := base) T q_to_word (fun_mk (st := s_row_text) l1 c1 k1) (PySem.W.mg_of X G a1)
  have q__law_plan := ok__law_plan (P := P) (w := w) (base := base) T q__law_cell_at q__law_digits q__law_to_row (fun_mk (st := s__law_plan) l7 c7 k7) (PySem.W.mg_of X G a7)
  have q__law_program := ok__law_program (P := P) (w := w) (base := base) T q__law_name (fun_mk (st := s__law_program) l8 c8 k8) (PySem.W.mg_of X G a8)
  have q__law_words := ok__law_words (P := P) (w := w) (base := base) T q__law_to (fun_mk (st := s__law_words) l11 c11 k11) (PySem.W.mg_of X G a11)
  have q_written := ok_written (P := P) (w := w) (base := base) T q_row_text (fun_mk (st := s_written) l2 c2 k2) (PySem.W.mg_of X G a2)
  have q__law_text := ok__law_text (P := P) (w := w) (base := base) T q__law_words (fun_mk (st := s__law_text) l12 c12 k12) (PySem.W.mg_of X G a12)
  have q__law_program_at := ok__law_program_at (P := P) (w := w) (base := base) T q__law_cell_at q__law_digits q__law_plan q__law_program q__law_menu (fun_mk (st := s__law_program_at) l13 c13 k13) (PySem.W.mg_of X G a13)
  have q__law_right := ok__law_right (P := P) (w := w) (base := base) T q_written q__law_text (fun_mk (st := s__law_right) l14 c14 k14) (PySem.W.mg_of X G a14)
  have q_law := ok_law (P := P) (w := w) (base := base) T q__law_program_at q__law_right (fun_mk (st := s_law) l15 c15 k15) (PySem.W.mg_of X G a15)
  exact .of q_law
end Rh
open PySem PySem.W PyProof.Rows
set_option maxRecDepth 100000 in
set_option maxHeartbeats 0 in
theorem PySem.Challenge.cw_roundhand_k07_written_holds : PySem.Challenge.rw_roundhand_k07_written.Holds := by
  w_on; o_law; k_head; (case hw => w_witness2)
  k_fill
  refine FL.walk_fl (l := PySem.Challenge.rw_roundhand_k07_written) (k := 5) (Fl := Rh.F_law) rfl (by decide) rfl ⟨rfl, by decide, by decide⟩ (fun w h Y => PySem.W.kIn_of Y) ?F (fun ns _ _ => Rh.law_main ns)
  case F =>
    intro w mg fa h KX G hmg
    refine' Rh.all_mk KX G ?a0 ?l0 ?c0 ?k0 ?a1 ?l1 ?c1 ?k1 ?a2 ?l2 ?c2 ?k2 ?a3 ?l3 ?c3 ?k3 ?a4 ?l4 ?c4 ?k4 ?a5 ?l5 ?c5 ?k5 ?a6 ?l6 ?c6 ?k6 ?a7 ?l7 ?c7 ?k7 ?a8 ?l8 ?c8 ?k8 ?a9 ?l9 ?c9 ?k9 ?a10 ?l10 ?c10 ?k10 ?a11 ?l11 ?c11 ?k11 ?a12 ?l12 ?c12 ?k12 ?a13 ?l13 ?c13 ?k13 ?a14 ?l14 ?c14 ?k14 ?a15 ?l15 ?c15 ?k15 ?z_abs ?z_enumerate ?z_int ?z_isinstance ?z_len ?z_max ?z_min ?z_range ?z_str ?z_tuple
    (case a0 => k_is)
    (case l0 => k_is)
    (case c0 => k_is)
    (case k0 => k_is)
    (case a1 => k_is)
    (case l1 => k_is)
    (case c1 => k_is)
    (case k1 => k_is)
    (case a2 => k_is)
    (case l2 => k_is)
    (case c2 => k_is)
    (case k2 => k_is)
    (case a3 => k_is)
    (case l3 => k_is)
    (case c3 => k_is)
    (case k3 => k_is)
    (case a4 => k_is)
    (case l4 => k_is)
    (case c4 => k_is)
    (case k4 => k_is)
    (case a5 => k_is)
    (case l5 => k_is)
    (case c5 => k_is)
    (case k5 => k_is)
    (case a6 => k_is)
    (case l6 => k_is)
    (case c6 => k_is)
    (case k6 => k_is)
    (case a7 => k_is)
    (case l7 => k_is)
    (case c7 => k_is)
    (case k7 => k_is)
    (case a8 => k_is)
    (case l8 => k_is)
    (case c8 => k_is)
    (case k8 => k_is)
    (case a9 => k_is)
    (case l9 => k_is)
    (case c9 => k_is)
    (case k9 => k_is)
    (case a10 => k_is)
    (case l10 => k_is)
    (case c10 => k_is)
    (case k10 => k_is)
    (case a11 => k_is)
    (case l11 => k_is)
    (case c11 => k_is)
    (case k11 => k_is)
    (case a12 => k_is)
    (case l12 => k_is)
    (case c12 => k_is)
    (case k12 => k_is)
    (case a13 => k_is)
    (case l13 => k_is)
    (case c13 => k_is)
    (case k13 => k_is)
    (case a14 => k_is)
    (case l14 => k_is)
    (case c14 => k_is)
    (case k14 => k_is)
    (case a15 => k_is)
    (case l15 => k_is)
    (case c15 => k_is)
    (case k15 => k_is)
    (case z_abs => k_is)
    (case z_enumerate => k_is)
    (case z_int => k_is)
    (case z_isinstance => k_is)
    (case z_len => k_is)
    (case z_max => k_is)
    (case z_min => k_is)
    (case z_range => k_is)
    (case z_str => k_is)
    (case z_tuple => k_is)
