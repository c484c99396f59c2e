import PyProof.Rows.All
import Wide.All
import OpenK.AllK
import Wide.FinOn
import HandS.ForMost
import HandS.Deep
import HandS.IsInst
import HandS.Wide
import HandS.Property
import HandS.Conv
import HandS.SortInts
import HandS.Zip
import HandS.EndBits
import PySem.Challenge.RW_rulesquares_k88_whole_places_make_the_sq
set_option Elab.async false
set_option linter.all false
set_option maxRecDepth 100000
namespace DL
open PySem L2
inductive Dt where
  | non | bl (b : Bool) | int (i : Int) | str (x : Str)
  | tup (xs : List Dt) | lst (xs : List Dt) | frl (xs : List Dt) | ins (c : Str) (xs : List Dt) | dct (kvs : List (Key × Dt))
/-- d: data that nobody changes; l, o, dc: a list, an instance, a dict that one name alone holds -/
inductive Vl where
  | d (x : Dt) | l (xs : List Vl) | o (c : Str) (xs : List Dt) | dc (kvs : List (Key × Dt))
mutual
def Vl.froz : Vl → Dt
  | .d x => x
  | .l xs => .lst (frozs xs)
  | .o c xs => .ins c xs
  | .dc kvs => .dct kvs
def frozs : List Vl → List Dt
  | [] => []
  | x :: xs => x.froz :: frozs xs
end
/-- a slot: no value, data, owned, owned by the caller (a parameter that is changed) -/
inductive Sl where
  | un | d (x : Dt) | w (x : Vl) | pm (x : Vl)
abbrev DEnv := List Sl
structure Wd where
  K : PySem.W.Frag
  cA : Str → Addr
  fl : Str → List Str
mutual
inductive Rep (W : Wd) (G : Hp) : V → Dt → Prop
  | non : Rep W G .non .non
  | bl (b : Bool) : Rep W G (.bl b) (.bl b)
  | int (i : Int) : Rep W G (.int i) (.int i)
  | str (x : Str) : Rep W G (.str x) (.str x)
  | tup {a : Addr} {vs : List V} {xs : List Dt} : SqT W.K G a vs → Reps W G vs xs → Rep W G (.ref a) (.tup xs)
  | lst {a : Addr} {vs : List V} {xs : List Dt} : G a = some (.lst vs) → Reps W G vs xs → Rep W G (.ref a) (.lst xs)
  | frl {a : Addr} {vs : List V} {xs : List Dt} : SqL W.K G a vs → Reps W G vs xs → Rep W G (.ref a) (.frl xs)
  | ins {a dx : Addr} {c : Str} {vs : List V} {xs : List Dt} : G a = some (.ins (W.cA c) dx ((W.fl c).zip vs)) → vs.length ≤ (W.fl c).length → Reps W G vs xs → Rep W G (.ref a) (.ins c xs)
  | dct {a : Addr} {kvs : List (Key × V)} {xs : List (Key × Dt)} : G a = some (.dK kvs) → kvs.map (·.1) = xs.map (·.1) → Reps W G (kvs.map (·.2)) (xs.map (·.2)) → Rep W G (.ref a) (.dct xs)
inductive Reps (W : Wd) (G : Hp) : List V → List Dt → Prop
  | nil : Reps W G [] []
  | cons {v : V} {x : Dt} {vs : List V} {xs : List Dt} : Rep W G v x → Reps W G vs xs → Reps W G (v :: vs) (x :: xs)
end
mutual
inductive Own (W : Wd) (G H : Hp) : V → Vl → List Addr → Prop
  | d {v : V} {x : Dt} : Rep W G v x → Own W G H v (.d x) []
  | l {a : Addr} {vs : List V} {xs : List Vl} {as : List Addr} : H a = some (.lst vs) → Owns W G H vs xs as → Own W G H (.ref a) (.l xs) (a :: as)
  | o {a dx : Addr} {c : Str} {vs : List V} {xs : List Dt} : H a = some (.ins (W.cA c) dx ((W.fl c).zip vs)) → vs.length ≤ (W.fl c).length → Reps W G vs xs → Own W G H (.ref a) (.o c xs) [a]
  | dc {a : Addr} {kvs : List (Key × V)} {xs : List (Key × Dt)} : H a = some (.dK kvs) → kvs.map (·.1) = xs.map (·.1) → Reps W G (kvs.map (·.2)) (xs.map (·.2)) → Own W G H (.ref a) (.dc xs) [a]
inductive Owns (W : Wd) (G H : Hp) : List V → List Vl → List Addr → Prop
  | nil : Owns W G H [] [] []
  | cons {v : V} {x : Vl} {vs : List V} {xs : List Vl} {as bs : List Addr} : Own W G H v x as → Owns W G H vs xs bs → Owns W G H (v :: vs) (x :: xs) (as ++ bs)
end
section
variable {W : Wd} {G G' H H' : Hp}
theorem sqt_mono {K : PySem.W.Frag} {a : Addr} {xs : List V} (e : Same G G') (h : SqT K G a xs) : SqT K G' a xs := by
  rcases h with (h | ⟨o, h⟩) | h
  · exact .inl (.inl (e _ _ h))
  · exact .inl (.inr ⟨o, e _ _ h⟩)
  · exact .inr h
mutual
theorem Rep.mono (e : Same G G') {v : V} {x : Dt} : Rep W G v x → Rep W G' v x
  | .non => .non
  | .bl b => .bl b
  | .int i => .int i
  | .str s => .str s
  | .tup h r => .tup (sqt_mono e h) (Reps.mono e r)
  | .lst h r => .lst (e _ _ h) (Reps.mono e r)
  | .frl h r => .frl (e.seq h) (Reps.mono e r)
  | .ins h l r => .ins (e _ _ h) l (Reps.mono e r)
  | .dct h k r => .dct (e _ _ h) k (Reps.mono e r)
theorem Reps.mono (e : Same G G') {vs : List V} {xs : List Dt} : Reps W G vs xs → Reps W G' vs xs
  | .nil => .nil
  | .cons h r => .cons (Rep.mono e h) (Reps.mono e r)
end
mutual
theorem Own.keep (e : Same G G') {v : V} {x : Vl} {as : List Addr} : Own W G H v x as → (∀ a ∈ as, H' a = H a) → Own W G' H' v x as
  | .d r, _ => .d (r.mono e)
  | .l h r, k => .l ((k _ List.mem_cons_self).trans h) (Owns.keep e r fun a ha => k a (List.mem_cons_of_mem _ ha))
  | .o h l r, k => .o ((k _ List.mem_cons_self).trans h) l (r.mono e)
  | .dc h l r, k => .dc ((k _ List.mem_cons_self).trans h) l (r.mono e)
theorem Owns.keep (e : Same G G') {vs : List V} {xs : List Vl} {as : List Addr} : Owns W G H vs xs as → (∀ a ∈ as, H' a = H a) → Owns W G' H' vs xs as
  | .nil, _ => .nil
  | .cons h r, k => .cons (Own.keep e h fun a ha => k a (List.mem_append_left _ ha)) (Owns.keep e r fun a ha => k a (List.mem_append_right _ ha))
end
mutual
theorem Own.frz (e : Same G G') {v : V} {x : Vl} {as : List Addr} : Own W G H v x as → (∀ a ∈ as, G' a = H a) → Rep W G' v x.froz
  | .d r, _ => by unfold Vl.froz; exact r.mono e
  | .l h r, k => by unfold Vl.froz; exact .lst ((k _ List.mem_cons_self).trans h) (Owns.frz e r fun a ha => k a (List.mem_cons_of_mem _ ha))
  | .o h l r, k => by unfold Vl.froz; exact .ins ((k _ List.mem_cons_self).trans h) l (r.mono e)
  | .dc h l r, k => by unfold Vl.froz; exact .dct ((k _ List.mem_cons_self).trans h) l (r.mono e)
theorem Owns.frz (e : Same G G') {vs : List V} {xs : List Vl} {as : List Addr} : Owns W G H vs xs as → (∀ a ∈ as, G' a = H a) → Reps W G' vs (frozs xs)
  | .nil, _ => by unfold frozs; exact .nil
  | .cons h r, k => by unfold frozs; exact .cons (Own.frz e h fun a ha => k a (List.mem_append_left _ ha)) (Owns.frz e r fun a ha => k a (List.mem_append_right _ ha))
end
mutual
/-- what is owned stands in the heap -/
theorem Own.there {v : V} {x : Vl} {as : List Addr} : Own W G H v x as → ∀ a ∈ as, H a ≠ none
  | .d r, _, h => nomatch h
  | .l h r, a, k => by
    rcases List.mem_cons.mp k with e | k
    · subst e; rw [h]; exact fun z => nomatch z
    · exact Owns.there r a k
  | .o h l r, a, k => by
    rcases List.mem_cons.mp k with e | k
    · subst e; rw [h]; exact fun z => nomatch z
    · exact nomatch k
  | .dc h l r, a, k => by
    rcases List.mem_cons.mp k with e | k
    · subst e; rw [h]; exact fun z => nomatch z
    · exact nomatch k
theorem Owns.there {vs : List V} {xs : List Vl} {as : List Addr} : Owns W G H vs xs as → ∀ a ∈ as, H a ≠ none
  | .nil, _, h => nomatch h
  | .cons h r, a, k => by
    rcases List.mem_append.mp k with k | k
    · exact Own.there h a k
    · exact Owns.there r a k
end
theorem Reps.length {vs : List V} {xs : List Dt} : Reps W G vs xs → vs.length = xs.length
  | .nil => rfl
  | .cons _ r => by rw [List.length_cons, List.length_cons, Reps.length r]
theorem Reps.get {vs : List V} {xs : List Dt} {i : Nat} {x : Dt} : Reps W G vs xs → xs[i]? = some x → ∃ v, vs[i]? = some v ∧ Rep W G v x
  | .nil, e => by simp at e
  | .cons (v := v) h r, e => by
    cases i with
    | zero => simp at e; subst e; exact ⟨v, rfl, h⟩
    | succ i =>
      obtain ⟨u, h1, h2⟩ := Reps.get r (i := i) (by simpa using e)
      exact ⟨u, by simpa using h1, h2⟩
theorem Reps.append {vs us : List V} {xs ys : List Dt} : Reps W G vs xs → Reps W G us ys → Reps W G (vs ++ us) (xs ++ ys)
  | .nil, s => s
  | .cons h r, s => .cons h (Reps.append r s)
theorem Reps.owns {vs : List V} {xs : List Dt} : Reps W G vs xs → Owns W G H vs (xs.map .d) []
  | .nil => .nil
  | .cons h r => .cons (as := []) (.d h) (Reps.owns r)
theorem frozs_map : ∀ xs : List Dt, frozs (xs.map .d) = xs
  | [] => by simp [frozs]
  | x :: xs => by rw [List.map_cons, frozs, Vl.froz, frozs_map xs]
end
/-- a list of data, owned -/
abbrev Vl.ld (xs : List Dt) : Vl := .l (xs.map .d)
theorem froz_ld (xs : List Dt) : (Vl.ld xs).froz = .lst xs := by rw [Vl.froz, frozs_map]
/-- from (G, H) to (G', H'): what was tracked and is not in M stands, what was known as data is, nothing is lost -/
structure Fr (M : Addr → Prop) (G H G' H' : Hp) : Prop where
  keep : ∀ b o, H b = some o → ¬ M b → H' b = some o ∧ G' b = G b
  gsub : Same G G'
  live : ∀ b, H' b = none → H b = none
theorem Fr.refl {M : Addr → Prop} {G H : Hp} : Fr M G H G H := ⟨fun _ _ h _ => ⟨h, rfl⟩, Same.refl G, fun _ h => h⟩
theorem Fr.trans {M M1 : Addr → Prop} {G H G1 H1 G2 H2 : Hp} (a : Fr M G H G1 H1) (b : Fr M1 G1 H1 G2 H2) (s : ∀ x, M1 x → M x ∨ H x = none) : Fr M G H G2 H2 :=
  ⟨fun x o h n => by
    obtain ⟨h1, e1⟩ := a.keep x o h n
    obtain ⟨h2, e2⟩ := b.keep x o h1 fun m => by
      rcases s x m with z | z
      · exact n z
      · rw [h] at z; cases z
    exact ⟨h2, e2.trans e1⟩, a.gsub.trans b.gsub, fun x h => a.live x (b.live x h)⟩
theorem Fr.mono {M M1 : Addr → Prop} {G H G1 H1 : Hp} (a : Fr M G H G1 H1) (s : ∀ x, M x → M1 x ∨ H x = none) : Fr M1 G H G1 H1 :=
  ⟨fun x o h n => a.keep x o h (fun m => by
    rcases s x m with z | z
    · exact n z
    · rw [h] at z; cases z), a.gsub, a.live⟩
/-- a slot's value -/
inductive SlR (W : Wd) (G H : Hp) : Option V → Sl → List Addr → Prop
  | un {o : Option V} : SlR W G H o .un []
  | d {v : V} {x : Dt} : Rep W G v x → SlR W G H (some v) (.d x) []
  | w {v : V} {x : Vl} {as : List Addr} : Own W G H v x as → SlR W G H (some v) (.w x) as
  | pm {v : V} {x : Vl} {as : List Addr} : Own W G H v x as → SlR W G H (some v) (.pm x) as
theorem SlR.keep {W : Wd} {G G' H H' : Hp} {o : Option V} {s : Sl} {as : List Addr} (e : Same G G') (h : SlR W G H o s as) (k : ∀ a ∈ as, H' a = H a) : SlR W G' H' o s as := by
  cases h with
  | un => exact .un
  | d r => exact .d (r.mono e)
  | w r => exact .w (r.keep e k)
  | pm r => exact .pm (r.keep e k)
theorem SlR.there {W : Wd} {G H : Hp} {o : Option V} {s : Sl} {as : List Addr} (h : SlR W G H o s as) : ∀ a ∈ as, H a ≠ none := by
  cases h with
  | un => exact fun _ h => nomatch h
  | d r => exact fun _ h => nomatch h
  | w r => exact r.there
  | pm r => exact r.there
abbrev FP := Nat → List Addr
abbrev FP.In (fp : FP) (a : Addr) : Prop := ∃ i, a ∈ fp i
structure StR (W : Wd) (G : Hp) (σ : L2.St) (H : Hp) (env : DEnv) (fp : FP) : Prop where
  len : σ.length = env.length
  sl : ∀ (i : Nat) (o : Option V) (s : Sl), σ[i]? = some o → env[i]? = some s → SlR W G H o s (fp i)
  out : ∀ i, env.length ≤ i → fp i = []
  nd : ∀ i, (fp i).Nodup
  dj : ∀ i j a, a ∈ fp i → a ∈ fp j → i = j
  fr : ∀ i a, a ∈ fp i → G a = none
  same : Same G H
section
variable {W : Wd} {G G' H H' : Hp} {σ : L2.St} {env : DEnv} {fp : FP}
theorem StR.get (S : StR W G σ H env fp) {i : Nat} {s : Sl} (e : env[i]? = some s) : ∃ o, σ[i]? = some o ∧ SlR W G H o s (fp i) := by
  have hi : i < env.length := (List.getElem?_eq_some_iff.mp e).1
  have hi' : i < σ.length := by rw [S.len]; exact hi
  exact ⟨σ[i], List.getElem?_eq_getElem hi', S.sl i _ s (List.getElem?_eq_getElem hi') e⟩
theorem StR.there (S : StR W G σ H env fp) {i : Nat} {a : Addr} (h : a ∈ fp i) : H a ≠ none := by
  by_cases hi : i < env.length
  · obtain ⟨o, _, r⟩ := S.get (List.getElem?_eq_getElem hi)
    exact r.there a h
  · rw [S.out i (Nat.le_of_not_lt hi)] at h
    exact nomatch h
/-- the heap has moved on, the owned things stand -/
theorem StR.move (S : StR W G σ H env fp) (e : Same G G') (k : ∀ i a, a ∈ fp i → H' a = H a) (g : ∀ i a, a ∈ fp i → G' a = none) (s : Same G' H') : StR W G' σ H' env fp :=
  ⟨S.len, fun i o s h1 h2 => (S.sl i o s h1 h2).keep e (k i), S.out, S.nd, S.dj, g, s⟩
/-- by a frame that touches none of them -/
theorem StR.step (S : StR W G σ H env fp) {M : Addr → Prop} (f : Fr M G H G' H') (n : ∀ i a, a ∈ fp i → ¬ M a) (s : Same G' H') : StR W G' σ H' env fp :=
  S.move f.gsub (fun i a h => by
    cases e : H a with
    | none => exact absurd e (S.there h)
    | some o => exact (f.keep a o e (n i a h)).1)
   (fun i a h => by
    cases e : H a with
    | none => exact absurd e (S.there h)
    | some o => rw [(f.keep a o e (n i a h)).2]; exact S.fr i a h) s
end
/-- G with what H has at as -/
def frzAt (G H : Hp) (as : List Addr) : Hp := fun b => if b ∈ as then H b else G b
theorem frzAt_in {G H : Hp} {as : List Addr} {a : Addr} (h : a ∈ as) : frzAt G H as a = H a := if_pos h
theorem frzAt_out {G H : Hp} {as : List Addr} {a : Addr} (h : a ∉ as) : frzAt G H as a = G a := if_neg h
theorem frzAt_sub {G H : Hp} {as : List Addr} (n : ∀ a ∈ as, G a = none) : Same G (frzAt G H as) := fun b o h => by
  rw [frzAt_out fun m => by rw [n b m] at h; cases h]
  exact h
theorem frzAt_same {G H : Hp} {as : List Addr} (s : Same G H) : Same (frzAt G H as) H := fun b o h => by
  unfold frzAt at h
  split at h
  · exact h
  · exact s b o h
end DL
set_option Elab.async false
set_option linter.all false
set_option maxRecDepth 100000
namespace DL
open PySem L2
abbrev M (α : Type) := DEnv → Option (α × DEnv)
def ret {α : Type} (a : α) : M α := fun e => some (a, e)
def bnd {α β : Type} (f : M α) (k : α → M β) : M β := fun e => match f e with
  | none => none
  | some (a, e1) => k a e1
def opt {α : Type} (o : Option α) : M α := fun e => match o with
  | none => none
  | some a => some (a, e)
theorem bnd_some {α β : Type} {f : M α} {k : α → M β} {e e2 : DEnv} {b : β} (h : bnd f k e = some (b, e2)) : ∃ a e1, f e = some (a, e1) ∧ k a e1 = some (b, e2) := by
  unfold bnd at h
  split at h
  · cases h
  · rename_i a e1 he; exact ⟨a, e1, he, h⟩
theorem opt_some {α : Type} {o : Option α} {e e2 : DEnv} {b : α} (h : opt o e = some (b, e2)) : o = some b ∧ e2 = e := by
  unfold opt at h
  split at h
  · cases h
  · cases h; exact ⟨rfl, rfl⟩
/-- whose a slot's things are: the caller's by the parameter i, or one's own -/
def cls (env : DEnv) (i : Nat) : Option Nat := match env[i]? with
  | some (.pm _) => some i
  | _ => none
theorem cls_pm {env : DEnv} {i : Nat} {x : Vl} (h : env[i]? = some (.pm x)) : cls env i = some i := by unfold cls; rw [h]
theorem cls_some {env : DEnv} {i j : Nat} (h : cls env i = some j) : j = i ∧ ∃ x, env[i]? = some (.pm x) := by
  unfold cls at h
  split at h
  · rename_i x e; cases h; exact ⟨rfl, x, e⟩
  · cases h
theorem cls_set_ne {env : DEnv} {i j : Nat} {s : Sl} (h : i ≠ j) : cls (env.set i s) j = cls env j := by unfold cls; rw [List.getElem?_set_ne h]
/-- slots of the caller stay such -/
def PmK (σ : L2.St) (env : DEnv) (σ' : L2.St) (env' : DEnv) : Prop := ∀ (i : Nat) (x : Vl), env[i]? = some (.pm x) → (∃ x', env'[i]? = some (.pm x')) ∧ σ'[i]? = σ[i]?
theorem PmK.refl {σ : L2.St} {env : DEnv} : PmK σ env σ env := fun _ x h => ⟨⟨x, h⟩, rfl⟩
theorem PmK.trans {s t u : L2.St} {a b c : DEnv} (h : PmK s a t b) (k : PmK t b u c) : PmK s a u c := fun i x e => by
  obtain ⟨⟨y, e1⟩, q⟩ := h i x e
  obtain ⟨z, q2⟩ := k i y e1
  exact ⟨z, q2.trans q⟩
theorem PmK.set {σ : L2.St} {env : DEnv} {i : Nat} {s : Sl} (n : ∀ x : Vl, env[i]? ≠ some (.pm x)) : PmK σ env σ (env.set i s) := fun j x h => by
  by_cases e : i = j
  · subst e; exact absurd h (n x)
  · exact ⟨⟨x, by rw [List.getElem?_set_ne e]; exact h⟩, rfl⟩
theorem PmK.store {σ : L2.St} {env : DEnv} {i : Nat} {s : Sl} {v : Option V} (n : ∀ x : Vl, env[i]? ≠ some (.pm x)) : PmK σ env (σ.set i v) (env.set i s) := fun j x h => by
  by_cases e : i = j
  · subst e; exact absurd h (n x)
  · exact ⟨⟨x, by rw [List.getElem?_set_ne e]; exact h⟩, by rw [List.getElem?_set_ne e]⟩
structure Aft (W : Wd) (G : Hp) (σ : L2.St) (H : Hp) (env : DEnv) (fp : FP) (G' : Hp) (σ' : L2.St) (H' : Hp) (env' : DEnv) (fp' : FP) : Prop where
  st : StR W G' σ' H' env' fp'
  fr : Fr fp.In G H G' H'
  sub : ∀ i a, a ∈ fp' i → (∃ j, a ∈ fp j ∧ (cls env j = none ∨ cls env j = cls env' i)) ∨ H a = none
  pk : PmK σ env σ' env'
abbrev AftE (W : Wd) (G : Hp) (σ : L2.St) (H : Hp) (env : DEnv) (fp : FP) (G' H' : Hp) (env' : DEnv) (fp' : FP) : Prop := Aft W G σ H env fp G' σ H' env' fp'
/-- fresh as against the start, apart from what the own slots had -/
abbrev New (env : DEnv) (fp : FP) (H G' : Hp) (fp' : FP) (as : List Addr) : Prop := as.Nodup ∧ ∀ a ∈ as, G' a = none ∧ ((∃ j, a ∈ fp j ∧ cls env j = none) ∨ H a = none) ∧ ∀ i, a ∉ fp' i
section
variable {W : Wd} {G H G1 H1 G2 H2 : Hp} {σ σ1 σ2 : L2.St} {env env1 env2 : DEnv} {fp fp1 fp2 : FP}
theorem Aft.refl (S : StR W G σ H env fp) : Aft W G σ H env fp G σ H env fp := ⟨S, Fr.refl, fun i a h => .inl ⟨i, h, .inr rfl⟩, PmK.refl⟩
theorem Aft.inn (a : Aft W G σ H env fp G1 σ1 H1 env1 fp1) {x : Addr} (h : fp1.In x) : fp.In x ∨ H x = none := by
  obtain ⟨i, h⟩ := h
  rcases a.sub i x h with ⟨j, h, _⟩ | h
  · exact .inl ⟨j, h⟩
  · exact .inr h
theorem Aft.trans (a : Aft W G σ H env fp G1 σ1 H1 env1 fp1) (b : Aft W G1 σ1 H1 env1 fp1 G2 σ2 H2 env2 fp2) : Aft W G σ H env fp G2 σ2 H2 env2 fp2 := by
  refine ⟨b.st, a.fr.trans b.fr fun x m => a.inn m, fun i x m => ?_, a.pk.trans b.pk⟩
  rcases b.sub i x m with ⟨j, z, q⟩ | z
  · rcases a.sub j x z with ⟨l, y, q2⟩ | y
    · refine .inl ⟨l, y, ?_⟩
      rcases q2 with q2 | q2
      · exact .inl q2
      · rcases q with q | q
        · exact .inl (q2.trans q)
        · exact .inr (q2.trans q)
    · exact .inr y
  · exact .inr (a.fr.live x z)
/-- the operation's own step behind -/
theorem Aft.step (a : Aft W G σ H env fp G1 σ1 H1 env1 fp1) (f : Fr (fun _ => False) G1 H1 G2 H2) (s : Same G2 H2) : Aft W G σ H env fp G2 σ1 H2 env1 fp1 :=
  a.trans ⟨a.st.step f (fun _ _ _ z => z) s, f.mono (fun _ z => z.elim), fun i x h => .inl ⟨i, h, .inr rfl⟩, PmK.refl⟩
/-- .. of what is new behind both -/
theorem Aft.new (a : Aft W G σ H env fp G1 σ1 H1 env1 fp1) {as : List Addr} (n : New env1 fp1 H1 G2 fp2 as) : New env fp H G2 fp2 as := by
  refine ⟨n.1, fun z hz => ⟨(n.2 z hz).1, ?_, (n.2 z hz).2.2⟩⟩
  rcases (n.2 z hz).2.1 with ⟨i, hi, c⟩ | q
  · rcases a.sub i z hi with ⟨j, h, c2⟩ | h
    · exact .inl ⟨j, h, c2.elim id fun c2 => c2.trans c⟩
    · exact .inr h
  · exact .inr (a.fr.live z q)
/-- an owned value becomes data -/
theorem Aft.frz (a : Aft W G σ H env fp G1 σ1 H1 env1 fp1) {u : V} {v : Vl} {as : List Addr} (o : Own W G1 H1 u v as) (n : New env fp H G1 fp1 as) :
    Aft W G σ H env fp (frzAt G1 H1 as) σ1 H1 env1 fp1 ∧ Rep W (frzAt G1 H1 as) u v.froz := by
  have sub := frzAt_sub (H := H1) (as := as) fun x hx => (n.2 x hx).1
  refine ⟨⟨a.st.move sub (fun _ _ _ => rfl) (fun i x h => ?_) (frzAt_same a.st.same), ⟨fun b o h m => ?_, a.fr.gsub.trans sub, a.fr.live⟩, a.sub, a.pk⟩, o.frz sub fun x hx => frzAt_in hx⟩
  · rw [frzAt_out fun z => (n.2 x z).2.2 i h]
    exact a.st.fr i x h
  · obtain ⟨h1, h2⟩ := a.fr.keep b o h m
    refine ⟨h1, ?_⟩
    rw [frzAt_out fun z => ?_]
    · exact h2
    · rcases (n.2 b z).2.1 with ⟨j, q, _⟩ | q
      · exact m ⟨j, q⟩
      · rw [h] at q; cases q
end
/-- what all code of a law stands on: the program, the world, the written part, the module's names, the room (calls within calls) -/
structure Bs where
  P : Program
  w : World
  W : Wd
  mg : Str → Option Value
  base : Heap
  k : Nat
/-- a def's names by slot, and those that may be stored where they are cells -/
structure Nm where
  ns : List Str
  st : List Str
/-- a place in a def's (or a comprehension's) body: names N by slot, scope sc; nothing is raised out of it -/
structure Cxt (B : Bs) (N : Nm) (sc : Scope) (X : Cx) : Prop where
  prog : X.prog = B.P
  w : X.w = B.w
  K : X.K = B.W.K
  mg : X.mg = B.mg
  base : X.base = B.base
  names : X.N = N.ns
  nd : N.ns.Nodup
  scope : X.env.scope = sc
  calm : X.calm = true
  room : Room B.k X.A
  fn : ∀ x, x ∈ N.st → X.fn x = true
  xe : X.xe = fun _ _ => False
theorem Cxt.units65 {B : Bs} {N : Nm} {sc : Scope} {X : Cx} (c : Cxt B N sc X) : X.A.units + 65 < cLine := by have := c.room.units; have := c.room.un; omega
theorem Cxt.units {B : Bs} {N : Nm} {sc : Scope} {X : Cx} (c : Cxt B N sc X) : X.A.units + 64 < cLine := c.room.units
def SemE (W : Wd) (t : TE) (f : M Vl) : Prop := ∀ (G : Hp) (σ : L2.St) (H : Hp) (env : DEnv) (fp : FP) (v : Vl) (env' : DEnv) (Q : VK), StR W G σ H env fp → f env = some (v, env') →
    (∀ u as G' H' fp', AftE W G σ H env fp G' H' env' fp' → Own W G' H' u v as → New env fp H G' fp' as → Q u H') → t σ H Q
def SemD (W : Wd) (t : TE) (f : M Dt) : Prop := ∀ (G : Hp) (σ : L2.St) (H : Hp) (env : DEnv) (fp : FP) (v : Dt) (env' : DEnv) (Q : VK), StR W G σ H env fp → f env = some (v, env') →
    (∀ u G' H' fp', AftE W G σ H env fp G' H' env' fp' → Rep W G' u v → Q u H') → t σ H Q
def SemT (W : Wd) (t : TT) (f : M Bool) : Prop := ∀ (G : Hp) (σ : L2.St) (H : Hp) (env : DEnv) (fp : FP) (v : Bool) (env' : DEnv) (Q : Bool → Hp → Prop), StR W G σ H env fp → f env = some (v, env') →
    (∀ G' H' fp', AftE W G σ H env fp G' H' env' fp' → Q v H') → t σ H Q
def SemO (W : Wd) (t : TA) (f : M (List Vl)) : Prop := ∀ (G : Hp) (σ : L2.St) (H : Hp) (env : DEnv) (fp : FP) (v : List Vl) (env' : DEnv) (Q : List V → Hp → Prop), StR W G σ H env fp → f env = some (v, env') →
    (∀ us as G' H' fp', AftE W G σ H env fp G' H' env' fp' → Owns W G' H' us v as → New env fp H G' fp' as → Q us H') → t σ H Q
def SemA (W : Wd) (t : TA) (f : M (List Dt)) : Prop := ∀ (G : Hp) (σ : L2.St) (H : Hp) (env : DEnv) (fp : FP) (v : List Dt) (env' : DEnv) (Q : List V → Hp → Prop), StR W G σ H env fp → f env = some (v, env') →
    (∀ us G' H' fp', AftE W G σ H env fp G' H' env' fp' → Reps W G' us v → Q us H') → t σ H Q
/-- an expression gives a value, perhaps owned | data | a test | values as arguments | data as arguments -/
def DE (B : Bs) (N : Nm) (sc : Scope) (e : Expr) (f : M Vl) : Prop := ∃ t, (∀ X, Cxt B N sc X → PE X e t) ∧ SemE B.W t f
def DD (B : Bs) (N : Nm) (sc : Scope) (e : Expr) (f : M Dt) : Prop := ∃ t, (∀ X, Cxt B N sc X → PE X e t) ∧ SemD B.W t f
def DT (B : Bs) (N : Nm) (sc : Scope) (e : Expr) (f : M Bool) : Prop := ∃ t, (∀ X, Cxt B N sc X → PT X e t) ∧ SemT B.W t f
def DW (B : Bs) (N : Nm) (sc : Scope) (e : Expr) (f : M Bool) : Prop := ∃ t, (∀ X, Cxt B N sc X → PW X e t) ∧ SemT B.W t f
def DO (B : Bs) (N : Nm) (sc : Scope) (es : List Expr) (f : M (List Vl)) : Prop := ∃ t, (∀ X, Cxt B N sc X → PA X es t) ∧ SemO B.W t f
def DA (B : Bs) (N : Nm) (sc : Scope) (es : List Expr) (f : M (List Dt)) : Prop := ∃ t, (∀ X, Cxt B N sc X → PA X es t) ∧ SemA B.W t f
def frz (f : M Vl) : M Dt := bnd f fun v => ret v.froz
def up (f : M Dt) : M Vl := bnd f fun x => ret (.d x)
section
variable {B : Bs} {N : Nm} {sc : Scope} {e : Expr}
theorem dd_frz {f : M Vl} (h : DE B N sc e f) : DD B N sc e (frz f) := by
  obtain ⟨t, p, r⟩ := h
  refine ⟨t, p, fun G σ H env fp v env' Q S hf k => ?_⟩
  obtain ⟨x, e1, h1, h2⟩ := bnd_some hf
  cases h2
  exact r G σ H env fp x env' Q S h1 fun u as G' H' fp' a o n => by
    obtain ⟨a2, rp⟩ := a.frz o n
    exact k u _ H' fp' a2 rp
theorem de_up {f : M Dt} (h : DD B N sc e f) : DE B N sc e (up f) := by
  obtain ⟨t, p, r⟩ := h
  refine ⟨t, p, fun G σ H env fp v env' Q S hf k => ?_⟩
  obtain ⟨x, e1, h1, h2⟩ := bnd_some hf
  cases h2
  exact r G σ H env fp x env' Q S h1 fun u G' H' fp' a rp => k u [] G' H' fp' a (.d rp) ⟨List.nodup_nil, fun _ h => nomatch h⟩
def fpDrop (fp : FP) (i : Nat) : FP := fun j => if j = i then [] else fp j
theorem fpDrop_in {fp : FP} {i j : Nat} {a : Addr} (h : a ∈ fpDrop fp i j) : j ≠ i ∧ a ∈ fp j := by
  unfold fpDrop at h
  split at h
  · exact nomatch h
  · rename_i n; exact ⟨n, h⟩
/-- slot i gives up what it owns; the heap may know that as data -/
theorem StR.give {W : Wd} {G σ H env fp} (S : StR W G σ H env fp) {i : Nat} {s : Sl} {G' : Hp} (e : Same G G') (g : ∀ j a, j ≠ i → a ∈ fp j → G' a = none) (sm : Same G' H)
    (hs : ∀ o, σ[i]? = some o → SlR W G' H o s []) : StR W G' σ H (env.set i s) (fpDrop fp i) where
  len := by rw [List.length_set]; exact S.len
  sl := fun j o s' h1 h2 => by
    by_cases hj : i = j
    · subst hj
      have hi : i < env.length := by rw [← S.len]; exact (List.getElem?_eq_some_iff.mp h1).1
      rw [List.getElem?_set_self hi] at h2
      cases h2
      have : fpDrop fp i i = [] := if_pos rfl
      rw [this]
      exact hs o h1
    · rw [List.getElem?_set_ne hj] at h2
      have : fpDrop fp i j = fp j := if_neg fun z => hj z.symm
      rw [this]
      exact (S.sl j o s' h1 h2).keep e fun _ _ => rfl
  out := fun j hj => by
    rw [List.length_set] at hj
    unfold fpDrop
    split
    · rfl
    · exact S.out j hj
  nd := fun j => by
    unfold fpDrop
    split
    · exact List.nodup_nil
    · exact S.nd j
  dj := fun j k a h1 h2 => S.dj j k a (fpDrop_in h1).2 (fpDrop_in h2).2
  fr := fun j a h => g j a (fpDrop_in h).1 (fpDrop_in h).2
  same := sm
def eVar (i : Nat) : M Dt := fun env => match env[i]? with
  | some (.d x) => some (x, env)
  | some (.w x) => some (x.froz, env.set i (.d x.froz))
  | _ => none
def eMov (i : Nat) : M Vl := fun env => match env[i]? with
  | some (.d x) => some (.d x, env)
  | some (.w x) => some (x, env.set i .un)
  | _ => none
theorem Cxt.var {X : Cx} (c : Cxt B N sc X) (i : Nat) {x : Str} {pos : Pos} (hN : N.ns[i]? = some x := by rfl) (hv : Vis sc x := by first | exact Or.inl rfl | exact Or.inr (Or.inl rfl) | exact Or.inr (Or.inr rfl)) (hd : (x == ("__debug__" : Str)) = false := by decide) (hcd : (x == ("__classdict__" : Str)) = false := by decide) : PE X (.Name x pos) (tVar i) :=
  pe_var (by rw [c.names]; exact hN) (by rw [c.scope]; exact hv) hd hcd
theorem dd_var (i : Nat) {x : Str} {pos : Pos} (hN : N.ns[i]? = some x := by rfl) (hv : Vis sc x := by first | exact Or.inl rfl | exact Or.inr (Or.inl rfl) | exact Or.inr (Or.inr rfl)) (hd : (x == ("__debug__" : Str)) = false := by decide) (hcd : (x == ("__classdict__" : Str)) = false := by decide) : DD B N sc (.Name x pos) (eVar i) := by
  refine ⟨_, fun X c => c.var i hN hv hd hcd, fun G σ H env fp v env' Q S hf k => ?_⟩
  unfold eVar at hf
  split at hf
  · rename_i x hx
    cases hf
    obtain ⟨o, ho, r⟩ := S.get hx
    generalize hfi : fp i = as at r
    cases r with
    | d r => exact ⟨_, ho, k _ G H fp (Aft.refl S) r⟩
  · rename_i x hx
    cases hf
    obtain ⟨o, ho, r⟩ := S.get hx
    generalize hfi : fp i = as at r
    cases r with
    | w r =>
      have sub := frzAt_sub (G := G) (H := H) (as := as) fun a ha => S.fr i a (hfi ▸ ha)
      have rp := r.frz sub fun a ha => frzAt_in ha
      refine ⟨_, ho, k _ (frzAt G H as) H (fpDrop fp i) ⟨S.give sub (fun j a hj ha => ?_) (frzAt_same S.same) (fun o' h' => ?_), ⟨fun b o' h' m => ⟨h', ?_⟩, sub, fun _ h => h⟩, fun j a ha => .inl ⟨j, (fpDrop_in ha).2, .inr (cls_set_ne (fpDrop_in ha).1.symm).symm⟩, PmK.set fun y hy => ?_⟩ rp⟩
      · rw [frzAt_out fun z => hj (S.dj j i a ha (hfi ▸ z))]
        exact S.fr j a ha
      · rw [ho] at h'; cases h'
        exact .d rp
      · exact frzAt_out fun z => m ⟨i, hfi ▸ z⟩
      · rw [hx] at hy; cases hy
  · cases hf
theorem de_mov (i : Nat) {x : Str} {pos : Pos} (hN : N.ns[i]? = some x := by rfl) (hv : Vis sc x := by first | exact Or.inl rfl | exact Or.inr (Or.inl rfl) | exact Or.inr (Or.inr rfl)) (hd : (x == ("__debug__" : Str)) = false := by decide) (hcd : (x == ("__classdict__" : Str)) = false := by decide) : DE B N sc (.Name x pos) (eMov i) := by
  refine ⟨_, fun X c => c.var i hN hv hd hcd, fun G σ H env fp v env' Q S hf k => ?_⟩
  unfold eMov at hf
  split at hf
  · rename_i x hx
    cases hf
    obtain ⟨o, ho, r⟩ := S.get hx
    generalize hfi : fp i = as at r
    cases r with
    | d r => exact ⟨_, ho, k _ [] G H fp (Aft.refl S) (.d r) ⟨List.nodup_nil, fun _ h => nomatch h⟩⟩
  · rename_i x hx
    cases hf
    obtain ⟨o, ho, r⟩ := S.get hx
    generalize hfi : fp i = as at r
    cases r with
    | w r =>
      refine ⟨_, ho, k _ as G H (fpDrop fp i) ⟨S.give (Same.refl G) (fun j a _ ha => S.fr j a ha) S.same (fun o' _ => .un), Fr.refl, fun j a ha => .inl ⟨j, (fpDrop_in ha).2, .inr (cls_set_ne (fpDrop_in ha).1.symm).symm⟩, PmK.set fun y hy => ?_⟩ r ⟨hfi ▸ S.nd i, fun a ha => ?_⟩⟩
      · rw [hx] at hy; cases hy
      · rw [← hfi] at ha
        exact ⟨S.fr i a ha, .inl ⟨i, ha, by unfold cls; rw [hx]⟩, fun j hj => (fpDrop_in hj).1 (S.dj j i a (fpDrop_in hj).2 ha)⟩
  · cases hf
def eC (x : Dt) : M Dt := ret x
theorem dd_c {v : V} {x : Dt} (h : ∀ X, Cxt B N sc X → PE X e (tC v)) (r : ∀ G, Rep B.W G v x) : DD B N sc e (eC x) :=
  ⟨_, h, fun G σ H env fp y env' Q S hf k => by cases hf; exact k v G H fp (Aft.refl S) (r G)⟩
theorem dd_int {i : Int} {j pos} : DD B N sc (.Constant (.int i) j pos) (eC (.int i)) := dd_c (fun _ _ => pe_int) fun _ => .int i
theorem dd_bl {b : Bool} {j pos} : DD B N sc (.Constant (.bool b) j pos) (eC (.bl b)) := dd_c (fun _ _ => pe_bl) fun _ => .bl b
theorem dd_non {j pos} : DD B N sc (.Constant .none j pos) (eC .non) := dd_c (fun _ _ => pe_non) fun _ => .non
theorem dd_str {x : Str} {j pos} : DD B N sc (.Constant (.str x) j pos) (eC (.str x)) := dd_c (fun _ _ => pe_str) fun _ => .str x
/-- what is behind an operation that makes v and changes nothing that stood -/
def FinV (W : Wd) (G H : Hp) (v : Vl) (Q : VK) : Prop :=
  ∀ u as G' H', Fr (fun _ => False) G H G' H' → Same G' H' → Own W G' H' u v as → as.Nodup → (∀ a ∈ as, G' a = none ∧ H a = none) → Q u H'
theorem FinV.here {W : Wd} {G H : Hp} {x : Dt} {u : V} {Q : VK} (h : FinV W G H (.d x) Q) (s : Same G H) (r : Rep W G u x) : Q u H :=
  h u [] G H Fr.refl s (.d r) List.nodup_nil fun _ h => nomatch h
theorem Fr.new {M : Addr → Prop} {G H : Hp} {p : Addr} {o : HO} (n : H p = none) : Fr M G H G (upd H p o) :=
  ⟨fun b u h _ => ⟨by rw [upd_ne (ne_of_none h n)]; exact h, rfl⟩, Same.refl G, fun b h => by
    by_cases e : b = p
    · subst e; exact n
    · rw [upd_ne e] at h; exact h⟩
theorem Fr.newG {M : Addr → Prop} {G H : Hp} {p : Addr} {o : HO} (s : Same G H) (n : H p = none) : Fr M G H (upd G p o) (upd H p o) :=
  ⟨fun b u h _ => by
    have z := ne_of_none h n
    exact ⟨by rw [upd_ne z]; exact h, upd_ne z⟩, fun b u h => by rw [upd_ne (ne_of_none (s b u h) n)]; exact h, fun b h => by
    by_cases e : b = p
    · subst e; exact n
    · rw [upd_ne e] at h; exact h⟩
theorem Same.newG {G H : Hp} {p : Addr} {o : HO} (s : Same G H) : Same (upd G p o) (upd H p o) := fun b u h => by
  by_cases e : b = p
  · subst e; rw [upd_same] at h ⊢; exact h
  · rw [upd_ne e] at h ⊢; exact s b u h
theorem Same.new {G H : Hp} {p : Addr} {o : HO} (s : Same G H) (n : H p = none) : Same G (upd H p o) := fun b u h => by
  rw [upd_ne (ne_of_none (s b u h) n)]; exact s b u h
/-- a new list -/
theorem FinV.lst {W : Wd} {G H : Hp} {xs : List Dt} {vs : List V} {p : Addr} {Q : VK} (h : FinV W G H (.ld xs) Q) (s : Same G H) (r : Reps W G vs xs) (n : H p = none) : Q (.ref p) (upd H p (.lst vs)) :=
  h (.ref p) [p] G _ (Fr.new n) (Same.new s n) (.l upd_same (by have := (r.owns (H := upd H p (.lst vs))); exact this)) (by simp) fun a ha => by
    rw [List.mem_singleton.mp ha]; exact ⟨s.free n, n⟩
/-- a new tuple -/
theorem FinV.tup {W : Wd} {G H : Hp} {xs : List Dt} {vs : List V} {p : Addr} {Q : VK} (h : FinV W G H (.d (.tup xs)) Q) (s : Same G H) (r : Reps W G vs xs) (n : H p = none) : Q (.ref p) (upd H p (.tup vs)) :=
  h (.ref p) [] _ _ (Fr.newG s n) (Same.newG s) (.d (.tup (.inl (.inl upd_same)) (r.mono (Fr.newG (M := fun _ => False) s n).gsub))) List.nodup_nil fun _ h => nomatch h
def RS2 (W : Wd) (r : R2) (g : Dt → Dt → Option Vl) : Prop :=
  ∀ (G H : Hp) (x y : V) (dx dy : Dt) (v : Vl) (Q : VK), Same G H → Rep W G x dx → Rep W G y dy → g dx dy = some v → FinV W G H v Q → r x y H Q
def RS1 (W : Wd) (r : V → Hp → VK → Prop) (g : Dt → Option Vl) : Prop :=
  ∀ (G H : Hp) (x : V) (dx : Dt) (v : Vl) (Q : VK), Same G H → Rep W G x dx → g dx = some v → FinV W G H v Q → r x H Q
def RSL (W : Wd) (r : List V → Hp → VK → Prop) (g : List Dt → Option Vl) : Prop :=
  ∀ (G H : Hp) (xs : List V) (ds : List Dt) (v : Vl) (Q : VK), Same G H → Reps W G xs ds → g ds = some v → FinV W G H v Q → r xs H Q
theorem RS2.or {W : Wd} {r r' : R2} {g g' : Dt → Dt → Option Vl} (h : RS2 W r g) (h' : RS2 W r' g') : RS2 W (fun x y H Q => r x y H Q ∨ r' x y H Q) (fun a b => match g a b with | some v => some v | none => g' a b) := by
  intro G H x y dx dy v Q s rx ry e k
  cases q : g dx dy with
  | some z =>
    simp only [q] at e
    cases e
    exact .inl (h G H x y dx dy v Q s rx ry q k)
  | none =>
    simp only [q] at e
    exact .inr (h' G H x y dx dy v Q s rx ry e k)
def e1 (g : Dt → Option Vl) (a : M Dt) : M Vl := bnd a fun x => opt (g x)
def e2 (g : Dt → Dt → Option Vl) (a b : M Dt) : M Vl := bnd a fun x => bnd b fun y => opt (g x y)
def eL (g : List Dt → Option Vl) (a : M (List Dt)) : M Vl := bnd a fun x => opt (g x)
theorem Aft.fin {W : Wd} {G H G1 H1 : Hp} {σ : L2.St} {env env1 : DEnv} {fp fp1 : FP} {v : Vl} {Q : VK} (a : AftE W G σ H env fp G1 H1 env1 fp1)
    (k : ∀ u as G' H' fp', AftE W G σ H env fp G' H' env1 fp' → Own W G' H' u v as → New env fp H G' fp' as → Q u H') : FinV W G1 H1 v Q := by
  intro u as G' H' f s o nd n
  refine k u as G' H' fp1 (a.step f s) o ⟨nd, fun x hx => ⟨(n x hx).1, .inr (a.fr.live x (n x hx).2), fun i hi => a.st.there hi (n x hx).2⟩⟩
theorem de_op {a b : Expr} {fa fb : M Dt} {pos : Pos} {op : Operator} {r : R2} {g : Dt → Dt → Option Vl} (ho : ∀ X, Cxt B N sc X → OpR X (binaryOp op) r) (hr : RS2 B.W r g) (ha : DD B N sc a fa) (hb : DD B N sc b fb) : DE B N sc (.BinOp a op b pos) (e2 g fa fb) := by
  obtain ⟨ta, pa, ka⟩ := ha
  obtain ⟨tb, pb, kb⟩ := hb
  refine ⟨_, fun X c => pe_op (ho X c) (pa X c) (pb X c), fun G σ H env fp v env' Q S hf k => ?_⟩
  obtain ⟨x, e1, h1, hf⟩ := bnd_some hf
  obtain ⟨y, e2, h2, hf⟩ := bnd_some hf
  obtain ⟨h3, rfl⟩ := opt_some hf
  refine ka G σ H env fp x e1 _ S h1 fun u G1 H1 fp1 a1 r1 => ?_
  refine kb G1 σ H1 e1 fp1 y _ _ a1.st h2 fun w G2 H2 fp2 a2 r2 => ?_
  exact hr G2 H2 u w x y v Q a2.st.same (r1.mono a2.fr.gsub) r2 h3 ((a1.trans a2).fin k)
theorem de_un {a : Expr} {fa : M Dt} {pos : Pos} {op : UnaryOp} {r : V → Hp → VK → Prop} {g : Dt → Option Vl} (ho : ∀ X, Cxt B N sc X → UnR X (unaryOp op) r) (hr : RS1 B.W r g) (ha : DD B N sc a fa) : DE B N sc (.UnaryOp op a pos) (DL.e1 g fa) := by
  obtain ⟨ta, pa, ka⟩ := ha
  refine ⟨_, fun X c => pe_un (ho X c) (pa X c), fun G σ H env fp v env' Q S hf k => ?_⟩
  obtain ⟨x, e1, h1, hf⟩ := bnd_some hf
  obtain ⟨h3, rfl⟩ := opt_some hf
  refine ka G σ H env fp x _ _ S h1 fun u G1 H1 fp1 a1 r1 => ?_
  exact hr G1 H1 u x v Q a1.st.same r1 h3 (a1.fin k)
theorem de_cmp {a b : Expr} {fa fb : M Dt} {pos : Pos} {op : CmpOp} {r : R2} {g : Dt → Dt → Option Vl} (ho : ∀ X, Cxt B N sc X → OpR X (compareOp op) r) (hr : RS2 B.W r g) (ha : DD B N sc a fa) (hb : DD B N sc b fb) (hm : behindInMarks op b = false) : DE B N sc (.Compare a [op] [b] pos) (e2 g fa fb) := by
  obtain ⟨ta, pa, ka⟩ := ha
  obtain ⟨tb, pb, kb⟩ := hb
  refine ⟨_, fun X c => pe_cmpR (ho X c) (pa X c) (pb X c) hm, fun G σ H env fp v env' Q S hf k => ?_⟩
  obtain ⟨x, e1, h1, hf⟩ := bnd_some hf
  obtain ⟨y, e2, h2, hf⟩ := bnd_some hf
  obtain ⟨h3, rfl⟩ := opt_some hf
  refine ka G σ H env fp x e1 _ S h1 fun u G1 H1 fp1 a1 r1 => ?_
  refine kb G1 σ H1 e1 fp1 y _ _ a1.st h2 fun w G2 H2 fp2 a2 r2 => ?_
  exact hr G2 H2 u w x y v Q a2.st.same (r1.mono a2.fr.gsub) r2 h3 ((a1.trans a2).fin k)
/-- a chain a op b op' c -/
def e3c (g g' : Dt → Dt → Option Vl) (a b c : M Dt) : M Vl := bnd a fun x => bnd b fun y => bnd (opt (g x y)) fun z => match z with
  | .d (.bl true) => bnd c fun w => opt (g' y w)
  | .d (.bl false) => ret (.d (.bl false))
  | _ => fun _ => none
theorem de_chain {a b c : Expr} {fa fb fc : M Dt} {pos : Pos} {op op' : CmpOp} {r r' : R2} {g g' : Dt → Dt → Option Vl} (ho : ∀ X, Cxt B N sc X → OpR X (compareOp op) r) (ho' : ∀ X, Cxt B N sc X → OpR X (compareOp op') r') (hr : RS2 B.W r g) (hr' : RS2 B.W r' g')
    (ha : DD B N sc a fa) (hb : DD B N sc b fb) (hc : DD B N sc c fc) (hm : lastMarks [op, op'] [b, c] = false := by rfl) : DE B N sc (.Compare a [op, op'] [b, c] pos) (e3c g g' fa fb fc) := by
  obtain ⟨ta, pa, ka⟩ := ha
  obtain ⟨tb, pb, kb⟩ := hb
  obtain ⟨tc, pc, kc⟩ := hc
  refine ⟨_, fun X c => pe_chain (ho X c) (ho' X c) (pa X c) (pb X c) (pc X c) hm, fun G σ H env fp v env' Q S hf k => ?_⟩
  obtain ⟨x, e1, h1, hf⟩ := bnd_some hf
  obtain ⟨y, e2, h2, hf⟩ := bnd_some hf
  obtain ⟨z, e3, h3', hf9⟩ := bnd_some hf
  obtain ⟨h3, e33⟩ := opt_some h3'
  subst e33
  refine ka G σ H env fp x e1 _ S h1 fun u G1 H1 fp1 a1 r1 => ?_
  refine kb G1 σ H1 e1 fp1 y _ _ a1.st h2 fun w G2 H2 fp2 a2 r2 => ?_
  refine hr G2 H2 u w x y z _ a2.st.same (r1.mono a2.fr.gsub) r2 h3 fun q as G3 H3 f3 s3 o nd n => ?_
  have a3 := (a1.trans a2).step f3 s3
  split at hf9
  · cases o with
    | d ro =>
      cases ro
      refine ⟨true, rfl, ?_⟩
      obtain ⟨d, e4, h4, hf8⟩ := bnd_some hf9
      obtain ⟨h5, rfl⟩ := opt_some hf8
      refine iteT (kc G3 σ H3 _ _ d _ _ a3.st h4 fun q2 G4 H4 fp4 a4 r4 => ?_)
      exact hr' G4 H4 w q2 y d v Q a4.st.same ((r2.mono f3.gsub).mono a4.fr.gsub) r4 h5 ((a3.trans a4).fin k)
  · cases o with
    | d ro =>
      cases ro
      cases hf9
      exact ⟨false, rfl, iteF (k _ [] G3 H3 _ a3 (.d (.bl false)) ⟨List.nodup_nil, fun _ h => nomatch h⟩)⟩
  · cases hf9
end
end DL
set_option Elab.async false
set_option linter.all false
set_option maxRecDepth 100000
namespace DL
open PySem L2
section
variable {B : Bs} {N : Nm} {sc : Scope} {X : Cx} {W : Wd}
def gI (C : Int → Int → Bool) (f : Int → Int → Dt) : Dt → Dt → Option Vl
  | .int i, .int j => if C i j = true then some (.d (f i j)) else none
  | _, _ => none
def gI0 (f : Int → Int → Dt) : Dt → Dt → Option Vl
  | .int i, .int j => some (.d (f i j))
  | _, _ => none
theorem rs_I {C : Int → Int → Prop} {D : Int → Int → Bool} {g : Int → Int → V} {f : Int → Int → Dt} (hc : ∀ i j, D i j = true → C i j) (hf : ∀ G i j, Rep W G (g i j) (f i j)) : RS2 W (rI C g) (gI D f) := by
  intro G H x y dx dy v Q s rx ry e k
  cases rx <;> cases ry <;> try (simp [gI] at e; done)
  rename_i i j
  simp only [gI] at e
  split at e
  · rename_i h
    cases e
    exact ⟨i, j, rfl, rfl, hc i j h, k.here s (hf G i j)⟩
  · cases e
theorem rs_I0 {g : Int → Int → V} {f : Int → Int → Dt} (hf : ∀ G i j, Rep W G (g i j) (f i j)) : RS2 W (rI0 g) (gI0 f) := by
  intro G H x y dx dy v Q s rx ry e k
  cases rx <;> cases ry <;> try (simp [gI0] at e; done)
  rename_i i j
  cases e
  exact ⟨i, j, rfl, rfl, k.here s (hf G i j)⟩
/-- * below a hundred million bits -/
def mulOk (i j : Int) : Bool := decide (i.natAbs.log2 + j.natAbs.log2 < 100000000)
theorem mulOk_ok {i j : Int} (h : mulOk i j = true) : IntMulOk i j := by
  have b : ∀ x : Int, Builtin.Int.intBits x ≤ x.natAbs.log2 + 1 := fun x => by
    unfold Builtin.Int.intBits
    split <;> omega
  have h1 := b i
  have h2 := b j
  have h3 : i.natAbs.log2 + j.natAbs.log2 < 100000000 := of_decide_eq_true h
  have e : bitsLine = 134217728 := by decide
  unfold IntMulOk
  intro z
  rw [Bool.and_eq_true] at z
  have z2 := z.2
  unfold Builtin.Int.intTooBig at z2
  have z3 := of_decide_eq_true z2
  rw [e] at z3
  omega
theorem op_mulX : OpR X (binaryOp .Mult) (rI (fun i j => IntMulOk i j) fun i j => .int (i * j)) := opI fun _ _ _ _ _ _ _ hc q => PyProof.Rows.mul_int q hc
def divOk (_ j : Int) : Bool := decide (0 < j) && decide (j.natAbs.log2 < 9000)
def modOk (_ j : Int) : Bool := decide (0 < j)
def powOk (i j : Int) : Bool := decide (0 ≤ j) && decide (j ≤ 1000000) && decide (i.natAbs < 2 ^ 64)
abbrev gAdd := gI0 fun i j => .int (i + j)
abbrev gSub := gI0 fun i j => .int (i - j)
abbrev gMul := gI mulOk fun i j => .int (i * j)
abbrev gDiv := gI divOk fun i j => .int (i / j)
abbrev gMod := gI modOk fun i j => .int (i % j)
abbrev gPow := gI powOk fun i j => .int (i ^ j.toNat)
abbrev gLt := gI0 fun i j => .bl (decide (i < j))
abbrev gLe := gI0 fun i j => .bl (decide (i ≤ j))
abbrev gGt := gI0 fun i j => .bl (decide (j < i))
abbrev gGe := gI0 fun i j => .bl (decide (j ≤ i))
variable {a b c : Expr} {fa fb fc : M Dt} {pos : Pos}
def gCat : Dt → Dt → Option Vl
  | .lst xs, .lst ys => if xs.length + ys.length ≤ sizeLine then some (.ld (xs ++ ys)) else none
  | _, _ => none
theorem rs_cat : RS2 W rCat gCat := by
  intro G H x y dx dy v Q s rx ry e k
  cases rx <;> cases ry <;> try (simp [gCat] at e; done)
  rename_i a vs xs hx rx b us ys hy ry
  simp only [gCat] at e
  split at e
  · rename_i h
    cases e
    refine ⟨a, b, vs, us, rfl, rfl, s _ _ hx, s _ _ hy, by rw [rx.length, ry.length]; exact h, fun p hp => ?_⟩
    exact k.lst s (rx.append ry) hp
  · cases e
def gAddS : Dt → Dt → Option Vl
  | .str x, .str y => if x.length + y.length ≤ sizeLine then some (.d (.str (x ++ y))) else none
  | _, _ => none
theorem rs_addS : RS2 W (fun x y H Q => ∃ i j, x = .str i ∧ y = .str j ∧ i.length + j.length ≤ sizeLine ∧ Q (.str (i ++ j)) H) gAddS := by
  intro G H x y dx dy v Q s rx ry e k
  cases rx <;> cases ry <;> try (simp [gAddS] at e; done)
  rename_i i j
  simp only [gAddS] at e
  split at e
  · rename_i h
    cases e
    exact ⟨i, j, rfl, rfl, h, k.here s (.str _)⟩
  · cases e
/-- int + int, list + list -/
def gPlus : Dt → Dt → Option Vl := fun a b => match gAdd a b with
  | some v => some v
  | none => gCat a b
theorem de_add (ha : DD B N sc a fa) (hb : DD B N sc b fb) : DE B N sc (.BinOp a .Add b pos) (e2 gAdd fa fb) := de_op (fun _ _ => op_add) (rs_I0 fun _ _ _ => .int _) ha hb
theorem de_plus (ha : DD B N sc a fa) (hb : DD B N sc b fb) : DE B N sc (.BinOp a .Add b pos) (e2 gPlus fa fb) := de_op (fun _ _ => op_add.or op_cat) ((rs_I0 fun _ _ _ => .int _).or rs_cat) ha hb
theorem de_cat (ha : DD B N sc a fa) (hb : DD B N sc b fb) : DE B N sc (.BinOp a .Add b pos) (e2 gCat fa fb) := de_op (fun _ _ => op_cat) rs_cat ha hb
theorem de_sub (ha : DD B N sc a fa) (hb : DD B N sc b fb) : DE B N sc (.BinOp a .Sub b pos) (e2 gSub fa fb) := de_op (fun _ _ => op_sub) (rs_I0 fun _ _ _ => .int _) ha hb
theorem de_mul (ha : DD B N sc a fa) (hb : DD B N sc b fb) : DE B N sc (.BinOp a .Mult b pos) (e2 gMul fa fb) := de_op (fun _ _ => op_mulX) (rs_I (fun _ _ h => mulOk_ok h) fun _ _ _ => .int _) ha hb
theorem de_div (ha : DD B N sc a fa) (hb : DD B N sc b fb) : DE B N sc (.BinOp a .FloorDiv b pos) (e2 gDiv fa fb) :=
  de_op (fun _ _ => op_fdivW) (rs_I (fun i j h => by
    unfold divOk at h
    rw [Bool.and_eq_true] at h
    exact ⟨of_decide_eq_true h.1, of_decide_eq_true h.2⟩) fun _ _ _ => .int _) ha hb
theorem de_mod (ha : DD B N sc a fa) (hb : DD B N sc b fb) : DE B N sc (.BinOp a .Mod b pos) (e2 gMod fa fb) := de_op (fun _ _ => op_mod) (rs_I (fun _ _ h => of_decide_eq_true h) fun _ _ _ => .int _) ha hb
theorem de_pow (ha : DD B N sc a fa) (hb : DD B N sc b fb) : DE B N sc (.BinOp a .Pow b pos) (e2 gPow fa fb) :=
  de_op (fun _ _ => op_pow) (rs_I (fun i j h => by
    unfold powOk at h
    rw [Bool.and_eq_true, Bool.and_eq_true] at h
    exact ⟨of_decide_eq_true h.1.1, of_decide_eq_true h.1.2, of_decide_eq_true h.2⟩) fun _ _ _ => .int _) ha hb
def gNeg : Dt → Option Vl
  | .int i => some (.d (.int (-i)))
  | _ => none
theorem rs_neg : RS1 W (rU fun i => .int (-i)) gNeg := by
  intro G H x dx v Q s rx e k
  cases rx <;> try (simp [gNeg] at e; done)
  cases e
  exact ⟨_, rfl, k.here s (.int _)⟩
theorem de_neg (ha : DD B N sc a fa) : DE B N sc (.UnaryOp .USub a pos) (e1 gNeg fa) := de_un (fun _ _ => un_neg) rs_neg ha
theorem de_lt (ha : DD B N sc a fa) (hb : DD B N sc b fb) : DE B N sc (.Compare a [.Lt] [b] pos) (e2 gLt fa fb) := de_cmp (fun _ _ => op_lt) (rs_I0 fun _ _ _ => .bl _) ha hb (nomark _)
theorem de_le (ha : DD B N sc a fa) (hb : DD B N sc b fb) : DE B N sc (.Compare a [.LtE] [b] pos) (e2 gLe fa fb) := de_cmp (fun _ _ => op_le) (rs_I0 fun _ _ _ => .bl _) ha hb (nomark _)
theorem de_gt (ha : DD B N sc a fa) (hb : DD B N sc b fb) : DE B N sc (.Compare a [.Gt] [b] pos) (e2 gGt fa fb) := de_cmp (fun _ _ => op_gt) (rs_I0 fun _ _ _ => .bl _) ha hb (nomark _)
theorem de_ge (ha : DD B N sc a fa) (hb : DD B N sc b fb) : DE B N sc (.Compare a [.GtE] [b] pos) (e2 gGe fa fb) := de_cmp (fun _ _ => op_ge) (rs_I0 fun _ _ _ => .bl _) ha hb (nomark _)
theorem de_lelt (ha : DD B N sc a fa) (hb : DD B N sc b fb) (hc : DD B N sc c fc) (hm : lastMarks [.LtE, .Lt] [b, c] = false := by with_unfolding_all rfl) : DE B N sc (.Compare a [.LtE, .Lt] [b, c] pos) (e3c gLe gLt fa fb fc) :=
  de_chain (fun _ _ => op_le) (fun _ _ => op_lt) (rs_I0 fun _ _ _ => .bl _) (rs_I0 fun _ _ _ => .bl _) ha hb hc hm
theorem de_lele (ha : DD B N sc a fa) (hb : DD B N sc b fb) (hc : DD B N sc c fc) (hm : lastMarks [.LtE, .LtE] [b, c] = false := by with_unfolding_all rfl) : DE B N sc (.Compare a [.LtE, .LtE] [b, c] pos) (e3c gLe gLe fa fb fc) :=
  de_chain (fun _ _ => op_le) (fun _ _ => op_le) (rs_I0 fun _ _ _ => .bl _) (rs_I0 fun _ _ _ => .bl _) ha hb hc hm
mutual
def Dt.py : Dt → Option PyData
  | .non => some .none
  | .bl b => some (.bool b)
  | .int i => some (.int i)
  | .str x => some (.str x)
  | .tup xs => (pys xs).map .tuple
  | .lst xs => (pys xs).map .list
  | .frl xs => (pys xs).map .list
  | .ins _ _ => none
  | .dct _ => none
def pys : List Dt → Option (List PyData)
  | [] => some []
  | x :: xs => match x.py, pys xs with
    | some d, some ds => some (d :: ds)
    | _, _ => none
end
mutual
theorem Rep.py {G : Hp} : ∀ {x : Dt} {v : V} {d : PyData}, Rep W G v x → x.py = some d → Dp W.K G v d
  | .non, _, _, h, e => by cases h; simp [Dt.py] at e; subst e; exact .non
  | .bl b, _, _, h, e => by cases h; simp [Dt.py] at e; subst e; exact .bl _
  | .int b, _, _, h, e => by cases h; simp [Dt.py] at e; subst e; exact .int _
  | .str b, _, _, h, e => by cases h; simp [Dt.py] at e; subst e; exact .str _
  | .tup xs, _, _, h, e => by
    cases h with
    | tup h r =>
      simp only [Dt.py, Option.map_eq_some_iff] at e
      obtain ⟨ds, e, rfl⟩ := e
      exact .tup h (Reps.py r e)
  | .lst xs, _, _, h, e => by
    cases h with
    | lst h r =>
      simp only [Dt.py, Option.map_eq_some_iff] at e
      obtain ⟨ds, e, rfl⟩ := e
      exact .lst (SqL.of h) (Reps.py r e)
  | .frl xs, _, _, h, e => by
    cases h with
    | frl h r =>
      simp only [Dt.py, Option.map_eq_some_iff] at e
      obtain ⟨ds, e, rfl⟩ := e
      exact .lst h (Reps.py r e)
  | .ins _ _, _, _, h, e => by simp [Dt.py] at e
  | .dct _, _, _, h, e => by simp [Dt.py] at e
theorem Reps.py {G : Hp} : ∀ {xs : List Dt} {vs : List V} {ds : List PyData}, Reps W G vs xs → pys xs = some ds → DpAll W.K G vs ds
  | [], _, _, h, e => by cases h; simp [pys] at e; subst e; exact .nil
  | x :: xs, _, _, h, e => by
    cases h with
    | cons h r =>
      unfold pys at e
      split at e
      · rename_i d ds h1 h2
        cases e
        exact .cons (Rep.py h h1) (Reps.py r h2)
      · cases e
end
theorem Dp.mono {K : PySem.W.Frag} {G H : Hp} (s : Same G H) : ∀ {v : V} {d : PyData}, Dp K G v d → Dp K H v d := by
  intro v d h
  exact Dp.rec (motive_1 := fun v d _ => Dp K H v d) (motive_2 := fun vs ds _ => DpAll K H vs ds) .non (fun b => .bl b) (fun i => .int i) (fun x => .str x) (fun h _ ih => .lst (s.seq h) ih) (fun h _ ih => .tup (sqt_mono s h) ih) .nil (fun _ _ h1 h2 => .cons h1 h2) h
/-- == as Python has it on data; none where it is not told here -/
def eqD : Dt → Dt → Option Bool
  | .int i, .int j => some (decide (i = j))
  | x, y => match x.py, y.py with
    | some p, some q => if (SeqAt.shaped p && SeqAt.shaped q) = true then some (PyData.eqv p q) else none
    | _, _ => none
theorem eqD_ok {x y : Dt} {k : Bool} (h : eqD x y = some k) : ∃ p q, x.py = some p ∧ y.py = some q ∧ SeqAt.shaped p = true ∧ SeqAt.shaped q = true ∧ PyData.eqv p q = k := by
  unfold eqD at h
  split at h
  · rename_i i j
    cases h
    refine ⟨.int i, .int j, by simp [Dt.py], by simp [Dt.py], by simp [SeqAt.shaped, PyData.canLay0, PyData.depth], by simp [SeqAt.shaped, PyData.canLay0, PyData.depth], ?_⟩
    simp only [PyData.eqv]
    exact Bool.eq_iff_iff.mpr (by simp)
  · split at h
    · rename_i p q h1 h2
      split at h
      · rename_i hs
        rw [Bool.and_eq_true] at hs
        cases h
        exact ⟨p, q, h1, h2, hs.1, hs.2, rfl⟩
      · cases h
    · cases h
def gEq : Dt → Dt → Option Vl := fun x y => (eqD x y).map fun k => .d (.bl k)
def gNe : Dt → Dt → Option Vl := fun x y => (eqD x y).map fun k => .d (.bl (!k))
theorem rs_eq : RS2 W (rEqD W.K) gEq := by
  intro G H x y dx dy v Q s rx ry e k
  simp only [gEq, Option.map_eq_some_iff] at e
  obtain ⟨b, e, rfl⟩ := e
  obtain ⟨p, q, h1, h2, s1, s2, rfl⟩ := eqD_ok e
  exact ⟨p, q, Dp.mono s (rx.py h1), Dp.mono s (ry.py h2), s1, s2, k.here s (.bl _)⟩
theorem rs_ne : RS2 W (rNeD W.K) gNe := by
  intro G H x y dx dy v Q s rx ry e k
  simp only [gNe, Option.map_eq_some_iff] at e
  obtain ⟨b, e, rfl⟩ := e
  obtain ⟨p, q, h1, h2, s1, s2, rfl⟩ := eqD_ok e
  exact ⟨p, q, Dp.mono s (rx.py h1), Dp.mono s (ry.py h2), s1, s2, k.here s (.bl _)⟩
/-- x in xs -/
def inD : Dt → Dt → Option Bool := fun x y => match y with
  | .lst ys => match x.py, pys ys with
    | some p, some qs => if (SeqAt.shaped p && SeqAt.shaped (.list qs)) = true then some (qs.any fun z => PyData.eqv z p) else none
    | _, _ => none
  | _ => none
theorem inD_ok {G : Hp} {x y : Dt} {k : Bool} {u : V} (h : inD x y = some k) (r : Rep W G u y) : ∃ p qs, x.py = some p ∧ Dp W.K G u (.list qs) ∧ SeqAt.shaped p = true ∧ SeqAt.shaped (.list qs) = true ∧ (qs.any fun z => PyData.eqv z p) = k := by
  unfold inD at h
  split at h
  · rename_i ys
    split at h
    · rename_i p qs h1 h2
      split at h
      · rename_i hs
        rw [Bool.and_eq_true] at hs
        cases h
        exact ⟨p, qs, h1, r.py (by simp [Dt.py, h2]), hs.1, hs.2, rfl⟩
      · cases h
    · cases h
  · cases h
def gIn : Dt → Dt → Option Vl := fun x y => (inD x y).map fun k => .d (.bl k)
def gNin : Dt → Dt → Option Vl := fun x y => (inD x y).map fun k => .d (.bl (!k))
theorem rs_in : RS2 W (rInD W.K) gIn := by
  intro G H x y dx dy v Q s rx ry e k
  simp only [gIn, Option.map_eq_some_iff] at e
  obtain ⟨b, e, rfl⟩ := e
  obtain ⟨p, qs, h1, h2, s1, s2, rfl⟩ := inD_ok e ry
  exact ⟨p, qs, Dp.mono s (rx.py h1), Dp.mono s h2, s1, s2, k.here s (.bl _)⟩
theorem rs_nin : RS2 W (rNotInD W.K) gNin := by
  intro G H x y dx dy v Q s rx ry e k
  simp only [gNin, Option.map_eq_some_iff] at e
  obtain ⟨b, e, rfl⟩ := e
  obtain ⟨p, qs, h1, h2, s1, s2, rfl⟩ := inD_ok e ry
  exact ⟨p, qs, Dp.mono s (rx.py h1), Dp.mono s h2, s1, s2, k.here s (.bl _)⟩
theorem de_eq (ha : DD B N sc a fa) (hb : DD B N sc b fb) : DE B N sc (.Compare a [.Eq] [b] pos) (e2 gEq fa fb) := de_cmp (fun _ c => c.K ▸ op_eqD c.units) rs_eq ha hb (nomark _)
theorem de_ne (ha : DD B N sc a fa) (hb : DD B N sc b fb) : DE B N sc (.Compare a [.NotEq] [b] pos) (e2 gNe fa fb) := de_cmp (fun _ c => c.K ▸ op_neD c.units) rs_ne ha hb (nomark _)
theorem de_in (ha : DD B N sc a fa) (hb : DD B N sc b fb) (hm : behindInMarks .In b = false := by rfl) : DE B N sc (.Compare a [.In] [b] pos) (e2 gIn fa fb) := de_cmp (fun _ c => c.K ▸ op_inD c.units65) rs_in ha hb hm
theorem de_nin (ha : DD B N sc a fa) (hb : DD B N sc b fb) (hm : behindInMarks .NotIn b = false := by rfl) : DE B N sc (.Compare a [.NotIn] [b] pos) (e2 gNin fa fb) := de_cmp (fun _ c => c.K ▸ op_notInD c.units65) rs_nin ha hb hm
/-- x is None -/
def Dt.isN : Dt → Bool
  | .non => true
  | _ => false
theorem Rep.isN {G : Hp} {v : V} {x : Dt} (r : Rep W G v x) : decide (v = .non) = x.isN := by
  cases r <;> simp [Dt.isN]
def gIsN : Dt → Dt → Option Vl
  | x, .non => some (.d (.bl x.isN))
  | _, _ => none
def gNotN : Dt → Dt → Option Vl
  | x, .non => some (.d (.bl (!x.isN)))
  | _, _ => none
theorem rs_isN : RS2 W (fun x y H Q => y = .non ∧ Q (.bl (decide (x = .non))) H) gIsN := by
  intro G H x y dx dy v Q s rx ry e k
  cases ry <;> try (simp [gIsN] at e; done)
  cases e
  exact ⟨rfl, k.here s (by rw [rx.isN]; exact .bl _)⟩
theorem rs_notN : RS2 W (fun x y H Q => y = .non ∧ Q (.bl (!decide (x = .non))) H) gNotN := by
  intro G H x y dx dy v Q s rx ry e k
  cases ry <;> try (simp [gNotN] at e; done)
  cases e
  exact ⟨rfl, k.here s (by rw [rx.isN]; exact .bl _)⟩
theorem de_isN (ha : DD B N sc a fa) (hb : DD B N sc b fb) : DE B N sc (.Compare a [.Is] [b] pos) (e2 gIsN fa fb) := de_cmp (fun _ _ => op_isN) rs_isN ha hb (nomark _)
theorem de_notN (ha : DD B N sc a fa) (hb : DD B N sc b fb) : DE B N sc (.Compare a [.IsNot] [b] pos) (e2 gNotN fa fb) := de_cmp (fun _ _ => op_notN) rs_notN ha hb (nomark _)
def asB (f : M Dt) : M Bool := bnd f fun x => match x with
  | .bl b => ret b
  | _ => fun _ => none
theorem dt_val (h : DD B N sc a fa) (he : ∀ (X : Cx) whole, isTrue a X.env whole = (do let v ← whole; standAt a.pos; holding [v] (truthy v)) := by intro _ _; rfl) : DT B N sc a (asB fa) := by
  obtain ⟨t, p, r⟩ := h
  refine ⟨_, fun X c => pt_val (p X c) (he X), fun G σ H env fp v env' Q S hf k => ?_⟩
  obtain ⟨x, e1, h1, h2⟩ := bnd_some hf
  refine r G σ H env fp x e1 _ S h1 fun u G1 H1 fp1 a1 r1 => ?_
  cases x <;> try (cases h2; done)
  cases h2
  cases r1
  exact ⟨_, rfl, k _ _ _ a1⟩
variable {ga gb : M Bool} {rest : List Expr}
def tNot' (f : M Bool) : M Bool := bnd f fun b => ret (!b)
def tAnd' (f g : M Bool) : M Bool := bnd f fun b => if b = true then g else ret false
def tOr' (f g : M Bool) : M Bool := bnd f fun b => if b = true then ret true else g
theorem dt_not (h : DT B N sc a ga) : DT B N sc (.UnaryOp .Not a pos) (tNot' ga) := by
  obtain ⟨t, p, r⟩ := h
  refine ⟨_, fun X c => pt_not (p X c), fun G σ H env fp v env' Q S hf k => ?_⟩
  obtain ⟨x, e1, h1, h2⟩ := bnd_some hf
  cases h2
  exact r G σ H env fp x _ _ S h1 fun G1 H1 fp1 a1 => k _ _ _ a1
theorem DW.dt (h : DW B N sc a ga) : DT B N sc a ga := by
  obtain ⟨t, p, r⟩ := h
  exact ⟨t, fun X c => (p X c).pt, r⟩
theorem dw_and1 (h : DT B N sc a ga) : DW B N sc (.BoolOp .And [a] pos) ga := by
  obtain ⟨t, p, r⟩ := h
  exact ⟨t, fun X c => pw_and1 (p X c), r⟩
theorem dw_or1 (h : DT B N sc a ga) : DW B N sc (.BoolOp .Or [a] pos) ga := by
  obtain ⟨t, p, r⟩ := h
  exact ⟨t, fun X c => pw_or1 (p X c), r⟩
theorem dw_and (h : DT B N sc a ga) (h2 : DW B N sc (.BoolOp .And (b :: rest) pos) gb) : DW B N sc (.BoolOp .And (a :: b :: rest) pos) (tAnd' ga gb) := by
  obtain ⟨t, p, r⟩ := h
  obtain ⟨t2, p2, r2⟩ := h2
  refine ⟨_, fun X c => pw_and (p X c) (p2 X c), fun G σ H env fp v env' Q S hf k => ?_⟩
  obtain ⟨x, e1, h1, hf2⟩ := bnd_some hf
  refine r G σ H env fp x e1 _ S h1 fun G1 H1 fp1 a1 => ?_
  split at hf2
  · rename_i e; subst e
    exact iteT (r2 G1 σ H1 e1 fp1 v env' Q a1.st hf2 fun G2 H2 fp2 a2 => k _ _ _ (a1.trans a2))
  · rename_i e
    have e : x = false := by simpa using e
    subst e
    cases hf2
    exact iteF (k _ _ _ a1)
theorem dw_or (h : DT B N sc a ga) (h2 : DW B N sc (.BoolOp .Or (b :: rest) pos) gb) : DW B N sc (.BoolOp .Or (a :: b :: rest) pos) (tOr' ga gb) := by
  obtain ⟨t, p, r⟩ := h
  obtain ⟨t2, p2, r2⟩ := h2
  refine ⟨_, fun X c => pw_or (p X c) (p2 X c), fun G σ H env fp v env' Q S hf k => ?_⟩
  obtain ⟨x, e1, h1, hf2⟩ := bnd_some hf
  refine r G σ H env fp x e1 _ S h1 fun G1 H1 fp1 a1 => ?_
  split at hf2
  · rename_i e; subst e
    cases hf2
    exact iteT (k _ _ _ a1)
  · rename_i e
    have e : x = false := by simpa using e
    subst e
    exact iteF (r2 G1 σ H1 e1 fp1 v env' Q a1.st hf2 fun G2 H2 fp2 a2 => k _ _ _ (a1.trans a2))
/-- as values -/
def vB (f : M Bool) : M Dt := bnd f fun b => ret (.bl b)
theorem dd_one {op : BoolOp} (h : DD B N sc a fa) : DD B N sc (.BoolOp op [a] pos) fa := by
  obtain ⟨t, p, r⟩ := h
  exact ⟨t, fun X c => pe_one (p X c), r⟩
def vAnd (f g : M Dt) : M Dt := bnd f fun b => match b with
  | .bl true => g
  | .bl false => ret (.bl false)
  | _ => fun _ => none
def vOr (f g : M Dt) : M Dt := bnd f fun b => match b with
  | .bl true => ret (.bl true)
  | .bl false => g
  | _ => fun _ => none
def vNot (f : M Dt) : M Dt := bnd f fun b => match b with
  | .bl c => ret (.bl (!c))
  | _ => fun _ => none
theorem dd_not (h : DD B N sc a fa) : DD B N sc (.UnaryOp .Not a pos) (vNot fa) := by
  obtain ⟨t, p, r⟩ := h
  refine ⟨_, fun X c => pe_not (p X c), fun G σ H env fp v env' Q S hf k => ?_⟩
  obtain ⟨x, e1, h1, hf2⟩ := bnd_some hf
  refine r G σ H env fp x e1 _ S h1 fun u G1 H1 fp1 a1 r1 => ?_
  split at hf2
  · cases r1; cases hf2; exact ⟨_, rfl, k _ _ _ _ a1 (.bl _)⟩
  · cases hf2
theorem dd_and (h : DD B N sc a fa) (h2 : DD B N sc (.BoolOp .And (b :: rest) pos) fb) : DD B N sc (.BoolOp .And (a :: b :: rest) pos) (vAnd fa fb) := by
  obtain ⟨t, p, r⟩ := h
  obtain ⟨t2, p2, r2⟩ := h2
  refine ⟨_, fun X c => pe_and (p X c) (p2 X c), fun G σ H env fp v env' Q S hf k => ?_⟩
  obtain ⟨x, e1, h1, hf2⟩ := bnd_some hf
  refine r G σ H env fp x e1 _ S h1 fun u G1 H1 fp1 a1 r1 => ?_
  split at hf2
  · cases r1
    exact ⟨_, rfl, iteT (r2 G1 σ H1 e1 fp1 v env' Q a1.st hf2 fun u G2 H2 fp2 a2 r2 => k _ _ _ _ (a1.trans a2) r2)⟩
  · cases r1; cases hf2
    exact ⟨_, rfl, iteF (k _ _ _ _ a1 (.bl _))⟩
  · cases hf2
theorem dd_or (h : DD B N sc a fa) (h2 : DD B N sc (.BoolOp .Or (b :: rest) pos) fb) : DD B N sc (.BoolOp .Or (a :: b :: rest) pos) (vOr fa fb) := by
  obtain ⟨t, p, r⟩ := h
  obtain ⟨t2, p2, r2⟩ := h2
  refine ⟨_, fun X c => pe_or (p X c) (p2 X c), fun G σ H env fp v env' Q S hf k => ?_⟩
  obtain ⟨x, e1, h1, hf2⟩ := bnd_some hf
  refine r G σ H env fp x e1 _ S h1 fun u G1 H1 fp1 a1 r1 => ?_
  split at hf2
  · cases r1; cases hf2
    exact ⟨_, rfl, iteT (k _ _ _ _ a1 (.bl _))⟩
  · cases r1
    exact ⟨_, rfl, iteF (r2 G1 σ H1 e1 fp1 v env' Q a1.st hf2 fun u G2 H2 fp2 a2 r2 => k _ _ _ _ (a1.trans a2) r2)⟩
  · cases hf2
def eIf {α : Type} (c : M Bool) (f g : M α) : M α := bnd c fun b => if b = true then f else g
theorem de_if {fa fb : M Vl} (hc : DT B N sc c ga) (ha : DE B N sc a fa) (hb : DE B N sc b fb) : DE B N sc (.IfExp c a b pos) (eIf ga fa fb) := by
  obtain ⟨t, p, r⟩ := hc
  obtain ⟨t1, p1, r1⟩ := ha
  obtain ⟨t2, p2, r2⟩ := hb
  refine ⟨_, fun X c => pe_ifExp (p X c) (p1 X c) (p2 X c), fun G σ H env fp v env' Q S hf k => ?_⟩
  obtain ⟨x, e1, h1, hf2⟩ := bnd_some hf
  refine r G σ H env fp x e1 _ S h1 fun G1 H1 fp1 a1 => ?_
  split at hf2
  · rename_i e; subst e
    exact iteT (r1 G1 σ H1 e1 fp1 v env' Q a1.st hf2 fun u as G2 H2 fp2 a2 o n => k _ _ _ _ _ (a1.trans a2) o (a1.new n))
  · rename_i e
    have e : x = false := by simpa using e
    subst e
    exact iteF (r2 G1 σ H1 e1 fp1 v env' Q a1.st hf2 fun u as G2 H2 fp2 a2 o n => k _ _ _ _ _ (a1.trans a2) o (a1.new n))
def aNil : M (List Dt) := ret []
def aCons (f : M Dt) (g : M (List Dt)) : M (List Dt) := bnd f fun x => bnd g fun xs => ret (x :: xs)
theorem da_nil : DA B N sc [] aNil := ⟨_, fun _ _ => pa_nil, fun G σ H env fp v env' Q S hf k => by cases hf; exact k [] G H fp (Aft.refl S) .nil⟩
theorem da_cons {es : List Expr} {g : M (List Dt)} (h : DD B N sc a fa) (h2 : DA B N sc es g) (hs : ∀ X : Cx, starEach (a :: es) X.env = (false, eval a X.env) :: starEach es X.env := by intro _; rfl) : DA B N sc (a :: es) (aCons fa g) := by
  obtain ⟨t, p, r⟩ := h
  obtain ⟨t2, p2, r2⟩ := h2
  refine ⟨_, fun X c => pa_cons (p X c) (p2 X c) (hs X), fun G σ H env fp v env' Q S hf k => ?_⟩
  obtain ⟨x, e1, h1, hf2⟩ := bnd_some hf
  obtain ⟨xs, e2, h3, hf4⟩ := bnd_some hf2
  cases hf4
  refine r G σ H env fp x e1 _ S h1 fun u G1 H1 fp1 a1 r1 => ?_
  exact r2 G1 σ H1 e1 fp1 xs _ _ a1.st h3 fun us G2 H2 fp2 a2 r2 => k _ _ _ _ (a1.trans a2) (.cons (r1.mono a2.fr.gsub) r2)
def eTup (f : M (List Dt)) : M Dt := bnd f fun xs => ret (.tup xs)
theorem Reps.len' {G : Hp} {vs : List V} {xs : List Dt} (r : Reps W G vs xs) {n : Nat} (h : xs.length ≤ n) : vs.length ≤ n := by rw [r.length]; exact h
theorem dd_tup {es : List Expr} {g : M (List Dt)} {x1} (h : DA B N sc es g) (hl : ∀ env xs env', g env = some (xs, env') → xs.length ≤ sizeLine) : DD B N sc (.Tuple es x1 pos) (eTup g) := by
  obtain ⟨t, p, r⟩ := h
  refine ⟨_, fun X c => pe_tup (p X c), fun G σ H env fp v env' Q S hf k => ?_⟩
  obtain ⟨xs, e1, h1, hf2⟩ := bnd_some hf
  cases hf2
  refine r G σ H env fp xs _ _ S h1 fun us G1 H1 fp1 a1 r1 => ⟨r1.len' (hl _ _ _ h1), fun q hq => ?_⟩
  have f : Fr (fun _ => False) G1 H1 (upd G1 q (.tup us)) (upd H1 q (.tup us)) := Fr.newG a1.st.same hq
  exact k _ _ _ _ (a1.step f (Same.newG a1.st.same)) (.tup (.inl (.inl upd_same)) (r1.mono f.gsub))
def eLst (f : M (List Dt)) : M Vl := bnd f fun xs => ret (.ld xs)
theorem de_lst {es : List Expr} {g : M (List Dt)} (h : DA B N sc es g) (hl : ∀ env xs env', g env = some (xs, env') → xs.length ≤ sizeLine) : DE B N sc (.List es pos) (eLst g) := by
  obtain ⟨t, p, r⟩ := h
  refine ⟨_, fun X c => pe_lst (p X c), fun G σ H env fp v env' Q S hf k => ?_⟩
  obtain ⟨xs, e1, h1, hf2⟩ := bnd_some hf
  cases hf2
  refine r G σ H env fp xs _ _ S h1 fun us G1 H1 fp1 a1 r1 => ⟨r1.len' (hl _ _ _ h1), fun q hq => ?_⟩
  exact (a1.fin k).lst a1.st.same r1 hq
/-- a display's length is written -/
theorem len_nil {env : DEnv} {xs : List Dt} {env' : DEnv} (h : aNil env = some (xs, env')) : xs.length ≤ 0 := by cases h; exact Nat.le_refl _
theorem len_cons {f : M Dt} {g : M (List Dt)} {n : Nat} (hg : ∀ env xs env', g env = some (xs, env') → xs.length ≤ n) (env : DEnv) (xs : List Dt) (env' : DEnv) (h : aCons f g env = some (xs, env')) : xs.length ≤ n + 1 := by
  obtain ⟨x, e1, h1, hf2⟩ := bnd_some h
  obtain ⟨ys, e2, h3, hf4⟩ := bnd_some hf2
  cases hf4
  exact Nat.succ_le_succ (hg _ _ _ h3)
/-- arguments of a written number -/
def DAn (B : Bs) (N : Nm) (sc : Scope) (n : Nat) (es : List Expr) (f : M (List Dt)) : Prop := DA B N sc es f ∧ ∀ env xs env', f env = some (xs, env') → xs.length = n
theorem dan_nil : DAn B N sc 0 [] aNil := ⟨da_nil, fun _ _ _ h => by cases h; rfl⟩
theorem dan_cons {es : List Expr} {g : M (List Dt)} {n : Nat} (h : DD B N sc a fa) (h2 : DAn B N sc n es g) (hs : ∀ X : Cx, starEach (a :: es) X.env = (false, eval a X.env) :: starEach es X.env := by intro _; rfl) : DAn B N sc (n + 1) (a :: es) (aCons fa g) :=
  ⟨da_cons h h2.1 hs, fun env xs env' h => by
    obtain ⟨x, e1, h1, hf2⟩ := bnd_some h
    obtain ⟨ys, e2, h3, hf4⟩ := bnd_some hf2
    cases hf4
    rw [List.length_cons, h2.2 _ _ _ h3]⟩
theorem dd_tupn {es : List Expr} {g : M (List Dt)} {n : Nat} {x1} (h : DAn B N sc n es g) (hn : n ≤ 1000 := by decide) : DD B N sc (.Tuple es x1 pos) (eTup g) :=
  dd_tup h.1 fun _ _ _ q => by rw [h.2 _ _ _ q]; exact Nat.le_of_lt (small1000 hn)
theorem de_lstn {es : List Expr} {g : M (List Dt)} {n : Nat} (h : DAn B N sc n es g) (hn : n ≤ 1000 := by decide) : DE B N sc (.List es pos) (eLst g) :=
  de_lst h.1 fun _ _ _ q => by rw [h.2 _ _ _ q]; exact Nat.le_of_lt (small1000 hn)
def gIx : Dt → Dt → Option Vl
  | .lst xs, .int i => (atI xs i).map .d
  | .frl xs, .int i => (atI xs i).map .d
  | .tup xs, .int i => (atI xs i).map .d
  | _, _ => none
theorem Reps.atI {G : Hp} {vs : List V} {xs : List Dt} {i : Int} {x : Dt} (r : Reps W G vs xs) (h : L2.atI xs i = some x) : ∃ v, L2.atI vs i = some v ∧ Rep W G v x := by
  unfold L2.atI at h ⊢
  rw [r.length]
  cases e : ixN xs.length i with
  | none => rw [e] at h; cases h
  | some j =>
    rw [e] at h
    obtain ⟨v, h1, h2⟩ := r.get (i := j) (x := x) h
    exact ⟨v, h1, h2⟩
theorem rs_ix : RS2 W (rIx W.K) gIx := by
  intro G H x y dx dy v Q s rx ry e k
  cases ry <;> try (cases dx <;> simp [gIx] at e; done)
  rename_i i
  cases rx <;> try (simp [gIx] at e; done)
  · rename_i a vs xs h r
    simp only [gIx, Option.map_eq_some_iff] at e
    obtain ⟨z, e, rfl⟩ := e
    obtain ⟨u, h1, h2⟩ := r.atI e
    exact .inr (.inl ⟨_, _, _, _, rfl, rfl, sqt_mono s h, h1, k.here s h2⟩)
  · rename_i a vs xs h r
    simp only [gIx, Option.map_eq_some_iff] at e
    obtain ⟨z, e, rfl⟩ := e
    obtain ⟨u, h1, h2⟩ := r.atI e
    exact .inl ⟨_, _, _, _, rfl, rfl, SqL.of (s _ _ h), h1, k.here s h2⟩
  · rename_i a vs xs h r
    simp only [gIx, Option.map_eq_some_iff] at e
    obtain ⟨z, e, rfl⟩ := e
    obtain ⟨u, h1, h2⟩ := r.atI e
    exact .inl ⟨_, _, _, _, rfl, rfl, s.seq h, h1, k.here s h2⟩
theorem de_ix (ha : DD B N sc a fa) (hb : DD B N sc b fb) (hs : PlainIx b) : DE B N sc (.Subscript a b pos) (e2 gIx fa fb) := by
  obtain ⟨ta, pa, ka⟩ := ha
  obtain ⟨tb, pb, kb⟩ := hb
  refine ⟨tOp (rIx B.W.K) ta tb, fun X c => pe_ix (c.K ▸ ix_seq) (pa X c) (pb X c) hs, fun G σ H env fp v env' Q S hf k => ?_⟩
  obtain ⟨x, e1, h1, hf⟩ := bnd_some hf
  obtain ⟨y, e2, h2, hf⟩ := bnd_some hf
  obtain ⟨h3, rfl⟩ := opt_some hf
  refine ka G σ H env fp x e1 _ S h1 fun u G1 H1 fp1 a1 r1 => ?_
  refine kb G1 σ H1 e1 fp1 y _ _ a1.st h2 fun w G2 H2 fp2 a2 r2 => ?_
  exact rs_ix G2 H2 u w x y v Q a2.st.same (r1.mono a2.fr.gsub) r2 h3 ((a1.trans a2).fin k)
end
end DL
set_option Elab.async false
set_option linter.all false
set_option maxRecDepth 100000
namespace DL
open PySem L2
inductive Out where
  | nx (e : DEnv) | bk (e : DEnv) | ct (e : DEnv) | rt (v : Vl) (e : DEnv)
abbrev SV := DEnv → Option Out
def Post (W : Wd) (G : Hp) (σ : L2.St) (H : Hp) (env : DEnv) (fp : FP) (D : Ends) : Out → Prop
  | .nx e => ∀ G' σ' H' fp', Aft W G σ H env fp G' σ' H' e fp' → D.nx σ' H'
  | .bk e => ∀ G' σ' H' fp', Aft W G σ H env fp G' σ' H' e fp' → D.bk σ' H'
  | .ct e => ∀ G' σ' H' fp', Aft W G σ H env fp G' σ' H' e fp' → D.ct σ' H'
  | .rt v e => ∀ u as G' σ' H' fp', Aft W G σ H env fp G' σ' H' e fp' → Own W G' H' u v as → New env fp H G' fp' as → D.rt u H'
def SemS (W : Wd) (t : TS) (f : SV) : Prop := ∀ (G : Hp) (σ : L2.St) (H : Hp) (env : DEnv) (fp : FP) (o : Out) (D : Ends), StR W G σ H env fp → f env = some o → Post W G σ H env fp D o → t D σ H
def DS (B : Bs) (N : Nm) (sc : Scope) (st : Stmt) (f : SV) : Prop := ∃ t, (∀ X, Cxt B N sc X → PS X st t) ∧ SemS B.W t f
def DSs (B : Bs) (N : Nm) (sc : Scope) (st : List Stmt) (f : SV) : Prop := ∃ t, (∀ X, Cxt B N sc X → PSs X st t) ∧ SemS B.W t f
/-- stored at js alone -/
structure Keeps (js : List Nat) (σ σ' : L2.St) : Prop where
  len : σ'.length = σ.length
  off : ∀ j, j ∉ js → σ'[j]? = σ[j]?
/-- a target: what it stores, and that it stores at js alone -/
def SemG (W : Wd) (t : TG) (js : List Nat) (g : Dt → DEnv → Option DEnv) : Prop := ∀ (G : Hp) (σ : L2.St) (H : Hp) (env : DEnv) (fp : FP) (u : V) (x : Dt) (env' : DEnv) (Q : L2.St → Hp → Prop), StR W G σ H env fp → Rep W G u x → g x env = some env' →
    (∀ σ' fp', Aft W G σ H env fp G σ' H env' fp' → Keeps js σ σ' → Q σ' H) → t u σ H Q
def DG (B : Bs) (N : Nm) (sc : Scope) (e : Expr) (js : List Nat) (g : Dt → DEnv → Option DEnv) : Prop := ∃ t, (∀ X, Cxt B N sc X → PG X e t) ∧ SemG B.W t js g
def SemGs (W : Wd) (t : TGs) (js : List Nat) (g : List Dt → DEnv → Option DEnv) : Prop := ∀ (G : Hp) (σ : L2.St) (H : Hp) (env : DEnv) (fp : FP) (us : List V) (xs : List Dt) (env' : DEnv) (Q : L2.St → Hp → Prop), StR W G σ H env fp → Reps W G us xs → g xs env = some env' →
    (∀ σ' fp', Aft W G σ H env fp G σ' H env' fp' → Keeps js σ σ' → Q σ' H) → t us σ H Q
def DGs (B : Bs) (N : Nm) (sc : Scope) (es : List Expr) (js : List Nat) (g : List Dt → DEnv → Option DEnv) : Prop := ∃ t, (∀ X, Cxt B N sc X → PGs X es t) ∧ SemGs B.W t js g
/-- what is walked: the items as data, each at its turn -/
def ItR (W : Wd) (G : Hp) (J : It) (xs : List Dt) : Prop := ∀ (G2 H2 : Hp), Same G G2 → Same G2 H2 → ∀ i : Nat,
    (∀ x, xs[i]? = some x → J.go i H2 ∧ ∀ v H3, J.yld i H2 v H3 → ∃ G3, Fr (fun _ => False) G2 H2 G3 H3 ∧ Same G3 H3 ∧ Rep W G3 v x) ∧ (xs[i]? = none → J.stop i H2)
def SemI (W : Wd) (wi : TI) (f : M (List Dt)) : Prop := ∀ (G : Hp) (σ : L2.St) (H : Hp) (env : DEnv) (fp : FP) (xs : List Dt) (env' : DEnv) (R : It → Hp → Prop), StR W G σ H env fp → f env = some (xs, env') →
    (∀ J G' H' fp', AftE W G σ H env fp G' H' env' fp' → ItR W G' J xs → R J H') → wi σ H R
def DI (B : Bs) (N : Nm) (sc : Scope) (tg it : Expr) (f : M (List Dt)) : Prop := ∃ wi, (∀ X, Cxt B N sc X → PI X tg it wi) ∧ SemI B.W wi f
section
variable {W : Wd} {G H G1 H1 G2 H2 : Hp} {σ σ1 σ2 : L2.St} {env env1 env2 : DEnv} {fp fp1 fp2 : FP} {D : Ends}
theorem Post.after (a : Aft W G σ H env fp G1 σ1 H1 env1 fp1) : ∀ {o : Out}, Post W G σ H env fp D o → Post W G1 σ1 H1 env1 fp1 D o
  | .nx e, k => fun G' σ' H' fp' b => k _ _ _ _ (a.trans b)
  | .bk e, k => fun G' σ' H' fp' b => k _ _ _ _ (a.trans b)
  | .ct e, k => fun G' σ' H' fp' b => k _ _ _ _ (a.trans b)
  | .rt v e, k => fun u as G' σ' H' fp' b o n => k u as _ _ _ _ (a.trans b) o (a.new n)
def fpSet (fp : FP) (i : Nat) (as : List Addr) : FP := fun j => if j = i then as else fp j
theorem fpSet_in {fp : FP} {i j : Nat} {as : List Addr} {a : Addr} (h : a ∈ fpSet fp i as j) : (j = i ∧ a ∈ as) ∨ (j ≠ i ∧ a ∈ fp j) := by
  unfold fpSet at h
  split at h
  · rename_i e; exact .inl ⟨e, h⟩
  · rename_i n; exact .inr ⟨n, h⟩
theorem StR.put (S : StR W G σ H env fp) {i : Nat} {s : Sl} {v : V} {as : List Addr} (hi : i < env.length) (h : SlR W G H (some v) s as) (nd : as.Nodup) (n : ∀ a ∈ as, G a = none ∧ ∀ j, a ∉ fp j) :
    StR W G (σ.set i (some v)) H (env.set i s) (fpSet fp i as) where
  len := by rw [List.length_set, List.length_set]; exact S.len
  sl := fun j o s' h1 h2 => by
    by_cases hj : i = j
    · subst hj
      rw [List.getElem?_set_self hi] at h2
      rw [List.getElem?_set_self (by rw [S.len]; exact hi)] at h1
      cases h1; cases h2
      have : fpSet fp i as i = as := if_pos rfl
      rw [this]
      exact h
    · rw [List.getElem?_set_ne hj] at h1 h2
      have : fpSet fp i as j = fp j := if_neg fun z => hj z.symm
      rw [this]
      exact S.sl j o s' h1 h2
  out := fun j hj => by
    rw [List.length_set] at hj
    unfold fpSet
    split
    · omega
    · exact S.out j hj
  nd := fun j => by
    unfold fpSet
    split
    · exact nd
    · exact S.nd j
  dj := fun j k a h1 h2 => by
    rcases fpSet_in h1 with ⟨e1, m1⟩ | ⟨n1, m1⟩
    · rcases fpSet_in h2 with ⟨e2, m2⟩ | ⟨n2, m2⟩
      · rw [e1, e2]
      · exact absurd m2 ((n a m1).2 k)
    · rcases fpSet_in h2 with ⟨e2, m2⟩ | ⟨n2, m2⟩
      · exact absurd m1 ((n a m2).2 j)
      · exact S.dj j k a m1 m2
  fr := fun j a h => by
    rcases fpSet_in h with ⟨e1, m1⟩ | ⟨n1, m1⟩
    · exact (n a m1).1
    · exact S.fr j a m1
  same := S.same
def mkSl : Vl → Sl
  | .d x => .d x
  | .l xs => .w (.l xs)
  | .o c xs => .w (.o c xs)
  | .dc kvs => .w (.dc kvs)
theorem mkSl_ok {u : V} {v : Vl} {as : List Addr} (o : Own W G H u v as) : SlR W G H (some u) (mkSl v) as := by
  cases o with
  | d r => exact .d r
  | l h r => exact .w (.l h r)
  | o h l r => exact .w (.o h l r)
  | dc h l r => exact .w (.dc h l r)
theorem mkSl_no (v : Vl) (x : Vl) : mkSl v ≠ .pm x := by cases v <;> simp [mkSl]
/-- a slot that is not the caller's -/
def stAt (i : Nat) (s : Sl) (env : DEnv) : Option DEnv := match env[i]? with
  | some (.pm _) => none
  | none => none
  | some _ => some (env.set i s)
theorem stAt_some {i : Nat} {s : Sl} {env env' : DEnv} (h : stAt i s env = some env') : i < env.length ∧ (∀ x : Vl, env[i]? ≠ some (.pm x)) ∧ env' = env.set i s := by
  unfold stAt at h
  split at h
  · cases h
  · cases h
  · rename_i q h1 h2
    cases h
    exact ⟨(List.getElem?_eq_some_iff.mp h2).1, fun x hx => by rw [h2] at hx; cases hx; exact h1 _ rfl, rfl⟩
theorem Aft.put (a : Aft W G σ H env fp G1 σ1 H1 env1 fp1) {u : V} {v : Vl} {as : List Addr} (o : Own W G1 H1 u v as) (n : New env fp H G1 fp1 as) {i : Nat} {e2 : DEnv} (h : stAt i (mkSl v) env1 = some e2) :
    Aft W G σ H env fp G1 (σ1.set i (some u)) H1 e2 (fpSet fp1 i as) := by
  obtain ⟨hi, np, rfl⟩ := stAt_some h
  refine ⟨a.st.put hi (mkSl_ok o) n.1 fun x hx => ⟨(n.2 x hx).1, (n.2 x hx).2.2⟩, a.fr, fun j x hx => ?_, a.pk.trans (PmK.store np)⟩
  rcases fpSet_in hx with ⟨e1, m1⟩ | ⟨n1, m1⟩
  · subst e1
    rcases (n.2 x m1).2.1 with ⟨l, hl, cl⟩ | q
    · exact .inl ⟨l, hl, .inl cl⟩
    · exact .inr q
  · rcases a.sub j x m1 with ⟨l, hl, cl⟩ | q
    · exact .inl ⟨l, hl, cl.imp_right fun cl => cl.trans (cls_set_ne n1.symm).symm⟩
    · exact .inr q
end
def sNext : SV := fun e => some (.nx e)
def sSeq (f g : SV) : SV := fun e => match f e with
  | some (.nx e1) => g e1
  | r => r
section
variable {B : Bs} {N : Nm} {sc : Scope} {st : Stmt} {sts : List Stmt} {f g : SV} {pos : Pos} {e a b : Expr}
theorem dss_nil : DSs B N sc [] sNext := ⟨_, fun _ _ => pss_nil, fun G σ H env fp o D S hf k => by cases hf; exact k G σ H fp (Aft.refl S)⟩
theorem dss_cons (h : DS B N sc st f) (h2 : DSs B N sc sts g) : DSs B N sc (st :: sts) (sSeq f g) := by
  obtain ⟨t, p, r⟩ := h
  obtain ⟨t2, p2, r2⟩ := h2
  refine ⟨_, fun X c => pss_cons (p X c) (p2 X c), fun G σ H env fp o D S hf k => ?_⟩
  unfold sSeq at hf
  split at hf
  · rename_i e1 h1
    exact r G σ H env fp _ _ S h1 fun G' σ' H' fp' a1 => r2 G' σ' H' e1 fp' o D a1.st hf (k.after a1)
  · rename_i h1
    refine r G σ H env fp o _ S hf ?_
    cases o with
    | nx e1 => exact absurd hf (h1 e1)
    | bk e1 => exact k
    | ct e1 => exact k
    | rt v e1 => exact k
theorem dss_one (h : DS B N sc st f) : DSs B N sc [st] f := by
  obtain ⟨t, p, r⟩ := h
  exact ⟨t, fun X c => pss_one (p X c), r⟩
theorem ds_pass : DS B N sc (.Pass pos) sNext := ⟨_, fun _ _ => ps_pass, fun G σ H env fp o D S hf k => by cases hf; exact k G σ H fp (Aft.refl S)⟩
def sBrk : SV := fun e => some (.bk e)
def sCont : SV := fun e => some (.ct e)
theorem ds_break : DS B N sc (.Break pos) sBrk := ⟨_, fun _ _ => ps_break, fun G σ H env fp o D S hf k => by cases hf; exact k G σ H fp (Aft.refl S)⟩
theorem ds_continue : DS B N sc (.Continue pos) sCont := ⟨_, fun _ _ => ps_continue, fun G σ H env fp o D S hf k => by cases hf; exact k G σ H fp (Aft.refl S)⟩
/-- what is never come to (a raise) -/
def sNever : SV := fun _ => none
theorem ds_never : DS B N sc st sNever := ⟨_, fun _ _ => ps_never, fun G σ H env fp o D S hf k => by cases hf⟩
theorem dss_never : DSs B N sc sts sNever := ⟨_, fun _ _ => pss_never, fun G σ H env fp o D S hf k => by cases hf⟩
theorem ds_doc {x j pos pos'} : DS B N sc (.Expr (.Constant (.str x) j pos) pos') sNext := ⟨_, fun _ _ => ps_doc, fun G σ H env fp o D S hf k => by cases hf; exact k G σ H fp (Aft.refl S)⟩
def sRet (f : M Vl) : SV := fun e => match f e with
  | none => none
  | some (v, e1) => some (.rt v e1)
theorem ds_ret {f : M Vl} (h : DE B N sc e f) : DS B N sc (.Return (some e) pos) (sRet f) := by
  obtain ⟨t, p, r⟩ := h
  refine ⟨_, fun X c => ps_ret (p X c), fun G σ H env fp o D S hf k => ?_⟩
  unfold sRet at hf
  split at hf
  · cases hf
  · rename_i v e1 h1
    cases hf
    exact r G σ H env fp v e1 _ S h1 fun u as G' H' fp' a o n => k u as G' σ H' fp' a o n
def sRetN : SV := fun e => some (.rt (.d .non) e)
theorem ds_retN : DS B N sc (.Return none pos) sRetN := ⟨_, fun _ _ => ps_retN, fun G σ H env fp o D S hf k => by
  cases hf
  exact k .non [] G σ H fp (Aft.refl S) (.d .non) ⟨List.nodup_nil, fun _ h => nomatch h⟩⟩
def sExpr (f : M Vl) : SV := fun e => match f e with
  | none => none
  | some (_, e1) => some (.nx e1)
theorem ds_expr {f : M Vl} (h : DE B N sc e f) (hs : ∀ X : Cx, swapsWith e none pos.line X.env = pure false := by intro _; rfl) : DS B N sc (.Expr e pos) (sExpr f) := by
  obtain ⟨t, p, r⟩ := h
  refine ⟨_, fun X c => ps_expr (p X c) (hs X), fun G σ H env fp o D S hf k => ?_⟩
  unfold sExpr at hf
  split at hf
  · cases hf
  · rename_i v e1 h1
    cases hf
    exact r G σ H env fp v e1 _ S h1 fun u as G' H' fp' a o n => k G' σ H' fp' a
def sIf (c : M Bool) (f g : SV) : SV := fun e => match c e with
  | none => none
  | some (true, e1) => f e1
  | some (false, e1) => g e1
theorem ds_if {c : Expr} {fc : M Bool} {xs ys : List Stmt} (hc : DT B N sc c fc) (h : DSs B N sc xs f) (h2 : DSs B N sc ys g) : DS B N sc (.If c xs ys pos) (sIf fc f g) := by
  obtain ⟨tc, pc, rc⟩ := hc
  obtain ⟨t, p, r⟩ := h
  obtain ⟨t2, p2, r2⟩ := h2
  refine ⟨_, fun X c => ps_if (pc X c) (p X c) (p2 X c), fun G σ H env fp o D S hf k => ?_⟩
  unfold sIf at hf
  split at hf
  · cases hf
  · rename_i e1 h1
    exact rc G σ H env fp true e1 _ S h1 fun G' H' fp' a => iteT (r G' σ H' e1 fp' o D a.st hf (k.after a))
  · rename_i e1 h1
    exact rc G σ H env fp false e1 _ S h1 fun G' H' fp' a => iteF (r2 G' σ H' e1 fp' o D a.st hf (k.after a))
/-- name = value -/
def sSet (i : Nat) (f : M Vl) : SV := fun e => match f e with
  | none => none
  | some (v, e1) => (stAt i (mkSl v) e1).map .nx
theorem SemE.set {t : TE} {f : M Vl} {W : Wd} (r : SemE W t f) (i : Nat) : SemS W (tAsg t (gName i)) (sSet i f) := fun G σ H env fp o D S hf k => by
  unfold sSet at hf
  split at hf
  · cases hf
  · rename_i v e1 h1
    simp only [Option.map_eq_some_iff] at hf
    obtain ⟨e2, h2, rfl⟩ := hf
    exact r G σ H env fp v e1 _ S h1 fun u as G' H' fp' a o n => k G' _ H' _ (a.put o n h2)
/-- a name that may be stored -/
def LocN (N : Nm) (sc : Scope) (x : Str) : Prop := sc.names.lookup x = some .local ∨ (sc.names.lookup x = some .cell ∧ x ∈ N.st)
theorem Cxt.loc {X : Cx} (c : Cxt B N sc X) {x : Str} (h : LocN N sc x) : Loc X.env.scope x ∧ (X.fn x = true ∨ X.env.scope.names.lookup x = some .local) := by
  rw [c.scope]
  rcases h with h | h
  · exact ⟨.inl h, .inr h⟩
  · exact ⟨.inr h.1, .inl (c.fn x h.2)⟩
theorem ds_set (i : Nat) {x : Str} {f : M Vl} {pos' : Pos} (h : DE B N sc e f) (hi : N.ns[i]? = some x := by rfl) (hx : LocN N sc x := by first | exact Or.inl rfl | exact Or.inr ⟨rfl, by decide⟩)
    (hs : ∀ X : Cx, swapsWith e (some (.Name x pos')) pos.line X.env = pure false := by intro _; rfl) : DS B N sc (.Assign [.Name x pos'] e pos) (sSet i f) := by
  obtain ⟨t, p, r⟩ := h
  exact ⟨_, fun X c => ps_set (by rw [c.names]; exact c.nd) (by rw [c.names]; exact hi) (c.loc hx).1 (p X c) (hs X) (c.loc hx).2, r.set i⟩
def gNm (i : Nat) : Dt → DEnv → Option DEnv := fun x e => stAt i (.d x) e
theorem dg_name (i : Nat) {x : Str} (hi : N.ns[i]? = some x := by rfl) (hx : LocN N sc x := by first | exact Or.inl rfl | exact Or.inr ⟨rfl, by decide⟩) : DG B N sc (.Name x pos) [i] (gNm i) := by
  refine ⟨_, fun X c => pg_name (by rw [c.names]; exact c.nd) (by rw [c.names]; exact hi) (c.loc hx).1 (c.loc hx).2, fun G σ H env fp u x env' Q S r hg k => ?_⟩
  have := (Aft.refl S).put (i := i) (v := .d x) (as := []) (.d r) ⟨List.nodup_nil, fun _ h => nomatch h⟩ hg
  exact k _ _ this ⟨by rw [List.length_set], fun j hj => List.getElem?_set_ne fun z => hj (by simp [z])⟩
def gNil' : List Dt → DEnv → Option DEnv := fun xs e => match xs with
  | [] => some e
  | _ => none
def gCons' (g : Dt → DEnv → Option DEnv) (h : List Dt → DEnv → Option DEnv) : List Dt → DEnv → Option DEnv := fun xs e => match xs with
  | [] => none
  | x :: r => match g x e with
    | none => none
    | some e1 => h r e1
theorem dgs_nil : DGs B N sc [] [] gNil' := ⟨_, fun _ _ => pgs_nil, fun G σ H env fp us xs env' Q S r hg k => by
  cases r with
  | nil => cases hg; exact ⟨rfl, k σ fp (Aft.refl S) ⟨rfl, fun _ _ => rfl⟩⟩
  | cons _ _ => cases hg⟩
theorem dgs_cons {es : List Expr} {js ks : List Nat} {g : Dt → DEnv → Option DEnv} {h : List Dt → DEnv → Option DEnv} (h1 : DG B N sc e js g) (h2 : DGs B N sc es ks h)
    (hs : ∀ X : Cx, (assignEach (e :: es) X.env).map (·.2) = assign e X.env :: (assignEach es X.env).map (·.2) := by intro _; rfl) : DGs B N sc (e :: es) (js ++ ks) (gCons' g h) := by
  obtain ⟨t, p, r⟩ := h1
  obtain ⟨t2, p2, r2⟩ := h2
  refine ⟨_, fun X c => pgs_cons (p X c) (p2 X c) (hs X), fun G σ H env fp us xs env' Q S rs hg k => ?_⟩
  cases rs with
  | nil => cases hg
  | cons rx rr =>
    unfold gCons' at hg
    split at hg
    · rename_i q; cases q
    · rename_i x xr q
      cases q
      split at hg
      · cases hg
      · rename_i e1 h1
        refine ⟨_, _, rfl, r G σ H env fp _ _ e1 _ S rx h1 fun σ1 fp1 a1 z1 => ?_⟩
        exact r2 G σ1 H e1 fp1 _ _ env' _ a1.st rr hg fun σ2 fp2 a2 z2 => k σ2 fp2 (a1.trans a2) ⟨z2.len.trans z1.len, fun j hj =>
          (z2.off j fun m => hj (List.mem_append_right _ m)).trans (z1.off j fun m => hj (List.mem_append_left _ m))⟩
def gTp (h : List Dt → DEnv → Option DEnv) : Dt → DEnv → Option DEnv := fun x e => match x with
  | .tup xs => h xs e
  | _ => none
theorem dg_tup {es : List Expr} {kt : Nat} {js : List Nat} {h : List Dt → DEnv → Option DEnv} (n : Nat) (h1 : DGs B N sc es js h) (hl : ∀ xs e e', h xs e = some e' → xs.length = n)
    (hn : ∀ X : Cx, (assignEach es X.env).length = n := by intro _; rfl) (hst : ∀ X : Cx, (assignEach es X.env).findIdx? (·.1) = none := by intro _; rfl) : DG B N sc (.Tuple es kt pos) js (gTp h) := by
  obtain ⟨t, p, r⟩ := h1
  refine ⟨gTup B.W.K n t, fun X c => c.K ▸ pg_tup c.calm (p X c) (hn X) (hst X), fun G σ H env fp u x env' Q S rx hg k => ?_⟩
  unfold gTp at hg
  split at hg
  · rename_i xs
    cases rx with
    | tup hq rs => exact ⟨_, _, rfl, sqt_mono S.same hq, by rw [rs.length]; exact hl _ _ _ hg, r G σ H env fp _ _ env' Q S rs hg k⟩
  · cases hg
theorem gl_nil : ∀ xs e e', gNil' xs e = some e' → xs.length = 0 := fun xs e e' h => by
  cases xs with
  | nil => rfl
  | cons x r => cases h
theorem gl_cons {g : Dt → DEnv → Option DEnv} {h : List Dt → DEnv → Option DEnv} {n : Nat} (hh : ∀ xs e e', h xs e = some e' → xs.length = n) : ∀ xs e e', gCons' g h xs e = some e' → xs.length = n + 1 := fun xs e e' q => by
  cases xs with
  | nil => cases q
  | cons x r =>
    simp only [gCons'] at q
    split at q
    · cases q
    · rename_i e1 _
      rw [List.length_cons, hh r e1 e' q]
/-- target = value, the value as data -/
def sTg (g : Dt → DEnv → Option DEnv) (f : M Dt) : SV := fun e => match f e with
  | none => none
  | some (x, e1) => (g x e1).map .nx
theorem ds_tg {tg : Expr} {f : M Dt} {js : List Nat} {g : Dt → DEnv → Option DEnv} (h : DD B N sc e f) (hg : DG B N sc tg js g) (hs : ∀ X : Cx, swapsWithSole [tg] e pos.line X.env = pure false := by intro _; rfl)
    (hw : ∀ X : Cx, swappedStores [tg] e X.env = pure none := by intro _; rfl) (h1 : ∀ X : Cx, (assignEach [tg] X.env).map (·.2) = [assign tg X.env] := by intro _; rfl) : DS B N sc (.Assign [tg] e pos) (sTg g f) := by
  obtain ⟨t, p, r⟩ := h
  obtain ⟨t2, p2, r2⟩ := hg
  refine ⟨_, fun X c => ps_asg (p X c) (p2 X c) (hs X) (hw X) (h1 X), fun G σ H env fp o D S hf k => ?_⟩
  unfold sTg at hf
  split at hf
  · cases hf
  · rename_i x e1 h1
    simp only [Option.map_eq_some_iff] at hf
    obtain ⟨e2, h2, rfl⟩ := hf
    exact r G σ H env fp x e1 _ S h1 fun u G' H' fp' a rx => r2 G' σ H' e1 fp' u x e2 _ a.st rx h2 fun σ' fp2 a2 _ => k _ _ _ _ (a.trans a2)
end
def whileF : Nat → M Bool → SV → SV
  | 0, _, _ => fun _ => none
  | n + 1, c, b => fun env => match c env with
    | none => none
    | some (false, e) => some (.nx e)
    | some (true, e) => match b e with
      | none => none
      | some (.nx e1) => whileF n c b e1
      | some (.ct e1) => whileF n c b e1
      | some (.bk e1) => some (.nx e1)
      | some (.rt v e1) => some (.rt v e1)
section
variable {B : Bs} {N : Nm} {sc : Scope} {f g : SV} {pos : Pos} {e a b : Expr}
theorem ds_while {c : Expr} {fc : M Bool} {body : List Stmt} (n : Nat) (hc : DT B N sc c fc) (hb : DSs B N sc body f) : DS B N sc (.While c body [] pos) (whileF n fc f) := by
  obtain ⟨tc, pc, rc⟩ := hc
  obtain ⟨t, p, r⟩ := hb
  refine ⟨_, fun X c => ps_while (by rw [c.xe]; exact PassesOwn.never) (pc X c) (p X c), fun G σ H env fp o D S hf k => ?_⟩
  refine ⟨fun m σ' H' => ∃ G' env' fp', Aft B.W G σ H env fp G' σ' H' env' fp' ∧ whileF m fc f env' = some o, ⟨n, G, env, fp, Aft.refl S, hf⟩, ?_⟩
  rintro m σ1 H1 ⟨G1, env1, fp1, a1, h1⟩
  cases m with
  | zero => cases h1
  | succ m =>
    simp only [whileF] at h1
    split at h1
    · cases h1
    · rename_i e2 h2
      cases h1
      exact rc G1 σ1 H1 env1 fp1 false e2 _ a1.st h2 fun G2 H2 fp2 a2 => iteF (k _ _ _ _ (a1.trans a2))
    · rename_i e2 h2
      refine rc G1 σ1 H1 env1 fp1 true e2 _ a1.st h2 fun G2 H2 fp2 a2 => iteT ?_
      have a12 := a1.trans a2
      refine ⟨fun σ' H' => ∃ m', m' < m + 1 ∧ ∃ G' env' fp', Aft B.W G σ H env fp G' σ' H' env' fp' ∧ whileF m' fc f env' = some o, fun _ _ q => q, ?_⟩
      cases hb : f e2 with
      | none => rw [hb] at h1; cases h1
      | some ob =>
        rw [hb] at h1
        refine r G2 σ1 H2 e2 fp2 ob _ a12.st hb ?_
        cases ob with
        | nx e3 => exact fun G' σ' H' fp' a3 => ⟨m, Nat.lt_succ_self _, G', e3, fp', a12.trans a3, h1⟩
        | ct e3 => exact fun G' σ' H' fp' a3 => ⟨m, Nat.lt_succ_self _, G', e3, fp', a12.trans a3, h1⟩
        | bk e3 => cases h1; exact fun G' σ' H' fp' a3 => k _ _ _ _ (a12.trans a3)
        | rt v e3 => cases h1; exact fun u as G' σ' H' fp' a3 o n => k u as _ _ _ _ (a12.trans a3) o (a12.new n)
end
def forF (g : Dt → DEnv → Option DEnv) (b : SV) : List Dt → SV
  | [] => fun e => some (.nx e)
  | x :: xs => fun e => match g x e with
    | none => none
    | some e1 => match b e1 with
      | none => none
      | some (.nx e2) => forF g b xs e2
      | some (.ct e2) => forF g b xs e2
      | some (.bk e2) => some (.nx e2)
      | some (.rt v e2) => some (.rt v e2)
def sFor (it : M (List Dt)) (g : Dt → DEnv → Option DEnv) (b : SV) : SV := fun e => match it e with
  | none => none
  | some (xs, e1) => forF g b xs e1
section
variable {B : Bs} {N : Nm} {sc : Scope} {f : SV} {pos : Pos} {e a b : Expr}
theorem ds_for {tg iter : Expr} {body : List Stmt} {it : M (List Dt)} {js : List Nat} {g : Dt → DEnv → Option DEnv} (hi : DI B N sc tg iter it) (hg : DG B N sc tg js g) (hb : DSs B N sc body f)
    (hs : ∀ (X : Cx) x, foldedSetIterable iter X.env x = pure x := by intro _ _; rfl) : DS B N sc (.For tg iter body [] pos) (sFor it g f) := by
  obtain ⟨wi, pi, ri⟩ := hi
  obtain ⟨tgt, pg, rg⟩ := hg
  obtain ⟨t, p, r⟩ := hb
  refine ⟨_, fun X c => ps_for (by rw [c.xe]; exact PassesOwn.never) c.calm (pi X c) (pg X c) (p X c) (hs X), fun G σ H env fp o D S hf k => ?_⟩
  unfold sFor at hf
  split at hf
  · cases hf
  · rename_i xs e1 h1
    refine ri G σ H env fp xs e1 _ S h1 fun J G1 H1 fp1 a1 hJ => ?_
    refine ⟨fun i m σ' H' => ∃ G' env' fp', Aft B.W G σ H env fp G' σ' H' env' fp' ∧ Same G1 G' ∧ forF g f (xs.drop i) env' = some o ∧ m = xs.length - i ∧ i ≤ xs.length, ⟨xs.length, G1, e1, fp1, a1, Same.refl _, hf, rfl, Nat.zero_le _⟩, ?_⟩
    rintro i m σ2 H2 ⟨G2, env2, fp2, a2, sm, h2, rfl, hi⟩
    have hj := hJ G2 H2 sm a2.st.same i
    by_cases hlt : i < xs.length
    · have ex : xs[i]? = some xs[i] := List.getElem?_eq_getElem hlt
      rw [List.drop_eq_getElem_cons hlt] at h2
      simp only [forF] at h2
      obtain ⟨go, yl⟩ := hj.1 _ ex
      refine .inr ⟨go, fun σ' H' => ∃ m', m' < xs.length - i ∧ ∃ G' env' fp', Aft B.W G σ H env fp G' σ' H' env' fp' ∧ Same G1 G' ∧ forF g f (xs.drop (i + 1)) env' = some o ∧ m' = xs.length - (i + 1) ∧ i + 1 ≤ xs.length, fun _ _ q => q, fun v H3 hy => ?_⟩
      obtain ⟨G3, f3, s3, r3⟩ := yl v H3 hy
      have a3 := a2.step f3 s3
      cases hg : g xs[i] env2 with
      | none => rw [hg] at h2; cases h2
      | some e3 =>
        rw [hg] at h2
        refine rg G3 σ2 H3 env2 fp2 v _ e3 _ a3.st r3 hg fun σ4 fp4 a4 _ => ?_
        have a34 := a3.trans a4
        have sm3 : Same G1 G3 := sm.trans f3.gsub
        cases hb : f e3 with
        | none => simp only [hb] at h2; cases h2
        | some ob =>
          simp only [hb] at h2
          refine r G3 σ4 H3 e3 fp4 ob _ a4.st hb ?_
          cases ob with
          | nx e5 => exact fun G' σ' H' fp' a5 => ⟨_, by omega, G', e5, fp', a34.trans a5, sm3.trans a5.fr.gsub, h2, rfl, hlt⟩
          | ct e5 => exact fun G' σ' H' fp' a5 => ⟨_, by omega, G', e5, fp', a34.trans a5, sm3.trans a5.fr.gsub, h2, rfl, hlt⟩
          | bk e5 => cases h2; exact fun G' σ' H' fp' a5 => k _ _ _ _ (a34.trans a5)
          | rt v e5 => cases h2; exact fun u as G' σ' H' fp' a5 o n => k u as _ _ _ _ (a34.trans a5) o (a34.new n)
    · have ex : xs[i]? = none := List.getElem?_eq_none (Nat.le_of_not_lt hlt)
      rw [List.drop_eq_nil_of_le (Nat.le_of_not_lt hlt)] at h2
      simp only [forF] at h2
      cases h2
      exact .inl ⟨hj.2 ex, k _ _ _ _ a2⟩
def iSeq (f : M Dt) : M (List Dt) := bnd f fun x => match x with
  | .lst xs => ret xs
  | .frl xs => ret xs
  | _ => fun _ => none
def iTp (f : M Dt) : M (List Dt) := bnd f fun x => match x with
  | .tup xs => ret xs
  | _ => fun _ => none
theorem itl_ok {W : Wd} {G : Hp} {a : Addr} {vs : List V} {xs : List Dt} (h : ∀ G2 H2, Same G G2 → Same G2 H2 → SqL W.K H2 a vs) (r : Reps W G vs xs) : ItR W G (Itl W.K a) xs := fun G2 H2 s1 s2 i => by
  have q := h G2 H2 s1 s2
  refine ⟨fun x hx => ?_, fun hx => ⟨vs, q, ?_⟩⟩
  · obtain ⟨v, hv, rv⟩ := r.get hx
    refine ⟨⟨vs, v, q, hv⟩, fun u H3 hy => ?_⟩
    obtain ⟨rfl, hy⟩ := hy
    have e := hy vs q
    rw [hv] at e
    cases e
    exact ⟨G2, Fr.refl, s2, rv.mono s1⟩
  · rw [r.length]
    exact List.getElem?_eq_none_iff.mp hx
theorem itt_ok {W : Wd} {G : Hp} {a : Addr} {vs : List V} {xs : List Dt} (h : ∀ G2 H2, Same G G2 → Same G2 H2 → SqT W.K H2 a vs) (r : Reps W G vs xs) : ItR W G (Itt W.K a) xs := fun G2 H2 s1 s2 i => by
  have q := h G2 H2 s1 s2
  refine ⟨fun x hx => ?_, fun hx => ⟨vs, q, ?_⟩⟩
  · obtain ⟨v, hv, rv⟩ := r.get hx
    refine ⟨⟨vs, v, q, hv⟩, fun u H3 hy => ?_⟩
    obtain ⟨rfl, hy⟩ := hy
    have e := hy vs q
    rw [hv] at e
    cases e
    exact ⟨G2, Fr.refl, s2, rv.mono s1⟩
  · rw [r.length]
    exact List.getElem?_eq_none_iff.mp hx
theorem di_seq {tg l : Expr} {f : M Dt} (h : DD B N sc l f) : DI B N sc tg l (iSeq f) := by
  obtain ⟨t, p, r⟩ := h
  refine ⟨iList B.W.K t, fun X c => c.K ▸ pi_list (p X c), fun G σ H env fp xs env' R S hf k => ?_⟩
  obtain ⟨x, e1, h1, h2⟩ := bnd_some hf
  refine r G σ H env fp x e1 _ S h1 fun u G1 H1 fp1 a1 rx => ?_
  split at h2
  · cases h2
    cases rx with
    | lst hq rs => exact ⟨_, rfl, ⟨_, SqL.of (a1.st.same _ _ hq)⟩, k _ _ _ _ a1 (itl_ok (fun G2 H2 s1 s2 => SqL.of (s2 _ _ (s1 _ _ hq))) rs)⟩
  · cases h2
    cases rx with
    | frl hq rs => exact ⟨_, rfl, ⟨_, a1.st.same.seq hq⟩, k _ _ _ _ a1 (itl_ok (fun G2 H2 s1 s2 => s2.seq (s1.seq hq)) rs)⟩
  · cases h2
theorem di_tup {tg l : Expr} {f : M Dt} (h : DD B N sc l f) : DI B N sc tg l (iTp f) := by
  obtain ⟨t, p, r⟩ := h
  refine ⟨iTup B.W.K t, fun X c => c.K ▸ pi_tup (p X c), fun G σ H env fp xs env' R S hf k => ?_⟩
  obtain ⟨x, e1, h1, h2⟩ := bnd_some hf
  refine r G σ H env fp x e1 _ S h1 fun u G1 H1 fp1 a1 rx => ?_
  split at h2
  · cases h2
    cases rx with
    | tup hq rs => exact ⟨_, rfl, ⟨_, sqt_mono a1.st.same hq⟩, k _ _ _ _ a1 (itt_ok (fun G2 H2 s1 s2 => sqt_mono s2 (sqt_mono s1 hq)) rs)⟩
  · cases h2
/-- a global name of the def that the module has not bound: a built-in -/
def intL (lo : Int) (n : Nat) : List Dt := (List.range n).map fun (i : Nat) => .int (lo + (i : Int))
theorem intL_get {lo : Int} {n i : Nat} : (intL lo n)[i]? = if i < n then some (.int (lo + (i : Int))) else none := by
  unfold intL
  rw [List.getElem?_map]
  by_cases h : i < n
  · rw [if_pos h, List.getElem?_range h]; rfl
  · rw [if_neg h, List.getElem?_eq_none (by simpa using h)]; rfl
theorem itr_ok {W : Wd} {G : Hp} (lo : Int) (n : Nat) : ItR W G (Itr lo n) (intL lo n) := fun G2 H2 s1 s2 i => by
  refine ⟨fun x hx => ?_, fun hx => ?_⟩
  · rw [intL_get] at hx
    split at hx
    · rename_i h
      cases hx
      refine ⟨h, fun v H3 hy => ?_⟩
      obtain ⟨rfl, rfl⟩ := hy
      exact ⟨G2, Fr.refl, s2, .int _⟩
    · cases hx
  · rw [intL_get] at hx
    split at hx
    · cases hx
    · rename_i h; exact Nat.le_of_not_lt h
def i62 (j : Int) : Bool := decide (-(2 ^ 62) ≤ j) && decide (j < 2 ^ 62)
theorem i62_ok {j : Int} (h : i62 j = true) : -(2 ^ 62) ≤ j ∧ j < 2 ^ 62 := by
  unfold i62 at h
  rw [Bool.and_eq_true] at h
  exact ⟨of_decide_eq_true h.1, of_decide_eq_true h.2⟩
def iRg1 (f : M (List Dt)) : M (List Dt) := bnd f fun x => match x with
  | [.int j] => if i62 j = true then ret (intL 0 j.toNat) else fun _ => none
  | _ => fun _ => none
def iRg2 (f : M (List Dt)) : M (List Dt) := bnd f fun x => match x with
  | [.int i, .int j] => if (i62 i && i62 j) = true then ret (intL i (j - i).toNat) else fun _ => none
  | _ => fun _ => none
theorem Cxt.gl {X : Cx} (c : Cxt B N sc X) {x : Str} (h : sc.names.lookup x = some .globalImplicit) : Gl X x := by
  show X.env.scope.names.lookup x = some .globalImplicit
  rw [c.scope]; exact h
theorem di_range1 {tg : Expr} {p : Pos} {f : M (List Dt)} (h : DA B N sc [a] f) (hm : B.mg "range" = none) (hg : sc.names.lookup ("range" : Str) = some .globalImplicit := by rfl) (hs : ∀ X : Cx, starEach [a] X.env = [(false, eval a X.env)] := by intro _; rfl) :
    DI B N sc tg (.Call (.Name "range" p) [a] [] pos) (iRg1 f) := by
  obtain ⟨t, pt, r⟩ := h
  refine ⟨_, fun X c => pi_range1 (c.gl hg) (by rw [c.mg]; exact hm) (pt X c) (hs X), fun G σ H env fp xs env' R S hf k => ?_⟩
  obtain ⟨x, e1, h1, h2⟩ := bnd_some hf
  refine r G σ H env fp x e1 _ S h1 fun us G1 H1 fp1 a1 rx => ?_
  split at h2
  · split at h2
    · rename_i j hj
      cases h2
      cases rx with
      | cons ru rr =>
        cases ru; cases rr
        have b := i62_ok hj
        refine ⟨j, rfl, b.1, b.2, k _ _ _ _ a1 ?_⟩
        exact itr_ok 0 j.toNat
    · cases h2
  · cases h2
theorem di_range2 {tg : Expr} {p : Pos} {f : M (List Dt)} (h : DA B N sc [a, b] f) (hm : B.mg "range" = none) (hg : sc.names.lookup ("range" : Str) = some .globalImplicit := by rfl) (hs : ∀ X : Cx, starEach [a, b] X.env = [(false, eval a X.env), (false, eval b X.env)] := by intro _; rfl)
    (hs2 : ∀ X : Cx, starEach [b] X.env = [(false, eval b X.env)] := by intro _; rfl) :
    DI B N sc tg (.Call (.Name "range" p) [a, b] [] pos) (iRg2 f) := by
  obtain ⟨t, pt, r⟩ := h
  refine ⟨_, fun X c => pi_range2 (c.gl hg) (by rw [c.mg]; exact hm) (pt X c) (hs X) (hs2 X), fun G σ H env fp xs env' R S hf k => ?_⟩
  obtain ⟨x, e1, h1, h2⟩ := bnd_some hf
  refine r G σ H env fp x e1 _ S h1 fun us G1 H1 fp1 a1 rx => ?_
  split at h2
  · split at h2
    · rename_i i j hj
      cases h2
      cases rx with
      | cons ru rr =>
        cases ru
        cases rr with
        | cons rv rr =>
        cases rv; cases rr
        rw [Bool.and_eq_true] at hj
        have b1 := i62_ok hj.1
        have b2 := i62_ok hj.2
        refine ⟨i, j, rfl, ⟨b1.1, b1.2, b2.1, b2.2⟩, k _ _ _ _ a1 ?_⟩
        exact itr_ok i (j - i).toNat
    · cases h2
  · cases h2
end
end DL
set_option Elab.async false
set_option linter.all false
set_option maxRecDepth 100000
namespace DL
open PySem L2
def Sl.arg : Sl → Bool
  | .d _ => true
  | .pm _ => true
  | _ => false
abbrev Fn := List Sl → Option (Vl × List Sl)
/-- what the caller's things are behind -/
def backs : List Sl → DEnv → Option (List Sl)
  | [], _ => some []
  | .pm _ :: as, .pm x :: e => (backs as e).map (.pm x :: ·)
  | .d x :: as, _ :: e => (backs as e).map (.d x :: ·)
  | _, _ => none
def fnD (n N : Nat) (b : SV) : Fn := fun as => if as.length = n then (match b (as ++ List.replicate (N - n) .un) with
  | some (.rt v e) => (backs as e).map (v, ·)
  | some (.nx e) => (backs as e).map (.d .non, ·)
  | _ => none) else none
def Fn.app (F : Fn) (ds : List Dt) : Option Vl := (F (ds.map .d)).map (·.1)
def spD (W : Wd) (n : Nat) (F : Fn) : Sp := fun vs H Q _ => ∃ G as fp r as', StR W G (vs.map some) H as fp ∧ as.length = n ∧ (∀ s ∈ as, s.arg = true) ∧ F as = some (r, as') ∧
  ∀ u bs G' H' fp', Fr (FP.In fp) G H G' H' → Own W G' H' u r bs → bs.Nodup → (∀ a ∈ bs, G' a = none ∧ H a = none ∧ ∀ i, a ∉ fp' i) → StR W G' (vs.map some) H' as' fp' → (∀ i a, a ∈ fp' i → a ∈ fp i ∨ H a = none) → Q u H'
theorem backs_len : ∀ {as : List Sl} {e : DEnv} {as' : List Sl}, backs as e = some as' → as'.length = as.length
  | [], _, _, h => by simp [backs] at h; subst h; rfl
  | .pm y :: as, .pm x :: e, as', h => by
    simp only [backs, Option.map_eq_some_iff] at h
    obtain ⟨z, h, rfl⟩ := h
    rw [List.length_cons, List.length_cons, backs_len h]
  | .d x :: as, _ :: e, as', h => by
    simp only [backs, Option.map_eq_some_iff] at h
    obtain ⟨z, h, rfl⟩ := h
    rw [List.length_cons, List.length_cons, backs_len h]
  | .un :: as, e, as', h => by cases e <;> simp [backs] at h
  | .w x :: as, e, as', h => by cases e <;> simp [backs] at h
  | .pm y :: as, [], as', h => by simp [backs] at h
  | .pm y :: as, .un :: e, as', h => by simp [backs] at h
  | .pm y :: as, .d _ :: e, as', h => by simp [backs] at h
  | .pm y :: as, .w _ :: e, as', h => by simp [backs] at h
  | .d x :: as, [], as', h => by simp [backs] at h
theorem backs_at : ∀ {as : List Sl} {e : DEnv} {as' : List Sl} {i : Nat} {s : Sl}, backs as e = some as' → as'[i]? = some s →
    (∃ x y, as[i]? = some (.pm x) ∧ e[i]? = some (.pm y) ∧ s = .pm y) ∨ (∃ x, as[i]? = some (.d x) ∧ s = .d x)
  | [], _, _, i, s, h, hi => by simp [backs] at h; subst h; simp at hi
  | .pm y :: as, .pm x :: e, as', i, s, h, hi => by
    simp only [backs, Option.map_eq_some_iff] at h
    obtain ⟨z, h, rfl⟩ := h
    cases i with
    | zero => simp at hi; exact .inl ⟨y, x, rfl, rfl, hi.symm⟩
    | succ i => simpa using backs_at h (by simpa using hi)
  | .d x :: as, _ :: e, as', i, s, h, hi => by
    simp only [backs, Option.map_eq_some_iff] at h
    obtain ⟨z, h, rfl⟩ := h
    cases i with
    | zero => simp at hi; exact .inr ⟨x, rfl, hi.symm⟩
    | succ i => simpa using backs_at h (by simpa using hi)
  | .un :: as, e, as', i, s, h, hi => by cases e <;> simp [backs] at h
  | .w x :: as, e, as', i, s, h, hi => by cases e <;> simp [backs] at h
  | .pm y :: as, [], as', i, s, h, hi => by simp [backs] at h
  | .pm y :: as, .un :: e, as', i, s, h, hi => by simp [backs] at h
  | .pm y :: as, .d _ :: e, as', i, s, h, hi => by simp [backs] at h
  | .pm y :: as, .w _ :: e, as', i, s, h, hi => by simp [backs] at h
  | .d x :: as, [], as', i, s, h, hi => by simp [backs] at h
section
variable {W : Wd} {G H : Hp}
/-- the slots at the entry of a def -/
theorem StR.start {vs : List V} {as : List Sl} {fp : FP} {N : List Str} (S : StR W G (vs.map some) H as fp) : StR W G (L2.start N vs) H (as ++ List.replicate (N.length - as.length) .un) fp := by
  have hl : vs.length = as.length := by have := S.len; simpa using this
  refine ⟨?_, fun i o s h1 h2 => ?_, fun i hi => S.out i (by rw [List.length_append] at hi; omega), S.nd, S.dj, S.fr, S.same⟩
  · unfold L2.start
    rw [List.length_append, List.length_append, List.length_map, List.length_replicate, List.length_replicate, hl]
  · by_cases hi : i < as.length
    · rw [List.getElem?_append_left hi] at h2
      unfold L2.start at h1
      rw [List.getElem?_append_left (by simpa [hl] using hi)] at h1
      exact S.sl i o s h1 h2
    · have hi' := Nat.le_of_not_lt hi
      rw [List.getElem?_append_right hi'] at h2
      have : s = .un := by
        obtain ⟨hlt, e⟩ := List.getElem?_eq_some_iff.mp h2
        rw [List.getElem_replicate] at e
        exact e.symm
      subst this
      rw [S.out i hi']
      exact .un
def fpPm (as : List Sl) (fp : FP) : FP := fun i => match as[i]? with
  | some (.pm _) => fp i
  | _ => []
theorem fpPm_in {as : List Sl} {fp : FP} {i : Nat} {a : Addr} (h : a ∈ fpPm as fp i) : (∃ x, as[i]? = some (.pm x)) ∧ a ∈ fp i := by
  unfold fpPm at h
  split at h
  · rename_i x e; exact ⟨⟨x, e⟩, h⟩
  · exact nomatch h
theorem fpPm_pm {as : List Sl} {fp : FP} {i : Nat} {x : Vl} (h : as[i]? = some (.pm x)) : fpPm as fp i = fp i := by unfold fpPm; rw [h]
theorem fpPm_no {as : List Sl} {fp : FP} {i : Nat} (h : ∀ x, as[i]? ≠ some (.pm x)) : fpPm as fp i = [] := by
  unfold fpPm
  split
  · rename_i x e; exact absurd e (h x)
  · rfl
theorem slr_d {o : Option V} {x : Dt} {as : List Addr} (h : SlR W G H o (.d x) as) : as = [] := by cases h; rfl
/-- arguments that are data -/
theorem StR.args {us : List V} {ds : List Dt} (s : Same G H) (r : Reps W G us ds) : StR W G (us.map some) H (ds.map .d) (fun _ => []) := by
  refine ⟨by rw [List.length_map, List.length_map, r.length], fun i o sl h1 h2 => ?_, fun _ _ => rfl, fun _ => List.nodup_nil, (fun _ _ _ h => nomatch h), (fun _ _ h => nomatch h), s⟩
  rw [List.getElem?_map] at h1 h2
  cases e : ds[i]? with
  | none => rw [e] at h2; cases h2
  | some x =>
    rw [e] at h2
    cases h2
    obtain ⟨v, hv, rv⟩ := r.get e
    rw [hv] at h1
    cases h1
    exact .d rv
end
section
variable {P : Program} {w : World} {W : Wd} {mg : Str → Option Value} {base : Heap}
theorem fn_data {x qual : Str} {st : Stmt} {f : Addr} {fd : FuncData} {N ps : List Str} {k : Nat} {b : SV} (F : Fun W.K x qual st f fd) (Sc : FnScope N ps (defScope st))
    (h : DSs ⟨P, w, W, mg, base, k⟩ ⟨N, N⟩ (defScope st) (defBody st) b) : FnOk P w W.K mg base CX0 (k + 1) f fd ps (spD W ps.length (fnD ps.length N.length b)) := by
  obtain ⟨t, p, r⟩ := h
  refine F.ok Sc (fun vs H Q E hq => ?_) (fun cdv A outer s H vs Q E hr hq => ⟨t, ?_, ?_⟩)
  · obtain ⟨G, as, fp, rr, as', S, hl, _⟩ := hq
    have := S.len
    rw [List.length_map] at this
    omega
  · exact p _ ⟨rfl, rfl, rfl, rfl, rfl, rfl, Sc.nd, rfl, rfl, hr, fun _ _ => rfl, rfl⟩
  · obtain ⟨G, as, fp, rr, as', S, hl, har, hF, k⟩ := hq
    have hbody : ∃ v e, (b (as ++ List.replicate (N.length - as.length) .un) = some (.rt v e) ∨ (v = .d .non ∧ b (as ++ List.replicate (N.length - as.length) .un) = some (.nx e))) ∧ v = rr ∧ backs as e = some as' := by
      unfold fnD at hF
      rw [if_pos hl, ← hl] at hF
      split at hF
      · rename_i v e he
        simp only [Option.map_eq_some_iff] at hF
        obtain ⟨z, h1, h2⟩ := hF
        cases h2
        exact ⟨_, e, .inl he, rfl, h1⟩
      · rename_i e he
        simp only [Option.map_eq_some_iff] at hF
        obtain ⟨z, h1, h2⟩ := hF
        cases h2
        exact ⟨_, e, .inr ⟨rfl, he⟩, rfl, h1⟩
      · cases hF
    obtain ⟨v, e, he, ev, hb⟩ := hbody
    have S0 := S.start (N := N)
    have fin : ∀ u bs G' σ' H' fp', Aft W G (L2.start N vs) H (as ++ List.replicate (N.length - as.length) .un) fp G' σ' H' e fp' → Own W G' H' u rr bs → New (as ++ List.replicate (N.length - as.length) .un) fp H G' fp' bs → Q u H' := by
      intro u bs G' σ' H' fp' a o n
      have hvl : vs.length = as.length := by have := S.len; simpa using this
      have locs : ∀ j x, x ∈ fp j → cls (as ++ List.replicate (N.length - as.length) .un) j = none → False := fun j x hj cj => by
        by_cases hjl : j < as.length
        · obtain ⟨o', ho', r'⟩ := S.get (List.getElem?_eq_getElem hjl)
          have ha := har _ (List.getElem_mem hjl)
          unfold cls at cj
          rw [List.getElem?_append_left hjl, List.getElem?_eq_getElem hjl] at cj
          cases hs : as[j] with
          | un => rw [hs] at ha; cases ha
          | w x => rw [hs] at ha; cases ha
          | pm x => rw [hs] at cj; cases cj
          | d x =>
            rw [hs] at r'
            rw [slr_d r'] at hj
            exact nomatch hj
        · rw [S.out j (Nat.le_of_not_lt hjl)] at hj
          exact nomatch hj
      refine k u bs G' H' (fpPm as fp') a.fr o n.1 (fun x hx => ⟨(n.2 x hx).1, ?_, fun i hi => (n.2 x hx).2.2 i (fpPm_in hi).2⟩) ?_ (fun i x hx => ?_)
      · rcases (n.2 x hx).2.1 with ⟨j, hj, cj⟩ | q
        · exact (locs j x hj cj).elim
        · exact q
      · refine ⟨by rw [List.length_map, backs_len hb, hvl], fun i o' s h1 h2 => ?_, fun i hi => fpPm_no fun x hx => ?_, fun i => ?_, fun i j x h1 h2 => a.st.dj i j x (fpPm_in h1).2 (fpPm_in h2).2, fun i x hx => a.st.fr i x (fpPm_in hx).2, a.st.same⟩
        · rcases backs_at hb h2 with ⟨x, y, h3, h4, rfl⟩ | ⟨x, h3, rfl⟩
          · rw [fpPm_pm h3]
            have hil : i < as.length := (List.getElem?_eq_some_iff.mp h3).1
            have hk := (a.pk i x (by rw [List.getElem?_append_left hil]; exact h3)).2
            have h5 : (L2.start N vs)[i]? = some o' := by
              unfold L2.start
              rw [List.getElem?_append_left (by simpa [hvl] using hil)]
              exact h1
            exact a.st.sl i o' _ (hk.trans h5) h4
          · rw [fpPm_no fun y hy => by rw [h3] at hy; cases hy]
            have q := S.sl i o' _ h1 h3
            generalize hfi : fp i = as2 at q
            cases q with
            | d r => exact .d (r.mono a.fr.gsub)
        · have : as[i]? = none := List.getElem?_eq_none (by rw [← backs_len hb]; exact hi)
          rw [this] at hx
          cases hx
        · unfold fpPm
          split
          · exact a.st.nd i
          · exact List.nodup_nil
      · obtain ⟨⟨y, hy⟩, hx⟩ := fpPm_in hx
        have hil : i < as.length := (List.getElem?_eq_some_iff.mp hy).1
        obtain ⟨⟨z, hz⟩, _⟩ := a.pk i y (by rw [List.getElem?_append_left hil]; exact hy)
        rcases a.sub i x hx with ⟨j, hj, cj⟩ | q
        · rw [cls_pm hz] at cj
          rcases cj with cj | cj
          · exact (locs j x hj cj).elim
          · obtain ⟨e1, _⟩ := cls_some cj
            subst e1
            exact .inl hj
        · exact .inr q
    rcases he with he | ⟨ev2, he⟩
    · exact r G _ H _ fp _ _ S0 he fun u bs G' σ' H' fp' a o n => fin u bs G' σ' H' fp' a (ev ▸ o) n
    · exact r G _ H _ fp _ _ S0 he fun G' σ' H' fp' a => fin .non [] G' σ' H' fp' a (by rw [← ev, ev2]; exact .d .non) ⟨List.nodup_nil, fun _ h => nomatch h⟩
end
theorem spD_fin {W : Wd} {n : Nat} {F : Fn} {E : XK} {G H : Hp} {us : List V} {ds : List Dt} {v : Vl} {Q : VK} (s : Same G H) (r : Reps W G us ds) (h : F.app ds = some v) (hn : ds.length = n) (k : FinV W G H v Q) : spD W n F us H Q E := by
  unfold Fn.app at h
  simp only [Option.map_eq_some_iff] at h
  obtain ⟨⟨v', as'⟩, h, rfl⟩ := h
  refine ⟨G, ds.map .d, fun _ => [], v', as', StR.args s r, by simpa using hn, fun x hx => ?_, h, fun u bs G' H' fp' f o nd nb S _ => ?_⟩
  · obtain ⟨d, _, rfl⟩ := List.mem_map.mp hx
    rfl
  · exact k u bs G' H' (f.mono fun x hx => by obtain ⟨i, hi⟩ := hx; exact nomatch hi) S.same o nd fun a ha => ⟨(nb a ha).1, (nb a ha).2.1⟩
/-- a def of the module: its name, how many parameters, its function -/
structure GFn (B : Bs) (x : Str) (n : Nat) (F : Fn) : Prop where
  ex : ∃ f fd ps k, k ≤ B.k ∧ ps.length = n ∧ B.mg x = some (.ref f) ∧ PySem.W.keepIn B.W.K (.ref f) = true ∧ Binds B.W.K fd ps [] ∧ FnOk B.P B.w B.W.K B.mg B.base CX0 k f fd ps (spD B.W n F)
theorem GFn.mono {B : Bs} {x : Str} {n : Nat} {F : Fn} {k : Nat} (h : GFn B x n F) (hk : B.k ≤ k) : GFn { B with k := k } x n F := by
  obtain ⟨f, fd, ps, j, h1, h2⟩ := h.ex
  exact ⟨f, fd, ps, j, Nat.le_trans h1 hk, h2⟩
def eCall (F : Fn) (g : M (List Dt)) : M Vl := bnd g fun ds => opt (F.app ds)
section
variable {B : Bs} {N : Nm} {sc : Scope} {e a b : Expr} {pos : Pos}
theorem SemA.call {W : Wd} {t : TA} {f : M (List Dt)} {r : List V → Hp → VK → Prop} {g : List Dt → Option Vl} (sa : SemA W t f)
    (hr : ∀ G H us ds v Q env env', f env = some (ds, env') → Same G H → Reps W G us ds → g ds = some v → FinV W G H v Q → r us H Q) : SemE W (fun σ H Q => t σ H fun vs H1 => r vs H1 Q) (bnd f fun ds => opt (g ds)) := by
  intro G σ H env fp v env' Q S hf k
  obtain ⟨ds, e1, h1, hf⟩ := bnd_some hf
  obtain ⟨h3, rfl⟩ := opt_some hf
  exact sa G σ H env fp ds _ _ S h1 fun us G1 H1 fp1 a1 r1 => hr G1 H1 us ds v Q _ _ h1 a1.st.same r1 h3 (a1.fin k)
theorem de_call {x : Str} {n : Nat} {F : Fn} {es : List Expr} {g : M (List Dt)} {p : Pos} (h : GFn B x n F) (ha : DAn B N sc n (e :: es) g) (hg : sc.names.lookup x = some .globalImplicit := by rfl)
    (hdb : (x == ("__debug__" : Str)) = false := by decide) (he : ∀ X : Cx, starEach (e :: es) X.env = (false, eval e X.env) :: starEach es X.env := by intro _; rfl) (hpl : ∀ X : Cx, (backTo pos (starEach es X.env)).any (·.1) = false := by intro _; rfl) :
    DE B N sc (.Call (.Name x p) (e :: es) [] pos) (eCall F g) := by
  obtain ⟨f, fd, ps, k, hk, hn, hm, kp, hb, ok⟩ := h.ex
  obtain ⟨⟨t, pt, sa⟩, hl⟩ := ha
  refine ⟨fun σ H Q => t σ H fun vs H1 => spD B.W n F vs H1 Q E0, fun X c => ?_, sa.call fun G H us ds v Q env env' h1 s r h2 k => spD_fin s r h2 (hl _ _ _ h1) k⟩
  have q : PE X (.Call (.Name x p) (e :: es) [] pos) (tCall (spD B.W n F) [] E0 t) := by
    exact pe_call (CX := CX0) (ds := []) (k := k) (f := f) (fd := fd) (ps := ps) (by rw [c.prog, c.w, c.K, c.mg, c.base]; exact ok) (c.room.mono hk) (c.gl hg) (by rw [c.mg]; exact hm) (by rw [c.K]; exact kp) (by rw [c.K]; exact hb) .nil pass0 (pt X c) hdb (he X) (hpl X)
  refine ⟨fun pins s σ H Q I hq => q.run pins s σ H Q I ?_⟩
  show t σ H fun vs H1 => spD B.W n F (vs ++ []) H1 Q E0
  simpa only [List.append_nil] using hq
end
end DL
set_option Elab.async false
set_option linter.all false
set_option maxRecDepth 100000
namespace DL
open PySem L2
theorem zip_look {f : Str} : ∀ {names : List Str} {vs : List V} {j : Nat}, names.Nodup → names[j]? = some f → (names.zip vs).lookup f = vs[j]?
  | [], vs, j, _, h => by simp at h
  | n :: ns, [], j, _, h => by simp
  | n :: ns, v :: vs, 0, nd, h => by
    have e : n = f := by simpa using h
    subst e
    simp [List.zip_cons_cons, List.lookup]
  | n :: ns, v :: vs, j + 1, nd, h => by
    have h' : ns[j]? = some f := by simpa using h
    have ne : (f == n) = false := beq_eq_false_iff_ne.mpr fun e => by
      subst e
      exact (List.nodup_cons.mp nd).1 (List.mem_of_getElem? h')
    rw [List.zip_cons_cons, List.lookup_cons, ne]
    simpa using zip_look (vs := vs) (List.nodup_cons.mp nd).2 h'
theorem zip_no {f : Str} : ∀ {names : List Str} {vs : List V}, f ∉ names → (names.zip vs).lookup f = none
  | [], vs, _ => by simp
  | n :: ns, [], _ => by simp
  | n :: ns, v :: vs, h => by
    have ne : (f == n) = false := beq_eq_false_iff_ne.mpr fun e => h (by simp [e])
    rw [List.zip_cons_cons, List.lookup_cons, ne]
    exact zip_no fun m => h (List.mem_cons_of_mem _ m)
theorem zip_put {f : Str} {v : V} : ∀ {names : List Str} {vs : List V} {j : Nat}, names.Nodup → names[j]? = some f → j < vs.length → putF f v (names.zip vs) = names.zip (vs.set j v)
  | [], vs, j, _, h, _ => by simp at h
  | n :: ns, [], j, _, h, hl => by simp at hl
  | n :: ns, w :: vs, 0, nd, h, _ => by
    have e : n = f := by simpa using h
    subst e
    simp [putF]
  | n :: ns, w :: vs, j + 1, nd, h, hl => by
    have h' : ns[j]? = some f := by simpa using h
    have ne : ¬ n = f := fun e => by
      subst e
      exact (List.nodup_cons.mp nd).1 (List.mem_of_getElem? h')
    rw [List.zip_cons_cons, List.set_cons_succ, List.zip_cons_cons]
    show (if n = f then _ else (n, w) :: putF f v (ns.zip vs)) = _
    rw [if_neg ne, zip_put (List.nodup_cons.mp nd).2 h' (by simpa using hl)]
theorem zip_add {f : Str} {v : V} : ∀ {names : List Str} {vs : List V}, names.Nodup → names[vs.length]? = some f → putF f v (names.zip vs) = names.zip (vs ++ [v])
  | [], vs, _, h => by simp at h
  | n :: ns, [], nd, h => by
    have e : n = f := by simpa using h
    subst e
    simp [putF]
  | n :: ns, w :: vs, nd, h => by
    have h' : ns[vs.length]? = some f := by simpa using h
    have ne : ¬ n = f := fun e => by
      subst e
      exact (List.nodup_cons.mp nd).1 (List.mem_of_getElem? h')
    rw [List.zip_cons_cons, List.cons_append, List.zip_cons_cons]
    show (if n = f then _ else (n, w) :: putF f v (ns.zip vs)) = _
    rw [if_neg ne, zip_add (List.nodup_cons.mp nd).2 h']
/-- what is asked of a class -/
structure ClsF (B : Bs) (c : Str) : Prop where
  cl : Cls B.W.K (B.W.cA c)
  nd : (B.W.fl c).Nodup
  few : (B.W.fl c).length < 1000
  na : ∀ f ∈ B.W.fl c, NoAttr B.W.K (B.W.cA c) f
def gFld (c : Str) (j : Nat) : Dt → Option Vl
  | .ins c' xs => if c' = c then xs[j]?.map .d else none
  | _ => none
section
variable {B : Bs} {N : Nm} {sc : Scope} {e a b : Expr} {pos : Pos}
theorem de_fld {c f : Str} (j : Nat) {g : M Dt} (C : ClsF B c) (h : DD B N sc e g) (hj : (B.W.fl c)[j]? = some f) (hb : ∀ X : Cx, attributeBase e f X.env (eval e X.env) = eval e X.env := by intro _; rfl) :
    DE B N sc (.Attribute e f pos) (e1 (gFld c j) g) := by
  obtain ⟨t, p, r⟩ := h
  refine ⟨tFld B.W.K t f, fun X c => c.K ▸ pe_fld (p X c) (hb X), fun G σ H env fp v env' Q S hf k => ?_⟩
  obtain ⟨x, e1, h1, hf⟩ := bnd_some hf
  obtain ⟨h3, rfl⟩ := opt_some hf
  refine r G σ H env fp x _ _ S h1 fun u G1 H1 fp1 a1 r1 => ?_
  cases r1 <;> try (cases h3; done)
  rename_i a dx c' vs xs hG hl rs
  simp only [gFld] at h3
  split at h3
  · rename_i hc
    subst hc
    simp only [Option.map_eq_some_iff] at h3
    obtain ⟨y, hy, rfl⟩ := h3
    obtain ⟨w, hw, rw'⟩ := rs.get hy
    refine ⟨a, _, dx, _, w, rfl, a1.st.same _ _ hG, C.cl, C.na f (List.mem_of_getElem? hj), ?_, k _ _ _ _ _ a1 (.d rw') ⟨List.nodup_nil, fun _ h => nomatch h⟩⟩
    rw [zip_look C.nd hj]; exact hw
  · cases h3
/-- a field of the thing in a slot -/
def flds (c : Str) : Sl → Option (List Dt)
  | .d (.ins c' xs) => if c' = c then some xs else none
  | .w (.o c' xs) => if c' = c then some xs else none
  | .pm (.o c' xs) => if c' = c then some xs else none
  | _ => none
def eFldS (i : Nat) (c : Str) (j : Nat) : M Dt := fun env => match env[i]? with
  | some s => ((flds c s).bind fun xs => xs[j]?).map fun x => (x, env)
  | none => none
theorem slr_ins {W : Wd} {G H : Hp} {o : Option V} {s : Sl} {as : List Addr} {c : Str} {xs : List Dt} (sm : Same G H) (h : SlR W G H o s as) (hf : flds c s = some xs) :
    ∃ a dx vs, o = some (.ref a) ∧ H a = some (.ins (W.cA c) dx ((W.fl c).zip vs)) ∧ vs.length ≤ (W.fl c).length ∧ Reps W G vs xs := by
  cases h with
  | un => cases hf
  | d r =>
    cases r <;> try (cases hf; done)
    rename_i a dx c' vs xs' hG hl rs
    simp only [flds] at hf
    split at hf
    · rename_i hc; subst hc; cases hf; exact ⟨a, dx, vs, rfl, sm _ _ hG, hl, rs⟩
    · cases hf
  | w r =>
    cases r <;> try (cases hf; done)
    rename_i a dx c' vs xs' hG hl rs
    simp only [flds] at hf
    split at hf
    · rename_i hc; subst hc; cases hf; exact ⟨a, dx, vs, rfl, hG, hl, rs⟩
    · cases hf
  | pm r =>
    cases r <;> try (cases hf; done)
    rename_i a dx c' vs xs' hG hl rs
    simp only [flds] at hf
    split at hf
    · rename_i hc; subst hc; cases hf; exact ⟨a, dx, vs, rfl, hG, hl, rs⟩
    · cases hf
theorem dd_fldS (i : Nat) {c f x : Str} (j : Nat) {p2 : Pos} (C : ClsF B c) (hj : (B.W.fl c)[j]? = some f) (hN : N.ns[i]? = some x := by rfl) (hv : Vis sc x := by first | exact Or.inl rfl | exact Or.inr (Or.inl rfl) | exact Or.inr (Or.inr rfl))
    (hd : (x == ("__debug__" : Str)) = false := by decide) (hcd : (x == ("__classdict__" : Str)) = false := by decide)
    (hb : ∀ X : Cx, attributeBase (.Name x p2) f X.env (eval (.Name x p2) X.env) = eval (.Name x p2) X.env := by intro _; rfl) : DD B N sc (.Attribute (.Name x p2) f pos) (eFldS i c j) := by
  refine ⟨tFld B.W.K (tVar i) f, fun X c => c.K ▸ pe_fld (c.var i hN hv hd hcd) (hb X), fun G σ H env fp v env' Q S hf k => ?_⟩
  unfold eFldS at hf
  split at hf
  · rename_i s hs
    simp only [Option.map_eq_some_iff, Option.bind_eq_some_iff] at hf
    obtain ⟨y, ⟨xs, hx, hy⟩, h2⟩ := hf
    cases h2
    obtain ⟨o, ho, r⟩ := S.get hs
    obtain ⟨a, dx, vs, rfl, hH, hl, rs⟩ := slr_ins S.same r hx
    obtain ⟨w, hw, rw'⟩ := rs.get hy
    refine ⟨_, ho, a, _, dx, _, w, rfl, hH, C.cl, C.na f (List.mem_of_getElem? hj), ?_, k w G H fp (Aft.refl S) rw'⟩
    rw [zip_look C.nd hj]; exact hw
  · cases hf
structure GMe (B : Bs) (c m : Str) (n : Nat) (F : Fn) : Prop where
  ex : ∃ f fd ps k, k ≤ B.k ∧ ps.length = n ∧ Meth B.W.K (B.W.cA c) m f ∧ Binds B.W.K fd ps [] ∧ FnOk B.P B.w B.W.K B.mg B.base CX0 k f fd ps (spD B.W n F)
  no : m ∉ B.W.fl c
theorem GMe.mono {B : Bs} {c m : Str} {n : Nat} {F : Fn} {k : Nat} (h : GMe B c m n F) (hk : B.k ≤ k) : GMe { B with k := k } c m n F := by
  obtain ⟨f, fd, ps, j, h1, h2⟩ := h.ex
  exact ⟨⟨f, fd, ps, j, Nat.le_trans h1 hk, h2⟩, h.no⟩
def eMeth (c : Str) (F : Fn) (f : M Dt) (g : M (List Dt)) : M Vl := bnd f fun x => match x with
  | .ins c' xs => if c' = c then bnd g fun ds => opt (F.app (.ins c' xs :: ds)) else fun _ => none
  | _ => fun _ => none
theorem meth_sem {c m : Str} {F : Fn} {n : Nat} {W : Wd} {te : TE} {t : TA} {f : M Dt} {g : M (List Dt)} (hno : m ∉ W.fl c) (h : SemD W te f) (h2 : SemA W t g) (hl : ∀ env xs env', g env = some (xs, env') → xs.length + 1 = n) :
    SemE W (tMeth (W.cA c) m (spD W n F) [] E0 te t) (eMeth c F f g) := by
  intro G σ H env fp v env' Q S hf k
  obtain ⟨x, e1, h1, hf2⟩ := bnd_some hf
  refine h G σ H env fp x e1 _ S h1 fun u G1 H1 fp1 a1 r1 => ?_
  cases r1 <;> try (cases hf2; done)
  rename_i a dx c' vs xs hG hv rs
  simp only at hf2
  split at hf2
  · rename_i hc
    subst hc
    obtain ⟨ds, e2, h3, hf4⟩ := bnd_some hf2
    obtain ⟨h5, rfl⟩ := opt_some hf4
    refine ⟨a, dx, _, rfl, a1.st.same _ _ hG, zip_no hno, h2 G1 σ H1 e1 fp1 ds _ _ a1.st h3 fun us G2 H2 fp2 a2 r2 => ?_⟩
    rw [List.append_nil]
    exact spD_fin a2.st.same (.cons ((Rep.ins hG hv rs).mono a2.fr.gsub) r2) h5 (by rw [List.length_cons]; exact hl _ _ _ h3) ((a1.trans a2).fin k)
  · cases hf2
theorem de_meth {c m : Str} {F : Fn} {n : Nat} {es : List Expr} {f : M Dt} {g : M (List Dt)} {apos : Pos} {pl : Cx → Sem Bool} (C : ClsF B c) (h : GMe B c m (n + 2) F) (h1 : DD B N sc a f) (h2 : DAn B N sc (n + 1) (e :: es) g)
    (hst : ∀ X : Cx, starEach (e :: es) X.env = (false, eval e X.env) :: starEach es X.env := by intro _; rfl) (hpl : ∀ X : Cx, (backTo pos (starEach es X.env)).any (·.1) = false := by intro _; rfl)
    (ht : ∀ X : Cx, eval (.Call (.Attribute a m apos) (e :: es) [] pos) X.env = (do
      let ov ← eval a X.env
      standAt apos.atName
      let (f, first) ← holding [ov] (getMethod ov m (pl X))
      callWith pos f first (backTo pos (starEach (e :: es) X.env)) (backToKw pos (keywordEach [] X.env))) := by intro _; rfl) :
    DE B N sc (.Call (.Attribute a m apos) (e :: es) [] pos) (eMeth c F f g) := by
  obtain ⟨fA, fd, ps, k, hk, hn, hm, hb, ok⟩ := h.ex
  obtain ⟨te, pe, se⟩ := h1
  obtain ⟨⟨t, pt, sa⟩, hl⟩ := h2
  refine ⟨_, fun X c => ?_, meth_sem h.no se sa fun env xs env' q => by rw [hl _ _ _ q]⟩
  exact pe_meth (CX := CX0) (f := fA) (fd := fd) (ps := ps) (k := k) (ds := []) (pl := pl X) (pe X c) (by rw [c.K]; exact C.cl) (by rw [c.K]; exact hm) (by rw [c.prog, c.w, c.K, c.mg, c.base]; exact ok) (c.room.mono hk) (by rw [c.K]; exact hb) .nil pass0 (pt X c) (hst X) (hpl X) (ht X)
theorem de_meth0 {c m : Str} {F : Fn} {f : M Dt} {apos : Pos} {pl : Cx → Sem Bool} (C : ClsF B c) (h : GMe B c m 1 F) (h1 : DD B N sc a f)
    (ht : ∀ X : Cx, eval (.Call (.Attribute a m apos) [] [] pos) X.env = (do
      let ov ← eval a X.env
      standAt apos.atName
      let (f, first) ← holding [ov] (getMethod ov m (pl X))
      callWith pos f first (backTo pos (starEach [] X.env)) (backToKw pos (keywordEach [] X.env))) := by intro _; rfl) :
    DE B N sc (.Call (.Attribute a m apos) [] [] pos) (eMeth c F f aNil) := by
  obtain ⟨fA, fd, ps, k, hk, hn, hm, hb, ok⟩ := h.ex
  obtain ⟨te, pe, se⟩ := h1
  obtain ⟨t, pt, sa⟩ := da_nil (B := B) (N := N) (sc := sc)
  refine ⟨tMeth (B.W.cA c) m (spD B.W 1 F) [] E0 te tNil, fun X c => ?_, meth_sem h.no se (t := tNil) (fun G σ H env fp v env' Q S hf k => by cases hf; exact k [] G H fp (Aft.refl S) .nil) fun env xs env' q => by cases q; rfl⟩
  exact pe_meth0 (CX := CX0) (f := fA) (fd := fd) (ps := ps) (k := k) (ds := []) (pl := pl X) (pe X c) (by rw [c.K]; exact C.cl) (by rw [c.K]; exact hm) (by rw [c.prog, c.w, c.K, c.mg, c.base]; exact ok) (c.room.mono hk) (by rw [c.K]; exact hb) .nil pass0 (ht X)
structure GPr (B : Bs) (c m : Str) (F : Fn) : Prop where
  ex : ∃ p f fd ps k, k + 1 ≤ B.k ∧ ps.length = 1 ∧ PropOf B.W.K (B.W.cA c) m p f ∧ Binds B.W.K fd ps [] ∧ FnOk B.P B.w B.W.K B.mg B.base CX0 k f fd ps (spD B.W 1 F)
theorem GPr.mono {B : Bs} {c m : Str} {F : Fn} {k : Nat} (h : GPr B c m F) (hk : B.k ≤ k) : GPr { B with k := k } c m F := by
  obtain ⟨p, f, fd, ps, j, h1, h2⟩ := h.ex
  exact ⟨p, f, fd, ps, j, Nat.le_trans h1 hk, h2⟩
theorem de_prop {c m : Str} {F : Fn} {f : M Dt} (C : ClsF B c) (h : GPr B c m F) (h1 : DD B N sc a f) (hab : ∀ X : Cx, attributeBase a m X.env (eval a X.env) = eval a X.env := by intro _; rfl) :
    DE B N sc (.Attribute a m pos) (eMeth c F f aNil) := by
  obtain ⟨p, fA, fd, ps, k, hk, hn, hm, hb, ok⟩ := h.ex
  obtain ⟨te, pe, se⟩ := h1
  refine ⟨tProp (B.W.cA c) (spD B.W 1 F) [] E0 te, fun X c => ?_, fun G σ H env fp v env' Q S hf k => ?_⟩
  · exact pe_prop (CX := CX0) (p := p) (g := fA) (fd := fd) (ps := ps) (k := k) (ds := []) (pe X c) (by rw [c.K]; exact C.cl) (by rw [c.K]; exact hm) (by rw [c.prog, c.w, c.K, c.mg, c.base]; exact ok) (c.room.mono hk) (by rw [c.K]; exact hb) .nil pass0 (hab X)
  · obtain ⟨x, e1, h1, hf2⟩ := bnd_some hf
    refine se G σ H env fp x e1 _ S h1 fun u G1 H1 fp1 a1 r1 => ?_
    cases r1 <;> try (cases hf2; done)
    rename_i a dx c' vs xs hG hv rs
    simp only at hf2
    split at hf2
    · rename_i hc
      subst hc
      obtain ⟨ds, e2, h3, hf4⟩ := bnd_some hf2
      cases h3
      obtain ⟨h5, rfl⟩ := opt_some hf4
      exact ⟨a, dx, _, rfl, a1.st.same _ _ hG, spD_fin a1.st.same (.cons (Rep.ins hG hv rs) .nil) h5 rfl (a1.fin k)⟩
    · cases hf2
structure GMk (B : Bs) (c : Str) (n : Nat) (F : Fn) : Prop where
  ex : ∃ f fd ps k, k + 1 ≤ B.k ∧ ps.length = n + 1 ∧ Mk B.W.K (B.W.cA c) f ∧ B.mg c = some (.ref (B.W.cA c)) ∧ Binds B.W.K fd ps [] ∧ FnOk B.P B.w B.W.K B.mg B.base CX0 k f fd ps (spD B.W (n + 1) F)
theorem GMk.mono {B : Bs} {c : Str} {n : Nat} {F : Fn} {k : Nat} (h : GMk B c n F) (hk : B.k ≤ k) : GMk { B with k := k } c n F := by
  obtain ⟨f, fd, ps, j, h1, h2⟩ := h.ex
  exact ⟨f, fd, ps, j, Nat.le_trans h1 hk, h2⟩
def Fn.make (F : Fn) (c : Str) (ds : List Dt) : Option Vl := match F (.pm (.o c []) :: ds.map .d) with
  | some (.d .non, .pm x :: _) => some x
  | _ => none
def eMake (c : Str) (F : Fn) (g : M (List Dt)) : M Vl := bnd g fun ds => opt (F.make c ds)
theorem de_make {c : Str} {F : Fn} {n : Nat} {es : List Expr} {g : M (List Dt)} {p : Pos} (h : GMk B c n F) (h2 : DAn B N sc n (e :: es) g) (hg : sc.names.lookup c = some .globalImplicit := by rfl)
    (hdb : (c == ("__debug__" : Str)) = false := by decide) (he : ∀ X : Cx, starEach (e :: es) X.env = (false, eval e X.env) :: starEach es X.env := by intro _; rfl) (hpl : ∀ X : Cx, (backTo pos (starEach es X.env)).any (·.1) = false := by intro _; rfl) :
    DE B N sc (.Call (.Name c p) (e :: es) [] pos) (eMake c F g) := by
  obtain ⟨fA, fd, ps, k, hk, hn, hm, hmg, hb, ok⟩ := h.ex
  obtain ⟨⟨t, pt, sa⟩, hl⟩ := h2
  refine ⟨tMake (B.W.cA c) (spD B.W (n + 1) F) [] E0 t, fun X c => ?_, fun G σ H env fp v env' Q S hf k => ?_⟩
  · exact pe_make (CX := CX0) (f := fA) (fd := fd) (ps := ps) (k := k) (ds := []) (by rw [c.K]; exact hm) (by rw [c.prog, c.w, c.K, c.mg, c.base]; exact ok) (c.room.mono hk) (c.gl hg) (by rw [c.mg]; exact hmg) (by rw [c.K]; exact hb) .nil pass0 (pt X c) hdb (he X) (hpl X)
  · obtain ⟨ds, e1, h1, hf2⟩ := bnd_some hf
    obtain ⟨h3, rfl⟩ := opt_some hf2
    refine sa G σ H env fp ds _ _ S h1 fun us G1 H1 fp1 a1 r1 => fun x dx hx hdx hne => ?_
    rw [List.append_nil]
    unfold Fn.make at h3
    split at h3
    · rename_i y as' hF
      cases h3
      have hx2 : (upd H1 dx (.own x)) x = none := by rw [upd_ne hne.symm]; exact hx
      have f2 : Fr (fun _ => False) G1 H1 G1 (upd (upd H1 dx (.own x)) x (.ins (B.W.cA c) dx [])) := (Fr.new (M := fun _ => False) hdx).trans (Fr.new (M := fun _ => False) hx2) fun _ z => False.elim z
      have sm2 : Same G1 (upd (upd H1 dx (.own x)) x (.ins (B.W.cA c) dx [])) := Same.new (Same.new a1.st.same hdx) hx2
      have S0 := StR.args (W := B.W) sm2 r1
      have ow : Own B.W G1 (upd (upd H1 dx (.own x)) x (.ins (B.W.cA c) dx [])) (.ref x) (.o c []) [x] := .o (vs := []) (by rw [List.zip_nil_right]; exact upd_same) (Nat.zero_le _) .nil
      refine ⟨G1, .pm (.o c []) :: ds.map .d, fpSet (fun _ => []) 0 [x], _, _, ⟨by have := S0.len; simp [this, r1.length], fun i o s q1 q2 => ?_, fun i hi => ?_, fun i => ?_, fun i j z q1 q2 => ?_, fun i z q => ?_, sm2⟩, ?_, ?_, hF, fun u bs G' H' fp' fr o nd nb S' sub => ?_⟩
      · cases i with
        | zero =>
          simp at q1 q2
          subst q1 q2
          exact .pm ow
        | succ i =>
          have := S0.sl i o s (by simpa using q1) (by simpa using q2)
          exact this
      · exact if_neg (by simp at hi; omega)
      · unfold fpSet
        split
        · simp
        · exact List.nodup_nil
      · rcases fpSet_in q1 with ⟨e1, _⟩ | ⟨_, m⟩
        · rcases fpSet_in q2 with ⟨e2, _⟩ | ⟨_, m⟩
          · rw [e1, e2]
          · exact nomatch m
        · exact nomatch m
      · rcases fpSet_in q with ⟨e1, m⟩ | ⟨_, m⟩
        · rw [List.mem_singleton.mp m]; exact a1.st.same.free hx
        · exact nomatch m
      · rw [List.length_cons, List.length_map, hl _ _ _ h1]
      · intro s hs
        rcases List.mem_cons.mp hs with rfl | hs
        · rfl
        · obtain ⟨d, _, rfl⟩ := List.mem_map.mp hs
          rfl
      · cases o with
        | d ro =>
          cases ro
          refine ⟨rfl, ?_⟩
          have h0 : ∃ o', (V.ref x :: us).map some = o' :: us.map some ∧ SlR B.W G' H' o' (.pm v) (fp' 0) := ⟨some (.ref x), rfl, S'.sl 0 _ _ rfl rfl⟩
          obtain ⟨o', ho', r0⟩ := h0
          have ho'' : o' = some (.ref x) := (List.cons.inj ho').1.symm
          subst ho''
          have ow' : Own B.W G' H' (.ref x) v (fp' 0) := by
            generalize hfp : fp' 0 = as0 at r0 ⊢
            cases r0 with
            | pm q => exact q
          have frr : Fr (fun _ => False) G1 H1 G' H' := f2.trans fr fun z hz => by
            obtain ⟨i, hi⟩ := hz
            rcases fpSet_in hi with ⟨e1, m⟩ | ⟨_, m⟩
            · rw [List.mem_singleton.mp m]; exact .inr hx
            · exact nomatch m
          refine a1.fin k (.ref x) (fp' 0) G' H' frr S'.same ow' (S'.nd 0) fun z hz => ⟨S'.fr 0 z hz, ?_⟩
          rcases sub 0 z hz with q | q
          · rcases fpSet_in q with ⟨e1, m⟩ | ⟨_, m⟩
            · rw [List.mem_singleton.mp m]; exact hx
            · exact nomatch m
          · exact f2.live z q
    · cases h3
end
end DL
set_option Elab.async false
set_option linter.all false
set_option maxRecDepth 100000
namespace DL
open PySem L2
section
variable {W : Wd} {G G' H H' : Hp} {σ : L2.St} {env : DEnv} {fp : FP}
/-- what slot i owns has moved on, the rest stands -/
theorem StR.turn (S : StR W G σ H env fp) {i : Nat} {s : Sl} {o : Option V} {as : List Addr} (hi : i < env.length) (ho : σ[i]? = some o) (gs : Same G G') (k : ∀ j a, j ≠ i → a ∈ fp j → H' a = H a ∧ G' a = none) (sm : Same G' H')
    (h : SlR W G' H' o s as) (nd : as.Nodup) (n : ∀ x ∈ as, G' x = none ∧ ∀ j, j ≠ i → x ∉ fp j) : StR W G' σ H' (env.set i s) (fpSet fp i as) where
  len := by rw [List.length_set]; exact S.len
  sl := fun j o' s' h1 h2 => by
    by_cases hj : i = j
    · subst hj
      rw [List.getElem?_set_self hi] at h2
      rw [ho] at h1
      cases h1; cases h2
      have : fpSet fp i as i = as := if_pos rfl
      rw [this]
      exact h
    · rw [List.getElem?_set_ne hj] at h2
      have : fpSet fp i as j = fp j := if_neg fun z => hj z.symm
      rw [this]
      exact (S.sl j o' s' h1 h2).keep gs fun a ha => (k j a (fun z => hj z.symm) ha).1
  out := fun j hj => by
    rw [List.length_set] at hj
    unfold fpSet
    split
    · omega
    · exact S.out j hj
  nd := fun j => by
    unfold fpSet
    split
    · exact nd
    · exact S.nd j
  dj := fun j l a h1 h2 => by
    rcases fpSet_in h1 with ⟨e1, m1⟩ | ⟨n1, m1⟩
    · rcases fpSet_in h2 with ⟨e2, m2⟩ | ⟨n2, m2⟩
      · rw [e1, e2]
      · exact absurd m2 ((n a m1).2 l n2)
    · rcases fpSet_in h2 with ⟨e2, m2⟩ | ⟨n2, m2⟩
      · exact absurd m1 ((n a m2).2 j n1)
      · exact S.dj j l a m1 m2
  fr := fun j a h => by
    rcases fpSet_in h with ⟨e1, m1⟩ | ⟨n1, m1⟩
    · exact (n a m1).1
    · exact (k j a n1 m1).2
  same := sm
/-- the owned value of a slot, and another one in its place -/
def ownAt (e : DEnv) (i : Nat) : Option Vl := match e[i]? with
  | some (.w x) => some x
  | some (.pm x) => some x
  | _ => none
def setOwn (e : DEnv) (i : Nat) (x : Vl) : DEnv := match e[i]? with
  | some (.w _) => e.set i (.w x)
  | some (.pm _) => e.set i (.pm x)
  | _ => e
theorem own_get (S : StR W G σ H env fp) {i : Nat} {x : Vl} (h : ownAt env i = some x) : ∃ u, σ[i]? = some (some u) ∧ Own W G H u x (fp i) ∧ i < env.length := by
  unfold ownAt at h
  split at h
  · rename_i y hy
    cases h
    obtain ⟨o, ho, r⟩ := S.get hy
    generalize hfi : fp i = as at r ⊢
    cases r with
    | w r => exact ⟨_, ho, r, (List.getElem?_eq_some_iff.mp hy).1⟩
  · rename_i y hy
    cases h
    obtain ⟨o, ho, r⟩ := S.get hy
    generalize hfi : fp i = as at r ⊢
    cases r with
    | pm r => exact ⟨_, ho, r, (List.getElem?_eq_some_iff.mp hy).1⟩
  · cases h
theorem own_turn {G0 H0 : Hp} {env0 : DEnv} {fp0 : FP} (a0 : AftE W G0 σ H0 env0 fp0 G H env fp) {i : Nat} {x y : Vl} {u : V} {as : List Addr} (h : ownAt env i = some x) (hu : σ[i]? = some (some u)) (gs : Same G G') (k : ∀ j a, j ≠ i → a ∈ fp j → H' a = H a ∧ G' a = none) (sm : Same G' H')
    (o : Own W G' H' u y as) (nd : as.Nodup) (n : ∀ z ∈ as, G' z = none ∧ ∀ j, j ≠ i → z ∉ fp j) (f : Fr fp.In G H G' H') (sub : ∀ z ∈ as, z ∈ fp i ∨ (∃ j, z ∈ fp0 j ∧ cls env0 j = none) ∨ H0 z = none) : AftE W G0 σ H0 env0 fp0 G' H' (setOwn env i y) (fpSet fp i as) := by
  have fr0 : Fr fp0.In G0 H0 G' H' := a0.fr.trans f fun z m => a0.inn m
  have S := a0.st
  have subs : ∀ c, c = cls env i → ∀ z ∈ as, (∃ j, z ∈ fp0 j ∧ (cls env0 j = none ∨ cls env0 j = c)) ∨ H0 z = none := fun c hc z hz => by
    rcases sub z hz with m | ⟨j, m, cj⟩ | m
    · subst hc; exact a0.sub i z m
    · exact .inl ⟨j, m, .inl cj⟩
    · exact .inr m
  unfold ownAt at h
  split at h
  · rename_i q hq
    cases h
    have hi := (List.getElem?_eq_some_iff.mp hq).1
    have e : setOwn env i y = env.set i (.w y) := by unfold setOwn; rw [hq]
    rw [e]
    refine ⟨S.turn hi hu gs k sm (.w o) nd n, fr0, fun j z hz => ?_, a0.pk.trans fun j z hz => ⟨⟨z, ?_⟩, rfl⟩⟩
    · rcases fpSet_in hz with ⟨e1, m1⟩ | ⟨n1, m1⟩
      · subst e1
        exact subs _ (by unfold cls; rw [List.getElem?_set_self hi, hq]) z m1
      · rw [cls_set_ne n1.symm]
        exact a0.sub j z m1
    · have : i ≠ j := fun e => by subst e; rw [hq] at hz; cases hz
      rw [List.getElem?_set_ne this]; exact hz
  · rename_i q hq
    cases h
    have hi := (List.getElem?_eq_some_iff.mp hq).1
    have e : setOwn env i y = env.set i (.pm y) := by unfold setOwn; rw [hq]
    rw [e]
    refine ⟨S.turn hi hu gs k sm (.pm o) nd n, fr0, fun j z hz => ?_, a0.pk.trans fun j z hz => ?_⟩
    · rcases fpSet_in hz with ⟨e1, m1⟩ | ⟨n1, m1⟩
      · subst e1
        exact subs _ (by unfold cls; rw [List.getElem?_set_self hi, hq]) z m1
      · rw [cls_set_ne n1.symm]
        exact a0.sub j z m1
    · by_cases e : i = j
      · subst e
        exact ⟨⟨y, List.getElem?_set_self hi⟩, rfl⟩
      · exact ⟨⟨z, by rw [List.getElem?_set_ne e]; exact hz⟩, rfl⟩
  · cases h
/-- a write at an address that slot i owns -/
theorem own_write {G0 H0 : Hp} {env0 : DEnv} {fp0 : FP} (a0 : AftE W G0 σ H0 env0 fp0 G H env fp) {i : Nat} {x y : Vl} {u : V} {as : List Addr} {a : Addr} {ho : HO} (h : ownAt env i = some x) (hu : σ[i]? = some (some u)) (ha : a ∈ fp i)
    (o : Own W G (upd H a ho) u y as) (nd : as.Nodup) (n : ∀ z ∈ as, z ∈ fp i ∨ (G z = none ∧ (∀ j, z ∉ fp j) ∧ ((∃ j, z ∈ fp0 j ∧ cls env0 j = none) ∨ H0 z = none))) :
    AftE W G0 σ H0 env0 fp0 G (upd H a ho) (setOwn env i y) (fpSet fp i as) := by
  have S := a0.st
  refine own_turn a0 h hu (Same.refl G) (fun j z hj hz => ⟨upd_ne fun e => ?_, S.fr j z hz⟩) (fun z q hz => ?_) o nd (fun z hz => ?_) ⟨fun z q hz m => ⟨?_, rfl⟩, Same.refl G, fun z hz => ?_⟩ fun z hz => ?_
  · subst e; exact hj (S.dj j i z hz ha)
  · rw [upd_ne fun e => by subst e; rw [S.fr i z ha] at hz; cases hz]
    exact S.same z q hz
  · rcases n z hz with m | m
    · exact ⟨S.fr i z m, fun j hj hm => hj (S.dj j i z hm m)⟩
    · exact ⟨m.1, fun j _ => m.2.1 j⟩
  · rw [upd_ne fun e => m ⟨i, by rw [e]; exact ha⟩]; exact hz
  · by_cases e : z = a
    · subst e; rw [upd_same] at hz; cases hz
    · rw [upd_ne e] at hz; exact hz
  · rcases n z hz with m | m
    · exact .inl m
    · exact .inr m.2.2
end
section
variable {B : Bs} {N : Nm} {sc : Scope} {e a b : Expr} {pos : Pos}
def putO (xs : List Dt) (j : Nat) (y : Dt) : Option (List Dt) := if j < xs.length then some (xs.set j y) else if j = xs.length then some (xs ++ [y]) else none
def sFldS (i : Nat) (c : Str) (j : Nat) (f : M Dt) : SV := fun env => match f env with
  | none => none
  | some (y, e1) => match ownAt e1 i with
    | some (.o c' xs) => if c' = c then (putO xs j y).map fun zs => .nx (setOwn e1 i (.o c zs)) else none
    | _ => none
theorem Reps.set {W : Wd} {G : Hp} {v : V} {x : Dt} (r : Rep W G v x) : ∀ {vs : List V} {xs : List Dt} (j : Nat), Reps W G vs xs → Reps W G (vs.set j v) (xs.set j x)
  | _, _, _, .nil => .nil
  | _, _, 0, .cons _ t => .cons r t
  | _, _, j + 1, .cons q t => .cons q (Reps.set r j t)
theorem ds_fldS (i : Nat) {c f x : Str} (j : Nat) {g : M Dt} {p2 p3 : Pos} (C : ClsF B c) (h : DD B N sc e g) (hj : (B.W.fl c)[j]? = some f) (hN : N.ns[i]? = some x := by rfl) (hv : Vis sc x := by first | exact Or.inl rfl | exact Or.inr (Or.inl rfl) | exact Or.inr (Or.inr rfl))
    (hd : (x == ("__debug__" : Str)) = false := by decide) (hcd : (x == ("__classdict__" : Str)) = false := by decide)
    (hs : ∀ X : Cx, swapsWith e (some (.Attribute (.Name x p2) f p3)) pos.line X.env = pure false := by intro _; rfl) : DS B N sc (.Assign [.Attribute (.Name x p2) f p3] e pos) (sFldS i c j g) := by
  obtain ⟨t, p, r⟩ := h
  refine ⟨sFld B.W.K (tVar i) t f, fun X c => c.K ▸ ps_fld (c.var i hN hv hd hcd) (p X c) (hs X), fun G σ H env fp o D S hf k => ?_⟩
  unfold sFldS at hf
  split at hf
  · cases hf
  · rename_i y e1 h1
    refine r G σ H env fp y e1 _ S h1 fun u G1 H1 fp1 a1 r1 => ?_
    split at hf
    · rename_i c' xs hx
      split at hf
      · rename_i hc
        subst hc
        simp only [Option.map_eq_some_iff] at hf
        obtain ⟨zs, hz, rfl⟩ := hf
        obtain ⟨w, hw, ow, hi⟩ := own_get a1.st hx
        generalize hfi : fp1 i = as at ow
        cases ow with
        | o hH hl rs =>
        rename_i a dx vs
        have ha : a ∈ fp1 i := by rw [hfi]; simp
        have hjl : vs.length ≤ (B.W.fl c').length := hl
        refine ⟨_, hw, a, _, dx, _, rfl, hH, C.cl, C.na f (List.mem_of_getElem? hj), ?_, ?_⟩
        · rw [List.length_zip]
          have := C.few
          omega
        · have key : ∃ us, putF f u ((B.W.fl c').zip vs) = (B.W.fl c').zip us ∧ us.length ≤ (B.W.fl c').length ∧ Reps B.W G1 us zs := by
            unfold putO at hz
            split at hz
            · rename_i hlt
              cases hz
              refine ⟨vs.set j u, zip_put C.nd hj (by rw [rs.length]; exact hlt), by rw [List.length_set]; exact hl, Reps.set r1 j rs⟩
            · split at hz
              · rename_i hje
                cases hz
                have hjv : j = vs.length := by rw [rs.length]; exact hje
                refine ⟨vs ++ [u], zip_add C.nd (hjv ▸ hj), ?_, rs.append (.cons r1 .nil)⟩
                rw [List.length_append, List.length_singleton, ← hjv]
                exact (List.getElem?_eq_some_iff.mp hj).1
              · cases hz
          obtain ⟨us, e1', e2, e3⟩ := key
          rw [e1']
          have a2 := own_write a1 (y := .o c' zs) (as := [a]) (ho := .ins (B.W.cA c') dx ((B.W.fl c').zip us)) hx hw ha (.o upd_same e2 e3) (by simp) (fun z hz => by rw [List.mem_singleton.mp hz]; exact .inl ha)
          exact k _ _ _ _ a2
      · cases hf
    · cases hf
def isL : Vl → Bool
  | .l _ => true
  | _ => false
def sApp (i : Nat) (f : M Vl) : SV := fun env => match (ownAt env i).map isL with
  | some true => match f env with
    | none => none
    | some (v, e1) => match ownAt e1 i with
      | some (.l xs) => if xs.length < sizeLine then some (.nx (setOwn e1 i (.l (xs ++ [v])))) else none
      | _ => none
  | _ => none
theorem Owns.append {W : Wd} {G H : Hp} {vs us : List V} {xs ys : List Vl} {as bs : List Addr} : Owns W G H vs xs as → Owns W G H us ys bs → Owns W G H (vs ++ us) (xs ++ ys) (as ++ bs)
  | .nil, s => s
  | .cons h r, s => by
    rw [List.cons_append, List.cons_append, List.append_assoc]
    exact .cons h (Owns.append r s)
theorem Owns.length {W : Wd} {G H : Hp} {vs : List V} {xs : List Vl} {as : List Addr} : Owns W G H vs xs as → vs.length = xs.length
  | .nil => rfl
  | .cons _ r => by rw [List.length_cons, List.length_cons, Owns.length r]
theorem ds_append (i : Nat) {x : Str} {f : M Vl} {p2 p3 p4 : Pos} (h : DE B N sc e f) (hN : N.ns[i]? = some x := by rfl) (hv : Vis sc x := by first | exact Or.inl rfl | exact Or.inr (Or.inl rfl) | exact Or.inr (Or.inr rfl))
    (hd : (x == ("__debug__" : Str)) = false := by decide) (hcd : (x == ("__classdict__" : Str)) = false := by decide)
    (hbase : ∀ X : Cx, attributeBase (.Name x p2) "append" X.env (eval (.Name x p2) X.env) = eval (.Name x p2) X.env := by intro _; rfl)
    (hfew : ∀ X : Cx, ((backTo p4 (starEach [e] X.env)).all (fun x => !x.1) && (backToKw p4 (keywordEach [] X.env)).all (fun x => x.1.isSome)
      && decide ([e].length + ([] : List Keyword).length + (if ([] : List Keyword).isEmpty then 0 else 1) < 30)) = true := by intro _; rfl)
    (hline : (p3.endLine == p4.line) = true := by rfl) (hs : ∀ X : Cx, starEach [e] X.env = (false, eval e X.env) :: starEach [] X.env := by intro _; rfl)
    (hsw : ∀ X : Cx, swapsWith (.Call (.Attribute (.Name x p2) "append" p3) [e] [] p4) none pos.line X.env = pure false := by intro _; rfl) :
    DS B N sc (.Expr (.Call (.Attribute (.Name x p2) "append" p3) [e] [] p4) pos) (sApp i f) := by
  obtain ⟨t, p, r⟩ := h
  refine ⟨tDrop (tBM B.W.K "list" rAppend (tVar i) (tCons t tNil)), fun X c => ps_expr (c.K ▸ pe_bm PySem.F.plainAttrs_list PySem.F.slot_list_append PySem.F.type_list_append mt_append (c.var i hN hv hd hcd) (pa_cons (p X c) pa_nil (hs X)) (hbase X) (hfew X) hline (hs X) rfl) (hsw X), fun G σ H env fp o D S hf k => ?_⟩
  unfold sApp at hf
  split at hf
  · rename_i hq
    simp only [Option.map_eq_some_iff] at hq
    obtain ⟨q0, hq, hl⟩ := hq
    obtain ⟨w, hw, ow, hi⟩ := own_get S hq
    split at hf
    · cases hf
    · rename_i v e1 h1
      split at hf
      · rename_i xs hx
        split at hf
        · rename_i hlen
          cases hf
          refine ⟨w, hw, ?_, r G σ H env fp v e1 _ S h1 fun u as G1 H1 fp1 a1 ou nu => ?_⟩
          · generalize hfi : fp i = as at ow
            cases ow with
            | d _ => cases hl
            | o _ _ _ => cases hl
            | dc _ _ _ => cases hl
            | l hH _ => exact .inl ⟨rfl, _, SqL.of hH⟩
          · obtain ⟨w', hw', ow', hi'⟩ := own_get a1.st hx
            rw [hw] at hw'
            cases hw'
            generalize hfi : fp1 i = bs at ow'
            cases ow' with
            | l hH rs =>
            rename_i a vs cs
            have ha : a ∈ fp1 i := by rw [hfi]; simp
            refine ⟨a, vs, u, rfl, rfl, hH, by rw [rs.length]; exact hlen, ?_⟩
            have na : ∀ z ∈ cs ++ as, z ≠ a := fun z hz ez => by
              subst ez
              rcases List.mem_append.mp hz with m | m
              · have := a1.st.nd i
                rw [hfi] at this
                exact (List.nodup_cons.mp this).1 m
              · exact (nu.2 z m).2.2 i ha
            have ndi := a1.st.nd i
            rw [hfi] at ndi
            have nd2 : (a :: (cs ++ (as ++ []))).Nodup := by
              rw [List.append_nil]
              refine List.nodup_cons.mpr ⟨fun m => na a m rfl, List.nodup_append.mpr ⟨(List.nodup_cons.mp ndi).2, nu.1, fun y hy z hz e => ?_⟩⟩
              subst e
              exact (nu.2 y hz).2.2 i (by rw [hfi]; exact List.mem_cons_of_mem _ hy)
            have ow2 : Own B.W G1 (upd H1 a (.lst (vs ++ [u]))) (.ref a) (.l (xs ++ [v])) (a :: (cs ++ (as ++ []))) :=
              .l upd_same ((rs.append (.cons ou .nil)).keep (Same.refl G1) fun z hz => upd_ne (na z (by simpa using hz)))
            exact k _ _ _ _ (own_write a1 hx hw ha ow2 nd2 fun z hz => by
              rcases List.mem_cons.mp hz with e | hz
              · subst e; exact .inl ha
              · rcases List.mem_append.mp hz with hz | hz
                · exact .inl (by rw [hfi]; exact List.mem_cons_of_mem _ hz)
                · rw [List.append_nil] at hz
                  exact .inr ⟨(nu.2 z hz).1, (nu.2 z hz).2.2, (nu.2 z hz).2.1⟩)
        · cases hf
      · cases hf
  · cases hf
end
end DL
set_option Elab.async false
set_option linter.all false
set_option maxRecDepth 100000
namespace DL
open PySem L2
section
variable {B : Bs} {N : Nm} {sc : Scope} {e a b : Expr} {pos : Pos}
def setL (xs : List Vl) (i : Int) (v : Dt) : Option (List Vl) := (ixN xs.length i).bind fun j => match xs[j]? with
  | some (.d _) => some (xs.set j (.d v))
  | _ => none
def sSetIx (i : Nat) (g f : M Dt) : SV := fun env => match f env with
  | none => none
  | some (v, e1) => match (ownAt e1 i).map isL with
    | some true => match g e1 with
      | some (.int k, e2) => match ownAt e2 i with
        | some (.l xs) => (setL xs k v).map fun ys => .nx (setOwn e2 i (.l ys))
        | _ => none
      | _ => none
    | _ => none
theorem Owns.setd {W : Wd} {G H : Hp} {v : V} {x y : Dt} (r : Rep W G v x) : ∀ {vs : List V} {xs : List Vl} {as : List Addr} {j : Nat}, Owns W G H vs xs as → xs[j]? = some (.d y) → Owns W G H (vs.set j v) (xs.set j (.d x)) as
  | _, _, _, j, .nil, h => by simp at h
  | _, _, _, 0, .cons o t, h => by
    have h' := Option.some.inj h
    subst h'
    cases o
    exact .cons (as := []) (.d r) t
  | _, _, _, j + 1, .cons o t, h => .cons o (Owns.setd r t (by simpa using h))
theorem ds_setIx (i : Nat) {x : Str} {f g : M Dt} {p2 p3 : Pos} (h : DD B N sc b f) (hg : DD B N sc a g) (hN : N.ns[i]? = some x := by rfl) (hv : Vis sc x := by first | exact Or.inl rfl | exact Or.inr (Or.inl rfl) | exact Or.inr (Or.inr rfl))
    (hd : (x == ("__debug__" : Str)) = false := by decide) (hcd : (x == ("__classdict__" : Str)) = false := by decide)
    (ha : ∀ (X : Cx) v, assign (.Subscript (.Name x p2) a p3) X.env v = (do
      let ov ← holding [v] (eval (.Name x p2) X.env)
      let iv ← holding [v, ov] (eval a X.env)
      standAt p3
      holding [v, ov, iv] (setItem ov iv v)
      release [v, ov, iv] []) := by intro _ _; rfl)
    (hs : ∀ X : Cx, swapsWithSole [.Subscript (.Name x p2) a p3] b pos.line X.env = pure false := by intro _; rfl) (hw : ∀ X : Cx, swappedStores [.Subscript (.Name x p2) a p3] b X.env = pure none := by intro _; rfl)
    (h1 : ∀ X : Cx, (assignEach [.Subscript (.Name x p2) a p3] X.env).map (·.2) = [assign (.Subscript (.Name x p2) a p3) X.env] := by intro _; rfl) : DS B N sc (.Assign [.Subscript (.Name x p2) a p3] b pos) (sSetIx i g f) := by
  obtain ⟨t, p, r⟩ := h
  obtain ⟨t2, q, r2⟩ := hg
  refine ⟨_, fun X c => ps_asg (p X c) (pg_sub (c.var i hN hv hd hcd) (q X c) set_list (ha X)) (hs X) (hw X) (h1 X), fun G σ H env fp o D S hf k => ?_⟩
  unfold sSetIx at hf
  split at hf
  · cases hf
  · rename_i v e1 h1
    refine r G σ H env fp v e1 _ S h1 fun u G1 H1 fp1 a1 rv => ?_
    split at hf
    · rename_i hq
      simp only [Option.map_eq_some_iff] at hq
      obtain ⟨q0, hq, _⟩ := hq
      obtain ⟨w, hw, ow, hi⟩ := own_get a1.st hq
      split at hf
      · rename_i k' e2 h2
        split at hf
        · rename_i xs hx
          simp only [Option.map_eq_some_iff] at hf
          obtain ⟨ys, hy, rfl⟩ := hf
          refine ⟨w, hw, r2 G1 σ H1 e1 fp1 _ e2 _ a1.st h2 fun ui G2 H2 fp2 a2 ri => ?_⟩
          cases ri
          obtain ⟨w', hw', ow', hi'⟩ := own_get a2.st hx
          rw [hw] at hw'
          cases hw'
          generalize hfi : fp2 i = bs at ow'
          cases ow' with
          | l hH rs =>
          rename_i ad vs cs
          have ha : ad ∈ fp2 i := by rw [hfi]; simp
          unfold setL at hy
          simp only [Option.bind_eq_some_iff] at hy
          obtain ⟨j, hj, hy⟩ := hy
          split at hy
          · rename_i y hyj
            cases hy
            refine ⟨ad, vs, k', j, rfl, rfl, hH, by rw [rs.length]; exact hj, ?_⟩
            have ndi := a2.st.nd i
            rw [hfi] at ndi
            have rs2 := (Owns.setd (rv.mono a2.fr.gsub) rs hyj).keep (H' := upd H2 ad (.lst (vs.set j u))) (Same.refl G2) fun z hz => upd_ne fun ez => (List.nodup_cons.mp ndi).1 (ez ▸ hz)
            exact k _ _ _ _ (own_write (a1.trans a2) hx hw ha (.l upd_same rs2) ndi fun z hz => .inl (by rw [hfi]; exact hz))
          · cases hy
        · cases hf
      · cases hf
    · cases hf
def eCallR (i : Nat) (F : Fn) (g : M (List Dt)) : M Vl := fun env => match ownAt env i with
  | none => none
  | some _ => match g env with
    | none => none
    | some (ds, e1) => match ownAt e1 i with
      | none => none
      | some x => match F (.pm x :: ds.map .d) with
        | some (r, .pm y :: _) => some (r, setOwn e1 i y)
        | _ => none
theorem callR_sem {W : Wd} {G H G1 H1 : Hp} {σ : L2.St} {env e1 : DEnv} {fp fp1 : FP} {i : Nat} {u : V} {us : List V} {ds : List Dt} {x y r : Vl} {as' : List Sl} {n : Nat} {F : Fn} {Q : VK} {E : XK}
    (a1 : AftE W G σ H env fp G1 H1 e1 fp1) (hx : ownAt e1 i = some x) (hu : σ[i]? = some (some u)) (rs : Reps W G1 us ds) (hF : F (.pm x :: ds.map .d) = some (r, .pm y :: as')) (hn : ds.length + 1 = n)
    (k : ∀ u as G' H' fp', AftE W G σ H env fp G' H' (setOwn e1 i y) fp' → Own W G' H' u r as → New env fp H G' fp' as → Q u H') : spD W n F (u :: us) H1 Q E := by
  obtain ⟨u', hu', ow, hi⟩ := own_get a1.st hx
  rw [hu] at hu'
  cases hu'
  have S0 := StR.args (W := W) a1.st.same rs
  refine ⟨G1, .pm x :: ds.map .d, fpSet (fun _ => []) 0 (fp1 i), r, .pm y :: as', ⟨by have := S0.len; simp [this, rs.length], fun j o s q1 q2 => ?_, fun j hj => ?_, fun j => ?_, fun j l z q1 q2 => ?_, fun j z q => ?_, a1.st.same⟩, ?_, ?_, hF, fun v bs G' H' fp' fr o nd nb S' sub => ?_⟩
  · cases j with
    | zero =>
      simp at q1 q2
      subst q1 q2
      exact .pm ow
    | succ j => exact S0.sl j o s (by simpa using q1) (by simpa using q2)
  · exact if_neg (by simp at hj; omega)
  · unfold fpSet
    split
    · exact a1.st.nd i
    · exact List.nodup_nil
  · rcases fpSet_in q1 with ⟨e1, _⟩ | ⟨_, m⟩
    · rcases fpSet_in q2 with ⟨e2, _⟩ | ⟨_, m⟩
      · rw [e1, e2]
      · exact nomatch m
    · exact nomatch m
  · rcases fpSet_in q with ⟨e1, m⟩ | ⟨_, m⟩
    · exact a1.st.fr i z m
    · exact nomatch m
  · rw [List.length_cons, List.length_map]; exact hn
  · intro s hs
    rcases List.mem_cons.mp hs with rfl | hs
    · rfl
    · obtain ⟨d, _, rfl⟩ := List.mem_map.mp hs
      rfl
  · have inn : ∀ z, FP.In (fpSet (fun _ => []) 0 (fp1 i)) z → z ∈ fp1 i := fun z hz => by
      obtain ⟨j, hj⟩ := hz
      rcases fpSet_in hj with ⟨_, m⟩ | ⟨_, m⟩
      · exact m
      · exact nomatch m
    have sub0 : ∀ z ∈ fp' 0, z ∈ fp1 i ∨ H1 z = none := fun z hz => by
      rcases sub 0 z hz with m | m
      · exact .inl (inn z ⟨0, m⟩)
      · exact .inr m
    have h0 : ∃ o', (V.ref 0 :: us).map some = some (V.ref 0) :: us.map some ∧ SlR W G' H' o' (.pm y) (fp' 0) ∧ o' = some u := ⟨some u, rfl, S'.sl 0 _ _ rfl rfl, rfl⟩
    obtain ⟨o', _, r0, ho'⟩ := h0
    subst ho'
    have ow' : Own W G' H' u y (fp' 0) := by
      generalize hfp : fp' 0 = as0 at r0 ⊢
      cases r0 with
      | pm q => exact q
    have keep : ∀ j z, j ≠ i → z ∈ fp1 j → H' z = H1 z ∧ G' z = none := fun j z hj hz => by
      cases e : H1 z with
      | none => exact absurd e (a1.st.there hz)
      | some q =>
        obtain ⟨h1, h2⟩ := fr.keep z q e fun m => hj (a1.st.dj j i z hz (inn z m))
        exact ⟨h1, h2.trans (a1.st.fr j z hz)⟩
    have a2 := own_turn (G' := G') (H' := H') a1 hx hu fr.gsub keep S'.same ow' (S'.nd 0) (fun z hz => ⟨S'.fr 0 z hz, fun j hj hm => by
      rcases sub0 z hz with m | m
      · exact hj (a1.st.dj j i z hm m)
      · exact a1.st.there hm m⟩) (fr.mono fun z m => .inl ⟨i, inn z m⟩) fun z hz => by
        rcases sub0 z hz with m | m
        · exact .inl m
        · exact .inr (.inr (a1.fr.live z m))
    refine k v bs G' H' _ a2 o ⟨nd, fun z hz => ⟨(nb z hz).1, .inr (a1.fr.live z (nb z hz).2.1), fun j hj => ?_⟩⟩
    rcases fpSet_in hj with ⟨e1, m⟩ | ⟨_, m⟩
    · exact (nb z hz).2.2 0 m
    · exact a1.st.there m (nb z hz).2.1
theorem de_callR {x y : Str} (i : Nat) {n : Nat} {F : Fn} {es : List Expr} {g : M (List Dt)} {p p2 : Pos} (h : GFn B x (n + 1) F) (ha : DAn B N sc n es g) (hN : N.ns[i]? = some y := by rfl) (hv : Vis sc y := by first | exact Or.inl rfl | exact Or.inr (Or.inl rfl) | exact Or.inr (Or.inr rfl))
    (hg : sc.names.lookup x = some .globalImplicit := by rfl) (hd : (y == ("__debug__" : Str)) = false := by decide) (hcd : (y == ("__classdict__" : Str)) = false := by decide)
    (hdb : (x == ("__debug__" : Str)) = false := by decide) (he : ∀ X : Cx, starEach (.Name y p2 :: es) X.env = (false, eval (.Name y p2) X.env) :: starEach es X.env := by intro _; rfl) (hpl : ∀ X : Cx, (backTo pos (starEach es X.env)).any (·.1) = false := by intro _; rfl) :
    DE B N sc (.Call (.Name x p) (.Name y p2 :: es) [] pos) (eCallR i F g) := by
  obtain ⟨f, fd, ps, k, hk, hn, hm, kp, hb, ok⟩ := h.ex
  obtain ⟨⟨t, pt, sa⟩, hl⟩ := ha
  refine ⟨tCall (spD B.W (n + 1) F) [] E0 (tCons (tVar i) t), fun X c => ?_, fun G σ H env fp v env' Q S hf k => ?_⟩
  · exact pe_call (CX := CX0) (ds := []) (k := k) (f := f) (fd := fd) (ps := ps) (by rw [c.prog, c.w, c.K, c.mg, c.base]; exact ok) (c.room.mono hk) (c.gl hg) (by rw [c.mg]; exact hm) (by rw [c.K]; exact kp) (by rw [c.K]; exact hb) .nil pass0 (pa_cons (c.var i hN hv hd hcd) (pt X c) (he X)) hdb (he X) (hpl X)
  · unfold eCallR at hf
    split at hf
    · cases hf
    · rename_i x0 hx0
      obtain ⟨u, hu, _, _⟩ := own_get S hx0
      split at hf
      · cases hf
      · rename_i ds e1 h1
        split at hf
        · cases hf
        · rename_i x1 hx1
          split at hf
          · rename_i r y as' hF
            cases hf
            refine ⟨u, hu, sa G σ H env fp ds e1 _ S h1 fun us G1 H1 fp1 a1 rs => ?_⟩
            show spD B.W (n + 1) F (u :: us ++ []) H1 Q E0
            rw [List.append_nil]
            exact callR_sem a1 hx1 hu rs hF (by rw [hl _ _ _ h1]) k
          · cases hf
/-- o.m(..) where o, in slot i, is changed -/
def eMethR (i : Nat) (c : Str) (F : Fn) (g : M (List Dt)) : M Vl := fun env => match ownAt env i with
  | some (.o c' _) => if c' = c then eCallR i F g env else none
  | _ => none
theorem methR_sem {W : Wd} {c m : Str} {F : Fn} {n i : Nat} {t : TA} {g : M (List Dt)} (hno : m ∉ W.fl c) (h2 : SemA W t g) (hl : ∀ env xs env', g env = some (xs, env') → xs.length + 1 = n) :
    SemE W (tMeth (W.cA c) m (spD W n F) [] E0 (tVar i) t) (eMethR i c F g) := by
  intro G σ H env fp v env' Q S hf k
  unfold eMethR at hf
  split at hf
  · rename_i c' xs0 hx0
    split at hf
    · rename_i hc
      subst hc
      obtain ⟨u, hu, ow, hi⟩ := own_get S hx0
      unfold eCallR at hf
      rw [hx0] at hf
      simp only at hf
      split at hf
      · cases hf
      · rename_i ds e1 h1
        split at hf
        · cases hf
        · rename_i x1 hx1
          split at hf
          · rename_i r y as' hF
            cases hf
            generalize hfi : fp i = as at ow
            cases ow with
            | o hH hl' rs =>
            rename_i a dx vs
            refine ⟨_, hu, a, dx, _, rfl, hH, zip_no hno, h2 G σ H env fp ds e1 _ S h1 fun us G1 H1 fp1 a1 rs => ?_⟩
            rw [List.append_nil]
            exact callR_sem a1 hx1 hu rs hF (hl _ _ _ h1) k
          · cases hf
    · cases hf
  · cases hf
theorem de_methR {c m y : Str} (i : Nat) {F : Fn} {n : Nat} {es : List Expr} {g : M (List Dt)} {apos p2 : Pos} {pl : Cx → Sem Bool} (C : ClsF B c) (h : GMe B c m (n + 2) F) (h2 : DAn B N sc (n + 1) (e :: es) g)
    (hN : N.ns[i]? = some y := by rfl) (hv : Vis sc y := by first | exact Or.inl rfl | exact Or.inr (Or.inl rfl) | exact Or.inr (Or.inr rfl)) (hd : (y == ("__debug__" : Str)) = false := by decide) (hcd : (y == ("__classdict__" : Str)) = false := by decide)
    (hst : ∀ X : Cx, starEach (e :: es) X.env = (false, eval e X.env) :: starEach es X.env := by intro _; rfl) (hpl : ∀ X : Cx, (backTo pos (starEach es X.env)).any (·.1) = false := by intro _; rfl)
    (ht : ∀ X : Cx, eval (.Call (.Attribute (.Name y p2) m apos) (e :: es) [] pos) X.env = (do
      let ov ← eval (.Name y p2) X.env
      standAt apos.atName
      let (f, first) ← holding [ov] (getMethod ov m (pl X))
      callWith pos f first (backTo pos (starEach (e :: es) X.env)) (backToKw pos (keywordEach [] X.env))) := by intro _; rfl) :
    DE B N sc (.Call (.Attribute (.Name y p2) m apos) (e :: es) [] pos) (eMethR i c F g) := by
  obtain ⟨fA, fd, ps, k, hk, hn, hm, hb, ok⟩ := h.ex
  obtain ⟨⟨t, pt, sa⟩, hl⟩ := h2
  refine ⟨_, fun X c => ?_, methR_sem h.no sa fun env xs env' q => by rw [hl _ _ _ q]⟩
  exact pe_meth (CX := CX0) (f := fA) (fd := fd) (ps := ps) (k := k) (ds := []) (pl := pl X) (c.var i hN hv hd hcd) (by rw [c.K]; exact C.cl) (by rw [c.K]; exact hm) (by rw [c.prog, c.w, c.K, c.mg, c.base]; exact ok) (c.room.mono hk) (by rw [c.K]; exact hb) .nil pass0 (pt X c) (hst X) (hpl X) (ht X)
theorem de_methR0 {c m y : Str} (i : Nat) {F : Fn} {apos p2 : Pos} {pl : Cx → Sem Bool} (C : ClsF B c) (h : GMe B c m 1 F)
    (hN : N.ns[i]? = some y := by rfl) (hv : Vis sc y := by first | exact Or.inl rfl | exact Or.inr (Or.inl rfl) | exact Or.inr (Or.inr rfl)) (hd : (y == ("__debug__" : Str)) = false := by decide) (hcd : (y == ("__classdict__" : Str)) = false := by decide)
    (ht : ∀ X : Cx, eval (.Call (.Attribute (.Name y p2) m apos) [] [] pos) X.env = (do
      let ov ← eval (.Name y p2) X.env
      standAt apos.atName
      let (f, first) ← holding [ov] (getMethod ov m (pl X))
      callWith pos f first (backTo pos (starEach [] X.env)) (backToKw pos (keywordEach [] X.env))) := by intro _; rfl) :
    DE B N sc (.Call (.Attribute (.Name y p2) m apos) [] [] pos) (eMethR i c F aNil) := by
  obtain ⟨fA, fd, ps, k, hk, hn, hm, hb, ok⟩ := h.ex
  refine ⟨tMeth (B.W.cA c) m (spD B.W 1 F) [] E0 (tVar i) tNil, fun X c => ?_, methR_sem h.no (fun G σ H env fp v env' Q S hf k => by cases hf; exact k [] G H fp (Aft.refl S) .nil) fun env xs env' q => by cases q; rfl⟩
  exact pe_meth0 (CX := CX0) (f := fA) (fd := fd) (ps := ps) (k := k) (ds := []) (pl := pl X) (c.var i hN hv hd hcd) (by rw [c.K]; exact C.cl) (by rw [c.K]; exact hm) (by rw [c.prog, c.w, c.K, c.mg, c.base]; exact ok) (c.room.mono hk) (by rw [c.K]; exact hb) .nil pass0 (ht X)
/-- f(value), the value new and changed by f -/
def eCallO (F : Fn) (f : M Vl) : M Vl := bnd f fun x => opt ((F [.pm x]).map (·.1))
theorem de_callO {x : Str} {F : Fn} {f : M Vl} {p : Pos} (h : GFn B x 1 F) (ha : DE B N sc e f) (hg : sc.names.lookup x = some .globalImplicit := by rfl)
    (hdb : (x == ("__debug__" : Str)) = false := by decide) (he : ∀ X : Cx, starEach [e] X.env = (false, eval e X.env) :: starEach [] X.env := by intro _; rfl) :
    DE B N sc (.Call (.Name x p) [e] [] pos) (eCallO F f) := by
  obtain ⟨fA, fd, ps, k, hk, hn, hm, kp, hb, ok⟩ := h.ex
  obtain ⟨t, pt, se⟩ := ha
  refine ⟨tCall (spD B.W 1 F) [] E0 (tCons t tNil), fun X c => ?_, fun G σ H env fp v env' Q S hf k => ?_⟩
  · exact pe_call (CX := CX0) (ds := []) (k := k) (f := fA) (fd := fd) (ps := ps) (by rw [c.prog, c.w, c.K, c.mg, c.base]; exact ok) (c.room.mono hk) (c.gl hg) (by rw [c.mg]; exact hm) (by rw [c.K]; exact kp) (by rw [c.K]; exact hb) .nil pass0 (pa_cons (pt X c) pa_nil (he X)) hdb (he X) rfl
  · obtain ⟨x1, e1, h1, hf2⟩ := bnd_some hf
    obtain ⟨hf3, rfl⟩ := opt_some hf2
    simp only [Option.map_eq_some_iff] at hf3
    obtain ⟨⟨r, as'⟩, hF, rfl⟩ := hf3
    · refine se G σ H env fp x1 _ _ S h1 fun u as G1 H1 fp1 a1 ou nu => ?_
      show spD B.W 1 F ([u] ++ []) H1 Q E0
      refine ⟨G1, [.pm x1], fpSet (fun _ => []) 0 as, _, as', ⟨rfl, fun j o s q1 q2 => ?_, fun j hj => ?_, fun j => ?_, fun j l z q1 q2 => ?_, fun j z q => ?_, a1.st.same⟩, rfl, ?_, hF, fun v bs G' H' fp' fr o nd nb S' sub => ?_⟩
      · cases j with
        | zero =>
          simp at q1 q2
          subst q1 q2
          exact .pm ou
        | succ j => simp at q2
      · exact if_neg (by simp at hj; omega)
      · unfold fpSet
        split
        · exact nu.1
        · exact List.nodup_nil
      · rcases fpSet_in q1 with ⟨e1, _⟩ | ⟨_, m⟩
        · rcases fpSet_in q2 with ⟨e2, _⟩ | ⟨_, m⟩
          · rw [e1, e2]
          · exact nomatch m
        · exact nomatch m
      · rcases fpSet_in q with ⟨e1, m⟩ | ⟨_, m⟩
        · exact (nu.2 z m).1
        · exact nomatch m
      · intro s hs
        rw [List.mem_singleton.mp hs]; rfl
      · have inn : ∀ z, FP.In (fpSet (fun _ => []) 0 as) z → z ∈ as := fun z hz => by
          obtain ⟨j, hj⟩ := hz
          rcases fpSet_in hj with ⟨_, m⟩ | ⟨_, m⟩
          · exact m
          · exact nomatch m
        have st2 := a1.st.step fr (fun j z hz m => (nu.2 z (inn z m)).2.2 j hz) S'.same
        have fr2 : Fr fp.In G H G' H' := a1.fr.trans fr fun z m => by
          rcases (nu.2 z (inn z m)).2.1 with ⟨j, hj, _⟩ | q
          · exact .inl ⟨j, hj⟩
          · exact .inr q
        exact k v bs G' H' fp1 ⟨st2, fr2, a1.sub, a1.pk⟩ o ⟨nd, fun z hz => ⟨(nb z hz).1, .inr (a1.fr.live z (nb z hz).2.1), fun j hj => a1.st.there hj (nb z hz).2.1⟩⟩
def Dt.flat : Dt → Bool
  | .non => true
  | .bl _ => true
  | .int _ => true
  | .str _ => true
  | _ => false
theorem Rep.flat {W : Wd} {G G' : Hp} {v : V} {x : Dt} (r : Rep W G v x) (h : x.flat = true) : Rep W G' v x := by
  cases r <;> first | (simp [Dt.flat] at h; done) | constructor
def Sl.frz : Sl → Sl
  | .w x => .d x.froz
  | .pm x => .d x.froz
  | s => s
def eBor (f : M Dt) : M Dt := fun env => match f (env.map Sl.frz) with
  | some (x, _) => if x.flat = true then some (x, env) else none
  | none => none
open Classical in
theorem dd_bor {f : M Dt} (h : DD B N sc e f) : DD B N sc e (eBor f) := by
  obtain ⟨t, p, r⟩ := h
  refine ⟨t, p, fun G σ H env fp v env' Q S hf k => ?_⟩
  unfold eBor at hf
  split at hf
  · rename_i x e1 h1
    split at hf
    · rename_i hfl
      cases hf
      let G2 : Hp := fun b => if fp.In b then H b else G b
      have g2in : ∀ z, fp.In z → G2 z = H z := fun z m => if_pos m
      have g2out : ∀ z, ¬ fp.In z → G2 z = G z := fun z m => if_neg m
      have gs : Same G G2 := fun z o hz => by
        rw [g2out z fun ⟨j, m⟩ => by rw [S.fr j z m] at hz; cases hz]; exact hz
      have sm : Same G2 H := fun z o hz => by
        by_cases m : fp.In z
        · rw [g2in z m] at hz; exact hz
        · rw [g2out z m] at hz; exact S.same z o hz
      have S2 : StR B.W G2 σ H (env.map Sl.frz) (fun _ => []) := by
        refine ⟨by rw [List.length_map]; exact S.len, fun i o s h1 h2 => ?_, fun _ _ => rfl, fun _ => List.nodup_nil, (fun _ _ _ h => nomatch h), (fun _ _ h => nomatch h), sm⟩
        rw [List.getElem?_map] at h2
        cases hs : env[i]? with
        | none => rw [hs] at h2; cases h2
        | some s0 =>
          rw [hs] at h2
          cases h2
          have q := S.sl i o s0 h1 hs
          have fz : ∀ a ∈ fp i, G2 a = H a := fun a ha => g2in a ⟨i, ha⟩
          generalize hfi : fp i = as at q
          cases q with
          | un => exact .un
          | d r => exact .d (r.mono gs)
          | w r => exact .d (r.frz gs (hfi ▸ fz))
          | pm r => exact .d (r.frz gs (hfi ▸ fz))
      refine r G2 σ H _ _ _ e1 _ S2 h1 fun u G' H' fp' a1 rx => ?_
      have hk : ∀ z o, H z = some o → H' z = some o := fun z o hz => (a1.fr.keep z o hz fun ⟨j, m⟩ => nomatch m).1
      have st : StR B.W G σ H' env fp := S.move (Same.refl G) (fun i a ha => by
        cases e : H a with
        | none => exact absurd e (S.there ha)
        | some o => exact hk a o e) S.fr fun z o hz => hk z o (S.same z o hz)
      exact k u G H' fp ⟨st, ⟨fun z o hz _ => ⟨hk z o hz, rfl⟩, Same.refl G, a1.fr.live⟩, fun i a h => .inl ⟨i, h, .inr rfl⟩, PmK.refl⟩ (rx.flat hfl)
    · cases hf
  · cases hf
def eBorT (f : M Bool) : M Bool := fun env => match f (env.map Sl.frz) with
  | some (x, _) => some (x, env)
  | none => none
end
end DL
set_option Elab.async false
set_option linter.all false
set_option maxRecDepth 100000
namespace DL
open PySem L2
def clr : List Nat → DEnv → Option DEnv
  | [], env => some env
  | v :: vs, env => match clr vs env with
    | none => none
    | some e => match e[v]? with
      | some .un => some (e.set v .un)
      | some (.d _) => some (e.set v .un)
      | _ => none
def rst : List Nat → DEnv → DEnv → DEnv
  | [], _, e => e
  | v :: vs, env, e => match env[v]? with
    | some s => (rst vs env e).set v s
    | none => rst vs env e
theorem clr_len : ∀ {vs : List Nat} {env e : DEnv}, clr vs env = some e → e.length = env.length
  | [], _, _, h => by cases h; rfl
  | v :: vs, env, e, h => by
    simp only [clr] at h
    split at h
    · cases h
    · rename_i e1 h1
      split at h
      · cases h; rw [List.length_set, clr_len h1]
      · cases h; rw [List.length_set, clr_len h1]
      · cases h
theorem clr_get : ∀ {vs : List Nat} {env e : DEnv} {i : Nat}, clr vs env = some e → i ∉ vs → e[i]? = env[i]?
  | [], _, _, _, h, _ => by cases h; rfl
  | v :: vs, env, e, i, h, n => by
    have n1 : v ≠ i := fun q => n (by simp [q])
    have n2 : i ∉ vs := fun q => n (List.mem_cons_of_mem _ q)
    simp only [clr] at h
    split at h
    · cases h
    · rename_i e1 h1
      split at h
      · cases h; rw [List.getElem?_set_ne n1, clr_get h1 n2]
      · cases h; rw [List.getElem?_set_ne n1, clr_get h1 n2]
      · cases h
/-- the slots that are wiped held data or nothing -/
theorem clr_was : ∀ {vs : List Nat} {env e : DEnv} {i : Nat}, clr vs env = some e → i ∈ vs → e[i]? = some .un ∧ (env[i]? = some .un ∨ ∃ x, env[i]? = some (.d x))
  | [], _, _, _, _, h => nomatch h
  | v :: vs, env, e, i, h, m => by
    simp only [clr] at h
    split at h
    · cases h
    · rename_i e1 h1
      have key : ∀ s, e1[v]? = some s → (s = .un ∨ ∃ x, s = .d x) → e = e1.set v .un → e[i]? = some .un ∧ (env[i]? = some .un ∨ ∃ x, env[i]? = some (.d x)) := fun s hs hk he => by
        subst he
        by_cases q : v = i
        · subst q
          refine ⟨List.getElem?_set_self (List.getElem?_eq_some_iff.mp hs).1, ?_⟩
          by_cases hv : v ∈ vs
          · exact (clr_was h1 hv).2
          · rw [← clr_get h1 hv, hs]
            rcases hk with rfl | ⟨x, rfl⟩
            · exact .inl rfl
            · exact .inr ⟨x, rfl⟩
        · rcases List.mem_cons.mp m with z | z
          · exact absurd z.symm q
          · rw [List.getElem?_set_ne q]
            exact clr_was h1 z
      split at h
      · rename_i hs; cases h; exact key _ hs (.inl rfl) rfl
      · rename_i x hs; cases h; exact key _ hs (.inr ⟨x, rfl⟩) rfl
      · cases h
theorem rst_len : ∀ {vs : List Nat} {env e : DEnv}, (rst vs env e).length = e.length
  | [], _, _ => rfl
  | v :: vs, env, e => by
    unfold rst
    split
    · rw [List.length_set, rst_len]
    · exact rst_len
theorem rst_out : ∀ {vs : List Nat} {env e : DEnv} {i : Nat}, i ∉ vs → (rst vs env e)[i]? = e[i]?
  | [], _, _, _, _ => rfl
  | v :: vs, env, e, i, n => by
    have n1 : v ≠ i := fun q => n (by simp [q])
    have n2 : i ∉ vs := fun q => n (List.mem_cons_of_mem _ q)
    unfold rst
    split
    · rw [List.getElem?_set_ne n1, rst_out n2]
    · exact rst_out n2
theorem rst_in : ∀ {vs : List Nat} {env e : DEnv} {i : Nat}, i ∈ vs → e.length = env.length → (rst vs env e)[i]? = env[i]?
  | [], _, _, _, h, _ => nomatch h
  | v :: vs, env, e, i, m, hl => by
    unfold rst
    by_cases q : v = i
    · subst q
      split
      · rename_i s hs
        rw [hs, List.getElem?_set_self]
        rw [rst_len, hl]
        exact (List.getElem?_eq_some_iff.mp hs).1
      · rename_i hs
        rw [hs]
        exact List.getElem?_eq_none (by rw [rst_len, hl]; exact List.getElem?_eq_none_iff.mp hs)
    · have m' : i ∈ vs := by
        rcases List.mem_cons.mp m with z | z
        · exact absurd z.symm q
        · exact z
      split
      · rw [List.getElem?_set_ne q, rst_in m' hl]
      · exact rst_in m' hl
theorem wipe_out : ∀ {vs : List Nat} {σ : L2.St} {i : Nat}, i ∉ vs → (wipe σ vs)[i]? = σ[i]?
  | [], _, _, _ => rfl
  | v :: vs, σ, i, n => by
    unfold wipe
    rw [List.getElem?_set_ne fun q => n (by simp [q]), wipe_out fun q => n (List.mem_cons_of_mem _ q)]
theorem wipe_in : ∀ {vs : List Nat} {σ : L2.St} {i : Nat}, i ∈ vs → (wipe σ vs)[i]? = if i < σ.length then some none else none
  | [], _, _, h => nomatch h
  | v :: vs, σ, i, m => by
    unfold wipe
    by_cases q : v = i
    · subst q
      rw [List.getElem?_set, if_pos rfl, wipe_length]
    · rw [List.getElem?_set_ne q]
      rcases List.mem_cons.mp m with z | z
      · exact absurd z.symm q
      · exact wipe_in z
theorem wipe_eq {vs js : List Nat} {σ σ2 : L2.St} (hj : Keeps js σ σ2) (hs : ∀ j ∈ js, j ∈ vs) : wipe σ2 vs = wipe σ vs := by
  apply List.ext_getElem?
  intro i
  by_cases m : i ∈ vs
  · rw [wipe_in m, wipe_in m, hj.len]
  · rw [wipe_out m, wipe_out m, hj.off i fun q => m (hs i q)]
section
variable {W : Wd} {G G' H H' : Hp} {σ σ2 : L2.St} {env env0 e3 : DEnv} {fp fp' : FP}
theorem fp_nil (S : StR W G σ H env fp) {i : Nat} (h : env[i]? = some .un ∨ ∃ x, env[i]? = some (.d x)) : fp i = [] := by
  rcases h with h | ⟨x, h⟩
  · obtain ⟨o, _, r⟩ := S.get h
    generalize hfi : fp i = as at r
    cases r; rfl
  · obtain ⟨o, _, r⟩ := S.get h
    generalize hfi : fp i = as at r
    cases r; rfl
/-- within the block: its own slots are empty -/
theorem StR.wipe (S : StR W G σ H env fp) {vs : List Nat} (h : clr vs env = some env0) : StR W G (L2.wipe σ vs) H env0 fp := by
  refine ⟨by rw [wipe_length, clr_len h]; exact S.len, fun i o s h1 h2 => ?_, fun i hi => S.out i (by rw [← clr_len h]; exact hi), S.nd, S.dj, S.fr, S.same⟩
  by_cases m : i ∈ vs
  · obtain ⟨e1, e2⟩ := clr_was h m
    rw [e1] at h2
    cases h2
    rw [fp_nil S e2]
    exact .un
  · rw [clr_get h m] at h2
    rw [wipe_out m] at h1
    exact S.sl i o s h1 h2
theorem cls_clr {vs : List Nat} (h : clr vs env = some env0) (j : Nat) : cls env0 j = cls env j := by
  by_cases m : j ∈ vs
  · obtain ⟨e1, e2⟩ := clr_was h m
    unfold cls
    rw [e1]
    rcases e2 with e2 | ⟨x, e2⟩ <;> rw [e2]
  · unfold cls
    rw [clr_get h m]
def fpOut (fp : FP) (vs : List Nat) : FP := fun i => if i ∈ vs then [] else fp i
theorem fpOut_in {vs : List Nat} {i : Nat} {a : Addr} (h : a ∈ fpOut fp vs i) : i ∉ vs ∧ a ∈ fp i := by
  unfold fpOut at h
  split at h
  · exact nomatch h
  · rename_i n; exact ⟨n, h⟩
/-- behind the block's turn: the slots as they were ahead of it -/
theorem Aft.unwipe (S : StR W G σ H env fp) {vs js : List Nat} (h : clr vs env = some env0) (a : Aft W G (L2.wipe σ vs) H env0 fp G' σ2 H' e3 fp') (hj : Keeps js (L2.wipe σ vs) σ2) (hs : ∀ j ∈ js, j ∈ vs) :
    AftE W G σ H env fp G' H' (rst vs env e3) (fpOut fp' vs) := by
  have hl : e3.length = env.length := by rw [← a.st.len, hj.len, wipe_length]; exact S.len
  have pmno : ∀ i x, env[i]? = some (.pm x) → i ∉ vs := fun i x hx m => by
    rcases (clr_was h m).2 with e | ⟨y, e⟩ <;> rw [hx] at e <;> cases e
  refine ⟨⟨by rw [rst_len, hl]; exact S.len, fun i o s h1 h2 => ?_, fun i hi => ?_, fun i => ?_, fun i j x h1 h2 => a.st.dj i j x (fpOut_in h1).2 (fpOut_in h2).2, fun i x hx => a.st.fr i x (fpOut_in hx).2, a.st.same⟩, a.fr, fun i x hx => ?_, fun i x hx => ?_⟩
  · by_cases m : i ∈ vs
    · have e1 : fpOut fp' vs i = [] := if_pos m
      rw [e1]
      rw [rst_in m hl] at h2
      have q := S.sl i o s h1 h2
      rw [fp_nil S (clr_was h m).2] at q
      exact q.keep a.fr.gsub fun _ z => nomatch z
    · have e1 : fpOut fp' vs i = fp' i := if_neg m
      rw [e1]
      rw [rst_out m] at h2
      refine a.st.sl i o s ?_ h2
      rw [hj.off i fun q => m (hs i q), wipe_out m]
      exact h1
  · unfold fpOut
    split
    · rfl
    · exact a.st.out i (by rw [rst_len] at hi; exact hi)
  · unfold fpOut
    split
    · exact List.nodup_nil
    · exact a.st.nd i
  · obtain ⟨m, hx⟩ := fpOut_in hx
    rcases a.sub i x hx with ⟨j, hj', c⟩ | q
    · refine .inl ⟨j, hj', ?_⟩
      rw [cls_clr h] at c
      rcases c with c | c
      · exact .inl c
      · refine .inr (c.trans ?_)
        unfold cls
        rw [rst_out m]
    · exact .inr q
  · have m := pmno i x hx
    obtain ⟨⟨y, hy⟩, hσ⟩ := a.pk i x (by rw [clr_get h m]; exact hx)
    exact ⟨⟨y, by rw [rst_out m]; exact hy⟩, rfl⟩
end
def lcF (vs : List Nat) (g : Dt → DEnv → Option DEnv) (c : M Bool) (f : M Vl) : List Dt → List Vl → M (List Vl)
  | [], acc => fun env => some (acc, env)
  | x :: xs, acc => fun env => match clr vs env with
    | none => none
    | some e0 => match g x e0 with
      | none => none
      | some e1 => match c e1 with
        | none => none
        | some (false, e2) => lcF vs g c f xs acc (rst vs env e2)
        | some (true, e2) => match f e2 with
          | none => none
          | some (v, e3) => if acc.length < sizeLine then lcF vs g c f xs (acc ++ [v]) (rst vs env e3) else none
def eLc (vs : List Nat) (it : M (List Dt)) (g : Dt → DEnv → Option DEnv) (c : M Bool) (f : M Vl) : M Vl := bnd it fun xs => bnd (lcF vs g c f xs []) fun ys => ret (.l ys)
/-- the tests of a comprehension: none, or one -/
def DTs (B : Bs) (N : Nm) (sc : Scope) (es : List Expr) (f : M Bool) : Prop := ∃ t, (∀ X, Cxt B N sc X → PTs X es t) ∧ SemT B.W t f
section
variable {B : Bs} {N : Nm} {sc : Scope} {e a b : Expr} {pos : Pos}
theorem dts_nil : DTs B N sc [] (ret true) := ⟨_, fun _ _ => pts_nil, fun G σ H env fp v env' Q S hf k => by cases hf; exact k _ _ _ (Aft.refl S)⟩
theorem dts_one {f : M Bool} (h : DT B N sc e f) : DTs B N sc [e] f := by
  obtain ⟨t, p, r⟩ := h
  exact ⟨t, fun X c => pts_one (p X c), r⟩
def blkN (N : Nm) (scope : Scope) : Nm := ⟨N.ns, (scope.names.filter fun y => y.2 == .cell).map (·.1)⟩
theorem lookup_of {l : List (Str × NameKind)} {x : Str} {k : NameKind} (h : (x, k) ∈ l) (u : ∀ y ∈ l, l.lookup y.1 = some y.2) : l.lookup x = some k := u _ h
theorem Cxt.blk {X : Cx} (c : Cxt B N sc X) (s : Shared) (H : Hp) (scope : Scope) (C : Addr) (cl : List (Str × Addr)) (fp : List Addr) (u : ∀ y ∈ scope.names, scope.names.lookup y.1 = some y.2) : Cxt B (blkN N scope) (relS scope sc) (X.blk s H scope (compEnvC scope cl C X.env) fp) :=
  ⟨c.prog, c.w, c.K, c.mg, c.base, c.names, c.nd, by rw [← c.scope]; rfl, c.calm, c.room, fun x hx => by
    obtain ⟨⟨y, k⟩, hy, rfl⟩ := List.mem_map.mp hx
    obtain ⟨h1, h2⟩ := List.mem_filter.mp hy
    show (scope.names.lookup y == some .cell) = true
    rw [u _ h1]
    have : k = .cell := by simpa using h2
    rw [this]
    rfl, rfl⟩
theorem wipe_wipe {vs : List Nat} {σ : L2.St} : wipe (wipe σ vs) vs = wipe σ vs := by
  apply List.ext_getElem?
  intro i
  by_cases m : i ∈ vs
  · rw [wipe_in m, wipe_in m, wipe_length]
  · rw [wipe_out m]
theorem lc_sem {W : Wd} {wi : TI} {tg : TG} {tt : TT} {te : TE} {vs js : List Nat} {it : M (List Dt)} {g : Dt → DEnv → Option DEnv} {c : M Bool} {f : M Vl} (ri : SemI W wi it) (rg : SemG W tg js g) (rt : SemT W tt c) (re : SemE W te f) (hs : ∀ j ∈ js, j ∈ vs) :
    SemE W (tLc wi tg tt te vs) (eLc vs it g c f) := by
  intro G σ H env fp v env' Q S hf k
  obtain ⟨xs, e1, h1, hf2⟩ := bnd_some hf
  obtain ⟨ys, e2, h2, hf3⟩ := bnd_some hf2
  cases hf3
  refine ri G σ H env fp xs e1 _ S h1 fun J G1 H1 fp1 a1 hJ => fun D hD => ?_
  refine ⟨fun i m H2 => ∃ G2 env2 fp2 us acc as, AftE W G σ H env fp G2 H2 env2 fp2 ∧ Same G1 G2 ∧ H2 D = some (.lst us) ∧ Owns W G2 H2 us acc as ∧ New env fp H G2 fp2 (D :: as) ∧ lcF vs g c f (xs.drop i) acc env2 = some (ys, env') ∧ m = xs.length - i ∧ i ≤ xs.length,
    ⟨xs.length, G1, e1, fp1, [], [], [], a1.step (Fr.new hD) (Same.new a1.st.same hD), Same.refl _, upd_same, .nil, ⟨by simp, fun z hz => ?_⟩, h2, rfl, Nat.zero_le _⟩, ?_⟩
  · rw [List.mem_singleton.mp hz]
    exact ⟨a1.st.same.free hD, .inr (a1.fr.live D hD), fun i hi => a1.st.there hi hD⟩
  · rintro i m H2 ⟨G2, env2, fp2, us, acc, as, a2, sm, hH, os, nw, hl, rfl, hi⟩
    have hj := hJ G2 H2 sm a2.st.same i
    by_cases hlt : i < xs.length
    · have ex : xs[i]? = some xs[i] := List.getElem?_eq_getElem hlt
      rw [List.drop_eq_getElem_cons hlt] at hl
      simp only [lcF] at hl
      obtain ⟨go, yl⟩ := hj.1 _ ex
      refine .inr ⟨go, fun H' => ∃ m', m' < xs.length - i ∧ ∃ G2 env2 fp2 us acc as, AftE W G σ H env fp G2 H' env2 fp2 ∧ Same G1 G2 ∧ H' D = some (.lst us) ∧ Owns W G2 H' us acc as ∧ New env fp H G2 fp2 (D :: as) ∧ lcF vs g c f (xs.drop (i + 1)) acc env2 = some (ys, env') ∧ m' = xs.length - (i + 1) ∧ i + 1 ≤ xs.length, fun _ q => q, fun u H3 hy => ?_⟩
      obtain ⟨G3, f3, s3, r3⟩ := yl u H3 hy
      have a3 := a2.step f3 s3
      cases hc : clr vs env2 with
      | none => rw [hc] at hl; cases hl
      | some e0 =>
        rw [hc] at hl
        simp only at hl
        cases hg : g xs[i] e0 with
        | none => rw [hg] at hl; cases hl
        | some e4 =>
          rw [hg] at hl
          simp only at hl
          have S3 := a3.st.wipe hc
          refine rg G3 (wipe σ vs) H3 e0 fp2 u _ e4 _ S3 r3 hg fun σ4 fp4 a4 kp => ⟨(wipe_eq kp hs).trans wipe_wipe, ?_⟩
          -- what stands of the new list through the turn
          have stand : ∀ (G' H' : Hp), Fr fp2.In G3 H3 G' H' → H' D = some (.lst us) ∧ Owns W G' H' us acc as ∧ (∀ z ∈ D :: as, G' z = none ∧ H' z ≠ none) := fun G' H' fr => by
            have q : ∀ z ∈ D :: as, H' z = H2 z ∧ G' z = none ∧ H2 z ≠ none := fun z hz => by
              have nz : H2 z ≠ none := by
                rcases List.mem_cons.mp hz with e | hz
                · subst e; rw [hH]; exact fun z => nomatch z
                · exact os.there z hz
              cases e : H2 z with
              | none => exact absurd e nz
              | some o =>
                obtain ⟨h1, h2⟩ := f3.keep z o e fun z => z
                obtain ⟨h3, h4⟩ := fr.keep z o h1 fun ⟨j, m⟩ => (nw.2 z hz).2.2 j m
                exact ⟨h3, h4.trans (h2.trans (nw.2 z hz).1), fun z => nomatch z⟩
            refine ⟨(q D List.mem_cons_self).1.trans hH, os.keep (f3.gsub.trans fr.gsub) fun z hz => (q z (List.mem_cons_of_mem _ hz)).1, fun z hz => ⟨(q z hz).2.1, ?_⟩⟩
            rw [(q z hz).1]
            exact (q z hz).2.2
          have news : ∀ (G' H' : Hp) (fp' : FP), Fr fp2.In G3 H3 G' H' → (∀ i z, z ∈ fp' i → fp2.In z ∨ H3 z = none) → New env fp H G' fp' (D :: as) := fun G' H' fp' fr sb => by
            refine ⟨nw.1, fun z hz => ⟨((stand _ _ fr).2.2 z hz).1, (nw.2 z hz).2.1, fun j hj => ?_⟩⟩
            rcases sb j z hj with ⟨l, hl⟩ | q
            · exact (nw.2 z hz).2.2 l hl
            · have nz : H2 z ≠ none := by
                rcases List.mem_cons.mp hz with e | hz
                · subst e; rw [hH]; exact fun z => nomatch z
                · exact os.there z hz
              exact nz (f3.live z q)
          cases hcc : c e4 with
          | none => rw [hcc] at hl; cases hl
          | some pr =>
            obtain ⟨bb, e5⟩ := pr
            rw [hcc] at hl
            refine rt G3 σ4 H3 e4 fp4 bb e5 _ a4.st hcc fun G5 H5 fp5 a5 => ?_
            have a45 := a4.trans a5
            cases bb with
            | false =>
              refine iteF ?_
              simp only at hl
              have a6 := Aft.unwipe a3.st hc a45 kp hs
              have fr6 : Fr fp2.In G3 H3 G5 H5 := a6.fr
              obtain ⟨z1, z2, z3⟩ := stand _ _ fr6
              exact ⟨xs.length - (i + 1), by omega, G5, rst vs env2 e5, fpOut fp5 vs, us, acc, as, a3.trans a6, sm.trans (f3.gsub.trans fr6.gsub), z1, z2, news _ _ _ fr6 (fun j z hz => a6.inn ⟨j, hz⟩), hl, rfl, hlt⟩
            | true =>
              refine iteT ?_
              simp only at hl
              cases hfe : f e5 with
              | none => rw [hfe] at hl; cases hl
              | some pr =>
                obtain ⟨y, e6⟩ := pr
                rw [hfe] at hl
                simp only at hl
                split at hl
                · rename_i hlen
                  refine re G5 σ4 H5 e5 fp5 y e6 _ a5.st hfe fun w bs G6 H6 fp6 a6 ow nwy => ?_
                  have a456 := a45.trans a6
                  have a7 := Aft.unwipe a3.st hc a456 kp hs
                  have fr7 : Fr fp2.In G3 H3 G6 H6 := a7.fr
                  obtain ⟨z1, z2, z3⟩ := stand _ _ fr7
                  have nyy : New (e0 : DEnv) fp2 H3 G6 fp6 bs := a45.new nwy
                  have nws := news _ _ (fpOut fp6 vs) fr7 (fun j z hz => a7.inn ⟨j, hz⟩)
                  refine ⟨us, z1, by rw [z2.length]; exact hlen, ?_⟩
                  have nz2 : ∀ z ∈ D :: as, H2 z ≠ none := fun z hz => by
                    rcases List.mem_cons.mp hz with e | hz
                    · subst e; rw [hH]; exact fun z => nomatch z
                    · exact os.there z hz
                  have disj : ∀ z ∈ D :: as, z ∉ bs := fun z hz hb => by
                    rcases (nyy.2 z hb).2.1 with ⟨l, hl, _⟩ | q
                    · exact (nw.2 z hz).2.2 l hl
                    · exact nz2 z hz (f3.live z q)
                  have hDn : G6 D = none := (z3 D List.mem_cons_self).1
                  have f8 : Fr (fun z => z = D) G6 H6 G6 (upd H6 D (.lst (us ++ [w]))) := ⟨fun z o hz hn => ⟨by rw [upd_ne hn]; exact hz, rfl⟩, Same.refl _, fun z hz => by
                    by_cases e : z = D
                    · subst e; rw [upd_same] at hz; cases hz
                    · rw [upd_ne e] at hz; exact hz⟩
                  have s8 : Same G6 (upd H6 D (.lst (us ++ [w]))) := fun z o hz => by
                    rw [upd_ne fun e => by subst e; rw [hDn] at hz; cases hz]
                    exact a7.st.same z o hz
                  have nD : ∀ j, D ∉ fpOut fp6 vs j := (nws.2 D List.mem_cons_self).2.2
                  have a37 := a3.trans a7
                  have a8 : AftE W G σ H env fp G6 (upd H6 D (.lst (us ++ [w]))) (rst vs env2 e6) (fpOut fp6 vs) := by
                    refine ⟨a37.st.step f8 (fun j z hz e => nD j (e ▸ hz)) s8, a37.fr.trans f8 fun z hz => ?_, a37.sub, a37.pk⟩
                    subst hz
                    rcases (nw.2 z List.mem_cons_self).2.1 with ⟨j, hj', _⟩ | q
                    · exact .inl ⟨j, hj'⟩
                    · exact .inr q
                  refine ⟨xs.length - (i + 1), by omega, G6, rst vs env2 e6, fpOut fp6 vs, us ++ [w], acc ++ [y], as ++ (bs ++ []), a8, sm.trans (f3.gsub.trans fr7.gsub), upd_same, ?_, ?_, hl, rfl, hlt⟩
                  · refine (z2.append (.cons ow .nil)).keep (Same.refl _) fun z hz => upd_ne fun e => ?_
                    subst e
                    rw [List.append_nil] at hz
                    rcases List.mem_append.mp hz with m | m
                    · exact (List.nodup_cons.mp nw.1).1 m
                    · exact disj _ List.mem_cons_self m
                  · rw [List.append_nil]
                    refine ⟨?_, fun z hz => ?_⟩
                    · rw [← List.cons_append]
                      refine List.nodup_append.mpr ⟨nw.1, nyy.1, fun y hy z hz e => ?_⟩
                      subst e
                      exact disj _ hy hz
                    · rw [← List.cons_append] at hz
                      rcases List.mem_append.mp hz with m | m
                      · exact nws.2 z m
                      · refine ⟨(nyy.2 z m).1, ?_, fun j hj' => (nyy.2 z m).2.2 j (fpOut_in hj').2⟩
                        rcases (nyy.2 z m).2.1 with ⟨l, hl', cl⟩ | q
                        · rw [cls_clr hc] at cl
                          rcases a3.sub l z hl' with ⟨j, hj', c2⟩ | q
                          · exact .inl ⟨j, hj', c2.elim id fun c2 => c2.trans cl⟩
                          · exact .inr q
                        · exact .inr (a3.fr.live z q)
                · cases hl
    · have ex : xs[i]? = none := List.getElem?_eq_none (Nat.le_of_not_lt hlt)
      rw [List.drop_eq_nil_of_le (Nat.le_of_not_lt hlt)] at hl
      simp only [lcF] at hl
      cases hl
      exact .inl ⟨hj.2 ex, k (.ref D) (D :: as) G2 H2 fp2 a2 (.l hH os) nw⟩
theorem de_lc {elt tg iter : Expr} {ifs : List Expr} {scope : Scope} {js : List Nat} {it : M (List Dt)} {g : Dt → DEnv → Option DEnv} {c : M Bool} {f : M Vl} (own : List (Str × Nat)) (hi : DI B N sc tg iter it) (hk : blkC N.ns sc scope own = true)
    (hg : DG B (blkN N scope) (relS scope sc) tg js g) (ht : DTs B (blkN N scope) (relS scope sc) ifs c) (he : DE B (blkN N scope) (relS scope sc) elt f) (hj : ∀ j ∈ js, j ∈ own.map (·.2) := by decide)
    (hs : ∀ (X : Cx) x, foldedSetIterable iter X.env x = pure x := by intro _ _; rfl) : DE B N sc (.ListComp elt [⟨tg, iter, ifs, 0⟩] scope pos) (eLc (own.map (·.2)) it g c f) := by
  obtain ⟨wi, pi, ri⟩ := hi
  obtain ⟨tgt, pg, rg⟩ := hg
  obtain ⟨tt, pt, rt⟩ := ht
  obtain ⟨te, pe, re⟩ := he
  have ok := blkOk_by hk
  exact ⟨_, fun X c => pe_lc c.calm (by rw [c.names]; exact c.nd) (pi X c) (by rw [c.names, c.scope]; exact ok) (fun s H C cl fp => pg _ (c.blk s H scope C cl fp ok.uniq)) (fun s H C cl fp => pt _ (c.blk s H scope C cl fp ok.uniq)) (fun s H C cl fp => pe _ (c.blk s H scope C cl fp ok.uniq)) (hs X), lc_sem ri rg rt re hj⟩
/-- name = [..] on one line -/
theorem ds_setLc {elt tg iter : Expr} {ifs : List Expr} {scope : Scope} {js : List Nat} {it : M (List Dt)} {g : Dt → DEnv → Option DEnv} {c : M Bool} {f : M Vl} {y : Str} {py spos : Pos} (i : Nat) (own : List (Str × Nat)) (hi : DI B N sc tg iter it) (hk : blkC N.ns sc scope own = true)
    (hg : DG B (blkN N scope) (relS scope sc) tg js g) (ht : DTs B (blkN N scope) (relS scope sc) ifs c) (he : DE B (blkN N scope) (relS scope sc) elt f) (hsk : sc.kind = .function := by rfl) (hy : N.ns[i]? = some y := by rfl) (hyl : sc.names.lookup y = some .local := by rfl)
    (hpl : (py.line == pos.line) = true := by rfl) (hno : (scope.names.any fun (n, k) => n == y && (k == .local || k == .cell)) = false := by decide +kernel) (hj : ∀ j ∈ js, j ∈ own.map (·.2) := by decide)
    (hs : ∀ (X : Cx) x, foldedSetIterable iter X.env x = pure x := by intro _ _; rfl) : DS B N sc (.Assign [.Name y py] (.ListComp elt [⟨tg, iter, ifs, 0⟩] scope pos) spos) (sSet i (eLc (own.map (·.2)) it g c f)) := by
  obtain ⟨wi, pi, ri⟩ := hi
  obtain ⟨tgt, pg, rg⟩ := hg
  obtain ⟨tt, pt, rt⟩ := ht
  obtain ⟨te, pe, re⟩ := he
  have ok := blkOk_by hk
  exact ⟨_, fun X c => ps_setLc c.calm (by rw [c.names]; exact c.nd) (by rw [c.names]; exact hy) (by rw [c.scope]; exact hyl) (sw_true (by rw [c.scope]; exact hsk) (by rw [c.scope]; exact hyl) hpl hno) (pi X c) (by rw [c.names, c.scope]; exact ok)
    (fun s H C cl fp => pg _ (c.blk s H scope C cl fp ok.uniq)) (fun s H C cl fp => pt _ (c.blk s H scope C cl fp ok.uniq)) (fun s H C cl fp => pe _ (c.blk s H scope C cl fp ok.uniq)) (hs X), (lc_sem ri rg rt re hj).set i⟩
end
end DL
set_option Elab.async false
set_option linter.all false
set_option maxRecDepth 100000
namespace DL
open PySem L2
section
variable {B : Bs} {N : Nm} {sc : Scope} {e a b : Expr} {pos : Pos} {W : Wd}
theorem de_blt {x : Str} {id : String} {es : List Expr} {f : M (List Dt)} {r : List V → Hp → VK → Prop} {g : List Dt → Option Vl} {p : Pos} (hr : ∀ X, Cxt B N sc X → CallR X (.builtin id) r) (sem : RSL B.W r g) (ha : DA B N sc (e :: es) f) (hm : B.mg x = none) (hv : bootBuiltins x = some (.builtin id))
    (hg : sc.names.lookup x = some .globalImplicit) (hn : x ≠ "__name__") (hdb : (x == ("__debug__" : Str)) = false)
    (he : ∀ X : Cx, starEach (e :: es) X.env = (false, eval e X.env) :: starEach es X.env) (hpl : ∀ X : Cx, (backTo pos (starEach es X.env)).any (·.1) = false) : DE B N sc (.Call (.Name x p) (e :: es) [] pos) (eL g f) := by
  obtain ⟨t, pt, sa⟩ := ha
  exact ⟨tCB r t, fun X c => pe_callB (hr X c) (c.gl hg) (by rw [c.mg]; exact hm) hv (pt X c) hn hdb (he X) (hpl X), sa.call fun G H us ds v Q _ _ _ s rs h k => sem G H us ds v Q s rs h k⟩
theorem de_bty {x : Str} {T : String} {es : List Expr} {f : M (List Dt)} {r : List V → Hp → VK → Prop} {g : List Dt → Option Vl} {p : Pos} (hr : ∀ X, Cxt B N sc X → CallR X (.type T) r) (sem : RSL B.W r g) (ha : DA B N sc (e :: es) f) (hm : B.mg x = none) (hv : bootBuiltins x = some (.type T))
    (hg : sc.names.lookup x = some .globalImplicit) (hn : x ≠ "__name__") (hdb : (x == ("__debug__" : Str)) = false)
    (he : ∀ X : Cx, starEach (e :: es) X.env = (false, eval e X.env) :: starEach es X.env) (hpl : ∀ X : Cx, (backTo pos (starEach es X.env)).any (·.1) = false) : DE B N sc (.Call (.Name x p) (e :: es) [] pos) (eL g f) := by
  obtain ⟨t, pt, sa⟩ := ha
  exact ⟨tCB r t, fun X c => pe_callTy (hr X c) (c.gl hg) (by rw [c.mg]; exact hm) hv (pt X c) hn hdb (he X) (hpl X), sa.call fun G H us ds v Q _ _ _ s rs h k => sem G H us ds v Q s rs h k⟩
def gLen : List Dt → Option Vl
  | [.lst xs] => some (.d (.int xs.length))
  | [.frl xs] => some (.d (.int xs.length))
  | [.tup xs] => some (.d (.int xs.length))
  | [.str x] => if x.length ≤ sizeLine then some (.d (.int x.length)) else none
  | _ => none
theorem rsl_len : RSL W (fun xs H Q => ∃ x n, xs = [x] ∧ LenV W.K x H n ∧ Q (.int n) H) gLen := by
  intro G H xs ds v Q s rs h k
  unfold gLen at h
  split at h
  · cases h
    cases rs with
    | cons r rr =>
      cases rr
      cases r with
      | lst hq r => exact ⟨_, _, rfl, .inl ⟨_, SqL.of (s _ _ hq), rfl⟩, by rw [r.length]; exact k.here s (.int _)⟩
  · cases h
    cases rs with
    | cons r rr =>
      cases rr
      cases r with
      | frl hq r => exact ⟨_, _, rfl, .inl ⟨_, s.seq hq, rfl⟩, by rw [r.length]; exact k.here s (.int _)⟩
  · cases h
    cases rs with
    | cons r rr =>
      cases rr
      cases r with
      | tup hq r => exact ⟨_, _, rfl, .inr ⟨_, sqt_mono s hq, rfl⟩, by rw [r.length]; exact k.here s (.int _)⟩
  · split at h
    · rename_i hl
      cases h
      cases rs with
      | cons r rr =>
        cases rr
        cases r
        exact ⟨_, _, rfl, ⟨hl, rfl⟩, k.here s (.int _)⟩
    · cases h
  · cases h
def gAbs : List Dt → Option Vl
  | [.int i] => some (.d (.int (if i < 0 then -i else i)))
  | _ => none
theorem rsl_abs : RSL W (fun xs H Q => ∃ i, xs = [.int i] ∧ Q (.int (if i < 0 then -i else i)) H) gAbs := by
  intro G H xs ds v Q s rs h k
  unfold gAbs at h
  split at h
  · cases h
    cases rs with
    | cons r rr => cases rr; cases r; exact ⟨_, rfl, k.here s (.int _)⟩
  · cases h
def gMax2 : List Dt → Option Vl
  | [.int i, .int j] => some (.d (.int (if j > i then j else i)))
  | _ => none
def gMin2 : List Dt → Option Vl
  | [.int i, .int j] => some (.d (.int (if j < i then j else i)))
  | _ => none
theorem rsl_max2 : RSL W (fun xs H Q => ∃ i j, xs = [.int i, .int j] ∧ Q (.int (if j > i then j else i)) H) gMax2 := by
  intro G H xs ds v Q s rs h k
  unfold gMax2 at h
  split at h
  · cases h
    cases rs with
    | cons r rr => cases rr with
      | cons r2 rr => cases rr; cases r; cases r2; exact ⟨_, _, rfl, k.here s (.int _)⟩
  · cases h
theorem rsl_min2 : RSL W (fun xs H Q => ∃ i j, xs = [.int i, .int j] ∧ Q (.int (if j < i then j else i)) H) gMin2 := by
  intro G H xs ds v Q s rs h k
  unfold gMin2 at h
  split at h
  · cases h
    cases rs with
    | cons r rr => cases rr with
      | cons r2 rr => cases rr; cases r; cases r2; exact ⟨_, _, rfl, k.here s (.int _)⟩
  · cases h
def gInt : List Dt → Option Vl
  | [.int i] => some (.d (.int i))
  | [.bl k] => some (.d (.int (if k then 1 else 0)))
  | _ => none
theorem rsl_int : RSL W (fun xs H Q => (∃ i, xs = [.int i] ∧ Q (.int i) H) ∨ ∃ k, xs = [.bl k] ∧ Q (.int (if k then 1 else 0)) H) gInt := by
  intro G H xs ds v Q s rs h k
  unfold gInt at h
  split at h
  · cases h
    cases rs with
    | cons r rr => cases rr; cases r; exact .inl ⟨_, rfl, k.here s (.int _)⟩
  · cases h
    cases rs with
    | cons r rr => cases rr; cases r; exact .inr ⟨_, rfl, k.here s (.int _)⟩
  · cases h
def gDivmod : List Dt → Option Vl
  | [.int i, .int j] => if (decide (0 < j) && decide (j < 1073741824)) = true then some (.d (.tup [.int (i / j), .int (i % j)])) else none
  | _ => none
theorem rsl_divmod : RSL W (fun xs H Q => ∃ i j, xs = [.int i, .int j] ∧ CDiv i j ∧ ∀ p, H p = none → Q (.ref p) (upd H p (.tup [.int (i / j), .int (i % j)]))) gDivmod := by
  intro G H xs ds v Q s rs h k
  unfold gDivmod at h
  split at h
  · split at h
    · rename_i hc
      rw [Bool.and_eq_true] at hc
      cases h
      cases rs with
      | cons r rr => cases rr with
        | cons r2 rr =>
          cases rr; cases r; cases r2
          exact ⟨_, _, rfl, ⟨of_decide_eq_true hc.1, of_decide_eq_true hc.2⟩, fun p hp => k.tup s (.cons (.int _) (.cons (.int _) .nil)) hp⟩
    · cases h
  · cases h
def toI : Dt → Option Int
  | .int i => some i
  | _ => none
def toIs : List Dt → Option (List Int)
  | [] => some []
  | x :: xs => match toI x, toIs xs with
    | some i, some is => some (i :: is)
    | _, _ => none
theorem toIs_map : ∀ ns : List Int, toIs (ns.map .int) = some ns
  | [] => rfl
  | n :: ns => by simp [toIs, toI, toIs_map ns]
theorem toIs_eq : ∀ {xs : List Dt} {ns : List Int}, toIs xs = some ns → xs = ns.map .int
  | [], ns, h => by cases h; rfl
  | x :: xs, ns, h => by
    simp only [toIs] at h
    split at h
    · rename_i i is h1 h2
      cases h
      cases x <;> try (cases h1; done)
      cases h1
      rw [toIs_eq h2]
      rfl
    · cases h
theorem reps_ints {G : Hp} : ∀ {ns : List Int} {vs : List V}, Reps W G vs (ns.map .int) → vs = ns.map V.int
  | [], vs, h => by cases h; rfl
  | n :: ns, vs, h => by
    cases h with
    | cons r rr => cases r; rw [reps_ints rr]; rfl
theorem ints_reps {G : Hp} : ∀ ns : List Int, Reps W G (ns.map V.int) (ns.map .int)
  | [] => .nil
  | n :: ns => .cons (.int n) (ints_reps ns)
def insI (x : Int) : List Int → List Int
  | [] => [x]
  | y :: ys => if x ≤ y then x :: y :: ys else y :: insI x ys
def sortI : List Int → List Int
  | [] => []
  | x :: xs => insI x (sortI xs)
theorem insI_perm (x : Int) : ∀ ys, (insI x ys).Perm (x :: ys)
  | [] => .refl _
  | y :: ys => by
    unfold insI
    split
    · exact .refl _
    · exact ((insI_perm x ys).cons y).trans (.swap x y ys)
theorem sortI_perm : ∀ xs, (sortI xs).Perm xs
  | [] => .refl _
  | x :: xs => (insI_perm x _).trans ((sortI_perm xs).cons x)
theorem insI_sorted (x : Int) : ∀ ys : List Int, ys.Pairwise (· ≤ ·) → (insI x ys).Pairwise (· ≤ ·)
  | [], _ => by simp [insI]
  | y :: ys, h => by
    obtain ⟨h1, h2⟩ := List.pairwise_cons.mp h
    unfold insI
    split
    · rename_i hxy
      exact List.pairwise_cons.mpr ⟨fun z hz => by
        rcases List.mem_cons.mp hz with rfl | hz
        · exact hxy
        · exact Int.le_trans hxy (h1 z hz), h⟩
    · rename_i hxy
      exact List.pairwise_cons.mpr ⟨fun z hz => by
        have := (insI_perm x ys).subset hz
        rcases List.mem_cons.mp this with rfl | hz
        · omega
        · exact h1 z hz, insI_sorted x ys h2⟩
theorem sortI_sorted : ∀ xs : List Int, (sortI xs).Pairwise (· ≤ ·)
  | [] => .nil
  | x :: xs => insI_sorted x _ (sortI_sorted xs)
theorem sorted_uniq : ∀ {xs ys : List Int}, xs.Perm ys → xs.Pairwise (· ≤ ·) → ys.Pairwise (· ≤ ·) → xs = ys
  | [], ys, p, _, _ => by rw [List.nil_perm.mp p]
  | x :: xs, ys, p, h1, h2 => by
    cases ys with
    | nil => exact absurd p.length_eq (by simp)
    | cons y ys =>
      obtain ⟨a1, a2⟩ := List.pairwise_cons.mp h1
      obtain ⟨b1, b2⟩ := List.pairwise_cons.mp h2
      have e : x = y := by
        have m1 : x ∈ y :: ys := p.subset List.mem_cons_self
        have m2 : y ∈ x :: xs := p.symm.subset List.mem_cons_self
        rcases List.mem_cons.mp m1 with e | m1
        · exact e
        · rcases List.mem_cons.mp m2 with e | m2
          · exact e.symm
          · exact Int.le_antisymm (a1 y m2) (b1 x m1)
      subst e
      rw [sorted_uniq (List.Perm.cons_inv p) a2 b2]
def gSorted : List Dt → Option Vl
  | [.lst xs] => (toIs xs).map fun ns => .ld ((sortI ns).map .int)
  | _ => none
theorem rsl_sorted : RSL W (rSortedI W.K) gSorted := by
  intro G H xs ds v Q s rs h k
  unfold gSorted at h
  split at h
  · simp only [Option.map_eq_some_iff] at h
    obtain ⟨ns, h, rfl⟩ := h
    rw [toIs_eq h] at rs
    cases rs with
    | cons r rr =>
      cases rr
      cases r with
      | lst hq r =>
        have e := reps_ints r
        subst e
        refine ⟨_, ns, rfl, SqL.of (s _ _ hq), fun ns' p pm st hp => ?_⟩
        have e2 : ns' = sortI ns := sorted_uniq (pm.trans (sortI_perm ns).symm) st (sortI_sorted ns)
        rw [e2]
        exact k.lst s (ints_reps _) hp
  · cases h
def gSum : List Dt → Option Vl
  | [.lst xs] => (toIs xs).map fun ns => .d (.int ns.sum)
  | _ => none
theorem rsl_sum : RSL W (rSum W.K) gSum := by
  intro G H xs ds v Q s rs h k
  unfold gSum at h
  split at h
  · simp only [Option.map_eq_some_iff] at h
    obtain ⟨ns, h, rfl⟩ := h
    rw [toIs_eq h] at rs
    cases rs with
    | cons r rr =>
      cases rr
      cases r with
      | lst hq r =>
        have e := reps_ints r
        subst e
        exact ⟨_, ns, rfl, SqL.of (s _ _ hq), k.here s (.int _)⟩
  · cases h
/-- list(xs) -/
def gList : List Dt → Option Vl
  | [.lst xs] => some (.ld xs)
  | [.frl xs] => some (.ld xs)
  | [.tup xs] => some (.ld xs)
  | _ => none
theorem rsl_list : RSL W (fun xs H Q => ∃ p ys, xs = [.ref p] ∧ (SqL W.K H p ys ∨ SqT W.K H p ys) ∧ ∀ l, H l = none → Q (.ref l) (upd H l (.lst ys))) gList := by
  intro G H xs ds v Q s rs h k
  unfold gList at h
  split at h
  · cases h
    cases rs with
    | cons r rr =>
      cases rr
      cases r with
      | lst hq r => exact ⟨_, _, rfl, .inl (SqL.of (s _ _ hq)), fun l hl => k.lst s r hl⟩
  · cases h
    cases rs with
    | cons r rr =>
      cases rr
      cases r with
      | frl hq r => exact ⟨_, _, rfl, .inl (s.seq hq), fun l hl => k.lst s r hl⟩
  · cases h
    cases rs with
    | cons r rr =>
      cases rr
      cases r with
      | tup hq r => exact ⟨_, _, rfl, .inr (sqt_mono s hq), fun l hl => k.lst s r hl⟩
  · cases h
/-- tuple(xs) -/
def gTuple : List Dt → Option Vl
  | [.lst xs] => some (.d (.tup xs))
  | [.tup xs] => some (.d (.tup xs))
  | _ => none
theorem rsl_tuple : RSL W (fun xs H Q => ∃ p ys, xs = [.ref p] ∧ ((SqL W.K H p ys ∧ ∀ l, H l = none → Q (.ref l) (upd H l (.tup ys))) ∨ (SqT W.K H p ys ∧ Q (.ref p) H))) gTuple := by
  intro G H xs ds v Q s rs h k
  unfold gTuple at h
  split at h
  · cases h
    cases rs with
    | cons r rr =>
      cases rr
      cases r with
      | lst hq r => exact ⟨_, _, rfl, .inl ⟨SqL.of (s _ _ hq), fun l hl => k.tup s r hl⟩⟩
  · cases h
    cases rs with
    | cons r rr =>
      cases rr
      cases r with
      | tup hq r => exact ⟨_, _, rfl, .inr ⟨sqt_mono s hq, k.here s (.tup hq r)⟩⟩
  · cases h
variable {es : List Expr} {f : M (List Dt)} {p : Pos}
theorem de_len (ha : DA B N sc [a] f) (hm : B.mg "len" = none) (hg : sc.names.lookup ("len" : Str) = some .globalImplicit := by rfl) (he : ∀ X : Cx, starEach [a] X.env = (false, eval a X.env) :: starEach [] X.env := by intro _; rfl) : DE B N sc (.Call (.Name "len" p) [a] [] pos) (eL gLen f) :=
  de_blt (fun _ c => c.K ▸ call_len) rsl_len ha hm boot_len hg (by decide) (by decide) he fun _ => rfl
theorem de_abs (ha : DA B N sc [a] f) (hm : B.mg "abs" = none) (hg : sc.names.lookup ("abs" : Str) = some .globalImplicit := by rfl) (he : ∀ X : Cx, starEach [a] X.env = (false, eval a X.env) :: starEach [] X.env := by intro _; rfl) : DE B N sc (.Call (.Name "abs" p) [a] [] pos) (eL gAbs f) :=
  de_blt (fun _ _ => call_abs) rsl_abs ha hm (by decide +kernel) hg (by decide) (by decide) he fun _ => rfl
theorem de_max2 (ha : DA B N sc [a, b] f) (hm : B.mg "max" = none) (hg : sc.names.lookup ("max" : Str) = some .globalImplicit := by rfl) (he : ∀ X : Cx, starEach [a, b] X.env = (false, eval a X.env) :: starEach [b] X.env := by intro _; rfl) (hpl : ∀ X : Cx, (backTo pos (starEach [b] X.env)).any (·.1) = false := by intro _; rfl) : DE B N sc (.Call (.Name "max" p) [a, b] [] pos) (eL gMax2 f) :=
  de_blt (fun _ c => call_max2 c.calm) rsl_max2 ha hm (by decide +kernel) hg (by decide) (by decide) he hpl
theorem de_min2 (ha : DA B N sc [a, b] f) (hm : B.mg "min" = none) (hg : sc.names.lookup ("min" : Str) = some .globalImplicit := by rfl) (he : ∀ X : Cx, starEach [a, b] X.env = (false, eval a X.env) :: starEach [b] X.env := by intro _; rfl) (hpl : ∀ X : Cx, (backTo pos (starEach [b] X.env)).any (·.1) = false := by intro _; rfl) : DE B N sc (.Call (.Name "min" p) [a, b] [] pos) (eL gMin2 f) :=
  de_blt (fun _ c => call_min2 c.calm) rsl_min2 ha hm (by decide +kernel) hg (by decide) (by decide) he hpl
theorem de_divmod (ha : DA B N sc [a, b] f) (hm : B.mg "divmod" = none) (hg : sc.names.lookup ("divmod" : Str) = some .globalImplicit := by rfl) (he : ∀ X : Cx, starEach [a, b] X.env = (false, eval a X.env) :: starEach [b] X.env := by intro _; rfl) (hpl : ∀ X : Cx, (backTo pos (starEach [b] X.env)).any (·.1) = false := by intro _; rfl) : DE B N sc (.Call (.Name "divmod" p) [a, b] [] pos) (eL gDivmod f) :=
  de_blt (fun _ _ => call_divmod) rsl_divmod ha hm (by decide +kernel) hg (by decide) (by decide) he hpl
theorem de_int (ha : DA B N sc [a] f) (hm : B.mg "int" = none) (hg : sc.names.lookup ("int" : Str) = some .globalImplicit := by rfl) (he : ∀ X : Cx, starEach [a] X.env = (false, eval a X.env) :: starEach [] X.env := by intro _; rfl) : DE B N sc (.Call (.Name "int" p) [a] [] pos) (eL gInt f) :=
  de_bty (fun _ _ => call_int1) rsl_int ha hm (by decide +kernel) hg (by decide) (by decide) he fun _ => rfl
theorem de_list (ha : DA B N sc [a] f) (hm : B.mg "list" = none) (hg : sc.names.lookup ("list" : Str) = some .globalImplicit := by rfl) (he : ∀ X : Cx, starEach [a] X.env = (false, eval a X.env) :: starEach [] X.env := by intro _; rfl) : DE B N sc (.Call (.Name "list" p) [a] [] pos) (eL gList f) :=
  de_bty (fun _ c => c.K ▸ call_list_of) rsl_list ha hm (by decide +kernel) hg (by decide) (by decide) he fun _ => rfl
theorem de_tuple (ha : DA B N sc [a] f) (hm : B.mg "tuple" = none) (hg : sc.names.lookup ("tuple" : Str) = some .globalImplicit := by rfl) (he : ∀ X : Cx, starEach [a] X.env = (false, eval a X.env) :: starEach [] X.env := by intro _; rfl) : DE B N sc (.Call (.Name "tuple" p) [a] [] pos) (eL gTuple f) :=
  de_bty (fun _ c => c.K ▸ call_tuple_of) rsl_tuple ha hm (by decide +kernel) hg (by decide) (by decide) he fun _ => rfl
theorem de_sorted (ha : DA B N sc [a] f) (hm : B.mg "sorted" = none) (hg : sc.names.lookup ("sorted" : Str) = some .globalImplicit := by rfl) (he : ∀ X : Cx, starEach [a] X.env = (false, eval a X.env) :: starEach [] X.env := by intro _; rfl) : DE B N sc (.Call (.Name "sorted" p) [a] [] pos) (eL gSorted f) :=
  de_blt (fun _ c => c.K ▸ cr_sortedI) rsl_sorted ha hm (by decide +kernel) hg (by decide) (by decide) he fun _ => rfl
theorem de_sum (ha : DA B N sc [a] f) (hm : B.mg "sum" = none) (hg : sc.names.lookup ("sum" : Str) = some .globalImplicit := by rfl) (he : ∀ X : Cx, starEach [a] X.env = (false, eval a X.env) :: starEach [] X.env := by intro _; rfl) : DE B N sc (.Call (.Name "sum" p) [a] [] pos) (eL gSum f) :=
  de_blt (fun _ c => c.K ▸ cr_sum c.calm) rsl_sum ha hm (by decide +kernel) hg (by decide) (by decide) he fun _ => rfl
end
end DL
set_option Elab.async false
set_option linter.all false
set_option maxRecDepth 100000
namespace DL
open PySem L2
section
variable {B : Bs} {N : Nm} {sc : Scope} {e a b : Expr} {pos : Pos} {W : Wd}
def tyNm : Dt → Option String
  | .non => some "NoneType"
  | .bl _ => some "bool"
  | .int _ => some "int"
  | .str _ => some "str"
  | .tup _ => some "tuple"
  | .lst _ => some "list"
  | .frl _ => some "list"
  | .dct _ => some "dict"
  | .ins _ _ => none
def gIsi (T : String) : Dt → Option Vl := fun x => match tyNm x with
  | some t => (kitB t T).map fun r => .d (.bl r)
  | none => none
theorem Rep.tyX {G H : Hp} {v : V} {x : Dt} {t : String} (s : Same G H) (r : Rep W G v x) (h : tyNm x = some t) : TyX W.K H v (.type t) := by
  cases r with
  | non => cases h; exact .base .non
  | bl b => cases h; exact .base (.bl b)
  | int i => cases h; exact .base (.int i)
  | str z => cases h; exact .base (.str z)
  | tup hq r =>
    cases h
    rcases sqt_mono s hq with (hq | ⟨o, hq⟩) | ⟨o, its, n, hk, hc, _⟩
    · exact .base (.tup hq)
    · exact .fTuple hq
    · exact .kTuple hk hc
  | lst hq r => cases h; exact .base (.lst (s _ _ hq))
  | frl hq r =>
    cases h
    rcases s.seq hq with (hq | ⟨o, hq⟩) | ⟨o, its, n, hk, hc, _⟩
    · exact .base (.lst hq)
    · exact .base (.frz hq)
    · exact .kList hk hc
  | dct hq _ _ => cases h; exact .base (.dK (s _ _ hq))
  | ins _ _ _ => cases h
theorem de_isi {f : M Dt} {x : Str} {T : String} {p pt : Pos} (ha : DD B N sc a f) (hm : B.mg "isinstance" = none) (hT : B.mg x = none) (hv : bootBuiltins x = some (.type T)) (hg : sc.names.lookup ("isinstance" : Str) = some .globalImplicit := by rfl) (hg2 : sc.names.lookup x = some .globalImplicit := by rfl)
    (hn : x ≠ "__name__" := by decide) (hdb : (x == ("__debug__" : Str)) = false := by decide)
    (he : ∀ X : Cx, starEach [a, .Name x pt] X.env = (false, eval a X.env) :: starEach [.Name x pt] X.env := by intro _; rfl) (he2 : ∀ X : Cx, starEach [.Name x pt] X.env = (false, eval (.Name x pt) X.env) :: starEach [] X.env := by intro _; rfl)
    (hpl : ∀ X : Cx, (backTo pos (starEach [.Name x pt] X.env)).any (·.1) = false := by intro _; rfl) : DE B N sc (.Call (.Name "isinstance" p) [a, .Name x pt] [] pos) (e1 (gIsi T) f) := by
  obtain ⟨t, pe, r⟩ := ha
  refine ⟨tCB (rIsi B.W.K) (tCons t (tCons (tC (.ty T)) tNil)), fun X c => pe_callB (c.K ▸ call_isi) (c.gl hg) (by rw [c.mg]; exact hm) (by decide +kernel) (pa_cons (pe X c) (pa_cons (pe_bltn (v := .ty T) (c.gl hg2) (by rw [c.mg]; exact hT) hv rfl hn hdb) pa_nil (he2 X)) (he X)) (by decide) (by decide) (he X) (hpl X), fun G σ H env fp v env' Q S hf k => ?_⟩
  obtain ⟨x1, e1, h1, hf2⟩ := bnd_some hf
  obtain ⟨h3, rfl⟩ := opt_some hf2
  refine r G σ H env fp x1 _ _ S h1 fun u G1 H1 fp1 a1 rx => ?_
  unfold gIsi at h3
  split at h3
  · rename_i ty hty
    simp only [Option.map_eq_some_iff] at h3
    obtain ⟨rr, hr, rfl⟩ := h3
    exact ⟨u, .ty T, _, _, rr, rfl, .ty T, rx.tyX a1.st.same hty, kit_ty hr, (a1.fin k).here a1.st.same (.bl _)⟩
  · cases h3
/-- what isinstance asks of a class of one's own -/
structure ClsI (B : Bs) (c : Str) : Prop where
  ha : PySem.W.findIn B.W.K (.ref (B.W.cA c)) "__class__" = some (some (.builtin "object.__class__"))
  hn : PySem.W.specialIn B.W.K (.builtin "object.__class__") "__get__" = some (some (.builtin "getset_descriptor.__get__"))
  htk : PySem.W.takesIn B.W.K (.builtin "object.__class__") = some true
  hm : PySem.W.mroIn B.W.K (B.W.cA c) (.type "object") = some true
  mg : B.mg c = some (.ref (B.W.cA c))
/-- isinstance(x, C) where x is of that very class -/
def gIsO (c : Str) : Dt → Option Vl
  | .ins c' _ => if c' = c then some (.d (.bl true)) else none
  | _ => none
theorem de_isiO {f : M Dt} {c : Str} {p pt : Pos} (C : ClsF B c) (I : ClsI B c) (ha : DD B N sc a f) (hm : B.mg "isinstance" = none) (hg : sc.names.lookup ("isinstance" : Str) = some .globalImplicit := by rfl) (hg2 : sc.names.lookup c = some .globalImplicit := by rfl)
    (hdb : (c == ("__debug__" : Str)) = false := by decide)
    (he : ∀ X : Cx, starEach [a, .Name c pt] X.env = (false, eval a X.env) :: starEach [.Name c pt] X.env := by intro _; rfl) (he2 : ∀ X : Cx, starEach [.Name c pt] X.env = (false, eval (.Name c pt) X.env) :: starEach [] X.env := by intro _; rfl)
    (hpl : ∀ X : Cx, (backTo pos (starEach [.Name c pt] X.env)).any (·.1) = false := by intro _; rfl) : DE B N sc (.Call (.Name "isinstance" p) [a, .Name c pt] [] pos) (e1 (gIsO c) f) := by
  obtain ⟨t, pe, r⟩ := ha
  refine ⟨tCB (rIsi B.W.K) (tCons t (tCons (tC (.ref (B.W.cA c))) tNil)), fun X q => pe_callB (q.K ▸ call_isi) (q.gl hg) (by rw [q.mg]; exact hm) (by decide +kernel) (pa_cons (pe X q) (pa_cons (pe_glob (v := .ref (B.W.cA c)) (q.gl hg2) (by rw [q.mg]; exact I.mg) rfl hdb) pa_nil (he2 X)) (he X)) (by decide) (by decide) (he X) (hpl X), fun G σ H env fp v env' Q S hf k => ?_⟩
  obtain ⟨x1, e1, h1, hf2⟩ := bnd_some hf
  obtain ⟨h3, rfl⟩ := opt_some hf2
  refine r G σ H env fp x1 _ _ S h1 fun u G1 H1 fp1 a1 rx => ?_
  cases rx <;> try (cases h3; done)
  rename_i ad dx c' vs xs hG hl rs
  simp only [gIsO] at h3
  split at h3
  · rename_i hc
    subst hc
    cases h3
    exact ⟨_, .ref (B.W.cA c'), _, _, true, rfl, .own _, .base (.ins (a1.st.same _ _ hG) C.cl I.ha I.hn I.htk I.hm), if_pos (beq_self_eq_true _), (a1.fin k).here a1.st.same (.bl _)⟩
  · cases h3
def rgOk (i j : Int) : Bool := i62 i && i62 j && decide ((j - i).toNat ≤ 2 ^ 24)
def eLstR (lo : Int) (f : M Dt) : M Vl := bnd f fun x => match x with
  | .int j => if rgOk lo j = true then ret (.ld (intL lo (j - lo).toNat)) else fun _ => none
  | _ => fun _ => none
theorem rgV_int (i j : Int) : rgV i j = ((List.range (j - i).toNat).map fun (k : Nat) => i + (k : Int)).map V.int := by
  unfold rgV
  rw [List.map_map]
  rfl
theorem intL_int (i : Int) (n : Nat) : intL i n = ((List.range n).map fun (k : Nat) => i + (k : Int)).map Dt.int := by
  unfold intL
  rw [List.map_map]
  rfl
theorem de_listRg1 {f : M Dt} {p p2 p3 : Pos} (ha : DD B N sc a f) (hm : B.mg "list" = none) (hm2 : B.mg "range" = none) (hg : sc.names.lookup ("list" : Str) = some .globalImplicit := by rfl) (hg2 : sc.names.lookup ("range" : Str) = some .globalImplicit := by rfl)
    (na : ∀ X : Cx, starEach [a] X.env = (false, eval a X.env) :: starEach [] X.env := by intro _; rfl) (nb : ∀ X : Cx, starEach [.Call (.Name "range" p2) [a] [] p3] X.env = (false, eval (.Call (.Name "range" p2) [a] [] p3) X.env) :: starEach [] X.env := by intro _; rfl) :
    DE B N sc (.Call (.Name "list" p) [.Call (.Name "range" p2) [a] [] p3] [] pos) (eLstR 0 f) := by
  obtain ⟨t, pe, r⟩ := ha
  refine ⟨tLstRg (tRg1 t), fun X c => pe_listRg c.calm (c.gl hg) (by rw [c.mg]; exact hm) (prg_1 (c.gl hg2) (by rw [c.mg]; exact hm2) (pe X c) (na X)) (nb X), fun G σ H env fp v env' Q S hf k => ?_⟩
  obtain ⟨x1, e1, h1, hf2⟩ := bnd_some hf
  refine r G σ H env fp x1 _ _ S h1 fun u G1 H1 fp1 a1 rx => ?_
  cases x1 <;> try (cases hf2; done)
  rename_i j
  simp only at hf2
  split at hf2
  · rename_i hr
    cases hf2
    cases rx
    unfold rgOk at hr
    rw [Bool.and_eq_true, Bool.and_eq_true] at hr
    have b1 := i62_ok hr.1.1
    have b2 := i62_ok hr.1.2
    refine ⟨j, rfl, ⟨b1.1, b1.2, b2.1, b2.2, of_decide_eq_true hr.2⟩, fun q hq => ?_⟩
    rw [rgV_int]
    exact (a1.fin k).lst a1.st.same (by rw [intL_int]; exact ints_reps _) hq
  · cases hf2
def dedI (ns : List Int) : List Int := PyProof.Rows.firstMet (fun i => ns.getD i 0) ns.length
def tLenSetX (K : PySem.W.Frag) (ta : TE) : TE := fun σ H Q => ta σ H fun x H1 => ∃ (l : Addr) (ns : List Int), x = .ref l ∧ SqL K H1 l (ns.map V.int) ∧ ns.length ≤ 4000 ∧ Q (.int ((dedI ns).length : Nat)) H1
theorem pe_lenSetX {X : Cx} {a : Expr} {ta : TE} {p p2 q pos : Pos} (hg : Gl X "len") (hm : X.mg "len" = none) (hg2 : Gl X "set") (hm2 : X.mg "set" = none) (ha : PE X a ta) (hc : X.calm = true)
    (na : starEach [a] X.env = (false, eval a X.env) :: starEach [] X.env) : PE X (.Call (.Name "len" p) [.Call (.Name "set" p2) [a] [] q] [] pos) (tLenSetX X.K ta) := by
  refine ⟨fun pins s σ H Q I h => ?_⟩
  refine PyProof.Rows.Call_ (ld_blt I hg hm boot_len ?_)
  refine PyProof.Rows.callWith_builtin1 (PyProof.Rows.args_cons ?_ rfl) rfl rfl
  refine PyProof.Rows.Call_ (ld_blt I hg2 hm2 PyProof.Rows.boot_set ?_)
  refine PyProof.Rows.callWith_type1 (PyProof.Rows.args_cons (thn (ha.run pins s σ H _ I h) fun v s1 ⟨x, H1, I1, r1, q1⟩ => PyProof.Rows.args_nil ?_) na) na rfl
  obtain ⟨l, ns, rfl, hq, hl, q1⟩ := q1
  cases r1
  obtain ⟨its, r, pl, hz⟩ := I1.list hq
  have hlen : its.toArray.size = ns.length := by rw [List.size_toArray, ← r.length, List.length_map]
  refine PySem.call_set_list (I1.ok.hd hc) pl.isList (by simpa using RZ.intsAre_vals r) (by rw [hlen]; unfold scanBound; omega) fun h' tk hS hk => ?_
  refine PyProof.Rows.args_nil ?_
  rw [hlen] at hS
  obtain ⟨o, es, ep, t, ho, hex, hd, _, _, _, hf, hn⟩ := hS
  have I2 : Inv X pins σ H1 { s1 with heap := h', toks := tk } := I1.kept fun b o e => hk b o (Heap.lt_size e) e
  have hle := PyProof.Rows.firstMet_length_le (fun i => ns.getD i 0) ns.length
  exact call_len_set ho hex hd hf (by rw [hn] <;> omega) ⟨.int (dedI ns).length, H1, I2.tok _, ⟨_, by rw [hn]; rfl⟩, q1⟩
def gLenSet : Dt → Option Vl
  | .lst xs => (toIs xs).bind fun ns => if ns.length ≤ 4000 then some (.d (.int (dedI ns).length)) else none
  | _ => none
theorem de_lenSet {f : M Dt} {p p2 q : Pos} (ha : DD B N sc a f) (hm : B.mg "len" = none) (hm2 : B.mg "set" = none) (hg : sc.names.lookup ("len" : Str) = some .globalImplicit := by rfl) (hg2 : sc.names.lookup ("set" : Str) = some .globalImplicit := by rfl)
    (na : ∀ X : Cx, starEach [a] X.env = (false, eval a X.env) :: starEach [] X.env := by intro _; rfl) : DE B N sc (.Call (.Name "len" p) [.Call (.Name "set" p2) [a] [] q] [] pos) (e1 gLenSet f) := by
  obtain ⟨t, pe, r⟩ := ha
  refine ⟨tLenSetX B.W.K t, fun X c => c.K ▸ pe_lenSetX (c.gl hg) (by rw [c.mg]; exact hm) (c.gl hg2) (by rw [c.mg]; exact hm2) (pe X c) c.calm (na X), fun G σ H env fp v env' Q S hf k => ?_⟩
  obtain ⟨x1, e1, h1, hf2⟩ := bnd_some hf
  obtain ⟨h3, rfl⟩ := opt_some hf2
  refine r G σ H env fp x1 _ _ S h1 fun u G1 H1 fp1 a1 rx => ?_
  unfold gLenSet at h3
  split at h3
  · simp only [Option.bind_eq_some_iff] at h3
    obtain ⟨ns, h4, h5⟩ := h3
    split at h5
    · rename_i hl
      cases h5
      rw [toIs_eq h4] at rx
      cases rx with
      | lst hq rs =>
        have e := reps_ints rs
        subst e
        exact ⟨_, ns, rfl, SqL.of (a1.st.same _ _ hq), hl, (a1.fin k).here a1.st.same (.int _)⟩
    · cases h5
  · cases h3
def cutD (xs : List Dt) (lo hi : Option Int) : List Dt := (xs.drop (HT.sIx xs.length 0 lo)).take (HT.sIx xs.length xs.length hi - HT.sIx xs.length 0 lo)
theorem reps_cut {G : Hp} {vs : List V} {xs : List Dt} {lo hi : Option Int} (r : Reps W G vs xs) : Reps W G (cutV vs lo hi) (cutD xs lo hi) := by
  unfold cutV cutD
  rw [r.length]
  have dr : ∀ (n : Nat) {vs : List V} {xs : List Dt}, Reps W G vs xs → Reps W G (vs.drop n) (xs.drop n) := by
    intro n
    induction n with
    | zero => intro vs xs r; exact r
    | succ n ih =>
      intro vs xs r
      cases r with
      | nil => exact .nil
      | cons _ t => exact ih t
  have tk : ∀ (n : Nat) {vs : List V} {xs : List Dt}, Reps W G vs xs → Reps W G (vs.take n) (xs.take n) := by
    intro n
    induction n with
    | zero => intro vs xs r; exact .nil
    | succ n ih =>
      intro vs xs r
      cases r with
      | nil => exact .nil
      | cons h t => exact .cons h (ih t)
  exact tk _ (dr _ r)
/-- a part of a slice: none, or a whole number -/
def DP (B : Bs) (N : Nm) (sc : Scope) (e : Option Expr) (f : M (Option Int)) : Prop := ∃ t, (∀ X, Cxt B N sc X → PO X e t) ∧
  ∀ (G : Hp) (σ : L2.St) (H : Hp) (env : DEnv) (fp : FP) (v : Option Int) (env' : DEnv) (Q : Option Int → Hp → Prop), StR B.W G σ H env fp → f env = some (v, env') → (∀ G' H' fp', AftE B.W G σ H env fp G' H' env' fp' → Q v H') → t σ H Q
theorem dp_none : DP B N sc none (ret none) := ⟨_, fun _ _ => po_none, fun G σ H env fp v env' Q S hf k => by cases hf; exact k _ _ _ (Aft.refl S)⟩
def pInt (f : M Dt) : M (Option Int) := bnd f fun x => match x with
  | .int i => ret (some i)
  | _ => fun _ => none
theorem dp_some {f : M Dt} (h : DD B N sc e f) : DP B N sc (some e) (pInt f) := by
  obtain ⟨t, p, r⟩ := h
  refine ⟨_, fun X c => po_some (p X c), fun G σ H env fp v env' Q S hf k => ?_⟩
  obtain ⟨x1, e1, h1, hf2⟩ := bnd_some hf
  refine r G σ H env fp x1 _ _ S h1 fun u G1 H1 fp1 a1 rx => ?_
  cases x1 <;> try (cases hf2; done)
  cases hf2
  cases rx
  exact ⟨_, rfl, k _ _ _ a1⟩
def gCut (x : Dt) (lo hi : Option Int) : Option Vl := match x with
  | .lst xs => some (.ld (cutD xs lo hi))
  | .frl xs => some (.ld (cutD xs lo hi))
  | _ => none
def eCut (f : M Dt) (lo hi : M (Option Int)) : M Vl := bnd f fun x => bnd lo fun l => bnd hi fun h => opt (gCut x l h)
theorem de_cut {f : M Dt} {l h : Option Expr} {fl fh : M (Option Int)} {p2 : Pos} (ha : DD B N sc a f) (hl : DP B N sc l fl) (hh : DP B N sc h fh) : DE B N sc (.Subscript a (.Slice l h none p2) pos) (eCut f fl fh) := by
  obtain ⟨t, p, r⟩ := ha
  obtain ⟨t2, p2, r2⟩ := hl
  obtain ⟨t3, p3, r3⟩ := hh
  refine ⟨tSl (rSlL B.W.K) t t2 t3, fun X c => c.K ▸ pe_slice sl_list (p X c) (p2 X c) (p3 X c), fun G σ H env fp v env' Q S hf k => ?_⟩
  obtain ⟨x, e1, h1, hf2⟩ := bnd_some hf
  obtain ⟨lo, e2, h2, hf3⟩ := bnd_some hf2
  obtain ⟨hi, e3, h3, hf4⟩ := bnd_some hf3
  obtain ⟨h5, rfl⟩ := opt_some hf4
  refine r G σ H env fp x e1 _ S h1 fun u G1 H1 fp1 a1 rx => ?_
  refine r2 G1 σ H1 e1 fp1 lo e2 _ a1.st h2 fun G2 H2 fp2 a2 => ?_
  refine r3 G2 σ H2 e2 fp2 hi _ _ a2.st h3 fun G3 H3 fp3 a3 => ?_
  have aa := (a1.trans a2).trans a3
  have rx' := rx.mono (a2.trans a3).fr.gsub
  unfold gCut at h5
  split at h5
  · cases h5
    cases rx' with
    | lst hq rs => exact ⟨_, _, rfl, SqL.of (a3.st.same _ _ hq), fun p hp => (aa.fin k).lst a3.st.same (reps_cut rs) hp⟩
  · cases h5
    cases rx' with
    | frl hq rs => exact ⟨_, _, rfl, a3.st.same.seq hq, fun p hp => (aa.fin k).lst a3.st.same (reps_cut rs) hp⟩
  · cases h5
end
end DL
set_option Elab.async false
set_option linter.all false
set_option maxRecDepth 100000
namespace DL
open PySem L2
section
variable {B : Bs} {N : Nm} {sc : Scope} {e a b : Expr} {pos : Pos} {W : Wd}
def oNil : M (List Vl) := ret []
def oCons (f : M Vl) (g : M (List Vl)) : M (List Vl) := bnd f fun x => bnd g fun xs => ret (x :: xs)
def DOn (B : Bs) (N : Nm) (sc : Scope) (n : Nat) (es : List Expr) (f : M (List Vl)) : Prop := DO B N sc es f ∧ ∀ env xs env', f env = some (xs, env') → xs.length = n
theorem do_nil : DOn B N sc 0 [] oNil := ⟨⟨_, fun _ _ => pa_nil, fun G σ H env fp v env' Q S hf k => by cases hf; exact k [] [] G H fp (Aft.refl S) .nil ⟨List.nodup_nil, fun _ h => nomatch h⟩⟩, fun _ _ _ h => by cases h; rfl⟩
theorem do_cons {f : M Vl} {n : Nat} {es : List Expr} {g : M (List Vl)} (h : DE B N sc a f) (h2 : DOn B N sc n es g) (hs : ∀ X : Cx, starEach (a :: es) X.env = (false, eval a X.env) :: starEach es X.env := by intro _; rfl) : DOn B N sc (n + 1) (a :: es) (oCons f g) := by
  obtain ⟨t, p, r⟩ := h
  obtain ⟨⟨t2, p2, r2⟩, hl⟩ := h2
  refine ⟨⟨_, fun X c => pa_cons (p X c) (p2 X c) (hs X), fun G σ H env fp v env' Q S hf k => ?_⟩, fun env xs env' q => ?_⟩
  · obtain ⟨x, e1, h1, hf2⟩ := bnd_some hf
    obtain ⟨xs, e2, h3, hf4⟩ := bnd_some hf2
    cases hf4
    refine r G σ H env fp x e1 _ S h1 fun u as G1 H1 fp1 a1 o1 n1 => ?_
    refine r2 G1 σ H1 e1 fp1 xs _ _ a1.st h3 fun us bs G2 H2 fp2 a2 o2 n2 => ?_
    have st : ∀ z ∈ as, H2 z = H1 z ∧ G2 z = none ∧ H1 z ≠ none := fun z hz => by
      cases e : H1 z with
      | none => exact absurd e (o1.there z hz)
      | some o =>
        obtain ⟨q1, q2⟩ := a2.fr.keep z o e fun ⟨j, m⟩ => (n1.2 z hz).2.2 j m
        exact ⟨q1, q2.trans (n1.2 z hz).1, fun z => nomatch z⟩
    refine k (u :: us) (as ++ bs) G2 H2 fp2 (a1.trans a2) (.cons (o1.keep a2.fr.gsub fun z hz => (st z hz).1) o2) ⟨List.nodup_append.mpr ⟨n1.1, n2.1, fun y hy z hz e => ?_⟩, fun z hz => ?_⟩
    · subst e
      rcases (n2.2 y hz).2.1 with ⟨j, hj, _⟩ | q
      · exact (n1.2 y hy).2.2 j hj
      · exact (st y hy).2.2 q
    · rcases List.mem_append.mp hz with m | m
      · refine ⟨(st z m).2.1, (n1.2 z m).2.1, fun j hj => ?_⟩
        rcases a2.inn ⟨j, hj⟩ with ⟨l, hl'⟩ | q
        · exact (n1.2 z m).2.2 l hl'
        · exact (st z m).2.2 q
      · exact (a1.new n2).2 z m
  · obtain ⟨x, e1, h1, hf2⟩ := bnd_some q
    obtain ⟨ys, e2, h3, hf4⟩ := bnd_some hf2
    cases hf4
    rw [List.length_cons, hl _ _ _ h3]
/-- a, b = x, y -/
def sPar (i j : Nat) (f : M (List Vl)) : SV := fun e => match f e with
  | some ([x, y], e1) => match stAt i (mkSl x) e1 with
    | some e2 => (stAt j (mkSl y) e2).map .nx
    | none => none
  | _ => none
theorem ds_par (i j : Nat) {x y : Str} {f : M (List Vl)} {px py pt : Pos} {kt k2 pt2} (h : DOn B N sc 2 [a, b] f) (hi : N.ns[i]? = some x := by rfl) (hj : N.ns[j]? = some y := by rfl) (hij : i ≠ j := by decide) (hx : sc.names.lookup x = some .local := by rfl) (hy : sc.names.lookup y = some .local := by rfl)
    (hw : ∀ X : Cx, X.env.scope = sc → swappedStores [.Tuple [.Name x px, .Name y py] kt pt] (.Tuple [a, b] k2 pt2) X.env = pure (some [x, y]) := by intro X h; simp only [swappedStores, Env.blockKind, Env.kindOf, h]; rfl)
    (hs : ∀ X : Cx, swapsWithSole [.Tuple [.Name x px, .Name y py] kt pt] (.Tuple [a, b] k2 pt2) pos.line X.env = pure false := by intro _; rfl) : DS B N sc (.Assign [.Tuple [.Name x px, .Name y py] kt pt] (.Tuple [a, b] k2 pt2) pos) (sPar i j f) := by
  obtain ⟨⟨t, p, r⟩, hl⟩ := h
  refine ⟨_, fun X c => ps_par c.calm (by rw [c.names]; exact c.nd) (by rw [c.names]; exact hi) (by rw [c.names]; exact hj) hij (by rw [c.scope]; exact hx) (by rw [c.scope]; exact hy) (p X c) (hw X c.scope) (hs X), fun G σ H env fp o D S hf k => ?_⟩
  unfold sPar at hf
  split at hf
  · rename_i u v e1 h1
    split at hf
    · rename_i e2 h2
      simp only [Option.map_eq_some_iff] at hf
      obtain ⟨e3, h3, rfl⟩ := hf
      refine r G σ H env fp _ e1 _ S h1 fun us as G1 H1 fp1 a1 o1 n1 => ?_
      cases o1 with
      | cons ou orr =>
        rename_i u' us' as' bs'
        cases orr with
        | cons ov orr =>
          rename_i v' us2 as2 bs2
          cases orr
          refine ⟨_, _, rfl, ?_⟩
          rw [List.append_nil] at n1
          have nd := List.nodup_append.mp n1.1
          have nu : New env fp H G1 fp1 as' := ⟨nd.1, fun z hz => n1.2 z (List.mem_append_left _ hz)⟩
          have a2 := a1.put ou nu h2
          have nv : New env fp H G1 (fpSet fp1 i as') as2 := ⟨nd.2.1, fun z hz => by
            have q := n1.2 z (List.mem_append_right _ hz)
            refine ⟨q.1, q.2.1, fun l hl' => ?_⟩
            rcases fpSet_in hl' with ⟨_, m⟩ | ⟨_, m⟩
            · exact nd.2.2 z m z hz rfl
            · exact q.2.2 l m⟩
          exact k _ _ _ _ (a2.put ov nv h3)
    · cases hf
  · cases hf
end
inductive Ixk where
  | c (k : Int) | s (j : Nat)
def ixOf (env : DEnv) : Ixk → Option Int
  | .c k => some k
  | .s j => match env[j]? with
    | some (.d (.int k)) => some k
    | _ => none
def teIx : Ixk → TE
  | .c k => tC (.int k)
  | .s j => tVar j
/-- the place of the last index first -/
def tPath (K : PySem.W.Frag) (i : Nat) : List Ixk → TE
  | [] => tVar i
  | k :: r => tOp (rIx K) (tPath K i r) (teIx k)
def getP (env : DEnv) (x : Vl) : List Ixk → Option Vl
  | [] => some x
  | k :: r => match getP env x r, ixOf env k with
    | some (.l xs), some z => (ixN xs.length z).bind fun j => xs[j]?
    | _, _ => none
def setP (env : DEnv) (x : Vl) : List Ixk → Vl → Option Vl
  | [], y => some y
  | k :: r, y => match getP env x r, ixOf env k with
    | some (.l xs), some z => (ixN xs.length z).bind fun j => setP env x r (.l (xs.set j y))
    | _, _ => none
theorem owns_at {W : Wd} {G H : Hp} : ∀ {vs : List V} {xs : List Vl} {as : List Addr} {j : Nat} {y : Vl}, Owns W G H vs xs as → as.Nodup → xs[j]? = some y →
    ∃ u bs, vs[j]? = some u ∧ Own W G H u y bs ∧ bs.Nodup ∧ (∀ a ∈ bs, a ∈ as) ∧ ∀ (G' H' : Hp) (y' : Vl) (bs' : List Addr), Same G G' → (∀ a ∈ as, a ∉ bs → H' a = H a) → Own W G' H' u y' bs' → bs'.Nodup → (∀ a ∈ bs', a ∈ as → a ∈ bs) →
      ∃ as', Owns W G' H' vs (xs.set j y') as' ∧ as'.Nodup ∧ (∀ a ∈ as', (a ∈ as ∧ a ∉ bs) ∨ a ∈ bs') := by
  intro vs xs as j y o
  induction j generalizing vs xs as with
  | zero =>
    intro nd hy
    cases o with
    | nil => simp at hy
    | cons o1 t =>
      rename_i v x vs' xs' as' cs
      have e : x = y := by simpa using hy
      subst e
      obtain ⟨n1, n2, n3⟩ := List.nodup_append.mp nd
      refine ⟨v, as', rfl, o1, n1, fun a ha => List.mem_append_left _ ha, fun G' H' y' bs' gs k o' nb dj => ?_⟩
      have cs_out : ∀ a ∈ cs, a ∉ as' := fun a ha h => n3 a h a ha rfl
      refine ⟨bs' ++ cs, .cons o' (t.keep gs fun a ha => k a (List.mem_append_right _ ha) (cs_out a ha)), List.nodup_append.mpr ⟨nb, n2, fun p hp q hq e => ?_⟩, fun a ha => ?_⟩
      · subst e
        exact cs_out p hq (dj p hp (List.mem_append_right _ hq))
      · rcases List.mem_append.mp ha with m | m
        · exact .inr m
        · exact .inl ⟨List.mem_append_right _ m, cs_out a m⟩
  | succ j ih =>
    intro nd hy
    cases o with
    | nil => simp at hy
    | cons o1 t =>
      rename_i v x vs' xs' as' cs
      obtain ⟨n1, n2, n3⟩ := List.nodup_append.mp nd
      obtain ⟨u, bs, h1, h2, h3, h4, h5⟩ := ih t n2 (by simpa using hy)
      have as_out : ∀ a ∈ as', a ∉ bs := fun a ha h => n3 a ha a (h4 a h) rfl
      refine ⟨u, bs, by simpa using h1, h2, h3, fun a ha => List.mem_append_right _ (h4 a ha), fun G' H' y' bs' gs k o' nb dj => ?_⟩
      obtain ⟨cs', q1, q2, q3⟩ := h5 G' H' y' bs' gs (fun a ha hn => k a (List.mem_append_right _ ha) hn) o' nb fun a ha hc => dj a ha (List.mem_append_right _ hc)
      refine ⟨as' ++ cs', .cons (o1.keep gs fun a ha => k a (List.mem_append_left _ ha) (as_out a ha)) q1, List.nodup_append.mpr ⟨n1, q2, fun p hp q hq e => ?_⟩, fun a ha => ?_⟩
      · subst e
        rcases q3 p hq with ⟨m, _⟩ | m
        · exact n3 p hp p m rfl
        · exact as_out p hp (dj p m (List.mem_append_left _ hp))
      · rcases List.mem_append.mp ha with m | m
        · exact .inl ⟨List.mem_append_left _ m, as_out a m⟩
        · rcases q3 a m with ⟨m, n⟩ | m
          · exact .inl ⟨List.mem_append_right _ m, n⟩
          · exact .inr m
/-- the thing at a path: where it stands, how it is read, and what changes when it changes -/
theorem own_path {W : Wd} {G H : Hp} {σ : L2.St} {env : DEnv} {fp : FP} (S : StR W G σ H env fp) {i : Nat} {x : Vl} {v : V} {as : List Addr} (hv : σ[i]? = some (some v)) (o : Own W G H v x as) (nd : as.Nodup) :
    ∀ (r : List Ixk) (y : Vl), getP env x r = some y → ∃ u bs, Own W G H u y bs ∧ bs.Nodup ∧ (∀ a ∈ bs, a ∈ as) ∧ (∀ Q : VK, Q u H → tPath W.K i r σ H Q) ∧
      ∀ (G' H' : Hp) (y' : Vl) (bs' : List Addr) (x' : Vl), Same G G' → (∀ a ∈ as, a ∉ bs → H' a = H a) → Own W G' H' u y' bs' → bs'.Nodup → (∀ a ∈ bs', a ∈ as → a ∈ bs) → setP env x r y' = some x' →
        ∃ as', Own W G' H' v x' as' ∧ as'.Nodup ∧ (∀ a ∈ as', (a ∈ as ∧ a ∉ bs) ∨ a ∈ bs')
  | [], y, h => by
    cases h
    refine ⟨v, as, o, nd, fun _ h => h, fun Q q => ⟨v, hv, q⟩, fun G' H' y' bs' x' gs k o' nb _ hs => ?_⟩
    cases hs
    exact ⟨bs', o', nb, fun a ha => .inr ha⟩
  | k :: r, y, h => by
    simp only [getP] at h
    split at h
    · rename_i xs z h1 h2
      simp only [Option.bind_eq_some_iff] at h
      obtain ⟨j, hj, hy⟩ := h
      obtain ⟨u, bs, ou, nb, sub, rd, rp⟩ := own_path S hv o nd r (.l xs) h1
      cases ou with
      | l hH os =>
      rename_i ad vs cs
      obtain ⟨n0, n1⟩ := List.nodup_cons.mp nb
      obtain ⟨w, ds, q1, q2, q3, q4, q5⟩ := owns_at os n1 hy
      have hix : ∀ Q : VK, Q (.int z) H → teIx k σ H Q := fun Q q => by
        cases k with
        | c n => cases h2; exact q
        | s jj =>
          simp only [ixOf] at h2
          split at h2
          · rename_i k' hk
            cases h2
            obtain ⟨o', ho', ro⟩ := S.get hk
            generalize hfi : fp jj = as0 at ro
            cases ro with
            | d ro => cases ro; exact ⟨_, ho', q⟩
          · cases h2
      refine ⟨w, ds, q2, q3, fun a ha => sub a (List.mem_cons_of_mem _ (q4 a ha)), fun Q q => rd _ (hix _ (.inl ⟨ad, vs, z, w, rfl, rfl, SqL.of hH, ?_, q⟩)), fun G' H' y' bs' x' gs kk o' nb' dj hs => ?_⟩
      · unfold L2.atI
        rw [os.length, hj]
        exact q1
      · simp only [setP, h1, h2] at hs
        simp only [Option.bind_eq_some_iff] at hs
        obtain ⟨j', hj', hs⟩ := hs
        rw [hj] at hj'
        cases hj'
        have ad_out : ad ∉ ds := fun m => n0 (q4 ad m)
        obtain ⟨cs', r1, r2, r3⟩ := q5 G' H' y' bs' gs (fun a ha hn => kk a (sub a (List.mem_cons_of_mem _ ha)) hn) o' nb' fun a ha hc => dj a ha (sub a (List.mem_cons_of_mem _ hc))
        have ad_out2 : ad ∉ cs' := fun m => by
          rcases r3 ad m with ⟨m, _⟩ | m
          · exact n0 m
          · exact ad_out (dj ad m (sub ad List.mem_cons_self))
        obtain ⟨as', t1, t2, t3⟩ := rp G' H' (.l (xs.set j y')) (ad :: cs') x' gs (fun a ha hn => kk a ha fun m => hn (List.mem_cons_of_mem _ (q4 a m))) (.l ((kk ad (sub ad List.mem_cons_self) ad_out).trans hH) r1) (List.nodup_cons.mpr ⟨ad_out2, r2⟩) (fun a ha hc => by
          rcases List.mem_cons.mp ha with e | m
          · subst e; exact List.mem_cons_self
          · rcases r3 a m with ⟨m, _⟩ | m
            · exact List.mem_cons_of_mem _ m
            · exact List.mem_cons_of_mem _ (q4 a (dj a m hc))) hs
        refine ⟨as', t1, t2, fun a ha => ?_⟩
        rcases t3 a ha with ⟨m, n⟩ | m
        · exact .inl ⟨m, fun q => n (List.mem_cons_of_mem _ (q4 a q))⟩
        · rcases List.mem_cons.mp m with e | m
          · subst e; exact .inl ⟨sub _ List.mem_cons_self, ad_out⟩
          · rcases r3 a m with ⟨m, n⟩ | m
            · exact .inl ⟨sub a (List.mem_cons_of_mem _ m), n⟩
            · exact .inr m
    · cases h
section
variable {B : Bs} {N : Nm} {sc : Scope} {e a b : Expr} {pos : Pos}
/-- a written path: x[k][..] -/
def DPath (B : Bs) (N : Nm) (sc : Scope) (e : Expr) (i : Nat) (r : List Ixk) : Prop := ∀ X, Cxt B N sc X → PE X e (tPath B.W.K i r)
theorem dpath_nil (i : Nat) {x : Str} (hN : N.ns[i]? = some x := by rfl) (hv : Vis sc x := by first | exact Or.inl rfl | exact Or.inr (Or.inl rfl) | exact Or.inr (Or.inr rfl)) (hd : (x == ("__debug__" : Str)) = false := by decide) (hcd : (x == ("__classdict__" : Str)) = false := by decide) :
    DPath B N sc (.Name x pos) i [] := fun X c => c.var i hN hv hd hcd
theorem dpath_c {i : Nat} {r : List Ixk} {k : Int} {kk : Nat} {p2 : Pos} (h : DPath B N sc a i r) : DPath B N sc (.Subscript a (.Constant (.int k) kk p2) pos) i (.c k :: r) := fun X c => pe_ix (c.K ▸ ix_seq) (h X c) pe_int fun _ _ => rfl
theorem dpath_s {i : Nat} {r : List Ixk} (j : Nat) {x : Str} {p2 : Pos} (h : DPath B N sc a i r) (hN : N.ns[j]? = some x := by rfl) (hv : Vis sc x := by first | exact Or.inl rfl | exact Or.inr (Or.inl rfl) | exact Or.inr (Or.inr rfl)) (hd : (x == ("__debug__" : Str)) = false := by decide) (hcd : (x == ("__classdict__" : Str)) = false := by decide) :
    DPath B N sc (.Subscript a (.Name x p2) pos) i (.s j :: r) := fun X c => pe_ix (c.K ▸ ix_seq) (h X c) (c.var j hN hv hd hcd) fun _ _ => rfl
/-- a value that is reckoned without touching what is owned -/
def SemQ (W : Wd) (t : TE) (f : DEnv → Option Dt) : Prop := ∀ (G : Hp) (σ : L2.St) (H : Hp) (env : DEnv) (fp : FP) (v : Dt) (Q : VK), StR W G σ H env fp → f env = some v →
    (∀ u G' H', Fr (fun _ => False) G H G' H' → Same G' H' → Rep W G' u v → Q u H') → t σ H Q
def DQ (B : Bs) (N : Nm) (sc : Scope) (e : Expr) (f : DEnv → Option Dt) : Prop := ∃ t, (∀ X, Cxt B N sc X → PE X e t) ∧ SemQ B.W t f
def SemQs (W : Wd) (t : TA) (f : DEnv → Option (List Dt)) : Prop := ∀ (G : Hp) (σ : L2.St) (H : Hp) (env : DEnv) (fp : FP) (v : List Dt) (Q : List V → Hp → Prop), StR W G σ H env fp → f env = some v →
    (∀ us G' H', Fr (fun _ => False) G H G' H' → Same G' H' → Reps W G' us v → Q us H') → t σ H Q
def DQs (B : Bs) (N : Nm) (sc : Scope) (es : List Expr) (n : Nat) (f : DEnv → Option (List Dt)) : Prop := (∃ t, (∀ X, Cxt B N sc X → PA X es t) ∧ SemQs B.W t f) ∧ ∀ env xs, f env = some xs → xs.length = n
def qC (x : Dt) : DEnv → Option Dt := fun _ => some x
theorem dq_int {i : Int} {j} : DQ B N sc (.Constant (.int i) j pos) (qC (.int i)) := ⟨_, fun _ _ => pe_int, fun G σ H env fp v Q S hf k => by cases hf; exact k _ G H Fr.refl S.same (.int i)⟩
def qNm (i : Nat) : DEnv → Option Dt := fun env => match env[i]? with
  | some (.d x) => some x
  | _ => none
theorem dq_nm (i : Nat) {x : Str} (hN : N.ns[i]? = some x := by rfl) (hv : Vis sc x := by first | exact Or.inl rfl | exact Or.inr (Or.inl rfl) | exact Or.inr (Or.inr rfl)) (hd : (x == ("__debug__" : Str)) = false := by decide) (hcd : (x == ("__classdict__" : Str)) = false := by decide) : DQ B N sc (.Name x pos) (qNm i) := by
  refine ⟨_, fun X c => c.var i hN hv hd hcd, fun G σ H env fp v Q S hf k => ?_⟩
  unfold qNm at hf
  split at hf
  · rename_i x hx
    cases hf
    obtain ⟨o, ho, r⟩ := S.get hx
    generalize hfi : fp i = as at r
    cases r with
    | d r => exact ⟨_, ho, k _ G H Fr.refl S.same r⟩
  · cases hf
def qBor (f : M Dt) : DEnv → Option Dt := fun env => match f (env.map Sl.frz) with
  | some (x, _) => if x.flat = true then some x else none
  | none => none
open Classical in
theorem dq_bor {f : M Dt} (h : DD B N sc e f) : DQ B N sc e (qBor f) := by
  obtain ⟨t, p, r⟩ := h
  refine ⟨t, p, fun G σ H env fp v Q S hf k => ?_⟩
  unfold qBor at hf
  split at hf
  · rename_i x e1 h1
    split at hf
    · rename_i hfl
      cases hf
      let G2 : Hp := fun b => if fp.In b then H b else G b
      have g2in : ∀ z, fp.In z → G2 z = H z := fun z m => if_pos m
      have g2out : ∀ z, ¬ fp.In z → G2 z = G z := fun z m => if_neg m
      have gs : Same G G2 := fun z o hz => by
        rw [g2out z fun ⟨j, m⟩ => by rw [S.fr j z m] at hz; cases hz]; exact hz
      have sm : Same G2 H := fun z o hz => by
        by_cases m : fp.In z
        · rw [g2in z m] at hz; exact hz
        · rw [g2out z m] at hz; exact S.same z o hz
      have S2 : StR B.W G2 σ H (env.map Sl.frz) (fun _ => []) := by
        refine ⟨by rw [List.length_map]; exact S.len, fun i o s h1 h2 => ?_, fun _ _ => rfl, fun _ => List.nodup_nil, (fun _ _ _ h => nomatch h), (fun _ _ h => nomatch h), sm⟩
        rw [List.getElem?_map] at h2
        cases hs : env[i]? with
        | none => rw [hs] at h2; cases h2
        | some s0 =>
          rw [hs] at h2
          cases h2
          have q := S.sl i o s0 h1 hs
          have fz : ∀ a ∈ fp i, G2 a = H a := fun a ha => g2in a ⟨i, ha⟩
          generalize hfi : fp i = as at q
          cases q with
          | un => exact .un
          | d r => exact .d (r.mono gs)
          | w r => exact .d (r.frz gs (hfi ▸ fz))
          | pm r => exact .d (r.frz gs (hfi ▸ fz))
      refine r G2 σ H _ _ _ e1 _ S2 h1 fun u G' H' fp' a1 rx => ?_
      have hk : ∀ z o, H z = some o → H' z = some o := fun z o hz => (a1.fr.keep z o hz fun ⟨j, m⟩ => nomatch m).1
      exact k u G H' ⟨fun z o hz _ => ⟨hk z o hz, rfl⟩, Same.refl G, a1.fr.live⟩ (fun z o hz => hk z o (S.same z o hz)) (rx.flat hfl)
    · cases hf
  · cases hf
def qNil : DEnv → Option (List Dt) := fun _ => some []
def qCons (f : DEnv → Option Dt) (g : DEnv → Option (List Dt)) : DEnv → Option (List Dt) := fun env => match f env, g env with
  | some x, some xs => some (x :: xs)
  | _, _ => none
theorem dqs_nil : DQs B N sc [] 0 qNil := ⟨⟨_, fun _ _ => pa_nil, fun G σ H env fp v Q S hf k => by cases hf; exact k [] G H Fr.refl S.same .nil⟩, fun _ _ h => by cases h; rfl⟩
theorem dqs_cons {es : List Expr} {n : Nat} {f : DEnv → Option Dt} {g : DEnv → Option (List Dt)} (h : DQ B N sc a f) (h2 : DQs B N sc es n g) (hs : ∀ X : Cx, starEach (a :: es) X.env = (false, eval a X.env) :: starEach es X.env := by intro _; rfl) : DQs B N sc (a :: es) (n + 1) (qCons f g) := by
  obtain ⟨t, p, r⟩ := h
  obtain ⟨⟨t2, p2, r2⟩, hl⟩ := h2
  refine ⟨⟨_, fun X c => pa_cons (p X c) (p2 X c) (hs X), fun G σ H env fp v Q S hf k => ?_⟩, fun env xs q => ?_⟩
  · unfold qCons at hf
    split at hf
    · rename_i x xs h1 h2
      cases hf
      refine r G σ H env fp x _ S h1 fun u G1 H1 f1 s1 r1 => ?_
      exact r2 G1 σ H1 env fp xs _ (S.step f1 (fun _ _ _ z => z) s1) h2 fun us G2 H2 f2 s2 r2' => k _ G2 H2 (f1.trans f2 fun _ z => z.elim) s2 (.cons (r1.mono f2.gsub) r2')
    · cases hf
  · unfold qCons at q
    split at q
    · rename_i x ys h1 h2
      cases q
      rw [List.length_cons, hl _ _ h2]
    · cases q
def qTup (f : DEnv → Option (List Dt)) : DEnv → Option Dt := fun env => (f env).map .tup
theorem dq_tup {es : List Expr} {n : Nat} {f : DEnv → Option (List Dt)} {x1} (h : DQs B N sc es n f) (hn : n ≤ 1000 := by decide) : DQ B N sc (.Tuple es x1 pos) (qTup f) := by
  obtain ⟨⟨t, p, r⟩, hl⟩ := h
  refine ⟨_, fun X c => pe_tup (p X c), fun G σ H env fp v Q S hf k => ?_⟩
  simp only [qTup, Option.map_eq_some_iff] at hf
  obtain ⟨xs, h1, rfl⟩ := hf
  refine r G σ H env fp xs _ S h1 fun us G1 H1 f1 s1 r1 => ⟨r1.len' (by rw [hl _ _ h1]; exact Nat.le_of_lt (small1000 hn)), fun q hq => ?_⟩
  have f2 : Fr (fun _ => False) G1 H1 (upd G1 q (.tup us)) (upd H1 q (.tup us)) := Fr.newG s1 hq
  exact k _ _ _ (f1.trans f2 fun _ z => z.elim) (Same.newG s1) (.tup (.inl (.inl upd_same)) (r1.mono f2.gsub))
/-- path.append(value) -/
def sAppP (i : Nat) (r : List Ixk) (f : DEnv → Option Dt) : SV := fun env => match f env, ownAt env i with
  | some v, some x => match getP env x r with
    | some (.l xs) => if xs.length < sizeLine then (setP env x r (.l (xs ++ [.d v]))).map fun y => .nx (setOwn env i y) else none
    | _ => none
  | _, _ => none
theorem ds_appendP {i : Nat} {r : List Ixk} {f : DEnv → Option Dt} {p3 p4 : Pos} (hp : DPath B N sc a i r) (h : DQ B N sc e f)
    (hbase : ∀ X : Cx, attributeBase a "append" X.env (eval a X.env) = eval a X.env := by intro _; rfl)
    (hfew : ∀ X : Cx, ((backTo p4 (starEach [e] X.env)).all (fun x => !x.1) && (backToKw p4 (keywordEach [] X.env)).all (fun x => x.1.isSome)
      && decide ([e].length + ([] : List Keyword).length + (if ([] : List Keyword).isEmpty then 0 else 1) < 30)) = true := by intro _; rfl)
    (hline : (p3.endLine == p4.line) = true := by rfl) (hs : ∀ X : Cx, starEach [e] X.env = (false, eval e X.env) :: starEach [] X.env := by intro _; rfl)
    (hsw : ∀ X : Cx, swapsWith (.Call (.Attribute a "append" p3) [e] [] p4) none pos.line X.env = pure false := by intro _; rfl) :
    DS B N sc (.Expr (.Call (.Attribute a "append" p3) [e] [] p4) pos) (sAppP i r f) := by
  obtain ⟨t, p, rr⟩ := h
  refine ⟨tDrop (tBM B.W.K "list" rAppend (tPath B.W.K i r) (tCons t tNil)), fun X c => ?_, fun G σ H env fp o D S hf k => ?_⟩
  · refine ps_expr ?_ (hsw X)
    have q := pe_bm (apos := p3) (cpos := p4) PySem.F.plainAttrs_list PySem.F.slot_list_append PySem.F.type_list_append mt_append (hp X c) (pa_cons (p X c) pa_nil (hs X)) (hbase X) (hfew X) hline (hs X) rfl
    rw [c.K] at q
    exact q
  unfold sAppP at hf
  split at hf
  · rename_i v x h1 hx
    split at hf
    · rename_i xs hg
      split at hf
      · rename_i hlen
        simp only [Option.map_eq_some_iff] at hf
        obtain ⟨y, hy, rfl⟩ := hf
        obtain ⟨w, hw, ow, hi⟩ := own_get S hx
        obtain ⟨u, bs, ou, nb, sub, rd, rp⟩ := own_path S hw ow (S.nd i) r _ hg
        cases ou with
        | l hH rs =>
        rename_i ad vs cs
        refine rd _ ⟨.inl ⟨rfl, _, SqL.of hH⟩, rr G σ H _ fp v _ S h1 fun uv G1 H1 f1 s1 rv => ?_⟩
        have hH1 : ∀ z o, H z = some o → H1 z = some o := fun z o hz => (f1.keep z o hz fun z => z).1
        have hnz : ∀ z, H z ≠ none → H1 z = H z := fun z hz => by
          cases e : H z with
          | none => exact absurd e hz
          | some o => exact hH1 z o e
        refine ⟨ad, vs, uv, rfl, rfl, hH1 _ _ hH, by rw [rs.length]; exact hlen, ?_⟩
        have a1 : AftE B.W G σ H env fp G1 H1 env fp := (Aft.refl S).step f1 s1
        have adin : ad ∈ fp i := sub ad List.mem_cons_self
        obtain ⟨n0, n1⟩ := List.nodup_cons.mp nb
        have keep2 : ∀ z, z ≠ ad → H z ≠ none → (upd H1 ad (.lst (vs ++ [uv]))) z = H z := fun z hz hn => (upd_ne hz).trans (hnz z hn)
        have rs1 : Owns B.W G1 (upd H1 ad (.lst (vs ++ [uv]))) vs xs cs := rs.keep f1.gsub fun z hz => keep2 z (fun e => n0 (e ▸ hz)) (rs.there z hz)
        have rs2 : Owns B.W G1 (upd H1 ad (.lst (vs ++ [uv]))) (vs ++ [uv]) (xs ++ [.d v]) (cs ++ ([] ++ [])) := rs1.append (.cons (.d rv) .nil)
        rw [List.append_nil, List.append_nil] at rs2
        obtain ⟨as', t1, t2, t3⟩ := rp G1 (upd H1 ad (.lst (vs ++ [uv]))) (.l (xs ++ [.d v])) (ad :: cs) y f1.gsub (fun z hz hn => keep2 z (fun e => hn (by rw [e]; exact List.mem_cons_self)) (ow.there z hz)) (.l upd_same rs2) nb (fun z hz _ => hz) hy
        exact k _ _ _ _ (own_write a1 hx hw adin t1 t2 fun z hz => .inl (by
          rcases t3 z hz with ⟨m, _⟩ | m
          · exact m
          · exact sub z m))
      · cases hf
    · cases hf
  · cases hf
/-- target = a pair of constants -/
theorem ds_tgc {tg : Expr} {f : M Dt} {js : List Nat} {g : Dt → DEnv → Option DEnv} (h : DD B N sc e f) (hg : DG B N sc tg js g) (hs : ∀ X : Cx, swapsWithSole [tg] e pos.line X.env = pure false := by intro _; rfl)
    (hw : ∀ X : Cx, X.env.scope = sc → swappedStores [tg] e X.env = pure none := by intro X h; simp only [swappedStores, Env.blockKind, Env.kindOf, h]; rfl) (h1 : ∀ X : Cx, (assignEach [tg] X.env).map (·.2) = [assign tg X.env] := by intro _; rfl) : DS B N sc (.Assign [tg] e pos) (sTg g f) := by
  obtain ⟨t, p, r⟩ := h
  obtain ⟨t2, p2, r2⟩ := hg
  refine ⟨_, fun X c => ps_asg (p X c) (p2 X c) (hs X) (hw X c.scope) (h1 X), fun G σ H env fp o D S hf k => ?_⟩
  unfold sTg at hf
  split at hf
  · cases hf
  · rename_i x e1 h1
    simp only [Option.map_eq_some_iff] at hf
    obtain ⟨e2, h2, rfl⟩ := hf
    exact r G σ H env fp x e1 _ S h1 fun u G' H' fp' a rx => r2 G' σ H' e1 fp' u x e2 _ a.st rx h2 fun σ' fp2 a2 _ => k _ _ _ _ (a.trans a2)
theorem dt_cmpR {fa fb : M Dt} {op : CmpOp} {r : R2} {g : Dt → Dt → Option Vl} (ho : ∀ X, Cxt B N sc X → OpR X (compareOp op) r) (hr : RS2 B.W r g) (ha : DD B N sc a fa) (hb : DD B N sc b fb) (hm : behindInMarks op b = false) : DT B N sc (.Compare a [op] [b] pos) (asB (frz (e2 g fa fb))) := by
  obtain ⟨ta, pa, ka⟩ := ha
  obtain ⟨tb, pb, kb⟩ := hb
  refine ⟨_, fun X c => pt_cmpR (ho X c) (pa X c) (pb X c) hm, fun G σ H env fp v env' Q S hf k => ?_⟩
  obtain ⟨w, e9, hf1, hf2⟩ := bnd_some hf
  obtain ⟨w2, e8, hf3, hf4⟩ := bnd_some hf1
  cases hf4
  obtain ⟨x, e1, h1, hf5⟩ := bnd_some hf3
  obtain ⟨y, e2, h2, hf6⟩ := bnd_some hf5
  obtain ⟨h3, rfl⟩ := opt_some hf6
  refine ka G σ H env fp x e1 _ S h1 fun u G1 H1 fp1 a1 r1 => ?_
  refine kb G1 σ H1 e1 fp1 y _ _ a1.st h2 fun w G2 H2 fp2 a2 r2 => ?_
  refine hr G2 H2 u w x y w2 _ a2.st.same (r1.mono a2.fr.gsub) r2 h3 fun q as G3 H3 f3 s3 o nd n => ?_
  have a3 := (a1.trans a2).step f3 s3
  cases w2 with
  | d z =>
    simp only [Vl.froz] at hf2
    cases z <;> try (cases hf2; done)
    cases hf2
    cases o with
    | d ro => cases ro; exact ⟨_, rfl, k _ _ _ a3⟩
  | l _ => simp [Vl.froz] at hf2
  | o _ _ => simp [Vl.froz] at hf2
  | dc _ => simp [Vl.froz] at hf2
theorem dt_chR {c : Expr} {fa fb fc : M Dt} {op op' : CmpOp} {r r' : R2} {g g' : Dt → Dt → Option Vl} (ho : ∀ X, Cxt B N sc X → OpR X (compareOp op) r) (ho' : ∀ X, Cxt B N sc X → OpR X (compareOp op') r') (hr : RS2 B.W r g) (hr' : RS2 B.W r' g')
    (ha : DD B N sc a fa) (hb : DD B N sc b fb) (hc : DD B N sc c fc) (hm : lastMarks [op, op'] [b, c] = false) : DT B N sc (.Compare a [op, op'] [b, c] pos) (asB (frz (e3c g g' fa fb fc))) := by
  obtain ⟨ta, pa, ka⟩ := ha
  obtain ⟨tb, pb, kb⟩ := hb
  obtain ⟨tc, pc, kc⟩ := hc
  refine ⟨_, fun X c => pt_chain (ho X c) (ho' X c) (pa X c) (pb X c) (pc X c) hm, fun G σ H env fp v env' Q S hf k => ?_⟩
  obtain ⟨w, e9, hf1, hf2⟩ := bnd_some hf
  obtain ⟨w2, e8, hf3, hf4⟩ := bnd_some hf1
  cases hf4
  have tst : ∀ {z : Vl} {v : Bool} {e : DEnv}, (match z.froz with | .bl b => ret b | _ => fun _ => none : M Bool) e = some (v, env') → z = .d (.bl v) ∧ e = env' := fun {z v e} h => by
    cases z with
    | d y =>
      simp only [Vl.froz] at h
      cases y <;> try (cases h; done)
      cases h; exact ⟨rfl, rfl⟩
    | l _ => simp [Vl.froz] at h
    | o _ _ => simp [Vl.froz] at h
    | dc _ => simp [Vl.froz] at h
  obtain ⟨rfl, rfl⟩ := tst hf2
  obtain ⟨x, e1, h1, hf5⟩ := bnd_some hf3
  obtain ⟨y, e2, h2, hf6⟩ := bnd_some hf5
  obtain ⟨z, e3, h3', hf7⟩ := bnd_some hf6
  obtain ⟨h3, e33⟩ := opt_some h3'
  subst e33
  refine ka G σ H env fp x e1 _ S h1 fun u G1 H1 fp1 a1 r1 => ?_
  refine kb G1 σ H1 e1 fp1 y _ _ a1.st h2 fun w G2 H2 fp2 a2 r2 => ?_
  refine hr G2 H2 u w x y z _ a2.st.same (r1.mono a2.fr.gsub) r2 h3 fun q as G3 H3 f3 s3 o nd n => ?_
  have a3 := (a1.trans a2).step f3 s3
  split at hf7
  · cases o with
    | d ro =>
      cases ro
      obtain ⟨d, e4, h4, hf8⟩ := bnd_some hf7
      obtain ⟨h5, rfl⟩ := opt_some hf8
      refine ⟨true, rfl, iteT (kc G3 σ H3 _ _ d _ _ a3.st h4 fun q2 G4 H4 fp4 a4 r4 => ?_)⟩
      refine hr' G4 H4 w q2 y d _ _ a4.st.same ((r2.mono f3.gsub).mono a4.fr.gsub) r4 h5 fun q3 as3 G5 H5 f5 s5 o5 _ _ => ?_
      cases o5 with
      | d ro => cases ro; exact ⟨_, rfl, k _ _ _ ((a3.trans a4).step f5 s5)⟩
  · cases o with
    | d ro =>
      cases ro
      cases hf7
      exact ⟨false, rfl, iteF ⟨false, rfl, k _ _ _ a3⟩⟩
  · cases hf7
section
variable {fa fb fc : M Dt} {c : Expr}
theorem dt_lt (ha : DD B N sc a fa) (hb : DD B N sc b fb) : DT B N sc (.Compare a [.Lt] [b] pos) (asB (frz (e2 gLt fa fb))) := dt_cmpR (fun _ _ => op_lt) (rs_I0 fun _ _ _ => .bl _) ha hb (nomark _)
theorem dt_le (ha : DD B N sc a fa) (hb : DD B N sc b fb) : DT B N sc (.Compare a [.LtE] [b] pos) (asB (frz (e2 gLe fa fb))) := dt_cmpR (fun _ _ => op_le) (rs_I0 fun _ _ _ => .bl _) ha hb (nomark _)
theorem dt_gt (ha : DD B N sc a fa) (hb : DD B N sc b fb) : DT B N sc (.Compare a [.Gt] [b] pos) (asB (frz (e2 gGt fa fb))) := dt_cmpR (fun _ _ => op_gt) (rs_I0 fun _ _ _ => .bl _) ha hb (nomark _)
theorem dt_ge (ha : DD B N sc a fa) (hb : DD B N sc b fb) : DT B N sc (.Compare a [.GtE] [b] pos) (asB (frz (e2 gGe fa fb))) := dt_cmpR (fun _ _ => op_ge) (rs_I0 fun _ _ _ => .bl _) ha hb (nomark _)
theorem dt_eq (ha : DD B N sc a fa) (hb : DD B N sc b fb) : DT B N sc (.Compare a [.Eq] [b] pos) (asB (frz (e2 gEq fa fb))) := dt_cmpR (fun _ c => c.K ▸ op_eqD c.units) rs_eq ha hb (nomark _)
theorem dt_ne (ha : DD B N sc a fa) (hb : DD B N sc b fb) : DT B N sc (.Compare a [.NotEq] [b] pos) (asB (frz (e2 gNe fa fb))) := dt_cmpR (fun _ c => c.K ▸ op_neD c.units) rs_ne ha hb (nomark _)
theorem dt_in (ha : DD B N sc a fa) (hb : DD B N sc b fb) (hm : behindInMarks .In b = false := by rfl) : DT B N sc (.Compare a [.In] [b] pos) (asB (frz (e2 gIn fa fb))) := dt_cmpR (fun _ c => c.K ▸ op_inD c.units65) rs_in ha hb hm
theorem dt_nin (ha : DD B N sc a fa) (hb : DD B N sc b fb) (hm : behindInMarks .NotIn b = false := by rfl) : DT B N sc (.Compare a [.NotIn] [b] pos) (asB (frz (e2 gNin fa fb))) := dt_cmpR (fun _ c => c.K ▸ op_notInD c.units65) rs_nin ha hb hm
theorem dt_isN (ha : DD B N sc a fa) (hb : DD B N sc b fb) : DT B N sc (.Compare a [.Is] [b] pos) (asB (frz (e2 gIsN fa fb))) := dt_cmpR (fun _ _ => op_isN) rs_isN ha hb (nomark _)
theorem dt_notN (ha : DD B N sc a fa) (hb : DD B N sc b fb) : DT B N sc (.Compare a [.IsNot] [b] pos) (asB (frz (e2 gNotN fa fb))) := dt_cmpR (fun _ _ => op_notN) rs_notN ha hb (nomark _)
theorem dt_lelt (ha : DD B N sc a fa) (hb : DD B N sc b fb) (hc : DD B N sc c fc) (hm : lastMarks [.LtE, .Lt] [b, c] = false := by with_unfolding_all rfl) : DT B N sc (.Compare a [.LtE, .Lt] [b, c] pos) (asB (frz (e3c gLe gLt fa fb fc))) :=
  dt_chR (fun _ _ => op_le) (fun _ _ => op_lt) (rs_I0 fun _ _ _ => .bl _) (rs_I0 fun _ _ _ => .bl _) ha hb hc hm
theorem dt_lele (ha : DD B N sc a fa) (hb : DD B N sc b fb) (hc : DD B N sc c fc) (hm : lastMarks [.LtE, .LtE] [b, c] = false := by with_unfolding_all rfl) : DT B N sc (.Compare a [.LtE, .LtE] [b, c] pos) (asB (frz (e3c gLe gLe fa fb fc))) :=
  dt_chR (fun _ _ => op_le) (fun _ _ => op_le) (rs_I0 fun _ _ _ => .bl _) (rs_I0 fun _ _ _ => .bl _) ha hb hc hm
end
open Classical in
/-- a look at owned things as a test -/
theorem dt_bor {f : M Bool} (h : DT B N sc e f) : DT B N sc e (eBorT f) := by
  obtain ⟨t, p, r⟩ := h
  refine ⟨t, p, fun G σ H env fp v env' Q S hf k => ?_⟩
  unfold eBorT at hf
  split at hf
  · rename_i x e1 h1
    cases hf
    let G2 : Hp := fun b => if fp.In b then H b else G b
    have g2in : ∀ z, fp.In z → G2 z = H z := fun z m => if_pos m
    have g2out : ∀ z, ¬ fp.In z → G2 z = G z := fun z m => if_neg m
    have gs : Same G G2 := fun z o hz => by
      rw [g2out z fun ⟨j, m⟩ => by rw [S.fr j z m] at hz; cases hz]; exact hz
    have sm : Same G2 H := fun z o hz => by
      by_cases m : fp.In z
      · rw [g2in z m] at hz; exact hz
      · rw [g2out z m] at hz; exact S.same z o hz
    have S2 : StR B.W G2 σ H (env.map Sl.frz) (fun _ => []) := by
      refine ⟨by rw [List.length_map]; exact S.len, fun i o s h1 h2 => ?_, fun _ _ => rfl, fun _ => List.nodup_nil, (fun _ _ _ h => nomatch h), (fun _ _ h => nomatch h), sm⟩
      rw [List.getElem?_map] at h2
      cases hs : env[i]? with
      | none => rw [hs] at h2; cases h2
      | some s0 =>
        rw [hs] at h2
        cases h2
        have q := S.sl i o s0 h1 hs
        have fz : ∀ a ∈ fp i, G2 a = H a := fun a ha => g2in a ⟨i, ha⟩
        generalize hfi : fp i = as at q
        cases q with
        | un => exact .un
        | d r => exact .d (r.mono gs)
        | w r => exact .d (r.frz gs (hfi ▸ fz))
        | pm r => exact .d (r.frz gs (hfi ▸ fz))
    refine r G2 σ H _ _ _ e1 _ S2 h1 fun G' H' fp' a1 => ?_
    have hk : ∀ z o, H z = some o → H' z = some o := fun z o hz => (a1.fr.keep z o hz fun ⟨j, m⟩ => nomatch m).1
    have st : StR B.W G σ H' env fp := S.move (Same.refl G) (fun i a ha => by
      cases e : H a with
      | none => exact absurd e (S.there ha)
      | some o => exact hk a o e) S.fr fun z o hz => hk z o (S.same z o hz)
    exact k G H' fp ⟨st, ⟨fun z o hz _ => ⟨hk z o hz, rfl⟩, Same.refl G, a1.fr.live⟩, fun i a h => .inl ⟨i, h, .inr rfl⟩, PmK.refl⟩
  · cases hf
end
end DL
set_option Elab.async false
set_option linter.all false
set_option maxRecDepth 100000
namespace DL
open PySem L2
theorem mk_ints {W : Wd} {G : Hp} : ∀ ns : List Int, Reps W G (ns.map V.int) (ns.map Dt.int)
  | [] => .nil
  | n :: ns => .cons (.int n) (mk_ints ns)
/-- a list of at most m whole numbers is handed in, True comes out -/
def lawSp (m : Nat) (K : PySem.W.Frag) : Sp := fun vs H Q _ => ∃ (a : Addr) (ns : List Int), vs = [.ref a] ∧ SqL K H a (ns.map V.int) ∧ ns.length ≤ m ∧ (∀ z ∈ ns, Builtin.Int.intBits z ≤ 1048576) ∧ ∀ H', Q (.bl true) H'
theorem law_imp {W : Wd} {F : Fn} {m : Nat} (h : ∀ ns : List Int, ns.length ≤ m → (∀ z ∈ ns, Builtin.Int.intBits z ≤ 1048576) → F.app [.frl (ns.map .int)] = some (.d (.bl true))) :
    ∀ vs H Q E, lawSp m W.K vs H Q E → spD W 1 F vs H Q E := by
  rintro vs H Q E ⟨a, ns, rfl, hS, hl, hb, k⟩
  refine spD_fin (G := H) (fun _ _ e => e) (.cons (.frl hS (mk_ints ns)) .nil) (h ns hl hb) rfl fun u bs G' H' f S o nd nb => ?_
  cases o with
  | d r =>
    cases r
    exact k H'
theorem dd_glob {B : Bs} {N : Nm} {sc : Scope} {pos : Pos} {x : Str} {k : Int} {t : Tok} (hm : B.mg x = some (.int k t)) (hg : sc.names.lookup x = some .globalImplicit) (hd : (x == ("__debug__" : Str)) = false := by decide) : DD B N sc (.Name x pos) (eC (.int k)) :=
  dd_c (fun X c => pe_glob (v := .int k) (c.gl hg) (by rw [c.mg]; exact hm) ⟨t, rfl⟩ hd) fun _ => .int k
theorem clsF_mk {B : Bs} {c : Str} {fs : List Str} (e : B.W.fl c = fs) (pg : PySem.W.plainGet B.W.K (B.W.cA c) Str.empty = true) (hd : PySem.W.hasDictIn B.W.K (B.W.cA c) = true) (po : PySem.W.plainOver B.W.K (B.W.cA c) = true) (sa : PySem.W.findIn B.W.K (.ref (B.W.cA c)) "__setattr__" = some (some (.builtin "object.__setattr__")))
    (nd : fs.Nodup) (few : fs.length < 1000) (na : ∀ f ∈ fs, PySem.W.findIn B.W.K (.ref (B.W.cA c)) f = some none) : ClsF B c :=
  ⟨⟨pg, hd, po, sa⟩, e ▸ nd, e ▸ few, e ▸ na⟩
theorem walk_law {l : PySem.W.OpenLaw} {n k : Nat} {q : Program} {loose : List Str} {XP : (Str → Option Value) → Heap → Prop} {YP : World → Heap → Prop} {d : DefRec} {K : Params → PySem.W.Frag} (hn : l.most = some n) (hn2 : n ≤ sizeLine) (hr : Room k callerA) (hdf : d.params.defaults = [])
    (hY : ∀ (w : World) (h : Heap), YP w h → (K w.params).In h)
    (F : ∀ (w : World) (mg : Str → Option Value) (fa : Addr) (h : Heap), (K w.params).In h → h.Ns mainGlobals mg → mg d.name = some (.ref fa) →
      ∃ fd : FuncData, (∀ (s : Shared) (u : Value), BindsTo s fd ⟨[u], []⟩ [("script", u)]) ∧ ∀ base : Heap, (K w.params).In base → base.Ns mainGlobals mg → FnOk l.prog w (K w.params) mg base CX0 k fa fd ["script"] (lawSp n (K w.params))) :
    PySem.W.WalkO q loose XP YP l.row.toRowW d [] (fun f vs => PySem.call f vs) :=
  L2.walk_ofB (n := n) (k := k) (x := "script") (CX := fun _ => CX0) (sp := fun w => lawSp n (K w.params)) hn hn2 hdf hr hY F (fun _ _ a ns hl hb _ hS => ⟨a, ns, rfl, hS, hl, hb, fun _ => rfl⟩) fun _ _ _ _ _ z => z
end DL
set_option Elab.async false
set_option linter.all false
set_option maxRecDepth 100000
namespace DL
open PySem L2
def Ev {α : Type} (f : M α) (e : DEnv) (Q : α → DEnv → Prop) : Prop := ∃ a e', f e = some (a, e') ∧ Q a e'
def Run (m : SV) (e : DEnv) (Q : Out → Prop) : Prop := ∃ o, m e = some o ∧ Q o
def Op {α : Type} (o : Option α) (Q : α → Prop) : Prop := ∃ a, o = some a ∧ Q a
def BlP (x : Dt) (R : Bool → Prop) : Prop := ∃ b, x = .bl b ∧ R b
section
variable {α β : Type} {e : DEnv}
theorem Ev.mono {f : M α} {Q Q' : α → DEnv → Prop} (h : Ev f e Q) (k : ∀ a e', Q a e' → Q' a e') : Ev f e Q' := by
  obtain ⟨a, e', h1, h2⟩ := h
  exact ⟨a, e', h1, k _ _ h2⟩
theorem Run.mono {f : SV} {Q Q' : Out → Prop} (h : Run f e Q) (k : ∀ o, Q o → Q' o) : Run f e Q' := by
  obtain ⟨o, h1, h2⟩ := h
  exact ⟨o, h1, k _ h2⟩
theorem op_some {a : α} {Q : α → Prop} : Op (some a) Q ↔ Q a := ⟨fun ⟨_, h, q⟩ => by cases h; exact q, fun q => ⟨a, rfl, q⟩⟩
theorem op_none {Q : α → Prop} : Op none Q ↔ False := ⟨fun ⟨_, h, _⟩ => (by cases h), False.elim⟩
theorem op_ite {c : Prop} [Decidable c] {o : Option α} {Q : α → Prop} : Op (if c then o else none) Q ↔ c ∧ Op o Q := by
  by_cases h : c
  · simp [h]
  · simp [h, op_none]
theorem op_map {o : Option α} {f : α → β} {Q : β → Prop} : Op (o.map f) Q ↔ Op o fun a => Q (f a) := by
  cases o with
  | none => simp [op_none]
  | some a => simp [op_some]
theorem op_bind {o : Option α} {f : α → Option β} {Q : β → Prop} : Op (o.bind f) Q ↔ Op o fun a => Op (f a) Q := by
  cases o with
  | none => simp [op_none]
  | some a => simp [op_some]
theorem op_of {o : Option α} {a : α} {Q : α → Prop} (h : o = some a) (q : Q a) : Op o Q := ⟨a, h, q⟩
theorem blp_bl {b : Bool} {R : Bool → Prop} : BlP (.bl b) R ↔ R b := ⟨fun ⟨_, h, q⟩ => by cases h; exact q, fun q => ⟨b, rfl, q⟩⟩
theorem ev_ret {a : α} {Q : α → DEnv → Prop} : Ev (ret a) e Q ↔ Q a e := ⟨fun ⟨_, _, h, q⟩ => by cases h; exact q, fun q => ⟨a, e, rfl, q⟩⟩
theorem ev_opt {o : Option α} {Q : α → DEnv → Prop} : Ev (opt o) e Q ↔ Op o fun a => Q a e := by
  constructor
  · rintro ⟨a, e', h, q⟩
    obtain ⟨h1, rfl⟩ := opt_some h
    exact ⟨a, h1, q⟩
  · rintro ⟨a, rfl, q⟩
    exact ⟨a, e, rfl, q⟩
theorem ev_bnd {f : M α} {k : α → M β} {Q : β → DEnv → Prop} : Ev (bnd f k) e Q ↔ Ev f e fun a e' => Ev (k a) e' Q := by
  constructor
  · rintro ⟨b, e', h, q⟩
    obtain ⟨a, e1, h1, h2⟩ := bnd_some h
    exact ⟨a, e1, h1, b, e', h2, q⟩
  · rintro ⟨a, e1, h1, b, e', h2, q⟩
    exact ⟨b, e', by simp [bnd, h1, h2], q⟩
theorem ev_none {Q : α → DEnv → Prop} : Ev (fun _ => none) e Q ↔ False := ⟨fun ⟨_, _, h, _⟩ => (by cases h), False.elim⟩
theorem ev_frz {f : M Vl} {Q : Dt → DEnv → Prop} : Ev (frz f) e Q ↔ Ev f e fun v e' => Q v.froz e' := by simp only [frz, ev_bnd, ev_ret]
theorem ev_up {f : M Dt} {Q : Vl → DEnv → Prop} : Ev (up f) e Q ↔ Ev f e fun v e' => Q (.d v) e' := by simp only [up, ev_bnd, ev_ret]
def VarP (s : Option Sl) (i : Nat) (e : DEnv) (Q : Dt → DEnv → Prop) : Prop := match s with
  | some (.d x) => Q x e
  | some (.w x) => Q x.froz (e.set i (.d x.froz))
  | _ => False
def MovP (s : Option Sl) (i : Nat) (e : DEnv) (Q : Vl → DEnv → Prop) : Prop := match s with
  | some (.d x) => Q (.d x) e
  | some (.w x) => Q x (e.set i .un)
  | _ => False
theorem ev_var {i : Nat} {Q : Dt → DEnv → Prop} : Ev (eVar i) e Q ↔ VarP e[i]? i e Q := by
  unfold Ev eVar VarP
  cases e[i]? with
  | none => simp
  | some s => cases s <;> first | (simp; done) | exact ⟨fun ⟨_, _, h, q⟩ => (by cases h; exact q), fun q => ⟨_, _, rfl, q⟩⟩
theorem ev_mov {i : Nat} {Q : Vl → DEnv → Prop} : Ev (eMov i) e Q ↔ MovP e[i]? i e Q := by
  unfold Ev eMov MovP
  cases e[i]? with
  | none => simp
  | some s => cases s <;> first | (simp; done) | exact ⟨fun ⟨_, _, h, q⟩ => (by cases h; exact q), fun q => ⟨_, _, rfl, q⟩⟩
theorem varp_d {x : Dt} {i : Nat} {Q : Dt → DEnv → Prop} : VarP (some (.d x)) i e Q ↔ Q x e := Iff.rfl
theorem varp_w {x : Vl} {i : Nat} {Q : Dt → DEnv → Prop} : VarP (some (.w x)) i e Q ↔ Q x.froz (e.set i (.d x.froz)) := Iff.rfl
theorem movp_d {x : Dt} {i : Nat} {Q : Vl → DEnv → Prop} : MovP (some (.d x)) i e Q ↔ Q (.d x) e := Iff.rfl
theorem movp_w {x : Vl} {i : Nat} {Q : Vl → DEnv → Prop} : MovP (some (.w x)) i e Q ↔ Q x (e.set i .un) := Iff.rfl
theorem ev_c {x : Dt} {Q : Dt → DEnv → Prop} : Ev (eC x) e Q ↔ Q x e := ev_ret
theorem ev_e1 {g : Dt → Option Vl} {a : M Dt} {Q : Vl → DEnv → Prop} : Ev (e1 g a) e Q ↔ Ev a e fun x e1 => Op (g x) fun v => Q v e1 := by simp only [e1, ev_bnd, ev_opt]
theorem ev_e2 {g : Dt → Dt → Option Vl} {a b : M Dt} {Q : Vl → DEnv → Prop} : Ev (e2 g a b) e Q ↔ Ev a e fun x e1 => Ev b e1 fun y e2 => Op (g x y) fun v => Q v e2 := by simp only [e2, ev_bnd, ev_opt]
theorem ev_eL {g : List Dt → Option Vl} {a : M (List Dt)} {Q : Vl → DEnv → Prop} : Ev (eL g a) e Q ↔ Ev a e fun x e1 => Op (g x) fun v => Q v e1 := by simp only [eL, ev_bnd, ev_opt]
theorem ev_anil {Q : List Dt → DEnv → Prop} : Ev aNil e Q ↔ Q [] e := ev_ret
theorem ev_acons {f : M Dt} {g : M (List Dt)} {Q : List Dt → DEnv → Prop} : Ev (aCons f g) e Q ↔ Ev f e fun x e1 => Ev g e1 fun xs e2 => Q (x :: xs) e2 := by simp only [aCons, ev_bnd, ev_ret]
theorem ev_onil {Q : List Vl → DEnv → Prop} : Ev oNil e Q ↔ Q [] e := ev_ret
theorem ev_ocons {f : M Vl} {g : M (List Vl)} {Q : List Vl → DEnv → Prop} : Ev (oCons f g) e Q ↔ Ev f e fun x e1 => Ev g e1 fun xs e2 => Q (x :: xs) e2 := by simp only [oCons, ev_bnd, ev_ret]
theorem ev_tup {f : M (List Dt)} {Q : Dt → DEnv → Prop} : Ev (eTup f) e Q ↔ Ev f e fun xs e1 => Q (.tup xs) e1 := by simp only [eTup, ev_bnd, ev_ret]
theorem ev_lst {f : M (List Dt)} {Q : Vl → DEnv → Prop} : Ev (eLst f) e Q ↔ Ev f e fun xs e1 => Q (.ld xs) e1 := by simp only [eLst, ev_bnd, ev_ret]
theorem ev_asB {f : M Dt} {Q : Bool → DEnv → Prop} : Ev (asB f) e Q ↔ Ev f e fun x e1 => BlP x fun b => Q b e1 := by
  unfold asB
  rw [ev_bnd]
  have h : ∀ (x : Dt) (e1 : DEnv), Ev (match x with | .bl b => (ret b : M Bool) | _ => fun _ => none) e1 Q ↔ BlP x fun b => Q b e1 := by
    intro x e1
    cases x <;> simp [ev_none, BlP, ev_ret]
  exact ⟨fun q => q.mono fun a e' => (h a e').mp, fun q => q.mono fun a e' => (h a e').mpr⟩
theorem ev_not {f : M Bool} {Q : Bool → DEnv → Prop} : Ev (tNot' f) e Q ↔ Ev f e fun b e1 => Q (!b) e1 := by simp only [tNot', ev_bnd, ev_ret]
theorem ev_if {c : Bool} {f g : M α} {Q : α → DEnv → Prop} : Ev (if c = true then f else g) e Q ↔ (c = true → Ev f e Q) ∧ (c = false → Ev g e Q) := by
  cases c <;> simp
theorem ev_or {f g : M Bool} {Q : Bool → DEnv → Prop} : Ev (tOr' f g) e Q ↔ Ev f e fun b e1 => (b = true → Q true e1) ∧ (b = false → Ev g e1 Q) := by simp only [tOr', ev_bnd, ev_if, ev_ret]
theorem ev_and {f g : M Bool} {Q : Bool → DEnv → Prop} : Ev (tAnd' f g) e Q ↔ Ev f e fun b e1 => (b = true → Ev g e1 Q) ∧ (b = false → Q false e1) := by simp only [tAnd', ev_bnd, ev_if, ev_ret]
theorem ev_eIf {c : M Bool} {f g : M α} {Q : α → DEnv → Prop} : Ev (eIf c f g) e Q ↔ Ev c e fun b e1 => (b = true → Ev f e1 Q) ∧ (b = false → Ev g e1 Q) := by simp only [eIf, ev_bnd, ev_if]
theorem ev_vB {f : M Bool} {Q : Dt → DEnv → Prop} : Ev (vB f) e Q ↔ Ev f e fun b e1 => Q (.bl b) e1 := by simp only [vB, ev_bnd, ev_ret]
theorem ev_vAnd {f g : M Dt} {Q : Dt → DEnv → Prop} : Ev (vAnd f g) e Q ↔ Ev f e fun x e1 => BlP x fun b => (b = true → Ev g e1 Q) ∧ (b = false → Q (.bl false) e1) := by
  unfold vAnd
  rw [ev_bnd]
  have h : ∀ (x : Dt) (e1 : DEnv), Ev (match x with | .bl true => g | .bl false => ret (.bl false) | _ => fun _ => none) e1 Q ↔ BlP x fun b => (b = true → Ev g e1 Q) ∧ (b = false → Q (.bl false) e1) := by
    intro x e1
    cases x <;> try (simp [ev_none, BlP, ev_ret]; done)
    rename_i b
    cases b <;> simp [blp_bl, ev_ret]
  exact ⟨fun q => q.mono fun a e' => (h a e').mp, fun q => q.mono fun a e' => (h a e').mpr⟩
theorem ev_vOr {f g : M Dt} {Q : Dt → DEnv → Prop} : Ev (vOr f g) e Q ↔ Ev f e fun x e1 => BlP x fun b => (b = true → Q (.bl true) e1) ∧ (b = false → Ev g e1 Q) := by
  unfold vOr
  rw [ev_bnd]
  have h : ∀ (x : Dt) (e1 : DEnv), Ev (match x with | .bl true => ret (.bl true) | .bl false => g | _ => fun _ => none) e1 Q ↔ BlP x fun b => (b = true → Q (.bl true) e1) ∧ (b = false → Ev g e1 Q) := by
    intro x e1
    cases x <;> try (simp [ev_none, BlP, ev_ret]; done)
    rename_i b
    cases b <;> simp [blp_bl, ev_ret]
  exact ⟨fun q => q.mono fun a e' => (h a e').mp, fun q => q.mono fun a e' => (h a e').mpr⟩
theorem ev_vNot {f : M Dt} {Q : Dt → DEnv → Prop} : Ev (vNot f) e Q ↔ Ev f e fun x e1 => BlP x fun b => Q (.bl (!b)) e1 := by
  unfold vNot
  rw [ev_bnd]
  have h : ∀ (x : Dt) (e1 : DEnv), Ev (match x with | .bl c => ret (.bl (!c)) | _ => fun _ => none) e1 Q ↔ BlP x fun b => Q (.bl (!b)) e1 := by
    intro x e1
    cases x <;> simp [ev_none, BlP, ev_ret]
  exact ⟨fun q => q.mono fun a e' => (h a e').mp, fun q => q.mono fun a e' => (h a e').mpr⟩
/-- two comparisons in a chain -/
theorem ev_e3c {g g' : Dt → Dt → Option Vl} {a b c : M Dt} {Q : Vl → DEnv → Prop} : Ev (e3c g g' a b c) e Q ↔ Ev a e fun x e1 => Ev b e1 fun y e2 => Op (g x y) fun v => ∃ k, v = .d (.bl k) ∧ (k = true → Ev c e2 fun w e3 => Op (g' y w) fun v' => Q v' e3) ∧ (k = false → Q (.d (.bl false)) e2) := by
  unfold e3c
  simp only [ev_bnd, ev_opt]
  have h : ∀ (v : Vl) (y : Dt) (e2 : DEnv), Ev (match v with | .d (.bl true) => bnd c fun w => opt (g' y w) | .d (.bl false) => ret (.d (.bl false)) | _ => fun _ => none) e2 Q ↔ ∃ k, v = .d (.bl k) ∧ (k = true → Ev c e2 fun w e3 => Op (g' y w) fun v' => Q v' e3) ∧ (k = false → Q (.d (.bl false)) e2) := by
    intro v y e2
    cases v <;> try (simp [ev_none]; done)
    rename_i x
    cases x <;> try (simp [ev_none]; done)
    rename_i k
    cases k <;> simp [ev_ret, ev_bnd, ev_opt]
  constructor <;> (intro q; refine q.mono fun x e1 q => q.mono fun y e2 q => ?_; obtain ⟨v, h1, h2⟩ := q; exact ⟨v, h1, by first | exact (h v y e2).mp h2 | exact (h v y e2).mpr h2⟩)
theorem ex_bl {k : Bool} {R : Bool → Prop} : (∃ k', (Vl.d (.bl k)) = .d (.bl k') ∧ R k') ↔ R k := ⟨fun ⟨_, h, q⟩ => by cases h; exact q, fun q => ⟨k, rfl, q⟩⟩
theorem op_gI {C : Int → Int → Bool} {f : Int → Int → Dt} {i j : Int} {Q : Vl → Prop} : Op (gI C f (.int i) (.int j)) Q ↔ C i j = true ∧ Q (.d (f i j)) := by
  simp only [gI, op_ite, op_some]
theorem op_gI0 {f : Int → Int → Dt} {i j : Int} {Q : Vl → Prop} : Op (gI0 f (.int i) (.int j)) Q ↔ Q (.d (f i j)) := by
  simp only [gI0, op_some]
theorem op_gEqI {i j : Int} {Q : Vl → Prop} : Op (gEq (.int i) (.int j)) Q ↔ Q (.d (.bl (decide (i = j)))) := by
  simp only [gEq, eqD, Option.map_some, op_some]
theorem op_gNeI {i j : Int} {Q : Vl → Prop} : Op (gNe (.int i) (.int j)) Q ↔ Q (.d (.bl (!decide (i = j)))) := by
  simp only [gNe, eqD, Option.map_some, op_some]
theorem op_isN {x : Dt} {Q : Vl → Prop} : Op (gIsN x .non) Q ↔ Q (.d (.bl x.isN)) := by
  simp only [gIsN, op_some]
theorem op_len {xs : List Dt} {Q : Vl → Prop} : Op (gLen [.lst xs]) Q ↔ Q (.d (.int xs.length)) := by
  simp only [gLen, op_some]
theorem op_lenF {xs : List Dt} {Q : Vl → Prop} : Op (gLen [.frl xs]) Q ↔ Q (.d (.int xs.length)) := by
  simp only [gLen, op_some]
theorem op_lenT {xs : List Dt} {Q : Vl → Prop} : Op (gLen [.tup xs]) Q ↔ Q (.d (.int xs.length)) := by
  simp only [gLen, op_some]
theorem op_int {i : Int} {Q : Vl → Prop} : Op (gInt [.int i]) Q ↔ Q (.d (.int i)) := by simp only [gInt, op_some]
theorem op_abs {i : Int} {Q : Vl → Prop} : Op (gAbs [.int i]) Q ↔ Q (.d (.int (if i < 0 then -i else i))) := by simp only [gAbs, op_some]
theorem op_max2 {i j : Int} {Q : Vl → Prop} : Op (gMax2 [.int i, .int j]) Q ↔ Q (.d (.int (if j > i then j else i))) := by simp only [gMax2, op_some]
theorem op_min2 {i j : Int} {Q : Vl → Prop} : Op (gMin2 [.int i, .int j]) Q ↔ Q (.d (.int (if j < i then j else i))) := by simp only [gMin2, op_some]
theorem op_divmod {i j : Int} {Q : Vl → Prop} : Op (gDivmod [.int i, .int j]) Q ↔ (0 < j ∧ j < 1073741824) ∧ Q (.d (.tup [.int (i / j), .int (i % j)])) := by
  simp only [gDivmod, op_ite, op_some, Bool.and_eq_true, decide_eq_true_eq]
theorem op_cat {xs ys : List Dt} {Q : Vl → Prop} : Op (gCat (.lst xs) (.lst ys)) Q ↔ xs.length + ys.length ≤ sizeLine ∧ Q (.ld (xs ++ ys)) := by
  simp only [gCat, op_ite, op_some]
theorem op_list {xs : List Dt} {Q : Vl → Prop} : Op (gList [.lst xs]) Q ↔ Q (.ld xs) := by simp only [gList, op_some]
theorem op_neg {i : Int} {Q : Vl → Prop} : Op (gNeg (.int i)) Q ↔ Q (.d (.int (-i))) := by simp only [gNeg, op_some]
theorem op_ixL {xs : List Dt} {i : Int} {Q : Vl → Prop} : Op (gIx (.lst xs) (.int i)) Q ↔ Op (atI xs i) fun x => Q (.d x) := by simp only [gIx, op_map]
theorem op_ixF {xs : List Dt} {i : Int} {Q : Vl → Prop} : Op (gIx (.frl xs) (.int i)) Q ↔ Op (atI xs i) fun x => Q (.d x) := by simp only [gIx, op_map]
theorem op_ixT {xs : List Dt} {i : Int} {Q : Vl → Prop} : Op (gIx (.tup xs) (.int i)) Q ↔ Op (atI xs i) fun x => Q (.d x) := by simp only [gIx, op_map]
theorem atI_nat {γ : Type} {xs : List γ} {n : Nat} {x : γ} (h : xs[n]? = some x) : atI xs (n : Int) = some x := by
  have hl : n < xs.length := (List.getElem?_eq_some_iff.mp h).1
  unfold atI
  rw [show ixN xs.length (n : Int) = some n by unfold ixN; simp [hl]]
  exact h
theorem atI_int {γ : Type} {xs : List γ} {i : Int} {x : γ} (h0 : 0 ≤ i) (h : xs[i.toNat]? = some x) : atI xs i = some x := by
  have := atI_nat h
  rwa [Int.toNat_of_nonneg h0] at this
theorem atI_0 {γ : Type} {x : γ} {xs : List γ} : atI (x :: xs) 0 = some x := atI_nat (n := 0) rfl
theorem atI_1 {γ : Type} {x y : γ} {xs : List γ} : atI (x :: y :: xs) 1 = some y := atI_nat (n := 1) rfl
theorem atI_2 {γ : Type} {x y z : γ} {xs : List γ} : atI (x :: y :: z :: xs) 2 = some z := atI_nat (n := 2) rfl
theorem ev_call {F : Fn} {g : M (List Dt)} {Q : Vl → DEnv → Prop} : Ev (eCall F g) e Q ↔ Ev g e fun ds e1 => Op (F.app ds) fun v => Q v e1 := by simp only [eCall, ev_bnd, ev_opt]
theorem ev_meth {c : Str} {F : Fn} {f : M Dt} {g : M (List Dt)} {Q : Vl → DEnv → Prop} : Ev (eMeth c F f g) e Q ↔ Ev f e fun x e1 => ∃ xs, x = .ins c xs ∧ Ev g e1 fun ds e2 => Op (F.app (.ins c xs :: ds)) fun v => Q v e2 := by
  unfold eMeth
  rw [ev_bnd]
  have h : ∀ (x : Dt) (e1 : DEnv), Ev (match x with | .ins c' xs => if c' = c then bnd g fun ds => opt (F.app (.ins c' xs :: ds)) else fun _ => none | _ => fun _ => none) e1 Q ↔ ∃ xs, x = .ins c xs ∧ Ev g e1 fun ds e2 => Op (F.app (.ins c xs :: ds)) fun v => Q v e2 := by
    intro x e1
    cases x <;> try (simp [ev_none]; done)
    rename_i c' xs
    by_cases hc : c' = c
    · subst hc
      simp [ev_bnd, ev_opt]
    · simp [hc, ev_none]
  exact ⟨fun q => q.mono fun a e' => (h a e').mp, fun q => q.mono fun a e' => (h a e').mpr⟩
theorem ex_ins {c : Str} {xs : List Dt} {R : List Dt → Prop} : (∃ ys, (Dt.ins c xs) = .ins c ys ∧ R ys) ↔ R xs := ⟨fun ⟨_, h, q⟩ => by cases h; exact q, fun q => ⟨xs, rfl, q⟩⟩
theorem ev_make {c : Str} {F : Fn} {g : M (List Dt)} {Q : Vl → DEnv → Prop} : Ev (eMake c F g) e Q ↔ Ev g e fun ds e1 => Op (F.make c ds) fun v => Q v e1 := by simp only [eMake, ev_bnd, ev_opt]
/-- a call whose first argument, in slot i, is changed -/
theorem ev_callR {i : Nat} {F : Fn} {g : M (List Dt)} {Q : Vl → DEnv → Prop} {x : Vl} (h0 : ownAt e i = some x) : Ev (eCallR i F g) e Q ↔ Ev g e fun ds e1 => Op (ownAt e1 i) fun x => Op (F (.pm x :: ds.map .d)) fun r => ∃ y as, r.2 = .pm y :: as ∧ Q r.1 (setOwn e1 i y) := by
  constructor
  · rintro ⟨v, e', h, q⟩
    unfold eCallR at h
    rw [h0] at h
    simp only at h
    split at h
    · cases h
    · rename_i ds e1 h1
      split at h
      · cases h
      · rename_i y h2
        split at h
        · rename_i r z as h3
          cases h
          exact ⟨ds, e1, h1, y, h2, _, h3, z, as, rfl, q⟩
        · cases h
  · rintro ⟨ds, e1, h1, y, h2, ⟨r, as'⟩, h3, z, as, h4, q⟩
    simp only at h4
    subst h4
    refine ⟨r, _, ?_, q⟩
    unfold eCallR
    rw [h0]
    simp only [h1, h2, h3]
theorem ev_callO {F : Fn} {f : M Vl} {Q : Vl → DEnv → Prop} : Ev (eCallO F f) e Q ↔ Ev f e fun x e1 => Op (F [.pm x]) fun r => Q r.1 e1 := by simp only [eCallO, ev_bnd, ev_opt, op_map]
def FldP (o : Option Dt) (Q : Dt → Prop) : Prop := match o with
  | some x => Q x
  | none => False
theorem fldp_some {x : Dt} {Q : Dt → Prop} : FldP (some x) Q ↔ Q x := Iff.rfl
theorem ev_fld {i j : Nat} {c : Str} {Q : Dt → DEnv → Prop} : Ev (eFldS i c j) e Q ↔ Op e[i]? fun s => Op (flds c s) fun xs => Op xs[j]? fun x => Q x e := by
  unfold Ev eFldS
  cases h : e[i]? with
  | none => simp [op_none]
  | some s =>
    simp only [op_some]
    cases h2 : flds c s with
    | none => simp [op_none]
    | some xs =>
      simp only [op_some, Option.bind_some]
      cases h3 : xs[j]? with
      | none => simp [op_none]
      | some x => simp only [op_some]; exact ⟨fun ⟨_, _, h, q⟩ => (by cases h; exact q), fun q => ⟨_, _, rfl, q⟩⟩
theorem flds_d {c : Str} {xs : List Dt} : flds c (.d (.ins c xs)) = some xs := by simp [flds]
theorem flds_w {c : Str} {xs : List Dt} : flds c (.w (.o c xs)) = some xs := by simp [flds]
theorem flds_pm {c : Str} {xs : List Dt} : flds c (.pm (.o c xs)) = some xs := by simp [flds]
theorem ev_bor {f : M Dt} {Q : Dt → DEnv → Prop} : Ev (eBor f) e Q ↔ Ev f (e.map Sl.frz) fun x _ => x.flat = true ∧ Q x e := by
  unfold Ev eBor
  cases f (e.map Sl.frz) with
  | none => simp
  | some p =>
    obtain ⟨x, e1⟩ := p
    by_cases h : x.flat = true
    · simp only [h, if_true]
      exact ⟨fun ⟨_, _, h, q⟩ => (by cases h; exact ⟨_, _, rfl, ‹_›, q⟩), fun ⟨_, _, h, _, q⟩ => (by cases h; exact ⟨_, _, rfl, q⟩)⟩
    · simp only [h]
      exact ⟨fun ⟨_, _, h, q⟩ => (by cases h), fun ⟨_, _, h, k, q⟩ => (by cases h; exact absurd k ‹_›)⟩
theorem ev_borT {f : M Bool} {Q : Bool → DEnv → Prop} : Ev (eBorT f) e Q ↔ Ev f (e.map Sl.frz) fun x _ => Q x e := by
  unfold Ev eBorT
  cases f (e.map Sl.frz) with
  | none => simp
  | some p => exact ⟨fun ⟨_, _, h, q⟩ => (by cases h; exact ⟨_, _, rfl, q⟩), fun ⟨_, _, h, q⟩ => (by cases h; exact ⟨_, _, rfl, q⟩)⟩
theorem ev_cut {f : M Dt} {lo hi : M (Option Int)} {Q : Vl → DEnv → Prop} : Ev (eCut f lo hi) e Q ↔ Ev f e fun x e1 => Ev lo e1 fun l e2 => Ev hi e2 fun h e3 => Op (gCut x l h) fun v => Q v e3 := by simp only [eCut, ev_bnd, ev_opt]
theorem ev_pInt {f : M Dt} {Q : Option Int → DEnv → Prop} : Ev (pInt f) e Q ↔ Ev f e fun x e1 => ∃ i, x = .int i ∧ Q (some i) e1 := by
  unfold pInt
  rw [ev_bnd]
  have h : ∀ (x : Dt) (e1 : DEnv), Ev (match x with | .int i => ret (some i) | _ => fun _ => none) e1 Q ↔ ∃ i, x = .int i ∧ Q (some i) e1 := by
    intro x e1
    cases x <;> simp [ev_none, ev_ret]
  exact ⟨fun q => q.mono fun a e' => (h a e').mp, fun q => q.mono fun a e' => (h a e').mpr⟩
theorem ex_int {i : Int} {R : Int → Prop} : (∃ j, (Dt.int i) = .int j ∧ R j) ↔ R i := ⟨fun ⟨_, h, q⟩ => by cases h; exact q, fun q => ⟨i, rfl, q⟩⟩
theorem op_cutL {xs : List Dt} {l h : Option Int} {Q : Vl → Prop} : Op (gCut (.lst xs) l h) Q ↔ Q (.ld (cutD xs l h)) := by simp only [gCut, op_some]
theorem ev_lstR {lo : Int} {f : M Dt} {Q : Vl → DEnv → Prop} : Ev (eLstR lo f) e Q ↔ Ev f e fun x e1 => ∃ j, x = .int j ∧ rgOk lo j = true ∧ Q (.ld (intL lo (j - lo).toNat)) e1 := by
  unfold eLstR
  rw [ev_bnd]
  have h : ∀ (x : Dt) (e1 : DEnv), Ev (match x with | .int j => if rgOk lo j = true then ret (.ld (intL lo (j - lo).toNat)) else fun _ => none | _ => fun _ => none) e1 Q ↔ ∃ j, x = .int j ∧ rgOk lo j = true ∧ Q (.ld (intL lo (j - lo).toNat)) e1 := by
    intro x e1
    cases x <;> try (simp [ev_none]; done)
    rename_i j
    by_cases h : rgOk lo j = true
    · simp [h, ev_ret]
    · simp [h, ev_none]
  exact ⟨fun q => q.mono fun a e' => (h a e').mp, fun q => q.mono fun a e' => (h a e').mpr⟩
def SqP (x : Dt) (R : List Dt → Prop) : Prop := ∃ xs, (x = .lst xs ∨ x = .frl xs) ∧ R xs
theorem ev_iSeq {f : M Dt} {Q : List Dt → DEnv → Prop} : Ev (iSeq f) e Q ↔ Ev f e fun x e1 => SqP x fun xs => Q xs e1 := by
  unfold iSeq
  rw [ev_bnd]
  have h : ∀ (x : Dt) (e1 : DEnv), Ev (match x with | .lst xs => ret xs | .frl xs => ret xs | _ => fun _ => none) e1 Q ↔ SqP x fun xs => Q xs e1 := by
    intro x e1
    cases x <;> simp [ev_none, ev_ret, SqP]
  exact ⟨fun q => q.mono fun a e' => (h a e').mp, fun q => q.mono fun a e' => (h a e').mpr⟩
theorem ex_lst {xs : List Dt} {R : List Dt → Prop} : SqP (.lst xs) R ↔ R xs := ⟨fun ⟨_, h, q⟩ => by rcases h with h | h <;> cases h; exact q, fun q => ⟨xs, .inl rfl, q⟩⟩
theorem ex_frl {xs : List Dt} {R : List Dt → Prop} : SqP (.frl xs) R ↔ R xs := ⟨fun ⟨_, h, q⟩ => by rcases h with h | h <;> cases h; exact q, fun q => ⟨xs, .inr rfl, q⟩⟩
theorem ev_iTp {f : M Dt} {Q : List Dt → DEnv → Prop} : Ev (iTp f) e Q ↔ Ev f e fun x e1 => ∃ xs, x = .tup xs ∧ Q xs e1 := by
  unfold iTp
  rw [ev_bnd]
  have h : ∀ (x : Dt) (e1 : DEnv), Ev (match x with | .tup xs => ret xs | _ => fun _ => none) e1 Q ↔ ∃ xs, x = .tup xs ∧ Q xs e1 := by
    intro x e1
    cases x <;> simp [ev_none, ev_ret]
  exact ⟨fun q => q.mono fun a e' => (h a e').mp, fun q => q.mono fun a e' => (h a e').mpr⟩
theorem ex_tup {xs : List Dt} {R : List Dt → Prop} : (∃ ys, (Dt.tup xs) = .tup ys ∧ R ys) ↔ R xs := ⟨fun ⟨_, h, q⟩ => by cases h; exact q, fun q => ⟨xs, rfl, q⟩⟩
theorem ev_rg1 {f : M (List Dt)} {Q : List Dt → DEnv → Prop} : Ev (iRg1 f) e Q ↔ Ev f e fun x e1 => ∃ j, x = [.int j] ∧ i62 j = true ∧ Q (intL 0 j.toNat) e1 := by
  unfold iRg1
  rw [ev_bnd]
  have h : ∀ (x : List Dt) (e1 : DEnv), Ev (match x with | [.int j] => if i62 j = true then ret (intL 0 j.toNat) else fun _ => none | _ => fun _ => none) e1 Q ↔ ∃ j, x = [.int j] ∧ i62 j = true ∧ Q (intL 0 j.toNat) e1 := by
    intro x e1
    split
    · rename_i j
      by_cases h : i62 j = true
      · simp [h, ev_ret]
      · simp [h, ev_none]
    · rename_i h
      simp only [ev_none, false_iff, not_exists, not_and]
      rintro j rfl
      exact absurd rfl (h j)
  exact ⟨fun q => q.mono fun a e' => (h a e').mp, fun q => q.mono fun a e' => (h a e').mpr⟩
theorem ex_int1 {i : Int} {R : Int → Prop} : (∃ j, ([Dt.int i] : List Dt) = [.int j] ∧ R j) ↔ R i := ⟨fun ⟨_, h, q⟩ => by cases h; exact q, fun q => ⟨i, rfl, q⟩⟩
theorem ev_rg2 {f : M (List Dt)} {Q : List Dt → DEnv → Prop} : Ev (iRg2 f) e Q ↔ Ev f e fun x e1 => ∃ i j, x = [.int i, .int j] ∧ (i62 i && i62 j) = true ∧ Q (intL i (j - i).toNat) e1 := by
  unfold iRg2
  rw [ev_bnd]
  have h : ∀ (x : List Dt) (e1 : DEnv), Ev (match x with | [.int i, .int j] => if (i62 i && i62 j) = true then ret (intL i (j - i).toNat) else fun _ => none | _ => fun _ => none) e1 Q ↔ ∃ i j, x = [.int i, .int j] ∧ (i62 i && i62 j) = true ∧ Q (intL i (j - i).toNat) e1 := by
    intro x e1
    split
    · rename_i i j
      by_cases h : (i62 i && i62 j) = true
      · simp only [h, if_true, ev_ret]
        constructor
        · intro q
          exact ⟨i, j, rfl, h, q⟩
        · rintro ⟨i', j', h1, h2, q⟩
          cases h1
          exact q
      · simp only [h]
        constructor
        · rintro ⟨_, _, h1, _⟩
          cases h1
        · rintro ⟨i', j', h1, h2, q⟩
          cases h1
          exact absurd h2 h
    · rename_i h
      simp only [ev_none, false_iff, not_exists, not_and]
      rintro i j rfl
      exact absurd rfl (h i j)
  exact ⟨fun q => q.mono fun a e' => (h a e').mp, fun q => q.mono fun a e' => (h a e').mpr⟩
theorem ex_int2 {i j : Int} {R : Int → Int → Prop} : (∃ i' j', ([Dt.int i, Dt.int j] : List Dt) = [.int i', .int j'] ∧ R i' j') ↔ R i j := ⟨fun ⟨_, _, h, q⟩ => by cases h; exact q, fun q => ⟨i, j, rfl, q⟩⟩
theorem run_seq {f g : SV} {Q : Out → Prop} : Run (sSeq f g) e Q ↔ Run f e fun o => match o with | .nx e1 => Run g e1 Q | o => Q o := by
  constructor
  · rintro ⟨o, h, q⟩
    unfold sSeq at h
    split at h
    · rename_i e1 h1
      exact ⟨_, h1, o, h, q⟩
    · rename_i h2
      cases o with
      | nx e1 => exact absurd h (h2 e1)
      | bk e1 => exact ⟨_, h, q⟩
      | ct e1 => exact ⟨_, h, q⟩
      | rt v e1 => exact ⟨_, h, q⟩
  · rintro ⟨o, h, q⟩
    cases o with
    | nx e1 =>
      obtain ⟨o, h2, q⟩ := q
      exact ⟨o, by simp [sSeq, h, h2], q⟩
    | bk e1 => exact ⟨.bk e1, by simp [sSeq, h], q⟩
    | ct e1 => exact ⟨.ct e1, by simp [sSeq, h], q⟩
    | rt v e1 => exact ⟨.rt v e1, by simp [sSeq, h], q⟩
theorem run_next {Q : Out → Prop} : Run sNext e Q ↔ Q (.nx e) := ⟨fun ⟨_, h, q⟩ => by cases h; exact q, fun q => ⟨_, rfl, q⟩⟩
theorem run_brk {Q : Out → Prop} : Run sBrk e Q ↔ Q (.bk e) := ⟨fun ⟨_, h, q⟩ => by cases h; exact q, fun q => ⟨_, rfl, q⟩⟩
theorem run_cont {Q : Out → Prop} : Run sCont e Q ↔ Q (.ct e) := ⟨fun ⟨_, h, q⟩ => by cases h; exact q, fun q => ⟨_, rfl, q⟩⟩
theorem run_never {Q : Out → Prop} : Run sNever e Q ↔ False := ⟨fun ⟨_, h, _⟩ => (by cases h), False.elim⟩
theorem run_retN {Q : Out → Prop} : Run sRetN e Q ↔ Q (.rt (.d .non) e) := ⟨fun ⟨_, h, q⟩ => by cases h; exact q, fun q => ⟨_, rfl, q⟩⟩
theorem run_ret {f : M Vl} {Q : Out → Prop} : Run (sRet f) e Q ↔ Ev f e fun v e1 => Q (.rt v e1) := by
  unfold Run sRet Ev
  cases f e with
  | none => simp
  | some p => exact ⟨fun ⟨_, h, q⟩ => (by cases h; exact ⟨_, _, rfl, q⟩), fun ⟨_, _, h, q⟩ => (by cases h; exact ⟨_, rfl, q⟩)⟩
theorem run_expr {f : M Vl} {Q : Out → Prop} : Run (sExpr f) e Q ↔ Ev f e fun _ e1 => Q (.nx e1) := by
  unfold Run sExpr Ev
  cases f e with
  | none => simp
  | some p => exact ⟨fun ⟨_, h, q⟩ => (by cases h; exact ⟨_, _, rfl, q⟩), fun ⟨_, _, h, q⟩ => (by cases h; exact ⟨_, rfl, q⟩)⟩
theorem run_if {c : M Bool} {f g : SV} {Q : Out → Prop} : Run (sIf c f g) e Q ↔ Ev c e fun b e1 => (b = true → Run f e1 Q) ∧ (b = false → Run g e1 Q) := by
  unfold Run sIf Ev
  cases c e with
  | none => simp
  | some p =>
    obtain ⟨b, e1⟩ := p
    cases b <;> simp
theorem run_set {i : Nat} {f : M Vl} {Q : Out → Prop} : Run (sSet i f) e Q ↔ Ev f e fun v e1 => Op (stAt i (mkSl v) e1) fun e2 => Q (.nx e2) := by
  unfold Run sSet Ev
  cases f e with
  | none => simp
  | some p =>
    exact ⟨fun ⟨_, h, q⟩ => (by obtain ⟨a, h', rfl⟩ := Option.map_eq_some_iff.mp h; exact ⟨_, _, rfl, a, h', q⟩), fun ⟨_, _, h, a, h2, q⟩ => (by cases h; exact ⟨_, Option.map_eq_some_iff.mpr ⟨a, h2, rfl⟩, q⟩)⟩
theorem run_tg {g : Dt → DEnv → Option DEnv} {f : M Dt} {Q : Out → Prop} : Run (sTg g f) e Q ↔ Ev f e fun x e1 => Op (g x e1) fun e2 => Q (.nx e2) := by
  unfold Run sTg Ev
  cases f e with
  | none => simp
  | some p =>
    exact ⟨fun ⟨_, h, q⟩ => (by obtain ⟨a, h', rfl⟩ := Option.map_eq_some_iff.mp h; exact ⟨_, _, rfl, a, h', q⟩), fun ⟨_, _, h, a, h2, q⟩ => (by cases h; exact ⟨_, Option.map_eq_some_iff.mpr ⟨a, h2, rfl⟩, q⟩)⟩
theorem op_gNm {i : Nat} {x : Dt} {Q : DEnv → Prop} : Op (gNm i x e) Q ↔ Op (stAt i (.d x) e) Q := Iff.rfl
theorem op_gTp {h : List Dt → DEnv → Option DEnv} {xs : List Dt} {Q : DEnv → Prop} : Op (gTp h (.tup xs) e) Q ↔ Op (h xs e) Q := Iff.rfl
theorem op_gNil {Q : DEnv → Prop} : Op (gNil' [] e) Q ↔ Q e := op_some
theorem op_gCons {g : Dt → DEnv → Option DEnv} {h : List Dt → DEnv → Option DEnv} {x : Dt} {xs : List Dt} {Q : DEnv → Prop} : Op (gCons' g h (x :: xs) e) Q ↔ Op (g x e) fun e1 => Op (h xs e1) Q := by
  unfold gCons'
  cases hg : g x e with
  | none => simp [hg, op_none]
  | some e1 => simp [hg, op_some]
theorem run_par {i j : Nat} {f : M (List Vl)} {Q : Out → Prop} : Run (sPar i j f) e Q ↔ Ev f e fun vs e1 => ∃ x y, vs = [x, y] ∧ Op (stAt i (mkSl x) e1) fun e2 => Op (stAt j (mkSl y) e2) fun e3 => Q (.nx e3) := by
  unfold Run sPar Ev
  constructor
  · rintro ⟨o, h, q⟩
    split at h
    · rename_i x y e1 h1
      split at h
      · rename_i e2 h2
        simp only [Option.map_eq_some_iff] at h
        obtain ⟨e3, h3, rfl⟩ := h
        exact ⟨_, _, h1, x, y, rfl, e2, h2, e3, h3, q⟩
      · cases h
    · cases h
  · rintro ⟨_, _, h1, x, y, rfl, e2, h2, e3, h3, q⟩
    exact ⟨_, by simp [h1, h2, h3], q⟩
theorem ex_two {x y : Vl} {R : Vl → Vl → Prop} : (∃ x' y', ([x, y] : List Vl) = [x', y'] ∧ R x' y') ↔ R x y := ⟨fun ⟨_, _, h, q⟩ => by cases h; exact q, fun q => ⟨x, y, rfl, q⟩⟩
theorem run_fldS {i j : Nat} {c : Str} {f : M Dt} {Q : Out → Prop} : Run (sFldS i c j f) e Q ↔ Ev f e fun y e1 => Op (ownAt e1 i) fun v => ∃ xs, v = .o c xs ∧ Op (putO xs j y) fun zs => Q (.nx (setOwn e1 i (.o c zs))) := by
  unfold Run sFldS Ev
  constructor
  · rintro ⟨o, h, q⟩
    split at h
    · cases h
    · rename_i y e1 h1
      split at h
      · rename_i c' xs h2
        split at h
        · rename_i hc
          subst hc
          simp only [Option.map_eq_some_iff] at h
          obtain ⟨zs, h3, rfl⟩ := h
          exact ⟨y, e1, h1, _, h2, xs, rfl, zs, h3, q⟩
        · cases h
      · cases h
  · rintro ⟨y, e1, h1, _, h2, xs, rfl, zs, h3, q⟩
    exact ⟨_, by simp [h1, h2, h3], q⟩
theorem ex_o {c : Str} {xs : List Dt} {R : List Dt → Prop} : (∃ ys, (Vl.o c xs) = .o c ys ∧ R ys) ↔ R xs := ⟨fun ⟨_, h, q⟩ => by cases h; exact q, fun q => ⟨xs, rfl, q⟩⟩
theorem run_app {i : Nat} {f : M Vl} {xs : List Vl} {Q : Out → Prop} (h0 : ownAt e i = some (.l xs)) : Run (sApp i f) e Q ↔ Ev f e fun v e1 => Op (ownAt e1 i) fun x => ∃ xs, x = .l xs ∧ xs.length < sizeLine ∧ Q (.nx (setOwn e1 i (.l (xs ++ [v])))) := by
  unfold Run sApp Ev
  rw [h0]
  constructor
  · rintro ⟨o, h, q⟩
    simp only [Option.map_some, isL] at h
    split at h
    · cases h
    · rename_i v e1 h1
      split at h
      · rename_i ys h2
        split at h
        · rename_i hl
          cases h
          exact ⟨v, e1, h1, _, h2, ys, rfl, hl, q⟩
        · cases h
      · cases h
  · rintro ⟨v, e1, h1, _, h2, ys, rfl, hl, q⟩
    exact ⟨_, by simp [isL, h1, h2, hl], q⟩
theorem ex_l {xs : List Vl} {R : List Vl → Prop} : (∃ ys, (Vl.l xs) = .l ys ∧ R ys) ↔ R xs := ⟨fun ⟨_, h, q⟩ => by cases h; exact q, fun q => ⟨xs, rfl, q⟩⟩
theorem run_setIx {i : Nat} {g f : M Dt} {Q : Out → Prop} : Run (sSetIx i g f) e Q ↔ Ev f e fun v e1 => Op ((ownAt e1 i).map isL) fun b => b = true ∧ Ev g e1 fun z e2 => ∃ k, z = .int k ∧ Op (ownAt e2 i) fun x => ∃ xs, x = .l xs ∧ Op (setL xs k v) fun ys => Q (.nx (setOwn e2 i (.l ys))) := by
  unfold Run sSetIx Ev
  constructor
  · rintro ⟨o, h, q⟩
    split at h
    · cases h
    · rename_i v e1 h1
      split at h
      · rename_i hb
        split at h
        · rename_i k e2 h2
          split at h
          · rename_i xs h3
            simp only [Option.map_eq_some_iff] at h
            obtain ⟨ys, h4, rfl⟩ := h
            exact ⟨v, e1, h1, true, hb, rfl, _, e2, h2, k, rfl, _, h3, xs, rfl, ys, h4, q⟩
          · cases h
        · cases h
      · cases h
  · rintro ⟨v, e1, h1, b, hb, rfl, _, e2, h2, k, rfl, _, h3, xs, rfl, ys, h4, q⟩
    exact ⟨_, by simp only [h1, hb, h2, h3, h4, Option.map_some], q⟩
theorem run_for {it : M (List Dt)} {g : Dt → DEnv → Option DEnv} {b : SV} {Q : Out → Prop} : Run (sFor it g b) e Q ↔ Ev it e fun xs e1 => Run (forF g b xs) e1 Q := by
  unfold Run sFor Ev
  cases it e with
  | none => simp
  | some p => exact ⟨fun ⟨_, h, q⟩ => ⟨_, _, rfl, _, h, q⟩, fun ⟨_, _, h, _, h2, q⟩ => (by cases h; exact ⟨_, h2, q⟩)⟩
theorem for_run {g : Dt → DEnv → Option DEnv} {b : SV} {xs : List Dt} {Q : Out → Prop} (I : Nat → DEnv → Prop) (h0 : I 0 e)
    (hs : ∀ i x e, xs[i]? = some x → I i e → Op (g x e) fun e1 => Run b e1 fun o => match o with | .nx e2 => I (i + 1) e2 | .ct e2 => I (i + 1) e2 | .bk e2 => Q (.nx e2) | .rt v e2 => Q (.rt v e2))
    (hn : ∀ e, I xs.length e → Q (.nx e)) : Run (forF g b xs) e Q := by
  induction xs generalizing e I with
  | nil => exact ⟨_, rfl, hn _ h0⟩
  | cons x xs ih =>
    obtain ⟨e1, h1, o, h2, q⟩ := hs 0 x e rfl h0
    have step : ∀ e2, I 1 e2 → Run (forF g b xs) e2 Q := fun e2 h => ih (e := e2) (fun i => I (i + 1)) h (fun i y e' hy hI => hs (i + 1) y e' (by simpa using hy) hI) (fun e' hI => hn e' (by simpa using hI))
    cases o with
    | nx e2 =>
      obtain ⟨o, h3, q⟩ := step e2 q
      exact ⟨o, by simp [forF, h1, h2, h3], q⟩
    | ct e2 =>
      obtain ⟨o, h3, q⟩ := step e2 q
      exact ⟨o, by simp [forF, h1, h2, h3], q⟩
    | bk e2 => exact ⟨_, by simp [forF, h1, h2], q⟩
    | rt v e2 => exact ⟨_, by simp [forF, h1, h2], q⟩
theorem while_run {c : M Bool} {b : SV} {Q : Out → Prop} (I : Nat → DEnv → Prop) : ∀ (n : Nat) (e : DEnv), I n e →
    (∀ n e, I n e → Ev c e fun k e1 => (k = false → Q (.nx e1)) ∧ (k = true → ∃ n', n = n' + 1 ∧ Run b e1 fun o => match o with | .nx e2 => I n' e2 | .ct e2 => I n' e2 | .bk e2 => Q (.nx e2) | .rt v e2 => Q (.rt v e2))) →
    ∀ m, n < m → Run (whileF m c b) e Q
  | n, e, hI, hs, m, hm => by
    obtain ⟨m, rfl⟩ : ∃ k, m = k + 1 := ⟨m - 1, by omega⟩
    obtain ⟨k, e1, h1, qf, qt⟩ := hs n e hI
    cases k with
    | false => exact ⟨_, by simp [whileF, h1], qf rfl⟩
    | true =>
      obtain ⟨n', rfl, o, h2, q⟩ := qt rfl
      cases o with
      | nx e2 =>
        obtain ⟨o, h3, q⟩ := while_run I n' e2 q hs m (by omega)
        exact ⟨o, by simp [whileF, h1, h2, h3], q⟩
      | ct e2 =>
        obtain ⟨o, h3, q⟩ := while_run I n' e2 q hs m (by omega)
        exact ⟨o, by simp [whileF, h1, h2, h3], q⟩
      | bk e2 => exact ⟨_, by simp [whileF, h1, h2], q⟩
      | rt v e2 => exact ⟨_, by simp [whileF, h1, h2], q⟩
theorem ev_lc {vs : List Nat} {it : M (List Dt)} {g : Dt → DEnv → Option DEnv} {c : M Bool} {f : M Vl} {Q : Vl → DEnv → Prop} : Ev (eLc vs it g c f) e Q ↔ Ev it e fun xs e1 => Ev (lcF vs g c f xs []) e1 fun ys e2 => Q (.l ys) e2 := by simp only [eLc, ev_bnd, ev_ret]
theorem lc_run {vs : List Nat} {g : Dt → DEnv → Option DEnv} {c : M Bool} {f : M Vl} {xs : List Dt} {acc : List Vl} {Q : List Vl → DEnv → Prop} (I : Nat → List Vl → DEnv → Prop) (h0 : I 0 acc e)
    (hs : ∀ i x acc e, xs[i]? = some x → I i acc e → Op (clr vs e) fun e0 => Op (g x e0) fun e1 => Ev c e1 fun k e2 => (k = false → I (i + 1) acc (rst vs e e2)) ∧ (k = true → Ev f e2 fun v e3 => acc.length < sizeLine ∧ I (i + 1) (acc ++ [v]) (rst vs e e3)))
    (hn : ∀ acc e, I xs.length acc e → Q acc e) : Ev (lcF vs g c f xs acc) e Q := by
  induction xs generalizing e acc I with
  | nil => exact ⟨_, _, rfl, hn _ _ h0⟩
  | cons x xs ih =>
    obtain ⟨e0, h1, e1, h2, k, e2, h3, qf, qt⟩ := hs 0 x acc e rfl h0
    have step : ∀ acc e2, I 1 acc e2 → Ev (lcF vs g c f xs acc) e2 Q := fun acc e2 h => ih (e := e2) (acc := acc) (fun i => I (i + 1)) h (fun i y a e' hy hI => hs (i + 1) y a e' (by simpa using hy) hI) (fun a e' hI => hn a e' (by simpa using hI))
    cases k with
    | false =>
      obtain ⟨a, e4, h4, q⟩ := step _ _ (qf rfl)
      exact ⟨a, e4, by simp [lcF, h1, h2, h3, h4], q⟩
    | true =>
      obtain ⟨v, e3, h5, hl, q⟩ := qt rfl
      obtain ⟨a, e4, h4, q⟩ := step _ _ q
      exact ⟨a, e4, by simp [lcF, h1, h2, h3, h4, h5, hl], q⟩
theorem fn_run {n N : Nat} {b : SV} {as : List Sl} {Q : Vl × List Sl → Prop} (hl : as.length = n) (h : Run b (as ++ List.replicate (N - n) .un) fun o => match o with | .rt v e1 => Op (backs as e1) fun as' => Q (v, as') | .nx e1 => Op (backs as e1) fun as' => Q (.d .non, as') | _ => False) : Op (fnD n N b as) Q := by
  obtain ⟨o, h1, q⟩ := h
  cases o with
  | nx e1 =>
    obtain ⟨as', h2, q⟩ := q
    exact ⟨_, by simp [fnD, hl, h1, h2], q⟩
  | rt v e1 =>
    obtain ⟨as', h2, q⟩ := q
    exact ⟨_, by simp [fnD, hl, h1, h2], q⟩
  | bk e1 => exact q.elim
  | ct e1 => exact q.elim
theorem op_app {F : Fn} {ds : List Dt} {Q : Vl → Prop} : Op (F.app ds) Q ↔ Op (F (ds.map .d)) fun r => Q r.1 := by simp only [Fn.app, op_map]
theorem op_make {F : Fn} {c : Str} {ds : List Dt} {Q : Vl → Prop} : Op (F.make c ds) Q ↔ Op (F (.pm (.o c []) :: ds.map .d)) fun r => ∃ x as, r = (.d .non, .pm x :: as) ∧ Q x := by
  unfold Fn.make Op
  constructor
  · rintro ⟨v, h, q⟩
    split at h
    · rename_i y as h1
      cases h
      exact ⟨_, h1, v, as, rfl, q⟩
    · cases h
  · rintro ⟨_, h1, x, as, rfl, q⟩
    exact ⟨x, by simp [h1], q⟩
theorem eq_of_op {α : Type} {o : Option α} {a : α} (h : Op o fun x => x = a) : o = some a := by
  obtain ⟨x, h, rfl⟩ := h
  exact h
theorem frozs_d : ∀ xs : List Dt, frozs (xs.map .d) = xs
  | [] => rfl
  | x :: xs => by simp [frozs, Vl.froz, frozs_d xs]
theorem froz_d {x : Dt} : Vl.froz (.d x) = x := rfl
theorem froz_o {c : Str} {xs : List Dt} : Vl.froz (.o c xs) = .ins c xs := rfl
theorem frozs_app : ∀ xs ys : List Vl, frozs (xs ++ ys) = frozs xs ++ frozs ys
  | [], ys => rfl
  | x :: xs, ys => by simp [frozs, frozs_app xs ys]
theorem frozs_mapG {γ : Type} (f : γ → Vl) : ∀ xs : List γ, frozs (xs.map f) = xs.map fun x => (f x).froz
  | [] => by simp [frozs]
  | x :: xs => by simp [frozs, frozs_mapG f xs]
end
end DL
namespace DL
open PySem L2
section
variable {e : DEnv}
def StP (o : Option Sl) (i : Nat) (s : Sl) (e : DEnv) (Q : DEnv → Prop) : Prop := match o with
  | some (.pm _) => False
  | none => False
  | some _ => Q (e.set i s)
theorem op_stAt {i : Nat} {s : Sl} {Q : DEnv → Prop} : Op (stAt i s e) Q ↔ StP e[i]? i s e Q := by
  unfold stAt StP
  cases e[i]? with
  | none => simp [op_none]
  | some t => cases t <;> simp [op_none, op_some]
theorem stp_un {i : Nat} {s : Sl} {Q : DEnv → Prop} : StP (some .un) i s e Q ↔ Q (e.set i s) := Iff.rfl
theorem stp_d {i : Nat} {s : Sl} {x : Dt} {Q : DEnv → Prop} : StP (some (.d x)) i s e Q ↔ Q (e.set i s) := Iff.rfl
theorem stp_w {i : Nat} {s : Sl} {x : Vl} {Q : DEnv → Prop} : StP (some (.w x)) i s e Q ↔ Q (e.set i s) := Iff.rfl
def Sl.free : Sl → Prop
  | .pm _ => False
  | _ => True
theorem stp_any {i : Nat} {s t : Sl} {Q : DEnv → Prop} : StP (some t) i s e Q ↔ t.free ∧ Q (e.set i s) := by
  cases t <;> simp [StP, Sl.free]
theorem free_un : Sl.free .un ↔ True := Iff.rfl
theorem free_d {x : Dt} : Sl.free (.d x) ↔ True := Iff.rfl
theorem free_w {x : Vl} : Sl.free (.w x) ↔ True := Iff.rfl
theorem mk_d {x : Dt} : mkSl (.d x) = .d x := rfl
theorem mk_l {xs : List Vl} : mkSl (.l xs) = .w (.l xs) := rfl
theorem mk_o {c : Str} {xs : List Dt} : mkSl (.o c xs) = .w (.o c xs) := rfl
theorem divOk_iff {i j : Int} : divOk i j = true ↔ 0 < j ∧ j.natAbs.log2 < 9000 := by simp [divOk]
theorem modOk_iff {i j : Int} : modOk i j = true ↔ 0 < j := by simp [modOk]
theorem powOk_iff {i j : Int} : powOk i j = true ↔ (0 ≤ j ∧ j ≤ 1000000) ∧ i.natAbs < 2 ^ 64 := by simp [powOk]
theorem log2_lt {n : Nat} {k : Nat} (h : n < 2 ^ k) (hk : 0 < k) : n.log2 < k := by
  by_cases h0 : n = 0
  · subst h0
    simpa using hk
  · exact (Nat.log2_lt h0).mpr h
theorem mulOk_of {i j : Int} (hi : i.natAbs < 2 ^ 9000) (hj : j.natAbs < 2 ^ 9000) : mulOk i j = true := by
  have := log2_lt hi (by decide)
  have := log2_lt hj (by decide)
  simp only [mulOk, decide_eq_true_eq]
  omega
theorem own_d {x : Dt} {r : DEnv} : ownAt (.d x :: r) 0 = none := rfl
theorem own_w {x : Vl} {r : DEnv} : ownAt (.w x :: r) 0 = some x := rfl
theorem own_pm {x : Vl} {r : DEnv} : ownAt (.pm x :: r) 0 = some x := rfl
theorem own_s {s : Sl} {r : DEnv} {i : Nat} : ownAt (s :: r) (i + 1) = ownAt r i := by simp [ownAt]
theorem seto_w {x y : Vl} {r : DEnv} : setOwn (.w x :: r) 0 y = .w y :: r := rfl
theorem seto_pm {x y : Vl} {r : DEnv} : setOwn (.pm x :: r) 0 y = .pm y :: r := rfl
theorem seto_s {s : Sl} {r : DEnv} {i : Nat} {y : Vl} : setOwn (s :: r) (i + 1) y = s :: setOwn r i y := by
  simp only [setOwn, List.getElem?_cons_succ]
  cases h : r[i]? with
  | none => rfl
  | some t => cases t <;> rfl
theorem put_end {xs : List Dt} {j : Nat} {y : Dt} (h : j = xs.length) : putO xs j y = some (xs ++ [y]) := by
  subst h
  simp [putO]
theorem backs_nil {e : DEnv} : backs [] e = some [] := by cases e <;> rfl
theorem op_backs_pm {y x : Vl} {as e : List Sl} {Q : List Sl → Prop} : Op (backs (.pm y :: as) (.pm x :: e)) Q ↔ Op (backs as e) fun r => Q (.pm x :: r) := by simp only [backs, op_map]
theorem op_backs_d {x : Dt} {s : Sl} {as e : List Sl} {Q : List Sl → Prop} : Op (backs (.d x :: as) (s :: e)) Q ↔ Op (backs as e) fun r => Q (.d x :: r) := by simp only [backs, op_map]
theorem op_backs_nil {e : List Sl} {Q : List Sl → Prop} : Op (backs [] e) Q ↔ Q [] := by rw [backs_nil, op_some]
theorem sfrz_un : Sl.frz .un = .un := rfl
theorem sfrz_d {x : Dt} : Sl.frz (.d x) = .d x := rfl
theorem sfrz_w {x : Vl} : Sl.frz (.w x) = .d x.froz := rfl
theorem sfrz_pm {x : Vl} : Sl.frz (.pm x) = .d x.froz := rfl
theorem flat_bl {b : Bool} : Dt.flat (.bl b) = true := rfl
theorem flat_int {i : Int} : Dt.flat (.int i) = true := rfl
theorem flat_non : Dt.flat .non = true := rfl
theorem flat_str {x : Str} : Dt.flat (.str x) = true := rfl
theorem isN_non : Dt.isN .non = true := rfl
theorem isN_int {i : Int} : Dt.isN (.int i) = false := rfl
theorem isN_bl {b : Bool} : Dt.isN (.bl b) = false := rfl
theorem isN_str {x : Str} : Dt.isN (.str x) = false := rfl
theorem isN_tup {xs : List Dt} : Dt.isN (.tup xs) = false := rfl
theorem isN_lst {xs : List Dt} : Dt.isN (.lst xs) = false := rfl
theorem isN_ins {c : Str} {xs : List Dt} : Dt.isN (.ins c xs) = false := rfl
theorem i62_of {j : Int} (h0 : -(2 ^ 62) ≤ j) (h1 : j < 2 ^ 62) : i62 j = true := by
  simp only [i62, Bool.and_eq_true, decide_eq_true_eq]
  exact ⟨h0, h1⟩
theorem intL_at {lo : Int} {n i : Nat} {x : Dt} (h : (intL lo n)[i]? = some x) : i < n ∧ x = .int (lo + i) := by
  unfold intL at h
  rw [List.getElem?_map] at h
  obtain ⟨j, h1, rfl⟩ := Option.map_eq_some_iff.mp h
  obtain ⟨h2, h3⟩ := List.getElem?_eq_some_iff.mp h1
  rw [List.getElem_range] at h3
  subst h3
  exact ⟨by simpa using h2, rfl⟩
theorem intL_len {lo : Int} {n : Nat} : (intL lo n).length = n := by simp [intL]
/-- two lists in order with the same members are one -/
theorem sorted_eq : ∀ {xs ys : List Int}, xs.Pairwise (· < ·) → ys.Pairwise (· < ·) → (∀ z, z ∈ xs ↔ z ∈ ys) → xs = ys
  | [], [], _, _, _ => rfl
  | [], y :: ys, _, _, h => absurd ((h y).mpr (List.mem_cons_self ..)) (by simp)
  | x :: xs, [], _, _, h => absurd ((h x).mp (List.mem_cons_self ..)) (by simp)
  | x :: xs, y :: ys, hx, hy, h => by
    have hx' := List.pairwise_cons.mp hx
    have hy' := List.pairwise_cons.mp hy
    have e : x = y := by
      rcases List.mem_cons.mp ((h x).mp (List.mem_cons_self ..)) with e | m
      · exact e
      · rcases List.mem_cons.mp ((h y).mpr (List.mem_cons_self ..)) with e | m2
        · exact e.symm
        · have := hy'.1 _ m
          have := hx'.1 _ m2
          omega
    subst e
    rw [sorted_eq hx'.2 hy'.2 fun z => ?_]
    constructor
    · intro m
      rcases List.mem_cons.mp ((h z).mp (List.mem_cons_of_mem _ m)) with e | m2
      · subst e
        exact absurd (hx'.1 _ m) (by omega)
      · exact m2
    · intro m
      rcases List.mem_cons.mp ((h z).mpr (List.mem_cons_of_mem _ m)) with e | m2
      · subst e
        exact absurd (hy'.1 _ m) (by omega)
      · exact m2
end
end DL
set_option Elab.async false
set_option linter.all false
set_option maxRecDepth 100000
namespace DL
open PySem
/-- data of which == is told, n deep at most -/
def Sh (n : Nat) (x : Dt) : Prop := ∃ p, x.py = some p ∧ p.canLay0 = true ∧ p.depth ≤ n
theorem Sh.int {n : Nat} (i : Int) : Sh n (.int i) := ⟨.int i, by simp [Dt.py], by simp [PyData.canLay0], by simp [PyData.depth]⟩
theorem Sh.bl {n : Nat} (b : Bool) : Sh n (.bl b) := ⟨.bool b, by simp [Dt.py], by simp [PyData.canLay0], by simp [PyData.depth]⟩
theorem Sh.non {n : Nat} : Sh n .non := ⟨.none, by simp [Dt.py], by simp [PyData.canLay0], by simp [PyData.depth]⟩
theorem Sh.str {n : Nat} {x : Str} (h : PyData.strOk x = true) : Sh n (.str x) := ⟨.str x, by simp [Dt.py], by simp [PyData.canLay0, h], by simp [PyData.depth]⟩
theorem Sh.all {n : Nat} : ∀ {xs : List Dt}, (∀ x ∈ xs, Sh n x) → ∃ ps, pys xs = some ps ∧ PyData.canLayAll0 ps = true ∧ PyData.depthAll ps ≤ n
  | [], _ => ⟨[], by simp [pys], by simp [PyData.canLayAll0], by simp [PyData.depthAll]⟩
  | x :: xs, h => by
    obtain ⟨p, h1, h2, h3⟩ := h x (List.mem_cons_self ..)
    obtain ⟨ps, g1, g2, g3⟩ := Sh.all (xs := xs) fun y hy => h y (List.mem_cons_of_mem _ hy)
    exact ⟨p :: ps, by simp [pys, h1, g1], by simp [PyData.canLayAll0, h2, g2], by simp [PyData.depthAll]; omega⟩
theorem Sh.lst {n : Nat} {xs : List Dt} (h : ∀ x ∈ xs, Sh n x) : Sh (n + 1) (.lst xs) := by
  obtain ⟨ps, g1, g2, g3⟩ := Sh.all h
  exact ⟨.list ps, by simp [Dt.py, g1], by simp [PyData.canLay0, g2], by simp [PyData.depth]; omega⟩
theorem Sh.tup {n : Nat} {xs : List Dt} (h : ∀ x ∈ xs, Sh n x) : Sh (n + 1) (.tup xs) := by
  obtain ⟨ps, g1, g2, g3⟩ := Sh.all h
  exact ⟨.tuple ps, by simp [Dt.py, g1], by simp [PyData.canLay0, g2], by simp [PyData.depth]; omega⟩
theorem Sh.mono {n m : Nat} {x : Dt} (h : Sh n x) (hn : n ≤ m) : Sh m x := by
  obtain ⟨p, h1, h2, h3⟩ := h
  exact ⟨p, h1, h2, by omega⟩
theorem eqD_sh {x y : Dt} {p q : PyData} (hx : x.py = some p) (hy : y.py = some q) (h1 : p.canLay0 = true) (h2 : q.canLay0 = true) (d1 : p.depth ≤ 64) (d2 : q.depth ≤ 64) : eqD x y = some (PyData.eqv p q) := by
  unfold eqD
  split
  · rename_i i j
    simp only [Dt.py, Option.some.injEq] at hx hy
    subst hx hy
    simp only [PyData.eqv, Option.some.injEq]
    exact Bool.eq_iff_iff.mpr (by simp)
  · simp only [hx, hy]
    rw [if_pos]
    simp [SeqAt.shaped, h1, h2, d1, d2]
theorem eqD_refl {x : Dt} (h : Sh 64 x) : eqD x x = some true := by
  obtain ⟨p, h1, h2, h3⟩ := h
  rw [eqD_sh h1 h1 h2 h2 h3 h3, SeqAt.eqv_refl p h2]
theorem pys_ints : ∀ xs : List Int, pys (xs.map .int) = some (xs.map PyData.int)
  | [] => by simp [pys]
  | x :: xs => by simp [pys, Dt.py, pys_ints xs]
theorem lay_ints : ∀ xs : List Int, PyData.canLayAll0 (xs.map PyData.int) = true ∧ PyData.depthAll (xs.map PyData.int) = 0
  | [] => by simp [PyData.canLayAll0, PyData.depthAll]
  | x :: xs => by simp [PyData.canLayAll0, PyData.depthAll, PyData.canLay0, PyData.depth, lay_ints xs]
theorem eqv_ints : ∀ xs ys : List Int, PyData.eqvAll (xs.map PyData.int) (ys.map PyData.int) = decide (xs = ys)
  | [], [] => by simp [PyData.eqvAll]
  | [], y :: ys => by simp [PyData.eqvAll]
  | x :: xs, [] => by simp [PyData.eqvAll]
  | x :: xs, y :: ys => by
    simp only [List.map_cons, PyData.eqvAll, PyData.eqv, eqv_ints xs ys]
    exact Bool.eq_iff_iff.mpr (by simp)
theorem eqD_ints (xs ys : List Int) : eqD (.lst (xs.map .int)) (.lst (ys.map .int)) = some (decide (xs = ys)) := by
  have h1 := lay_ints xs
  have h2 := lay_ints ys
  rw [eqD_sh (p := .list (xs.map PyData.int)) (q := .list (ys.map PyData.int)) (by simp [Dt.py, pys_ints]) (by simp [Dt.py, pys_ints]) (by simp [PyData.canLay0, h1]) (by simp [PyData.canLay0, h2]) (by simp [PyData.depth, h1]) (by simp [PyData.depth, h2])]
  simp only [PyData.eqv, eqv_ints]
theorem inD_ints (i : Int) (xs : List Int) : inD (.int i) (.lst (xs.map .int)) = some (decide (i ∈ xs)) := by
  have h1 := lay_ints xs
  simp only [inD, Dt.py, pys_ints]
  rw [if_pos (by simp [SeqAt.shaped, PyData.canLay0, PyData.depth, h1])]
  rw [Option.some.injEq]
  refine Bool.eq_iff_iff.mpr ?_
  simp [PyData.eqv]
theorem op_gEqL {xs ys : List Int} {Q : Vl → Prop} : Op (gEq (.lst (xs.map .int)) (.lst (ys.map .int))) Q ↔ Q (.d (.bl (decide (xs = ys)))) := by
  simp only [gEq, eqD_ints, Option.map_some, op_some]
theorem op_gNeL {xs ys : List Int} {Q : Vl → Prop} : Op (gNe (.lst (xs.map .int)) (.lst (ys.map .int))) Q ↔ Q (.d (.bl (!decide (xs = ys)))) := by
  simp only [gNe, eqD_ints, Option.map_some, op_some]
theorem op_gEqL0 {xs : List Int} {Q : Vl → Prop} : Op (gEq (.lst (xs.map .int)) (.lst [])) Q ↔ Q (.d (.bl (decide (xs = [])))) := op_gEqL (ys := [])
theorem op_gNeL0 {xs : List Int} {Q : Vl → Prop} : Op (gNe (.lst (xs.map .int)) (.lst [])) Q ↔ Q (.d (.bl (!decide (xs = [])))) := op_gNeL (ys := [])
theorem op_gInL {i : Int} {xs : List Int} {Q : Vl → Prop} : Op (gIn (.int i) (.lst (xs.map .int))) Q ↔ Q (.d (.bl (decide (i ∈ xs)))) := by
  simp only [gIn, inD_ints, Option.map_some, op_some]
theorem op_gNinL {i : Int} {xs : List Int} {Q : Vl → Prop} : Op (gNin (.int i) (.lst (xs.map .int))) Q ↔ Q (.d (.bl (!decide (i ∈ xs)))) := by
  simp only [gNin, inD_ints, Option.map_some, op_some]
theorem op_gEqR {x : Dt} {Q : Vl → Prop} (h : Sh 64 x) : Op (gEq x x) Q ↔ Q (.d (.bl true)) := by
  simp only [gEq, eqD_refl h, Option.map_some, op_some]
theorem op_gEqB {a b : Bool} {Q : Vl → Prop} : Op (gEq (.bl a) (.bl b)) Q ↔ Q (.d (.bl (decide (a = b)))) := by
  have h : eqD (.bl a) (.bl b) = some (decide (a = b)) := by
    rw [eqD_sh (p := .bool a) (q := .bool b) (by simp [Dt.py]) (by simp [Dt.py]) (by simp [PyData.canLay0]) (by simp [PyData.canLay0]) (by simp [PyData.depth]) (by simp [PyData.depth])]
    simp only [PyData.eqv]
    cases a <;> cases b <;> rfl
  simp only [gEq, h, Option.map_some, op_some]
theorem op_catI {xs ys : List Int} {Q : Vl → Prop} : Op (gCat (.lst (xs.map .int)) (.lst (ys.map .int))) Q ↔ xs.length + ys.length ≤ sizeLine ∧ Q (.ld ((xs ++ ys).map .int)) := by
  rw [op_cat, List.length_map, List.length_map, List.map_append]
theorem froz_il {xs : List Int} : Vl.froz (.l (xs.map fun z => Vl.d (.int z))) = .lst (xs.map .int) := by
  rw [show (xs.map fun z => Vl.d (.int z)) = (xs.map Dt.int).map Vl.d by simp, froz_ld]
theorem filt_false {γ : Type} {xs : List γ} : xs.filter (fun _ => false) = [] := List.filter_eq_nil_iff.mpr fun _ _ => Bool.false_ne_true
theorem filt_true {γ : Type} {xs : List γ} : xs.filter (fun _ => true) = xs := List.filter_eq_self.mpr fun _ _ => rfl
theorem ex_pm {a : Vl} {l : List Sl} {R : Vl → Prop} : (∃ y as, (Sl.pm a :: l) = .pm y :: as ∧ R y) ↔ R a := ⟨fun ⟨_, _, h, q⟩ => by cases h; exact q, fun q => ⟨a, l, rfl, q⟩⟩
theorem ex_mk {a : Vl} {l : List Sl} {R : Vl → Prop} : (∃ x as, ((Vl.d .non, Sl.pm a :: l) : Vl × List Sl) = (.d .non, .pm x :: as) ∧ R x) ↔ R a := ⟨fun ⟨_, _, h, q⟩ => by cases h; exact q, fun q => ⟨a, l, rfl, q⟩⟩
theorem put0 {y : Dt} : putO [] 0 y = some [y] := rfl
theorem put1 {a y : Dt} : putO [a] 1 y = some [a, y] := rfl
theorem put2 {a b y : Dt} : putO [a, b] 2 y = some [a, b, y] := rfl
theorem put3 {a b c y : Dt} : putO [a, b, c] 3 y = some [a, b, c, y] := rfl
theorem put4 {a b c d y : Dt} : putO [a, b, c, d] 4 y = some [a, b, c, d, y] := rfl
theorem put5 {a b c d e y : Dt} : putO [a, b, c, d, e] 5 y = some [a, b, c, d, e, y] := rfl
def QnP (o : Option Sl) (Q : Dt → Prop) : Prop := match o with
  | some (.d x) => Q x
  | _ => False
theorem op_qNm {i : Nat} {e : DEnv} {Q : Dt → Prop} : Op (qNm i e) Q ↔ QnP e[i]? Q := by
  unfold qNm QnP
  cases e[i]? with
  | none => simp [op_none]
  | some t => cases t <;> simp [op_none, op_some]
theorem qnp_d {x : Dt} {Q : Dt → Prop} : QnP (some (.d x)) Q ↔ Q x := Iff.rfl
theorem run_appP {i : Nat} {r : List Ixk} {f : DEnv → Option Dt} {e : DEnv} {Q : Out → Prop} : Run (sAppP i r f) e Q ↔ Op (f e) fun v => Op (ownAt e i) fun x => Op (getP e x r) fun y => ∃ xs, y = .l xs ∧ xs.length < sizeLine ∧ Op (setP e x r (.l (xs ++ [.d v]))) fun z => Q (.nx (setOwn e i z)) := by
  unfold Run sAppP
  constructor
  · rintro ⟨o, h, q⟩
    split at h
    · rename_i v x h1 h2
      split at h
      · rename_i xs h3
        split at h
        · rename_i hl
          obtain ⟨y, h4, rfl⟩ := Option.map_eq_some_iff.mp h
          exact ⟨v, h1, x, h2, _, h3, xs, rfl, hl, y, h4, q⟩
        · cases h
      · cases h
    · cases h
  · rintro ⟨v, h1, x, h2, _, h3, xs, rfl, hl, y, h4, q⟩
    exact ⟨_, by simp only [h1, h2, h3, if_pos hl, h4, Option.map_some], q⟩
theorem toIs_ints : ∀ xs : List Int, toIs (xs.map .int) = some xs
  | [] => rfl
  | x :: xs => by simp [toIs, toI, toIs_ints xs]
theorem op_sorted {xs : List Int} {Q : Vl → Prop} : Op (gSorted [.lst (xs.map .int)]) Q ↔ Q (.ld ((sortI xs).map .int)) := by
  simp only [gSorted, toIs_ints, Option.map_some, op_some]
theorem op_sum {xs : List Int} {Q : Vl → Prop} : Op (gSum [.lst (xs.map .int)]) Q ↔ Q (.d (.int xs.sum)) := by
  simp only [gSum, toIs_ints, Option.map_some, op_some]
theorem op_lenSet {xs : List Int} {Q : Vl → Prop} : Op (gLenSet (.lst (xs.map .int))) Q ↔ xs.length ≤ 4000 ∧ Q (.d (.int (dedI xs).length)) := by
  simp only [gLenSet, toIs_ints, Option.bind_some, op_ite, op_some]
theorem isi_int {T : String} {i : Int} {Q : Vl → Prop} : Op (gIsi T (.int i)) Q ↔ Op (L2.kitB "int" T) fun r => Q (.d (.bl r)) := by
  simp only [gIsi, tyNm, op_map]
theorem isi_bl {T : String} {b : Bool} {Q : Vl → Prop} : Op (gIsi T (.bl b)) Q ↔ Op (L2.kitB "bool" T) fun r => Q (.d (.bl r)) := by
  simp only [gIsi, tyNm, op_map]
theorem isi_lst {T : String} {xs : List Dt} {Q : Vl → Prop} : Op (gIsi T (.lst xs)) Q ↔ Op (L2.kitB "list" T) fun r => Q (.d (.bl r)) := by
  simp only [gIsi, tyNm, op_map]
theorem isi_tup {T : String} {xs : List Dt} {Q : Vl → Prop} : Op (gIsi T (.tup xs)) Q ↔ Op (L2.kitB "tuple" T) fun r => Q (.d (.bl r)) := by
  simp only [gIsi, tyNm, op_map]
theorem isi_non {T : String} {Q : Vl → Prop} : Op (gIsi T .non) Q ↔ Op (L2.kitB "NoneType" T) fun r => Q (.d (.bl r)) := by
  simp only [gIsi, tyNm, op_map]
theorem kit_ii : L2.kitB "int" "int" = some true := by decide +kernel
theorem kit_ib : L2.kitB "int" "bool" = some false := by decide +kernel
theorem kit_bb : L2.kitB "bool" "bool" = some true := by decide +kernel
theorem kit_bi : L2.kitB "bool" "int" = some true := by decide +kernel
theorem kit_ll : L2.kitB "list" "list" = some true := by decide +kernel
theorem kit_tt : L2.kitB "tuple" "tuple" = some true := by decide +kernel
theorem kit_il : L2.kitB "int" "list" = some false := by decide +kernel
theorem kit_it : L2.kitB "int" "tuple" = some false := by decide +kernel
theorem kit_lt : L2.kitB "list" "tuple" = some false := by decide +kernel
theorem kit_tl : L2.kitB "tuple" "list" = some false := by decide +kernel
theorem lt_of_le_nodup : ∀ {xs : List Int}, xs.Pairwise (· ≤ ·) → xs.Nodup → xs.Pairwise (· < ·) := fun h n => by
  have := List.Pairwise.and h n
  exact this.imp fun ⟨a, b⟩ => by omega
theorem nodup_of_lt {xs : List Int} (h : xs.Pairwise (· < ·)) : xs.Nodup := h.imp fun a => by omega
/-- what sorted gives of a list without doubles -/
theorem sortI_eq {xs ys : List Int} (n : xs.Nodup) (h : ys.Pairwise (· < ·)) (m : ∀ z, z ∈ xs ↔ z ∈ ys) : sortI xs = ys :=
  sorted_eq (lt_of_le_nodup (sortI_sorted xs) ((sortI_perm xs).nodup_iff.mpr n)) h fun z => (sortI_perm xs).mem_iff.trans (m z)
theorem sortI_self {xs : List Int} (h : xs.Pairwise (· < ·)) : sortI xs = xs := sortI_eq (nodup_of_lt h) h fun _ => Iff.rfl
theorem ded_fold : ∀ (xs acc : List Int), (xs.foldl PyProof.Rows.step_dedup acc).length ≤ acc.length + xs.length ∧ (acc.Nodup → ((xs.foldl PyProof.Rows.step_dedup acc).length = acc.length + xs.length ↔ (acc ++ xs).Nodup))
  | [], acc => by simp
  | x :: xs, acc => by
    rw [List.foldl_cons]
    by_cases h : (acc.any fun y => y == x) = true
    · have e0 : PyProof.Rows.step_dedup acc x = acc := by unfold PyProof.Rows.step_dedup; rw [if_pos h]
      rw [e0]
      obtain ⟨h1, h2⟩ := ded_fold xs acc
      refine ⟨by simp only [List.length_cons]; omega, fun n => ⟨fun e => ?_, fun nd => ?_⟩⟩
      · simp only [List.length_cons] at e; omega
      · exfalso
        have := (List.nodup_append.mp nd).2.2
        exact this x (by simpa using h) x (List.mem_cons_self ..) rfl
    · have e0 : PyProof.Rows.step_dedup acc x = acc ++ [x] := by unfold PyProof.Rows.step_dedup; rw [if_neg h]
      rw [e0]
      obtain ⟨h1, h2⟩ := ded_fold xs (acc ++ [x])
      refine ⟨by simp only [List.length_cons, List.length_append, List.length_nil] at h1 ⊢; omega, fun n => ?_⟩
      have n2 : (acc ++ [x]).Nodup := List.nodup_append.mpr ⟨n, by simp, fun a ha b hb e => by
        rw [List.mem_singleton] at hb
        subst e hb
        exact h (by simpa using ha)⟩
      have := h2 n2
      simp only [List.append_assoc, List.singleton_append] at this
      rw [← this]
      simp only [List.length_cons, List.length_append, List.length_nil]
      omega
theorem map_getD_range (xs : List Int) : (List.range xs.length).map (fun i => xs.getD i 0) = xs := by
  apply List.ext_getElem
  · simp
  · intro i h1 h2
    simp [h2]
theorem dedI_len (xs : List Int) : (dedI xs).length = xs.length ↔ xs.Nodup := by
  unfold dedI PyProof.Rows.firstMet
  rw [map_getD_range]
  have := (ded_fold xs []).2 List.nodup_nil
  simpa using this
section
variable {e : DEnv}
def ClP (o : Option Sl) (v : Nat) (e : DEnv) (Q : DEnv → Prop) : Prop := match o with
  | some .un => Q (e.set v .un)
  | some (.d _) => Q (e.set v .un)
  | _ => False
theorem op_clr {v : Nat} {vs : List Nat} {Q : DEnv → Prop} : Op (clr (v :: vs) e) Q ↔ Op (clr vs e) fun e0 => ClP e0[v]? v e0 Q := by
  rw [show clr (v :: vs) e = match clr vs e with | none => none | some e0 => match e0[v]? with | some .un => some (e0.set v .un) | some (.d _) => some (e0.set v .un) | _ => none from rfl]
  cases h : clr vs e with
  | none => simp [op_none]
  | some e0 =>
    simp only [op_some]
    unfold ClP
    cases e0[v]? with
    | none => simp [op_none]
    | some t => cases t <;> simp [op_none, op_some]
theorem op_clr0 {Q : DEnv → Prop} : Op (clr [] e) Q ↔ Q e := op_some
theorem clp_un {v : Nat} {Q : DEnv → Prop} : ClP (some .un) v e Q ↔ Q (e.set v .un) := Iff.rfl
theorem clp_d {v : Nat} {x : Dt} {Q : DEnv → Prop} : ClP (some (.d x)) v e Q ↔ Q (e.set v .un) := Iff.rfl
/-- a slot of a loop's own name -/
def Sl.loc : Sl → Prop
  | .un => True
  | .d _ => True
  | _ => False
theorem clp_any {v : Nat} {t : Sl} {Q : DEnv → Prop} : ClP (some t) v e Q ↔ t.loc ∧ Q (e.set v .un) := by cases t <;> simp [ClP, Sl.loc]
theorem loc_un : Sl.loc .un ↔ True := Iff.rfl
theorem loc_d {x : Dt} : Sl.loc (.d x) ↔ True := Iff.rfl
theorem Sl.loc.free {s : Sl} (h : s.loc) : s.free := by cases s <;> first | trivial | exact h.elim
def rstS (o : Option Sl) (v : Nat) (e : DEnv) : DEnv := match o with
  | some s => e.set v s
  | none => e
theorem rst_cons {v : Nat} {vs : List Nat} {e2 : DEnv} : rst (v :: vs) e e2 = rstS e[v]? v (rst vs e e2) := by
  rfl
theorem rst_nil {e2 : DEnv} : rst [] e e2 = e2 := rfl
theorem rstS_some {v : Nat} {s : Sl} : rstS (some s) v e = e.set v s := rfl
/-- [f(x) for x in xs if c(x)] -/
theorem lc_filter {vs : List Nat} {g : Dt → DEnv → Option DEnv} {c : M Bool} {f : M Vl} {xs : List Dt} {Q : List Vl → DEnv → Prop} (p : Dt → Bool) (h : Dt → Vl) (hl : xs.length ≤ sizeLine)
    (hs : ∀ x ∈ xs, Op (clr vs e) fun e0 => Op (g x e0) fun e1 => Ev c e1 fun k e2 => k = p x ∧ (k = false → rst vs e e2 = e) ∧ (k = true → Ev f e2 fun v e3 => v = h x ∧ rst vs e e3 = e))
    (hq : Q ((xs.filter p).map h) e) : Ev (lcF vs g c f xs []) e Q := by
  refine lc_run (fun i acc e' => e' = e ∧ acc = ((xs.take i).filter p).map h) ⟨rfl, by simp⟩ ?_ ?_
  · rintro i x acc e' hi ⟨rfl, rfl⟩
    have hx : x ∈ xs := List.mem_of_getElem? hi
    obtain ⟨e0, h1, e1, h2, k, e2, h3, rfl, qf, qt⟩ := hs x hx
    have hil : i < xs.length := (List.getElem?_eq_some_iff.mp hi).1
    have ht : xs.take (i + 1) = xs.take i ++ [x] := by rw [List.take_add_one, hi]; rfl
    refine ⟨e0, h1, e1, h2, p x, e2, h3, fun hk => ⟨qf hk, ?_⟩, fun hk => ?_⟩
    · rw [ht, List.filter_append]
      simp [hk]
    · obtain ⟨v, e3, h4, rfl, h5⟩ := qt hk
      refine ⟨h x, e3, h4, ?_, h5, ?_⟩
      · have := List.length_filter_le p (xs.take i)
        simp only [List.length_map, List.length_take] at this ⊢
        omega
      · rw [ht, List.filter_append]
        simp [hk]
  · rintro acc e' ⟨rfl, rfl⟩
    rw [List.take_length]
    exact hq
theorem lc_map {vs : List Nat} {g : Dt → DEnv → Option DEnv} {f : M Vl} {xs : List Dt} {Q : List Vl → DEnv → Prop} (h : Dt → Vl) (hl : xs.length ≤ sizeLine)
    (hs : ∀ x ∈ xs, Op (clr vs e) fun e0 => Op (g x e0) fun e1 => Ev f e1 fun v e3 => v = h x ∧ rst vs e e3 = e)
    (hq : Q (xs.map h) e) : Ev (lcF vs g (ret true) f xs []) e Q := by
  refine lc_filter (fun _ => true) h hl (fun x hx => ?_) (by rw [List.filter_eq_self.mpr (fun _ _ => rfl)]; exact hq)
  obtain ⟨e0, h1, e1, h2, h3⟩ := hs x hx
  exact ⟨e0, h1, e1, h2, true, e1, rfl, rfl, by simp, fun _ => h3⟩
/-- the same over a list of things that are shown as data -/
theorem lc_filterG {γ : Type} {vs : List Nat} {g : Dt → DEnv → Option DEnv} {c : M Bool} {f : M Vl} {ι : γ → Dt} {xs : List γ} {Q : List Vl → DEnv → Prop} (p : γ → Bool) (h : γ → Vl) (hl : xs.length ≤ sizeLine)
    (hs : ∀ x ∈ xs, Op (clr vs e) fun e0 => Op (g (ι x) e0) fun e1 => Ev c e1 fun k e2 => k = p x ∧ (k = false → rst vs e e2 = e) ∧ (k = true → Ev f e2 fun v e3 => v = h x ∧ rst vs e e3 = e))
    (hq : Q ((xs.filter p).map h) e) : Ev (lcF vs g c f (xs.map ι) []) e Q := by
  refine lc_run (fun i acc e' => e' = e ∧ acc = ((xs.take i).filter p).map h) ⟨rfl, by simp⟩ ?_ ?_
  · rintro i y acc e' hi ⟨rfl, rfl⟩
    rw [List.getElem?_map] at hi
    obtain ⟨x, hi', rfl⟩ := Option.map_eq_some_iff.mp hi
    replace hi := hi'
    have hx : x ∈ xs := List.mem_of_getElem? hi
    obtain ⟨e0, h1, e1, h2, k, e2, h3, rfl, qf, qt⟩ := hs x hx
    have hil : i < xs.length := (List.getElem?_eq_some_iff.mp hi).1
    have ht : xs.take (i + 1) = xs.take i ++ [x] := by rw [List.take_add_one, hi]; rfl
    refine ⟨e0, h1, e1, h2, p x, e2, h3, fun hk => ⟨qf hk, ?_⟩, fun hk => ?_⟩
    · rw [ht, List.filter_append]
      simp [hk]
    · obtain ⟨v, e3, h4, rfl, h5⟩ := qt hk
      refine ⟨h x, e3, h4, ?_, h5, ?_⟩
      · have := List.length_filter_le p (xs.take i)
        simp only [List.length_map, List.length_take] at this ⊢
        omega
      · rw [ht, List.filter_append]
        simp [hk]
  · rintro acc e' ⟨rfl, rfl⟩
    rw [List.length_map, List.take_length]
    exact hq
theorem lc_mapG {γ : Type} {vs : List Nat} {g : Dt → DEnv → Option DEnv} {f : M Vl} {ι : γ → Dt} {xs : List γ} {Q : List Vl → DEnv → Prop} (h : γ → Vl) (hl : xs.length ≤ sizeLine)
    (hs : ∀ x ∈ xs, Op (clr vs e) fun e0 => Op (g (ι x) e0) fun e1 => Ev f e1 fun v e3 => v = h x ∧ rst vs e e3 = e)
    (hq : Q (xs.map h) e) : Ev (lcF vs g (ret true) f (xs.map ι) []) e Q := by
  refine lc_filterG (fun _ => true) h hl (fun x hx => ?_) (by rw [List.filter_eq_self.mpr (fun _ _ => rfl)]; exact hq)
  obtain ⟨e0, h1, e1, h2, h3⟩ := hs x hx
  exact ⟨e0, h1, e1, h2, true, e1, rfl, rfl, by simp, fun _ => h3⟩
theorem sz {n : Nat} (h : n < 16000000) : n < sizeLine := Nat.lt_of_lt_of_le h (by decide)
theorem sz' {n : Nat} (h : n < 16000000) : n ≤ sizeLine := Nat.le_of_lt (sz h)
/-- a loop over things shown as data, by what has been passed -/
theorem for_runG {γ : Type} {g : Dt → DEnv → Option DEnv} {b : SV} {ι : γ → Dt} {xs : List γ} {Q : Out → Prop} (I : List γ → DEnv → Prop) (h0 : I [] e)
    (hs : ∀ pre x post e, xs = pre ++ x :: post → I pre e → Op (g (ι x) e) fun e1 => Run b e1 fun o => match o with | .nx e2 => I (pre ++ [x]) e2 | .ct e2 => I (pre ++ [x]) e2 | .bk e2 => Q (.nx e2) | .rt v e2 => Q (.rt v e2))
    (hn : ∀ e, I xs e → Q (.nx e)) : Run (forF g b (xs.map ι)) e Q := by
  refine for_run (fun i e => I (xs.take i) e) (by simpa using h0) (fun i y e hi hI => ?_) (fun e hI => hn e (by rw [List.length_map, List.take_length] at hI; exact hI))
  rw [List.getElem?_map] at hi
  obtain ⟨x, hi', rfl⟩ := Option.map_eq_some_iff.mp hi
  replace hi := hi'
  obtain ⟨hil, hx⟩ := List.getElem?_eq_some_iff.mp hi
  have ht : xs.take (i + 1) = xs.take i ++ [x] := by rw [List.take_add_one, hi]; rfl
  rw [ht]
  refine hs (xs.take i) x (xs.drop (i + 1)) e ?_ hI
  have := List.take_append_drop i xs
  rw [List.drop_eq_getElem_cons hil, hx] at this
  exact this.symm
end
def rng (n : Int) : List Int := (List.range n.toNat).map fun (i : Nat) => (i : Int)
theorem mem_rng {n z : Int} : z ∈ rng n ↔ 0 ≤ z ∧ z < n := by
  unfold rng
  rw [List.mem_map]
  constructor
  · rintro ⟨i, hi, rfl⟩
    have := List.mem_range.mp hi
    omega
  · rintro ⟨h0, h1⟩
    exact ⟨z.toNat, List.mem_range.mpr (by omega), by omega⟩
theorem rng_sorted (n : Int) : (rng n).Pairwise (· < ·) := by
  unfold rng
  rw [List.pairwise_map]
  exact List.pairwise_lt_range.imp fun h => by omega
theorem rng_len {n : Int} : (rng n).length = n.toNat := by simp [rng]
theorem rng_get {n z : Int} (h0 : 0 ≤ z) (h1 : z < n) : (rng n)[z.toNat]? = some z := by
  unfold rng
  rw [List.getElem?_map, List.getElem?_range (by omega)]
  simp
  omega
theorem intL_rng {n : Int} : intL 0 n.toNat = (rng n).map .int := by
  unfold intL rng
  simp
theorem atI_rng {γ : Type} {f : Int → γ} {n z : Int} (h0 : 0 ≤ z) (h1 : z < n) : L2.atI ((rng n).map f) z = some (f z) :=
  atI_int h0 (by rw [List.getElem?_map, rng_get h0 h1]; rfl)
theorem rng_at {n : Int} {i : Nat} {x : Int} (h : (rng n)[i]? = some x) : x = i ∧ (i : Int) < n := by
  unfold rng at h
  rw [List.getElem?_map] at h
  obtain ⟨j, h1, rfl⟩ := Option.map_eq_some_iff.mp h
  obtain ⟨h2, h3⟩ := List.getElem?_eq_some_iff.mp h1
  rw [List.getElem_range] at h3
  subst h3
  have := List.length_range ▸ h2
  exact ⟨rfl, by omega⟩
theorem take_rng {n : Int} {i : Nat} (h : (i : Int) < n) : (rng n).take (i + 1) = (rng n).take i ++ [(i : Int)] := by
  rw [List.take_add_one, show (rng n)[i]? = some (i : Int) by have := rng_get (n := n) (z := i) (by omega) h; simpa using this]
  rfl
end DL
set_option Elab.async false
set_option linter.all false
set_option maxRecDepth 100000
set_option maxHeartbeats 4000000
namespace K88
open PySem L2 DL
def k_MOST : Dt := .int 40
def m__law_take : SV :=
  (sSeq (sSet 2 (e2 gMod (frz (eL gInt (aCons (eBor (frz (e2 gIx (eVar 0) (eC (.int 0))))) aNil))) (eVar 1)))
  (sSeq (sSetIx 0 (eC (.int 0)) (frz (e2 gDiv (frz (eL gInt (aCons (eBor (frz (e2 gIx (eVar 0) (eC (.int 0))))) aNil))) (eVar 1))))
  (sRet (eMov 2))))
def F__law_take : Fn := fnD 2 3 m__law_take
def m_check_size : SV :=
  (sIf (asB (frz (e2 gLt (eVar 0) (eC (.int 1))))) sNever sNext)
def F_check_size : Fn := fnD 1 1 m_check_size
def m_Joinedu_initu : SV :=
  (sSeq (sExpr (eCall F_check_size (aCons (eVar 2) aNil)))
  (sSeq (sExpr (eCall F_check_size (aCons (eVar 4) aNil)))
  (sSeq (sFldS 0 "Joined" 0 (eVar 1))
  (sSeq (sFldS 0 "Joined" 1 (eVar 2))
  (sSeq (sFldS 0 "Joined" 2 (eVar 3))
  (sFldS 0 "Joined" 3 (eVar 4)))))))
def F_Joinedu_initu : Fn := fnD 5 5 m_Joinedu_initu
def m_Ruleu_initu : SV :=
  (sSeq (sFldS 0 "Rule" 0 (eVar 1))
  (sSeq (sFldS 0 "Rule" 1 (eVar 2))
  (sFldS 0 "Rule" 2 (eVar 3))))
def F_Ruleu_initu : Fn := fnD 4 4 m_Ruleu_initu
def m__law_near : SV :=
  (sRet (e2 gSub (frz (eCallR 0 F__law_take (aCons (frz (e2 gAdd (frz (e2 gMul (eC (.int 2)) (eVar 1))) (eC (.int 1)))) aNil))) (eVar 1)))
def F__law_near : Fn := fnD 2 2 m__law_near
def m__law_rule : SV :=
  (sSeq (sSet 1 (e2 gIx (frz (eLst (aCons (eC (.int 9)) (aCons (eC (.int 9)) (aCons (frz (e2 gPow (eC (.int 10)) (eC (.int 40)))) aNil))))) (frz (eCallR 0 F__law_take (aCons (eC (.int 3)) aNil)))))
  (sRet (eMake "Rule" F_Ruleu_initu (aCons (frz (eCallR 0 F__law_near (aCons (eVar 1) aNil))) (aCons (frz (eCallR 0 F__law_near (aCons (eVar 1) aNil))) (aCons (frz (eCallR 0 F__law_near (aCons (eC (.int 99)) aNil))) aNil))))))
def F__law_rule : Fn := fnD 1 2 m__law_rule
def m_check_row : SV :=
  (sSeq (sExpr (eCall F_check_size (aCons (eVar 0) aNil)))
  (sIf (tNot' (asB (frz (e3c gLe gLt (eC (.int 0)) (eVar 1) (eVar 0))))) sNever sNext))
def F_check_row : Fn := fnD 2 2 m_check_row
def m_Joined_size : SV :=
  (sRet (e2 gMul (eFldS 0 "Joined" 1) (eFldS 0 "Joined" 3)))
def F_Joined_size : Fn := fnD 1 1 m_Joined_size
def m_gcd : SV :=
  (sSeq (sSet 2 (eL gAbs (aCons (eVar 0) aNil)))
  (sSeq (sSet 3 (eL gAbs (aCons (eVar 1) aNil)))
  (sSeq (whileF (2 ^ 64) (asB (frz (e2 gGt (eVar 3) (eC (.int 0))))) (sPar 2 3 (oCons (up (eVar 3)) (oCons (e2 gMod (eVar 2) (eVar 3)) oNil))))
  (sRet (eMov 2)))))
def F_gcd : Fn := fnD 2 4 m_gcd
def m_inverse : SV :=
  (sSeq (sPar 2 3 (oCons (up (eVar 1)) (oCons (e2 gMod (eVar 0) (eVar 1)) oNil)))
  (sSeq (sTg (gTp (gCons' (gNm 4) (gCons' (gNm 5) gNil'))) (eTup (aCons (eC (.int 0)) (aCons (eC (.int 1)) aNil))))
  (sSeq (whileF (2 ^ 64) (asB (frz (e2 gGt (eVar 3) (eC (.int 0))))) (sSeq (sSet 6 (e2 gDiv (eVar 2) (eVar 3)))
  (sSeq (sPar 2 3 (oCons (up (eVar 3)) (oCons (e2 gSub (eVar 2) (frz (e2 gMul (eVar 6) (eVar 3)))) oNil)))
  (sPar 4 5 (oCons (up (eVar 5)) (oCons (e2 gSub (eVar 4) (frz (e2 gMul (eVar 6) (eVar 5)))) oNil))))))
  (sRet (e2 gMod (eVar 4) (eVar 1))))))
def F_inverse : Fn := fnD 2 7 m_inverse
def m_solve : SV :=
  (sSeq (sSet 3 (eCall F_gcd (aCons (eVar 0) (aCons (eVar 2) aNil))))
  (sSeq (sIf (asB (frz (e2 gNe (frz (e2 gMod (eVar 1) (eVar 3))) (eC (.int 0))))) (sRet (up (eC .non))) sNext)
  (sSeq (sSet 4 (e2 gDiv (eVar 2) (eVar 3)))
  (sRet (up (eTup (aCons (frz (e2 gMod (frz (e2 gMul (frz (e2 gDiv (eVar 1) (eVar 3))) (frz (eCall F_inverse (aCons (frz (e2 gDiv (eVar 0) (eVar 3))) (aCons (eVar 4) aNil)))))) (eVar 4))) (aCons (eVar 4) aNil))))))))
def F_solve : Fn := fnD 3 5 m_solve
def m_Rule_d : SV :=
  (sRet (up (eFldS 0 "Rule" 2)))
def F_Rule_d : Fn := fnD 1 1 m_Rule_d
def m_Rule_a : SV :=
  (sRet (up (eFldS 0 "Rule" 0)))
def F_Rule_a : Fn := fnD 1 1 m_Rule_a
def m_Rule_b : SV :=
  (sRet (up (eFldS 0 "Rule" 1)))
def F_Rule_b : Fn := fnD 1 1 m_Rule_b
def m_Joined_place : SV :=
  (sSeq (sExpr (eCall F_check_row (aCons (frz (eMeth "Joined" F_Joined_size (eVar 0) aNil)) (aCons (eVar 1) aNil))))
  (sSeq (sIf (tNot' (asB (frz (e3c gLe gLt (eC (.int 0)) (eVar 2) (frz (eMeth "Joined" F_Joined_size (eVar 0) aNil)))))) (sRet (eLst aNil)) sNext)
  (sSeq (sTg (gTp (gCons' (gNm 3) (gCons' (gNm 4) gNil'))) (frz (eL gDivmod (aCons (eVar 2) (aCons (eFldS 0 "Joined" 3) aNil)))))
  (sSeq (sPar 5 6 (oCons (up (eFldS 0 "Joined" 0)) (oCons (up (eFldS 0 "Joined" 2)) oNil)))
  (sSeq (sSet 7 (eCall F_solve (aCons (frz (eMeth "Rule" F_Rule_b (eVar 5) aNil)) (aCons (frz (e2 gSub (frz (e2 gSub (eVar 3) (frz (eMeth "Rule" F_Rule_d (eVar 5) aNil)))) (frz (e2 gMul (frz (eMeth "Rule" F_Rule_a (eVar 5) aNil)) (frz (e2 gDiv (eVar 1) (eFldS 0 "Joined" 3))))))) (aCons (eFldS 0 "Joined" 1) aNil)))))
  (sSeq (sSet 8 (eCall F_solve (aCons (frz (eMeth "Rule" F_Rule_b (eVar 6) aNil)) (aCons (frz (e2 gSub (frz (e2 gSub (eVar 4) (frz (eMeth "Rule" F_Rule_d (eVar 6) aNil)))) (frz (e2 gMul (frz (eMeth "Rule" F_Rule_a (eVar 6) aNil)) (frz (e2 gMod (eVar 1) (eFldS 0 "Joined" 3))))))) (aCons (eFldS 0 "Joined" 3) aNil)))))
  (sSeq (sIf (tOr' (asB (frz (e2 gIsN (eVar 7) (eC .non)))) (asB (frz (e2 gIsN (eVar 8) (eC .non))))) (sRet (eLst aNil)) sNext)
  (sSeq (sSet 9 (eLst aNil))
  (sSeq (sFor (iRg1 (aCons (frz (eL gMin2 (aCons (eC k_MOST) (aCons (frz (e2 gDiv (eFldS 0 "Joined" 1) (frz (e2 gIx (eVar 7) (eC (.int 1)))))) aNil)))) aNil)) (gNm 10) (sSeq (sSet 11 (e2 gMul (eFldS 0 "Joined" 3) (frz (e2 gAdd (frz (e2 gIx (eVar 7) (eC (.int 0)))) (frz (e2 gMul (eVar 10) (frz (e2 gIx (eVar 7) (eC (.int 1))))))))))
  (sFor (iRg1 (aCons (frz (eL gMin2 (aCons (eC k_MOST) (aCons (frz (e2 gDiv (eFldS 0 "Joined" 3) (frz (e2 gIx (eVar 8) (eC (.int 1)))))) aNil)))) aNil)) (gNm 12) (sApp 9 (e2 gAdd (frz (e2 gAdd (eVar 11) (frz (e2 gIx (eVar 8) (eC (.int 0)))))) (frz (e2 gMul (eVar 12) (frz (e2 gIx (eVar 8) (eC (.int 1)))))))))))
  (sRet (eCut (eVar 9) (ret none) (pInt (eC k_MOST)))))))))))))
def F_Joined_place : Fn := fnD 3 13 m_Joined_place
def m__law_lists : SV :=
  (sRet (eLc [2] (iRg1 (aCons (eVar 1) aNil)) (gNm 2) (ret true) (eLc [3] (iRg1 (aCons (eVar 1) aNil)) (gNm 3) (ret true) (eMeth "Joined" F_Joined_place (eVar 0) (aCons (eVar 2) (aCons (eVar 3) aNil))))))
def F__law_lists : Fn := fnD 2 4 m__law_lists
def m__law_whole : SV :=
  (sRet (up (vAnd (frz (e1 (gIsi "int") (eVar 0))) (vNot (frz (e1 (gIsi "bool") (eVar 0)))))))
def F__law_whole : Fn := fnD 1 1 m__law_whole
def m_check_cell : SV :=
  (sSeq (sExpr (eCall F_check_size (aCons (eVar 0) aNil)))
  (sIf (tOr' (tNot' (asB (frz (e3c gLe gLt (eC (.int 0)) (eVar 1) (eVar 0))))) (tNot' (asB (frz (e3c gLe gLt (eC (.int 0)) (eVar 2) (eVar 0)))))) sNever sNext))
def F_check_cell : Fn := fnD 3 3 m_check_cell
def m_Rule_entry : SV :=
  (sRet (e2 gAdd (frz (e2 gAdd (frz (e2 gMul (eFldS 0 "Rule" 0) (eVar 1))) (frz (e2 gMul (eFldS 0 "Rule" 1) (eVar 2))))) (eFldS 0 "Rule" 2)))
def F_Rule_entry : Fn := fnD 3 3 m_Rule_entry
def m_Rule_sign : SV :=
  (sSeq (sExpr (eCall F_check_cell (aCons (eVar 1) (aCons (eVar 2) (aCons (eVar 3) aNil)))))
  (sRet (e2 gMod (frz (eMeth "Rule" F_Rule_entry (eVar 0) (aCons (eVar 2) (aCons (eVar 3) aNil)))) (eVar 1))))
def F_Rule_sign : Fn := fnD 4 4 m_Rule_sign
def m_Joined_sign : SV :=
  (sSeq (sIf (tOr' (tNot' (asB (frz (e3c gLe gLt (eC (.int 0)) (eVar 1) (frz (eMeth "Joined" F_Joined_size (eVar 0) aNil)))))) (tNot' (asB (frz (e3c gLe gLt (eC (.int 0)) (eVar 2) (frz (eMeth "Joined" F_Joined_size (eVar 0) aNil))))))) sNever sNext)
  (sSeq (sSet 3 (eMeth "Rule" F_Rule_sign (eFldS 0 "Joined" 0) (aCons (eFldS 0 "Joined" 1) (aCons (frz (e2 gDiv (eVar 1) (eFldS 0 "Joined" 3))) (aCons (frz (e2 gDiv (eVar 2) (eFldS 0 "Joined" 3))) aNil)))))
  (sRet (e2 gAdd (frz (e2 gMul (eFldS 0 "Joined" 3) (eVar 3))) (frz (eMeth "Rule" F_Rule_sign (eFldS 0 "Joined" 2) (aCons (eFldS 0 "Joined" 3) (aCons (frz (e2 gMod (eVar 1) (eFldS 0 "Joined" 3))) (aCons (frz (e2 gMod (eVar 2) (eFldS 0 "Joined" 3))) aNil)))))))))
def F_Joined_sign : Fn := fnD 3 4 m_Joined_sign
def m__law_rows : SV :=
  (sSeq (sFor (iRg1 (aCons (eVar 2) aNil)) (gNm 3) (sSeq (sSet 4 (eLst aNil))
  (sSeq (sFor (iRg1 (aCons (eVar 2) aNil)) (gNm 5) (sSeq (sIf (tOr' (tNot' (asB (frz (e1 (gIsi "list") (frz (e2 gIx (frz (e2 gIx (eVar 0) (eVar 3))) (eVar 5))))))) (asB (frz (e2 gNe (frz (eLc [8] (iSeq (frz (e2 gIx (frz (e2 gIx (eVar 0) (eVar 3))) (eVar 5)))) (gNm 8) (tNot' (asB (frz (eCall F__law_whole (aCons (eVar 8) aNil))))) (up (eVar 8)))) (frz (eLst aNil)))))) (sRet (up (eC (.bl false)))) sNext)
  (sSeq (sIf (asB (frz (e2 gNe (frz (e2 gIx (frz (e2 gIx (eVar 0) (eVar 3))) (eVar 5))) (frz (eL gSorted (aCons (frz (e2 gIx (frz (e2 gIx (eVar 0) (eVar 3))) (eVar 5))) aNil)))))) (sRet (up (eC (.bl false)))) sNext)
  (sSet 4 (e2 gCat (eVar 4) (frz (e2 gIx (frz (e2 gIx (eVar 0) (eVar 3))) (eVar 5))))))))
  (sSeq (sIf (asB (frz (e2 gNe (frz (eL gSorted (aCons (eVar 4) aNil))) (frz (eLstR 0 (eVar 2)))))) (sRet (up (eC (.bl false)))) sNext)
  (sFor (iRg1 (aCons (eVar 2) aNil)) (gNm 6) (sSeq (sSet 7 (eMeth "Joined" F_Joined_sign (eVar 1) (aCons (eVar 3) (aCons (eVar 6) aNil))))
  (sIf (tOr' (tNot' (asB (frz (eCall F__law_whole (aCons (eVar 7) aNil))))) (tOr' (asB (frz (e2 gLt (eVar 7) (eC (.int 0))))) (tOr' (asB (frz (e2 gGe (eVar 7) (eVar 2)))) (asB (frz (e2 gNin (eVar 6) (frz (e2 gIx (frz (e2 gIx (eVar 0) (eVar 3))) (eVar 7))))))))) (sRet (up (eC (.bl false)))) sNext)))))))
  (sRet (up (eC (.bl true)))))
def F__law_rows : Fn := fnD 3 9 m__law_rows
def m__law_true : SV :=
  (sRet (up (vAnd (frz (e1 (gIsi "bool") (eVar 0))) (frz (e2 gEq (eVar 0) (eVar 1))))))
def F__law_true : Fn := fnD 2 2 m__law_true
def m_Joined_rows_clear : SV :=
  (sRet (up (vAnd (frz (e2 gEq (frz (eCall F_gcd (aCons (frz (eMeth "Rule" F_Rule_b (eFldS 0 "Joined" 0) aNil)) (aCons (eFldS 0 "Joined" 1) aNil)))) (eC (.int 1)))) (frz (e2 gEq (frz (eCall F_gcd (aCons (frz (eMeth "Rule" F_Rule_b (eFldS 0 "Joined" 2) aNil)) (aCons (eFldS 0 "Joined" 3) aNil)))) (eC (.int 1)))))))
def F_Joined_rows_clear : Fn := fnD 1 1 m_Joined_rows_clear
def m_Joined_columns_clear : SV :=
  (sRet (up (vAnd (frz (e2 gEq (frz (eCall F_gcd (aCons (frz (eMeth "Rule" F_Rule_a (eFldS 0 "Joined" 0) aNil)) (aCons (eFldS 0 "Joined" 1) aNil)))) (eC (.int 1)))) (frz (e2 gEq (frz (eCall F_gcd (aCons (frz (eMeth "Rule" F_Rule_a (eFldS 0 "Joined" 2) aNil)) (aCons (eFldS 0 "Joined" 3) aNil)))) (eC (.int 1)))))))
def F_Joined_columns_clear : Fn := fnD 1 1 m_Joined_columns_clear
def m__law_clear : SV :=
  (sSeq (sSet 3 (eLc [5] (iRg1 (aCons (eVar 2) aNil)) (gNm 5) (asB (frz (e2 gNe (frz (eLc [7] (iRg1 (aCons (eVar 2) aNil)) (gNm 7) (asB (frz (e2 gNe (frz (eL gLen (aCons (frz (e2 gIx (frz (e2 gIx (eVar 0) (eVar 7))) (eVar 5))) aNil))) (eC (.int 1))))) (up (eVar 7)))) (frz (eLst aNil))))) (up (eVar 5))))
  (sSeq (sIf (tNot' (asB (frz (eCall F__law_true (aCons (frz (eMeth "Joined" F_Joined_rows_clear (eVar 1) aNil)) (aCons (frz (e2 gEq (eVar 3) (frz (eLst aNil)))) aNil)))))) (sRet (up (eC (.bl false)))) sNext)
  (sSeq (sSet 4 (eLst aNil))
  (sSeq (sFor (iRg1 (aCons (eVar 2) aNil)) (gNm 5) (sSeq (sSet 6 (eLst aNil))
  (sSeq (sFor (iRg1 (aCons (eVar 2) aNil)) (gNm 7) (sSet 6 (e2 gCat (eVar 6) (frz (e2 gIx (frz (e2 gIx (eVar 0) (eVar 7))) (eVar 5))))))
  (sIf (asB (frz (e2 gNe (frz (e1 gLenSet (eVar 6))) (frz (eL gLen (aCons (eVar 6) aNil)))))) (sApp 4 (up (eVar 5))) sNext))))
  (sRet (up (eBor (frz (eCall F__law_true (aCons (frz (eMeth "Joined" F_Joined_columns_clear (eVar 1) aNil)) (aCons (frz (e2 gEq (eVar 4) (frz (eLst aNil)))) aNil)))))))))))
def F__law_clear : Fn := fnD 3 8 m__law_clear
def m__law_pairs : SV :=
  (sSeq (sFor (iRg1 (aCons (eVar 2) aNil)) (gNm 3) (sFor (iRg1 (aCons (eVar 2) aNil)) (gNm 4) (sSeq (sSet 5 (up (eC (.int 0))))
  (sSeq (sFor (iRg1 (aCons (eVar 2) aNil)) (gNm 6) (sSet 5 (e2 gAdd (eVar 5) (frz (eL gLen (aCons (frz (eLc [7] (iSeq (frz (e2 gIx (frz (e2 gIx (eVar 0) (eVar 6))) (eVar 3)))) (gNm 7) (asB (frz (e2 gIn (eVar 7) (frz (e2 gIx (frz (e2 gIx (eVar 1) (eVar 6))) (eVar 4)))))) (up (eVar 7)))) aNil))))))
  (sIf (asB (frz (e2 gNe (eVar 5) (eC (.int 1))))) (sRet (up (eC (.bl false)))) sNext)))))
  (sRet (up (eC (.bl true)))))
def F__law_pairs : Fn := fnD 3 8 m__law_pairs
def m_cross : SV :=
  (sRet (e2 gSub (frz (e2 gMul (frz (eMeth "Rule" F_Rule_a (eVar 0) aNil)) (frz (eMeth "Rule" F_Rule_b (eVar 1) aNil)))) (frz (e2 gMul (frz (eMeth "Rule" F_Rule_a (eVar 1) aNil)) (frz (eMeth "Rule" F_Rule_b (eVar 0) aNil))))))
def F_cross : Fn := fnD 2 2 m_cross
def m_Joined_paired : SV :=
  (sSeq (sIf (tOr' (asB (frz (e2 gNe (eFldS 0 "Joined" 1) (eFldS 1 "Joined" 1)))) (asB (frz (e2 gNe (eFldS 0 "Joined" 3) (eFldS 1 "Joined" 3))))) sNever sNext)
  (sSeq (sIf (asB (frz (e2 gNe (frz (eCall F_gcd (aCons (frz (eCall F_cross (aCons (eFldS 0 "Joined" 0) (aCons (eFldS 1 "Joined" 0) aNil)))) (aCons (eFldS 0 "Joined" 1) aNil)))) (eC (.int 1))))) (sRet (up (eC (.bl false)))) sNext)
  (sRet (e2 gEq (frz (eCall F_gcd (aCons (frz (eCall F_cross (aCons (eFldS 0 "Joined" 2) (aCons (eFldS 1 "Joined" 2) aNil)))) (aCons (eFldS 0 "Joined" 3) aNil)))) (eC (.int 1))))))
def F_Joined_paired : Fn := fnD 2 2 m_Joined_paired
def m__law_asked : SV :=
  (sSeq (sSet 1 (e2 gAdd (eC (.int 1)) (frz (eCallR 0 F__law_take (aCons (eC (.int 10)) aNil)))))
  (sSeq (sSet 2 (e2 gAdd (eC (.int 1)) (frz (eCallR 0 F__law_take (aCons (frz (e2 gDiv (eC (.int 10)) (eVar 1))) aNil)))))
  (sSeq (sSet 3 (e2 gMul (eVar 1) (eVar 2)))
  (sSeq (sSet 4 (eMake "Joined" F_Joinedu_initu (aCons (frz (eCallR 0 F__law_rule aNil)) (aCons (eVar 1) (aCons (frz (eCallR 0 F__law_rule aNil)) (aCons (eVar 2) aNil))))))
  (sSeq (sSet 5 (eMake "Joined" F_Joinedu_initu (aCons (frz (eCallR 0 F__law_rule aNil)) (aCons (eVar 1) (aCons (frz (eCallR 0 F__law_rule aNil)) (aCons (eVar 2) aNil))))))
  (sSeq (sPar 6 7 (oCons (eCall F__law_lists (aCons (eVar 4) (aCons (eVar 3) aNil))) (oCons (eCall F__law_lists (aCons (eVar 5) (aCons (eVar 3) aNil))) oNil)))
  (sSeq (sSet 8 (eLc [10] (iSeq (eVar 6)) (gNm 10) (ret true) (eLc [11] (iSeq (eVar 10)) (gNm 11) (ret true) (eL gList (aCons (eVar 11) aNil)))))
  (sSeq (sIf (tOr' (tNot' (asB (frz (eCall F__law_rows (aCons (eVar 6) (aCons (eVar 4) (aCons (eVar 3) aNil))))))) (tNot' (asB (eBor (frz (eCall F__law_rows (aCons (eVar 7) (aCons (eVar 5) (aCons (eVar 3) aNil))))))))) (sRet (up (eC (.bl false)))) sNext)
  (sSeq (sIf (tOr' (tNot' (asB (frz (eCall F__law_clear (aCons (eVar 6) (aCons (eVar 4) (aCons (eVar 3) aNil))))))) (tNot' (asB (eBor (frz (eCall F__law_clear (aCons (eVar 7) (aCons (eVar 5) (aCons (eVar 3) aNil))))))))) (sRet (up (eC (.bl false)))) sNext)
  (sSeq (sSet 9 (up (eBor (frz (eCall F__law_pairs (aCons (eVar 6) (aCons (eVar 7) (aCons (eVar 3) aNil))))))))
  (sSeq (sIf (tOr' (tNot' (asB (frz (eCall F__law_true (aCons (frz (eMeth "Joined" F_Joined_paired (eVar 4) (aCons (eVar 5) aNil))) (aCons (eVar 9) aNil)))))) (tNot' (asB (frz (eCall F__law_true (aCons (frz (eMeth "Joined" F_Joined_paired (eVar 5) (aCons (eVar 4) aNil))) (aCons (eVar 9) aNil))))))) (sRet (up (eC (.bl false)))) sNext)
  (sSeq (sAppP 7 (.c 0 :: (.c 0 :: [])) (qNm 3))
  (sRet (up (vAnd (frz (e2 gEq (eVar 6) (eVar 8))) (vAnd (frz (e2 gEq (frz (eCall F__law_lists (aCons (eVar 4) (aCons (eVar 3) aNil)))) (eVar 8))) (eBor (frz (e2 gEq (frz (eMeth "Joined" F_Joined_place (eVar 5) (aCons (eC (.int 0)) (aCons (eC (.int 0)) aNil)))) (frz (eCut (frz (e2 gIx (frz (e2 gIx (eVar 7) (eC (.int 0)))) (eC (.int 0)))) (ret none) (pInt (frz (e1 gNeg (eC (.int 1))))))))))))))))))))))))))
def F__law_asked : Fn := fnD 1 12 m__law_asked
def m__law_pool : SV :=
  (sSeq (sSet 2 (eIf (asB (frz (e2 gLt (eVar 1) (frz (eL gLen (aCons (eVar 0) aNil)))))) (e2 gIx (eVar 0) (eVar 1)) (e2 gAdd (frz (e2 gMul (eC (.int 5)) (eVar 1))) (eC (.int 2)))))
  (sSeq (sIf (asB (frz (e2 gGe (eVar 2) (frz (e2 gPow (eC (.int 10)) (eC (.int 18))))))) (sRet (eLst (aCons (frz (e2 gSub (eVar 2) (frz (e2 gPow (eC (.int 10)) (eC (.int 18)))))) aNil))) sNext)
  (sSeq (sSet 3 (e2 gMod (frz (eL gInt (aCons (eVar 2) aNil))) (eC (.int 2305843009213693951))))
  (sSeq (sSet 4 (up (eC (.int 0))))
  (sSeq (sFor (iRg1 (aCons (eC (.int 24)) aNil)) (gNm 5) (sSeq (sSet 3 (e2 gMod (frz (eL gInt (aCons (frz (e2 gAdd (frz (e2 gAdd (frz (e2 gAdd (frz (e2 gMul (eVar 3) (frz (e2 gAdd (eVar 3) (eC (.int 48271)))))) (frz (e2 gMul (eC (.int 69621)) (eVar 5))))) (frz (e2 gMul (eC (.int 40692)) (eVar 1))))) (eC (.int 3)))) aNil))) (eC (.int 2147483629))))
  (sSet 4 (e2 gAdd (frz (e2 gMul (eVar 4) (eC (.int 2147483629)))) (eVar 3)))))
  (sRet (eLst (aCons (eVar 4) aNil))))))))
def F__law_pool : Fn := fnD 2 6 m__law_pool
def m_law : SV :=
  (sSeq (sFor (iRg1 (aCons (frz (eL gMax2 (aCons (eC (.int 1)) (aCons (frz (eL gMin2 (aCons (frz (eL gLen (aCons (eVar 0) aNil))) (aCons (eC (.int 3)) aNil)))) aNil)))) aNil)) (gNm 1) (sIf (tNot' (asB (frz (eCallO F__law_asked (eCall F__law_pool (aCons (eVar 0) (aCons (eVar 1) aNil))))))) (sRet (up (eC (.bl false)))) sNext))
  (sRet (up (eC (.bl true)))))
def F_law : Fn := fnD 1 2 m_law
def top (i : Nat) : Stmt := PySem.Challenge.pw_rulesquares_k88_whole_places_make_the_sq.main.body.getD i (.Pass ⟨0, 0, 0, 0⟩)
abbrev s__law_take : Stmt := top 23
abbrev s_check_size : Stmt := top 7
abbrev s_Joinedu_initu : Stmt := inClass (top 20) 0
abbrev s_Ruleu_initu : Stmt := inClass (top 15) 0
abbrev s__law_near : Stmt := top 24
abbrev s__law_rule : Stmt := top 27
abbrev s_check_row : Stmt := top 9
abbrev s_Joined_size : Stmt := inClass (top 20) 1
abbrev s_gcd : Stmt := top 11
abbrev s_inverse : Stmt := top 12
abbrev s_solve : Stmt := top 13
abbrev s_Rule_d : Stmt := inClass (top 15) 3
abbrev s_Rule_a : Stmt := inClass (top 15) 1
abbrev s_Rule_b : Stmt := inClass (top 15) 2
abbrev s_Joined_place : Stmt := inClass (top 20) 7
abbrev s__law_lists : Stmt := top 28
abbrev s__law_whole : Stmt := top 25
abbrev s_check_cell : Stmt := top 8
abbrev s_Rule_entry : Stmt := inClass (top 15) 8
abbrev s_Rule_sign : Stmt := inClass (top 15) 9
abbrev s_Joined_sign : Stmt := inClass (top 20) 3
abbrev s__law_rows : Stmt := top 29
abbrev s__law_true : Stmt := top 26
abbrev s_Joined_rows_clear : Stmt := inClass (top 20) 4
abbrev s_Joined_columns_clear : Stmt := inClass (top 20) 5
abbrev s__law_clear : Stmt := top 30
abbrev s__law_pairs : Stmt := top 31
abbrev s_cross : Stmt := top 17
abbrev s_Joined_paired : Stmt := inClass (top 20) 6
abbrev s__law_asked : Stmt := top 32
abbrev s__law_pool : Stmt := top 22
abbrev s_law : Stmt := top 33
/-- the attributes of each class, by place -/
def fl (c : Str) : List Str :=
  if c = "Joined" then ["outer", "blocks", "inner", "width"] else
  if c = "Rule" then ["by_row", "by_column", "start"] else []
theorem fl_Joined_0 : (fl "Joined")[0]? = some ("outer" : Str) := by decide +kernel
theorem fl_Joined_1 : (fl "Joined")[1]? = some ("blocks" : Str) := by decide +kernel
theorem fl_Joined_2 : (fl "Joined")[2]? = some ("inner" : Str) := by decide +kernel
theorem fl_Joined_3 : (fl "Joined")[3]? = some ("width" : Str) := by decide +kernel
theorem fl_Rule_0 : (fl "Rule")[0]? = some ("by_row" : Str) := by decide +kernel
theorem fl_Rule_1 : (fl "Rule")[1]? = some ("by_column" : Str) := by decide +kernel
theorem fl_Rule_2 : (fl "Rule")[2]? = some ("start" : Str) := by decide +kernel
theorem no_Joined_place : ("place" : Str) ∉ fl "Joined" := by decide +kernel
theorem no_Rule_entry : ("entry" : Str) ∉ fl "Rule" := by decide +kernel
theorem no_Rule_sign : ("sign" : Str) ∉ fl "Rule" := by decide +kernel
theorem no_Joined_sign : ("sign" : Str) ∉ fl "Joined" := by decide +kernel
theorem no_Joined_rows_clear : ("rows_clear" : Str) ∉ fl "Joined" := by decide +kernel
theorem no_Joined_columns_clear : ("columns_clear" : Str) ∉ fl "Joined" := by decide +kernel
theorem no_Joined_paired : ("paired" : Str) ∉ fl "Joined" := by decide +kernel
abbrev bs (P : Program) (w : World) (K : PySem.W.Frag) (cA : Str → Addr) (mg : Str → Option Value) (base : Heap) (k : Nat) : Bs := ⟨P, w, ⟨K, cA, fl⟩, mg, base, k⟩
structure Txt (P : Program) (w : World) (K : PySem.W.Frag) (cA : Str → Addr) (mg : Str → Option Value) (base : Heap) : Prop where
  n_abs : mg "abs" = none
  n_bool : mg "bool" = none
  n_divmod : mg "divmod" = none
  n_int : mg "int" = none
  n_isinstance : mg "isinstance" = none
  n_len : mg "len" = none
  n_list : mg "list" = none
  n_max : mg "max" = none
  n_min : mg "min" = none
  n_range : mg "range" = none
  n_set : mg "set" = none
  n_sorted : mg "sorted" = none
  cf_Joined : ∀ {k : Nat}, ClsF (bs P w K cA mg base k) "Joined"
  cf_Rule : ∀ {k : Nat}, ClsF (bs P w K cA mg base k) "Rule"
  c_MOST : ∀ {k : Nat} {N : Nm} {sc : Scope} {pos : Pos}, sc.names.lookup ("MOST" : Str) = some .globalImplicit → DD (bs P w K cA mg base k) N sc (.Name "MOST" pos) (eC k_MOST)
  f__law_take : ∃ f fd, Fun K "_law_take" "_law_take" s__law_take f fd ∧ Binds K fd ["pool", "many"] [] ∧ mg "_law_take" = some (.ref f)
  f_check_size : ∃ f fd, Fun K "check_size" "check_size" s_check_size f fd ∧ Binds K fd ["n"] [] ∧ mg "check_size" = some (.ref f)
  f_Joinedu_initu : ∃ f fd, Fun K "__init__" "Joined.__init__" s_Joinedu_initu f fd ∧ Binds K fd ["self", "outer", "m", "inner", "k"] [] ∧ Mk K (cA "Joined") f ∧ mg "Joined" = some (.ref (cA "Joined"))
  f_Ruleu_initu : ∃ f fd, Fun K "__init__" "Rule.__init__" s_Ruleu_initu f fd ∧ Binds K fd ["self", "a", "b", "d"] [] ∧ Mk K (cA "Rule") f ∧ mg "Rule" = some (.ref (cA "Rule"))
  f__law_near : ∃ f fd, Fun K "_law_near" "_law_near" s__law_near f fd ∧ Binds K fd ["pool", "most"] [] ∧ mg "_law_near" = some (.ref f)
  f__law_rule : ∃ f fd, Fun K "_law_rule" "_law_rule" s__law_rule f fd ∧ Binds K fd ["pool"] [] ∧ mg "_law_rule" = some (.ref f)
  f_check_row : ∃ f fd, Fun K "check_row" "check_row" s_check_row f fd ∧ Binds K fd ["n", "row"] [] ∧ mg "check_row" = some (.ref f)
  f_Joined_size : ∃ p f fd, Fun K "size" "Joined.size" s_Joined_size f fd ∧ Binds K fd ["self"] [] ∧ PropOf K (cA "Joined") "size" p f
  f_gcd : ∃ f fd, Fun K "gcd" "gcd" s_gcd f fd ∧ Binds K fd ["one", "other"] [] ∧ mg "gcd" = some (.ref f)
  f_inverse : ∃ f fd, Fun K "inverse" "inverse" s_inverse f fd ∧ Binds K fd ["a", "n"] [] ∧ mg "inverse" = some (.ref f)
  f_solve : ∃ f fd, Fun K "solve" "solve" s_solve f fd ∧ Binds K fd ["a", "v", "n"] [] ∧ mg "solve" = some (.ref f)
  f_Rule_d : ∃ p f fd, Fun K "d" "Rule.d" s_Rule_d f fd ∧ Binds K fd ["self"] [] ∧ PropOf K (cA "Rule") "d" p f
  f_Rule_a : ∃ p f fd, Fun K "a" "Rule.a" s_Rule_a f fd ∧ Binds K fd ["self"] [] ∧ PropOf K (cA "Rule") "a" p f
  f_Rule_b : ∃ p f fd, Fun K "b" "Rule.b" s_Rule_b f fd ∧ Binds K fd ["self"] [] ∧ PropOf K (cA "Rule") "b" p f
  f_Joined_place : ∃ f fd, Fun K "place" "Joined.place" s_Joined_place f fd ∧ Binds K fd ["self", "row", "sign"] [] ∧ Meth K (cA "Joined") "place" f
  f__law_lists : ∃ f fd, Fun K "_law_lists" "_law_lists" s__law_lists f fd ∧ Binds K fd ["square", "size"] [] ∧ mg "_law_lists" = some (.ref f)
  f__law_whole : ∃ f fd, Fun K "_law_whole" "_law_whole" s__law_whole f fd ∧ Binds K fd ["found"] [] ∧ mg "_law_whole" = some (.ref f)
  f_check_cell : ∃ f fd, Fun K "check_cell" "check_cell" s_check_cell f fd ∧ Binds K fd ["n", "row", "column"] [] ∧ mg "check_cell" = some (.ref f)
  f_Rule_entry : ∃ f fd, Fun K "entry" "Rule.entry" s_Rule_entry f fd ∧ Binds K fd ["self", "row", "column"] [] ∧ Meth K (cA "Rule") "entry" f
  f_Rule_sign : ∃ f fd, Fun K "sign" "Rule.sign" s_Rule_sign f fd ∧ Binds K fd ["self", "n", "row", "column"] [] ∧ Meth K (cA "Rule") "sign" f
  f_Joined_sign : ∃ f fd, Fun K "sign" "Joined.sign" s_Joined_sign f fd ∧ Binds K fd ["self", "row", "column"] [] ∧ Meth K (cA "Joined") "sign" f
  f__law_rows : ∃ f fd, Fun K "_law_rows" "_law_rows" s__law_rows f fd ∧ Binds K fd ["lists", "square", "size"] [] ∧ mg "_law_rows" = some (.ref f)
  f__law_true : ∃ f fd, Fun K "_law_true" "_law_true" s__law_true f fd ∧ Binds K fd ["found", "due"] [] ∧ mg "_law_true" = some (.ref f)
  f_Joined_rows_clear : ∃ f fd, Fun K "rows_clear" "Joined.rows_clear" s_Joined_rows_clear f fd ∧ Binds K fd ["self"] [] ∧ Meth K (cA "Joined") "rows_clear" f
  f_Joined_columns_clear : ∃ f fd, Fun K "columns_clear" "Joined.columns_clear" s_Joined_columns_clear f fd ∧ Binds K fd ["self"] [] ∧ Meth K (cA "Joined") "columns_clear" f
  f__law_clear : ∃ f fd, Fun K "_law_clear" "_law_clear" s__law_clear f fd ∧ Binds K fd ["lists", "square", "size"] [] ∧ mg "_law_clear" = some (.ref f)
  f__law_pairs : ∃ f fd, Fun K "_law_pairs" "_law_pairs" s__law_pairs f fd ∧ Binds K fd ["lists", "others", "size"] [] ∧ mg "_law_pairs" = some (.ref f)
  f_cross : ∃ f fd, Fun K "cross" "cross" s_cross f fd ∧ Binds K fd ["one", "other"] [] ∧ mg "cross" = some (.ref f)
  f_Joined_paired : ∃ f fd, Fun K "paired" "Joined.paired" s_Joined_paired f fd ∧ Binds K fd ["self", "other"] [] ∧ Meth K (cA "Joined") "paired" f
  f__law_asked : ∃ f fd, Fun K "_law_asked" "_law_asked" s__law_asked f fd ∧ Binds K fd ["pool"] [] ∧ mg "_law_asked" = some (.ref f)
  f__law_pool : ∃ f fd, Fun K "_law_pool" "_law_pool" s__law_pool f fd ∧ Binds K fd ["script", "k"] [] ∧ mg "_law_pool" = some (.ref f)
  f_law : ∃ f fd, Fun K "law" "law" s_law f fd ∧ Binds K fd ["script"] [] ∧ mg "law" = some (.ref f)
section
variable {P : Program} {w : World} {K : PySem.W.Frag} {cA : Str → Addr} {mg : Str → Option Value} {base : Heap}
theorem sc__law_take : FnScope ["pool", "many", "found"] ["pool", "many"] (defScope s__law_take) := ⟨rfl, rfl, rfl, by decide +kernel, rfl, by decide +kernel, by decide +kernel⟩
theorem d__law_take (T : Txt P w K cA mg base) : DSs (bs P w K cA mg base 0) ⟨["pool", "many", "found"], ["pool", "many", "found"]⟩ (defScope s__law_take) (defBody s__law_take) m__law_take :=
  (dss_cons (ds_set 2 (de_mod (dd_frz (de_int (dan_cons (dd_bor (dd_frz (de_ix (dd_var 0) dd_int (fun _ _ => rfl)))) dan_nil).1 T.n_int)) (dd_var 1)))
  (dss_cons (ds_setIx 0 (dd_frz (de_div (dd_frz (de_int (dan_cons (dd_bor (dd_frz (de_ix (dd_var 0) dd_int (fun _ _ => rfl)))) dan_nil).1 T.n_int)) (dd_var 1))) dd_int)
  (dss_one (ds_ret (de_mov 2)))))
theorem g__law_take (T : Txt P w K cA mg base) {k : Nat} (hk : 1 ≤ k) : GFn (bs P w K cA mg base k) "_law_take" 2 F__law_take := by
  obtain ⟨f, fd, F, b, g⟩ := T.f__law_take
  exact ⟨f, fd, _, _, hk, rfl, g, F.kp, b, fn_data F sc__law_take (d__law_take T)⟩
theorem sc_check_size : FnScope ["n"] ["n"] (defScope s_check_size) := ⟨rfl, rfl, rfl, by decide +kernel, rfl, by decide +kernel, by decide +kernel⟩
theorem d_check_size (T : Txt P w K cA mg base) : DSs (bs P w K cA mg base 0) ⟨["n"], ["n"]⟩ (defScope s_check_size) (defBody s_check_size) m_check_size :=
  (dss_one (ds_if (dt_lt (dd_var 0) dd_int) (dss_one ds_never) dss_nil))
theorem g_check_size (T : Txt P w K cA mg base) {k : Nat} (hk : 1 ≤ k) : GFn (bs P w K cA mg base k) "check_size" 1 F_check_size := by
  obtain ⟨f, fd, F, b, g⟩ := T.f_check_size
  exact ⟨f, fd, _, _, hk, rfl, g, F.kp, b, fn_data F sc_check_size (d_check_size T)⟩
theorem sc_Joinedu_initu : FnScope ["self", "outer", "m", "inner", "k"] ["self", "outer", "m", "inner", "k"] (defScope s_Joinedu_initu) := ⟨rfl, rfl, rfl, by decide +kernel, rfl, by decide +kernel, by decide +kernel⟩
theorem d_Joinedu_initu (T : Txt P w K cA mg base) : DSs (bs P w K cA mg base 1) ⟨["self", "outer", "m", "inner", "k"], ["self", "outer", "m", "inner", "k"]⟩ (defScope s_Joinedu_initu) (defBody s_Joinedu_initu) m_Joinedu_initu :=
  (dss_cons (ds_expr (de_call (g_check_size T (by decide)) (dan_cons (dd_var 2) dan_nil)))
  (dss_cons (ds_expr (de_call (g_check_size T (by decide)) (dan_cons (dd_var 4) dan_nil)))
  (dss_cons (ds_fldS 0 0 T.cf_Joined (dd_var 1) fl_Joined_0)
  (dss_cons (ds_fldS 0 1 T.cf_Joined (dd_var 2) fl_Joined_1)
  (dss_cons (ds_fldS 0 2 T.cf_Joined (dd_var 3) fl_Joined_2)
  (dss_one (ds_fldS 0 3 T.cf_Joined (dd_var 4) fl_Joined_3)))))))
theorem g_Joinedu_initu (T : Txt P w K cA mg base) {k : Nat} (hk : 3 ≤ k) : GMk (bs P w K cA mg base k) "Joined" 4 F_Joinedu_initu := by
  obtain ⟨f, fd, F, b, g, m⟩ := T.f_Joinedu_initu
  exact ⟨f, fd, _, _, hk, rfl, g, m, b, fn_data F sc_Joinedu_initu (d_Joinedu_initu T)⟩
theorem sc_Ruleu_initu : FnScope ["self", "a", "b", "d"] ["self", "a", "b", "d"] (defScope s_Ruleu_initu) := ⟨rfl, rfl, rfl, by decide +kernel, rfl, by decide +kernel, by decide +kernel⟩
theorem d_Ruleu_initu (T : Txt P w K cA mg base) : DSs (bs P w K cA mg base 0) ⟨["self", "a", "b", "d"], ["self", "a", "b", "d"]⟩ (defScope s_Ruleu_initu) (defBody s_Ruleu_initu) m_Ruleu_initu :=
  (dss_cons (ds_fldS 0 0 T.cf_Rule (dd_var 1) fl_Rule_0)
  (dss_cons (ds_fldS 0 1 T.cf_Rule (dd_var 2) fl_Rule_1)
  (dss_one (ds_fldS 0 2 T.cf_Rule (dd_var 3) fl_Rule_2))))
theorem g_Ruleu_initu (T : Txt P w K cA mg base) {k : Nat} (hk : 2 ≤ k) : GMk (bs P w K cA mg base k) "Rule" 3 F_Ruleu_initu := by
  obtain ⟨f, fd, F, b, g, m⟩ := T.f_Ruleu_initu
  exact ⟨f, fd, _, _, hk, rfl, g, m, b, fn_data F sc_Ruleu_initu (d_Ruleu_initu T)⟩
theorem sc__law_near : FnScope ["pool", "most"] ["pool", "most"] (defScope s__law_near) := ⟨rfl, rfl, rfl, by decide +kernel, rfl, by decide +kernel, by decide +kernel⟩
theorem d__law_near (T : Txt P w K cA mg base) : DSs (bs P w K cA mg base 1) ⟨["pool", "most"], ["pool", "most"]⟩ (defScope s__law_near) (defBody s__law_near) m__law_near :=
  (dss_one (ds_ret (de_sub (dd_frz (de_callR 0 (g__law_take T (by decide)) (dan_cons (dd_frz (de_add (dd_frz (de_mul dd_int (dd_var 1))) dd_int)) dan_nil))) (dd_var 1))))
theorem g__law_near (T : Txt P w K cA mg base) {k : Nat} (hk : 2 ≤ k) : GFn (bs P w K cA mg base k) "_law_near" 2 F__law_near := by
  obtain ⟨f, fd, F, b, g⟩ := T.f__law_near
  exact ⟨f, fd, _, _, hk, rfl, g, F.kp, b, fn_data F sc__law_near (d__law_near T)⟩
theorem sc__law_rule : FnScope ["pool", "most"] ["pool"] (defScope s__law_rule) := ⟨rfl, rfl, rfl, by decide +kernel, rfl, by decide +kernel, by decide +kernel⟩
theorem d__law_rule (T : Txt P w K cA mg base) : DSs (bs P w K cA mg base 2) ⟨["pool", "most"], ["pool", "most"]⟩ (defScope s__law_rule) (defBody s__law_rule) m__law_rule :=
  (dss_cons (ds_set 1 (de_ix (dd_frz (de_lstn (dan_cons dd_int (dan_cons dd_int (dan_cons (dd_frz (de_pow dd_int dd_int)) dan_nil))))) (dd_frz (de_callR 0 (g__law_take T (by decide)) (dan_cons dd_int dan_nil))) (fun _ _ => rfl)))
  (dss_one (ds_ret (de_make (g_Ruleu_initu T (by decide)) (dan_cons (dd_frz (de_callR 0 (g__law_near T (by decide)) (dan_cons (dd_var 1) dan_nil))) (dan_cons (dd_frz (de_callR 0 (g__law_near T (by decide)) (dan_cons (dd_var 1) dan_nil))) (dan_cons (dd_frz (de_callR 0 (g__law_near T (by decide)) (dan_cons dd_int dan_nil))) dan_nil)))))))
theorem g__law_rule (T : Txt P w K cA mg base) {k : Nat} (hk : 3 ≤ k) : GFn (bs P w K cA mg base k) "_law_rule" 1 F__law_rule := by
  obtain ⟨f, fd, F, b, g⟩ := T.f__law_rule
  exact ⟨f, fd, _, _, hk, rfl, g, F.kp, b, fn_data F sc__law_rule (d__law_rule T)⟩
theorem sc_check_row : FnScope ["n", "row"] ["n", "row"] (defScope s_check_row) := ⟨rfl, rfl, rfl, by decide +kernel, rfl, by decide +kernel, by decide +kernel⟩
theorem d_check_row (T : Txt P w K cA mg base) : DSs (bs P w K cA mg base 1) ⟨["n", "row"], ["n", "row"]⟩ (defScope s_check_row) (defBody s_check_row) m_check_row :=
  (dss_cons (ds_expr (de_call (g_check_size T (by decide)) (dan_cons (dd_var 0) dan_nil)))
  (dss_one (ds_if (dt_not (dt_lelt dd_int (dd_var 1) (dd_var 0))) (dss_one ds_never) dss_nil)))
theorem g_check_row (T : Txt P w K cA mg base) {k : Nat} (hk : 2 ≤ k) : GFn (bs P w K cA mg base k) "check_row" 2 F_check_row := by
  obtain ⟨f, fd, F, b, g⟩ := T.f_check_row
  exact ⟨f, fd, _, _, hk, rfl, g, F.kp, b, fn_data F sc_check_row (d_check_row T)⟩
theorem sc_Joined_size : FnScope ["self"] ["self"] (defScope s_Joined_size) := ⟨rfl, rfl, rfl, by decide +kernel, rfl, by decide +kernel, by decide +kernel⟩
theorem d_Joined_size (T : Txt P w K cA mg base) : DSs (bs P w K cA mg base 0) ⟨["self"], ["self"]⟩ (defScope s_Joined_size) (defBody s_Joined_size) m_Joined_size :=
  (dss_one (ds_ret (de_mul (dd_fldS 0 1 T.cf_Joined fl_Joined_1) (dd_fldS 0 3 T.cf_Joined fl_Joined_3))))
theorem g_Joined_size (T : Txt P w K cA mg base) {k : Nat} (hk : 2 ≤ k) : GPr (bs P w K cA mg base k) "Joined" "size" F_Joined_size := by
  obtain ⟨p, f, fd, F, b, g⟩ := T.f_Joined_size
  exact ⟨p, f, fd, _, _, hk, rfl, g, b, fn_data F sc_Joined_size (d_Joined_size T)⟩
theorem sc_gcd : FnScope ["one", "other", "large", "small"] ["one", "other"] (defScope s_gcd) := ⟨rfl, rfl, rfl, by decide +kernel, rfl, by decide +kernel, by decide +kernel⟩
theorem d_gcd (T : Txt P w K cA mg base) : DSs (bs P w K cA mg base 0) ⟨["one", "other", "large", "small"], ["one", "other", "large", "small"]⟩ (defScope s_gcd) (defBody s_gcd) m_gcd :=
  (dss_cons (ds_set 2 (de_abs (dan_cons (dd_var 0) dan_nil).1 T.n_abs))
  (dss_cons (ds_set 3 (de_abs (dan_cons (dd_var 1) dan_nil).1 T.n_abs))
  (dss_cons (ds_while (2 ^ 64) (dt_gt (dd_var 3) dd_int) (dss_one (ds_par 2 3 (do_cons (de_up (dd_var 3)) (do_cons (de_mod (dd_var 2) (dd_var 3)) do_nil)))))
  (dss_one (ds_ret (de_mov 2))))))
theorem g_gcd (T : Txt P w K cA mg base) {k : Nat} (hk : 1 ≤ k) : GFn (bs P w K cA mg base k) "gcd" 2 F_gcd := by
  obtain ⟨f, fd, F, b, g⟩ := T.f_gcd
  exact ⟨f, fd, _, _, hk, rfl, g, F.kp, b, fn_data F sc_gcd (d_gcd T)⟩
theorem sc_inverse : FnScope ["a", "n", "large", "small", "before", "now", "times"] ["a", "n"] (defScope s_inverse) := ⟨rfl, rfl, rfl, by decide +kernel, rfl, by decide +kernel, by decide +kernel⟩
theorem d_inverse (T : Txt P w K cA mg base) : DSs (bs P w K cA mg base 0) ⟨["a", "n", "large", "small", "before", "now", "times"], ["a", "n", "large", "small", "before", "now", "times"]⟩ (defScope s_inverse) (defBody s_inverse) m_inverse :=
  (dss_cons (ds_par 2 3 (do_cons (de_up (dd_var 1)) (do_cons (de_mod (dd_var 0) (dd_var 1)) do_nil)))
  (dss_cons (ds_tgc (dd_tupn (dan_cons dd_int (dan_cons dd_int dan_nil))) (dg_tup 2 (dgs_cons (dg_name 4) (dgs_cons (dg_name 5) dgs_nil)) (gl_cons (gl_cons gl_nil))))
  (dss_cons (ds_while (2 ^ 64) (dt_gt (dd_var 3) dd_int) (dss_cons (ds_set 6 (de_div (dd_var 2) (dd_var 3)))
  (dss_cons (ds_par 2 3 (do_cons (de_up (dd_var 3)) (do_cons (de_sub (dd_var 2) (dd_frz (de_mul (dd_var 6) (dd_var 3)))) do_nil)))
  (dss_one (ds_par 4 5 (do_cons (de_up (dd_var 5)) (do_cons (de_sub (dd_var 4) (dd_frz (de_mul (dd_var 6) (dd_var 5)))) do_nil)))))))
  (dss_one (ds_ret (de_mod (dd_var 4) (dd_var 1)))))))
theorem g_inverse (T : Txt P w K cA mg base) {k : Nat} (hk : 1 ≤ k) : GFn (bs P w K cA mg base k) "inverse" 2 F_inverse := by
  obtain ⟨f, fd, F, b, g⟩ := T.f_inverse
  exact ⟨f, fd, _, _, hk, rfl, g, F.kp, b, fn_data F sc_inverse (d_inverse T)⟩
theorem sc_solve : FnScope ["a", "v", "n", "common", "apart"] ["a", "v", "n"] (defScope s_solve) := ⟨rfl, rfl, rfl, by decide +kernel, rfl, by decide +kernel, by decide +kernel⟩
theorem d_solve (T : Txt P w K cA mg base) : DSs (bs P w K cA mg base 1) ⟨["a", "v", "n", "common", "apart"], ["a", "v", "n", "common", "apart"]⟩ (defScope s_solve) (defBody s_solve) m_solve :=
  (dss_cons (ds_set 3 (de_call (g_gcd T (by decide)) (dan_cons (dd_var 0) (dan_cons (dd_var 2) dan_nil))))
  (dss_cons (ds_if (dt_ne (dd_frz (de_mod (dd_var 1) (dd_var 3))) dd_int) (dss_one (ds_ret (de_up dd_non))) dss_nil)
  (dss_cons (ds_set 4 (de_div (dd_var 2) (dd_var 3)))
  (dss_one (ds_ret (de_up (dd_tupn (dan_cons (dd_frz (de_mod (dd_frz (de_mul (dd_frz (de_div (dd_var 1) (dd_var 3))) (dd_frz (de_call (g_inverse T (by decide)) (dan_cons (dd_frz (de_div (dd_var 0) (dd_var 3))) (dan_cons (dd_var 4) dan_nil)))))) (dd_var 4))) (dan_cons (dd_var 4) dan_nil)))))))))
theorem g_solve (T : Txt P w K cA mg base) {k : Nat} (hk : 2 ≤ k) : GFn (bs P w K cA mg base k) "solve" 3 F_solve := by
  obtain ⟨f, fd, F, b, g⟩ := T.f_solve
  exact ⟨f, fd, _, _, hk, rfl, g, F.kp, b, fn_data F sc_solve (d_solve T)⟩
theorem sc_Rule_d : FnScope ["self"] ["self"] (defScope s_Rule_d) := ⟨rfl, rfl, rfl, by decide +kernel, rfl, by decide +kernel, by decide +kernel⟩
theorem d_Rule_d (T : Txt P w K cA mg base) : DSs (bs P w K cA mg base 0) ⟨["self"], ["self"]⟩ (defScope s_Rule_d) (defBody s_Rule_d) m_Rule_d :=
  (dss_one (ds_ret (de_up (dd_fldS 0 2 T.cf_Rule fl_Rule_2))))
theorem g_Rule_d (T : Txt P w K cA mg base) {k : Nat} (hk : 2 ≤ k) : GPr (bs P w K cA mg base k) "Rule" "d" F_Rule_d := by
  obtain ⟨p, f, fd, F, b, g⟩ := T.f_Rule_d
  exact ⟨p, f, fd, _, _, hk, rfl, g, b, fn_data F sc_Rule_d (d_Rule_d T)⟩
theorem sc_Rule_a : FnScope ["self"] ["self"] (defScope s_Rule_a) := ⟨rfl, rfl, rfl, by decide +kernel, rfl, by decide +kernel, by decide +kernel⟩
theorem d_Rule_a (T : Txt P w K cA mg base) : DSs (bs P w K cA mg base 0) ⟨["self"], ["self"]⟩ (defScope s_Rule_a) (defBody s_Rule_a) m_Rule_a :=
  (dss_one (ds_ret (de_up (dd_fldS 0 0 T.cf_Rule fl_Rule_0))))
theorem g_Rule_a (T : Txt P w K cA mg base) {k : Nat} (hk : 2 ≤ k) : GPr (bs P w K cA mg base k) "Rule" "a" F_Rule_a := by
  obtain ⟨p, f, fd, F, b, g⟩ := T.f_Rule_a
  exact ⟨p, f, fd, _, _, hk, rfl, g, b, fn_data F sc_Rule_a (d_Rule_a T)⟩
theorem sc_Rule_b : FnScope ["self"] ["self"] (defScope s_Rule_b) := ⟨rfl, rfl, rfl, by decide +kernel, rfl, by decide +kernel, by decide +kernel⟩
theorem d_Rule_b (T : Txt P w K cA mg base) : DSs (bs P w K cA mg base 0) ⟨["self"], ["self"]⟩ (defScope s_Rule_b) (defBody s_Rule_b) m_Rule_b :=
  (dss_one (ds_ret (de_up (dd_fldS 0 1 T.cf_Rule fl_Rule_1))))
theorem g_Rule_b (T : Txt P w K cA mg base) {k : Nat} (hk : 2 ≤ k) : GPr (bs P w K cA mg base k) "Rule" "b" F_Rule_b := by
  obtain ⟨p, f, fd, F, b, g⟩ := T.f_Rule_b
  exact ⟨p, f, fd, _, _, hk, rfl, g, b, fn_data F sc_Rule_b (d_Rule_b T)⟩
theorem sc_Joined_place : FnScope ["self", "row", "sign", "high", "low", "outer", "inner", "blocks", "columns", "found", "block", "left", "number"] ["self", "row", "sign"] (defScope s_Joined_place) := ⟨rfl, rfl, rfl, by decide +kernel, rfl, by decide +kernel, by decide +kernel⟩
theorem d_Joined_place (T : Txt P w K cA mg base) : DSs (bs P w K cA mg base 2) ⟨["self", "row", "sign", "high", "low", "outer", "inner", "blocks", "columns", "found", "block", "left", "number"], ["self", "row", "sign", "high", "low", "outer", "inner", "blocks", "columns", "found", "block", "left", "number"]⟩ (defScope s_Joined_place) (defBody s_Joined_place) m_Joined_place :=
  (dss_cons (ds_expr (de_call (g_check_row T (by decide)) (dan_cons (dd_frz (de_prop T.cf_Joined (g_Joined_size T (by decide)) (dd_var 0))) (dan_cons (dd_var 1) dan_nil))))
  (dss_cons (ds_if (dt_not (dt_lelt dd_int (dd_var 2) (dd_frz (de_prop T.cf_Joined (g_Joined_size T (by decide)) (dd_var 0))))) (dss_one (ds_ret (de_lstn dan_nil))) dss_nil)
  (dss_cons (ds_tg (dd_frz (de_divmod (dan_cons (dd_var 2) (dan_cons (dd_fldS 0 3 T.cf_Joined fl_Joined_3) dan_nil)).1 T.n_divmod)) (dg_tup 2 (dgs_cons (dg_name 3) (dgs_cons (dg_name 4) dgs_nil)) (gl_cons (gl_cons gl_nil))))
  (dss_cons (ds_par 5 6 (do_cons (de_up (dd_fldS 0 0 T.cf_Joined fl_Joined_0)) (do_cons (de_up (dd_fldS 0 2 T.cf_Joined fl_Joined_2)) do_nil)))
  (dss_cons (ds_set 7 (de_call (g_solve T (by decide)) (dan_cons (dd_frz (de_prop T.cf_Rule (g_Rule_b T (by decide)) (dd_var 5))) (dan_cons (dd_frz (de_sub (dd_frz (de_sub (dd_var 3) (dd_frz (de_prop T.cf_Rule (g_Rule_d T (by decide)) (dd_var 5))))) (dd_frz (de_mul (dd_frz (de_prop T.cf_Rule (g_Rule_a T (by decide)) (dd_var 5))) (dd_frz (de_div (dd_var 1) (dd_fldS 0 3 T.cf_Joined fl_Joined_3))))))) (dan_cons (dd_fldS 0 1 T.cf_Joined fl_Joined_1) dan_nil)))))
  (dss_cons (ds_set 8 (de_call (g_solve T (by decide)) (dan_cons (dd_frz (de_prop T.cf_Rule (g_Rule_b T (by decide)) (dd_var 6))) (dan_cons (dd_frz (de_sub (dd_frz (de_sub (dd_var 4) (dd_frz (de_prop T.cf_Rule (g_Rule_d T (by decide)) (dd_var 6))))) (dd_frz (de_mul (dd_frz (de_prop T.cf_Rule (g_Rule_a T (by decide)) (dd_var 6))) (dd_frz (de_mod (dd_var 1) (dd_fldS 0 3 T.cf_Joined fl_Joined_3))))))) (dan_cons (dd_fldS 0 3 T.cf_Joined fl_Joined_3) dan_nil)))))
  (dss_cons (ds_if (DW.dt (dw_or (dt_isN (dd_var 7) dd_non) (dw_or1 (dt_isN (dd_var 8) dd_non)))) (dss_one (ds_ret (de_lstn dan_nil))) dss_nil)
  (dss_cons (ds_set 9 (de_lstn dan_nil))
  (dss_cons (ds_for (di_range1 (dan_cons (dd_frz (de_min2 (dan_cons (T.c_MOST rfl) (dan_cons (dd_frz (de_div (dd_fldS 0 1 T.cf_Joined fl_Joined_1) (dd_frz (de_ix (dd_var 7) dd_int (fun _ _ => rfl))))) dan_nil)).1 T.n_min)) dan_nil).1 T.n_range) (dg_name 10) (dss_cons (ds_set 11 (de_mul (dd_fldS 0 3 T.cf_Joined fl_Joined_3) (dd_frz (de_add (dd_frz (de_ix (dd_var 7) dd_int (fun _ _ => rfl))) (dd_frz (de_mul (dd_var 10) (dd_frz (de_ix (dd_var 7) dd_int (fun _ _ => rfl)))))))))
  (dss_one (ds_for (di_range1 (dan_cons (dd_frz (de_min2 (dan_cons (T.c_MOST rfl) (dan_cons (dd_frz (de_div (dd_fldS 0 3 T.cf_Joined fl_Joined_3) (dd_frz (de_ix (dd_var 8) dd_int (fun _ _ => rfl))))) dan_nil)).1 T.n_min)) dan_nil).1 T.n_range) (dg_name 12) (dss_one (ds_append 9 (de_add (dd_frz (de_add (dd_var 11) (dd_frz (de_ix (dd_var 8) dd_int (fun _ _ => rfl))))) (dd_frz (de_mul (dd_var 12) (dd_frz (de_ix (dd_var 8) dd_int (fun _ _ => rfl))))))))))))
  (dss_one (ds_ret (de_cut (dd_var 9) dp_none (dp_some (T.c_MOST rfl))))))))))))))
theorem g_Joined_place (T : Txt P w K cA mg base) {k : Nat} (hk : 3 ≤ k) : GMe (bs P w K cA mg base k) "Joined" "place" 3 F_Joined_place := by
  obtain ⟨f, fd, F, b, g⟩ := T.f_Joined_place
  exact ⟨⟨f, fd, _, _, hk, rfl, g, b, fn_data F sc_Joined_place (d_Joined_place T)⟩, no_Joined_place⟩
theorem sc__law_lists : FnScope ["square", "size", "r", "s"] ["square", "size"] (defScope s__law_lists) := ⟨rfl, rfl, rfl, by decide +kernel, rfl, by decide +kernel, by decide +kernel⟩
theorem d__law_lists (T : Txt P w K cA mg base) : DSs (bs P w K cA mg base 3) ⟨["square", "size", "r", "s"], ["square", "size", "r", "s"]⟩ (defScope s__law_lists) (defBody s__law_lists) m__law_lists :=
  (dss_one (ds_ret (de_lc [("r", 2)] (di_range1 (dan_cons (dd_var 1) dan_nil).1 T.n_range) (by decide +kernel) (dg_name 2) dts_nil (de_lc [("s", 3)] (di_range1 (dan_cons (dd_var 1) dan_nil).1 T.n_range) (by decide +kernel) (dg_name 3) dts_nil (de_meth T.cf_Joined (g_Joined_place T (by decide)) (dd_var 0) (dan_cons (dd_var 2) (dan_cons (dd_var 3) dan_nil)))))))
theorem g__law_lists (T : Txt P w K cA mg base) {k : Nat} (hk : 4 ≤ k) : GFn (bs P w K cA mg base k) "_law_lists" 2 F__law_lists := by
  obtain ⟨f, fd, F, b, g⟩ := T.f__law_lists
  exact ⟨f, fd, _, _, hk, rfl, g, F.kp, b, fn_data F sc__law_lists (d__law_lists T)⟩
theorem sc__law_whole : FnScope ["found"] ["found"] (defScope s__law_whole) := ⟨rfl, rfl, rfl, by decide +kernel, rfl, by decide +kernel, by decide +kernel⟩
theorem d__law_whole (T : Txt P w K cA mg base) : DSs (bs P w K cA mg base 0) ⟨["found"], ["found"]⟩ (defScope s__law_whole) (defBody s__law_whole) m__law_whole :=
  (dss_one (ds_ret (de_up (dd_and (dd_frz (de_isi (x := "int") (T := "int") (dd_var 0) T.n_isinstance T.n_int (by decide +kernel))) (dd_one (dd_not (dd_frz (de_isi (x := "bool") (T := "bool") (dd_var 0) T.n_isinstance T.n_bool (by decide +kernel)))))))))
theorem g__law_whole (T : Txt P w K cA mg base) {k : Nat} (hk : 1 ≤ k) : GFn (bs P w K cA mg base k) "_law_whole" 1 F__law_whole := by
  obtain ⟨f, fd, F, b, g⟩ := T.f__law_whole
  exact ⟨f, fd, _, _, hk, rfl, g, F.kp, b, fn_data F sc__law_whole (d__law_whole T)⟩
theorem sc_check_cell : FnScope ["n", "row", "column"] ["n", "row", "column"] (defScope s_check_cell) := ⟨rfl, rfl, rfl, by decide +kernel, rfl, by decide +kernel, by decide +kernel⟩
theorem d_check_cell (T : Txt P w K cA mg base) : DSs (bs P w K cA mg base 1) ⟨["n", "row", "column"], ["n", "row", "column"]⟩ (defScope s_check_cell) (defBody s_check_cell) m_check_cell :=
  (dss_cons (ds_expr (de_call (g_check_size T (by decide)) (dan_cons (dd_var 0) dan_nil)))
  (dss_one (ds_if (DW.dt (dw_or (dt_not (dt_lelt dd_int (dd_var 1) (dd_var 0))) (dw_or1 (dt_not (dt_lelt dd_int (dd_var 2) (dd_var 0)))))) (dss_one ds_never) dss_nil)))
theorem g_check_cell (T : Txt P w K cA mg base) {k : Nat} (hk : 2 ≤ k) : GFn (bs P w K cA mg base k) "check_cell" 3 F_check_cell := by
  obtain ⟨f, fd, F, b, g⟩ := T.f_check_cell
  exact ⟨f, fd, _, _, hk, rfl, g, F.kp, b, fn_data F sc_check_cell (d_check_cell T)⟩
theorem sc_Rule_entry : FnScope ["self", "row", "column"] ["self", "row", "column"] (defScope s_Rule_entry) := ⟨rfl, rfl, rfl, by decide +kernel, rfl, by decide +kernel, by decide +kernel⟩
theorem d_Rule_entry (T : Txt P w K cA mg base) : DSs (bs P w K cA mg base 0) ⟨["self", "row", "column"], ["self", "row", "column"]⟩ (defScope s_Rule_entry) (defBody s_Rule_entry) m_Rule_entry :=
  (dss_one (ds_ret (de_add (dd_frz (de_add (dd_frz (de_mul (dd_fldS 0 0 T.cf_Rule fl_Rule_0) (dd_var 1))) (dd_frz (de_mul (dd_fldS 0 1 T.cf_Rule fl_Rule_1) (dd_var 2))))) (dd_fldS 0 2 T.cf_Rule fl_Rule_2))))
theorem g_Rule_entry (T : Txt P w K cA mg base) {k : Nat} (hk : 1 ≤ k) : GMe (bs P w K cA mg base k) "Rule" "entry" 3 F_Rule_entry := by
  obtain ⟨f, fd, F, b, g⟩ := T.f_Rule_entry
  exact ⟨⟨f, fd, _, _, hk, rfl, g, b, fn_data F sc_Rule_entry (d_Rule_entry T)⟩, no_Rule_entry⟩
theorem sc_Rule_sign : FnScope ["self", "n", "row", "column"] ["self", "n", "row", "column"] (defScope s_Rule_sign) := ⟨rfl, rfl, rfl, by decide +kernel, rfl, by decide +kernel, by decide +kernel⟩
theorem d_Rule_sign (T : Txt P w K cA mg base) : DSs (bs P w K cA mg base 2) ⟨["self", "n", "row", "column"], ["self", "n", "row", "column"]⟩ (defScope s_Rule_sign) (defBody s_Rule_sign) m_Rule_sign :=
  (dss_cons (ds_expr (de_call (g_check_cell T (by decide)) (dan_cons (dd_var 1) (dan_cons (dd_var 2) (dan_cons (dd_var 3) dan_nil)))))
  (dss_one (ds_ret (de_mod (dd_frz (de_meth T.cf_Rule (g_Rule_entry T (by decide)) (dd_var 0) (dan_cons (dd_var 2) (dan_cons (dd_var 3) dan_nil)))) (dd_var 1)))))
theorem g_Rule_sign (T : Txt P w K cA mg base) {k : Nat} (hk : 3 ≤ k) : GMe (bs P w K cA mg base k) "Rule" "sign" 4 F_Rule_sign := by
  obtain ⟨f, fd, F, b, g⟩ := T.f_Rule_sign
  exact ⟨⟨f, fd, _, _, hk, rfl, g, b, fn_data F sc_Rule_sign (d_Rule_sign T)⟩, no_Rule_sign⟩
theorem sc_Joined_sign : FnScope ["self", "row", "column", "high"] ["self", "row", "column"] (defScope s_Joined_sign) := ⟨rfl, rfl, rfl, by decide +kernel, rfl, by decide +kernel, by decide +kernel⟩
theorem d_Joined_sign (T : Txt P w K cA mg base) : DSs (bs P w K cA mg base 3) ⟨["self", "row", "column", "high"], ["self", "row", "column", "high"]⟩ (defScope s_Joined_sign) (defBody s_Joined_sign) m_Joined_sign :=
  (dss_cons (ds_if (DW.dt (dw_or (dt_not (dt_lelt dd_int (dd_var 1) (dd_frz (de_prop T.cf_Joined (g_Joined_size T (by decide)) (dd_var 0))))) (dw_or1 (dt_not (dt_lelt dd_int (dd_var 2) (dd_frz (de_prop T.cf_Joined (g_Joined_size T (by decide)) (dd_var 0)))))))) (dss_one ds_never) dss_nil)
  (dss_cons (ds_set 3 (de_meth T.cf_Rule (g_Rule_sign T (by decide)) (dd_fldS 0 0 T.cf_Joined fl_Joined_0) (dan_cons (dd_fldS 0 1 T.cf_Joined fl_Joined_1) (dan_cons (dd_frz (de_div (dd_var 1) (dd_fldS 0 3 T.cf_Joined fl_Joined_3))) (dan_cons (dd_frz (de_div (dd_var 2) (dd_fldS 0 3 T.cf_Joined fl_Joined_3))) dan_nil)))))
  (dss_one (ds_ret (de_add (dd_frz (de_mul (dd_fldS 0 3 T.cf_Joined fl_Joined_3) (dd_var 3))) (dd_frz (de_meth T.cf_Rule (g_Rule_sign T (by decide)) (dd_fldS 0 2 T.cf_Joined fl_Joined_2) (dan_cons (dd_fldS 0 3 T.cf_Joined fl_Joined_3) (dan_cons (dd_frz (de_mod (dd_var 1) (dd_fldS 0 3 T.cf_Joined fl_Joined_3))) (dan_cons (dd_frz (de_mod (dd_var 2) (dd_fldS 0 3 T.cf_Joined fl_Joined_3))) dan_nil))))))))))
theorem g_Joined_sign (T : Txt P w K cA mg base) {k : Nat} (hk : 4 ≤ k) : GMe (bs P w K cA mg base k) "Joined" "sign" 3 F_Joined_sign := by
  obtain ⟨f, fd, F, b, g⟩ := T.f_Joined_sign
  exact ⟨⟨f, fd, _, _, hk, rfl, g, b, fn_data F sc_Joined_sign (d_Joined_sign T)⟩, no_Joined_sign⟩
theorem sc__law_rows : FnScope ["lists", "square", "size", "r", "held", "s", "c", "found", "part"] ["lists", "square", "size"] (defScope s__law_rows) := ⟨rfl, rfl, rfl, by decide +kernel, rfl, by decide +kernel, by decide +kernel⟩
theorem d__law_rows (T : Txt P w K cA mg base) : DSs (bs P w K cA mg base 4) ⟨["lists", "square", "size", "r", "held", "s", "c", "found", "part"], ["lists", "square", "size", "r", "held", "s", "c", "found", "part"]⟩ (defScope s__law_rows) (defBody s__law_rows) m__law_rows :=
  (dss_cons (ds_for (di_range1 (dan_cons (dd_var 2) dan_nil).1 T.n_range) (dg_name 3) (dss_cons (ds_set 4 (de_lstn dan_nil))
  (dss_cons (ds_for (di_range1 (dan_cons (dd_var 2) dan_nil).1 T.n_range) (dg_name 5) (dss_cons (ds_if (DW.dt (dw_or (dt_not (dt_val (dd_frz (de_isi (x := "list") (T := "list") (dd_frz (de_ix (dd_frz (de_ix (dd_var 0) (dd_var 3) (fun _ _ => rfl))) (dd_var 5) (fun _ _ => rfl))) T.n_isinstance T.n_list (by decide +kernel))))) (dw_or1 (dt_ne (dd_frz (de_lc [("part", 8)] (di_seq (dd_frz (de_ix (dd_frz (de_ix (dd_var 0) (dd_var 3) (fun _ _ => rfl))) (dd_var 5) (fun _ _ => rfl)))) (by decide +kernel) (dg_name 8) (dts_one (dt_not (dt_val (dd_frz (de_call (g__law_whole T (by decide)) (dan_cons (dd_var 8) dan_nil)))))) (de_up (dd_var 8)))) (dd_frz (de_lstn dan_nil)))))) (dss_one (ds_ret (de_up dd_bl))) dss_nil)
  (dss_cons (ds_if (dt_ne (dd_frz (de_ix (dd_frz (de_ix (dd_var 0) (dd_var 3) (fun _ _ => rfl))) (dd_var 5) (fun _ _ => rfl))) (dd_frz (de_sorted (dan_cons (dd_frz (de_ix (dd_frz (de_ix (dd_var 0) (dd_var 3) (fun _ _ => rfl))) (dd_var 5) (fun _ _ => rfl))) dan_nil).1 T.n_sorted))) (dss_one (ds_ret (de_up dd_bl))) dss_nil)
  (dss_one (ds_set 4 (de_cat (dd_var 4) (dd_frz (de_ix (dd_frz (de_ix (dd_var 0) (dd_var 3) (fun _ _ => rfl))) (dd_var 5) (fun _ _ => rfl)))))))))
  (dss_cons (ds_if (dt_ne (dd_frz (de_sorted (dan_cons (dd_var 4) dan_nil).1 T.n_sorted)) (dd_frz (de_listRg1 (dd_var 2) T.n_list T.n_range))) (dss_one (ds_ret (de_up dd_bl))) dss_nil)
  (dss_one (ds_for (di_range1 (dan_cons (dd_var 2) dan_nil).1 T.n_range) (dg_name 6) (dss_cons (ds_set 7 (de_meth T.cf_Joined (g_Joined_sign T (by decide)) (dd_var 1) (dan_cons (dd_var 3) (dan_cons (dd_var 6) dan_nil))))
  (dss_one (ds_if (DW.dt (dw_or (dt_not (dt_val (dd_frz (de_call (g__law_whole T (by decide)) (dan_cons (dd_var 7) dan_nil))))) (dw_or (dt_lt (dd_var 7) dd_int) (dw_or (dt_ge (dd_var 7) (dd_var 2)) (dw_or1 (dt_nin (dd_var 6) (dd_frz (de_ix (dd_frz (de_ix (dd_var 0) (dd_var 3) (fun _ _ => rfl))) (dd_var 7) (fun _ _ => rfl))))))))) (dss_one (ds_ret (de_up dd_bl))) dss_nil)))))))))
  (dss_one (ds_ret (de_up dd_bl))))
theorem g__law_rows (T : Txt P w K cA mg base) {k : Nat} (hk : 5 ≤ k) : GFn (bs P w K cA mg base k) "_law_rows" 3 F__law_rows := by
  obtain ⟨f, fd, F, b, g⟩ := T.f__law_rows
  exact ⟨f, fd, _, _, hk, rfl, g, F.kp, b, fn_data F sc__law_rows (d__law_rows T)⟩
theorem sc__law_true : FnScope ["found", "due"] ["found", "due"] (defScope s__law_true) := ⟨rfl, rfl, rfl, by decide +kernel, rfl, by decide +kernel, by decide +kernel⟩
theorem d__law_true (T : Txt P w K cA mg base) : DSs (bs P w K cA mg base 0) ⟨["found", "due"], ["found", "due"]⟩ (defScope s__law_true) (defBody s__law_true) m__law_true :=
  (dss_one (ds_ret (de_up (dd_and (dd_frz (de_isi (x := "bool") (T := "bool") (dd_var 0) T.n_isinstance T.n_bool (by decide +kernel))) (dd_one (dd_frz (de_eq (dd_var 0) (dd_var 1))))))))
theorem g__law_true (T : Txt P w K cA mg base) {k : Nat} (hk : 1 ≤ k) : GFn (bs P w K cA mg base k) "_law_true" 2 F__law_true := by
  obtain ⟨f, fd, F, b, g⟩ := T.f__law_true
  exact ⟨f, fd, _, _, hk, rfl, g, F.kp, b, fn_data F sc__law_true (d__law_true T)⟩
theorem sc_Joined_rows_clear : FnScope ["self"] ["self"] (defScope s_Joined_rows_clear) := ⟨rfl, rfl, rfl, by decide +kernel, rfl, by decide +kernel, by decide +kernel⟩
theorem d_Joined_rows_clear (T : Txt P w K cA mg base) : DSs (bs P w K cA mg base 2) ⟨["self"], ["self"]⟩ (defScope s_Joined_rows_clear) (defBody s_Joined_rows_clear) m_Joined_rows_clear :=
  (dss_one (ds_ret (de_up (dd_and (dd_frz (de_eq (dd_frz (de_call (g_gcd T (by decide)) (dan_cons (dd_frz (de_prop T.cf_Rule (g_Rule_b T (by decide)) (dd_fldS 0 0 T.cf_Joined fl_Joined_0))) (dan_cons (dd_fldS 0 1 T.cf_Joined fl_Joined_1) dan_nil)))) dd_int)) (dd_one (dd_frz (de_eq (dd_frz (de_call (g_gcd T (by decide)) (dan_cons (dd_frz (de_prop T.cf_Rule (g_Rule_b T (by decide)) (dd_fldS 0 2 T.cf_Joined fl_Joined_2))) (dan_cons (dd_fldS 0 3 T.cf_Joined fl_Joined_3) dan_nil)))) dd_int)))))))
theorem g_Joined_rows_clear (T : Txt P w K cA mg base) {k : Nat} (hk : 3 ≤ k) : GMe (bs P w K cA mg base k) "Joined" "rows_clear" 1 F_Joined_rows_clear := by
  obtain ⟨f, fd, F, b, g⟩ := T.f_Joined_rows_clear
  exact ⟨⟨f, fd, _, _, hk, rfl, g, b, fn_data F sc_Joined_rows_clear (d_Joined_rows_clear T)⟩, no_Joined_rows_clear⟩
theorem sc_Joined_columns_clear : FnScope ["self"] ["self"] (defScope s_Joined_columns_clear) := ⟨rfl, rfl, rfl, by decide +kernel, rfl, by decide +kernel, by decide +kernel⟩
theorem d_Joined_columns_clear (T : Txt P w K cA mg base) : DSs (bs P w K cA mg base 2) ⟨["self"], ["self"]⟩ (defScope s_Joined_columns_clear) (defBody s_Joined_columns_clear) m_Joined_columns_clear :=
  (dss_one (ds_ret (de_up (dd_and (dd_frz (de_eq (dd_frz (de_call (g_gcd T (by decide)) (dan_cons (dd_frz (de_prop T.cf_Rule (g_Rule_a T (by decide)) (dd_fldS 0 0 T.cf_Joined fl_Joined_0))) (dan_cons (dd_fldS 0 1 T.cf_Joined fl_Joined_1) dan_nil)))) dd_int)) (dd_one (dd_frz (de_eq (dd_frz (de_call (g_gcd T (by decide)) (dan_cons (dd_frz (de_prop T.cf_Rule (g_Rule_a T (by decide)) (dd_fldS 0 2 T.cf_Joined fl_Joined_2))) (dan_cons (dd_fldS 0 3 T.cf_Joined fl_Joined_3) dan_nil)))) dd_int)))))))
theorem g_Joined_columns_clear (T : Txt P w K cA mg base) {k : Nat} (hk : 3 ≤ k) : GMe (bs P w K cA mg base k) "Joined" "columns_clear" 1 F_Joined_columns_clear := by
  obtain ⟨f, fd, F, b, g⟩ := T.f_Joined_columns_clear
  exact ⟨⟨f, fd, _, _, hk, rfl, g, b, fn_data F sc_Joined_columns_clear (d_Joined_columns_clear T)⟩, no_Joined_columns_clear⟩
theorem sc__law_clear : FnScope ["lists", "square", "size", "across", "downs", "s", "held", "r"] ["lists", "square", "size"] (defScope s__law_clear) := ⟨rfl, rfl, rfl, by decide +kernel, rfl, by decide +kernel, by decide +kernel⟩
theorem d__law_clear (T : Txt P w K cA mg base) : DSs (bs P w K cA mg base 3) ⟨["lists", "square", "size", "across", "downs", "s", "held", "r"], ["lists", "square", "size", "across", "downs", "s", "held", "r"]⟩ (defScope s__law_clear) (defBody s__law_clear) m__law_clear :=
  (dss_cons (ds_setLc 3 [("s", 5)] (di_range1 (dan_cons (dd_var 2) dan_nil).1 T.n_range) (by decide +kernel) (dg_name 5) (dts_one (dt_ne (dd_frz (de_lc [("r", 7)] (di_range1 (dan_cons (dd_var 2) dan_nil).1 T.n_range) (by decide +kernel) (dg_name 7) (dts_one (dt_ne (dd_frz (de_len (dan_cons (dd_frz (de_ix (dd_frz (de_ix (dd_var 0) (dd_var 7) (fun _ _ => rfl))) (dd_var 5) (fun _ _ => rfl))) dan_nil).1 T.n_len)) dd_int)) (de_up (dd_var 7)))) (dd_frz (de_lstn dan_nil)))) (de_up (dd_var 5)))
  (dss_cons (ds_if (dt_not (dt_val (dd_frz (de_call (g__law_true T (by decide)) (dan_cons (dd_frz (de_meth0 T.cf_Joined (g_Joined_rows_clear T (by decide)) (dd_var 1))) (dan_cons (dd_frz (de_eq (dd_var 3) (dd_frz (de_lstn dan_nil)))) dan_nil)))))) (dss_one (ds_ret (de_up dd_bl))) dss_nil)
  (dss_cons (ds_set 4 (de_lstn dan_nil))
  (dss_cons (ds_for (di_range1 (dan_cons (dd_var 2) dan_nil).1 T.n_range) (dg_name 5) (dss_cons (ds_set 6 (de_lstn dan_nil))
  (dss_cons (ds_for (di_range1 (dan_cons (dd_var 2) dan_nil).1 T.n_range) (dg_name 7) (dss_one (ds_set 6 (de_cat (dd_var 6) (dd_frz (de_ix (dd_frz (de_ix (dd_var 0) (dd_var 7) (fun _ _ => rfl))) (dd_var 5) (fun _ _ => rfl)))))))
  (dss_one (ds_if (dt_ne (dd_frz (de_lenSet (dd_var 6) T.n_len T.n_set)) (dd_frz (de_len (dan_cons (dd_var 6) dan_nil).1 T.n_len))) (dss_one (ds_append 4 (de_up (dd_var 5)))) dss_nil)))))
  (dss_one (ds_ret (de_up (dd_bor (dd_frz (de_call (g__law_true T (by decide)) (dan_cons (dd_frz (de_meth0 T.cf_Joined (g_Joined_columns_clear T (by decide)) (dd_var 1))) (dan_cons (dd_frz (de_eq (dd_var 4) (dd_frz (de_lstn dan_nil)))) dan_nil))))))))))))
theorem g__law_clear (T : Txt P w K cA mg base) {k : Nat} (hk : 4 ≤ k) : GFn (bs P w K cA mg base k) "_law_clear" 3 F__law_clear := by
  obtain ⟨f, fd, F, b, g⟩ := T.f__law_clear
  exact ⟨f, fd, _, _, hk, rfl, g, F.kp, b, fn_data F sc__law_clear (d__law_clear T)⟩
theorem sc__law_pairs : FnScope ["lists", "others", "size", "s", "t", "many", "r", "c"] ["lists", "others", "size"] (defScope s__law_pairs) := ⟨rfl, rfl, rfl, by decide +kernel, rfl, by decide +kernel, by decide +kernel⟩
theorem d__law_pairs (T : Txt P w K cA mg base) : DSs (bs P w K cA mg base 0) ⟨["lists", "others", "size", "s", "t", "many", "r", "c"], ["lists", "others", "size", "s", "t", "many", "r", "c"]⟩ (defScope s__law_pairs) (defBody s__law_pairs) m__law_pairs :=
  (dss_cons (ds_for (di_range1 (dan_cons (dd_var 2) dan_nil).1 T.n_range) (dg_name 3) (dss_one (ds_for (di_range1 (dan_cons (dd_var 2) dan_nil).1 T.n_range) (dg_name 4) (dss_cons (ds_set 5 (de_up dd_int))
  (dss_cons (ds_for (di_range1 (dan_cons (dd_var 2) dan_nil).1 T.n_range) (dg_name 6) (dss_one (ds_set 5 (de_add (dd_var 5) (dd_frz (de_len (dan_cons (dd_frz (de_lc [("c", 7)] (di_seq (dd_frz (de_ix (dd_frz (de_ix (dd_var 0) (dd_var 6) (fun _ _ => rfl))) (dd_var 3) (fun _ _ => rfl)))) (by decide +kernel) (dg_name 7) (dts_one (dt_in (dd_var 7) (dd_frz (de_ix (dd_frz (de_ix (dd_var 1) (dd_var 6) (fun _ _ => rfl))) (dd_var 4) (fun _ _ => rfl))))) (de_up (dd_var 7)))) dan_nil).1 T.n_len))))))
  (dss_one (ds_if (dt_ne (dd_var 5) dd_int) (dss_one (ds_ret (de_up dd_bl))) dss_nil)))))))
  (dss_one (ds_ret (de_up dd_bl))))
theorem g__law_pairs (T : Txt P w K cA mg base) {k : Nat} (hk : 1 ≤ k) : GFn (bs P w K cA mg base k) "_law_pairs" 3 F__law_pairs := by
  obtain ⟨f, fd, F, b, g⟩ := T.f__law_pairs
  exact ⟨f, fd, _, _, hk, rfl, g, F.kp, b, fn_data F sc__law_pairs (d__law_pairs T)⟩
theorem sc_cross : FnScope ["one", "other"] ["one", "other"] (defScope s_cross) := ⟨rfl, rfl, rfl, by decide +kernel, rfl, by decide +kernel, by decide +kernel⟩
theorem d_cross (T : Txt P w K cA mg base) : DSs (bs P w K cA mg base 2) ⟨["one", "other"], ["one", "other"]⟩ (defScope s_cross) (defBody s_cross) m_cross :=
  (dss_one (ds_ret (de_sub (dd_frz (de_mul (dd_frz (de_prop T.cf_Rule (g_Rule_a T (by decide)) (dd_var 0))) (dd_frz (de_prop T.cf_Rule (g_Rule_b T (by decide)) (dd_var 1))))) (dd_frz (de_mul (dd_frz (de_prop T.cf_Rule (g_Rule_a T (by decide)) (dd_var 1))) (dd_frz (de_prop T.cf_Rule (g_Rule_b T (by decide)) (dd_var 0))))))))
theorem g_cross (T : Txt P w K cA mg base) {k : Nat} (hk : 3 ≤ k) : GFn (bs P w K cA mg base k) "cross" 2 F_cross := by
  obtain ⟨f, fd, F, b, g⟩ := T.f_cross
  exact ⟨f, fd, _, _, hk, rfl, g, F.kp, b, fn_data F sc_cross (d_cross T)⟩
theorem sc_Joined_paired : FnScope ["self", "other"] ["self", "other"] (defScope s_Joined_paired) := ⟨rfl, rfl, rfl, by decide +kernel, rfl, by decide +kernel, by decide +kernel⟩
theorem d_Joined_paired (T : Txt P w K cA mg base) : DSs (bs P w K cA mg base 3) ⟨["self", "other"], ["self", "other"]⟩ (defScope s_Joined_paired) (defBody s_Joined_paired) m_Joined_paired :=
  (dss_cons (ds_if (DW.dt (dw_or (dt_ne (dd_fldS 0 1 T.cf_Joined fl_Joined_1) (dd_fldS 1 1 T.cf_Joined fl_Joined_1)) (dw_or1 (dt_ne (dd_fldS 0 3 T.cf_Joined fl_Joined_3) (dd_fldS 1 3 T.cf_Joined fl_Joined_3))))) (dss_one ds_never) dss_nil)
  (dss_cons (ds_if (dt_ne (dd_frz (de_call (g_gcd T (by decide)) (dan_cons (dd_frz (de_call (g_cross T (by decide)) (dan_cons (dd_fldS 0 0 T.cf_Joined fl_Joined_0) (dan_cons (dd_fldS 1 0 T.cf_Joined fl_Joined_0) dan_nil)))) (dan_cons (dd_fldS 0 1 T.cf_Joined fl_Joined_1) dan_nil)))) dd_int) (dss_one (ds_ret (de_up dd_bl))) dss_nil)
  (dss_one (ds_ret (de_eq (dd_frz (de_call (g_gcd T (by decide)) (dan_cons (dd_frz (de_call (g_cross T (by decide)) (dan_cons (dd_fldS 0 2 T.cf_Joined fl_Joined_2) (dan_cons (dd_fldS 1 2 T.cf_Joined fl_Joined_2) dan_nil)))) (dan_cons (dd_fldS 0 3 T.cf_Joined fl_Joined_3) dan_nil)))) dd_int)))))
theorem g_Joined_paired (T : Txt P w K cA mg base) {k : Nat} (hk : 4 ≤ k) : GMe (bs P w K cA mg base k) "Joined" "paired" 2 F_Joined_paired := by
  obtain ⟨f, fd, F, b, g⟩ := T.f_Joined_paired
  exact ⟨⟨f, fd, _, _, hk, rfl, g, b, fn_data F sc_Joined_paired (d_Joined_paired T)⟩, no_Joined_paired⟩
theorem sc__law_asked : FnScope ["pool", "m", "k", "size", "square", "other", "lists", "others", "copies", "due", "line", "row"] ["pool"] (defScope s__law_asked) := ⟨rfl, rfl, rfl, by decide +kernel, rfl, by decide +kernel, by decide +kernel⟩
theorem d__law_asked (T : Txt P w K cA mg base) : DSs (bs P w K cA mg base 5) ⟨["pool", "m", "k", "size", "square", "other", "lists", "others", "copies", "due", "line", "row"], ["pool", "m", "k", "size", "square", "other", "lists", "others", "copies", "due", "line", "row"]⟩ (defScope s__law_asked) (defBody s__law_asked) m__law_asked :=
  (dss_cons (ds_set 1 (de_add dd_int (dd_frz (de_callR 0 (g__law_take T (by decide)) (dan_cons dd_int dan_nil)))))
  (dss_cons (ds_set 2 (de_add dd_int (dd_frz (de_callR 0 (g__law_take T (by decide)) (dan_cons (dd_frz (de_div dd_int (dd_var 1))) dan_nil)))))
  (dss_cons (ds_set 3 (de_mul (dd_var 1) (dd_var 2)))
  (dss_cons (ds_set 4 (de_make (g_Joinedu_initu T (by decide)) (dan_cons (dd_frz (de_callR 0 (g__law_rule T (by decide)) dan_nil)) (dan_cons (dd_var 1) (dan_cons (dd_frz (de_callR 0 (g__law_rule T (by decide)) dan_nil)) (dan_cons (dd_var 2) dan_nil))))))
  (dss_cons (ds_set 5 (de_make (g_Joinedu_initu T (by decide)) (dan_cons (dd_frz (de_callR 0 (g__law_rule T (by decide)) dan_nil)) (dan_cons (dd_var 1) (dan_cons (dd_frz (de_callR 0 (g__law_rule T (by decide)) dan_nil)) (dan_cons (dd_var 2) dan_nil))))))
  (dss_cons (ds_par 6 7 (do_cons (de_call (g__law_lists T (by decide)) (dan_cons (dd_var 4) (dan_cons (dd_var 3) dan_nil))) (do_cons (de_call (g__law_lists T (by decide)) (dan_cons (dd_var 5) (dan_cons (dd_var 3) dan_nil))) do_nil)))
  (dss_cons (ds_setLc 8 [("line", 10)] (di_seq (dd_var 6)) (by decide +kernel) (dg_name 10) dts_nil (de_lc [("row", 11)] (di_seq (dd_var 10)) (by decide +kernel) (dg_name 11) dts_nil (de_list (dan_cons (dd_var 11) dan_nil).1 T.n_list)))
  (dss_cons (ds_if (DW.dt (dw_or (dt_not (dt_val (dd_frz (de_call (g__law_rows T (by decide)) (dan_cons (dd_var 6) (dan_cons (dd_var 4) (dan_cons (dd_var 3) dan_nil))))))) (dw_or1 (dt_not (dt_val (dd_bor (dd_frz (de_call (g__law_rows T (by decide)) (dan_cons (dd_var 7) (dan_cons (dd_var 5) (dan_cons (dd_var 3) dan_nil))))))))))) (dss_one (ds_ret (de_up dd_bl))) dss_nil)
  (dss_cons (ds_if (DW.dt (dw_or (dt_not (dt_val (dd_frz (de_call (g__law_clear T (by decide)) (dan_cons (dd_var 6) (dan_cons (dd_var 4) (dan_cons (dd_var 3) dan_nil))))))) (dw_or1 (dt_not (dt_val (dd_bor (dd_frz (de_call (g__law_clear T (by decide)) (dan_cons (dd_var 7) (dan_cons (dd_var 5) (dan_cons (dd_var 3) dan_nil))))))))))) (dss_one (ds_ret (de_up dd_bl))) dss_nil)
  (dss_cons (ds_set 9 (de_up (dd_bor (dd_frz (de_call (g__law_pairs T (by decide)) (dan_cons (dd_var 6) (dan_cons (dd_var 7) (dan_cons (dd_var 3) dan_nil))))))))
  (dss_cons (ds_if (DW.dt (dw_or (dt_not (dt_val (dd_frz (de_call (g__law_true T (by decide)) (dan_cons (dd_frz (de_meth T.cf_Joined (g_Joined_paired T (by decide)) (dd_var 4) (dan_cons (dd_var 5) dan_nil))) (dan_cons (dd_var 9) dan_nil)))))) (dw_or1 (dt_not (dt_val (dd_frz (de_call (g__law_true T (by decide)) (dan_cons (dd_frz (de_meth T.cf_Joined (g_Joined_paired T (by decide)) (dd_var 5) (dan_cons (dd_var 4) dan_nil))) (dan_cons (dd_var 9) dan_nil))))))))) (dss_one (ds_ret (de_up dd_bl))) dss_nil)
  (dss_cons (ds_appendP (dpath_c (dpath_c (dpath_nil 7))) (dq_nm 3))
  (dss_one (ds_ret (de_up (dd_and (dd_frz (de_eq (dd_var 6) (dd_var 8))) (dd_and (dd_frz (de_eq (dd_frz (de_call (g__law_lists T (by decide)) (dan_cons (dd_var 4) (dan_cons (dd_var 3) dan_nil)))) (dd_var 8))) (dd_one (dd_bor (dd_frz (de_eq (dd_frz (de_meth T.cf_Joined (g_Joined_place T (by decide)) (dd_var 5) (dan_cons dd_int (dan_cons dd_int dan_nil)))) (dd_frz (de_cut (dd_frz (de_ix (dd_frz (de_ix (dd_var 7) dd_int (fun _ _ => rfl))) dd_int (fun _ _ => rfl))) dp_none (dp_some (dd_frz (de_neg dd_int))))))))))))))))))))))))))
theorem g__law_asked (T : Txt P w K cA mg base) {k : Nat} (hk : 6 ≤ k) : GFn (bs P w K cA mg base k) "_law_asked" 1 F__law_asked := by
  obtain ⟨f, fd, F, b, g⟩ := T.f__law_asked
  exact ⟨f, fd, _, _, hk, rfl, g, F.kp, b, fn_data F sc__law_asked (d__law_asked T)⟩
theorem sc__law_pool : FnScope ["script", "k", "cell", "part", "blend", "turn"] ["script", "k"] (defScope s__law_pool) := ⟨rfl, rfl, rfl, by decide +kernel, rfl, by decide +kernel, by decide +kernel⟩
theorem d__law_pool (T : Txt P w K cA mg base) : DSs (bs P w K cA mg base 0) ⟨["script", "k", "cell", "part", "blend", "turn"], ["script", "k", "cell", "part", "blend", "turn"]⟩ (defScope s__law_pool) (defBody s__law_pool) m__law_pool :=
  (dss_cons (ds_set 2 (de_if (dt_lt (dd_var 1) (dd_frz (de_len (dan_cons (dd_var 0) dan_nil).1 T.n_len))) (de_ix (dd_var 0) (dd_var 1) (fun _ _ => rfl)) (de_add (dd_frz (de_mul dd_int (dd_var 1))) dd_int)))
  (dss_cons (ds_if (dt_ge (dd_var 2) (dd_frz (de_pow dd_int dd_int))) (dss_one (ds_ret (de_lstn (dan_cons (dd_frz (de_sub (dd_var 2) (dd_frz (de_pow dd_int dd_int)))) dan_nil)))) dss_nil)
  (dss_cons (ds_set 3 (de_mod (dd_frz (de_int (dan_cons (dd_var 2) dan_nil).1 T.n_int)) dd_int))
  (dss_cons (ds_set 4 (de_up dd_int))
  (dss_cons (ds_for (di_range1 (dan_cons dd_int dan_nil).1 T.n_range) (dg_name 5) (dss_cons (ds_set 3 (de_mod (dd_frz (de_int (dan_cons (dd_frz (de_add (dd_frz (de_add (dd_frz (de_add (dd_frz (de_mul (dd_var 3) (dd_frz (de_add (dd_var 3) dd_int)))) (dd_frz (de_mul dd_int (dd_var 5))))) (dd_frz (de_mul dd_int (dd_var 1))))) dd_int)) dan_nil).1 T.n_int)) dd_int))
  (dss_one (ds_set 4 (de_add (dd_frz (de_mul (dd_var 4) dd_int)) (dd_var 3))))))
  (dss_one (ds_ret (de_lstn (dan_cons (dd_var 4) dan_nil)))))))))
theorem g__law_pool (T : Txt P w K cA mg base) {k : Nat} (hk : 1 ≤ k) : GFn (bs P w K cA mg base k) "_law_pool" 2 F__law_pool := by
  obtain ⟨f, fd, F, b, g⟩ := T.f__law_pool
  exact ⟨f, fd, _, _, hk, rfl, g, F.kp, b, fn_data F sc__law_pool (d__law_pool T)⟩
theorem sc_law : FnScope ["script", "at"] ["script"] (defScope s_law) := ⟨rfl, rfl, rfl, by decide +kernel, rfl, by decide +kernel, by decide +kernel⟩
theorem d_law (T : Txt P w K cA mg base) : DSs (bs P w K cA mg base 6) ⟨["script", "at"], ["script", "at"]⟩ (defScope s_law) (defBody s_law) m_law :=
  (dss_cons (ds_for (di_range1 (dan_cons (dd_frz (de_max2 (dan_cons dd_int (dan_cons (dd_frz (de_min2 (dan_cons (dd_frz (de_len (dan_cons (dd_var 0) dan_nil).1 T.n_len)) (dan_cons dd_int dan_nil)).1 T.n_min)) dan_nil)).1 T.n_max)) dan_nil).1 T.n_range) (dg_name 1) (dss_one (ds_if (dt_not (dt_val (dd_frz (de_callO (g__law_asked T (by decide)) (de_call (g__law_pool T (by decide)) (dan_cons (dd_var 0) (dan_cons (dd_var 1) dan_nil))))))) (dss_one (ds_ret (de_up dd_bl))) dss_nil)))
  (dss_one (ds_ret (de_up dd_bl))))
theorem g_law (T : Txt P w K cA mg base) {k : Nat} (hk : 7 ≤ k) : GFn (bs P w K cA mg base k) "law" 1 F_law := by
  obtain ⟨f, fd, F, b, g⟩ := T.f_law
  exact ⟨f, fd, _, _, hk, rfl, g, F.kp, b, fn_data F sc_law (d_law T)⟩
end
end K88
set_option Elab.async false
set_option linter.all false
set_option maxRecDepth 100000
set_option maxHeartbeats 4000000
namespace K88
open PySem L2 DL
def cAof (C_Joined C_Rule : Addr) (c : Str) : Addr := if c = "Joined" then C_Joined else if c = "Rule" then C_Rule else 0
theorem fl_eq_Joined : fl "Joined" = (["outer", "blocks", "inner", "width"] : List Str) := by decide +kernel
theorem cA_Joined {C_Joined C_Rule : Addr} : cAof C_Joined C_Rule "Joined" = C_Joined := by
  unfold cAof
  rw [if_pos rfl]
theorem fl_eq_Rule : fl "Rule" = (["by_row", "by_column", "start"] : List Str) := by decide +kernel
theorem cA_Rule {C_Joined C_Rule : Addr} : cAof C_Joined C_Rule "Rule" = C_Rule := by
  unfold cAof
  rw [if_neg (by decide +kernel)]
  rw [if_pos rfl]
theorem txt_mk {K : PySem.W.Frag} {h : Heap} {mg : Str → Option Value} {C_Joined C_Rule f_law_take fcheck_size fJoinedu_initu fRuleu_initu f_law_near f_law_rule fcheck_row fJoined_size pJoined_size fgcd finverse fsolve fRule_d pRule_d fRule_a pRule_a fRule_b pRule_b fJoined_place f_law_lists f_law_whole fcheck_cell fRule_entry fRule_sign fJoined_sign f_law_rows f_law_true fJoined_rows_clear fJoined_columns_clear f_law_clear f_law_pairs fcross fJoined_paired f_law_asked f_law_pool flaw : Addr}
    {od_law_take an_law_take odcheck_size ancheck_size odJoinedu_initu anJoinedu_initu odRuleu_initu anRuleu_initu od_law_near an_law_near od_law_rule an_law_rule odcheck_row ancheck_row odJoined_size anJoined_size odgcd angcd odinverse aninverse odsolve ansolve odRule_d anRule_d odRule_a anRule_a odRule_b anRule_b odJoined_place anJoined_place od_law_lists an_law_lists od_law_whole an_law_whole odcheck_cell ancheck_cell odRule_entry anRule_entry odRule_sign anRule_sign odJoined_sign anJoined_sign od_law_rows an_law_rows od_law_true an_law_true odJoined_rows_clear anJoined_rows_clear odJoined_columns_clear anJoined_columns_clear od_law_clear an_law_clear od_law_pairs an_law_pairs odcross ancross odJoined_paired anJoined_paired od_law_asked an_law_asked od_law_pool an_law_pool odlaw anlaw : Option Addr} {sl_law_take slcheck_size slJoinedu_initu slRuleu_initu sl_law_near sl_law_rule slcheck_row slJoined_size slgcd slinverse slsolve slRule_d slRule_a slRule_b slJoined_place sl_law_lists sl_law_whole slcheck_cell slRule_entry slRule_sign slJoined_sign sl_law_rows sl_law_true slJoined_rows_clear slJoined_columns_clear sl_law_clear sl_law_pairs slcross slJoined_paired sl_law_asked sl_law_pool sllaw : Array (Option Value)} {tc_MOST : Tok} {oc_law_take : Value} {kV_law_take : Value} {dc_law_take : Value} {pm_law_take : Value} {cd_law_take : Value} {ct_law_take : Value} {occheck_size : Value} {kVcheck_size : Value} {dccheck_size : Value} {pmcheck_size : Value} {cdcheck_size : Value} {ctcheck_size : Value} {ocJoinedu_initu : Value} {kVJoinedu_initu : Value} {dcJoinedu_initu : Value} {pmJoinedu_initu : Value} {cdJoinedu_initu : Value} {ctJoinedu_initu : Value} {ocRuleu_initu : Value} {kVRuleu_initu : Value} {dcRuleu_initu : Value} {pmRuleu_initu : Value} {cdRuleu_initu : Value} {ctRuleu_initu : Value} {oc_law_near : Value} {kV_law_near : Value} {dc_law_near : Value} {pm_law_near : Value} {cd_law_near : Value} {ct_law_near : Value} {oc_law_rule : Value} {kV_law_rule : Value} {dc_law_rule : Value} {pm_law_rule : Value} {cd_law_rule : Value} {ct_law_rule : Value} {occheck_row : Value} {kVcheck_row : Value} {dccheck_row : Value} {pmcheck_row : Value} {cdcheck_row : Value} {ctcheck_row : Value} {ocJoined_size : Value} {kVJoined_size : Value} {dcJoined_size : Value} {pmJoined_size : Value} {cdJoined_size : Value} {ctJoined_size : Value} {rJoined_size : List Value} {ocgcd : Value} {kVgcd : Value} {dcgcd : Value} {pmgcd : Value} {cdgcd : Value} {ctgcd : Value} {ocinverse : Value} {kVinverse : Value} {dcinverse : Value} {pminverse : Value} {cdinverse : Value} {ctinverse : Value} {ocsolve : Value} {kVsolve : Value} {dcsolve : Value} {pmsolve : Value} {cdsolve : Value} {ctsolve : Value} {ocRule_d : Value} {kVRule_d : Value} {dcRule_d : Value} {pmRule_d : Value} {cdRule_d : Value} {ctRule_d : Value} {rRule_d : List Value} {ocRule_a : Value} {kVRule_a : Value} {dcRule_a : Value} {pmRule_a : Value} {cdRule_a : Value} {ctRule_a : Value} {rRule_a : List Value} {ocRule_b : Value} {kVRule_b : Value} {dcRule_b : Value} {pmRule_b : Value} {cdRule_b : Value} {ctRule_b : Value} {rRule_b : List Value} {ocJoined_place : Value} {kVJoined_place : Value} {dcJoined_place : Value} {pmJoined_place : Value} {cdJoined_place : Value} {ctJoined_place : Value} {oc_law_lists : Value} {kV_law_lists : Value} {dc_law_lists : Value} {pm_law_lists : Value} {cd_law_lists : Value} {ct_law_lists : Value} {oc_law_whole : Value} {kV_law_whole : Value} {dc_law_whole : Value} {pm_law_whole : Value} {cd_law_whole : Value} {ct_law_whole : Value} {occheck_cell : Value} {kVcheck_cell : Value} {dccheck_cell : Value} {pmcheck_cell : Value} {cdcheck_cell : Value} {ctcheck_cell : Value} {ocRule_entry : Value} {kVRule_entry : Value} {dcRule_entry : Value} {pmRule_entry : Value} {cdRule_entry : Value} {ctRule_entry : Value} {ocRule_sign : Value} {kVRule_sign : Value} {dcRule_sign : Value} {pmRule_sign : Value} {cdRule_sign : Value} {ctRule_sign : Value} {ocJoined_sign : Value} {kVJoined_sign : Value} {dcJoined_sign : Value} {pmJoined_sign : Value} {cdJoined_sign : Value} {ctJoined_sign : Value} {oc_law_rows : Value} {kV_law_rows : Value} {dc_law_rows : Value} {pm_law_rows : Value} {cd_law_rows : Value} {ct_law_rows : Value} {oc_law_true : Value} {kV_law_true : Value} {dc_law_true : Value} {pm_law_true : Value} {cd_law_true : Value} {ct_law_true : Value} {ocJoined_rows_clear : Value} {kVJoined_rows_clear : Value} {dcJoined_rows_clear : Value} {pmJoined_rows_clear : Value} {cdJoined_rows_clear : Value} {ctJoined_rows_clear : Value} {ocJoined_columns_clear : Value} {kVJoined_columns_clear : Value} {dcJoined_columns_clear : Value} {pmJoined_columns_clear : Value} {cdJoined_columns_clear : Value} {ctJoined_columns_clear : Value} {oc_law_clear : Value} {kV_law_clear : Value} {dc_law_clear : Value} {pm_law_clear : Value} {cd_law_clear : Value} {ct_law_clear : Value} {oc_law_pairs : Value} {kV_law_pairs : Value} {dc_law_pairs : Value} {pm_law_pairs : Value} {cd_law_pairs : Value} {ct_law_pairs : Value} {occross : Value} {kVcross : Value} {dccross : Value} {pmcross : Value} {cdcross : Value} {ctcross : Value} {ocJoined_paired : Value} {kVJoined_paired : Value} {dcJoined_paired : Value} {pmJoined_paired : Value} {cdJoined_paired : Value} {ctJoined_paired : Value} {oc_law_asked : Value} {kV_law_asked : Value} {dc_law_asked : Value} {pm_law_asked : Value} {cd_law_asked : Value} {ct_law_asked : Value} {oc_law_pool : Value} {kV_law_pool : Value} {dc_law_pool : Value} {pm_law_pool : Value} {cd_law_pool : Value} {ct_law_pool : Value} {oclaw : Value} {kVlaw : Value} {dclaw : Value} {pmlaw : Value} {cdlaw : Value} {ctlaw : Value}
    (X : K.In h) (G : h.Ns mainGlobals mg)
    (a_Joined : PySem.W.nsIn K mainGlobals "Joined" = some (some (.ref C_Joined)))
    (a_Rule : PySem.W.nsIn K mainGlobals "Rule" = some (some (.ref C_Rule)))
    (n_abs : PySem.W.nsIn K mainGlobals "abs" = some none)
    (n_bool : PySem.W.nsIn K mainGlobals "bool" = some none)
    (n_divmod : PySem.W.nsIn K mainGlobals "divmod" = some none)
    (n_int : PySem.W.nsIn K mainGlobals "int" = some none)
    (n_isinstance : PySem.W.nsIn K mainGlobals "isinstance" = some none)
    (n_len : PySem.W.nsIn K mainGlobals "len" = some none)
    (n_list : PySem.W.nsIn K mainGlobals "list" = some none)
    (n_max : PySem.W.nsIn K mainGlobals "max" = some none)
    (n_min : PySem.W.nsIn K mainGlobals "min" = some none)
    (n_range : PySem.W.nsIn K mainGlobals "range" = some none)
    (n_set : PySem.W.nsIn K mainGlobals "set" = some none)
    (n_sorted : PySem.W.nsIn K mainGlobals "sorted" = some none)
    (pg_Joined : PySem.W.plainGet K C_Joined Str.empty = true)
    (hd_Joined : PySem.W.hasDictIn K C_Joined = true)
    (po_Joined : PySem.W.plainOver K C_Joined = true)
    (sa_Joined : PySem.W.findIn K (.ref C_Joined) "__setattr__" = some (some (.builtin "object.__setattr__")))
    (na_Joined_outer : PySem.W.findIn K (.ref C_Joined) "outer" = some none)
    (na_Joined_blocks : PySem.W.findIn K (.ref C_Joined) "blocks" = some none)
    (na_Joined_inner : PySem.W.findIn K (.ref C_Joined) "inner" = some none)
    (na_Joined_width : PySem.W.findIn K (.ref C_Joined) "width" = some none)
    (pg_Rule : PySem.W.plainGet K C_Rule Str.empty = true)
    (hd_Rule : PySem.W.hasDictIn K C_Rule = true)
    (po_Rule : PySem.W.plainOver K C_Rule = true)
    (sa_Rule : PySem.W.findIn K (.ref C_Rule) "__setattr__" = some (some (.builtin "object.__setattr__")))
    (na_Rule_by_row : PySem.W.findIn K (.ref C_Rule) "by_row" = some none)
    (na_Rule_by_column : PySem.W.findIn K (.ref C_Rule) "by_column" = some none)
    (na_Rule_start : PySem.W.findIn K (.ref C_Rule) "start" = some none)
    (c_MOST : PySem.W.nsIn K mainGlobals "MOST" = some (some (.int 40 tc_MOST)))
    (at_law_take : PySem.W.nsIn K mainGlobals "_law_take" = some (some (.ref f_law_take)))
    (l_law_take : K.lookup f_law_take = some ⟨oc_law_take, od_law_take, .func (PySem.W.fnOf "_law_take" "_law_take" (defArgs s__law_take) (defBody s__law_take) (defScope s__law_take) .none kV_law_take dc_law_take pm_law_take an_law_take cd_law_take ct_law_take), sl_law_take⟩)
    (c_law_take : PySem.W.codeIn K cd_law_take "_law_take" = true)
    (k_law_take : PySem.W.keepIn K (.ref f_law_take) = true)
    (atcheck_size : PySem.W.nsIn K mainGlobals "check_size" = some (some (.ref fcheck_size)))
    (lcheck_size : K.lookup fcheck_size = some ⟨occheck_size, odcheck_size, .func (PySem.W.fnOf "check_size" "check_size" (defArgs s_check_size) (defBody s_check_size) (defScope s_check_size) .none kVcheck_size dccheck_size pmcheck_size ancheck_size cdcheck_size ctcheck_size), slcheck_size⟩)
    (ccheck_size : PySem.W.codeIn K cdcheck_size "check_size" = true)
    (kcheck_size : PySem.W.keepIn K (.ref fcheck_size) = true)
    (inJoinedu_initu : PySem.W.findIn K (.ref C_Joined) "__init__" = some (some (.ref fJoinedu_initu)))
    (fnJoinedu_initu : PySem.W.isFn K (.ref fJoinedu_initu) = true)
    (mkJoinedu_initu : PySem.W.makesIn K C_Joined = true)
    (kpJoinedu_initu : PySem.W.keepIn K (.ref C_Joined) = true)
    (lJoinedu_initu : K.lookup fJoinedu_initu = some ⟨ocJoinedu_initu, odJoinedu_initu, .func (PySem.W.fnOf "__init__" "Joined.__init__" (defArgs s_Joinedu_initu) (defBody s_Joinedu_initu) (defScope s_Joinedu_initu) .none kVJoinedu_initu dcJoinedu_initu pmJoinedu_initu anJoinedu_initu cdJoinedu_initu ctJoinedu_initu), slJoinedu_initu⟩)
    (cJoinedu_initu : PySem.W.codeIn K cdJoinedu_initu "Joined.__init__" = true)
    (kJoinedu_initu : PySem.W.keepIn K (.ref fJoinedu_initu) = true)
    (inRuleu_initu : PySem.W.findIn K (.ref C_Rule) "__init__" = some (some (.ref fRuleu_initu)))
    (fnRuleu_initu : PySem.W.isFn K (.ref fRuleu_initu) = true)
    (mkRuleu_initu : PySem.W.makesIn K C_Rule = true)
    (kpRuleu_initu : PySem.W.keepIn K (.ref C_Rule) = true)
    (lRuleu_initu : K.lookup fRuleu_initu = some ⟨ocRuleu_initu, odRuleu_initu, .func (PySem.W.fnOf "__init__" "Rule.__init__" (defArgs s_Ruleu_initu) (defBody s_Ruleu_initu) (defScope s_Ruleu_initu) .none kVRuleu_initu dcRuleu_initu pmRuleu_initu anRuleu_initu cdRuleu_initu ctRuleu_initu), slRuleu_initu⟩)
    (cRuleu_initu : PySem.W.codeIn K cdRuleu_initu "Rule.__init__" = true)
    (kRuleu_initu : PySem.W.keepIn K (.ref fRuleu_initu) = true)
    (at_law_near : PySem.W.nsIn K mainGlobals "_law_near" = some (some (.ref f_law_near)))
    (l_law_near : K.lookup f_law_near = some ⟨oc_law_near, od_law_near, .func (PySem.W.fnOf "_law_near" "_law_near" (defArgs s__law_near) (defBody s__law_near) (defScope s__law_near) .none kV_law_near dc_law_near pm_law_near an_law_near cd_law_near ct_law_near), sl_law_near⟩)
    (c_law_near : PySem.W.codeIn K cd_law_near "_law_near" = true)
    (k_law_near : PySem.W.keepIn K (.ref f_law_near) = true)
    (at_law_rule : PySem.W.nsIn K mainGlobals "_law_rule" = some (some (.ref f_law_rule)))
    (l_law_rule : K.lookup f_law_rule = some ⟨oc_law_rule, od_law_rule, .func (PySem.W.fnOf "_law_rule" "_law_rule" (defArgs s__law_rule) (defBody s__law_rule) (defScope s__law_rule) .none kV_law_rule dc_law_rule pm_law_rule an_law_rule cd_law_rule ct_law_rule), sl_law_rule⟩)
    (c_law_rule : PySem.W.codeIn K cd_law_rule "_law_rule" = true)
    (k_law_rule : PySem.W.keepIn K (.ref f_law_rule) = true)
    (atcheck_row : PySem.W.nsIn K mainGlobals "check_row" = some (some (.ref fcheck_row)))
    (lcheck_row : K.lookup fcheck_row = some ⟨occheck_row, odcheck_row, .func (PySem.W.fnOf "check_row" "check_row" (defArgs s_check_row) (defBody s_check_row) (defScope s_check_row) .none kVcheck_row dccheck_row pmcheck_row ancheck_row cdcheck_row ctcheck_row), slcheck_row⟩)
    (ccheck_row : PySem.W.codeIn K cdcheck_row "check_row" = true)
    (kcheck_row : PySem.W.keepIn K (.ref fcheck_row) = true)
    (atJoined_size : PySem.W.findIn K (.ref C_Joined) "size" = some (some (.ref pJoined_size)))
    (geJoined_size : PySem.W.specialIn K (.ref pJoined_size) "__get__" = some (some (.builtin "property.__get__")))
    (taJoined_size : PySem.W.takesIn K (.ref pJoined_size) = some true)
    (reJoined_size : PySem.W.recIn K pJoined_size "property" = some (.ref fJoined_size :: rJoined_size))
    (lJoined_size : K.lookup fJoined_size = some ⟨ocJoined_size, odJoined_size, .func (PySem.W.fnOf "size" "Joined.size" (defArgs s_Joined_size) (defBody s_Joined_size) (defScope s_Joined_size) .none kVJoined_size dcJoined_size pmJoined_size anJoined_size cdJoined_size ctJoined_size), slJoined_size⟩)
    (cJoined_size : PySem.W.codeIn K cdJoined_size "Joined.size" = true)
    (kJoined_size : PySem.W.keepIn K (.ref fJoined_size) = true)
    (atgcd : PySem.W.nsIn K mainGlobals "gcd" = some (some (.ref fgcd)))
    (lgcd : K.lookup fgcd = some ⟨ocgcd, odgcd, .func (PySem.W.fnOf "gcd" "gcd" (defArgs s_gcd) (defBody s_gcd) (defScope s_gcd) .none kVgcd dcgcd pmgcd angcd cdgcd ctgcd), slgcd⟩)
    (cgcd : PySem.W.codeIn K cdgcd "gcd" = true)
    (kgcd : PySem.W.keepIn K (.ref fgcd) = true)
    (atinverse : PySem.W.nsIn K mainGlobals "inverse" = some (some (.ref finverse)))
    (linverse : K.lookup finverse = some ⟨ocinverse, odinverse, .func (PySem.W.fnOf "inverse" "inverse" (defArgs s_inverse) (defBody s_inverse) (defScope s_inverse) .none kVinverse dcinverse pminverse aninverse cdinverse ctinverse), slinverse⟩)
    (cinverse : PySem.W.codeIn K cdinverse "inverse" = true)
    (kinverse : PySem.W.keepIn K (.ref finverse) = true)
    (atsolve : PySem.W.nsIn K mainGlobals "solve" = some (some (.ref fsolve)))
    (lsolve : K.lookup fsolve = some ⟨ocsolve, odsolve, .func (PySem.W.fnOf "solve" "solve" (defArgs s_solve) (defBody s_solve) (defScope s_solve) .none kVsolve dcsolve pmsolve ansolve cdsolve ctsolve), slsolve⟩)
    (csolve : PySem.W.codeIn K cdsolve "solve" = true)
    (ksolve : PySem.W.keepIn K (.ref fsolve) = true)
    (atRule_d : PySem.W.findIn K (.ref C_Rule) "d" = some (some (.ref pRule_d)))
    (geRule_d : PySem.W.specialIn K (.ref pRule_d) "__get__" = some (some (.builtin "property.__get__")))
    (taRule_d : PySem.W.takesIn K (.ref pRule_d) = some true)
    (reRule_d : PySem.W.recIn K pRule_d "property" = some (.ref fRule_d :: rRule_d))
    (lRule_d : K.lookup fRule_d = some ⟨ocRule_d, odRule_d, .func (PySem.W.fnOf "d" "Rule.d" (defArgs s_Rule_d) (defBody s_Rule_d) (defScope s_Rule_d) .none kVRule_d dcRule_d pmRule_d anRule_d cdRule_d ctRule_d), slRule_d⟩)
    (cRule_d : PySem.W.codeIn K cdRule_d "Rule.d" = true)
    (kRule_d : PySem.W.keepIn K (.ref fRule_d) = true)
    (atRule_a : PySem.W.findIn K (.ref C_Rule) "a" = some (some (.ref pRule_a)))
    (geRule_a : PySem.W.specialIn K (.ref pRule_a) "__get__" = some (some (.builtin "property.__get__")))
    (taRule_a : PySem.W.takesIn K (.ref pRule_a) = some true)
    (reRule_a : PySem.W.recIn K pRule_a "property" = some (.ref fRule_a :: rRule_a))
    (lRule_a : K.lookup fRule_a = some ⟨ocRule_a, odRule_a, .func (PySem.W.fnOf "a" "Rule.a" (defArgs s_Rule_a) (defBody s_Rule_a) (defScope s_Rule_a) .none kVRule_a dcRule_a pmRule_a anRule_a cdRule_a ctRule_a), slRule_a⟩)
    (cRule_a : PySem.W.codeIn K cdRule_a "Rule.a" = true)
    (kRule_a : PySem.W.keepIn K (.ref fRule_a) = true)
    (atRule_b : PySem.W.findIn K (.ref C_Rule) "b" = some (some (.ref pRule_b)))
    (geRule_b : PySem.W.specialIn K (.ref pRule_b) "__get__" = some (some (.builtin "property.__get__")))
    (taRule_b : PySem.W.takesIn K (.ref pRule_b) = some true)
    (reRule_b : PySem.W.recIn K pRule_b "property" = some (.ref fRule_b :: rRule_b))
    (lRule_b : K.lookup fRule_b = some ⟨ocRule_b, odRule_b, .func (PySem.W.fnOf "b" "Rule.b" (defArgs s_Rule_b) (defBody s_Rule_b) (defScope s_Rule_b) .none kVRule_b dcRule_b pmRule_b anRule_b cdRule_b ctRule_b), slRule_b⟩)
    (cRule_b : PySem.W.codeIn K cdRule_b "Rule.b" = true)
    (kRule_b : PySem.W.keepIn K (.ref fRule_b) = true)
    (atJoined_place : PySem.W.findIn K (.ref C_Joined) "place" = some (some (.ref fJoined_place)))
    (fnJoined_place : PySem.W.isFn K (.ref fJoined_place) = true)
    (lJoined_place : K.lookup fJoined_place = some ⟨ocJoined_place, odJoined_place, .func (PySem.W.fnOf "place" "Joined.place" (defArgs s_Joined_place) (defBody s_Joined_place) (defScope s_Joined_place) .none kVJoined_place dcJoined_place pmJoined_place anJoined_place cdJoined_place ctJoined_place), slJoined_place⟩)
    (cJoined_place : PySem.W.codeIn K cdJoined_place "Joined.place" = true)
    (kJoined_place : PySem.W.keepIn K (.ref fJoined_place) = true)
    (at_law_lists : PySem.W.nsIn K mainGlobals "_law_lists" = some (some (.ref f_law_lists)))
    (l_law_lists : K.lookup f_law_lists = some ⟨oc_law_lists, od_law_lists, .func (PySem.W.fnOf "_law_lists" "_law_lists" (defArgs s__law_lists) (defBody s__law_lists) (defScope s__law_lists) .none kV_law_lists dc_law_lists pm_law_lists an_law_lists cd_law_lists ct_law_lists), sl_law_lists⟩)
    (c_law_lists : PySem.W.codeIn K cd_law_lists "_law_lists" = true)
    (k_law_lists : PySem.W.keepIn K (.ref f_law_lists) = true)
    (at_law_whole : PySem.W.nsIn K mainGlobals "_law_whole" = some (some (.ref f_law_whole)))
    (l_law_whole : K.lookup f_law_whole = some ⟨oc_law_whole, od_law_whole, .func (PySem.W.fnOf "_law_whole" "_law_whole" (defArgs s__law_whole) (defBody s__law_whole) (defScope s__law_whole) .none kV_law_whole dc_law_whole pm_law_whole an_law_whole cd_law_whole ct_law_whole), sl_law_whole⟩)
    (c_law_whole : PySem.W.codeIn K cd_law_whole "_law_whole" = true)
    (k_law_whole : PySem.W.keepIn K (.ref f_law_whole) = true)
    (atcheck_cell : PySem.W.nsIn K mainGlobals "check_cell" = some (some (.ref fcheck_cell)))
    (lcheck_cell : K.lookup fcheck_cell = some ⟨occheck_cell, odcheck_cell, .func (PySem.W.fnOf "check_cell" "check_cell" (defArgs s_check_cell) (defBody s_check_cell) (defScope s_check_cell) .none kVcheck_cell dccheck_cell pmcheck_cell ancheck_cell cdcheck_cell ctcheck_cell), slcheck_cell⟩)
    (ccheck_cell : PySem.W.codeIn K cdcheck_cell "check_cell" = true)
    (kcheck_cell : PySem.W.keepIn K (.ref fcheck_cell) = true)
    (atRule_entry : PySem.W.findIn K (.ref C_Rule) "entry" = some (some (.ref fRule_entry)))
    (fnRule_entry : PySem.W.isFn K (.ref fRule_entry) = true)
    (lRule_entry : K.lookup fRule_entry = some ⟨ocRule_entry, odRule_entry, .func (PySem.W.fnOf "entry" "Rule.entry" (defArgs s_Rule_entry) (defBody s_Rule_entry) (defScope s_Rule_entry) .none kVRule_entry dcRule_entry pmRule_entry anRule_entry cdRule_entry ctRule_entry), slRule_entry⟩)
    (cRule_entry : PySem.W.codeIn K cdRule_entry "Rule.entry" = true)
    (kRule_entry : PySem.W.keepIn K (.ref fRule_entry) = true)
    (atRule_sign : PySem.W.findIn K (.ref C_Rule) "sign" = some (some (.ref fRule_sign)))
    (fnRule_sign : PySem.W.isFn K (.ref fRule_sign) = true)
    (lRule_sign : K.lookup fRule_sign = some ⟨ocRule_sign, odRule_sign, .func (PySem.W.fnOf "sign" "Rule.sign" (defArgs s_Rule_sign) (defBody s_Rule_sign) (defScope s_Rule_sign) .none kVRule_sign dcRule_sign pmRule_sign anRule_sign cdRule_sign ctRule_sign), slRule_sign⟩)
    (cRule_sign : PySem.W.codeIn K cdRule_sign "Rule.sign" = true)
    (kRule_sign : PySem.W.keepIn K (.ref fRule_sign) = true)
    (atJoined_sign : PySem.W.findIn K (.ref C_Joined) "sign" = some (some (.ref fJoined_sign)))
    (fnJoined_sign : PySem.W.isFn K (.ref fJoined_sign) = true)
    (lJoined_sign : K.lookup fJoined_sign = some ⟨ocJoined_sign, odJoined_sign, .func (PySem.W.fnOf "sign" "Joined.sign" (defArgs s_Joined_sign) (defBody s_Joined_sign) (defScope s_Joined_sign) .none kVJoined_sign dcJoined_sign pmJoined_sign anJoined_sign cdJoined_sign ctJoined_sign), slJoined_sign⟩)
    (cJoined_sign : PySem.W.codeIn K cdJoined_sign "Joined.sign" = true)
    (kJoined_sign : PySem.W.keepIn K (.ref fJoined_sign) = true)
    (at_law_rows : PySem.W.nsIn K mainGlobals "_law_rows" = some (some (.ref f_law_rows)))
    (l_law_rows : K.lookup f_law_rows = some ⟨oc_law_rows, od_law_rows, .func (PySem.W.fnOf "_law_rows" "_law_rows" (defArgs s__law_rows) (defBody s__law_rows) (defScope s__law_rows) .none kV_law_rows dc_law_rows pm_law_rows an_law_rows cd_law_rows ct_law_rows), sl_law_rows⟩)
    (c_law_rows : PySem.W.codeIn K cd_law_rows "_law_rows" = true)
    (k_law_rows : PySem.W.keepIn K (.ref f_law_rows) = true)
    (at_law_true : PySem.W.nsIn K mainGlobals "_law_true" = some (some (.ref f_law_true)))
    (l_law_true : K.lookup f_law_true = some ⟨oc_law_true, od_law_true, .func (PySem.W.fnOf "_law_true" "_law_true" (defArgs s__law_true) (defBody s__law_true) (defScope s__law_true) .none kV_law_true dc_law_true pm_law_true an_law_true cd_law_true ct_law_true), sl_law_true⟩)
    (c_law_true : PySem.W.codeIn K cd_law_true "_law_true" = true)
    (k_law_true : PySem.W.keepIn K (.ref f_law_true) = true)
    (atJoined_rows_clear : PySem.W.findIn K (.ref C_Joined) "rows_clear" = some (some (.ref fJoined_rows_clear)))
    (fnJoined_rows_clear : PySem.W.isFn K (.ref fJoined_rows_clear) = true)
    (lJoined_rows_clear : K.lookup fJoined_rows_clear = some ⟨ocJoined_rows_clear, odJoined_rows_clear, .func (PySem.W.fnOf "rows_clear" "Joined.rows_clear" (defArgs s_Joined_rows_clear) (defBody s_Joined_rows_clear) (defScope s_Joined_rows_clear) .none kVJoined_rows_clear dcJoined_rows_clear pmJoined_rows_clear anJoined_rows_clear cdJoined_rows_clear ctJoined_rows_clear), slJoined_rows_clear⟩)
    (cJoined_rows_clear : PySem.W.codeIn K cdJoined_rows_clear "Joined.rows_clear" = true)
    (kJoined_rows_clear : PySem.W.keepIn K (.ref fJoined_rows_clear) = true)
    (atJoined_columns_clear : PySem.W.findIn K (.ref C_Joined) "columns_clear" = some (some (.ref fJoined_columns_clear)))
    (fnJoined_columns_clear : PySem.W.isFn K (.ref fJoined_columns_clear) = true)
    (lJoined_columns_clear : K.lookup fJoined_columns_clear = some ⟨ocJoined_columns_clear, odJoined_columns_clear, .func (PySem.W.fnOf "columns_clear" "Joined.columns_clear" (defArgs s_Joined_columns_clear) (defBody s_Joined_columns_clear) (defScope s_Joined_columns_clear) .none kVJoined_columns_clear dcJoined_columns_clear pmJoined_columns_clear anJoined_columns_clear cdJoined_columns_clear ctJoined_columns_clear), slJoined_columns_clear⟩)
    (cJoined_columns_clear : PySem.W.codeIn K cdJoined_columns_clear "Joined.columns_clear" = true)
    (kJoined_columns_clear : PySem.W.keepIn K (.ref fJoined_columns_clear) = true)
    (at_law_clear : PySem.W.nsIn K mainGlobals "_law_clear" = some (some (.ref f_law_clear)))
    (l_law_clear : K.lookup f_law_clear = some ⟨oc_law_clear, od_law_clear, .func (PySem.W.fnOf "_law_clear" "_law_clear" (defArgs s__law_clear) (defBody s__law_clear) (defScope s__law_clear) .none kV_law_clear dc_law_clear pm_law_clear an_law_clear cd_law_clear ct_law_clear), sl_law_clear⟩)
    (c_law_clear : PySem.W.codeIn K cd_law_clear "_law_clear" = true)
    (k_law_clear : PySem.W.keepIn K (.ref f_law_clear) = true)
    (at_law_pairs : PySem.W.nsIn K mainGlobals "_law_pairs" = some (some (.ref f_law_pairs)))
    (l_law_pairs : K.lookup f_law_pairs = some ⟨oc_law_pairs, od_law_pairs, .func (PySem.W.fnOf "_law_pairs" "_law_pairs" (defArgs s__law_pairs) (defBody s__law_pairs) (defScope s__law_pairs) .none kV_law_pairs dc_law_pairs pm_law_pairs an_law_pairs cd_law_pairs ct_law_pairs), sl_law_pairs⟩)
    (c_law_pairs : PySem.W.codeIn K cd_law_pairs "_law_pairs" = true)
    (k_law_pairs : PySem.W.keepIn K (.ref f_law_pairs) = true)
    (atcross : PySem.W.nsIn K mainGlobals "cross" = some (some (.ref fcross)))
    (lcross : K.lookup fcross = some ⟨occross, odcross, .func (PySem.W.fnOf "cross" "cross" (defArgs s_cross) (defBody s_cross) (defScope s_cross) .none kVcross dccross pmcross ancross cdcross ctcross), slcross⟩)
    (ccross : PySem.W.codeIn K cdcross "cross" = true)
    (kcross : PySem.W.keepIn K (.ref fcross) = true)
    (atJoined_paired : PySem.W.findIn K (.ref C_Joined) "paired" = some (some (.ref fJoined_paired)))
    (fnJoined_paired : PySem.W.isFn K (.ref fJoined_paired) = true)
    (lJoined_paired : K.lookup fJoined_paired = some ⟨ocJoined_paired, odJoined_paired, .func (PySem.W.fnOf "paired" "Joined.paired" (defArgs s_Joined_paired) (defBody s_Joined_paired) (defScope s_Joined_paired) .none kVJoined_paired dcJoined_paired pmJoined_paired anJoined_paired cdJoined_paired ctJoined_paired), slJoined_paired⟩)
    (cJoined_paired : PySem.W.codeIn K cdJoined_paired "Joined.paired" = true)
    (kJoined_paired : PySem.W.keepIn K (.ref fJoined_paired) = true)
    (at_law_asked : PySem.W.nsIn K mainGlobals "_law_asked" = some (some (.ref f_law_asked)))
    (l_law_asked : K.lookup f_law_asked = some ⟨oc_law_asked, od_law_asked, .func (PySem.W.fnOf "_law_asked" "_law_asked" (defArgs s__law_asked) (defBody s__law_asked) (defScope s__law_asked) .none kV_law_asked dc_law_asked pm_law_asked an_law_asked cd_law_asked ct_law_asked), sl_law_asked⟩)
    (c_law_asked : PySem.W.codeIn K cd_law_asked "_law_asked" = true)
    (k_law_asked : PySem.W.keepIn K (.ref f_law_asked) = true)
    (at_law_pool : PySem.W.nsIn K mainGlobals "_law_pool" = some (some (.ref f_law_pool)))
    (l_law_pool : K.lookup f_law_pool = some ⟨oc_law_pool, od_law_pool, .func (PySem.W.fnOf "_law_pool" "_law_pool" (defArgs s__law_pool) (defBody s__law_pool) (defScope s__law_pool) .none kV_law_pool dc_law_pool pm_law_pool an_law_pool cd_law_pool ct_law_pool), sl_law_pool⟩)
    (c_law_pool : PySem.W.codeIn K cd_law_pool "_law_pool" = true)
    (k_law_pool : PySem.W.keepIn K (.ref f_law_pool) = true)
    (atlaw : PySem.W.nsIn K mainGlobals "law" = some (some (.ref flaw)))
    (llaw : K.lookup flaw = some ⟨oclaw, odlaw, .func (PySem.W.fnOf "law" "law" (defArgs s_law) (defBody s_law) (defScope s_law) .none kVlaw dclaw pmlaw anlaw cdlaw ctlaw), sllaw⟩)
    (claw : PySem.W.codeIn K cdlaw "law" = true)
    (klaw : PySem.W.keepIn K (.ref flaw) = true) :
    ∃ cA : Str → Addr, mg "law" = some (.ref flaw) ∧ ∀ P w base, Txt P w K cA mg base := by
  have e_Joined : cAof C_Joined C_Rule "Joined" = C_Joined := cA_Joined
  have e_Rule : cAof C_Joined C_Rule "Rule" = C_Rule := cA_Rule
  refine ⟨cAof C_Joined C_Rule, PySem.W.mg_of X G atlaw, fun P w base => ?_⟩
  have t_n_abs : mg "abs" = none :=
    PySem.W.mg_none_of X G n_abs
  have t_n_bool : mg "bool" = none :=
    PySem.W.mg_none_of X G n_bool
  have t_n_divmod : mg "divmod" = none :=
    PySem.W.mg_none_of X G n_divmod
  have t_n_int : mg "int" = none :=
    PySem.W.mg_none_of X G n_int
  have t_n_isinstance : mg "isinstance" = none :=
    PySem.W.mg_none_of X G n_isinstance
  have t_n_len : mg "len" = none :=
    PySem.W.mg_none_of X G n_len
  have t_n_list : mg "list" = none :=
    PySem.W.mg_none_of X G n_list
  have t_n_max : mg "max" = none :=
    PySem.W.mg_none_of X G n_max
  have t_n_min : mg "min" = none :=
    PySem.W.mg_none_of X G n_min
  have t_n_range : mg "range" = none :=
    PySem.W.mg_none_of X G n_range
  have t_n_set : mg "set" = none :=
    PySem.W.mg_none_of X G n_set
  have t_n_sorted : mg "sorted" = none :=
    PySem.W.mg_none_of X G n_sorted
  have t_cf_Joined : ∀ {k : Nat}, ClsF (bs P w K (cAof C_Joined C_Rule) mg base k) "Joined" :=
    @fun k => clsF_mk (B := bs P w K (cAof C_Joined C_Rule) mg base k) (c := "Joined") (fs := ["outer", "blocks", "inner", "width"]) fl_eq_Joined (e_Joined ▸ pg_Joined) (e_Joined ▸ hd_Joined) (e_Joined ▸ po_Joined) (e_Joined ▸ sa_Joined) (by decide +kernel) (by decide) (by
      show ∀ f ∈ _, PySem.W.findIn K (.ref (cAof C_Joined C_Rule "Joined")) f = some none
      rw [e_Joined]
      exact List.forall_mem_cons.mpr ⟨na_Joined_outer, List.forall_mem_cons.mpr ⟨na_Joined_blocks, List.forall_mem_cons.mpr ⟨na_Joined_inner, List.forall_mem_cons.mpr ⟨na_Joined_width, fun _ h => nomatch h⟩⟩⟩⟩)
  have t_cf_Rule : ∀ {k : Nat}, ClsF (bs P w K (cAof C_Joined C_Rule) mg base k) "Rule" :=
    @fun k => clsF_mk (B := bs P w K (cAof C_Joined C_Rule) mg base k) (c := "Rule") (fs := ["by_row", "by_column", "start"]) fl_eq_Rule (e_Rule ▸ pg_Rule) (e_Rule ▸ hd_Rule) (e_Rule ▸ po_Rule) (e_Rule ▸ sa_Rule) (by decide +kernel) (by decide) (by
      show ∀ f ∈ _, PySem.W.findIn K (.ref (cAof C_Joined C_Rule "Rule")) f = some none
      rw [e_Rule]
      exact List.forall_mem_cons.mpr ⟨na_Rule_by_row, List.forall_mem_cons.mpr ⟨na_Rule_by_column, List.forall_mem_cons.mpr ⟨na_Rule_start, fun _ h => nomatch h⟩⟩⟩)
  have t_c_MOST : ∀ {k : Nat} {N : Nm} {sc : Scope} {pos : Pos}, sc.names.lookup ("MOST" : Str) = some .globalImplicit → DD (bs P w K (cAof C_Joined C_Rule) mg base k) N sc (.Name "MOST" pos) (eC k_MOST) :=
    @fun k N sc pos hg => dd_glob (PySem.W.mg_of X G c_MOST) hg (by decide +kernel)
  have t_f__law_take : ∃ f fd, Fun K "_law_take" "_law_take" s__law_take f fd ∧ Binds K fd ["pool", "many"] [] ∧ mg "_law_take" = some (.ref f) :=
    let F := fun_mk (st := s__law_take) l_law_take c_law_take k_law_take
    ⟨f_law_take, _, F, (F.binds (ps := ["pool", "many"]) fun _ _ _ _ _ _ us hl => match us, hl with | [_, _], _ => rfl), PySem.W.mg_of X G at_law_take⟩
  have t_f_check_size : ∃ f fd, Fun K "check_size" "check_size" s_check_size f fd ∧ Binds K fd ["n"] [] ∧ mg "check_size" = some (.ref f) :=
    let F := fun_mk (st := s_check_size) lcheck_size ccheck_size kcheck_size
    ⟨fcheck_size, _, F, (F.binds (ps := ["n"]) fun _ _ _ _ _ _ us hl => match us, hl with | [_], _ => rfl), PySem.W.mg_of X G atcheck_size⟩
  have t_f_Joinedu_initu : ∃ f fd, Fun K "__init__" "Joined.__init__" s_Joinedu_initu f fd ∧ Binds K fd ["self", "outer", "m", "inner", "k"] [] ∧ Mk K ((cAof C_Joined C_Rule) "Joined") f ∧ mg "Joined" = some (.ref ((cAof C_Joined C_Rule) "Joined")) :=
    let F := fun_mk (st := s_Joinedu_initu) lJoinedu_initu cJoinedu_initu kJoinedu_initu
    ⟨fJoinedu_initu, _, F, (F.binds (ps := ["self", "outer", "m", "inner", "k"]) fun _ _ _ _ _ _ us hl => match us, hl with | [_, _, _, _, _], _ => rfl), e_Joined ▸ (⟨mkJoinedu_initu, inJoinedu_initu, fnJoinedu_initu, kpJoinedu_initu⟩ : Mk K C_Joined fJoinedu_initu), e_Joined ▸ PySem.W.mg_of X G a_Joined⟩
  have t_f_Ruleu_initu : ∃ f fd, Fun K "__init__" "Rule.__init__" s_Ruleu_initu f fd ∧ Binds K fd ["self", "a", "b", "d"] [] ∧ Mk K ((cAof C_Joined C_Rule) "Rule") f ∧ mg "Rule" = some (.ref ((cAof C_Joined C_Rule) "Rule")) :=
    let F := fun_mk (st := s_Ruleu_initu) lRuleu_initu cRuleu_initu kRuleu_initu
    ⟨fRuleu_initu, _, F, (F.binds (ps := ["self", "a", "b", "d"]) fun _ _ _ _ _ _ us hl => match us, hl with | [_, _, _, _], _ => rfl), e_Rule ▸ (⟨mkRuleu_initu, inRuleu_initu, fnRuleu_initu, kpRuleu_initu⟩ : Mk K C_Rule fRuleu_initu), e_Rule ▸ PySem.W.mg_of X G a_Rule⟩
  have t_f__law_near : ∃ f fd, Fun K "_law_near" "_law_near" s__law_near f fd ∧ Binds K fd ["pool", "most"] [] ∧ mg "_law_near" = some (.ref f) :=
    let F := fun_mk (st := s__law_near) l_law_near c_law_near k_law_near
    ⟨f_law_near, _, F, (F.binds (ps := ["pool", "most"]) fun _ _ _ _ _ _ us hl => match us, hl with | [_, _], _ => rfl), PySem.W.mg_of X G at_law_near⟩
  have t_f__law_rule : ∃ f fd, Fun K "_law_rule" "_law_rule" s__law_rule f fd ∧ Binds K fd ["pool"] [] ∧ mg "_law_rule" = some (.ref f) :=
    let F := fun_mk (st := s__law_rule) l_law_rule c_law_rule k_law_rule
    ⟨f_law_rule, _, F, (F.binds (ps := ["pool"]) fun _ _ _ _ _ _ us hl => match us, hl with | [_], _ => rfl), PySem.W.mg_of X G at_law_rule⟩
  have t_f_check_row : ∃ f fd, Fun K "check_row" "check_row" s_check_row f fd ∧ Binds K fd ["n", "row"] [] ∧ mg "check_row" = some (.ref f) :=
    let F := fun_mk (st := s_check_row) lcheck_row ccheck_row kcheck_row
    ⟨fcheck_row, _, F, (F.binds (ps := ["n", "row"]) fun _ _ _ _ _ _ us hl => match us, hl with | [_, _], _ => rfl), PySem.W.mg_of X G atcheck_row⟩
  have t_f_Joined_size : ∃ p f fd, Fun K "size" "Joined.size" s_Joined_size f fd ∧ Binds K fd ["self"] [] ∧ PropOf K ((cAof C_Joined C_Rule) "Joined") "size" p f :=
    let F := fun_mk (st := s_Joined_size) lJoined_size cJoined_size kJoined_size
    ⟨pJoined_size, fJoined_size, _, F, (F.binds (ps := ["self"]) fun _ _ _ _ _ _ us hl => match us, hl with | [_], _ => rfl), e_Joined ▸ (⟨atJoined_size, geJoined_size, taJoined_size, ⟨rJoined_size, reJoined_size⟩⟩ : PropOf K C_Joined "size" pJoined_size fJoined_size)⟩
  have t_f_gcd : ∃ f fd, Fun K "gcd" "gcd" s_gcd f fd ∧ Binds K fd ["one", "other"] [] ∧ mg "gcd" = some (.ref f) :=
    let F := fun_mk (st := s_gcd) lgcd cgcd kgcd
    ⟨fgcd, _, F, (F.binds (ps := ["one", "other"]) fun _ _ _ _ _ _ us hl => match us, hl with | [_, _], _ => rfl), PySem.W.mg_of X G atgcd⟩
  have t_f_inverse : ∃ f fd, Fun K "inverse" "inverse" s_inverse f fd ∧ Binds K fd ["a", "n"] [] ∧ mg "inverse" = some (.ref f) :=
    let F := fun_mk (st := s_inverse) linverse cinverse kinverse
    ⟨finverse, _, F, (F.binds (ps := ["a", "n"]) fun _ _ _ _ _ _ us hl => match us, hl with | [_, _], _ => rfl), PySem.W.mg_of X G atinverse⟩
  have t_f_solve : ∃ f fd, Fun K "solve" "solve" s_solve f fd ∧ Binds K fd ["a", "v", "n"] [] ∧ mg "solve" = some (.ref f) :=
    let F := fun_mk (st := s_solve) lsolve csolve ksolve
    ⟨fsolve, _, F, (F.binds (ps := ["a", "v", "n"]) fun _ _ _ _ _ _ us hl => match us, hl with | [_, _, _], _ => rfl), PySem.W.mg_of X G atsolve⟩
  have t_f_Rule_d : ∃ p f fd, Fun K "d" "Rule.d" s_Rule_d f fd ∧ Binds K fd ["self"] [] ∧ PropOf K ((cAof C_Joined C_Rule) "Rule") "d" p f :=
    let F := fun_mk (st := s_Rule_d) lRule_d cRule_d kRule_d
    ⟨pRule_d, fRule_d, _, F, (F.binds (ps := ["self"]) fun _ _ _ _ _ _ us hl => match us, hl with | [_], _ => rfl), e_Rule ▸ (⟨atRule_d, geRule_d, taRule_d, ⟨rRule_d, reRule_d⟩⟩ : PropOf K C_Rule "d" pRule_d fRule_d)⟩
  have t_f_Rule_a : ∃ p f fd, Fun K "a" "Rule.a" s_Rule_a f fd ∧ Binds K fd ["self"] [] ∧ PropOf K ((cAof C_Joined C_Rule) "Rule") "a" p f :=
    let F := fun_mk (st := s_Rule_a) lRule_a cRule_a kRule_a
    ⟨pRule_a, fRule_a, _, F, (F.binds (ps := ["self"]) fun _ _ _ _ _ _ us hl => match us, hl with | [_], _ => rfl), e_Rule ▸ (⟨atRule_a, geRule_a, taRule_a, ⟨rRule_a, reRule_a⟩⟩ : PropOf K C_Rule "a" pRule_a fRule_a)⟩
  have t_f_Rule_b : ∃ p f fd, Fun K "b" "Rule.b" s_Rule_b f fd ∧ Binds K fd ["self"] [] ∧ PropOf K ((cAof C_Joined C_Rule) "Rule") "b" p f :=
    let F := fun_mk (st := s_Rule_b) lRule_b cRule_b kRule_b
    ⟨pRule_b, fRule_b, _, F, (F.binds (ps := ["self"]) fun _ _ _ _ _ _ us hl => match us, hl with | [_], _ => rfl), e_Rule ▸ (⟨atRule_b, geRule_b, taRule_b, ⟨rRule_b, reRule_b⟩⟩ : PropOf K C_Rule "b" pRule_b fRule_b)⟩
  have t_f_Joined_place : ∃ f fd, Fun K "place" "Joined.place" s_Joined_place f fd ∧ Binds K fd ["self", "row", "sign"] [] ∧ Meth K ((cAof C_Joined C_Rule) "Joined") "place" f :=
    let F := fun_mk (st := s_Joined_place) lJoined_place cJoined_place kJoined_place
    ⟨fJoined_place, _, F, (F.binds (ps := ["self", "row", "sign"]) fun _ _ _ _ _ _ us hl => match us, hl with | [_, _, _], _ => rfl), e_Joined ▸ (⟨atJoined_place, fnJoined_place, kJoined_place⟩ : Meth K C_Joined "place" fJoined_place)⟩
  have t_f__law_lists : ∃ f fd, Fun K "_law_lists" "_law_lists" s__law_lists f fd ∧ Binds K fd ["square", "size"] [] ∧ mg "_law_lists" = some (.ref f) :=
    let F := fun_mk (st := s__law_lists) l_law_lists c_law_lists k_law_lists
    ⟨f_law_lists, _, F, (F.binds (ps := ["square", "size"]) fun _ _ _ _ _ _ us hl => match us, hl with | [_, _], _ => rfl), PySem.W.mg_of X G at_law_lists⟩
  have t_f__law_whole : ∃ f fd, Fun K "_law_whole" "_law_whole" s__law_whole f fd ∧ Binds K fd ["found"] [] ∧ mg "_law_whole" = some (.ref f) :=
    let F := fun_mk (st := s__law_whole) l_law_whole c_law_whole k_law_whole
    ⟨f_law_whole, _, F, (F.binds (ps := ["found"]) fun _ _ _ _ _ _ us hl => match us, hl with | [_], _ => rfl), PySem.W.mg_of X G at_law_whole⟩
  have t_f_check_cell : ∃ f fd, Fun K "check_cell" "check_cell" s_check_cell f fd ∧ Binds K fd ["n", "row", "column"] [] ∧ mg "check_cell" = some (.ref f) :=
    let F := fun_mk (st := s_check_cell) lcheck_cell ccheck_cell kcheck_cell
    ⟨fcheck_cell, _, F, (F.binds (ps := ["n", "row", "column"]) fun _ _ _ _ _ _ us hl => match us, hl with | [_, _, _], _ => rfl), PySem.W.mg_of X G atcheck_cell⟩
  have t_f_Rule_entry : ∃ f fd, Fun K "entry" "Rule.entry" s_Rule_entry f fd ∧ Binds K fd ["self", "row", "column"] [] ∧ Meth K ((cAof C_Joined C_Rule) "Rule") "entry" f :=
    let F := fun_mk (st := s_Rule_entry) lRule_entry cRule_entry kRule_entry
    ⟨fRule_entry, _, F, (F.binds (ps := ["self", "row", "column"]) fun _ _ _ _ _ _ us hl => match us, hl with | [_, _, _], _ => rfl), e_Rule ▸ (⟨atRule_entry, fnRule_entry, kRule_entry⟩ : Meth K C_Rule "entry" fRule_entry)⟩
  have t_f_Rule_sign : ∃ f fd, Fun K "sign" "Rule.sign" s_Rule_sign f fd ∧ Binds K fd ["self", "n", "row", "column"] [] ∧ Meth K ((cAof C_Joined C_Rule) "Rule") "sign" f :=
    let F := fun_mk (st := s_Rule_sign) lRule_sign cRule_sign kRule_sign
    ⟨fRule_sign, _, F, (F.binds (ps := ["self", "n", "row", "column"]) fun _ _ _ _ _ _ us hl => match us, hl with | [_, _, _, _], _ => rfl), e_Rule ▸ (⟨atRule_sign, fnRule_sign, kRule_sign⟩ : Meth K C_Rule "sign" fRule_sign)⟩
  have t_f_Joined_sign : ∃ f fd, Fun K "sign" "Joined.sign" s_Joined_sign f fd ∧ Binds K fd ["self", "row", "column"] [] ∧ Meth K ((cAof C_Joined C_Rule) "Joined") "sign" f :=
    let F := fun_mk (st := s_Joined_sign) lJoined_sign cJoined_sign kJoined_sign
    ⟨fJoined_sign, _, F, (F.binds (ps := ["self", "row", "column"]) fun _ _ _ _ _ _ us hl => match us, hl with | [_, _, _], _ => rfl), e_Joined ▸ (⟨atJoined_sign, fnJoined_sign, kJoined_sign⟩ : Meth K C_Joined "sign" fJoined_sign)⟩
  have t_f__law_rows : ∃ f fd, Fun K "_law_rows" "_law_rows" s__law_rows f fd ∧ Binds K fd ["lists", "square", "size"] [] ∧ mg "_law_rows" = some (.ref f) :=
    let F := fun_mk (st := s__law_rows) l_law_rows c_law_rows k_law_rows
    ⟨f_law_rows, _, F, (F.binds (ps := ["lists", "square", "size"]) fun _ _ _ _ _ _ us hl => match us, hl with | [_, _, _], _ => rfl), PySem.W.mg_of X G at_law_rows⟩
  have t_f__law_true : ∃ f fd, Fun K "_law_true" "_law_true" s__law_true f fd ∧ Binds K fd ["found", "due"] [] ∧ mg "_law_true" = some (.ref f) :=
    let F := fun_mk (st := s__law_true) l_law_true c_law_true k_law_true
    ⟨f_law_true, _, F, (F.binds (ps := ["found", "due"]) fun _ _ _ _ _ _ us hl => match us, hl with | [_, _], _ => rfl), PySem.W.mg_of X G at_law_true⟩
  have t_f_Joined_rows_clear : ∃ f fd, Fun K "rows_clear" "Joined.rows_clear" s_Joined_rows_clear f fd ∧ Binds K fd ["self"] [] ∧ Meth K ((cAof C_Joined C_Rule) "Joined") "rows_clear" f :=
    let F := fun_mk (st := s_Joined_rows_clear) lJoined_rows_clear cJoined_rows_clear kJoined_rows_clear
    ⟨fJoined_rows_clear, _, F, (F.binds (ps := ["self"]) fun _ _ _ _ _ _ us hl => match us, hl with | [_], _ => rfl), e_Joined ▸ (⟨atJoined_rows_clear, fnJoined_rows_clear, kJoined_rows_clear⟩ : Meth K C_Joined "rows_clear" fJoined_rows_clear)⟩
  have t_f_Joined_columns_clear : ∃ f fd, Fun K "columns_clear" "Joined.columns_clear" s_Joined_columns_clear f fd ∧ Binds K fd ["self"] [] ∧ Meth K ((cAof C_Joined C_Rule) "Joined") "columns_clear" f :=
    let F := fun_mk (st := s_Joined_columns_clear) lJoined_columns_clear cJoined_columns_clear kJoined_columns_clear
    ⟨fJoined_columns_clear, _, F, (F.binds (ps := ["self"]) fun _ _ _ _ _ _ us hl => match us, hl with | [_], _ => rfl), e_Joined ▸ (⟨atJoined_columns_clear, fnJoined_columns_clear, kJoined_columns_clear⟩ : Meth K C_Joined "columns_clear" fJoined_columns_clear)⟩
  have t_f__law_clear : ∃ f fd, Fun K "_law_clear" "_law_clear" s__law_clear f fd ∧ Binds K fd ["lists", "square", "size"] [] ∧ mg "_law_clear" = some (.ref f) :=
    let F := fun_mk (st := s__law_clear) l_law_clear c_law_clear k_law_clear
    ⟨f_law_clear, _, F, (F.binds (ps := ["lists", "square", "size"]) fun _ _ _ _ _ _ us hl => match us, hl with | [_, _, _], _ => rfl), PySem.W.mg_of X G at_law_clear⟩
  have t_f__law_pairs : ∃ f fd, Fun K "_law_pairs" "_law_pairs" s__law_pairs f fd ∧ Binds K fd ["lists", "others", "size"] [] ∧ mg "_law_pairs" = some (.ref f) :=
    let F := fun_mk (st := s__law_pairs) l_law_pairs c_law_pairs k_law_pairs
    ⟨f_law_pairs, _, F, (F.binds (ps := ["lists", "others", "size"]) fun _ _ _ _ _ _ us hl => match us, hl with | [_, _, _], _ => rfl), PySem.W.mg_of X G at_law_pairs⟩
  have t_f_cross : ∃ f fd, Fun K "cross" "cross" s_cross f fd ∧ Binds K fd ["one", "other"] [] ∧ mg "cross" = some (.ref f) :=
    let F := fun_mk (st := s_cross) lcross ccross kcross
    ⟨fcross, _, F, (F.binds (ps := ["one", "other"]) fun _ _ _ _ _ _ us hl => match us, hl with | [_, _], _ => rfl), PySem.W.mg_of X G atcross⟩
  have t_f_Joined_paired : ∃ f fd, Fun K "paired" "Joined.paired" s_Joined_paired f fd ∧ Binds K fd ["self", "other"] [] ∧ Meth K ((cAof C_Joined C_Rule) "Joined") "paired" f :=
    let F := fun_mk (st := s_Joined_paired) lJoined_paired cJoined_paired kJoined_paired
    ⟨fJoined_paired, _, F, (F.binds (ps := ["self", "other"]) fun _ _ _ _ _ _ us hl => match us, hl with | [_, _], _ => rfl), e_Joined ▸ (⟨atJoined_paired, fnJoined_paired, kJoined_paired⟩ : Meth K C_Joined "paired" fJoined_paired)⟩
  have t_f__law_asked : ∃ f fd, Fun K "_law_asked" "_law_asked" s__law_asked f fd ∧ Binds K fd ["pool"] [] ∧ mg "_law_asked" = some (.ref f) :=
    let F := fun_mk (st := s__law_asked) l_law_asked c_law_asked k_law_asked
    ⟨f_law_asked, _, F, (F.binds (ps := ["pool"]) fun _ _ _ _ _ _ us hl => match us, hl with | [_], _ => rfl), PySem.W.mg_of X G at_law_asked⟩
  have t_f__law_pool : ∃ f fd, Fun K "_law_pool" "_law_pool" s__law_pool f fd ∧ Binds K fd ["script", "k"] [] ∧ mg "_law_pool" = some (.ref f) :=
    let F := fun_mk (st := s__law_pool) l_law_pool c_law_pool k_law_pool
    ⟨f_law_pool, _, F, (F.binds (ps := ["script", "k"]) fun _ _ _ _ _ _ us hl => match us, hl with | [_, _], _ => rfl), PySem.W.mg_of X G at_law_pool⟩
  have t_f_law : ∃ f fd, Fun K "law" "law" s_law f fd ∧ Binds K fd ["script"] [] ∧ mg "law" = some (.ref f) :=
    let F := fun_mk (st := s_law) llaw claw klaw
    ⟨flaw, _, F, (F.binds (ps := ["script"]) fun _ _ _ _ _ _ us hl => match us, hl with | [_], _ => rfl), PySem.W.mg_of X G atlaw⟩
  exact { n_abs := t_n_abs, n_bool := t_n_bool, n_divmod := t_n_divmod, n_int := t_n_int, n_isinstance := t_n_isinstance, n_len := t_n_len, n_list := t_n_list, n_max := t_n_max, n_min := t_n_min, n_range := t_n_range, n_set := t_n_set, n_sorted := t_n_sorted, cf_Joined := t_cf_Joined, cf_Rule := t_cf_Rule, c_MOST := t_c_MOST, f__law_take := t_f__law_take, f_check_size := t_f_check_size, f_Joinedu_initu := t_f_Joinedu_initu, f_Ruleu_initu := t_f_Ruleu_initu, f__law_near := t_f__law_near, f__law_rule := t_f__law_rule, f_check_row := t_f_check_row, f_Joined_size := t_f_Joined_size, f_gcd := t_f_gcd, f_inverse := t_f_inverse, f_solve := t_f_solve, f_Rule_d := t_f_Rule_d, f_Rule_a := t_f_Rule_a, f_Rule_b := t_f_Rule_b, f_Joined_place := t_f_Joined_place, f__law_lists := t_f__law_lists, f__law_whole := t_f__law_whole, f_check_cell := t_f_check_cell, f_Rule_entry := t_f_Rule_entry, f_Rule_sign := t_f_Rule_sign, f_Joined_sign := t_f_Joined_sign, f__law_rows := t_f__law_rows, f__law_true := t_f__law_true, f_Joined_rows_clear := t_f_Joined_rows_clear, f_Joined_columns_clear := t_f_Joined_columns_clear, f__law_clear := t_f__law_clear, f__law_pairs := t_f__law_pairs, f_cross := t_f_cross, f_Joined_paired := t_f_Joined_paired, f__law_asked := t_f__law_asked, f__law_pool := t_f__law_pool, f_law := t_f_law }
theorem F_mk {q : Program} {w : World} {K : PySem.W.Frag} {mg : Str → Option Value} {fa f0 : Addr} {oc : Value} {od an : Option Addr} {kV dc pm cd ct : Value} {sl : Array (Option Value)} {m : Nat}
    (hm : mg "law" = some (.ref fa)) (hl : K.lookup f0 = some ⟨oc, od, .func (PySem.W.fnOf "law" "law" (defArgs s_law) (defBody s_law) (defScope s_law) .none kV dc pm an cd ct), sl⟩) (hc : PySem.W.codeIn K cd "law" = true) (hk : PySem.W.keepIn K (.ref f0) = true)
    (H : ∃ cA : Str → Addr, mg "law" = some (.ref f0) ∧ ∀ P w base, Txt P w K cA mg base)
    (L : ∀ ns : List Int, ns.length ≤ m → (∀ z ∈ ns, Builtin.Int.intBits z ≤ 1048576) → F_law.app [.frl (ns.map .int)] = some (.d (.bl true))) :
    ∃ fd : FuncData, (∀ (s : Shared) (u : Value), BindsTo s fd ⟨[u], []⟩ [("script", u)]) ∧ ∀ base : Heap, K.In base → base.Ns mainGlobals mg → FnOk q w K mg base CX0 7 fa fd ["script"] (lawSp m K) := by
  obtain ⟨cA, h0, T⟩ := H
  have e := hm.symm.trans h0
  cases e
  exact ⟨_, fun s v => .of_eq rfl, fun base _ _ => (fn_data (fun_mk (st := s_law) hl hc hk) sc_law (d_law (T q w base))).imp (law_imp (W := ⟨K, cA, fl⟩) L)⟩
end K88
set_option Elab.async false
set_option linter.all false
set_option maxRecDepth 100000
set_option maxHeartbeats 1000000
set_option exponentiation.threshold 20000
namespace K88
open PySem DL
theorem gcd_mod (x y : Int) : Int.gcd y (x % y) = Int.gcd x y := by
  have := Int.emod_add_mul_ediv x y
  conv => rhs; rw [← this, Int.gcd_comm]
  simp
theorem gcd_ok (a b : Int) (hb : b.natAbs < 2 ^ 60) : F_gcd.app [.int a, .int b] = some (.d (.int (Int.gcd a b))) := by
  refine eq_of_op ?_
  rw [op_app]
  refine fn_run rfl ?_
  unfold m_gcd
  simp only [ev_ret, ev_opt, ev_bnd, ev_frz, ev_up, ev_var, ev_mov, varp_d, varp_w, movp_d, movp_w, ev_c, ev_e1, ev_e2, ev_eL, ev_anil, ev_acons, ev_onil, ev_ocons, ev_tup, ev_lst, ev_asB, ev_not, ev_or, ev_and, ev_eIf, ev_vB, ev_vAnd, ev_vOr, ev_vNot, ev_e3c, ex_bl, blp_bl, op_some, op_map, op_gI, op_gI0, op_gEqI, op_gNeI, op_isN, op_len, op_lenF, op_lenT, op_int, op_abs, op_max2, op_min2, op_divmod, op_cat, op_list, op_neg, op_ixL, op_ixF, op_ixT, atI_0, atI_1, atI_2, ev_call, ev_meth, ex_ins, ev_make, ev_callO, ev_fld, flds_d, flds_w, flds_pm, ev_bor, ev_borT, ev_cut, ev_pInt, ex_int, op_cutL, ev_lstR, ev_iSeq, ex_lst, ex_frl, ev_iTp, ex_tup, ev_rg1, ex_int1, ev_rg2, ex_int2, run_seq, run_next, run_brk, run_cont, run_never, run_retN, run_ret, run_expr, run_if, run_set, run_tg, op_gNm, op_gTp, op_gNil, op_gCons, run_par, ex_two, run_fldS, ex_o, ex_l, run_setIx, run_for, ev_lc, op_stAt, stp_any, free_un, free_d, free_w, mk_d, mk_l, mk_o, divOk_iff, modOk_iff, powOk_iff, own_d, own_w, own_pm, own_s, seto_w, seto_pm, seto_s, op_backs_pm, op_backs_d, op_backs_nil, froz_ld, froz_d, froz_o, List.getElem?_cons_zero, List.getElem?_cons_succ, List.set_cons_zero, List.set_cons_succ, List.map_cons, List.map_nil, sfrz_un, sfrz_d, sfrz_w, sfrz_pm, flat_bl, flat_int, flat_non, flat_str, isN_non, isN_int, isN_bl, isN_str, isN_tup, isN_lst, isN_ins, decide_eq_true_eq, decide_eq_false_iff_not, Bool.not_eq_true', Bool.not_eq_false', true_and, and_true, forall_const, implies_true, false_implies, true_implies, forall_eq, Bool.false_eq_true, Bool.true_eq_false, if_true, if_false, reduceCtorEq, imp_self, List.cons_append, List.nil_append, List.replicate_succ, List.replicate_zero, Nat.reduceSub, Nat.reduceAdd, ne_eq, not_true_eq_false, not_false_eq_true]
  refine while_run (fun n e => ∃ x y : Int, e = [.d (.int a), .d (.int b), .d (.int x), .d (.int y)] ∧ 0 ≤ x ∧ 0 ≤ y ∧ y.toNat ≤ n ∧ Int.gcd x y = Int.gcd a b) b.natAbs _ ⟨_, _, rfl, ?_, ?_, ?_, ?_⟩ ?_ _ ?_
  · split <;> omega
  · split <;> omega
  · split <;> omega
  · split <;> split <;> simp
  · rintro n e ⟨x, y, rfl, hx, hy, hn, hg⟩
    simp only [ev_ret, ev_opt, ev_bnd, ev_frz, ev_up, ev_var, ev_mov, varp_d, varp_w, movp_d, movp_w, ev_c, ev_e1, ev_e2, ev_eL, ev_anil, ev_acons, ev_onil, ev_ocons, ev_tup, ev_lst, ev_asB, ev_not, ev_or, ev_and, ev_eIf, ev_vB, ev_vAnd, ev_vOr, ev_vNot, ev_e3c, ex_bl, blp_bl, op_some, op_map, op_gI, op_gI0, op_gEqI, op_gNeI, op_isN, op_len, op_lenF, op_lenT, op_int, op_abs, op_max2, op_min2, op_divmod, op_cat, op_list, op_neg, op_ixL, op_ixF, op_ixT, atI_0, atI_1, atI_2, ev_call, ev_meth, ex_ins, ev_make, ev_callO, ev_fld, flds_d, flds_w, flds_pm, ev_bor, ev_borT, ev_cut, ev_pInt, ex_int, op_cutL, ev_lstR, ev_iSeq, ex_lst, ex_frl, ev_iTp, ex_tup, ev_rg1, ex_int1, ev_rg2, ex_int2, run_seq, run_next, run_brk, run_cont, run_never, run_retN, run_ret, run_expr, run_if, run_set, run_tg, op_gNm, op_gTp, op_gNil, op_gCons, run_par, ex_two, run_fldS, ex_o, ex_l, run_setIx, run_for, ev_lc, op_stAt, stp_any, free_un, free_d, free_w, mk_d, mk_l, mk_o, divOk_iff, modOk_iff, powOk_iff, own_d, own_w, own_pm, own_s, seto_w, seto_pm, seto_s, op_backs_pm, op_backs_d, op_backs_nil, froz_ld, froz_d, froz_o, List.getElem?_cons_zero, List.getElem?_cons_succ, List.set_cons_zero, List.set_cons_succ, List.map_cons, List.map_nil, sfrz_un, sfrz_d, sfrz_w, sfrz_pm, flat_bl, flat_int, flat_non, flat_str, isN_non, isN_int, isN_bl, isN_str, isN_tup, isN_lst, isN_ins, decide_eq_true_eq, decide_eq_false_iff_not, Bool.not_eq_true', Bool.not_eq_false', true_and, and_true, forall_const, implies_true, false_implies, true_implies, forall_eq, Bool.false_eq_true, Bool.true_eq_false, if_true, if_false, reduceCtorEq, imp_self, List.cons_append, List.nil_append, List.replicate_succ, List.replicate_zero, Nat.reduceSub, Nat.reduceAdd, ne_eq, not_true_eq_false, not_false_eq_true]
    refine ⟨fun h => ?_, fun h => ⟨n - 1, by omega, h, _, _, rfl, hy, Int.emod_nonneg _ (by omega), ?_, ?_⟩⟩
    · have : y = 0 := by omega
      subst this
      rw [← hg]
      simp only [Int.gcd_zero_right]
      congr
      omega
    · have := Int.emod_lt_of_pos x h
      have := Int.emod_nonneg x (show y ≠ 0 by omega)
      omega
    · rw [← hg, gcd_mod]
  · omega
/-- b^ a ≡ g: what the walk through Euclid's steps finds -/
theorem inv_ok (a n : Int) (hn : 0 < n) (hb : n < 2 ^ 60) : ∃ x : Int, F_inverse.app [.int a, .int n] = some (.d (.int x)) ∧ 0 ≤ x ∧ x < n ∧ n ∣ x * a - Int.gcd a n := by
  suffices h : Op (F_inverse.app [.int a, .int n]) fun v => ∃ x : Int, v = .d (.int x) ∧ 0 ≤ x ∧ x < n ∧ n ∣ x * a - Int.gcd a n by
    obtain ⟨v, h1, x, rfl, h2⟩ := h
    exact ⟨x, h1, h2⟩
  rw [op_app]
  refine fn_run rfl ?_
  unfold m_inverse
  simp only [ev_ret, ev_opt, ev_bnd, ev_frz, ev_up, ev_var, ev_mov, varp_d, varp_w, movp_d, movp_w, ev_c, ev_e1, ev_e2, ev_eL, ev_anil, ev_acons, ev_onil, ev_ocons, ev_tup, ev_lst, ev_asB, ev_not, ev_or, ev_and, ev_eIf, ev_vB, ev_vAnd, ev_vOr, ev_vNot, ev_e3c, ex_bl, blp_bl, op_some, op_map, op_gI, op_gI0, op_gEqI, op_gNeI, op_isN, op_len, op_lenF, op_lenT, op_int, op_abs, op_max2, op_min2, op_divmod, op_cat, op_list, op_neg, op_ixL, op_ixF, op_ixT, atI_0, atI_1, atI_2, ev_call, ev_meth, ex_ins, ev_make, ev_callO, ev_fld, flds_d, flds_w, flds_pm, ev_bor, ev_borT, ev_cut, ev_pInt, ex_int, op_cutL, ev_lstR, ev_iSeq, ex_lst, ex_frl, ev_iTp, ex_tup, ev_rg1, ex_int1, ev_rg2, ex_int2, run_seq, run_next, run_brk, run_cont, run_never, run_retN, run_ret, run_expr, run_if, run_set, run_tg, op_gNm, op_gTp, op_gNil, op_gCons, run_par, ex_two, run_fldS, ex_o, ex_l, run_setIx, run_for, ev_lc, op_stAt, stp_any, free_un, free_d, free_w, mk_d, mk_l, mk_o, divOk_iff, modOk_iff, powOk_iff, own_d, own_w, own_pm, own_s, seto_w, seto_pm, seto_s, op_backs_pm, op_backs_d, op_backs_nil, froz_ld, froz_d, froz_o, List.getElem?_cons_zero, List.getElem?_cons_succ, List.set_cons_zero, List.set_cons_succ, List.map_cons, List.map_nil, sfrz_un, sfrz_d, sfrz_w, sfrz_pm, flat_bl, flat_int, flat_non, flat_str, isN_non, isN_int, isN_bl, isN_str, isN_tup, isN_lst, isN_ins, decide_eq_true_eq, decide_eq_false_iff_not, Bool.not_eq_true', Bool.not_eq_false', true_and, and_true, forall_const, implies_true, false_implies, true_implies, forall_eq, Bool.false_eq_true, Bool.true_eq_false, if_true, if_false, reduceCtorEq, imp_self, List.cons_append, List.nil_append, List.replicate_succ, List.replicate_zero, Nat.reduceSub, Nat.reduceAdd, ne_eq, not_true_eq_false, not_false_eq_true]
  refine ⟨hn, ?_⟩
  refine while_run (fun f e => ∃ (x y p q : Int) (s : Sl), e = [.d (.int a), .d (.int n), .d (.int x), .d (.int y), .d (.int p), .d (.int q), s] ∧ (s = .un ∨ ∃ z, s = .d z) ∧ 0 < x ∧ 0 ≤ y ∧ y < x + 1 ∧ y.toNat ≤ f ∧ x ≤ n ∧ Int.gcd x y = Int.gcd a n ∧ n ∣ p * a - x ∧ n ∣ q * a - y ∧ (0 ≤ p ∧ q ≤ 0 ∨ p ≤ 0 ∧ 0 ≤ q) ∧ q.natAbs * x.natAbs + p.natAbs * y.natAbs = n.natAbs) n.natAbs _ ⟨_, _, _, _, _, rfl, .inl rfl, hn, ?_, ?_, ?_, ?_, ?_, ?_, ?_, ?_, ?_⟩ ?_ _ ?_
  · exact Int.emod_nonneg _ (by omega)
  · have := Int.emod_lt_of_pos a hn
    omega
  · have := Int.emod_lt_of_pos a hn
    omega
  · omega
  · rw [gcd_mod]
  · exact ⟨-1, by omega⟩
  · refine ⟨a / n, ?_⟩
    have := Int.emod_add_mul_ediv a n
    omega
  · exact .inr ⟨by omega, by omega⟩
  · simp
  · rintro f e ⟨x, y, p, q, s, rfl, hs, hx, hy, hyx, hf, hxn, hg, hp, hq, hsg, hsum⟩
    simp only [ev_ret, ev_opt, ev_bnd, ev_frz, ev_up, ev_var, ev_mov, varp_d, varp_w, movp_d, movp_w, ev_c, ev_e1, ev_e2, ev_eL, ev_anil, ev_acons, ev_onil, ev_ocons, ev_tup, ev_lst, ev_asB, ev_not, ev_or, ev_and, ev_eIf, ev_vB, ev_vAnd, ev_vOr, ev_vNot, ev_e3c, ex_bl, blp_bl, op_some, op_map, op_gI, op_gI0, op_gEqI, op_gNeI, op_isN, op_len, op_lenF, op_lenT, op_int, op_abs, op_max2, op_min2, op_divmod, op_cat, op_list, op_neg, op_ixL, op_ixF, op_ixT, atI_0, atI_1, atI_2, ev_call, ev_meth, ex_ins, ev_make, ev_callO, ev_fld, flds_d, flds_w, flds_pm, ev_bor, ev_borT, ev_cut, ev_pInt, ex_int, op_cutL, ev_lstR, ev_iSeq, ex_lst, ex_frl, ev_iTp, ex_tup, ev_rg1, ex_int1, ev_rg2, ex_int2, run_seq, run_next, run_brk, run_cont, run_never, run_retN, run_ret, run_expr, run_if, run_set, run_tg, op_gNm, op_gTp, op_gNil, op_gCons, run_par, ex_two, run_fldS, ex_o, ex_l, run_setIx, run_for, ev_lc, op_stAt, stp_any, free_un, free_d, free_w, mk_d, mk_l, mk_o, divOk_iff, modOk_iff, powOk_iff, own_d, own_w, own_pm, own_s, seto_w, seto_pm, seto_s, op_backs_pm, op_backs_d, op_backs_nil, froz_ld, froz_d, froz_o, List.getElem?_cons_zero, List.getElem?_cons_succ, List.set_cons_zero, List.set_cons_succ, List.map_cons, List.map_nil, sfrz_un, sfrz_d, sfrz_w, sfrz_pm, flat_bl, flat_int, flat_non, flat_str, isN_non, isN_int, isN_bl, isN_str, isN_tup, isN_lst, isN_ins, decide_eq_true_eq, decide_eq_false_iff_not, Bool.not_eq_true', Bool.not_eq_false', true_and, and_true, forall_const, implies_true, false_implies, true_implies, forall_eq, Bool.false_eq_true, Bool.true_eq_false, if_true, if_false, reduceCtorEq, imp_self, List.cons_append, List.nil_append, List.replicate_succ, List.replicate_zero, Nat.reduceSub, Nat.reduceAdd, ne_eq, not_true_eq_false, not_false_eq_true]
    refine ⟨fun h => ?_, fun h => ⟨f - 1, by omega, ?_⟩⟩
    · have h0 : y = 0 := by omega
      subst h0
      refine ⟨hn, _, rfl, Int.emod_nonneg _ (by omega), Int.emod_lt_of_pos _ hn, ?_⟩
      rw [Int.gcd_zero_right] at hg
      obtain ⟨z, hz⟩ := hp
      have e1 := Int.emod_add_mul_ediv p n
      have e2 : ((Int.gcd a n : Nat) : Int) = x := by rw [← hg]; omega
      rw [e2]
      refine ⟨z - p / n * a, ?_⟩
      have e3 : p % n = p - n * (p / n) := by omega
      rw [e3]
      grind
    · have hq0 : 0 ≤ x / y := Int.ediv_nonneg (by omega) (by omega)
      have hm := Int.emod_add_mul_ediv x y
      have hm0 := Int.emod_nonneg x (show y ≠ 0 by omega)
      have hm1 := Int.emod_lt_of_pos x h
      have e1 : x - x / y * y = x % y := by rw [Int.mul_comm]; omega
      have hdx : x / y ≤ x := Int.ediv_le_self _ (by omega)
      have hx1 : 1 ≤ x.natAbs := by omega
      have hqn : q.natAbs ≤ n.natAbs := by
        have : q.natAbs * 1 ≤ q.natAbs * x.natAbs := Nat.mul_le_mul_left _ hx1
        omega
      have hst : ∀ S : Option Sl → Prop, S (some .un) → (∀ z, S (some (.d z))) → S (some s) := fun S h1 h2 => by
        rcases hs with rfl | ⟨z, rfl⟩
        · exact h1
        · exact h2 z
      have hset : s.free := by
        rcases hs with rfl | ⟨z, rfl⟩ <;> trivial
      refine ⟨⟨h, log2_lt (show y.natAbs < 2 ^ 9000 from ?_) (by decide)⟩, hset, ?_⟩
      · exact Nat.lt_of_lt_of_le (show y.natAbs < 2 ^ 61 by omega) (Nat.pow_le_pow_right (by decide) (by decide))
      have big : ∀ z : Int, z.natAbs ≤ 2 ^ 60 → z.natAbs < 2 ^ 9000 := fun z hz => Nat.lt_of_lt_of_le (show z.natAbs < 2 ^ 61 by omega) (Nat.pow_le_pow_right (by decide) (by decide))
      refine ⟨mulOk_of (big _ (by omega)) (big _ (by omega)), mulOk_of (big _ (by omega)) (big _ (by omega)), _, _, _, _, _, rfl, .inr ⟨_, rfl⟩, h, ?_, ?_, ?_, ?_, ?_, hq, ?_, ?_, ?_⟩
      · omega
      · omega
      · omega
      · omega
      · rw [e1, gcd_mod]
        exact hg
      · obtain ⟨u, hu⟩ := hp
        obtain ⟨v, hv⟩ := hq
        exact ⟨u - x / y * v, by grind⟩
      · rcases hsg with ⟨h1, h2⟩ | ⟨h1, h2⟩
        · right
          have := Int.mul_nonneg hq0 (show 0 ≤ -q by omega)
          have e : x / y * -q = -(x / y * q) := by grind
          omega
        · left
          have := Int.mul_nonneg hq0 h2
          omega
      · have e2 : (p - x / y * q).natAbs = p.natAbs + (x / y).natAbs * q.natAbs := by
          rcases hsg with ⟨h1, h2⟩ | ⟨h1, h2⟩
          · have := Int.mul_nonneg hq0 (show 0 ≤ -q by omega)
            have e : x / y * -q = -(x / y * q) := by grind
            rw [← Int.natAbs_mul]
            omega
          · have := Int.mul_nonneg hq0 h2
            rw [← Int.natAbs_mul]
            omega
        have e3 : x.natAbs = (x - x / y * y).natAbs + (x / y).natAbs * y.natAbs := by
          rw [← Int.natAbs_mul]
          omega
        rw [e2]
        rw [e3] at hsum
        generalize (x - x / y * y).natAbs = A at *
        grind
  · omega
/-- a number of less than 9000 bits -/
def Sm (z : Int) : Prop := z.natAbs < 2 ^ 2000
theorem sm_mul {x y : Int} (hx : x.natAbs < 2 ^ 4000) (hy : y.natAbs < 2 ^ 4000) : mulOk x y = true :=
  mulOk_of (Nat.lt_of_lt_of_le hx (Nat.pow_le_pow_right (by decide) (by decide))) (Nat.lt_of_lt_of_le hy (Nat.pow_le_pow_right (by decide) (by decide)))
theorem solve_ok (a v n : Int) (hn : 0 < n) (hb : n < 2 ^ 60) (hv : v.natAbs < 2 ^ 4000) : ∃ r : Dt, F_solve.app [.int a, .int v, .int n] = some (.d r) ∧
    ((¬ ((Int.gcd a n : Nat) : Int) ∣ v ∧ r = .non) ∨ ∃ x0 ap : Int, r = .tup [.int x0, .int ap] ∧ 0 < ap ∧ ap * Int.gcd a n = n ∧ 0 ≤ x0 ∧ x0 < ap ∧ ∀ x, n ∣ a * x - v ↔ ap ∣ x - x0) := by
  suffices h : Op (F_solve.app [.int a, .int v, .int n]) fun w => ∃ r : Dt, w = .d r ∧ ((¬ ((Int.gcd a n : Nat) : Int) ∣ v ∧ r = .non) ∨ ∃ x0 ap : Int, r = .tup [.int x0, .int ap] ∧ 0 < ap ∧ ap * Int.gcd a n = n ∧ 0 ≤ x0 ∧ x0 < ap ∧ ∀ x, n ∣ a * x - v ↔ ap ∣ x - x0) by
    obtain ⟨w, h1, r, rfl, h2⟩ := h
    exact ⟨r, h1, h2⟩
  have hg0 : 0 < Int.gcd a n := Int.gcd_pos_of_ne_zero_right _ (by omega)
  have hga : ((Int.gcd a n : Nat) : Int) ∣ a := Int.gcd_dvd_left ..
  have hgn : ((Int.gcd a n : Nat) : Int) ∣ n := Int.gcd_dvd_right ..
  have hgl : ((Int.gcd a n : Nat) : Int) ≤ n := Int.le_of_dvd hn hgn
  have hlog : ∀ z : Int, 0 < z → z ≤ n → z.natAbs.log2 < 9000 := fun z h1 h2 => log2_lt (Nat.lt_of_lt_of_le (show z.natAbs < 2 ^ 61 by omega) (Nat.pow_le_pow_right (by decide) (by decide))) (by decide)
  rw [op_app]
  refine fn_run rfl ?_
  unfold m_solve
  simp only [ev_ret, ev_opt, ev_bnd, ev_frz, ev_up, ev_var, ev_mov, varp_d, varp_w, movp_d, movp_w, ev_c, ev_e1, ev_e2, ev_eL, ev_anil, ev_acons, ev_onil, ev_ocons, ev_tup, ev_lst, ev_asB, ev_not, ev_or, ev_and, ev_eIf, ev_vB, ev_vAnd, ev_vOr, ev_vNot, ev_e3c, ex_bl, blp_bl, op_some, op_map, op_gI, op_gI0, op_gEqI, op_gNeI, op_isN, op_len, op_lenF, op_lenT, op_int, op_abs, op_max2, op_min2, op_divmod, op_cat, op_list, op_neg, op_ixL, op_ixF, op_ixT, atI_0, atI_1, atI_2, ev_call, ev_meth, ex_ins, ev_make, ev_callO, ev_fld, flds_d, flds_w, flds_pm, ev_bor, ev_borT, ev_cut, ev_pInt, ex_int, op_cutL, ev_lstR, ev_iSeq, ex_lst, ex_frl, ev_iTp, ex_tup, ev_rg1, ex_int1, ev_rg2, ex_int2, run_seq, run_next, run_brk, run_cont, run_never, run_retN, run_ret, run_expr, run_if, run_set, run_tg, op_gNm, op_gTp, op_gNil, op_gCons, run_par, ex_two, run_fldS, ex_o, ex_l, run_setIx, run_for, ev_lc, op_stAt, stp_any, free_un, free_d, free_w, mk_d, mk_l, mk_o, divOk_iff, modOk_iff, powOk_iff, own_d, own_w, own_pm, own_s, seto_w, seto_pm, seto_s, op_backs_pm, op_backs_d, op_backs_nil, froz_ld, froz_d, froz_o, List.getElem?_cons_zero, List.getElem?_cons_succ, List.set_cons_zero, List.set_cons_succ, List.map_cons, List.map_nil, sfrz_un, sfrz_d, sfrz_w, sfrz_pm, flat_bl, flat_int, flat_non, flat_str, isN_non, isN_int, isN_bl, isN_str, isN_tup, isN_lst, isN_ins, decide_eq_true_eq, decide_eq_false_iff_not, Bool.not_eq_true', Bool.not_eq_false', true_and, and_true, forall_const, implies_true, false_implies, true_implies, forall_eq, Bool.false_eq_true, Bool.true_eq_false, if_true, if_false, reduceCtorEq, imp_self, List.cons_append, List.nil_append, List.replicate_succ, List.replicate_zero, Nat.reduceSub, Nat.reduceAdd, ne_eq, not_true_eq_false, not_false_eq_true, gcd_ok a n (by omega)]
  generalize hgg : ((Int.gcd a n : Nat) : Int) = g at *
  have hgp : 0 < g := by omega
  refine ⟨hgp, fun h => ⟨.non, rfl, .inl ⟨fun hd => h (Int.emod_eq_zero_of_dvd hd), rfl⟩⟩, fun h => ⟨⟨hgp, hlog g hgp hgl⟩, ⟨hgp, hlog g hgp hgl⟩, ⟨hgp, hlog g hgp hgl⟩, ?_⟩⟩
  obtain ⟨a', ha⟩ := hga
  obtain ⟨n', hn'⟩ := hgn
  obtain ⟨v', hv'⟩ := Int.dvd_of_emod_eq_zero h
  have en : n / g = n' := by rw [hn', Int.mul_ediv_cancel_left _ (by omega)]
  have ea : a / g = a' := by rw [ha, Int.mul_ediv_cancel_left _ (by omega)]
  have ev : v / g = v' := by rw [hv', Int.mul_ediv_cancel_left _ (by omega)]
  have hn0 : 0 < n' := by
    rcases Int.lt_or_le 0 n' with h | h
    · exact h
    · have := Int.mul_nonneg (show 0 ≤ g by omega) (show 0 ≤ -n' by omega)
      have e : g * -n' = -(g * n') := by grind
      omega
  have hnl : n' ≤ n := Int.le_of_dvd hn ⟨g, by rw [hn', Int.mul_comm]⟩
  rw [en, ea, ev]
  have hc : Int.gcd a' n' = 1 := by
    have := Int.gcd_mul_left g a' n'
    rw [← ha, ← hn'] at this
    have e : g.natAbs = Int.gcd a n := by omega
    rw [e] at this
    exact Nat.eq_of_mul_eq_mul_left hg0 (by omega)
  obtain ⟨i, hi, hi0, hi1, k, hk⟩ := inv_ok a' n' hn0 (by omega)
  rw [hc] at hk
  have hvs : v'.natAbs ≤ v.natAbs := by
    rw [hv', Int.natAbs_mul]
    exact Nat.le_mul_of_pos_left _ (by omega)
  simp only [ev_ret, ev_opt, ev_bnd, ev_frz, ev_up, ev_var, ev_mov, varp_d, varp_w, movp_d, movp_w, ev_c, ev_e1, ev_e2, ev_eL, ev_anil, ev_acons, ev_onil, ev_ocons, ev_tup, ev_lst, ev_asB, ev_not, ev_or, ev_and, ev_eIf, ev_vB, ev_vAnd, ev_vOr, ev_vNot, ev_e3c, ex_bl, blp_bl, op_some, op_map, op_gI, op_gI0, op_gEqI, op_gNeI, op_isN, op_len, op_lenF, op_lenT, op_int, op_abs, op_max2, op_min2, op_divmod, op_cat, op_list, op_neg, op_ixL, op_ixF, op_ixT, atI_0, atI_1, atI_2, ev_call, ev_meth, ex_ins, ev_make, ev_callO, ev_fld, flds_d, flds_w, flds_pm, ev_bor, ev_borT, ev_cut, ev_pInt, ex_int, op_cutL, ev_lstR, ev_iSeq, ex_lst, ex_frl, ev_iTp, ex_tup, ev_rg1, ex_int1, ev_rg2, ex_int2, run_seq, run_next, run_brk, run_cont, run_never, run_retN, run_ret, run_expr, run_if, run_set, run_tg, op_gNm, op_gTp, op_gNil, op_gCons, run_par, ex_two, run_fldS, ex_o, ex_l, run_setIx, run_for, ev_lc, op_stAt, stp_any, free_un, free_d, free_w, mk_d, mk_l, mk_o, divOk_iff, modOk_iff, powOk_iff, own_d, own_w, own_pm, own_s, seto_w, seto_pm, seto_s, op_backs_pm, op_backs_d, op_backs_nil, froz_ld, froz_d, froz_o, List.getElem?_cons_zero, List.getElem?_cons_succ, List.set_cons_zero, List.set_cons_succ, List.map_cons, List.map_nil, sfrz_un, sfrz_d, sfrz_w, sfrz_pm, flat_bl, flat_int, flat_non, flat_str, isN_non, isN_int, isN_bl, isN_str, isN_tup, isN_lst, isN_ins, decide_eq_true_eq, decide_eq_false_iff_not, Bool.not_eq_true', Bool.not_eq_false', true_and, and_true, forall_const, implies_true, false_implies, true_implies, forall_eq, Bool.false_eq_true, Bool.true_eq_false, if_true, if_false, reduceCtorEq, imp_self, List.cons_append, List.nil_append, List.replicate_succ, List.replicate_zero, Nat.reduceSub, Nat.reduceAdd, ne_eq, not_true_eq_false, not_false_eq_true, hi]
  refine ⟨sm_mul (by omega) (Nat.lt_of_lt_of_le (show i.natAbs < 2 ^ 61 by omega) (Nat.pow_le_pow_right (by decide) (by decide))), hn0, _, rfl, .inr ⟨_, _, rfl, hn0, by rw [Int.mul_comm]; exact hn'.symm, Int.emod_nonneg _ (by omega), Int.emod_lt_of_pos _ hn0, fun x => ?_⟩⟩
  have hm := Int.emod_add_mul_ediv (v' * i) n'
  generalize v' * i % n' = x0 at *
  generalize v' * i / n' = q at *
  constructor
  · rintro ⟨z, hz⟩
    have : a' * x - v' = n' * z := by
      have e : g * (a' * x - v') = g * (n' * z) := by grind
      exact Int.eq_of_mul_eq_mul_left (by omega) e
    exact ⟨i * z - k * x + q, by grind⟩
  · rintro ⟨z, hz⟩
    exact ⟨a' * z - a' * q + k * v', by grind⟩
structure R where
  a : Int
  b : Int
  d : Int
structure J where
  o : R
  m : Int
  i : R
  k : Int
abbrev R.dt (o : R) : Dt := .ins "Rule" [.int o.a, .int o.b, .int o.d]
abbrev J.dt (q : J) : Dt := .ins "Joined" [q.o.dt, .int q.m, q.i.dt, .int q.k]
structure R.Ok (o : R) : Prop where
  a : o.a.natAbs < 2 ^ 200
  b : o.b.natAbs < 2 ^ 200
  d : o.d.natAbs < 2 ^ 200
structure J.Ok (q : J) : Prop where
  hm : 1 ≤ q.m
  hk : 1 ≤ q.k
  hN : q.m * q.k ≤ 10
  o : q.o.Ok
  i : q.i.Ok
theorem J.Ok.m10 {q : J} (h : q.Ok) : q.m ≤ 10 := by
  have := Int.mul_le_mul_of_nonneg_left h.hk (show 0 ≤ q.m by have := h.hm; omega)
  have := h.hN
  omega
theorem J.Ok.k10 {q : J} (h : q.Ok) : q.k ≤ 10 := by
  have := Int.mul_le_mul_of_nonneg_right h.hm (show 0 ≤ q.k by have := h.hk; omega)
  have := h.hN
  omega
def fR (o : R) (n x y : Int) : Int := (o.a * x + o.b * y + o.d) % n
def sgn (q : J) (r c : Int) : Int := q.k * fR q.o q.m (r / q.k) (c / q.k) + fR q.i q.k (r % q.k) (c % q.k)
def P (q : J) (r s : Int) : List Int := (rng (q.m * q.k)).filter fun c => decide (sgn q r c = s)
theorem size_ok (q : J) (h : q.Ok) : F_Joined_size.app [q.dt] = some (.d (.int (q.m * q.k))) := by
  refine eq_of_op ?_
  rw [op_app]
  refine fn_run rfl ?_
  have := h.m10
  have := h.k10
  have := h.hm
  have := h.hk
  unfold m_Joined_size
  simp only [ev_ret, ev_opt, ev_bnd, ev_frz, ev_up, ev_var, ev_mov, varp_d, varp_w, movp_d, movp_w, ev_c, ev_e1, ev_e2, ev_eL, ev_anil, ev_acons, ev_onil, ev_ocons, ev_tup, ev_lst, ev_asB, ev_not, ev_or, ev_and, ev_eIf, ev_vB, ev_vAnd, ev_vOr, ev_vNot, ev_e3c, ex_bl, blp_bl, op_some, op_map, op_gI, op_gI0, op_gEqI, op_gNeI, op_isN, op_len, op_lenF, op_lenT, op_int, op_abs, op_max2, op_min2, op_divmod, op_cat, op_list, op_neg, op_ixL, op_ixF, op_ixT, atI_0, atI_1, atI_2, ev_call, ev_meth, ex_ins, ev_make, ev_callO, ev_fld, flds_d, flds_w, flds_pm, ev_bor, ev_borT, ev_cut, ev_pInt, ex_int, op_cutL, ev_lstR, ev_iSeq, ex_lst, ex_frl, ev_iTp, ex_tup, ev_rg1, ex_int1, ev_rg2, ex_int2, run_seq, run_next, run_brk, run_cont, run_never, run_retN, run_ret, run_expr, run_if, run_set, run_tg, op_gNm, op_gTp, op_gNil, op_gCons, run_par, ex_two, run_fldS, ex_o, ex_l, run_setIx, run_for, ev_lc, op_stAt, stp_any, free_un, free_d, free_w, mk_d, mk_l, mk_o, divOk_iff, modOk_iff, powOk_iff, own_d, own_w, own_pm, own_s, seto_w, seto_pm, seto_s, op_backs_pm, op_backs_d, op_backs_nil, froz_ld, froz_d, froz_o, List.getElem?_cons_zero, List.getElem?_cons_succ, List.set_cons_zero, List.set_cons_succ, List.map_cons, List.map_nil, sfrz_un, sfrz_d, sfrz_w, sfrz_pm, flat_bl, flat_int, flat_non, flat_str, isN_non, isN_int, isN_bl, isN_str, isN_tup, isN_lst, isN_ins, decide_eq_true_eq, decide_eq_false_iff_not, Bool.not_eq_true', Bool.not_eq_false', true_and, and_true, forall_const, implies_true, false_implies, true_implies, forall_eq, Bool.false_eq_true, Bool.true_eq_false, if_true, if_false, reduceCtorEq, imp_self, List.cons_append, List.nil_append, List.replicate_succ, List.replicate_zero, Nat.reduceSub, Nat.reduceAdd, ne_eq, not_true_eq_false, not_false_eq_true]
  exact sm_mul (by omega) (by omega)
theorem ra_ok (o : R) : F_Rule_a.app [o.dt] = some (.d (.int o.a)) := by
  refine eq_of_op ?_
  rw [op_app]
  refine fn_run rfl ?_
  unfold m_Rule_a
  simp only [ev_ret, ev_opt, ev_bnd, ev_frz, ev_up, ev_var, ev_mov, varp_d, varp_w, movp_d, movp_w, ev_c, ev_e1, ev_e2, ev_eL, ev_anil, ev_acons, ev_onil, ev_ocons, ev_tup, ev_lst, ev_asB, ev_not, ev_or, ev_and, ev_eIf, ev_vB, ev_vAnd, ev_vOr, ev_vNot, ev_e3c, ex_bl, blp_bl, op_some, op_map, op_gI, op_gI0, op_gEqI, op_gNeI, op_isN, op_len, op_lenF, op_lenT, op_int, op_abs, op_max2, op_min2, op_divmod, op_cat, op_list, op_neg, op_ixL, op_ixF, op_ixT, atI_0, atI_1, atI_2, ev_call, ev_meth, ex_ins, ev_make, ev_callO, ev_fld, flds_d, flds_w, flds_pm, ev_bor, ev_borT, ev_cut, ev_pInt, ex_int, op_cutL, ev_lstR, ev_iSeq, ex_lst, ex_frl, ev_iTp, ex_tup, ev_rg1, ex_int1, ev_rg2, ex_int2, run_seq, run_next, run_brk, run_cont, run_never, run_retN, run_ret, run_expr, run_if, run_set, run_tg, op_gNm, op_gTp, op_gNil, op_gCons, run_par, ex_two, run_fldS, ex_o, ex_l, run_setIx, run_for, ev_lc, op_stAt, stp_any, free_un, free_d, free_w, mk_d, mk_l, mk_o, divOk_iff, modOk_iff, powOk_iff, own_d, own_w, own_pm, own_s, seto_w, seto_pm, seto_s, op_backs_pm, op_backs_d, op_backs_nil, froz_ld, froz_d, froz_o, List.getElem?_cons_zero, List.getElem?_cons_succ, List.set_cons_zero, List.set_cons_succ, List.map_cons, List.map_nil, sfrz_un, sfrz_d, sfrz_w, sfrz_pm, flat_bl, flat_int, flat_non, flat_str, isN_non, isN_int, isN_bl, isN_str, isN_tup, isN_lst, isN_ins, decide_eq_true_eq, decide_eq_false_iff_not, Bool.not_eq_true', Bool.not_eq_false', true_and, and_true, forall_const, implies_true, false_implies, true_implies, forall_eq, Bool.false_eq_true, Bool.true_eq_false, if_true, if_false, reduceCtorEq, imp_self, List.cons_append, List.nil_append, List.replicate_succ, List.replicate_zero, Nat.reduceSub, Nat.reduceAdd, ne_eq, not_true_eq_false, not_false_eq_true]
theorem rb_ok (o : R) : F_Rule_b.app [o.dt] = some (.d (.int o.b)) := by
  refine eq_of_op ?_
  rw [op_app]
  refine fn_run rfl ?_
  unfold m_Rule_b
  simp only [ev_ret, ev_opt, ev_bnd, ev_frz, ev_up, ev_var, ev_mov, varp_d, varp_w, movp_d, movp_w, ev_c, ev_e1, ev_e2, ev_eL, ev_anil, ev_acons, ev_onil, ev_ocons, ev_tup, ev_lst, ev_asB, ev_not, ev_or, ev_and, ev_eIf, ev_vB, ev_vAnd, ev_vOr, ev_vNot, ev_e3c, ex_bl, blp_bl, op_some, op_map, op_gI, op_gI0, op_gEqI, op_gNeI, op_isN, op_len, op_lenF, op_lenT, op_int, op_abs, op_max2, op_min2, op_divmod, op_cat, op_list, op_neg, op_ixL, op_ixF, op_ixT, atI_0, atI_1, atI_2, ev_call, ev_meth, ex_ins, ev_make, ev_callO, ev_fld, flds_d, flds_w, flds_pm, ev_bor, ev_borT, ev_cut, ev_pInt, ex_int, op_cutL, ev_lstR, ev_iSeq, ex_lst, ex_frl, ev_iTp, ex_tup, ev_rg1, ex_int1, ev_rg2, ex_int2, run_seq, run_next, run_brk, run_cont, run_never, run_retN, run_ret, run_expr, run_if, run_set, run_tg, op_gNm, op_gTp, op_gNil, op_gCons, run_par, ex_two, run_fldS, ex_o, ex_l, run_setIx, run_for, ev_lc, op_stAt, stp_any, free_un, free_d, free_w, mk_d, mk_l, mk_o, divOk_iff, modOk_iff, powOk_iff, own_d, own_w, own_pm, own_s, seto_w, seto_pm, seto_s, op_backs_pm, op_backs_d, op_backs_nil, froz_ld, froz_d, froz_o, List.getElem?_cons_zero, List.getElem?_cons_succ, List.set_cons_zero, List.set_cons_succ, List.map_cons, List.map_nil, sfrz_un, sfrz_d, sfrz_w, sfrz_pm, flat_bl, flat_int, flat_non, flat_str, isN_non, isN_int, isN_bl, isN_str, isN_tup, isN_lst, isN_ins, decide_eq_true_eq, decide_eq_false_iff_not, Bool.not_eq_true', Bool.not_eq_false', true_and, and_true, forall_const, implies_true, false_implies, true_implies, forall_eq, Bool.false_eq_true, Bool.true_eq_false, if_true, if_false, reduceCtorEq, imp_self, List.cons_append, List.nil_append, List.replicate_succ, List.replicate_zero, Nat.reduceSub, Nat.reduceAdd, ne_eq, not_true_eq_false, not_false_eq_true]
theorem rd_ok (o : R) : F_Rule_d.app [o.dt] = some (.d (.int o.d)) := by
  refine eq_of_op ?_
  rw [op_app]
  refine fn_run rfl ?_
  unfold m_Rule_d
  simp only [ev_ret, ev_opt, ev_bnd, ev_frz, ev_up, ev_var, ev_mov, varp_d, varp_w, movp_d, movp_w, ev_c, ev_e1, ev_e2, ev_eL, ev_anil, ev_acons, ev_onil, ev_ocons, ev_tup, ev_lst, ev_asB, ev_not, ev_or, ev_and, ev_eIf, ev_vB, ev_vAnd, ev_vOr, ev_vNot, ev_e3c, ex_bl, blp_bl, op_some, op_map, op_gI, op_gI0, op_gEqI, op_gNeI, op_isN, op_len, op_lenF, op_lenT, op_int, op_abs, op_max2, op_min2, op_divmod, op_cat, op_list, op_neg, op_ixL, op_ixF, op_ixT, atI_0, atI_1, atI_2, ev_call, ev_meth, ex_ins, ev_make, ev_callO, ev_fld, flds_d, flds_w, flds_pm, ev_bor, ev_borT, ev_cut, ev_pInt, ex_int, op_cutL, ev_lstR, ev_iSeq, ex_lst, ex_frl, ev_iTp, ex_tup, ev_rg1, ex_int1, ev_rg2, ex_int2, run_seq, run_next, run_brk, run_cont, run_never, run_retN, run_ret, run_expr, run_if, run_set, run_tg, op_gNm, op_gTp, op_gNil, op_gCons, run_par, ex_two, run_fldS, ex_o, ex_l, run_setIx, run_for, ev_lc, op_stAt, stp_any, free_un, free_d, free_w, mk_d, mk_l, mk_o, divOk_iff, modOk_iff, powOk_iff, own_d, own_w, own_pm, own_s, seto_w, seto_pm, seto_s, op_backs_pm, op_backs_d, op_backs_nil, froz_ld, froz_d, froz_o, List.getElem?_cons_zero, List.getElem?_cons_succ, List.set_cons_zero, List.set_cons_succ, List.map_cons, List.map_nil, sfrz_un, sfrz_d, sfrz_w, sfrz_pm, flat_bl, flat_int, flat_non, flat_str, isN_non, isN_int, isN_bl, isN_str, isN_tup, isN_lst, isN_ins, decide_eq_true_eq, decide_eq_false_iff_not, Bool.not_eq_true', Bool.not_eq_false', true_and, and_true, forall_const, implies_true, false_implies, true_implies, forall_eq, Bool.false_eq_true, Bool.true_eq_false, if_true, if_false, reduceCtorEq, imp_self, List.cons_append, List.nil_append, List.replicate_succ, List.replicate_zero, Nat.reduceSub, Nat.reduceAdd, ne_eq, not_true_eq_false, not_false_eq_true]
theorem csize_ok {n : Int} (h : 1 ≤ n) : F_check_size.app [.int n] = some (.d .non) := by
  refine eq_of_op ?_
  rw [op_app]
  refine fn_run rfl ?_
  unfold m_check_size
  simp only [ev_ret, ev_opt, ev_bnd, ev_frz, ev_up, ev_var, ev_mov, varp_d, varp_w, movp_d, movp_w, ev_c, ev_e1, ev_e2, ev_eL, ev_anil, ev_acons, ev_onil, ev_ocons, ev_tup, ev_lst, ev_asB, ev_not, ev_or, ev_and, ev_eIf, ev_vB, ev_vAnd, ev_vOr, ev_vNot, ev_e3c, ex_bl, blp_bl, op_some, op_map, op_gI, op_gI0, op_gEqI, op_gNeI, op_isN, op_len, op_lenF, op_lenT, op_int, op_abs, op_max2, op_min2, op_divmod, op_cat, op_list, op_neg, op_ixL, op_ixF, op_ixT, atI_0, atI_1, atI_2, ev_call, ev_meth, ex_ins, ev_make, ev_callO, ev_fld, flds_d, flds_w, flds_pm, ev_bor, ev_borT, ev_cut, ev_pInt, ex_int, op_cutL, ev_lstR, ev_iSeq, ex_lst, ex_frl, ev_iTp, ex_tup, ev_rg1, ex_int1, ev_rg2, ex_int2, run_seq, run_next, run_brk, run_cont, run_never, run_retN, run_ret, run_expr, run_if, run_set, run_tg, op_gNm, op_gTp, op_gNil, op_gCons, run_par, ex_two, run_fldS, ex_o, ex_l, run_setIx, run_for, ev_lc, op_stAt, stp_any, free_un, free_d, free_w, mk_d, mk_l, mk_o, divOk_iff, modOk_iff, powOk_iff, own_d, own_w, own_pm, own_s, seto_w, seto_pm, seto_s, op_backs_pm, op_backs_d, op_backs_nil, froz_ld, froz_d, froz_o, List.getElem?_cons_zero, List.getElem?_cons_succ, List.set_cons_zero, List.set_cons_succ, List.map_cons, List.map_nil, sfrz_un, sfrz_d, sfrz_w, sfrz_pm, flat_bl, flat_int, flat_non, flat_str, isN_non, isN_int, isN_bl, isN_str, isN_tup, isN_lst, isN_ins, decide_eq_true_eq, decide_eq_false_iff_not, Bool.not_eq_true', Bool.not_eq_false', true_and, and_true, forall_const, implies_true, false_implies, true_implies, forall_eq, Bool.false_eq_true, Bool.true_eq_false, if_true, if_false, reduceCtorEq, imp_self, List.cons_append, List.nil_append, List.replicate_succ, List.replicate_zero, Nat.reduceSub, Nat.reduceAdd, ne_eq, not_true_eq_false, not_false_eq_true]
  intros
  omega
theorem crow_ok {n r : Int} (h : 1 ≤ n) (h0 : 0 ≤ r) (h1 : r < n) : F_check_row.app [.int n, .int r] = some (.d .non) := by
  refine eq_of_op ?_
  rw [op_app]
  refine fn_run rfl ?_
  unfold m_check_row
  simp only [ev_ret, ev_opt, ev_bnd, ev_frz, ev_up, ev_var, ev_mov, varp_d, varp_w, movp_d, movp_w, ev_c, ev_e1, ev_e2, ev_eL, ev_anil, ev_acons, ev_onil, ev_ocons, ev_tup, ev_lst, ev_asB, ev_not, ev_or, ev_and, ev_eIf, ev_vB, ev_vAnd, ev_vOr, ev_vNot, ev_e3c, ex_bl, blp_bl, op_some, op_map, op_gI, op_gI0, op_gEqI, op_gNeI, op_isN, op_len, op_lenF, op_lenT, op_int, op_abs, op_max2, op_min2, op_divmod, op_cat, op_list, op_neg, op_ixL, op_ixF, op_ixT, atI_0, atI_1, atI_2, ev_call, ev_meth, ex_ins, ev_make, ev_callO, ev_fld, flds_d, flds_w, flds_pm, ev_bor, ev_borT, ev_cut, ev_pInt, ex_int, op_cutL, ev_lstR, ev_iSeq, ex_lst, ex_frl, ev_iTp, ex_tup, ev_rg1, ex_int1, ev_rg2, ex_int2, run_seq, run_next, run_brk, run_cont, run_never, run_retN, run_ret, run_expr, run_if, run_set, run_tg, op_gNm, op_gTp, op_gNil, op_gCons, run_par, ex_two, run_fldS, ex_o, ex_l, run_setIx, run_for, ev_lc, op_stAt, stp_any, free_un, free_d, free_w, mk_d, mk_l, mk_o, divOk_iff, modOk_iff, powOk_iff, own_d, own_w, own_pm, own_s, seto_w, seto_pm, seto_s, op_backs_pm, op_backs_d, op_backs_nil, froz_ld, froz_d, froz_o, List.getElem?_cons_zero, List.getElem?_cons_succ, List.set_cons_zero, List.set_cons_succ, List.map_cons, List.map_nil, sfrz_un, sfrz_d, sfrz_w, sfrz_pm, flat_bl, flat_int, flat_non, flat_str, isN_non, isN_int, isN_bl, isN_str, isN_tup, isN_lst, isN_ins, decide_eq_true_eq, decide_eq_false_iff_not, Bool.not_eq_true', Bool.not_eq_false', true_and, and_true, forall_const, implies_true, false_implies, true_implies, forall_eq, Bool.false_eq_true, Bool.true_eq_false, if_true, if_false, reduceCtorEq, imp_self, List.cons_append, List.nil_append, List.replicate_succ, List.replicate_zero, Nat.reduceSub, Nat.reduceAdd, ne_eq, not_true_eq_false, not_false_eq_true, csize_ok h]
  constructor <;> intros <;> omega
theorem emod_iff {e v n : Int} (h0 : 0 ≤ v) (h1 : v < n) : e % n = v ↔ n ∣ e - v := by
  constructor
  · intro h
    exact ⟨e / n, by have := Int.emod_add_mul_ediv e n; omega⟩
  · rintro ⟨z, hz⟩
    have : e = v + n * z := by omega
    rw [this, Int.add_mul_emod_self_left, Int.emod_eq_of_lt h0 h1]
theorem fR_iff {o : R} {n x y v : Int} (h0 : 0 ≤ v) (h1 : v < n) : fR o n x y = v ↔ n ∣ o.b * y - (v - o.d - o.a * x) := by
  unfold fR
  rw [emod_iff h0 h1]
  have e : o.a * x + o.b * y + o.d - v = o.b * y - (v - o.d - o.a * x) := by grind
  rw [e]
theorem fR_rng {o : R} {n x y : Int} (h : 1 ≤ n) : 0 ≤ fR o n x y ∧ fR o n x y < n := ⟨Int.emod_nonneg _ (by omega), Int.emod_lt_of_pos _ (by omega)⟩
/-- one way only to write a number by quotient and rest -/
theorem qr {k h l s : Int} (hk : 1 ≤ k) (h0 : 0 ≤ l) (h1 : l < k) : k * h + l = s ↔ h = s / k ∧ l = s % k := by
  constructor
  · rintro rfl
    rw [Int.add_comm, Int.add_mul_ediv_left _ _ (by omega), Int.add_mul_emod_self_left, Int.ediv_eq_zero_of_lt h0 h1, Int.emod_eq_of_lt h0 h1]
    omega
  · rintro ⟨rfl, rfl⟩
    have := Int.emod_add_mul_ediv s k
    omega
theorem div_rng {q : J} (h : q.Ok) {s : Int} (h0 : 0 ≤ s) (h1 : s < q.m * q.k) : 0 ≤ s / q.k ∧ s / q.k < q.m ∧ 0 ≤ s % q.k ∧ s % q.k < q.k := by
  have := h.hk
  refine ⟨Int.ediv_nonneg h0 (by omega), Int.ediv_lt_of_lt_mul (by omega) h1, Int.emod_nonneg _ (by omega), Int.emod_lt_of_pos _ (by omega)⟩
theorem sgn_two {q : J} (h : q.Ok) {r c s : Int} : sgn q r c = s ↔ fR q.o q.m (r / q.k) (c / q.k) = s / q.k ∧ fR q.i q.k (r % q.k) (c % q.k) = s % q.k :=
  qr h.hk (fR_rng h.hk).1 (fR_rng h.hk).2
theorem sgn_iff {q : J} (h : q.Ok) {r c s : Int} (h0 : 0 ≤ s) (h1 : s < q.m * q.k) : sgn q r c = s ↔
    q.m ∣ q.o.b * (c / q.k) - (s / q.k - q.o.d - q.o.a * (r / q.k)) ∧ q.k ∣ q.i.b * (c % q.k) - (s % q.k - q.i.d - q.i.a * (r % q.k)) := by
  obtain ⟨a, b, c, d⟩ := div_rng h h0 h1
  rw [sgn_two h, fR_iff a b, fR_iff c d]
theorem sgn_rng {q : J} (h : q.Ok) (r c : Int) : 0 ≤ sgn q r c ∧ sgn q r c < q.m * q.k := by
  unfold sgn
  have h1 := fR_rng (o := q.o) (x := r / q.k) (y := c / q.k) h.hm
  have h2 := fR_rng (o := q.i) (x := r % q.k) (y := c % q.k) h.hk
  generalize fR q.o q.m (r / q.k) (c / q.k) = u at *
  have hk := h.hk
  have := Int.mul_nonneg (show 0 ≤ q.k by omega) h1.1
  have := Int.mul_le_mul_of_nonneg_left (show u + 1 ≤ q.m by omega) (show 0 ≤ q.k by omega)
  have e : q.m * q.k = q.k * q.m := Int.mul_comm ..
  have e2 : q.k * (u + 1) = q.k * u + q.k := by grind
  omega
theorem P_sorted (q : J) (r s : Int) : (P q r s).Pairwise (· < ·) := (rng_sorted _).filter _
theorem mem_P {q : J} {r s z : Int} : z ∈ P q r s ↔ (0 ≤ z ∧ z < q.m * q.k) ∧ sgn q r z = s := by
  unfold P
  rw [List.mem_filter, mem_rng]
  simp
/-- what place finds -/
def Lp (k x0 ap y0 ap' : Int) (g' i : Nat) : List Int := (List.range i).flatMap fun (b : Nat) => (List.range g').map fun (j : Nat) => k * (x0 + b * ap) + y0 + j * ap'
theorem Lp_eq {q : J} (h : q.Ok) {r s x0 ap y0 ap' : Int} {g g' : Nat} (hs : 0 ≤ s) (hs1 : s < q.m * q.k) (p0 : 0 < ap) (p1 : ap * g = q.m) (p2 : 0 ≤ x0) (p3 : x0 < ap) (p4 : ∀ x, q.m ∣ q.o.b * x - (s / q.k - q.o.d - q.o.a * (r / q.k)) ↔ ap ∣ x - x0)
    (q0 : 0 < ap') (q1 : ap' * g' = q.k) (q2 : 0 ≤ y0) (q3 : y0 < ap') (q4 : ∀ x, q.k ∣ q.i.b * x - (s % q.k - q.i.d - q.i.a * (r % q.k)) ↔ ap' ∣ x - y0) : Lp q.k x0 ap y0 ap' g' g = P q r s := by
  have hk := h.hk
  have hm := h.hm
  have rx : ∀ b : Nat, b < g → 0 ≤ x0 + b * ap ∧ x0 + b * ap < q.m := fun b hb => by
    have := Int.mul_nonneg (show 0 ≤ (b : Int) by omega) (show 0 ≤ ap by omega)
    have := Int.mul_le_mul_of_nonneg_left (show (b : Int) + 1 ≤ g by omega) (show 0 ≤ ap by omega)
    have e : ap * ((b : Int) + 1) = b * ap + ap := by grind
    omega
  have ry : ∀ b : Nat, b < g' → 0 ≤ y0 + b * ap' ∧ y0 + b * ap' < q.k := fun b hb => by
    have := Int.mul_nonneg (show 0 ≤ (b : Int) by omega) (show 0 ≤ ap' by omega)
    have := Int.mul_le_mul_of_nonneg_left (show (b : Int) + 1 ≤ g' by omega) (show 0 ≤ ap' by omega)
    have e : ap' * ((b : Int) + 1) = b * ap' + ap' := by grind
    omega
  refine sorted_eq ?_ (P_sorted q r s) fun z => ?_
  · unfold Lp
    rw [List.pairwise_flatMap]
    refine ⟨fun b _ => ?_, ?_⟩
    · rw [List.pairwise_map]
      refine List.pairwise_lt_range.imp fun {i j} hij => ?_
      have := Int.mul_le_mul_of_nonneg_right (show (i : Int) + 1 ≤ j by omega) (show 0 ≤ ap' by omega)
      have e : ((i : Int) + 1) * ap' = i * ap' + ap' := by grind
      omega
    · refine List.Pairwise.imp_of_mem ?_ List.pairwise_lt_range
      intro i j hi hj hij x hx y hy
      rw [List.mem_map] at hx hy
      obtain ⟨u, hu, rfl⟩ := hx
      obtain ⟨v, hv, rfl⟩ := hy
      have hu' := ry u (List.mem_range.mp hu)
      have hv' := ry v (List.mem_range.mp hv)
      have := Int.mul_le_mul_of_nonneg_right (show (i : Int) + 1 ≤ j by omega) (show 0 ≤ ap by omega)
      have e : ((i : Int) + 1) * ap = i * ap + ap := by grind
      have h2 := Int.mul_le_mul_of_nonneg_left (show x0 + i * ap + 1 ≤ x0 + j * ap by omega) (show 0 ≤ q.k by omega)
      have e2 : q.k * (x0 + i * ap + 1) = q.k * (x0 + i * ap) + q.k := by grind
      omega
  · rw [mem_P]
    unfold Lp
    rw [List.mem_flatMap]
    constructor
    · rintro ⟨b, hb, hz⟩
      rw [List.mem_map] at hz
      obtain ⟨j, hj, rfl⟩ := hz
      have hx := rx b (List.mem_range.mp hb)
      have hy := ry j (List.mem_range.mp hj)
      have e := (qr (h := x0 + b * ap) (s := q.k * (x0 + b * ap) + y0 + j * ap') hk hy.1 hy.2).mp (by omega)
      have := Int.mul_nonneg (show 0 ≤ q.k by omega) hx.1
      have h2 := Int.mul_le_mul_of_nonneg_left (show x0 + b * ap + 1 ≤ q.m by omega) (show 0 ≤ q.k by omega)
      have e2 : q.k * (x0 + b * ap + 1) = q.k * (x0 + b * ap) + q.k := by grind
      have e3 : q.m * q.k = q.k * q.m := Int.mul_comm ..
      refine ⟨⟨by omega, by omega⟩, (sgn_iff h hs hs1).mpr ⟨?_, ?_⟩⟩
      · rw [← e.1]
        exact (p4 _).mpr ⟨b, by grind⟩
      · rw [← e.2]
        exact (q4 _).mpr ⟨j, by grind⟩
    · rintro ⟨⟨z0, z1⟩, hz⟩
      obtain ⟨d1, d2⟩ := (sgn_iff h hs hs1).mp hz
      obtain ⟨a, b, c, d⟩ := div_rng h z0 z1
      obtain ⟨u, hu⟩ := (p4 _).mp d1
      obtain ⟨v, hv⟩ := (q4 _).mp d2
      have step : ∀ {x x0 ap n u : Int} {g : Nat}, 0 < ap → ap * g = n → 0 ≤ x → x < n → 0 ≤ x0 → x0 < ap → x - x0 = ap * u → 0 ≤ u ∧ u < g := fun {x x0 ap n u g} h1 h2 h3 h4 h5 h6 h7 => by
        constructor
        · rcases Int.lt_or_le u 0 with h | h
          · have := Int.mul_le_mul_of_nonneg_left (show u ≤ -1 by omega) (show 0 ≤ ap by omega)
            omega
          · exact h
        · rcases Int.lt_or_le u g with h | h
          · exact h
          · have := Int.mul_le_mul_of_nonneg_left h (show 0 ≤ ap by omega)
            omega
      have su := step p0 p1 a b p2 p3 hu
      have sv := step q0 q1 c d q2 q3 hv
      refine ⟨u.toNat, List.mem_range.mpr (by omega), List.mem_map.mpr ⟨v.toNat, List.mem_range.mpr (by omega), ?_⟩⟩
      have := Int.emod_add_mul_ediv z q.k
      have e1 : ((u.toNat : Nat) : Int) = u := by omega
      have e2 : ((v.toNat : Nat) : Int) = v := by omega
      rw [e1, e2]
      grind
theorem nat_mul_lt {x y : Int} (hx : x.natAbs < 2 ^ 200) (hy : y.natAbs ≤ 1000) : (x * y).natAbs < 2 ^ 210 := by
  rw [Int.natAbs_mul]
  have := Nat.mul_le_mul (Nat.le_of_lt_succ (Nat.lt_succ_of_lt hx)) hy
  omega
theorem Lp_succ (k x0 ap y0 ap' : Int) (g' i : Nat) : Lp k x0 ap y0 ap' g' (i + 1) = Lp k x0 ap y0 ap' g' i ++ (List.range g').map fun (j : Nat) => k * (x0 + i * ap) + y0 + j * ap' := by
  unfold Lp
  rw [List.range_succ, List.flatMap_append]
  simp
theorem Lp_len (k x0 ap y0 ap' : Int) (g' i : Nat) : (Lp k x0 ap y0 ap' g' i).length = i * g' := by
  induction i with
  | zero => simp [Lp]
  | succ i ih => rw [Lp_succ, List.length_append, ih, List.length_map, List.length_range, Nat.succ_mul]
theorem cut_all {xs : List Dt} {k : Int} (hk : 0 ≤ k) (h : xs.length ≤ k.toNat) : cutD xs none (some k) = xs := by
  unfold cutD HT.sIx
  simp only []
  rw [if_neg (by omega)]
  simp only [List.drop_zero, Nat.sub_zero]
  rw [Nat.min_eq_right h, List.take_length]
theorem place_ok (q : J) (h : q.Ok) (r s : Int) (hr : 0 ≤ r) (hr1 : r < q.m * q.k) (hs : 0 ≤ s) (hs1 : s < q.m * q.k) : F_Joined_place.app [q.dt, .int r, .int s] = some (.ld ((P q r s).map .int)) := by
  refine eq_of_op ?_
  rw [op_app]
  refine fn_run rfl ?_
  have m10 := h.m10
  have k10 := h.k10
  have hm := h.hm
  have hk := h.hk
  have hN := h.hN
  obtain ⟨a1, a2, a3, a4⟩ := div_rng h hr hr1
  obtain ⟨b1, b2, b3, b4⟩ := div_rng h hs hs1
  have oa := nat_mul_lt h.o.a (show (r / q.k).natAbs ≤ 1000 by omega)
  have ia := nat_mul_lt h.i.a (show (r % q.k).natAbs ≤ 1000 by omega)
  have od := h.o.d
  have idd := h.i.d
  have bu : (s / q.k - q.o.d - q.o.a * (r / q.k)).natAbs < 2 ^ 220 := by omega
  have bv : (s % q.k - q.i.d - q.i.a * (r % q.k)).natAbs < 2 ^ 220 := by omega
  obtain ⟨u, hu, cu⟩ := solve_ok q.o.b (s / q.k - q.o.d - q.o.a * (r / q.k)) q.m (by omega) (by omega) (Nat.lt_of_lt_of_le bu (Nat.pow_le_pow_right (by decide) (by decide)))
  obtain ⟨v, hv, cv⟩ := solve_ok q.i.b (s % q.k - q.i.d - q.i.a * (r % q.k)) q.k (by omega) (by omega) (Nat.lt_of_lt_of_le bv (Nat.pow_le_pow_right (by decide) (by decide)))
  have lk : q.k.natAbs.log2 < 9000 := log2_lt (show _ < 2 ^ 9000 from Nat.lt_of_lt_of_le (show q.k.natAbs < 2 ^ 10 by omega) (Nat.pow_le_pow_right (by decide) (by decide))) (by decide)
  have mo : ∀ x y : Int, x.natAbs < 2 ^ 200 → y.natAbs < 2 ^ 200 → mulOk x y = true := fun x y hx hy => sm_mul (Nat.lt_of_lt_of_le hx (Nat.pow_le_pow_right (by decide) (by decide))) (Nat.lt_of_lt_of_le hy (Nat.pow_le_pow_right (by decide) (by decide)))
  have mo1 := mo q.o.a (r / q.k) h.o.a (by omega)
  have mo2 := mo q.i.a (r % q.k) h.i.a (by omega)
  have empty : (∀ x, ¬ q.m ∣ q.o.b * x - (s / q.k - q.o.d - q.o.a * (r / q.k))) ∨ (∀ x, ¬ q.k ∣ q.i.b * x - (s % q.k - q.i.d - q.i.a * (r % q.k))) → P q r s = [] := fun hh => by
    refine List.eq_nil_iff_forall_not_mem.mpr fun z hz => ?_
    obtain ⟨d1, d2⟩ := (sgn_iff h hs hs1).mp (mem_P.mp hz).2
    rcases hh with hh | hh
    · exact hh _ d1
    · exact hh _ d2
  have none_of : ∀ {a n w : Int}, ¬ ((Int.gcd a n : Nat) : Int) ∣ w → ∀ x, ¬ n ∣ a * x - w := fun {a n w} hd x hx => hd (by
    have h1 : ((Int.gcd a n : Nat) : Int) ∣ a * x - w := Int.dvd_trans (Int.gcd_dvd_right ..) hx
    have h2 : ((Int.gcd a n : Nat) : Int) ∣ a * x := Int.dvd_trans (Int.gcd_dvd_left ..) (Int.dvd_mul_right ..)
    have := Int.dvd_sub h2 h1
    have e : a * x - (a * x - w) = w := by omega
    rwa [e] at this)
  unfold m_Joined_place k_MOST
  simp only [ev_ret, ev_opt, ev_bnd, ev_frz, ev_up, ev_var, ev_mov, varp_d, varp_w, movp_d, movp_w, ev_c, ev_e1, ev_e2, ev_eL, ev_anil, ev_acons, ev_onil, ev_ocons, ev_tup, ev_lst, ev_asB, ev_not, ev_or, ev_and, ev_eIf, ev_vB, ev_vAnd, ev_vOr, ev_vNot, ev_e3c, ex_bl, blp_bl, op_some, op_map, op_gI, op_gI0, op_gEqI, op_gNeI, op_isN, op_len, op_lenF, op_lenT, op_int, op_abs, op_max2, op_min2, op_divmod, op_cat, op_list, op_neg, op_ixL, op_ixF, op_ixT, atI_0, atI_1, atI_2, ev_call, ev_meth, ex_ins, ev_make, ev_callO, ev_fld, flds_d, flds_w, flds_pm, ev_bor, ev_borT, ev_cut, ev_pInt, ex_int, op_cutL, ev_lstR, ev_iSeq, ex_lst, ex_frl, ev_iTp, ex_tup, ev_rg1, ex_int1, ev_rg2, ex_int2, run_seq, run_next, run_brk, run_cont, run_never, run_retN, run_ret, run_expr, run_if, run_set, run_tg, op_gNm, op_gTp, op_gNil, op_gCons, run_par, ex_two, run_fldS, ex_o, ex_l, run_setIx, run_for, ev_lc, op_stAt, stp_any, free_un, free_d, free_w, mk_d, mk_l, mk_o, divOk_iff, modOk_iff, powOk_iff, own_d, own_w, own_pm, own_s, seto_w, seto_pm, seto_s, op_backs_pm, op_backs_d, op_backs_nil, froz_ld, froz_d, froz_o, List.getElem?_cons_zero, List.getElem?_cons_succ, List.set_cons_zero, List.set_cons_succ, List.map_cons, List.map_nil, sfrz_un, sfrz_d, sfrz_w, sfrz_pm, flat_bl, flat_int, flat_non, flat_str, isN_non, isN_int, isN_bl, isN_str, isN_tup, isN_lst, isN_ins, decide_eq_true_eq, decide_eq_false_iff_not, Bool.not_eq_true', Bool.not_eq_false', true_and, and_true, forall_const, implies_true, false_implies, true_implies, forall_eq, Bool.false_eq_true, Bool.true_eq_false, if_true, if_false, reduceCtorEq, imp_self, List.cons_append, List.nil_append, List.replicate_succ, List.replicate_zero, Nat.reduceSub, Nat.reduceAdd, ne_eq, not_true_eq_false, not_false_eq_true, size_ok q h, crow_ok (show 1 ≤ q.m * q.k by omega) hr hr1, ra_ok, rb_ok, rd_ok, hu, hv, hs, hs1, lk, mo1, mo2]
  refine ⟨⟨by omega, by omega⟩, by omega, by omega, ?_, fun hu0 => ⟨?_, fun hv0 => ?_⟩⟩
  · intro hu0
    rcases cu with ⟨c1, rfl⟩ | ⟨x0, ap, rfl, _⟩
    · rw [empty (.inl (none_of c1))]
      rfl
    · cases hu0
  · intro hv0
    rcases cv with ⟨c1, rfl⟩ | ⟨x0, ap, rfl, _⟩
    · rw [empty (.inr (none_of c1))]
      rfl
    · cases hv0
  rcases cu with ⟨_, rfl⟩ | ⟨x0, ap, rfl, p0, p1, p2, p3, p4⟩
  · cases hu0
  rcases cv with ⟨_, rfl⟩ | ⟨y0, ap', rfl, q0, q1, q2, q3, q4⟩
  · cases hv0
  generalize hg : Int.gcd q.o.b q.m = g at *
  generalize hg' : Int.gcd q.i.b q.k = g' at *
  have apm : ap ≤ q.m := Int.le_of_dvd (by omega) ⟨g, p1.symm⟩
  have apk : ap' ≤ q.k := Int.le_of_dvd (by omega) ⟨g', q1.symm⟩
  have e1 : q.m / ap = g := by rw [← p1, Int.mul_ediv_cancel_left _ (by omega)]
  have e2 : q.k / ap' = g' := by rw [← q1, Int.mul_ediv_cancel_left _ (by omega)]
  have gm : (g : Int) ≤ q.m := Int.le_of_dvd (by omega) ⟨ap, by rw [Int.mul_comm]; exact p1.symm⟩
  have gk : (g' : Int) ≤ q.k := Int.le_of_dvd (by omega) ⟨ap', by rw [Int.mul_comm]; exact q1.symm⟩
  have lg : ∀ z : Int, z ≤ 10 → 0 < z → z.natAbs.log2 < 9000 := fun z h1 h2 => log2_lt (Nat.lt_of_lt_of_le (show z.natAbs < 2 ^ 10 by omega) (Nat.pow_le_pow_right (by decide) (by decide))) (by decide)
  have lap := lg ap (by omega) p0
  have lap' := lg ap' (by omega) q0
  have sm : ∀ x y : Int, x.natAbs ≤ 1000 → y.natAbs ≤ 1000 → mulOk x y = true := fun x y hx hy => mo x y (by omega) (by omega)
  have gN : g * g' ≤ 10 := by
    have h1 : (g : Int) * g' ≤ q.m * q.k := Int.mul_le_mul gm gk (by omega) (by omega)
    have h2 : ((g * g' : Nat) : Int) = (g : Int) * g' := by simp
    omega
  simp only [ev_ret, ev_opt, ev_bnd, ev_frz, ev_up, ev_var, ev_mov, varp_d, varp_w, movp_d, movp_w, ev_c, ev_e1, ev_e2, ev_eL, ev_anil, ev_acons, ev_onil, ev_ocons, ev_tup, ev_lst, ev_asB, ev_not, ev_or, ev_and, ev_eIf, ev_vB, ev_vAnd, ev_vOr, ev_vNot, ev_e3c, ex_bl, blp_bl, op_some, op_map, op_gI, op_gI0, op_gEqI, op_gNeI, op_isN, op_len, op_lenF, op_lenT, op_int, op_abs, op_max2, op_min2, op_divmod, op_cat, op_list, op_neg, op_ixL, op_ixF, op_ixT, atI_0, atI_1, atI_2, ev_call, ev_meth, ex_ins, ev_make, ev_callO, ev_fld, flds_d, flds_w, flds_pm, ev_bor, ev_borT, ev_cut, ev_pInt, ex_int, op_cutL, ev_lstR, ev_iSeq, ex_lst, ex_frl, ev_iTp, ex_tup, ev_rg1, ex_int1, ev_rg2, ex_int2, run_seq, run_next, run_brk, run_cont, run_never, run_retN, run_ret, run_expr, run_if, run_set, run_tg, op_gNm, op_gTp, op_gNil, op_gCons, run_par, ex_two, run_fldS, ex_o, ex_l, run_setIx, run_for, ev_lc, op_stAt, stp_any, free_un, free_d, free_w, mk_d, mk_l, mk_o, divOk_iff, modOk_iff, powOk_iff, own_d, own_w, own_pm, own_s, seto_w, seto_pm, seto_s, op_backs_pm, op_backs_d, op_backs_nil, froz_ld, froz_d, froz_o, List.getElem?_cons_zero, List.getElem?_cons_succ, List.set_cons_zero, List.set_cons_succ, List.map_cons, List.map_nil, sfrz_un, sfrz_d, sfrz_w, sfrz_pm, flat_bl, flat_int, flat_non, flat_str, isN_non, isN_int, isN_bl, isN_str, isN_tup, isN_lst, isN_ins, decide_eq_true_eq, decide_eq_false_iff_not, Bool.not_eq_true', Bool.not_eq_false', true_and, and_true, forall_const, implies_true, false_implies, true_implies, forall_eq, Bool.false_eq_true, Bool.true_eq_false, if_true, if_false, reduceCtorEq, imp_self, List.cons_append, List.nil_append, List.replicate_succ, List.replicate_zero, Nat.reduceSub, Nat.reduceAdd, ne_eq, not_true_eq_false, not_false_eq_true, p0, lap, e1]
  rw [if_pos (by omega : (g : Int) < 40)]
  refine ⟨i62_of (by omega) (by omega), ?_⟩
  refine for_run (fun i e => ∃ s10 s11 s12 : Sl, s10.free ∧ s11.free ∧ s12.free ∧ e = [.d q.dt, .d (.int r), .d (.int s), .d (.int (s / q.k)), .d (.int (s % q.k)), .d q.o.dt, .d q.i.dt, .d (.tup [.int x0, .int ap]), .d (.tup [.int y0, .int ap']), .w (.ld ((Lp q.k x0 ap y0 ap' g' i).map .int)), s10, s11, s12]) ⟨.un, .un, .un, trivial, trivial, trivial, rfl⟩ ?_ ?_
  · rintro i x e hi ⟨s10, s11, s12, f10, f11, f12, rfl⟩
    obtain ⟨hi1, rfl⟩ := intL_at hi
    have hi2 : (i : Int) + 1 ≤ g := by omega
    have bx := Int.mul_nonneg (show 0 ≤ (i : Int) by omega) (show 0 ≤ ap by omega)
    have by' := Int.mul_le_mul_of_nonneg_left hi2 (show 0 ≤ ap by omega)
    have e3 : ap * ((i : Int) + 1) = i * ap + ap := by grind
    simp only [ev_ret, ev_opt, ev_bnd, ev_frz, ev_up, ev_var, ev_mov, varp_d, varp_w, movp_d, movp_w, ev_c, ev_e1, ev_e2, ev_eL, ev_anil, ev_acons, ev_onil, ev_ocons, ev_tup, ev_lst, ev_asB, ev_not, ev_or, ev_and, ev_eIf, ev_vB, ev_vAnd, ev_vOr, ev_vNot, ev_e3c, ex_bl, blp_bl, op_some, op_map, op_gI, op_gI0, op_gEqI, op_gNeI, op_isN, op_len, op_lenF, op_lenT, op_int, op_abs, op_max2, op_min2, op_divmod, op_cat, op_list, op_neg, op_ixL, op_ixF, op_ixT, atI_0, atI_1, atI_2, ev_call, ev_meth, ex_ins, ev_make, ev_callO, ev_fld, flds_d, flds_w, flds_pm, ev_bor, ev_borT, ev_cut, ev_pInt, ex_int, op_cutL, ev_lstR, ev_iSeq, ex_lst, ex_frl, ev_iTp, ex_tup, ev_rg1, ex_int1, ev_rg2, ex_int2, run_seq, run_next, run_brk, run_cont, run_never, run_retN, run_ret, run_expr, run_if, run_set, run_tg, op_gNm, op_gTp, op_gNil, op_gCons, run_par, ex_two, run_fldS, ex_o, ex_l, run_setIx, run_for, ev_lc, op_stAt, stp_any, free_un, free_d, free_w, mk_d, mk_l, mk_o, divOk_iff, modOk_iff, powOk_iff, own_d, own_w, own_pm, own_s, seto_w, seto_pm, seto_s, op_backs_pm, op_backs_d, op_backs_nil, froz_ld, froz_d, froz_o, List.getElem?_cons_zero, List.getElem?_cons_succ, List.set_cons_zero, List.set_cons_succ, List.map_cons, List.map_nil, sfrz_un, sfrz_d, sfrz_w, sfrz_pm, flat_bl, flat_int, flat_non, flat_str, isN_non, isN_int, isN_bl, isN_str, isN_tup, isN_lst, isN_ins, decide_eq_true_eq, decide_eq_false_iff_not, Bool.not_eq_true', Bool.not_eq_false', true_and, and_true, forall_const, implies_true, false_implies, true_implies, forall_eq, Bool.false_eq_true, Bool.true_eq_false, if_true, if_false, reduceCtorEq, imp_self, List.cons_append, List.nil_append, List.replicate_succ, List.replicate_zero, Nat.reduceSub, Nat.reduceAdd, ne_eq, not_true_eq_false, not_false_eq_true, f10, f11, f12, sm (i : Int) ap (by omega) (by omega), sm q.k (x0 + i * ap) (by omega) (by omega), Int.zero_add, q0, lap', e2]
    rw [if_pos (by omega : (g' : Int) < 40)]
    refine ⟨i62_of (by omega) (by omega), ?_⟩
    refine for_run (fun j e => ∃ s12 : Sl, s12.free ∧ e = [.d q.dt, .d (.int r), .d (.int s), .d (.int (s / q.k)), .d (.int (s % q.k)), .d q.o.dt, .d q.i.dt, .d (.tup [.int x0, .int ap]), .d (.tup [.int y0, .int ap']), .w (.ld ((Lp q.k x0 ap y0 ap' g' i ++ (List.range j).map fun (j : Nat) => q.k * (x0 + i * ap) + y0 + j * ap').map .int)), .d (.int i), .d (.int (q.k * (x0 + i * ap))), s12]) ⟨s12, f12, by simp⟩ ?_ ?_
    · rintro j x e hj ⟨s12, f12, rfl⟩
      obtain ⟨hj1, rfl⟩ := intL_at hj
      have hj2 : (j : Int) + 1 ≤ g' := by omega
      have bx := Int.mul_nonneg (show 0 ≤ (j : Int) by omega) (show 0 ≤ ap' by omega)
      have by' := Int.mul_le_mul_of_nonneg_left hj2 (show 0 ≤ ap' by omega)
      have e3 : ap' * ((j : Int) + 1) = j * ap' + ap' := by grind
      simp only [ev_ret, ev_opt, ev_bnd, ev_frz, ev_up, ev_var, ev_mov, varp_d, varp_w, movp_d, movp_w, ev_c, ev_e1, ev_e2, ev_eL, ev_anil, ev_acons, ev_onil, ev_ocons, ev_tup, ev_lst, ev_asB, ev_not, ev_or, ev_and, ev_eIf, ev_vB, ev_vAnd, ev_vOr, ev_vNot, ev_e3c, ex_bl, blp_bl, op_some, op_map, op_gI, op_gI0, op_gEqI, op_gNeI, op_isN, op_len, op_lenF, op_lenT, op_int, op_abs, op_max2, op_min2, op_divmod, op_cat, op_list, op_neg, op_ixL, op_ixF, op_ixT, atI_0, atI_1, atI_2, ev_call, ev_meth, ex_ins, ev_make, ev_callO, ev_fld, flds_d, flds_w, flds_pm, ev_bor, ev_borT, ev_cut, ev_pInt, ex_int, op_cutL, ev_lstR, ev_iSeq, ex_lst, ex_frl, ev_iTp, ex_tup, ev_rg1, ex_int1, ev_rg2, ex_int2, run_seq, run_next, run_brk, run_cont, run_never, run_retN, run_ret, run_expr, run_if, run_set, run_tg, op_gNm, op_gTp, op_gNil, op_gCons, run_par, ex_two, run_fldS, ex_o, ex_l, run_setIx, run_for, ev_lc, op_stAt, stp_any, free_un, free_d, free_w, mk_d, mk_l, mk_o, divOk_iff, modOk_iff, powOk_iff, own_d, own_w, own_pm, own_s, seto_w, seto_pm, seto_s, op_backs_pm, op_backs_d, op_backs_nil, froz_ld, froz_d, froz_o, List.getElem?_cons_zero, List.getElem?_cons_succ, List.set_cons_zero, List.set_cons_succ, List.map_cons, List.map_nil, sfrz_un, sfrz_d, sfrz_w, sfrz_pm, flat_bl, flat_int, flat_non, flat_str, isN_non, isN_int, isN_bl, isN_str, isN_tup, isN_lst, isN_ins, decide_eq_true_eq, decide_eq_false_iff_not, Bool.not_eq_true', Bool.not_eq_false', true_and, and_true, forall_const, implies_true, false_implies, true_implies, forall_eq, Bool.false_eq_true, Bool.true_eq_false, if_true, if_false, reduceCtorEq, imp_self, List.cons_append, List.nil_append, List.replicate_succ, List.replicate_zero, Nat.reduceSub, Nat.reduceAdd, ne_eq, not_true_eq_false, not_false_eq_true, f12]
      rw [run_app rfl]
      simp only [ev_ret, ev_opt, ev_bnd, ev_frz, ev_up, ev_var, ev_mov, varp_d, varp_w, movp_d, movp_w, ev_c, ev_e1, ev_e2, ev_eL, ev_anil, ev_acons, ev_onil, ev_ocons, ev_tup, ev_lst, ev_asB, ev_not, ev_or, ev_and, ev_eIf, ev_vB, ev_vAnd, ev_vOr, ev_vNot, ev_e3c, ex_bl, blp_bl, op_some, op_map, op_gI, op_gI0, op_gEqI, op_gNeI, op_isN, op_len, op_lenF, op_lenT, op_int, op_abs, op_max2, op_min2, op_divmod, op_cat, op_list, op_neg, op_ixL, op_ixF, op_ixT, atI_0, atI_1, atI_2, ev_call, ev_meth, ex_ins, ev_make, ev_callO, ev_fld, flds_d, flds_w, flds_pm, ev_bor, ev_borT, ev_cut, ev_pInt, ex_int, op_cutL, ev_lstR, ev_iSeq, ex_lst, ex_frl, ev_iTp, ex_tup, ev_rg1, ex_int1, ev_rg2, ex_int2, run_seq, run_next, run_brk, run_cont, run_never, run_retN, run_ret, run_expr, run_if, run_set, run_tg, op_gNm, op_gTp, op_gNil, op_gCons, run_par, ex_two, run_fldS, ex_o, ex_l, run_setIx, run_for, ev_lc, op_stAt, stp_any, free_un, free_d, free_w, mk_d, mk_l, mk_o, divOk_iff, modOk_iff, powOk_iff, own_d, own_w, own_pm, own_s, seto_w, seto_pm, seto_s, op_backs_pm, op_backs_d, op_backs_nil, froz_ld, froz_d, froz_o, List.getElem?_cons_zero, List.getElem?_cons_succ, List.set_cons_zero, List.set_cons_succ, List.map_cons, List.map_nil, sfrz_un, sfrz_d, sfrz_w, sfrz_pm, flat_bl, flat_int, flat_non, flat_str, isN_non, isN_int, isN_bl, isN_str, isN_tup, isN_lst, isN_ins, decide_eq_true_eq, decide_eq_false_iff_not, Bool.not_eq_true', Bool.not_eq_false', true_and, and_true, forall_const, implies_true, false_implies, true_implies, forall_eq, Bool.false_eq_true, Bool.true_eq_false, if_true, if_false, reduceCtorEq, imp_self, List.cons_append, List.nil_append, List.replicate_succ, List.replicate_zero, Nat.reduceSub, Nat.reduceAdd, ne_eq, not_true_eq_false, not_false_eq_true, sm (j : Int) ap' (by omega) (by omega), Int.zero_add]
      refine ⟨?_, .d (.int j), trivial, ?_⟩
      · have hi3 : i * g' + g' ≤ g * g' := by
          have := Nat.mul_le_mul_right g' (show i + 1 ≤ g by omega)
          rwa [Nat.succ_mul] at this
        simp only [List.length_map, List.length_append, Lp_len, List.length_range]
        have : (100 : Nat) < sizeLine := by decide
        omega
      · simp [List.range_succ]
    · rintro e ⟨s12, f12, rfl⟩
      rw [intL_len, show ((g' : Int)).toNat = g' by omega]
      exact ⟨.d (.int i), .d (.int (q.k * (x0 + i * ap))), s12, trivial, trivial, f12, by rw [Lp_succ]⟩
  · rintro e ⟨s10, s11, s12, f10, f11, f12, rfl⟩
    simp only [ev_ret, ev_opt, ev_bnd, ev_frz, ev_up, ev_var, ev_mov, varp_d, varp_w, movp_d, movp_w, ev_c, ev_e1, ev_e2, ev_eL, ev_anil, ev_acons, ev_onil, ev_ocons, ev_tup, ev_lst, ev_asB, ev_not, ev_or, ev_and, ev_eIf, ev_vB, ev_vAnd, ev_vOr, ev_vNot, ev_e3c, ex_bl, blp_bl, op_some, op_map, op_gI, op_gI0, op_gEqI, op_gNeI, op_isN, op_len, op_lenF, op_lenT, op_int, op_abs, op_max2, op_min2, op_divmod, op_cat, op_list, op_neg, op_ixL, op_ixF, op_ixT, atI_0, atI_1, atI_2, ev_call, ev_meth, ex_ins, ev_make, ev_callO, ev_fld, flds_d, flds_w, flds_pm, ev_bor, ev_borT, ev_cut, ev_pInt, ex_int, op_cutL, ev_lstR, ev_iSeq, ex_lst, ex_frl, ev_iTp, ex_tup, ev_rg1, ex_int1, ev_rg2, ex_int2, run_seq, run_next, run_brk, run_cont, run_never, run_retN, run_ret, run_expr, run_if, run_set, run_tg, op_gNm, op_gTp, op_gNil, op_gCons, run_par, ex_two, run_fldS, ex_o, ex_l, run_setIx, run_for, ev_lc, op_stAt, stp_any, free_un, free_d, free_w, mk_d, mk_l, mk_o, divOk_iff, modOk_iff, powOk_iff, own_d, own_w, own_pm, own_s, seto_w, seto_pm, seto_s, op_backs_pm, op_backs_d, op_backs_nil, froz_ld, froz_d, froz_o, List.getElem?_cons_zero, List.getElem?_cons_succ, List.set_cons_zero, List.set_cons_succ, List.map_cons, List.map_nil, sfrz_un, sfrz_d, sfrz_w, sfrz_pm, flat_bl, flat_int, flat_non, flat_str, isN_non, isN_int, isN_bl, isN_str, isN_tup, isN_lst, isN_ins, decide_eq_true_eq, decide_eq_false_iff_not, Bool.not_eq_true', Bool.not_eq_false', true_and, and_true, forall_const, implies_true, false_implies, true_implies, forall_eq, Bool.false_eq_true, Bool.true_eq_false, if_true, if_false, reduceCtorEq, imp_self, List.cons_append, List.nil_append, List.replicate_succ, List.replicate_zero, Nat.reduceSub, Nat.reduceAdd, ne_eq, not_true_eq_false, not_false_eq_true]
    rw [intL_len, show ((g : Int)).toNat = g by omega, Lp_eq h hs hs1 p0 p1 p2 p3 p4 q0 q1 q2 q3 q4, cut_all (by decide) ?_]
    rw [← Lp_eq h hs hs1 p0 p1 p2 p3 p4 q0 q1 q2 q3 q4, List.length_map, Lp_len]
    have : (40 : Int).toNat = 40 := rfl
    omega
end K88
set_option Elab.async false
set_option linter.all false
set_option maxRecDepth 100000
set_option maxHeartbeats 1000000
set_option exponentiation.threshold 20000
namespace K88
open PySem DL
abbrev J.n (q : J) : Int := q.m * q.k
def lsV (q : J) : Vl := .l ((rng q.n).map fun r => .l ((rng q.n).map fun s => .ld ((P q r s).map .int)))
def lsD (q : J) : Dt := .lst ((rng q.n).map fun r => .lst ((rng q.n).map fun s => .lst ((P q r s).map .int)))
theorem lsV_froz (q : J) : (lsV q).froz = lsD q := by
  unfold lsV lsD
  simp only [Vl.froz, frozs_mapG, froz_ld, List.map_id']
theorem J.Ok.n1 {q : J} (h : q.Ok) : 1 ≤ q.n ∧ q.n ≤ 10 := ⟨Int.mul_le_mul h.hm h.hk (by decide) (by have := h.hm; omega), h.hN⟩
theorem lists_ok (q : J) (h : q.Ok) : F__law_lists.app [q.dt, .int q.n] = some (lsV q) := by
  refine eq_of_op ?_
  rw [op_app]
  refine fn_run rfl ?_
  have hN := h.n1
  unfold m__law_lists
  simp only [ev_ret, ev_opt, ev_bnd, ev_frz, ev_up, ev_var, ev_mov, varp_d, varp_w, movp_d, movp_w, ev_c, ev_e1, ev_e2, ev_eL, ev_anil, ev_acons, ev_onil, ev_ocons, ev_tup, ev_lst, ev_asB, ev_not, ev_or, ev_and, ev_eIf, ev_vB, ev_vAnd, ev_vOr, ev_vNot, ev_e3c, ex_bl, blp_bl, op_some, op_map, op_gI, op_gI0, op_gEqI, op_gNeI, op_isN, op_len, op_lenF, op_lenT, op_int, op_abs, op_max2, op_min2, op_divmod, op_list, op_neg, op_ixL, op_ixF, op_ixT, atI_0, atI_1, atI_2, ev_call, ev_meth, ex_ins, ev_make, ev_callO, ev_fld, flds_d, flds_w, flds_pm, ev_bor, ev_borT, ev_cut, ev_pInt, ex_int, op_cutL, ev_lstR, ev_iSeq, ex_lst, ex_frl, ev_iTp, ex_tup, ev_rg1, ex_int1, ev_rg2, ex_int2, run_seq, run_next, run_brk, run_cont, run_never, run_retN, run_ret, run_expr, run_if, run_set, run_tg, op_gNm, op_gTp, op_gNil, op_gCons, run_par, ex_two, run_fldS, ex_o, ex_l, run_setIx, run_for, ev_lc, op_stAt, stp_any, free_un, free_d, free_w, mk_d, mk_l, mk_o, divOk_iff, modOk_iff, powOk_iff, own_d, own_w, own_pm, own_s, seto_w, seto_pm, seto_s, op_backs_pm, op_backs_d, op_backs_nil, froz_ld, froz_d, froz_o, List.getElem?_cons_zero, List.getElem?_cons_succ, List.set_cons_zero, List.set_cons_succ, List.map_cons, List.map_nil, sfrz_un, sfrz_d, sfrz_w, sfrz_pm, flat_bl, flat_int, flat_non, flat_str, isN_non, isN_int, isN_bl, isN_str, isN_tup, isN_lst, isN_ins, decide_eq_true_eq, decide_eq_false_iff_not, Bool.not_eq_true', Bool.not_eq_false', true_and, and_true, forall_const, implies_true, false_implies, true_implies, forall_eq, Bool.false_eq_true, Bool.true_eq_false, if_true, if_false, reduceCtorEq, imp_self, List.cons_append, List.nil_append, List.replicate_succ, List.replicate_zero, Nat.reduceSub, Nat.reduceAdd, ne_eq, not_true_eq_false, not_false_eq_true, ex_pm, ex_mk, put0, put1, put2, put3, put4, put5, run_appP, op_qNm, qnp_d, op_catI, froz_il, op_gEqL, op_gNeL, op_gEqL0, op_gNeL0, op_gInL, op_gNinL, op_sorted, op_sum, op_lenSet, isi_int, isi_bl, isi_lst, isi_tup, isi_non, kit_ii, kit_ib, kit_bb, kit_bi, kit_ll, kit_tt, kit_il, kit_it, kit_lt, kit_tl, op_clr, op_clr0, clp_any, loc_un, loc_d, rst_cons, rst_nil, rstS_some, intL_rng, Bool.not_true, Bool.not_false, Int.sub_zero, op_gEqB]
  refine ⟨i62_of (by omega) (by omega), lc_mapG (fun r => .l ((rng q.n).map fun s => .ld ((P q r s).map .int))) (sz' (by rw [rng_len]; omega)) ?_ ?_⟩
  · intro r hr
    rw [mem_rng] at hr
    simp only [ev_ret, ev_opt, ev_bnd, ev_frz, ev_up, ev_var, ev_mov, varp_d, varp_w, movp_d, movp_w, ev_c, ev_e1, ev_e2, ev_eL, ev_anil, ev_acons, ev_onil, ev_ocons, ev_tup, ev_lst, ev_asB, ev_not, ev_or, ev_and, ev_eIf, ev_vB, ev_vAnd, ev_vOr, ev_vNot, ev_e3c, ex_bl, blp_bl, op_some, op_map, op_gI, op_gI0, op_gEqI, op_gNeI, op_isN, op_len, op_lenF, op_lenT, op_int, op_abs, op_max2, op_min2, op_divmod, op_list, op_neg, op_ixL, op_ixF, op_ixT, atI_0, atI_1, atI_2, ev_call, ev_meth, ex_ins, ev_make, ev_callO, ev_fld, flds_d, flds_w, flds_pm, ev_bor, ev_borT, ev_cut, ev_pInt, ex_int, op_cutL, ev_lstR, ev_iSeq, ex_lst, ex_frl, ev_iTp, ex_tup, ev_rg1, ex_int1, ev_rg2, ex_int2, run_seq, run_next, run_brk, run_cont, run_never, run_retN, run_ret, run_expr, run_if, run_set, run_tg, op_gNm, op_gTp, op_gNil, op_gCons, run_par, ex_two, run_fldS, ex_o, ex_l, run_setIx, run_for, ev_lc, op_stAt, stp_any, free_un, free_d, free_w, mk_d, mk_l, mk_o, divOk_iff, modOk_iff, powOk_iff, own_d, own_w, own_pm, own_s, seto_w, seto_pm, seto_s, op_backs_pm, op_backs_d, op_backs_nil, froz_ld, froz_d, froz_o, List.getElem?_cons_zero, List.getElem?_cons_succ, List.set_cons_zero, List.set_cons_succ, List.map_cons, List.map_nil, sfrz_un, sfrz_d, sfrz_w, sfrz_pm, flat_bl, flat_int, flat_non, flat_str, isN_non, isN_int, isN_bl, isN_str, isN_tup, isN_lst, isN_ins, decide_eq_true_eq, decide_eq_false_iff_not, Bool.not_eq_true', Bool.not_eq_false', true_and, and_true, forall_const, implies_true, false_implies, true_implies, forall_eq, Bool.false_eq_true, Bool.true_eq_false, if_true, if_false, reduceCtorEq, imp_self, List.cons_append, List.nil_append, List.replicate_succ, List.replicate_zero, Nat.reduceSub, Nat.reduceAdd, ne_eq, not_true_eq_false, not_false_eq_true, ex_pm, ex_mk, put0, put1, put2, put3, put4, put5, run_appP, op_qNm, qnp_d, op_catI, froz_il, op_gEqL, op_gNeL, op_gEqL0, op_gNeL0, op_gInL, op_gNinL, op_sorted, op_sum, op_lenSet, isi_int, isi_bl, isi_lst, isi_tup, isi_non, kit_ii, kit_ib, kit_bb, kit_bi, kit_ll, kit_tt, kit_il, kit_it, kit_lt, kit_tl, op_clr, op_clr0, clp_any, loc_un, loc_d, rst_cons, rst_nil, rstS_some, intL_rng, Bool.not_true, Bool.not_false, Int.sub_zero, op_gEqB]
    refine ⟨i62_of (by omega) (by omega), lc_mapG (fun s => .ld ((P q r s).map .int)) (sz' (by rw [rng_len]; omega)) ?_ ⟨rfl, rfl⟩⟩
    intro s hs
    rw [mem_rng] at hs
    simp only [ev_ret, ev_opt, ev_bnd, ev_frz, ev_up, ev_var, ev_mov, varp_d, varp_w, movp_d, movp_w, ev_c, ev_e1, ev_e2, ev_eL, ev_anil, ev_acons, ev_onil, ev_ocons, ev_tup, ev_lst, ev_asB, ev_not, ev_or, ev_and, ev_eIf, ev_vB, ev_vAnd, ev_vOr, ev_vNot, ev_e3c, ex_bl, blp_bl, op_some, op_map, op_gI, op_gI0, op_gEqI, op_gNeI, op_isN, op_len, op_lenF, op_lenT, op_int, op_abs, op_max2, op_min2, op_divmod, op_list, op_neg, op_ixL, op_ixF, op_ixT, atI_0, atI_1, atI_2, ev_call, ev_meth, ex_ins, ev_make, ev_callO, ev_fld, flds_d, flds_w, flds_pm, ev_bor, ev_borT, ev_cut, ev_pInt, ex_int, op_cutL, ev_lstR, ev_iSeq, ex_lst, ex_frl, ev_iTp, ex_tup, ev_rg1, ex_int1, ev_rg2, ex_int2, run_seq, run_next, run_brk, run_cont, run_never, run_retN, run_ret, run_expr, run_if, run_set, run_tg, op_gNm, op_gTp, op_gNil, op_gCons, run_par, ex_two, run_fldS, ex_o, ex_l, run_setIx, run_for, ev_lc, op_stAt, stp_any, free_un, free_d, free_w, mk_d, mk_l, mk_o, divOk_iff, modOk_iff, powOk_iff, own_d, own_w, own_pm, own_s, seto_w, seto_pm, seto_s, op_backs_pm, op_backs_d, op_backs_nil, froz_ld, froz_d, froz_o, List.getElem?_cons_zero, List.getElem?_cons_succ, List.set_cons_zero, List.set_cons_succ, List.map_cons, List.map_nil, sfrz_un, sfrz_d, sfrz_w, sfrz_pm, flat_bl, flat_int, flat_non, flat_str, isN_non, isN_int, isN_bl, isN_str, isN_tup, isN_lst, isN_ins, decide_eq_true_eq, decide_eq_false_iff_not, Bool.not_eq_true', Bool.not_eq_false', true_and, and_true, forall_const, implies_true, false_implies, true_implies, forall_eq, Bool.false_eq_true, Bool.true_eq_false, if_true, if_false, reduceCtorEq, imp_self, List.cons_append, List.nil_append, List.replicate_succ, List.replicate_zero, Nat.reduceSub, Nat.reduceAdd, ne_eq, not_true_eq_false, not_false_eq_true, ex_pm, ex_mk, put0, put1, put2, put3, put4, put5, run_appP, op_qNm, qnp_d, op_catI, froz_il, op_gEqL, op_gNeL, op_gEqL0, op_gNeL0, op_gInL, op_gNinL, op_sorted, op_sum, op_lenSet, isi_int, isi_bl, isi_lst, isi_tup, isi_non, kit_ii, kit_ib, kit_bb, kit_bi, kit_ll, kit_tt, kit_il, kit_it, kit_lt, kit_tl, op_clr, op_clr0, clp_any, loc_un, loc_d, rst_cons, rst_nil, rstS_some, intL_rng, Bool.not_true, Bool.not_false, Int.sub_zero, op_gEqB, place_ok q h r s hr.1 hr.2 hs.1 hs.2]
  · simp only [ev_ret, ev_opt, ev_bnd, ev_frz, ev_up, ev_var, ev_mov, varp_d, varp_w, movp_d, movp_w, ev_c, ev_e1, ev_e2, ev_eL, ev_anil, ev_acons, ev_onil, ev_ocons, ev_tup, ev_lst, ev_asB, ev_not, ev_or, ev_and, ev_eIf, ev_vB, ev_vAnd, ev_vOr, ev_vNot, ev_e3c, ex_bl, blp_bl, op_some, op_map, op_gI, op_gI0, op_gEqI, op_gNeI, op_isN, op_len, op_lenF, op_lenT, op_int, op_abs, op_max2, op_min2, op_divmod, op_list, op_neg, op_ixL, op_ixF, op_ixT, atI_0, atI_1, atI_2, ev_call, ev_meth, ex_ins, ev_make, ev_callO, ev_fld, flds_d, flds_w, flds_pm, ev_bor, ev_borT, ev_cut, ev_pInt, ex_int, op_cutL, ev_lstR, ev_iSeq, ex_lst, ex_frl, ev_iTp, ex_tup, ev_rg1, ex_int1, ev_rg2, ex_int2, run_seq, run_next, run_brk, run_cont, run_never, run_retN, run_ret, run_expr, run_if, run_set, run_tg, op_gNm, op_gTp, op_gNil, op_gCons, run_par, ex_two, run_fldS, ex_o, ex_l, run_setIx, run_for, ev_lc, op_stAt, stp_any, free_un, free_d, free_w, mk_d, mk_l, mk_o, divOk_iff, modOk_iff, powOk_iff, own_d, own_w, own_pm, own_s, seto_w, seto_pm, seto_s, op_backs_pm, op_backs_d, op_backs_nil, froz_ld, froz_d, froz_o, List.getElem?_cons_zero, List.getElem?_cons_succ, List.set_cons_zero, List.set_cons_succ, List.map_cons, List.map_nil, sfrz_un, sfrz_d, sfrz_w, sfrz_pm, flat_bl, flat_int, flat_non, flat_str, isN_non, isN_int, isN_bl, isN_str, isN_tup, isN_lst, isN_ins, decide_eq_true_eq, decide_eq_false_iff_not, Bool.not_eq_true', Bool.not_eq_false', true_and, and_true, forall_const, implies_true, false_implies, true_implies, forall_eq, Bool.false_eq_true, Bool.true_eq_false, if_true, if_false, reduceCtorEq, imp_self, List.cons_append, List.nil_append, List.replicate_succ, List.replicate_zero, Nat.reduceSub, Nat.reduceAdd, ne_eq, not_true_eq_false, not_false_eq_true, ex_pm, ex_mk, put0, put1, put2, put3, put4, put5, run_appP, op_qNm, qnp_d, op_catI, froz_il, op_gEqL, op_gNeL, op_gEqL0, op_gNeL0, op_gInL, op_gNinL, op_sorted, op_sum, op_lenSet, isi_int, isi_bl, isi_lst, isi_tup, isi_non, kit_ii, kit_ib, kit_bb, kit_bi, kit_ll, kit_tt, kit_il, kit_it, kit_lt, kit_tl, op_clr, op_clr0, clp_any, loc_un, loc_d, rst_cons, rst_nil, rstS_some, intL_rng, Bool.not_true, Bool.not_false, Int.sub_zero, op_gEqB]
    rfl
theorem whole_ok (i : Int) : F__law_whole.app [.int i] = some (.d (.bl true)) := by
  refine eq_of_op ?_
  rw [op_app]
  refine fn_run rfl ?_
  unfold m__law_whole
  simp only [ev_ret, ev_opt, ev_bnd, ev_frz, ev_up, ev_var, ev_mov, varp_d, varp_w, movp_d, movp_w, ev_c, ev_e1, ev_e2, ev_eL, ev_anil, ev_acons, ev_onil, ev_ocons, ev_tup, ev_lst, ev_asB, ev_not, ev_or, ev_and, ev_eIf, ev_vB, ev_vAnd, ev_vOr, ev_vNot, ev_e3c, ex_bl, blp_bl, op_some, op_map, op_gI, op_gI0, op_gEqI, op_gNeI, op_isN, op_len, op_lenF, op_lenT, op_int, op_abs, op_max2, op_min2, op_divmod, op_list, op_neg, op_ixL, op_ixF, op_ixT, atI_0, atI_1, atI_2, ev_call, ev_meth, ex_ins, ev_make, ev_callO, ev_fld, flds_d, flds_w, flds_pm, ev_bor, ev_borT, ev_cut, ev_pInt, ex_int, op_cutL, ev_lstR, ev_iSeq, ex_lst, ex_frl, ev_iTp, ex_tup, ev_rg1, ex_int1, ev_rg2, ex_int2, run_seq, run_next, run_brk, run_cont, run_never, run_retN, run_ret, run_expr, run_if, run_set, run_tg, op_gNm, op_gTp, op_gNil, op_gCons, run_par, ex_two, run_fldS, ex_o, ex_l, run_setIx, run_for, ev_lc, op_stAt, stp_any, free_un, free_d, free_w, mk_d, mk_l, mk_o, divOk_iff, modOk_iff, powOk_iff, own_d, own_w, own_pm, own_s, seto_w, seto_pm, seto_s, op_backs_pm, op_backs_d, op_backs_nil, froz_ld, froz_d, froz_o, List.getElem?_cons_zero, List.getElem?_cons_succ, List.set_cons_zero, List.set_cons_succ, List.map_cons, List.map_nil, sfrz_un, sfrz_d, sfrz_w, sfrz_pm, flat_bl, flat_int, flat_non, flat_str, isN_non, isN_int, isN_bl, isN_str, isN_tup, isN_lst, isN_ins, decide_eq_true_eq, decide_eq_false_iff_not, Bool.not_eq_true', Bool.not_eq_false', true_and, and_true, forall_const, implies_true, false_implies, true_implies, forall_eq, Bool.false_eq_true, Bool.true_eq_false, if_true, if_false, reduceCtorEq, imp_self, List.cons_append, List.nil_append, List.replicate_succ, List.replicate_zero, Nat.reduceSub, Nat.reduceAdd, ne_eq, not_true_eq_false, not_false_eq_true, ex_pm, ex_mk, put0, put1, put2, put3, put4, put5, run_appP, op_qNm, qnp_d, op_catI, froz_il, op_gEqL, op_gNeL, op_gEqL0, op_gNeL0, op_gInL, op_gNinL, op_sorted, op_sum, op_lenSet, isi_int, isi_bl, isi_lst, isi_tup, isi_non, kit_ii, kit_ib, kit_bb, kit_bi, kit_ll, kit_tt, kit_il, kit_it, kit_lt, kit_tl, op_clr, op_clr0, clp_any, loc_un, loc_d, rst_cons, rst_nil, rstS_some, intL_rng, Bool.not_true, Bool.not_false, Int.sub_zero, op_gEqB]
theorem true_ok (a b : Bool) : F__law_true.app [.bl a, .bl b] = some (.d (.bl (decide (a = b)))) := by
  refine eq_of_op ?_
  rw [op_app]
  refine fn_run rfl ?_
  unfold m__law_true
  simp only [ev_ret, ev_opt, ev_bnd, ev_frz, ev_up, ev_var, ev_mov, varp_d, varp_w, movp_d, movp_w, ev_c, ev_e1, ev_e2, ev_eL, ev_anil, ev_acons, ev_onil, ev_ocons, ev_tup, ev_lst, ev_asB, ev_not, ev_or, ev_and, ev_eIf, ev_vB, ev_vAnd, ev_vOr, ev_vNot, ev_e3c, ex_bl, blp_bl, op_some, op_map, op_gI, op_gI0, op_gEqI, op_gNeI, op_isN, op_len, op_lenF, op_lenT, op_int, op_abs, op_max2, op_min2, op_divmod, op_list, op_neg, op_ixL, op_ixF, op_ixT, atI_0, atI_1, atI_2, ev_call, ev_meth, ex_ins, ev_make, ev_callO, ev_fld, flds_d, flds_w, flds_pm, ev_bor, ev_borT, ev_cut, ev_pInt, ex_int, op_cutL, ev_lstR, ev_iSeq, ex_lst, ex_frl, ev_iTp, ex_tup, ev_rg1, ex_int1, ev_rg2, ex_int2, run_seq, run_next, run_brk, run_cont, run_never, run_retN, run_ret, run_expr, run_if, run_set, run_tg, op_gNm, op_gTp, op_gNil, op_gCons, run_par, ex_two, run_fldS, ex_o, ex_l, run_setIx, run_for, ev_lc, op_stAt, stp_any, free_un, free_d, free_w, mk_d, mk_l, mk_o, divOk_iff, modOk_iff, powOk_iff, own_d, own_w, own_pm, own_s, seto_w, seto_pm, seto_s, op_backs_pm, op_backs_d, op_backs_nil, froz_ld, froz_d, froz_o, List.getElem?_cons_zero, List.getElem?_cons_succ, List.set_cons_zero, List.set_cons_succ, List.map_cons, List.map_nil, sfrz_un, sfrz_d, sfrz_w, sfrz_pm, flat_bl, flat_int, flat_non, flat_str, isN_non, isN_int, isN_bl, isN_str, isN_tup, isN_lst, isN_ins, decide_eq_true_eq, decide_eq_false_iff_not, Bool.not_eq_true', Bool.not_eq_false', true_and, and_true, forall_const, implies_true, false_implies, true_implies, forall_eq, Bool.false_eq_true, Bool.true_eq_false, if_true, if_false, reduceCtorEq, imp_self, List.cons_append, List.nil_append, List.replicate_succ, List.replicate_zero, Nat.reduceSub, Nat.reduceAdd, ne_eq, not_true_eq_false, not_false_eq_true, ex_pm, ex_mk, put0, put1, put2, put3, put4, put5, run_appP, op_qNm, qnp_d, op_catI, froz_il, op_gEqL, op_gNeL, op_gEqL0, op_gNeL0, op_gInL, op_gNinL, op_sorted, op_sum, op_lenSet, isi_int, isi_bl, isi_lst, isi_tup, isi_non, kit_ii, kit_ib, kit_bb, kit_bi, kit_ll, kit_tt, kit_il, kit_it, kit_lt, kit_tl, op_clr, op_clr0, clp_any, loc_un, loc_d, rst_cons, rst_nil, rstS_some, intL_rng, Bool.not_true, Bool.not_false, Int.sub_zero, op_gEqB]
theorem ccell_ok {n r c : Int} (h : 1 ≤ n) (h0 : 0 ≤ r) (h1 : r < n) (h2 : 0 ≤ c) (h3 : c < n) : F_check_cell.app [.int n, .int r, .int c] = some (.d .non) := by
  refine eq_of_op ?_
  rw [op_app]
  refine fn_run rfl ?_
  unfold m_check_cell
  simp only [ev_ret, ev_opt, ev_bnd, ev_frz, ev_up, ev_var, ev_mov, varp_d, varp_w, movp_d, movp_w, ev_c, ev_e1, ev_e2, ev_eL, ev_anil, ev_acons, ev_onil, ev_ocons, ev_tup, ev_lst, ev_asB, ev_not, ev_or, ev_and, ev_eIf, ev_vB, ev_vAnd, ev_vOr, ev_vNot, ev_e3c, ex_bl, blp_bl, op_some, op_map, op_gI, op_gI0, op_gEqI, op_gNeI, op_isN, op_len, op_lenF, op_lenT, op_int, op_abs, op_max2, op_min2, op_divmod, op_list, op_neg, op_ixL, op_ixF, op_ixT, atI_0, atI_1, atI_2, ev_call, ev_meth, ex_ins, ev_make, ev_callO, ev_fld, flds_d, flds_w, flds_pm, ev_bor, ev_borT, ev_cut, ev_pInt, ex_int, op_cutL, ev_lstR, ev_iSeq, ex_lst, ex_frl, ev_iTp, ex_tup, ev_rg1, ex_int1, ev_rg2, ex_int2, run_seq, run_next, run_brk, run_cont, run_never, run_retN, run_ret, run_expr, run_if, run_set, run_tg, op_gNm, op_gTp, op_gNil, op_gCons, run_par, ex_two, run_fldS, ex_o, ex_l, run_setIx, run_for, ev_lc, op_stAt, stp_any, free_un, free_d, free_w, mk_d, mk_l, mk_o, divOk_iff, modOk_iff, powOk_iff, own_d, own_w, own_pm, own_s, seto_w, seto_pm, seto_s, op_backs_pm, op_backs_d, op_backs_nil, froz_ld, froz_d, froz_o, List.getElem?_cons_zero, List.getElem?_cons_succ, List.set_cons_zero, List.set_cons_succ, List.map_cons, List.map_nil, sfrz_un, sfrz_d, sfrz_w, sfrz_pm, flat_bl, flat_int, flat_non, flat_str, isN_non, isN_int, isN_bl, isN_str, isN_tup, isN_lst, isN_ins, decide_eq_true_eq, decide_eq_false_iff_not, Bool.not_eq_true', Bool.not_eq_false', true_and, and_true, forall_const, implies_true, false_implies, true_implies, forall_eq, Bool.false_eq_true, Bool.true_eq_false, if_true, if_false, reduceCtorEq, imp_self, List.cons_append, List.nil_append, List.replicate_succ, List.replicate_zero, Nat.reduceSub, Nat.reduceAdd, ne_eq, not_true_eq_false, not_false_eq_true, ex_pm, ex_mk, put0, put1, put2, put3, put4, put5, run_appP, op_qNm, qnp_d, op_catI, froz_il, op_gEqL, op_gNeL, op_gEqL0, op_gNeL0, op_gInL, op_gNinL, op_sorted, op_sum, op_lenSet, isi_int, isi_bl, isi_lst, isi_tup, isi_non, kit_ii, kit_ib, kit_bb, kit_bi, kit_ll, kit_tt, kit_il, kit_it, kit_lt, kit_tl, op_clr, op_clr0, clp_any, loc_un, loc_d, rst_cons, rst_nil, rstS_some, intL_rng, Bool.not_true, Bool.not_false, Int.sub_zero, op_gEqB, csize_ok h, h0, h1, h2, h3]
theorem mo200 {x y : Int} (hx : x.natAbs < 2 ^ 400) (hy : y.natAbs < 2 ^ 400) : mulOk x y = true := sm_mul (Nat.lt_of_lt_of_le hx (Nat.pow_le_pow_right (by decide) (by decide))) (Nat.lt_of_lt_of_le hy (Nat.pow_le_pow_right (by decide) (by decide)))
theorem entry_ok {o : R} (h : o.Ok) {x y : Int} (hx : x.natAbs ≤ 100) (hy : y.natAbs ≤ 100) : F_Rule_entry.app [o.dt, .int x, .int y] = some (.d (.int (o.a * x + o.b * y + o.d))) := by
  refine eq_of_op ?_
  rw [op_app]
  refine fn_run rfl ?_
  have ha := h.a
  have hb := h.b
  unfold m_Rule_entry
  simp only [ev_ret, ev_opt, ev_bnd, ev_frz, ev_up, ev_var, ev_mov, varp_d, varp_w, movp_d, movp_w, ev_c, ev_e1, ev_e2, ev_eL, ev_anil, ev_acons, ev_onil, ev_ocons, ev_tup, ev_lst, ev_asB, ev_not, ev_or, ev_and, ev_eIf, ev_vB, ev_vAnd, ev_vOr, ev_vNot, ev_e3c, ex_bl, blp_bl, op_some, op_map, op_gI, op_gI0, op_gEqI, op_gNeI, op_isN, op_len, op_lenF, op_lenT, op_int, op_abs, op_max2, op_min2, op_divmod, op_list, op_neg, op_ixL, op_ixF, op_ixT, atI_0, atI_1, atI_2, ev_call, ev_meth, ex_ins, ev_make, ev_callO, ev_fld, flds_d, flds_w, flds_pm, ev_bor, ev_borT, ev_cut, ev_pInt, ex_int, op_cutL, ev_lstR, ev_iSeq, ex_lst, ex_frl, ev_iTp, ex_tup, ev_rg1, ex_int1, ev_rg2, ex_int2, run_seq, run_next, run_brk, run_cont, run_never, run_retN, run_ret, run_expr, run_if, run_set, run_tg, op_gNm, op_gTp, op_gNil, op_gCons, run_par, ex_two, run_fldS, ex_o, ex_l, run_setIx, run_for, ev_lc, op_stAt, stp_any, free_un, free_d, free_w, mk_d, mk_l, mk_o, divOk_iff, modOk_iff, powOk_iff, own_d, own_w, own_pm, own_s, seto_w, seto_pm, seto_s, op_backs_pm, op_backs_d, op_backs_nil, froz_ld, froz_d, froz_o, List.getElem?_cons_zero, List.getElem?_cons_succ, List.set_cons_zero, List.set_cons_succ, List.map_cons, List.map_nil, sfrz_un, sfrz_d, sfrz_w, sfrz_pm, flat_bl, flat_int, flat_non, flat_str, isN_non, isN_int, isN_bl, isN_str, isN_tup, isN_lst, isN_ins, decide_eq_true_eq, decide_eq_false_iff_not, Bool.not_eq_true', Bool.not_eq_false', true_and, and_true, forall_const, implies_true, false_implies, true_implies, forall_eq, Bool.false_eq_true, Bool.true_eq_false, if_true, if_false, reduceCtorEq, imp_self, List.cons_append, List.nil_append, List.replicate_succ, List.replicate_zero, Nat.reduceSub, Nat.reduceAdd, ne_eq, not_true_eq_false, not_false_eq_true, ex_pm, ex_mk, put0, put1, put2, put3, put4, put5, run_appP, op_qNm, qnp_d, op_catI, froz_il, op_gEqL, op_gNeL, op_gEqL0, op_gNeL0, op_gInL, op_gNinL, op_sorted, op_sum, op_lenSet, isi_int, isi_bl, isi_lst, isi_tup, isi_non, kit_ii, kit_ib, kit_bb, kit_bi, kit_ll, kit_tt, kit_il, kit_it, kit_lt, kit_tl, op_clr, op_clr0, clp_any, loc_un, loc_d, rst_cons, rst_nil, rstS_some, intL_rng, Bool.not_true, Bool.not_false, Int.sub_zero, op_gEqB, mo200 (x := o.a) (y := x) (by omega) (by omega), mo200 (x := o.b) (y := y) (by omega) (by omega)]
theorem rsign_ok {o : R} (h : o.Ok) {n x y : Int} (hn : 1 ≤ n) (hn1 : n ≤ 10) (h0 : 0 ≤ x) (h1 : x < n) (h2 : 0 ≤ y) (h3 : y < n) : F_Rule_sign.app [o.dt, .int n, .int x, .int y] = some (.d (.int (fR o n x y))) := by
  refine eq_of_op ?_
  rw [op_app]
  refine fn_run rfl ?_
  unfold m_Rule_sign
  simp only [ev_ret, ev_opt, ev_bnd, ev_frz, ev_up, ev_var, ev_mov, varp_d, varp_w, movp_d, movp_w, ev_c, ev_e1, ev_e2, ev_eL, ev_anil, ev_acons, ev_onil, ev_ocons, ev_tup, ev_lst, ev_asB, ev_not, ev_or, ev_and, ev_eIf, ev_vB, ev_vAnd, ev_vOr, ev_vNot, ev_e3c, ex_bl, blp_bl, op_some, op_map, op_gI, op_gI0, op_gEqI, op_gNeI, op_isN, op_len, op_lenF, op_lenT, op_int, op_abs, op_max2, op_min2, op_divmod, op_list, op_neg, op_ixL, op_ixF, op_ixT, atI_0, atI_1, atI_2, ev_call, ev_meth, ex_ins, ev_make, ev_callO, ev_fld, flds_d, flds_w, flds_pm, ev_bor, ev_borT, ev_cut, ev_pInt, ex_int, op_cutL, ev_lstR, ev_iSeq, ex_lst, ex_frl, ev_iTp, ex_tup, ev_rg1, ex_int1, ev_rg2, ex_int2, run_seq, run_next, run_brk, run_cont, run_never, run_retN, run_ret, run_expr, run_if, run_set, run_tg, op_gNm, op_gTp, op_gNil, op_gCons, run_par, ex_two, run_fldS, ex_o, ex_l, run_setIx, run_for, ev_lc, op_stAt, stp_any, free_un, free_d, free_w, mk_d, mk_l, mk_o, divOk_iff, modOk_iff, powOk_iff, own_d, own_w, own_pm, own_s, seto_w, seto_pm, seto_s, op_backs_pm, op_backs_d, op_backs_nil, froz_ld, froz_d, froz_o, List.getElem?_cons_zero, List.getElem?_cons_succ, List.set_cons_zero, List.set_cons_succ, List.map_cons, List.map_nil, sfrz_un, sfrz_d, sfrz_w, sfrz_pm, flat_bl, flat_int, flat_non, flat_str, isN_non, isN_int, isN_bl, isN_str, isN_tup, isN_lst, isN_ins, decide_eq_true_eq, decide_eq_false_iff_not, Bool.not_eq_true', Bool.not_eq_false', true_and, and_true, forall_const, implies_true, false_implies, true_implies, forall_eq, Bool.false_eq_true, Bool.true_eq_false, if_true, if_false, reduceCtorEq, imp_self, List.cons_append, List.nil_append, List.replicate_succ, List.replicate_zero, Nat.reduceSub, Nat.reduceAdd, ne_eq, not_true_eq_false, not_false_eq_true, ex_pm, ex_mk, put0, put1, put2, put3, put4, put5, run_appP, op_qNm, qnp_d, op_catI, froz_il, op_gEqL, op_gNeL, op_gEqL0, op_gNeL0, op_gInL, op_gNinL, op_sorted, op_sum, op_lenSet, isi_int, isi_bl, isi_lst, isi_tup, isi_non, kit_ii, kit_ib, kit_bb, kit_bi, kit_ll, kit_tt, kit_il, kit_it, kit_lt, kit_tl, op_clr, op_clr0, clp_any, loc_un, loc_d, rst_cons, rst_nil, rstS_some, intL_rng, Bool.not_true, Bool.not_false, Int.sub_zero, op_gEqB, ccell_ok hn h0 h1 h2 h3, entry_ok h (show x.natAbs ≤ 100 by omega) (show y.natAbs ≤ 100 by omega)]
  exact ⟨by omega, rfl⟩
theorem sign_ok {q : J} (h : q.Ok) {r c : Int} (h0 : 0 ≤ r) (h1 : r < q.n) (h2 : 0 ≤ c) (h3 : c < q.n) : F_Joined_sign.app [q.dt, .int r, .int c] = some (.d (.int (sgn q r c))) := by
  refine eq_of_op ?_
  rw [op_app]
  refine fn_run rfl ?_
  obtain ⟨a1, a2, a3, a4⟩ := div_rng h h0 h1
  obtain ⟨b1, b2, b3, b4⟩ := div_rng h h2 h3
  have m10 := h.m10
  have k10 := h.k10
  have hm := h.hm
  have hk := h.hk
  have lk : q.k.natAbs.log2 < 9000 := log2_lt (show _ < 2 ^ 9000 from Nat.lt_of_lt_of_le (show q.k.natAbs < 2 ^ 10 by omega) (Nat.pow_le_pow_right (by decide) (by decide))) (by decide)
  have hf := fR_rng (o := q.o) (x := r / q.k) (y := c / q.k) hm
  have mk := mo200 (x := q.k) (y := fR q.o q.m (r / q.k) (c / q.k)) (by omega) (by omega)
  unfold m_Joined_sign
  simp only [ev_ret, ev_opt, ev_bnd, ev_frz, ev_up, ev_var, ev_mov, varp_d, varp_w, movp_d, movp_w, ev_c, ev_e1, ev_e2, ev_eL, ev_anil, ev_acons, ev_onil, ev_ocons, ev_tup, ev_lst, ev_asB, ev_not, ev_or, ev_and, ev_eIf, ev_vB, ev_vAnd, ev_vOr, ev_vNot, ev_e3c, ex_bl, blp_bl, op_some, op_map, op_gI, op_gI0, op_gEqI, op_gNeI, op_isN, op_len, op_lenF, op_lenT, op_int, op_abs, op_max2, op_min2, op_divmod, op_list, op_neg, op_ixL, op_ixF, op_ixT, atI_0, atI_1, atI_2, ev_call, ev_meth, ex_ins, ev_make, ev_callO, ev_fld, flds_d, flds_w, flds_pm, ev_bor, ev_borT, ev_cut, ev_pInt, ex_int, op_cutL, ev_lstR, ev_iSeq, ex_lst, ex_frl, ev_iTp, ex_tup, ev_rg1, ex_int1, ev_rg2, ex_int2, run_seq, run_next, run_brk, run_cont, run_never, run_retN, run_ret, run_expr, run_if, run_set, run_tg, op_gNm, op_gTp, op_gNil, op_gCons, run_par, ex_two, run_fldS, ex_o, ex_l, run_setIx, run_for, ev_lc, op_stAt, stp_any, free_un, free_d, free_w, mk_d, mk_l, mk_o, divOk_iff, modOk_iff, powOk_iff, own_d, own_w, own_pm, own_s, seto_w, seto_pm, seto_s, op_backs_pm, op_backs_d, op_backs_nil, froz_ld, froz_d, froz_o, List.getElem?_cons_zero, List.getElem?_cons_succ, List.set_cons_zero, List.set_cons_succ, List.map_cons, List.map_nil, sfrz_un, sfrz_d, sfrz_w, sfrz_pm, flat_bl, flat_int, flat_non, flat_str, isN_non, isN_int, isN_bl, isN_str, isN_tup, isN_lst, isN_ins, decide_eq_true_eq, decide_eq_false_iff_not, Bool.not_eq_true', Bool.not_eq_false', true_and, and_true, forall_const, implies_true, false_implies, true_implies, forall_eq, Bool.false_eq_true, Bool.true_eq_false, if_true, if_false, reduceCtorEq, imp_self, List.cons_append, List.nil_append, List.replicate_succ, List.replicate_zero, Nat.reduceSub, Nat.reduceAdd, ne_eq, not_true_eq_false, not_false_eq_true, ex_pm, ex_mk, put0, put1, put2, put3, put4, put5, run_appP, op_qNm, qnp_d, op_catI, froz_il, op_gEqL, op_gNeL, op_gEqL0, op_gNeL0, op_gInL, op_gNinL, op_sorted, op_sum, op_lenSet, isi_int, isi_bl, isi_lst, isi_tup, isi_non, kit_ii, kit_ib, kit_bb, kit_bi, kit_ll, kit_tt, kit_il, kit_it, kit_lt, kit_tl, op_clr, op_clr0, clp_any, loc_un, loc_d, rst_cons, rst_nil, rstS_some, intL_rng, Bool.not_true, Bool.not_false, Int.sub_zero, op_gEqB, size_ok q h, h0, h1, h2, h3, lk, show 0 < q.k by omega, rsign_ok h.o hm m10 a1 a2 b1 b2, rsign_ok h.i hk k10 a3 a4 b3 b4, mk]
  rfl
theorem P_len {q : J} (h : q.Ok) (r s : Int) : (P q r s).length ≤ 10 := by
  unfold P
  have := List.length_filter_le (fun c => decide (sgn q r c = s)) (rng (q.m * q.k))
  rw [rng_len] at this
  have := h.hN
  omega
/-- the places of some signs of a row -/
def H (q : J) (r : Int) (ss : List Int) : List Int := ss.flatMap fun s => P q r s
theorem H_app (q : J) (r : Int) (ss : List Int) (s : Int) : H q r (ss ++ [s]) = H q r ss ++ P q r s := by
  unfold H
  simp
theorem H_len {q : J} (h : q.Ok) (r : Int) : ∀ ss : List Int, (H q r ss).length ≤ 10 * ss.length
  | [] => by simp [H]
  | s :: ss => by
    have := H_len h r ss
    have := P_len h r s
    unfold H at *
    simp only [List.flatMap_cons, List.length_append, List.length_cons]
    omega
theorem H_sort {q : J} (h : q.Ok) {r : Int} : sortI (H q r (rng q.n)) = rng q.n := by
  refine sortI_eq ?_ (rng_sorted _) fun z => ?_
  · unfold H
    show List.Pairwise _ _
    rw [List.pairwise_flatMap]
    refine ⟨fun s _ => nodup_of_lt (P_sorted q r s), ?_⟩
    refine (rng_sorted _).imp fun {a b} hab => ?_
    intro z hz z' hz' e
    subst e
    have := (mem_P.mp hz).2
    have := (mem_P.mp hz').2
    omega
  · unfold H
    rw [List.mem_flatMap, mem_rng]
    constructor
    · rintro ⟨s, _, hs⟩
      exact (mem_P.mp hs).1
    · intro hz
      exact ⟨sgn q r z, mem_rng.mpr (sgn_rng h r z), mem_P.mpr ⟨hz, rfl⟩⟩
theorem ls_at {q : J} {r : Int} (h0 : 0 ≤ r) (h1 : r < q.n) {s : Int} (h2 : 0 ≤ s) (h3 : s < q.n) {Q : Vl → Prop} : (Op (gIx (lsD q) (.int r)) fun v => Op (gIx v.froz (.int s)) Q) ↔ Q (.d (.lst ((P q r s).map .int))) := by
  unfold lsD
  rw [op_ixL, atI_rng h0 h1]
  simp only [op_some, froz_d]
  rw [op_ixL, atI_rng h2 h3]
  simp only [op_some]
theorem rows_ok (q : J) (h : q.Ok) : F__law_rows.app [lsD q, q.dt, .int q.n] = some (.d (.bl true)) := by
  refine eq_of_op ?_
  rw [op_app]
  refine fn_run rfl ?_
  have hN := h.n1
  unfold m__law_rows
  simp only [ev_ret, ev_opt, ev_bnd, ev_frz, ev_up, ev_var, ev_mov, varp_d, varp_w, movp_d, movp_w, ev_c, ev_e1, ev_e2, ev_eL, ev_anil, ev_acons, ev_onil, ev_ocons, ev_tup, ev_lst, ev_asB, ev_not, ev_or, ev_and, ev_eIf, ev_vB, ev_vAnd, ev_vOr, ev_vNot, ev_e3c, ex_bl, blp_bl, op_some, op_map, op_gI, op_gI0, op_gEqI, op_gNeI, op_isN, op_len, op_lenF, op_lenT, op_int, op_abs, op_max2, op_min2, op_divmod, op_list, op_neg, op_ixL, op_ixF, op_ixT, atI_0, atI_1, atI_2, ev_call, ev_meth, ex_ins, ev_make, ev_callO, ev_fld, flds_d, flds_w, flds_pm, ev_bor, ev_borT, ev_cut, ev_pInt, ex_int, op_cutL, ev_lstR, ev_iSeq, ex_lst, ex_frl, ev_iTp, ex_tup, ev_rg1, ex_int1, ev_rg2, ex_int2, run_seq, run_next, run_brk, run_cont, run_never, run_retN, run_ret, run_expr, run_if, run_set, run_tg, op_gNm, op_gTp, op_gNil, op_gCons, run_par, ex_two, run_fldS, ex_o, ex_l, run_setIx, run_for, ev_lc, op_stAt, stp_any, free_un, free_d, free_w, mk_d, mk_l, mk_o, divOk_iff, modOk_iff, powOk_iff, own_d, own_w, own_pm, own_s, seto_w, seto_pm, seto_s, op_backs_pm, op_backs_d, op_backs_nil, froz_ld, froz_d, froz_o, List.getElem?_cons_zero, List.getElem?_cons_succ, List.set_cons_zero, List.set_cons_succ, List.map_cons, List.map_nil, sfrz_un, sfrz_d, sfrz_w, sfrz_pm, flat_bl, flat_int, flat_non, flat_str, isN_non, isN_int, isN_bl, isN_str, isN_tup, isN_lst, isN_ins, decide_eq_true_eq, decide_eq_false_iff_not, Bool.not_eq_true', Bool.not_eq_false', true_and, and_true, forall_const, implies_true, false_implies, true_implies, forall_eq, Bool.false_eq_true, Bool.true_eq_false, if_true, if_false, reduceCtorEq, imp_self, List.cons_append, List.nil_append, List.replicate_succ, List.replicate_zero, Nat.reduceSub, Nat.reduceAdd, ne_eq, not_true_eq_false, not_false_eq_true, ex_pm, ex_mk, put0, put1, put2, put3, put4, put5, run_appP, op_qNm, qnp_d, op_catI, froz_il, op_gEqL, op_gNeL, op_gEqL0, op_gNeL0, op_gInL, op_gNinL, op_sorted, op_sum, op_lenSet, isi_int, isi_bl, isi_lst, isi_tup, isi_non, kit_ii, kit_ib, kit_bb, kit_bi, kit_ll, kit_tt, kit_il, kit_it, kit_lt, kit_tl, op_clr, op_clr0, clp_any, loc_un, loc_d, rst_cons, rst_nil, rstS_some, intL_rng, Bool.not_true, Bool.not_false, Int.sub_zero, op_gEqB]
  refine ⟨i62_of (by omega) (by omega), for_runG (fun _ e => ∃ s3 s4 s5 s6 s7 : Sl, (s3.free ∧ s4.free ∧ s5.free ∧ s6.free ∧ s7.free) ∧ e = [.d (lsD q), .d q.dt, .d (.int q.n), s3, s4, s5, s6, s7, .un]) ⟨.un, .un, .un, .un, .un, ⟨trivial, trivial, trivial, trivial, trivial⟩, rfl⟩ ?_ ?_⟩
  · rintro pre r post e hsp ⟨s3, s4, s5, s6, s7, ⟨f3, f4, f5, f6, f7⟩, rfl⟩
    have hr := mem_rng.mp (show r ∈ rng q.n by rw [hsp]; simp)
    simp only [ev_ret, ev_opt, ev_bnd, ev_frz, ev_up, ev_var, ev_mov, varp_d, varp_w, movp_d, movp_w, ev_c, ev_e1, ev_e2, ev_eL, ev_anil, ev_acons, ev_onil, ev_ocons, ev_tup, ev_lst, ev_asB, ev_not, ev_or, ev_and, ev_eIf, ev_vB, ev_vAnd, ev_vOr, ev_vNot, ev_e3c, ex_bl, blp_bl, op_some, op_map, op_gI, op_gI0, op_gEqI, op_gNeI, op_isN, op_len, op_lenF, op_lenT, op_int, op_abs, op_max2, op_min2, op_divmod, op_list, op_neg, op_ixL, op_ixF, op_ixT, atI_0, atI_1, atI_2, ev_call, ev_meth, ex_ins, ev_make, ev_callO, ev_fld, flds_d, flds_w, flds_pm, ev_bor, ev_borT, ev_cut, ev_pInt, ex_int, op_cutL, ev_lstR, ev_iSeq, ex_lst, ex_frl, ev_iTp, ex_tup, ev_rg1, ex_int1, ev_rg2, ex_int2, run_seq, run_next, run_brk, run_cont, run_never, run_retN, run_ret, run_expr, run_if, run_set, run_tg, op_gNm, op_gTp, op_gNil, op_gCons, run_par, ex_two, run_fldS, ex_o, ex_l, run_setIx, run_for, ev_lc, op_stAt, stp_any, free_un, free_d, free_w, mk_d, mk_l, mk_o, divOk_iff, modOk_iff, powOk_iff, own_d, own_w, own_pm, own_s, seto_w, seto_pm, seto_s, op_backs_pm, op_backs_d, op_backs_nil, froz_ld, froz_d, froz_o, List.getElem?_cons_zero, List.getElem?_cons_succ, List.set_cons_zero, List.set_cons_succ, List.map_cons, List.map_nil, sfrz_un, sfrz_d, sfrz_w, sfrz_pm, flat_bl, flat_int, flat_non, flat_str, isN_non, isN_int, isN_bl, isN_str, isN_tup, isN_lst, isN_ins, decide_eq_true_eq, decide_eq_false_iff_not, Bool.not_eq_true', Bool.not_eq_false', true_and, and_true, forall_const, implies_true, false_implies, true_implies, forall_eq, Bool.false_eq_true, Bool.true_eq_false, if_true, if_false, reduceCtorEq, imp_self, List.cons_append, List.nil_append, List.replicate_succ, List.replicate_zero, Nat.reduceSub, Nat.reduceAdd, ne_eq, not_true_eq_false, not_false_eq_true, ex_pm, ex_mk, put0, put1, put2, put3, put4, put5, run_appP, op_qNm, qnp_d, op_catI, froz_il, op_gEqL, op_gNeL, op_gEqL0, op_gNeL0, op_gInL, op_gNinL, op_sorted, op_sum, op_lenSet, isi_int, isi_bl, isi_lst, isi_tup, isi_non, kit_ii, kit_ib, kit_bb, kit_bi, kit_ll, kit_tt, kit_il, kit_it, kit_lt, kit_tl, op_clr, op_clr0, clp_any, loc_un, loc_d, rst_cons, rst_nil, rstS_some, intL_rng, Bool.not_true, Bool.not_false, Int.sub_zero, op_gEqB, f3, f4]
    refine ⟨i62_of (by omega) (by omega), for_runG (fun pre e => ∃ s5 : Sl, s5.free ∧ e = [.d (lsD q), .d q.dt, .d (.int q.n), .d (.int r), .w (.ld ((H q r pre).map .int)), s5, s6, s7, .un]) ⟨_, f5, rfl⟩ ?_ ?_⟩
    · rintro pre s post e hsp ⟨s5, f5, rfl⟩
      have hs := mem_rng.mp (show s ∈ rng q.n by rw [hsp]; simp)
      simp only [ev_ret, ev_opt, ev_bnd, ev_frz, ev_up, ev_var, ev_mov, varp_d, varp_w, movp_d, movp_w, ev_c, ev_e1, ev_e2, ev_eL, ev_anil, ev_acons, ev_onil, ev_ocons, ev_tup, ev_lst, ev_asB, ev_not, ev_or, ev_and, ev_eIf, ev_vB, ev_vAnd, ev_vOr, ev_vNot, ev_e3c, ex_bl, blp_bl, op_some, op_map, op_gI, op_gI0, op_gEqI, op_gNeI, op_isN, op_len, op_lenF, op_lenT, op_int, op_abs, op_max2, op_min2, op_divmod, op_list, op_neg, op_ixL, op_ixF, op_ixT, atI_0, atI_1, atI_2, ev_call, ev_meth, ex_ins, ev_make, ev_callO, ev_fld, flds_d, flds_w, flds_pm, ev_bor, ev_borT, ev_cut, ev_pInt, ex_int, op_cutL, ev_lstR, ev_iSeq, ex_lst, ex_frl, ev_iTp, ex_tup, ev_rg1, ex_int1, ev_rg2, ex_int2, run_seq, run_next, run_brk, run_cont, run_never, run_retN, run_ret, run_expr, run_if, run_set, run_tg, op_gNm, op_gTp, op_gNil, op_gCons, run_par, ex_two, run_fldS, ex_o, ex_l, run_setIx, run_for, ev_lc, op_stAt, stp_any, free_un, free_d, free_w, mk_d, mk_l, mk_o, divOk_iff, modOk_iff, powOk_iff, own_d, own_w, own_pm, own_s, seto_w, seto_pm, seto_s, op_backs_pm, op_backs_d, op_backs_nil, froz_ld, froz_d, froz_o, List.getElem?_cons_zero, List.getElem?_cons_succ, List.set_cons_zero, List.set_cons_succ, List.map_cons, List.map_nil, sfrz_un, sfrz_d, sfrz_w, sfrz_pm, flat_bl, flat_int, flat_non, flat_str, isN_non, isN_int, isN_bl, isN_str, isN_tup, isN_lst, isN_ins, decide_eq_true_eq, decide_eq_false_iff_not, Bool.not_eq_true', Bool.not_eq_false', true_and, and_true, forall_const, implies_true, false_implies, true_implies, forall_eq, Bool.false_eq_true, Bool.true_eq_false, if_true, if_false, reduceCtorEq, imp_self, List.cons_append, List.nil_append, List.replicate_succ, List.replicate_zero, Nat.reduceSub, Nat.reduceAdd, ne_eq, not_true_eq_false, not_false_eq_true, ex_pm, ex_mk, put0, put1, put2, put3, put4, put5, run_appP, op_qNm, qnp_d, op_catI, froz_il, op_gEqL, op_gNeL, op_gEqL0, op_gNeL0, op_gInL, op_gNinL, op_sorted, op_sum, op_lenSet, isi_int, isi_bl, isi_lst, isi_tup, isi_non, kit_ii, kit_ib, kit_bb, kit_bi, kit_ll, kit_tt, kit_il, kit_it, kit_lt, kit_tl, op_clr, op_clr0, clp_any, loc_un, loc_d, rst_cons, rst_nil, rstS_some, intL_rng, Bool.not_true, Bool.not_false, Int.sub_zero, op_gEqB, f5, ls_at hr.1 hr.2 hs.1 hs.2]
      refine lc_filterG (fun _ => false) (fun z => .d (.int z)) (sz' (Nat.lt_of_le_of_lt (P_len h r s) (by decide))) ?_ ?_
      · intro z hz
        simp only [ev_ret, ev_opt, ev_bnd, ev_frz, ev_up, ev_var, ev_mov, varp_d, varp_w, movp_d, movp_w, ev_c, ev_e1, ev_e2, ev_eL, ev_anil, ev_acons, ev_onil, ev_ocons, ev_tup, ev_lst, ev_asB, ev_not, ev_or, ev_and, ev_eIf, ev_vB, ev_vAnd, ev_vOr, ev_vNot, ev_e3c, ex_bl, blp_bl, op_some, op_map, op_gI, op_gI0, op_gEqI, op_gNeI, op_isN, op_len, op_lenF, op_lenT, op_int, op_abs, op_max2, op_min2, op_divmod, op_list, op_neg, op_ixL, op_ixF, op_ixT, atI_0, atI_1, atI_2, ev_call, ev_meth, ex_ins, ev_make, ev_callO, ev_fld, flds_d, flds_w, flds_pm, ev_bor, ev_borT, ev_cut, ev_pInt, ex_int, op_cutL, ev_lstR, ev_iSeq, ex_lst, ex_frl, ev_iTp, ex_tup, ev_rg1, ex_int1, ev_rg2, ex_int2, run_seq, run_next, run_brk, run_cont, run_never, run_retN, run_ret, run_expr, run_if, run_set, run_tg, op_gNm, op_gTp, op_gNil, op_gCons, run_par, ex_two, run_fldS, ex_o, ex_l, run_setIx, run_for, ev_lc, op_stAt, stp_any, free_un, free_d, free_w, mk_d, mk_l, mk_o, divOk_iff, modOk_iff, powOk_iff, own_d, own_w, own_pm, own_s, seto_w, seto_pm, seto_s, op_backs_pm, op_backs_d, op_backs_nil, froz_ld, froz_d, froz_o, List.getElem?_cons_zero, List.getElem?_cons_succ, List.set_cons_zero, List.set_cons_succ, List.map_cons, List.map_nil, sfrz_un, sfrz_d, sfrz_w, sfrz_pm, flat_bl, flat_int, flat_non, flat_str, isN_non, isN_int, isN_bl, isN_str, isN_tup, isN_lst, isN_ins, decide_eq_true_eq, decide_eq_false_iff_not, Bool.not_eq_true', Bool.not_eq_false', true_and, and_true, forall_const, implies_true, false_implies, true_implies, forall_eq, Bool.false_eq_true, Bool.true_eq_false, if_true, if_false, reduceCtorEq, imp_self, List.cons_append, List.nil_append, List.replicate_succ, List.replicate_zero, Nat.reduceSub, Nat.reduceAdd, ne_eq, not_true_eq_false, not_false_eq_true, ex_pm, ex_mk, put0, put1, put2, put3, put4, put5, run_appP, op_qNm, qnp_d, op_catI, froz_il, op_gEqL, op_gNeL, op_gEqL0, op_gNeL0, op_gInL, op_gNinL, op_sorted, op_sum, op_lenSet, isi_int, isi_bl, isi_lst, isi_tup, isi_non, kit_ii, kit_ib, kit_bb, kit_bi, kit_ll, kit_tt, kit_il, kit_it, kit_lt, kit_tl, op_clr, op_clr0, clp_any, loc_un, loc_d, rst_cons, rst_nil, rstS_some, intL_rng, Bool.not_true, Bool.not_false, Int.sub_zero, op_gEqB, whole_ok]
      · simp only [ev_ret, ev_opt, ev_bnd, ev_frz, ev_up, ev_var, ev_mov, varp_d, varp_w, movp_d, movp_w, ev_c, ev_e1, ev_e2, ev_eL, ev_anil, ev_acons, ev_onil, ev_ocons, ev_tup, ev_lst, ev_asB, ev_not, ev_or, ev_and, ev_eIf, ev_vB, ev_vAnd, ev_vOr, ev_vNot, ev_e3c, ex_bl, blp_bl, op_some, op_map, op_gI, op_gI0, op_gEqI, op_gNeI, op_isN, op_len, op_lenF, op_lenT, op_int, op_abs, op_max2, op_min2, op_divmod, op_list, op_neg, op_ixL, op_ixF, op_ixT, atI_0, atI_1, atI_2, ev_call, ev_meth, ex_ins, ev_make, ev_callO, ev_fld, flds_d, flds_w, flds_pm, ev_bor, ev_borT, ev_cut, ev_pInt, ex_int, op_cutL, ev_lstR, ev_iSeq, ex_lst, ex_frl, ev_iTp, ex_tup, ev_rg1, ex_int1, ev_rg2, ex_int2, run_seq, run_next, run_brk, run_cont, run_never, run_retN, run_ret, run_expr, run_if, run_set, run_tg, op_gNm, op_gTp, op_gNil, op_gCons, run_par, ex_two, run_fldS, ex_o, ex_l, run_setIx, run_for, ev_lc, op_stAt, stp_any, free_un, free_d, free_w, mk_d, mk_l, mk_o, divOk_iff, modOk_iff, powOk_iff, own_d, own_w, own_pm, own_s, seto_w, seto_pm, seto_s, op_backs_pm, op_backs_d, op_backs_nil, froz_ld, froz_d, froz_o, List.getElem?_cons_zero, List.getElem?_cons_succ, List.set_cons_zero, List.set_cons_succ, List.map_cons, List.map_nil, sfrz_un, sfrz_d, sfrz_w, sfrz_pm, flat_bl, flat_int, flat_non, flat_str, isN_non, isN_int, isN_bl, isN_str, isN_tup, isN_lst, isN_ins, decide_eq_true_eq, decide_eq_false_iff_not, Bool.not_eq_true', Bool.not_eq_false', true_and, and_true, forall_const, implies_true, false_implies, true_implies, forall_eq, Bool.false_eq_true, Bool.true_eq_false, if_true, if_false, reduceCtorEq, imp_self, List.cons_append, List.nil_append, List.replicate_succ, List.replicate_zero, Nat.reduceSub, Nat.reduceAdd, ne_eq, not_true_eq_false, not_false_eq_true, ex_pm, ex_mk, put0, put1, put2, put3, put4, put5, run_appP, op_qNm, qnp_d, op_catI, froz_il, op_gEqL, op_gNeL, op_gEqL0, op_gNeL0, op_gInL, op_gNinL, op_sorted, op_sum, op_lenSet, isi_int, isi_bl, isi_lst, isi_tup, isi_non, kit_ii, kit_ib, kit_bb, kit_bi, kit_ll, kit_tt, kit_il, kit_it, kit_lt, kit_tl, op_clr, op_clr0, clp_any, loc_un, loc_d, rst_cons, rst_nil, rstS_some, intL_rng, Bool.not_true, Bool.not_false, Int.sub_zero, op_gEqB, f5, ls_at hr.1 hr.2 hs.1 hs.2, sortI_self (P_sorted q r s)]
        have := H_len h r pre
        have := P_len h r s
        have hl : pre.length ≤ 10 := by
          have := congrArg List.length hsp
          rw [rng_len, List.length_append] at this
          omega
        exact ⟨fun hh => absurd filt_false hh, fun _ => ⟨sz' (by omega), .d (.int s), trivial, by rw [H_app]⟩⟩
    · rintro e ⟨s5, f5, rfl⟩
      simp only [ev_ret, ev_opt, ev_bnd, ev_frz, ev_up, ev_var, ev_mov, varp_d, varp_w, movp_d, movp_w, ev_c, ev_e1, ev_e2, ev_eL, ev_anil, ev_acons, ev_onil, ev_ocons, ev_tup, ev_lst, ev_asB, ev_not, ev_or, ev_and, ev_eIf, ev_vB, ev_vAnd, ev_vOr, ev_vNot, ev_e3c, ex_bl, blp_bl, op_some, op_map, op_gI, op_gI0, op_gEqI, op_gNeI, op_isN, op_len, op_lenF, op_lenT, op_int, op_abs, op_max2, op_min2, op_divmod, op_list, op_neg, op_ixL, op_ixF, op_ixT, atI_0, atI_1, atI_2, ev_call, ev_meth, ex_ins, ev_make, ev_callO, ev_fld, flds_d, flds_w, flds_pm, ev_bor, ev_borT, ev_cut, ev_pInt, ex_int, op_cutL, ev_lstR, ev_iSeq, ex_lst, ex_frl, ev_iTp, ex_tup, ev_rg1, ex_int1, ev_rg2, ex_int2, run_seq, run_next, run_brk, run_cont, run_never, run_retN, run_ret, run_expr, run_if, run_set, run_tg, op_gNm, op_gTp, op_gNil, op_gCons, run_par, ex_two, run_fldS, ex_o, ex_l, run_setIx, run_for, ev_lc, op_stAt, stp_any, free_un, free_d, free_w, mk_d, mk_l, mk_o, divOk_iff, modOk_iff, powOk_iff, own_d, own_w, own_pm, own_s, seto_w, seto_pm, seto_s, op_backs_pm, op_backs_d, op_backs_nil, froz_ld, froz_d, froz_o, List.getElem?_cons_zero, List.getElem?_cons_succ, List.set_cons_zero, List.set_cons_succ, List.map_cons, List.map_nil, sfrz_un, sfrz_d, sfrz_w, sfrz_pm, flat_bl, flat_int, flat_non, flat_str, isN_non, isN_int, isN_bl, isN_str, isN_tup, isN_lst, isN_ins, decide_eq_true_eq, decide_eq_false_iff_not, Bool.not_eq_true', Bool.not_eq_false', true_and, and_true, forall_const, implies_true, false_implies, true_implies, forall_eq, Bool.false_eq_true, Bool.true_eq_false, if_true, if_false, reduceCtorEq, imp_self, List.cons_append, List.nil_append, List.replicate_succ, List.replicate_zero, Nat.reduceSub, Nat.reduceAdd, ne_eq, not_true_eq_false, not_false_eq_true, ex_pm, ex_mk, put0, put1, put2, put3, put4, put5, run_appP, op_qNm, qnp_d, op_catI, froz_il, op_gEqL, op_gNeL, op_gEqL0, op_gNeL0, op_gInL, op_gNinL, op_sorted, op_sum, op_lenSet, isi_int, isi_bl, isi_lst, isi_tup, isi_non, kit_ii, kit_ib, kit_bb, kit_bi, kit_ll, kit_tt, kit_il, kit_it, kit_lt, kit_tl, op_clr, op_clr0, clp_any, loc_un, loc_d, rst_cons, rst_nil, rstS_some, intL_rng, Bool.not_true, Bool.not_false, Int.sub_zero, op_gEqB, H_sort h]
      refine ⟨by unfold rgOk; rw [i62_of (by omega) (by omega), i62_of (by omega) (by omega)]; simp; omega, i62_of (by omega) (by omega), for_runG (fun _ e => ∃ s6 s7 : Sl, s6.free ∧ s7.free ∧ e = [.d (lsD q), .d q.dt, .d (.int q.n), .d (.int r), .d (.lst ((H q r (rng q.n)).map .int)), s5, s6, s7, .un]) ⟨_, _, f6, f7, rfl⟩ ?_ ?_⟩
      · rintro pre c post e hsp ⟨s6, s7, f6, f7, rfl⟩
        have hc := mem_rng.mp (show c ∈ rng q.n by rw [hsp]; simp)
        have hsg : 0 ≤ sgn q r c ∧ sgn q r c < q.n := sgn_rng h r c
        simp only [ev_ret, ev_opt, ev_bnd, ev_frz, ev_up, ev_var, ev_mov, varp_d, varp_w, movp_d, movp_w, ev_c, ev_e1, ev_e2, ev_eL, ev_anil, ev_acons, ev_onil, ev_ocons, ev_tup, ev_lst, ev_asB, ev_not, ev_or, ev_and, ev_eIf, ev_vB, ev_vAnd, ev_vOr, ev_vNot, ev_e3c, ex_bl, blp_bl, op_some, op_map, op_gI, op_gI0, op_gEqI, op_gNeI, op_isN, op_len, op_lenF, op_lenT, op_int, op_abs, op_max2, op_min2, op_divmod, op_list, op_neg, op_ixL, op_ixF, op_ixT, atI_0, atI_1, atI_2, ev_call, ev_meth, ex_ins, ev_make, ev_callO, ev_fld, flds_d, flds_w, flds_pm, ev_bor, ev_borT, ev_cut, ev_pInt, ex_int, op_cutL, ev_lstR, ev_iSeq, ex_lst, ex_frl, ev_iTp, ex_tup, ev_rg1, ex_int1, ev_rg2, ex_int2, run_seq, run_next, run_brk, run_cont, run_never, run_retN, run_ret, run_expr, run_if, run_set, run_tg, op_gNm, op_gTp, op_gNil, op_gCons, run_par, ex_two, run_fldS, ex_o, ex_l, run_setIx, run_for, ev_lc, op_stAt, stp_any, free_un, free_d, free_w, mk_d, mk_l, mk_o, divOk_iff, modOk_iff, powOk_iff, own_d, own_w, own_pm, own_s, seto_w, seto_pm, seto_s, op_backs_pm, op_backs_d, op_backs_nil, froz_ld, froz_d, froz_o, List.getElem?_cons_zero, List.getElem?_cons_succ, List.set_cons_zero, List.set_cons_succ, List.map_cons, List.map_nil, sfrz_un, sfrz_d, sfrz_w, sfrz_pm, flat_bl, flat_int, flat_non, flat_str, isN_non, isN_int, isN_bl, isN_str, isN_tup, isN_lst, isN_ins, decide_eq_true_eq, decide_eq_false_iff_not, Bool.not_eq_true', Bool.not_eq_false', true_and, and_true, forall_const, implies_true, false_implies, true_implies, forall_eq, Bool.false_eq_true, Bool.true_eq_false, if_true, if_false, reduceCtorEq, imp_self, List.cons_append, List.nil_append, List.replicate_succ, List.replicate_zero, Nat.reduceSub, Nat.reduceAdd, ne_eq, not_true_eq_false, not_false_eq_true, ex_pm, ex_mk, put0, put1, put2, put3, put4, put5, run_appP, op_qNm, qnp_d, op_catI, froz_il, op_gEqL, op_gNeL, op_gEqL0, op_gNeL0, op_gInL, op_gNinL, op_sorted, op_sum, op_lenSet, isi_int, isi_bl, isi_lst, isi_tup, isi_non, kit_ii, kit_ib, kit_bb, kit_bi, kit_ll, kit_tt, kit_il, kit_it, kit_lt, kit_tl, op_clr, op_clr0, clp_any, loc_un, loc_d, rst_cons, rst_nil, rstS_some, intL_rng, Bool.not_true, Bool.not_false, Int.sub_zero, op_gEqB, f6, f7, sign_ok h hr.1 hr.2 hc.1 hc.2, whole_ok, ls_at hr.1 hr.2 hsg.1 hsg.2]
        refine ⟨fun hh => absurd hh (by omega), fun _ => ⟨fun hh => absurd hh (by omega), fun _ => ⟨fun hh => absurd (mem_P.mpr ⟨hc, rfl⟩) hh, fun _ => ⟨.d (.int c), .d (.int (sgn q r c)), trivial, trivial, rfl⟩⟩⟩⟩
      · rintro e ⟨s6, s7, f6, f7, rfl⟩
        exact ⟨.d (.int r), .d (.lst ((H q r (rng q.n)).map .int)), s5, s6, s7, ⟨trivial, trivial, f5, f6, f7⟩, rfl⟩
  · rintro e ⟨s3, s4, s5, s6, s7, _, rfl⟩
    simp only [ev_ret, ev_opt, ev_bnd, ev_frz, ev_up, ev_var, ev_mov, varp_d, varp_w, movp_d, movp_w, ev_c, ev_e1, ev_e2, ev_eL, ev_anil, ev_acons, ev_onil, ev_ocons, ev_tup, ev_lst, ev_asB, ev_not, ev_or, ev_and, ev_eIf, ev_vB, ev_vAnd, ev_vOr, ev_vNot, ev_e3c, ex_bl, blp_bl, op_some, op_map, op_gI, op_gI0, op_gEqI, op_gNeI, op_isN, op_len, op_lenF, op_lenT, op_int, op_abs, op_max2, op_min2, op_divmod, op_list, op_neg, op_ixL, op_ixF, op_ixT, atI_0, atI_1, atI_2, ev_call, ev_meth, ex_ins, ev_make, ev_callO, ev_fld, flds_d, flds_w, flds_pm, ev_bor, ev_borT, ev_cut, ev_pInt, ex_int, op_cutL, ev_lstR, ev_iSeq, ex_lst, ex_frl, ev_iTp, ex_tup, ev_rg1, ex_int1, ev_rg2, ex_int2, run_seq, run_next, run_brk, run_cont, run_never, run_retN, run_ret, run_expr, run_if, run_set, run_tg, op_gNm, op_gTp, op_gNil, op_gCons, run_par, ex_two, run_fldS, ex_o, ex_l, run_setIx, run_for, ev_lc, op_stAt, stp_any, free_un, free_d, free_w, mk_d, mk_l, mk_o, divOk_iff, modOk_iff, powOk_iff, own_d, own_w, own_pm, own_s, seto_w, seto_pm, seto_s, op_backs_pm, op_backs_d, op_backs_nil, froz_ld, froz_d, froz_o, List.getElem?_cons_zero, List.getElem?_cons_succ, List.set_cons_zero, List.set_cons_succ, List.map_cons, List.map_nil, sfrz_un, sfrz_d, sfrz_w, sfrz_pm, flat_bl, flat_int, flat_non, flat_str, isN_non, isN_int, isN_bl, isN_str, isN_tup, isN_lst, isN_ins, decide_eq_true_eq, decide_eq_false_iff_not, Bool.not_eq_true', Bool.not_eq_false', true_and, and_true, forall_const, implies_true, false_implies, true_implies, forall_eq, Bool.false_eq_true, Bool.true_eq_false, if_true, if_false, reduceCtorEq, imp_self, List.cons_append, List.nil_append, List.replicate_succ, List.replicate_zero, Nat.reduceSub, Nat.reduceAdd, ne_eq, not_true_eq_false, not_false_eq_true, ex_pm, ex_mk, put0, put1, put2, put3, put4, put5, run_appP, op_qNm, qnp_d, op_catI, froz_il, op_gEqL, op_gNeL, op_gEqL0, op_gNeL0, op_gInL, op_gNinL, op_sorted, op_sum, op_lenSet, isi_int, isi_bl, isi_lst, isi_tup, isi_non, kit_ii, kit_ib, kit_bb, kit_bi, kit_ll, kit_tt, kit_il, kit_it, kit_lt, kit_tl, op_clr, op_clr0, clp_any, loc_un, loc_d, rst_cons, rst_nil, rstS_some, intL_rng, Bool.not_true, Bool.not_false, Int.sub_zero, op_gEqB]
end K88
set_option Elab.async false
set_option linter.all false
set_option maxRecDepth 100000
set_option maxHeartbeats 1000000
set_option exponentiation.threshold 20000
namespace K88
open PySem DL
theorem inv_ex {a n : Int} (hn : 1 ≤ n) (h1 : n ≤ 10) (h : Int.gcd a n = 1) : ∃ u, n ∣ u * a - 1 := by
  obtain ⟨x, _, _, _, hx⟩ := inv_ok a n (by omega) (by omega)
  rw [h] at hx
  exact ⟨x, hx⟩
theorem small_dvd {n x y : Int} (h0 : 0 ≤ x) (h1 : x < n) (h2 : 0 ≤ y) (h3 : y < n) (h : n ∣ x - y) : x = y := by
  obtain ⟨z, hz⟩ := h
  rcases Int.lt_trichotomy z 0 with hz0 | hz0 | hz0
  · have := Int.mul_le_mul_of_nonneg_left (show z ≤ -1 by omega) (show 0 ≤ n by omega)
    omega
  · subst hz0
    omega
  · have := Int.mul_le_mul_of_nonneg_left (show 1 ≤ z by omega) (show 0 ≤ n by omega)
    omega
theorem lin_inj {a n x y : Int} (hn : 1 ≤ n) (hn1 : n ≤ 10) (h : Int.gcd a n = 1) (h0 : 0 ≤ x) (h1 : x < n) (h2 : 0 ≤ y) (h3 : y < n) (hd : n ∣ a * (x - y)) : x = y := by
  obtain ⟨u, v, hv⟩ := inv_ex hn hn1 h
  obtain ⟨z, hz⟩ := hd
  exact small_dvd h0 h1 h2 h3 ⟨u * z - v * (x - y), by grind⟩
theorem lin_bad {a n : Int} (hn : 1 ≤ n) (h : Int.gcd a n ≠ 1) : ∃ x, 0 < x ∧ x < n ∧ n ∣ a * x := by
  have hg0 : 0 < Int.gcd a n := Int.gcd_pos_of_ne_zero_right _ (by omega)
  obtain ⟨a', ha⟩ : ((Int.gcd a n : Nat) : Int) ∣ a := Int.gcd_dvd_left ..
  obtain ⟨n', hn'⟩ : ((Int.gcd a n : Nat) : Int) ∣ n := Int.gcd_dvd_right ..
  generalize hG : ((Int.gcd a n : Nat) : Int) = g at *
  have hg : 2 ≤ g := by omega
  have hp : 0 < n' := by
    rcases Int.lt_or_le 0 n' with h | h
    · exact h
    · have := Int.mul_le_mul_of_nonneg_left h (show 0 ≤ g by omega)
      omega
  have := Int.mul_le_mul_of_nonneg_right hg (show 0 ≤ n' by omega)
  refine ⟨n', hp, by omega, a', ?_⟩
  grind
theorem mat_ex {a b c d n S T : Int} (hn : 1 ≤ n) (hn1 : n ≤ 10) (h : Int.gcd (a * d - c * b) n = 1) : ∃ x y, 0 ≤ x ∧ x < n ∧ 0 ≤ y ∧ y < n ∧ n ∣ a * x + b * y - S ∧ n ∣ c * x + d * y - T := by
  obtain ⟨u, v, hv⟩ := inv_ex hn hn1 h
  have e1 := Int.emod_add_mul_ediv (u * (d * S - b * T)) n
  have e2 := Int.emod_add_mul_ediv (u * (a * T - c * S)) n
  refine ⟨(u * (d * S - b * T)) % n, (u * (a * T - c * S)) % n, Int.emod_nonneg _ (by omega), Int.emod_lt_of_pos _ (by omega), Int.emod_nonneg _ (by omega), Int.emod_lt_of_pos _ (by omega), ?_, ?_⟩
  · generalize (u * (d * S - b * T)) % n = x at *
    generalize (u * (a * T - c * S)) % n = y at *
    generalize (u * (d * S - b * T)) / n = p at *
    generalize (u * (a * T - c * S)) / n = q at *
    exact ⟨v * S - a * p - b * q, by grind⟩
  · generalize (u * (d * S - b * T)) % n = x at *
    generalize (u * (a * T - c * S)) % n = y at *
    generalize (u * (d * S - b * T)) / n = p at *
    generalize (u * (a * T - c * S)) / n = q at *
    exact ⟨v * T - c * p - d * q, by grind⟩
theorem mat_uniq {a b c d n x y x' y' : Int} (hn : 1 ≤ n) (hn1 : n ≤ 10) (h : Int.gcd (a * d - c * b) n = 1) (h0 : 0 ≤ x ∧ x < n) (h1 : 0 ≤ y ∧ y < n) (h2 : 0 ≤ x' ∧ x' < n) (h3 : 0 ≤ y' ∧ y' < n) (e1 : n ∣ a * (x - x') + b * (y - y')) (e2 : n ∣ c * (x - x') + d * (y - y')) : x = x' ∧ y = y' := by
  obtain ⟨p, hp⟩ := e1
  obtain ⟨q, hq⟩ := e2
  refine ⟨lin_inj hn hn1 h h0.1 h0.2 h2.1 h2.2 ⟨d * p - b * q, by grind⟩, lin_inj hn hn1 h h1.1 h1.2 h3.1 h3.2 ⟨a * q - c * p, by grind⟩⟩
theorem mat_gcd {a b c d n x y z w : Int} (e1 : n ∣ a * x + b * y - 1) (e2 : n ∣ c * x + d * y) (e3 : n ∣ a * z + b * w) (e4 : n ∣ c * z + d * w - 1) : Int.gcd (a * d - c * b) n = 1 := by
  have h : n ∣ (a * d - c * b) * (x * w - y * z) - 1 := by
    obtain ⟨p, hp⟩ := e1
    obtain ⟨r, hr⟩ := e2
    obtain ⟨q, hq⟩ := e3
    obtain ⟨u, hu⟩ := e4
    exact ⟨p * (c * z + d * w) + u - q * (c * x + d * y), by grind⟩
  have hg : ((Int.gcd (a * d - c * b) n : Nat) : Int) ∣ 1 := by
    have h1 := Int.dvd_trans (Int.gcd_dvd_right (a * d - c * b) n) h
    have h2 : ((Int.gcd (a * d - c * b) n : Nat) : Int) ∣ (a * d - c * b) * (x * w - y * z) := Int.dvd_trans (Int.gcd_dvd_left ..) (Int.dvd_mul_right ..)
    have := Int.dvd_sub h2 h1
    have e : (a * d - c * b) * (x * w - y * z) - ((a * d - c * b) * (x * w - y * z) - 1) = 1 := by omega
    rwa [e] at this
  have := Int.le_of_dvd (by decide) hg
  have : Int.gcd (a * d - c * b) n ≠ 0 := fun h0 => by
    rw [h0] at hg
    obtain ⟨z, hz⟩ := hg
    omega
  omega
theorem fR_eq {o : R} {n x y x' y' : Int} (hn : 1 ≤ n) : fR o n x y = fR o n x' y' ↔ n ∣ o.a * (x - x') + o.b * (y - y') := by
  have h := fR_rng (o := o) (x := x') (y := y') hn
  unfold fR at *
  rw [emod_iff h.1 h.2]
  have e := Int.emod_add_mul_ediv (o.a * x' + o.b * y' + o.d) n
  generalize (o.a * x' + o.b * y' + o.d) % n = w at *
  generalize (o.a * x' + o.b * y' + o.d) / n = v at *
  constructor
  · rintro ⟨z, hz⟩
    exact ⟨z - v, by grind⟩
  · rintro ⟨z, hz⟩
    exact ⟨z + v, by grind⟩
theorem sgn_eq {q : J} (h : q.Ok) {r c r' c' : Int} : sgn q r c = sgn q r' c' ↔ fR q.o q.m (r / q.k) (c / q.k) = fR q.o q.m (r' / q.k) (c' / q.k) ∧ fR q.i q.k (r % q.k) (c % q.k) = fR q.i q.k (r' % q.k) (c' % q.k) := by
  constructor
  · intro e
    obtain ⟨h1, h2⟩ := (sgn_two h).mp e
    have e2 := (sgn_two h (r := r') (c := c') (s := sgn q r' c')).mp rfl
    exact ⟨h1.trans e2.1.symm, h2.trans e2.2.symm⟩
  · rintro ⟨h1, h2⟩
    unfold sgn
    rw [h1, h2]
theorem num_eq {k x y : Int} (h1 : x / k = y / k) (h2 : x % k = y % k) : x = y := by
  have e1 := Int.emod_add_mul_ediv x k
  have e2 := Int.emod_add_mul_ediv y k
  rw [h1, h2] at e1
  omega
theorem cell {q : J} (h : q.Ok) {x y : Int} (hx : 0 ≤ x ∧ x < q.m) (hy : 0 ≤ y ∧ y < q.k) : ∃ c, 0 ≤ c ∧ c < q.n ∧ c / q.k = x ∧ c % q.k = y := by
  have hk := h.hk
  have h1 := (qr (k := q.k) (h := x) (l := y) (s := q.k * x + y) hk hy.1 hy.2).mp rfl
  refine ⟨q.k * x + y, ?_, ?_, h1.1.symm, h1.2.symm⟩
  · have := Int.mul_nonneg (show 0 ≤ q.k by omega) hx.1
    omega
  · have := Int.mul_le_mul_of_nonneg_left (show x + 1 ≤ q.m by omega) (show 0 ≤ q.k by omega)
    have e1 : q.k * (x + 1) = q.k * x + q.k := by grind
    have e2 : q.n = q.k * q.m := Int.mul_comm ..
    omega
theorem two_len {xs : List Int} {x y : Int} (hx : x ∈ xs) (hy : y ∈ xs) (hn : x ≠ y) : xs.length ≠ 1 := by
  intro h
  obtain ⟨z, rfl⟩ := List.length_eq_one_iff.mp h
  simp only [List.mem_singleton] at hx hy
  omega
def rowsG (q : J) : Prop := Int.gcd q.o.b q.m = 1 ∧ Int.gcd q.i.b q.k = 1
def colsG (q : J) : Prop := Int.gcd q.o.a q.m = 1 ∧ Int.gcd q.i.a q.k = 1
theorem rowsT {q : J} (h : q.Ok) : rowsG q ↔ ∀ r ∈ rng q.n, ∀ s ∈ rng q.n, (P q r s).length = 1 := by
  have hm := h.hm
  have hk := h.hk
  have hn := h.n1
  constructor
  · rintro ⟨g1, g2⟩ r hr s hs
    rw [mem_rng] at hr hs
    obtain ⟨b1, b2, b3, b4⟩ := div_rng h hs.1 hs.2
    obtain ⟨u, u', hu⟩ := inv_ex hm h.m10 g1
    obtain ⟨v, v', hv⟩ := inv_ex hk h.k10 g2
    have e1 := Int.emod_add_mul_ediv (u * (s / q.k - q.o.d - q.o.a * (r / q.k))) q.m
    have e2 := Int.emod_add_mul_ediv (v * (s % q.k - q.i.d - q.i.a * (r % q.k))) q.k
    obtain ⟨c, c0, c1, c2, c3⟩ := cell h ⟨Int.emod_nonneg (u * (s / q.k - q.o.d - q.o.a * (r / q.k))) (show q.m ≠ 0 by omega), Int.emod_lt_of_pos _ (by omega)⟩ ⟨Int.emod_nonneg (v * (s % q.k - q.i.d - q.i.a * (r % q.k))) (show q.k ≠ 0 by omega), Int.emod_lt_of_pos _ (by omega)⟩
    have hc : sgn q r c = s := (sgn_iff h hs.1 hs.2).mpr ⟨by
      rw [c2]
      generalize s / q.k - q.o.d - q.o.a * (r / q.k) = w at *
      exact ⟨u' * w - q.o.b * (u * w / q.m), by grind⟩, by
      rw [c3]
      generalize s % q.k - q.i.d - q.i.a * (r % q.k) = w at *
      exact ⟨v' * w - q.i.b * (v * w / q.k), by grind⟩⟩
    have : P q r s = [c] := sorted_eq (P_sorted q r s) (by simp) fun z => by
      rw [mem_P, List.mem_singleton]
      constructor
      · rintro ⟨hz, hz2⟩
        obtain ⟨f1, f2⟩ := (sgn_eq h).mp (hz2.trans hc.symm)
        obtain ⟨p1, p2, p3, p4⟩ := div_rng h hz.1 hz.2
        obtain ⟨q1, q2, q3, q4⟩ := div_rng h c0 c1
        have f1 := (fR_eq hm).mp f1
        have f2 := (fR_eq hk).mp f2
        simp only [Int.sub_self, Int.mul_zero, Int.zero_add] at f1 f2
        exact num_eq (lin_inj hm h.m10 g1 p1 p2 q1 q2 f1) (lin_inj hk h.k10 g2 p3 p4 q3 q4 f2)
      · rintro rfl
        exact ⟨⟨c0, c1⟩, hc⟩
    rw [this]
    rfl
  · intro hall
    have z0 : (0 : Int) ∈ rng q.n := mem_rng.mpr ⟨by omega, by omega⟩
    have hz0 : (0 : Int) / q.k = 0 := Int.zero_ediv _
    have hz1 : (0 : Int) % q.k = 0 := Int.zero_emod _
    constructor
    · refine Classical.byContradiction fun hg => ?_
      obtain ⟨x, x0, x1, xd⟩ := lin_bad hm hg
      obtain ⟨c, c0, c1, c2, c3⟩ := cell h ⟨Int.le_of_lt x0, x1⟩ ⟨Int.le_refl 0, by omega⟩
      have := hall 0 z0 (sgn q 0 0) (mem_rng.mpr (sgn_rng h 0 0))
      refine two_len (x := 0) (y := c) (mem_P.mpr ⟨⟨by omega, hn.1⟩, rfl⟩) (mem_P.mpr ⟨⟨c0, c1⟩, (sgn_eq h).mpr ⟨(fR_eq hm).mpr ?_, (fR_eq hk).mpr ?_⟩⟩) (fun e => by subst e; omega) this
      · rw [c2, hz0]
        obtain ⟨w, hw⟩ := xd
        exact ⟨w, by grind⟩
      · rw [c3, hz1]
        exact ⟨0, by grind⟩
    · refine Classical.byContradiction fun hg => ?_
      obtain ⟨x, x0, x1, xd⟩ := lin_bad hk hg
      obtain ⟨c, c0, c1, c2, c3⟩ := cell h ⟨Int.le_refl 0, by omega⟩ ⟨Int.le_of_lt x0, x1⟩
      have := hall 0 z0 (sgn q 0 0) (mem_rng.mpr (sgn_rng h 0 0))
      refine two_len (x := 0) (y := c) (mem_P.mpr ⟨⟨by omega, hn.1⟩, rfl⟩) (mem_P.mpr ⟨⟨c0, c1⟩, (sgn_eq h).mpr ⟨(fR_eq hm).mpr ?_, (fR_eq hk).mpr ?_⟩⟩) (fun e => by subst e; omega) this
      · rw [c2, hz0]
        exact ⟨0, by grind⟩
      · rw [c3, hz1]
        obtain ⟨w, hw⟩ := xd
        exact ⟨w, by grind⟩
/-- the columns that hold a sign, row after row -/
def C (q : J) (s : Int) (rs : List Int) : List Int := rs.flatMap fun r => P q r s
theorem C_app (q : J) (s : Int) (rs : List Int) (r : Int) : C q s (rs ++ [r]) = C q s rs ++ P q r s := by
  unfold C
  simp
theorem C_len {q : J} (h : q.Ok) (s : Int) : ∀ rs : List Int, (C q s rs).length ≤ 10 * rs.length
  | [] => by simp [C]
  | r :: rs => by
    have := C_len h s rs
    have := P_len h r s
    unfold C at *
    simp only [List.flatMap_cons, List.length_append, List.length_cons]
    omega
theorem C_nodup {q : J} {s : Int} {rs : List Int} (hs : rs.Pairwise (· < ·)) : (C q s rs).Nodup ↔ rs.Pairwise fun r r' => ∀ z, z ∈ P q r s → z ∉ P q r' s := by
  unfold C
  show List.Pairwise _ _ ↔ _
  rw [List.pairwise_flatMap]
  constructor
  · rintro ⟨_, h2⟩
    exact h2.imp fun h z hz hz' => h z hz z hz' rfl
  · intro h
    exact ⟨fun r _ => nodup_of_lt (P_sorted q r s), h.imp fun h z hz z' hz' e => by subst e; exact h z hz hz'⟩
theorem pw_of {xs : List Int} (hs : xs.Pairwise (· < ·)) {p : Int → Int → Prop} (h : xs.Pairwise p) {x y : Int} (hx : x ∈ xs) (hy : y ∈ xs) (hxy : x < y) : p x y := by
  induction xs with
  | nil => cases hx
  | cons z zs ih =>
    have hs' := List.pairwise_cons.mp hs
    have h' := List.pairwise_cons.mp h
    rcases List.mem_cons.mp hx with rfl | mx
    · rcases List.mem_cons.mp hy with rfl | my
      · omega
      · exact h'.1 y my
    · rcases List.mem_cons.mp hy with rfl | my
      · have := hs'.1 x mx
        omega
      · exact ih hs'.2 h'.2 mx my
theorem colsT {q : J} (h : q.Ok) : colsG q ↔ ∀ s ∈ rng q.n, (C q s (rng q.n)).Nodup := by
  have hm := h.hm
  have hk := h.hk
  have hn := h.n1
  constructor
  · rintro ⟨g1, g2⟩ s hs
    rw [C_nodup (rng_sorted _)]
    refine List.Pairwise.imp_of_mem ?_ (rng_sorted _)
    intro r r' hr hr' hlt z hz hz'
    rw [mem_rng] at hr hr'
    obtain ⟨f1, f2⟩ := (sgn_eq h).mp ((mem_P.mp hz).2.trans (mem_P.mp hz').2.symm)
    obtain ⟨p1, p2, p3, p4⟩ := div_rng h hr.1 hr.2
    obtain ⟨q1, q2, q3, q4⟩ := div_rng h hr'.1 hr'.2
    have f1 := (fR_eq hm).mp f1
    have f2 := (fR_eq hk).mp f2
    simp only [Int.sub_self, Int.mul_zero, Int.add_zero] at f1 f2
    have := num_eq (lin_inj hm h.m10 g1 p1 p2 q1 q2 f1) (lin_inj hk h.k10 g2 p3 p4 q3 q4 f2)
    omega
  · intro hall
    have z0 : (0 : Int) ∈ rng q.n := mem_rng.mpr ⟨by omega, by omega⟩
    have hz0 : (0 : Int) / q.k = 0 := Int.zero_ediv _
    have hz1 : (0 : Int) % q.k = 0 := Int.zero_emod _
    have bad : ∀ r, 0 < r → r < q.n → sgn q r 0 = sgn q 0 0 → False := fun r r0 r1 e => by
      have := hall (sgn q 0 0) (mem_rng.mpr (sgn_rng h 0 0))
      rw [C_nodup (rng_sorted _)] at this
      exact pw_of (rng_sorted _) this z0 (mem_rng.mpr ⟨by omega, r1⟩) r0 0 (mem_P.mpr ⟨⟨by omega, hn.1⟩, rfl⟩) (mem_P.mpr ⟨⟨by omega, hn.1⟩, e⟩)
    constructor
    · refine Classical.byContradiction fun hg => ?_
      obtain ⟨x, x0, x1, xd⟩ := lin_bad hm hg
      obtain ⟨c, c0, c1, c2, c3⟩ := cell h ⟨Int.le_of_lt x0, x1⟩ ⟨Int.le_refl 0, by omega⟩
      have hc : c ≠ 0 := fun e => by subst e; omega
      refine bad c (by omega) c1 ((sgn_eq h).mpr ⟨(fR_eq hm).mpr ?_, (fR_eq hk).mpr ?_⟩)
      · rw [c2, hz0]
        obtain ⟨w, hw⟩ := xd
        exact ⟨w, by grind⟩
      · rw [c3, hz1]
        exact ⟨0, by grind⟩
    · refine Classical.byContradiction fun hg => ?_
      obtain ⟨x, x0, x1, xd⟩ := lin_bad hk hg
      obtain ⟨c, c0, c1, c2, c3⟩ := cell h ⟨Int.le_refl 0, by omega⟩ ⟨Int.le_of_lt x0, x1⟩
      have hc : c ≠ 0 := fun e => by subst e; omega
      refine bad c (by omega) c1 ((sgn_eq h).mpr ⟨(fR_eq hm).mpr ?_, (fR_eq hk).mpr ?_⟩)
      · rw [c2, hz0]
        exact ⟨0, by grind⟩
      · rw [c3, hz1]
        obtain ⟨w, hw⟩ := xd
        exact ⟨w, by grind⟩
def cnt (q p : J) (s t : Int) (rs : List Int) : Nat := (rs.map fun r => ((P q r s).filter fun c => decide (c ∈ P p r t)).length).sum
def crossR (o u : R) : Int := o.a * u.b - u.a * o.b
def pairG (q p : J) : Prop := Int.gcd (crossR q.o p.o) q.m = 1 ∧ Int.gcd (crossR q.i p.i) q.k = 1
theorem sum_one {f : Int → Nat} {z : Int} (h1 : f z = 1) : ∀ {xs : List Int}, xs.Pairwise (· < ·) → z ∈ xs → (∀ y ∈ xs, y ≠ z → f y = 0) → (xs.map f).sum = 1
  | [], _, hz, _ => by cases hz
  | x :: xs, hs, hz, h0 => by
    have hs' := List.pairwise_cons.mp hs
    simp only [List.map_cons, List.sum_cons]
    by_cases e : x = z
    · subst e
      have : (xs.map f).sum = 0 := by
        have hall : ∀ y ∈ xs, f y = 0 := fun y hy => h0 y (List.mem_cons_of_mem _ hy) fun e => by
          have := hs'.1 y hy
          omega
        clear h0 hs hs' hz
        induction xs with
        | nil => rfl
        | cons y ys ih => simp only [List.map_cons, List.sum_cons, hall y (List.mem_cons_self ..), ih fun w hw => hall w (List.mem_cons_of_mem _ hw)]
      omega
    · have := sum_one h1 hs'.2 ((List.mem_cons.mp hz).resolve_left fun h => e h.symm) fun y hy => h0 y (List.mem_cons_of_mem _ hy)
      have := h0 x (List.mem_cons_self ..) e
      omega
theorem sum_pos {f : Int → Nat} : ∀ {xs : List Int}, (xs.map f).sum = 1 → ∃ x ∈ xs, f x ≠ 0
  | [], h => by simp at h
  | x :: xs, h => by
    simp only [List.map_cons, List.sum_cons] at h
    by_cases e : f x = 0
    · have h3 : (xs.map f).sum = 1 := by rw [e] at h; omega
      obtain ⟨y, hy, h2⟩ := sum_pos h3
      exact ⟨y, List.mem_cons_of_mem _ hy, h2⟩
    · exact ⟨x, List.mem_cons_self .., e⟩
theorem pairT {q p : J} (h : q.Ok) (h' : p.Ok) (em : q.m = p.m) (ek : q.k = p.k) : pairG q p ↔ ∀ s ∈ rng q.n, ∀ t ∈ rng q.n, cnt q p s t (rng q.n) = 1 := by
  have hm := h.hm
  have hk := h.hk
  have hn := h.n1
  have en : p.n = q.n := by show p.m * p.k = q.m * q.k; rw [em, ek]
  constructor
  · rintro ⟨g1, g2⟩ s hs t ht
    rw [mem_rng] at hs ht
    obtain ⟨b1, b2, b3, b4⟩ := div_rng h hs.1 hs.2
    obtain ⟨t1, t2, t3, t4⟩ := div_rng h ht.1 ht.2
    obtain ⟨x, y, x0, x1, y0, y1, d1, d2⟩ := mat_ex (S := s / q.k - q.o.d) (T := t / q.k - p.o.d) hm h.m10 g1
    obtain ⟨x', y', x0', x1', y0', y1', d3, d4⟩ := mat_ex (S := s % q.k - q.i.d) (T := t % q.k - p.i.d) hk h.k10 g2
    obtain ⟨r, r0, r1, r2, r3⟩ := cell h ⟨x0, x1⟩ ⟨x0', x1'⟩
    obtain ⟨c, c0, c1, c2, c3⟩ := cell h ⟨y0, y1⟩ ⟨y0', y1'⟩
    have hq : sgn q r c = s := (sgn_iff h hs.1 hs.2).mpr ⟨by
      rw [r2, c2]; obtain ⟨w, hw⟩ := d1; exact ⟨w, by grind⟩, by
      rw [r3, c3]; obtain ⟨w, hw⟩ := d3; exact ⟨w, by grind⟩⟩
    have hp : sgn p r c = t := (sgn_iff h' ht.1 (by rw [← em, ← ek]; exact ht.2)).mpr ⟨by
      rw [← em, ← ek, r2, c2]; obtain ⟨w, hw⟩ := d2; exact ⟨w, by grind⟩, by
      rw [← ek, r3, c3]; obtain ⟨w, hw⟩ := d4; exact ⟨w, by grind⟩⟩
    have uniq : ∀ r' c', 0 ≤ r' → r' < q.n → 0 ≤ c' → c' < q.n → sgn q r' c' = s → sgn p r' c' = t → r' = r ∧ c' = c := fun r' c' u0 u1 v0 v1 e1 e2 => by
      obtain ⟨f1, f2⟩ := (sgn_eq h).mp (e1.trans hq.symm)
      obtain ⟨f3, f4⟩ := (sgn_eq h').mp (e2.trans hp.symm)
      obtain ⟨p1, p2, p3, p4⟩ := div_rng h u0 u1
      obtain ⟨p5, p6, p7, p8⟩ := div_rng h v0 v1
      obtain ⟨q1, q2, q3, q4⟩ := div_rng h r0 r1
      obtain ⟨q5, q6, q7, q8⟩ := div_rng h c0 c1
      rw [← em, ← ek] at f3
      rw [← ek] at f4
      have m1 := mat_uniq hm h.m10 g1 ⟨p1, p2⟩ ⟨p5, p6⟩ ⟨q1, q2⟩ ⟨q5, q6⟩ ((fR_eq hm).mp f1) ((fR_eq hm).mp f3)
      have m2 := mat_uniq hk h.k10 g2 ⟨p3, p4⟩ ⟨p7, p8⟩ ⟨q3, q4⟩ ⟨q7, q8⟩ ((fR_eq hk).mp f2) ((fR_eq hk).mp f4)
      exact ⟨num_eq m1.1 m2.1, num_eq m1.2 m2.2⟩
    refine sum_one (z := r) ?_ (rng_sorted _) (mem_rng.mpr ⟨r0, r1⟩) fun r' hr' hne => ?_
    · have : ((P q r s).filter fun c => decide (c ∈ P p r t)) = [c] := sorted_eq ((P_sorted q r s).filter _) (by simp) fun z => by
        rw [List.mem_filter, List.mem_singleton, decide_eq_true_eq, mem_P, mem_P]
        constructor
        · rintro ⟨⟨hz, hz1⟩, _, hz2⟩
          exact (uniq r z r0 r1 hz.1 hz.2 hz1 hz2).2
        · rintro rfl
          exact ⟨⟨⟨c0, c1⟩, hq⟩, ⟨c0, by rw [← em, ← ek]; exact c1⟩, hp⟩
      simp only [this]
      rfl
    · rw [mem_rng] at hr'
      rw [List.length_eq_zero_iff, List.filter_eq_nil_iff]
      intro z hz hz'
      rw [decide_eq_true_eq, mem_P] at hz'
      rw [mem_P] at hz
      exact hne (uniq r' z hr'.1 hr'.2 hz.1.1 hz.1.2 hz.2 hz'.2).1
  · intro hall
    have sur : ∀ s t, s ∈ rng q.n → t ∈ rng q.n → ∃ r c, sgn q r c = s ∧ sgn p r c = t := fun s t hs ht => by
      obtain ⟨r, _, hr⟩ := sum_pos (hall s hs t ht)
      obtain ⟨z, hz⟩ := List.exists_mem_of_ne_nil ((P q r s).filter fun c => decide (c ∈ P p r t)) (fun e => hr (by rw [e]; rfl))
      rw [List.mem_filter, decide_eq_true_eq, mem_P, mem_P] at hz
      exact ⟨r, z, hz.1.2, hz.2.2⟩
    have part : ∀ S T S' T' : Int, 0 ≤ S → S < q.m → 0 ≤ T → T < q.m → 0 ≤ S' → S' < q.k → 0 ≤ T' → T' < q.k → ∃ r c, (fR q.o q.m (r / q.k) (c / q.k) = S ∧ fR p.o q.m (r / q.k) (c / q.k) = T) ∧ fR q.i q.k (r % q.k) (c % q.k) = S' ∧ fR p.i q.k (r % q.k) (c % q.k) = T' := fun S T S' T' h1 h2 h3 h4 h5 h6 h7 h8 => by
      obtain ⟨s, s0, s1, s2, s3⟩ := cell h ⟨h1, h2⟩ ⟨h5, h6⟩
      obtain ⟨t, t0, t1, t2, t3⟩ := cell h ⟨h3, h4⟩ ⟨h7, h8⟩
      obtain ⟨r, c, e1, e2⟩ := sur s t (mem_rng.mpr ⟨s0, s1⟩) (mem_rng.mpr ⟨t0, t1⟩)
      have e1 := (sgn_two h).mp e1
      have e2 := (sgn_two h').mp e2
      rw [← em, ← ek, t2, t3] at e2
      rw [s2, s3] at e1
      exact ⟨r, c, ⟨e1.1, e2.1⟩, e1.2, e2.2⟩
    have md : ∀ (z n : Int), 1 ≤ n → 0 ≤ z % n ∧ z % n < n := fun z n hn => ⟨Int.emod_nonneg _ (by omega), Int.emod_lt_of_pos _ (by omega)⟩
    have get : ∀ {o : R} {n x y w : Int}, fR o n x y = (w + o.d) % n → n ∣ o.a * x + o.b * y - w := fun {o n x y w} e => by
      unfold fR at e
      have := Int.emod_emod_of_dvd
      have e1 := Int.emod_add_mul_ediv (o.a * x + o.b * y + o.d) n
      have e2 := Int.emod_add_mul_ediv (w + o.d) n
      exact ⟨(o.a * x + o.b * y + o.d) / n - (w + o.d) / n, by grind⟩
    have M := fun z => md z q.m hm
    have N := fun z => md z q.k hk
    obtain ⟨r, c, ⟨e1, e2⟩, e3, e4⟩ := part _ _ _ _ (M (1 + q.o.d)).1 (M (1 + q.o.d)).2 (M (0 + p.o.d)).1 (M (0 + p.o.d)).2 (N (1 + q.i.d)).1 (N (1 + q.i.d)).2 (N (0 + p.i.d)).1 (N (0 + p.i.d)).2
    obtain ⟨r', c', ⟨e5, e6⟩, e7, e8⟩ := part _ _ _ _ (M (0 + q.o.d)).1 (M (0 + q.o.d)).2 (M (1 + p.o.d)).1 (M (1 + p.o.d)).2 (N (0 + q.i.d)).1 (N (0 + q.i.d)).2 (N (1 + p.i.d)).1 (N (1 + p.i.d)).2
    have z : ∀ {n x : Int}, n ∣ x - 0 → n ∣ x := fun {n x} h => by rwa [Int.sub_zero] at h
    exact ⟨mat_gcd (get e1) (z (get e2)) (z (get e5)) (get e6), mat_gcd (get e3) (z (get e4)) (z (get e7)) (get e8)⟩
end K88
set_option Elab.async false
set_option linter.all false
set_option maxRecDepth 100000
set_option maxHeartbeats 1000000
set_option exponentiation.threshold 20000
namespace K88
open PySem DL
theorem nc1 {n : Nat} : ((n : Int) = 1) = (n = 1) := propext (by omega)
theorem and_two {a b : Bool} : (a = false → Vl.d (.bl false) = .d (.bl (a && b))) ∧ (a = true → Vl.d (.bl b) = .d (.bl (a && b))) := by cases a <;> simp
theorem rclear_ok {q : J} (h : q.Ok) : F_Joined_rows_clear.app [q.dt] = some (.d (.bl (decide (Int.gcd q.o.b q.m = 1) && decide (Int.gcd q.i.b q.k = 1)))) := by
  refine eq_of_op ?_
  rw [op_app]
  refine fn_run rfl ?_
  have := h.m10
  have := h.k10
  have := h.hm
  have := h.hk
  unfold m_Joined_rows_clear
  simp only [ev_ret, ev_opt, ev_bnd, ev_frz, ev_up, ev_var, ev_mov, varp_d, varp_w, movp_d, movp_w, ev_c, ev_e1, ev_e2, ev_eL, ev_anil, ev_acons, ev_onil, ev_ocons, ev_tup, ev_lst, ev_asB, ev_not, ev_or, ev_and, ev_eIf, ev_vB, ev_vAnd, ev_vOr, ev_vNot, ev_e3c, ex_bl, blp_bl, op_some, op_map, op_gI, op_gI0, op_gEqI, op_gNeI, op_isN, op_len, op_lenF, op_lenT, op_int, op_abs, op_max2, op_min2, op_divmod, op_list, op_neg, op_ixL, op_ixF, op_ixT, atI_0, atI_1, atI_2, ev_call, ev_meth, ex_ins, ev_make, ev_callO, ev_fld, flds_d, flds_w, flds_pm, ev_bor, ev_borT, ev_cut, ev_pInt, ex_int, op_cutL, ev_lstR, ev_iSeq, ex_lst, ex_frl, ev_iTp, ex_tup, ev_rg1, ex_int1, ev_rg2, ex_int2, run_seq, run_next, run_brk, run_cont, run_never, run_retN, run_ret, run_expr, run_if, run_set, run_tg, op_gNm, op_gTp, op_gNil, op_gCons, run_par, ex_two, run_fldS, ex_o, ex_l, run_setIx, run_for, ev_lc, op_stAt, stp_any, free_un, free_d, free_w, mk_d, mk_l, mk_o, divOk_iff, modOk_iff, powOk_iff, own_d, own_w, own_pm, own_s, seto_w, seto_pm, seto_s, op_backs_pm, op_backs_d, op_backs_nil, froz_ld, froz_d, froz_o, List.getElem?_cons_zero, List.getElem?_cons_succ, List.set_cons_zero, List.set_cons_succ, List.map_cons, List.map_nil, sfrz_un, sfrz_d, sfrz_w, sfrz_pm, flat_bl, flat_int, flat_non, flat_str, isN_non, isN_int, isN_bl, isN_str, isN_tup, isN_lst, isN_ins, decide_eq_true_eq, decide_eq_false_iff_not, Bool.not_eq_true', Bool.not_eq_false', true_and, and_true, forall_const, implies_true, false_implies, true_implies, forall_eq, Bool.false_eq_true, Bool.true_eq_false, if_true, if_false, reduceCtorEq, imp_self, List.cons_append, List.nil_append, List.replicate_succ, List.replicate_zero, Nat.reduceSub, Nat.reduceAdd, ne_eq, not_true_eq_false, not_false_eq_true, ex_pm, ex_mk, put0, put1, put2, put3, put4, put5, run_appP, op_qNm, qnp_d, op_catI, froz_il, op_gEqL, op_gNeL, op_gEqL0, op_gNeL0, op_gInL, op_gNinL, op_sorted, op_sum, op_lenSet, isi_int, isi_bl, isi_lst, isi_tup, isi_non, kit_ii, kit_ib, kit_bb, kit_bi, kit_ll, kit_tt, kit_il, kit_it, kit_lt, kit_tl, op_clr, op_clr0, clp_any, loc_un, loc_d, rst_cons, rst_nil, rstS_some, intL_rng, Bool.not_true, Bool.not_false, Int.sub_zero, op_gEqB, rb_ok, gcd_ok q.o.b q.m (by omega), gcd_ok q.i.b q.k (by omega), nc1]
  by_cases e : Int.gcd q.o.b q.m = 1 <;> simp [e]
theorem cclear_ok {q : J} (h : q.Ok) : F_Joined_columns_clear.app [q.dt] = some (.d (.bl (decide (Int.gcd q.o.a q.m = 1) && decide (Int.gcd q.i.a q.k = 1)))) := by
  refine eq_of_op ?_
  rw [op_app]
  refine fn_run rfl ?_
  have := h.m10
  have := h.k10
  have := h.hm
  have := h.hk
  unfold m_Joined_columns_clear
  simp only [ev_ret, ev_opt, ev_bnd, ev_frz, ev_up, ev_var, ev_mov, varp_d, varp_w, movp_d, movp_w, ev_c, ev_e1, ev_e2, ev_eL, ev_anil, ev_acons, ev_onil, ev_ocons, ev_tup, ev_lst, ev_asB, ev_not, ev_or, ev_and, ev_eIf, ev_vB, ev_vAnd, ev_vOr, ev_vNot, ev_e3c, ex_bl, blp_bl, op_some, op_map, op_gI, op_gI0, op_gEqI, op_gNeI, op_isN, op_len, op_lenF, op_lenT, op_int, op_abs, op_max2, op_min2, op_divmod, op_list, op_neg, op_ixL, op_ixF, op_ixT, atI_0, atI_1, atI_2, ev_call, ev_meth, ex_ins, ev_make, ev_callO, ev_fld, flds_d, flds_w, flds_pm, ev_bor, ev_borT, ev_cut, ev_pInt, ex_int, op_cutL, ev_lstR, ev_iSeq, ex_lst, ex_frl, ev_iTp, ex_tup, ev_rg1, ex_int1, ev_rg2, ex_int2, run_seq, run_next, run_brk, run_cont, run_never, run_retN, run_ret, run_expr, run_if, run_set, run_tg, op_gNm, op_gTp, op_gNil, op_gCons, run_par, ex_two, run_fldS, ex_o, ex_l, run_setIx, run_for, ev_lc, op_stAt, stp_any, free_un, free_d, free_w, mk_d, mk_l, mk_o, divOk_iff, modOk_iff, powOk_iff, own_d, own_w, own_pm, own_s, seto_w, seto_pm, seto_s, op_backs_pm, op_backs_d, op_backs_nil, froz_ld, froz_d, froz_o, List.getElem?_cons_zero, List.getElem?_cons_succ, List.set_cons_zero, List.set_cons_succ, List.map_cons, List.map_nil, sfrz_un, sfrz_d, sfrz_w, sfrz_pm, flat_bl, flat_int, flat_non, flat_str, isN_non, isN_int, isN_bl, isN_str, isN_tup, isN_lst, isN_ins, decide_eq_true_eq, decide_eq_false_iff_not, Bool.not_eq_true', Bool.not_eq_false', true_and, and_true, forall_const, implies_true, false_implies, true_implies, forall_eq, Bool.false_eq_true, Bool.true_eq_false, if_true, if_false, reduceCtorEq, imp_self, List.cons_append, List.nil_append, List.replicate_succ, List.replicate_zero, Nat.reduceSub, Nat.reduceAdd, ne_eq, not_true_eq_false, not_false_eq_true, ex_pm, ex_mk, put0, put1, put2, put3, put4, put5, run_appP, op_qNm, qnp_d, op_catI, froz_il, op_gEqL, op_gNeL, op_gEqL0, op_gNeL0, op_gInL, op_gNinL, op_sorted, op_sum, op_lenSet, isi_int, isi_bl, isi_lst, isi_tup, isi_non, kit_ii, kit_ib, kit_bb, kit_bi, kit_ll, kit_tt, kit_il, kit_it, kit_lt, kit_tl, op_clr, op_clr0, clp_any, loc_un, loc_d, rst_cons, rst_nil, rstS_some, intL_rng, Bool.not_true, Bool.not_false, Int.sub_zero, op_gEqB, ra_ok, gcd_ok q.o.a q.m (by omega), gcd_ok q.i.a q.k (by omega), nc1]
  by_cases e : Int.gcd q.o.a q.m = 1 <;> simp [e]
theorem cross_ok {o u : R} (h : o.Ok) (h' : u.Ok) : F_cross.app [o.dt, u.dt] = some (.d (.int (crossR o u))) := by
  refine eq_of_op ?_
  rw [op_app]
  refine fn_run rfl ?_
  have := h.a
  have := h.b
  have := h'.a
  have := h'.b
  unfold m_cross
  simp only [ev_ret, ev_opt, ev_bnd, ev_frz, ev_up, ev_var, ev_mov, varp_d, varp_w, movp_d, movp_w, ev_c, ev_e1, ev_e2, ev_eL, ev_anil, ev_acons, ev_onil, ev_ocons, ev_tup, ev_lst, ev_asB, ev_not, ev_or, ev_and, ev_eIf, ev_vB, ev_vAnd, ev_vOr, ev_vNot, ev_e3c, ex_bl, blp_bl, op_some, op_map, op_gI, op_gI0, op_gEqI, op_gNeI, op_isN, op_len, op_lenF, op_lenT, op_int, op_abs, op_max2, op_min2, op_divmod, op_list, op_neg, op_ixL, op_ixF, op_ixT, atI_0, atI_1, atI_2, ev_call, ev_meth, ex_ins, ev_make, ev_callO, ev_fld, flds_d, flds_w, flds_pm, ev_bor, ev_borT, ev_cut, ev_pInt, ex_int, op_cutL, ev_lstR, ev_iSeq, ex_lst, ex_frl, ev_iTp, ex_tup, ev_rg1, ex_int1, ev_rg2, ex_int2, run_seq, run_next, run_brk, run_cont, run_never, run_retN, run_ret, run_expr, run_if, run_set, run_tg, op_gNm, op_gTp, op_gNil, op_gCons, run_par, ex_two, run_fldS, ex_o, ex_l, run_setIx, run_for, ev_lc, op_stAt, stp_any, free_un, free_d, free_w, mk_d, mk_l, mk_o, divOk_iff, modOk_iff, powOk_iff, own_d, own_w, own_pm, own_s, seto_w, seto_pm, seto_s, op_backs_pm, op_backs_d, op_backs_nil, froz_ld, froz_d, froz_o, List.getElem?_cons_zero, List.getElem?_cons_succ, List.set_cons_zero, List.set_cons_succ, List.map_cons, List.map_nil, sfrz_un, sfrz_d, sfrz_w, sfrz_pm, flat_bl, flat_int, flat_non, flat_str, isN_non, isN_int, isN_bl, isN_str, isN_tup, isN_lst, isN_ins, decide_eq_true_eq, decide_eq_false_iff_not, Bool.not_eq_true', Bool.not_eq_false', true_and, and_true, forall_const, implies_true, false_implies, true_implies, forall_eq, Bool.false_eq_true, Bool.true_eq_false, if_true, if_false, reduceCtorEq, imp_self, List.cons_append, List.nil_append, List.replicate_succ, List.replicate_zero, Nat.reduceSub, Nat.reduceAdd, ne_eq, not_true_eq_false, not_false_eq_true, ex_pm, ex_mk, put0, put1, put2, put3, put4, put5, run_appP, op_qNm, qnp_d, op_catI, froz_il, op_gEqL, op_gNeL, op_gEqL0, op_gNeL0, op_gInL, op_gNinL, op_sorted, op_sum, op_lenSet, isi_int, isi_bl, isi_lst, isi_tup, isi_non, kit_ii, kit_ib, kit_bb, kit_bi, kit_ll, kit_tt, kit_il, kit_it, kit_lt, kit_tl, op_clr, op_clr0, clp_any, loc_un, loc_d, rst_cons, rst_nil, rstS_some, intL_rng, Bool.not_true, Bool.not_false, Int.sub_zero, op_gEqB, ra_ok, rb_ok, mo200 (x := o.a) (y := u.b) (by omega) (by omega), mo200 (x := u.a) (y := o.b) (by omega) (by omega)]
  rfl
theorem paired_ok {q p : J} (h : q.Ok) (h' : p.Ok) (em : q.m = p.m) (ek : q.k = p.k) : F_Joined_paired.app [q.dt, p.dt] = some (.d (.bl (decide (Int.gcd (crossR q.o p.o) q.m = 1) && decide (Int.gcd (crossR q.i p.i) q.k = 1)))) := by
  refine eq_of_op ?_
  rw [op_app]
  refine fn_run rfl ?_
  have := h.m10
  have := h.k10
  have := h.hm
  have := h.hk
  unfold m_Joined_paired
  simp only [ev_ret, ev_opt, ev_bnd, ev_frz, ev_up, ev_var, ev_mov, varp_d, varp_w, movp_d, movp_w, ev_c, ev_e1, ev_e2, ev_eL, ev_anil, ev_acons, ev_onil, ev_ocons, ev_tup, ev_lst, ev_asB, ev_not, ev_or, ev_and, ev_eIf, ev_vB, ev_vAnd, ev_vOr, ev_vNot, ev_e3c, ex_bl, blp_bl, op_some, op_map, op_gI, op_gI0, op_gEqI, op_gNeI, op_isN, op_len, op_lenF, op_lenT, op_int, op_abs, op_max2, op_min2, op_divmod, op_list, op_neg, op_ixL, op_ixF, op_ixT, atI_0, atI_1, atI_2, ev_call, ev_meth, ex_ins, ev_make, ev_callO, ev_fld, flds_d, flds_w, flds_pm, ev_bor, ev_borT, ev_cut, ev_pInt, ex_int, op_cutL, ev_lstR, ev_iSeq, ex_lst, ex_frl, ev_iTp, ex_tup, ev_rg1, ex_int1, ev_rg2, ex_int2, run_seq, run_next, run_brk, run_cont, run_never, run_retN, run_ret, run_expr, run_if, run_set, run_tg, op_gNm, op_gTp, op_gNil, op_gCons, run_par, ex_two, run_fldS, ex_o, ex_l, run_setIx, run_for, ev_lc, op_stAt, stp_any, free_un, free_d, free_w, mk_d, mk_l, mk_o, divOk_iff, modOk_iff, powOk_iff, own_d, own_w, own_pm, own_s, seto_w, seto_pm, seto_s, op_backs_pm, op_backs_d, op_backs_nil, froz_ld, froz_d, froz_o, List.getElem?_cons_zero, List.getElem?_cons_succ, List.set_cons_zero, List.set_cons_succ, List.map_cons, List.map_nil, sfrz_un, sfrz_d, sfrz_w, sfrz_pm, flat_bl, flat_int, flat_non, flat_str, isN_non, isN_int, isN_bl, isN_str, isN_tup, isN_lst, isN_ins, decide_eq_true_eq, decide_eq_false_iff_not, Bool.not_eq_true', Bool.not_eq_false', true_and, and_true, forall_const, implies_true, false_implies, true_implies, forall_eq, Bool.false_eq_true, Bool.true_eq_false, if_true, if_false, reduceCtorEq, imp_self, List.cons_append, List.nil_append, List.replicate_succ, List.replicate_zero, Nat.reduceSub, Nat.reduceAdd, ne_eq, not_true_eq_false, not_false_eq_true, ex_pm, ex_mk, put0, put1, put2, put3, put4, put5, run_appP, op_qNm, qnp_d, op_catI, froz_il, op_gEqL, op_gNeL, op_gEqL0, op_gNeL0, op_gInL, op_gNinL, op_sorted, op_sum, op_lenSet, isi_int, isi_bl, isi_lst, isi_tup, isi_non, kit_ii, kit_ib, kit_bb, kit_bi, kit_ll, kit_tt, kit_il, kit_it, kit_lt, kit_tl, op_clr, op_clr0, clp_any, loc_un, loc_d, rst_cons, rst_nil, rstS_some, intL_rng, Bool.not_true, Bool.not_false, Int.sub_zero, op_gEqB, cross_ok h.o h'.o, cross_ok h.i h'.i, em, ek]
  rw [← em, ← ek]
  simp only [ev_ret, ev_opt, ev_bnd, ev_frz, ev_up, ev_var, ev_mov, varp_d, varp_w, movp_d, movp_w, ev_c, ev_e1, ev_e2, ev_eL, ev_anil, ev_acons, ev_onil, ev_ocons, ev_tup, ev_lst, ev_asB, ev_not, ev_or, ev_and, ev_eIf, ev_vB, ev_vAnd, ev_vOr, ev_vNot, ev_e3c, ex_bl, blp_bl, op_some, op_map, op_gI, op_gI0, op_gEqI, op_gNeI, op_isN, op_len, op_lenF, op_lenT, op_int, op_abs, op_max2, op_min2, op_divmod, op_list, op_neg, op_ixL, op_ixF, op_ixT, atI_0, atI_1, atI_2, ev_call, ev_meth, ex_ins, ev_make, ev_callO, ev_fld, flds_d, flds_w, flds_pm, ev_bor, ev_borT, ev_cut, ev_pInt, ex_int, op_cutL, ev_lstR, ev_iSeq, ex_lst, ex_frl, ev_iTp, ex_tup, ev_rg1, ex_int1, ev_rg2, ex_int2, run_seq, run_next, run_brk, run_cont, run_never, run_retN, run_ret, run_expr, run_if, run_set, run_tg, op_gNm, op_gTp, op_gNil, op_gCons, run_par, ex_two, run_fldS, ex_o, ex_l, run_setIx, run_for, ev_lc, op_stAt, stp_any, free_un, free_d, free_w, mk_d, mk_l, mk_o, divOk_iff, modOk_iff, powOk_iff, own_d, own_w, own_pm, own_s, seto_w, seto_pm, seto_s, op_backs_pm, op_backs_d, op_backs_nil, froz_ld, froz_d, froz_o, List.getElem?_cons_zero, List.getElem?_cons_succ, List.set_cons_zero, List.set_cons_succ, List.map_cons, List.map_nil, sfrz_un, sfrz_d, sfrz_w, sfrz_pm, flat_bl, flat_int, flat_non, flat_str, isN_non, isN_int, isN_bl, isN_str, isN_tup, isN_lst, isN_ins, decide_eq_true_eq, decide_eq_false_iff_not, Bool.not_eq_true', Bool.not_eq_false', true_and, and_true, forall_const, implies_true, false_implies, true_implies, forall_eq, Bool.false_eq_true, Bool.true_eq_false, if_true, if_false, reduceCtorEq, imp_self, List.cons_append, List.nil_append, List.replicate_succ, List.replicate_zero, Nat.reduceSub, Nat.reduceAdd, ne_eq, not_true_eq_false, not_false_eq_true, ex_pm, ex_mk, put0, put1, put2, put3, put4, put5, run_appP, op_qNm, qnp_d, op_catI, froz_il, op_gEqL, op_gNeL, op_gEqL0, op_gNeL0, op_gInL, op_gNinL, op_sorted, op_sum, op_lenSet, isi_int, isi_bl, isi_lst, isi_tup, isi_non, kit_ii, kit_ib, kit_bb, kit_bi, kit_ll, kit_tt, kit_il, kit_it, kit_lt, kit_tl, op_clr, op_clr0, clp_any, loc_un, loc_d, rst_cons, rst_nil, rstS_some, intL_rng, Bool.not_true, Bool.not_false, Int.sub_zero, op_gEqB, gcd_ok (crossR q.o p.o) q.m (by omega), gcd_ok (crossR q.i p.i) q.k (by omega), nc1]
  by_cases e : Int.gcd (crossR q.o p.o) q.m = 1 <;> simp [e]
def badC (q : J) (s : Int) : Bool := !decide ((dedI (C q s (rng q.n))).length = (C q s (rng q.n)).length)
theorem nck {n m : Nat} : ((n : Int) = (m : Int)) = (n = m) := propext (by omega)
theorem clear_ok {q : J} (h : q.Ok) : F__law_clear.app [lsD q, q.dt, .int q.n] = some (.d (.bl true)) := by
  refine eq_of_op ?_
  rw [op_app]
  refine fn_run rfl ?_
  have hN := h.n1
  have lr : (rng q.n).length ≤ sizeLine := sz' (by rw [rng_len]; omega)
  unfold m__law_clear
  simp only [ev_ret, ev_opt, ev_bnd, ev_frz, ev_up, ev_var, ev_mov, varp_d, varp_w, movp_d, movp_w, ev_c, ev_e1, ev_e2, ev_eL, ev_anil, ev_acons, ev_onil, ev_ocons, ev_tup, ev_lst, ev_asB, ev_not, ev_or, ev_and, ev_eIf, ev_vB, ev_vAnd, ev_vOr, ev_vNot, ev_e3c, ex_bl, blp_bl, op_some, op_map, op_gI, op_gI0, op_gEqI, op_gNeI, op_isN, op_len, op_lenF, op_lenT, op_int, op_abs, op_max2, op_min2, op_divmod, op_list, op_neg, op_ixL, op_ixF, op_ixT, atI_0, atI_1, atI_2, ev_call, ev_meth, ex_ins, ev_make, ev_callO, ev_fld, flds_d, flds_w, flds_pm, ev_bor, ev_borT, ev_cut, ev_pInt, ex_int, op_cutL, ev_lstR, ev_iSeq, ex_lst, ex_frl, ev_iTp, ex_tup, ev_rg1, ex_int1, ev_rg2, ex_int2, run_seq, run_next, run_brk, run_cont, run_never, run_retN, run_ret, run_expr, run_if, run_set, run_tg, op_gNm, op_gTp, op_gNil, op_gCons, run_par, ex_two, run_fldS, ex_o, ex_l, run_setIx, run_for, ev_lc, op_stAt, stp_any, free_un, free_d, free_w, mk_d, mk_l, mk_o, divOk_iff, modOk_iff, powOk_iff, own_d, own_w, own_pm, own_s, seto_w, seto_pm, seto_s, op_backs_pm, op_backs_d, op_backs_nil, froz_ld, froz_d, froz_o, List.getElem?_cons_zero, List.getElem?_cons_succ, List.set_cons_zero, List.set_cons_succ, List.map_cons, List.map_nil, sfrz_un, sfrz_d, sfrz_w, sfrz_pm, flat_bl, flat_int, flat_non, flat_str, isN_non, isN_int, isN_bl, isN_str, isN_tup, isN_lst, isN_ins, decide_eq_true_eq, decide_eq_false_iff_not, Bool.not_eq_true', Bool.not_eq_false', true_and, and_true, forall_const, implies_true, false_implies, true_implies, forall_eq, Bool.false_eq_true, Bool.true_eq_false, if_true, if_false, reduceCtorEq, imp_self, List.cons_append, List.nil_append, List.replicate_succ, List.replicate_zero, Nat.reduceSub, Nat.reduceAdd, ne_eq, not_true_eq_false, not_false_eq_true, ex_pm, ex_mk, put0, put1, put2, put3, put4, put5, run_appP, op_qNm, qnp_d, op_catI, froz_il, op_gEqL, op_gNeL, op_gEqL0, op_gNeL0, op_gInL, op_gNinL, op_sorted, op_sum, op_lenSet, isi_int, isi_bl, isi_lst, isi_tup, isi_non, kit_ii, kit_ib, kit_bb, kit_bi, kit_ll, kit_tt, kit_il, kit_it, kit_lt, kit_tl, op_clr, op_clr0, clp_any, loc_un, loc_d, rst_cons, rst_nil, rstS_some, intL_rng, Bool.not_true, Bool.not_false, Int.sub_zero, op_gEqB]
  refine ⟨i62_of (by omega) (by omega), lc_filterG (fun s => !decide (((rng q.n).filter fun r => !decide ((P q r s).length = 1)) = [])) (fun s => .d (.int s)) lr ?_ ?_⟩
  · intro s hs
    have hs := mem_rng.mp hs
    simp only [ev_ret, ev_opt, ev_bnd, ev_frz, ev_up, ev_var, ev_mov, varp_d, varp_w, movp_d, movp_w, ev_c, ev_e1, ev_e2, ev_eL, ev_anil, ev_acons, ev_onil, ev_ocons, ev_tup, ev_lst, ev_asB, ev_not, ev_or, ev_and, ev_eIf, ev_vB, ev_vAnd, ev_vOr, ev_vNot, ev_e3c, ex_bl, blp_bl, op_some, op_map, op_gI, op_gI0, op_gEqI, op_gNeI, op_isN, op_len, op_lenF, op_lenT, op_int, op_abs, op_max2, op_min2, op_divmod, op_list, op_neg, op_ixL, op_ixF, op_ixT, atI_0, atI_1, atI_2, ev_call, ev_meth, ex_ins, ev_make, ev_callO, ev_fld, flds_d, flds_w, flds_pm, ev_bor, ev_borT, ev_cut, ev_pInt, ex_int, op_cutL, ev_lstR, ev_iSeq, ex_lst, ex_frl, ev_iTp, ex_tup, ev_rg1, ex_int1, ev_rg2, ex_int2, run_seq, run_next, run_brk, run_cont, run_never, run_retN, run_ret, run_expr, run_if, run_set, run_tg, op_gNm, op_gTp, op_gNil, op_gCons, run_par, ex_two, run_fldS, ex_o, ex_l, run_setIx, run_for, ev_lc, op_stAt, stp_any, free_un, free_d, free_w, mk_d, mk_l, mk_o, divOk_iff, modOk_iff, powOk_iff, own_d, own_w, own_pm, own_s, seto_w, seto_pm, seto_s, op_backs_pm, op_backs_d, op_backs_nil, froz_ld, froz_d, froz_o, List.getElem?_cons_zero, List.getElem?_cons_succ, List.set_cons_zero, List.set_cons_succ, List.map_cons, List.map_nil, sfrz_un, sfrz_d, sfrz_w, sfrz_pm, flat_bl, flat_int, flat_non, flat_str, isN_non, isN_int, isN_bl, isN_str, isN_tup, isN_lst, isN_ins, decide_eq_true_eq, decide_eq_false_iff_not, Bool.not_eq_true', Bool.not_eq_false', true_and, and_true, forall_const, implies_true, false_implies, true_implies, forall_eq, Bool.false_eq_true, Bool.true_eq_false, if_true, if_false, reduceCtorEq, imp_self, List.cons_append, List.nil_append, List.replicate_succ, List.replicate_zero, Nat.reduceSub, Nat.reduceAdd, ne_eq, not_true_eq_false, not_false_eq_true, ex_pm, ex_mk, put0, put1, put2, put3, put4, put5, run_appP, op_qNm, qnp_d, op_catI, froz_il, op_gEqL, op_gNeL, op_gEqL0, op_gNeL0, op_gInL, op_gNinL, op_sorted, op_sum, op_lenSet, isi_int, isi_bl, isi_lst, isi_tup, isi_non, kit_ii, kit_ib, kit_bb, kit_bi, kit_ll, kit_tt, kit_il, kit_it, kit_lt, kit_tl, op_clr, op_clr0, clp_any, loc_un, loc_d, rst_cons, rst_nil, rstS_some, intL_rng, Bool.not_true, Bool.not_false, Int.sub_zero, op_gEqB]
    refine ⟨i62_of (by omega) (by omega), lc_filterG (fun r => !decide ((P q r s).length = 1)) (fun r => .d (.int r)) lr ?_ ?_⟩
    · intro r hr
      have hr := mem_rng.mp hr
      simp only [ev_ret, ev_opt, ev_bnd, ev_frz, ev_up, ev_var, ev_mov, varp_d, varp_w, movp_d, movp_w, ev_c, ev_e1, ev_e2, ev_eL, ev_anil, ev_acons, ev_onil, ev_ocons, ev_tup, ev_lst, ev_asB, ev_not, ev_or, ev_and, ev_eIf, ev_vB, ev_vAnd, ev_vOr, ev_vNot, ev_e3c, ex_bl, blp_bl, op_some, op_map, op_gI, op_gI0, op_gEqI, op_gNeI, op_isN, op_len, op_lenF, op_lenT, op_int, op_abs, op_max2, op_min2, op_divmod, op_list, op_neg, op_ixL, op_ixF, op_ixT, atI_0, atI_1, atI_2, ev_call, ev_meth, ex_ins, ev_make, ev_callO, ev_fld, flds_d, flds_w, flds_pm, ev_bor, ev_borT, ev_cut, ev_pInt, ex_int, op_cutL, ev_lstR, ev_iSeq, ex_lst, ex_frl, ev_iTp, ex_tup, ev_rg1, ex_int1, ev_rg2, ex_int2, run_seq, run_next, run_brk, run_cont, run_never, run_retN, run_ret, run_expr, run_if, run_set, run_tg, op_gNm, op_gTp, op_gNil, op_gCons, run_par, ex_two, run_fldS, ex_o, ex_l, run_setIx, run_for, ev_lc, op_stAt, stp_any, free_un, free_d, free_w, mk_d, mk_l, mk_o, divOk_iff, modOk_iff, powOk_iff, own_d, own_w, own_pm, own_s, seto_w, seto_pm, seto_s, op_backs_pm, op_backs_d, op_backs_nil, froz_ld, froz_d, froz_o, List.getElem?_cons_zero, List.getElem?_cons_succ, List.set_cons_zero, List.set_cons_succ, List.map_cons, List.map_nil, sfrz_un, sfrz_d, sfrz_w, sfrz_pm, flat_bl, flat_int, flat_non, flat_str, isN_non, isN_int, isN_bl, isN_str, isN_tup, isN_lst, isN_ins, decide_eq_true_eq, decide_eq_false_iff_not, Bool.not_eq_true', Bool.not_eq_false', true_and, and_true, forall_const, implies_true, false_implies, true_implies, forall_eq, Bool.false_eq_true, Bool.true_eq_false, if_true, if_false, reduceCtorEq, imp_self, List.cons_append, List.nil_append, List.replicate_succ, List.replicate_zero, Nat.reduceSub, Nat.reduceAdd, ne_eq, not_true_eq_false, not_false_eq_true, ex_pm, ex_mk, put0, put1, put2, put3, put4, put5, run_appP, op_qNm, qnp_d, op_catI, froz_il, op_gEqL, op_gNeL, op_gEqL0, op_gNeL0, op_gInL, op_gNinL, op_sorted, op_sum, op_lenSet, isi_int, isi_bl, isi_lst, isi_tup, isi_non, kit_ii, kit_ib, kit_bb, kit_bi, kit_ll, kit_tt, kit_il, kit_it, kit_lt, kit_tl, op_clr, op_clr0, clp_any, loc_un, loc_d, rst_cons, rst_nil, rstS_some, intL_rng, Bool.not_true, Bool.not_false, Int.sub_zero, op_gEqB, ls_at hr.1 hr.2 hs.1 hs.2, List.length_map, nc1]
    · simp only [ev_ret, ev_opt, ev_bnd, ev_frz, ev_up, ev_var, ev_mov, varp_d, varp_w, movp_d, movp_w, ev_c, ev_e1, ev_e2, ev_eL, ev_anil, ev_acons, ev_onil, ev_ocons, ev_tup, ev_lst, ev_asB, ev_not, ev_or, ev_and, ev_eIf, ev_vB, ev_vAnd, ev_vOr, ev_vNot, ev_e3c, ex_bl, blp_bl, op_some, op_map, op_gI, op_gI0, op_gEqI, op_gNeI, op_isN, op_len, op_lenF, op_lenT, op_int, op_abs, op_max2, op_min2, op_divmod, op_list, op_neg, op_ixL, op_ixF, op_ixT, atI_0, atI_1, atI_2, ev_call, ev_meth, ex_ins, ev_make, ev_callO, ev_fld, flds_d, flds_w, flds_pm, ev_bor, ev_borT, ev_cut, ev_pInt, ex_int, op_cutL, ev_lstR, ev_iSeq, ex_lst, ex_frl, ev_iTp, ex_tup, ev_rg1, ex_int1, ev_rg2, ex_int2, run_seq, run_next, run_brk, run_cont, run_never, run_retN, run_ret, run_expr, run_if, run_set, run_tg, op_gNm, op_gTp, op_gNil, op_gCons, run_par, ex_two, run_fldS, ex_o, ex_l, run_setIx, run_for, ev_lc, op_stAt, stp_any, free_un, free_d, free_w, mk_d, mk_l, mk_o, divOk_iff, modOk_iff, powOk_iff, own_d, own_w, own_pm, own_s, seto_w, seto_pm, seto_s, op_backs_pm, op_backs_d, op_backs_nil, froz_ld, froz_d, froz_o, List.getElem?_cons_zero, List.getElem?_cons_succ, List.set_cons_zero, List.set_cons_succ, List.map_cons, List.map_nil, sfrz_un, sfrz_d, sfrz_w, sfrz_pm, flat_bl, flat_int, flat_non, flat_str, isN_non, isN_int, isN_bl, isN_str, isN_tup, isN_lst, isN_ins, decide_eq_true_eq, decide_eq_false_iff_not, Bool.not_eq_true', Bool.not_eq_false', true_and, and_true, forall_const, implies_true, false_implies, true_implies, forall_eq, Bool.false_eq_true, Bool.true_eq_false, if_true, if_false, reduceCtorEq, imp_self, List.cons_append, List.nil_append, List.replicate_succ, List.replicate_zero, Nat.reduceSub, Nat.reduceAdd, ne_eq, not_true_eq_false, not_false_eq_true, ex_pm, ex_mk, put0, put1, put2, put3, put4, put5, run_appP, op_qNm, qnp_d, op_catI, froz_il, op_gEqL, op_gNeL, op_gEqL0, op_gNeL0, op_gInL, op_gNinL, op_sorted, op_sum, op_lenSet, isi_int, isi_bl, isi_lst, isi_tup, isi_non, kit_ii, kit_ib, kit_bb, kit_bi, kit_ll, kit_tt, kit_il, kit_it, kit_lt, kit_tl, op_clr, op_clr0, clp_any, loc_un, loc_d, rst_cons, rst_nil, rstS_some, intL_rng, Bool.not_true, Bool.not_false, Int.sub_zero, op_gEqB]
  have hrow : (decide (Int.gcd q.o.b q.m = 1) && decide (Int.gcd q.i.b q.k = 1)) = decide (((rng q.n).filter fun s => !decide (((rng q.n).filter fun r => !decide ((P q r s).length = 1)) = [])) = []) := by
    refine Bool.eq_iff_iff.mpr ?_
    rw [Bool.and_eq_true, decide_eq_true_eq, decide_eq_true_eq, decide_eq_true_eq, List.filter_eq_nil_iff]
    refine (rowsT h).trans ⟨fun hh s hs => ?_, fun hh r hr s hs => ?_⟩
    · simp only [Bool.not_eq_true', decide_eq_false_iff_not, Classical.not_not, List.filter_eq_nil_iff, decide_eq_true_eq]
      exact fun r hr => hh r hr s hs
    · have := hh s hs
      simp only [Bool.not_eq_true', decide_eq_false_iff_not, Classical.not_not, List.filter_eq_nil_iff, decide_eq_true_eq] at this
      exact this r hr
  have hcol : (decide (Int.gcd q.o.a q.m = 1) && decide (Int.gcd q.i.a q.k = 1)) = decide ((rng q.n).filter (badC q) = []) := by
    refine Bool.eq_iff_iff.mpr ?_
    rw [Bool.and_eq_true, decide_eq_true_eq, decide_eq_true_eq, decide_eq_true_eq, List.filter_eq_nil_iff]
    refine (colsT h).trans ⟨fun hh s hs => ?_, fun hh s hs => ?_⟩
    · unfold badC
      simp only [Bool.not_eq_true', decide_eq_false_iff_not, Classical.not_not, dedI_len]
      exact hh s hs
    · have := hh s hs
      unfold badC at this
      simp only [Bool.not_eq_true', decide_eq_false_iff_not, Classical.not_not, dedI_len] at this
      exact this
  simp only [ev_ret, ev_opt, ev_bnd, ev_frz, ev_up, ev_var, ev_mov, varp_d, varp_w, movp_d, movp_w, ev_c, ev_e1, ev_e2, ev_eL, ev_anil, ev_acons, ev_onil, ev_ocons, ev_tup, ev_lst, ev_asB, ev_not, ev_or, ev_and, ev_eIf, ev_vB, ev_vAnd, ev_vOr, ev_vNot, ev_e3c, ex_bl, blp_bl, op_some, op_map, op_gI, op_gI0, op_gEqI, op_gNeI, op_isN, op_len, op_lenF, op_lenT, op_int, op_abs, op_max2, op_min2, op_divmod, op_list, op_neg, op_ixL, op_ixF, op_ixT, atI_0, atI_1, atI_2, ev_call, ev_meth, ex_ins, ev_make, ev_callO, ev_fld, flds_d, flds_w, flds_pm, ev_bor, ev_borT, ev_cut, ev_pInt, ex_int, op_cutL, ev_lstR, ev_iSeq, ex_lst, ex_frl, ev_iTp, ex_tup, ev_rg1, ex_int1, ev_rg2, ex_int2, run_seq, run_next, run_brk, run_cont, run_never, run_retN, run_ret, run_expr, run_if, run_set, run_tg, op_gNm, op_gTp, op_gNil, op_gCons, run_par, ex_two, run_fldS, ex_o, ex_l, run_setIx, run_for, ev_lc, op_stAt, stp_any, free_un, free_d, free_w, mk_d, mk_l, mk_o, divOk_iff, modOk_iff, powOk_iff, own_d, own_w, own_pm, own_s, seto_w, seto_pm, seto_s, op_backs_pm, op_backs_d, op_backs_nil, froz_ld, froz_d, froz_o, List.getElem?_cons_zero, List.getElem?_cons_succ, List.set_cons_zero, List.set_cons_succ, List.map_cons, List.map_nil, sfrz_un, sfrz_d, sfrz_w, sfrz_pm, flat_bl, flat_int, flat_non, flat_str, isN_non, isN_int, isN_bl, isN_str, isN_tup, isN_lst, isN_ins, decide_eq_true_eq, decide_eq_false_iff_not, Bool.not_eq_true', Bool.not_eq_false', true_and, and_true, forall_const, implies_true, false_implies, true_implies, forall_eq, Bool.false_eq_true, Bool.true_eq_false, if_true, if_false, reduceCtorEq, imp_self, List.cons_append, List.nil_append, List.replicate_succ, List.replicate_zero, Nat.reduceSub, Nat.reduceAdd, ne_eq, not_true_eq_false, not_false_eq_true, ex_pm, ex_mk, put0, put1, put2, put3, put4, put5, run_appP, op_qNm, qnp_d, op_catI, froz_il, op_gEqL, op_gNeL, op_gEqL0, op_gNeL0, op_gInL, op_gNinL, op_sorted, op_sum, op_lenSet, isi_int, isi_bl, isi_lst, isi_tup, isi_non, kit_ii, kit_ib, kit_bb, kit_bi, kit_ll, kit_tt, kit_il, kit_it, kit_lt, kit_tl, op_clr, op_clr0, clp_any, loc_un, loc_d, rst_cons, rst_nil, rstS_some, intL_rng, Bool.not_true, Bool.not_false, Int.sub_zero, op_gEqB, rclear_ok h, true_ok, hrow]
  refine ⟨i62_of (by omega) (by omega), for_runG (fun pre e => ∃ s5 s6 s7 : Sl, s5.free ∧ s6.free ∧ s7.free ∧ e = [.d (lsD q), .d q.dt, .d (.int q.n), .d (.lst (((rng q.n).filter fun s => !decide (((rng q.n).filter fun r => !decide ((P q r s).length = 1)) = [])).map .int)), .w (.ld ((pre.filter (badC q)).map .int)), s5, s6, s7]) ⟨.un, .un, .un, trivial, trivial, trivial, rfl⟩ ?_ ?_⟩
  · rintro pre s post e hsp ⟨s5, s6, s7, f5, f6, f7, rfl⟩
    have hs := mem_rng.mp (show s ∈ rng q.n by rw [hsp]; simp)
    have hl : pre.length ≤ 10 := by
      have := congrArg List.length hsp
      rw [rng_len, List.length_append] at this
      omega
    simp only [ev_ret, ev_opt, ev_bnd, ev_frz, ev_up, ev_var, ev_mov, varp_d, varp_w, movp_d, movp_w, ev_c, ev_e1, ev_e2, ev_eL, ev_anil, ev_acons, ev_onil, ev_ocons, ev_tup, ev_lst, ev_asB, ev_not, ev_or, ev_and, ev_eIf, ev_vB, ev_vAnd, ev_vOr, ev_vNot, ev_e3c, ex_bl, blp_bl, op_some, op_map, op_gI, op_gI0, op_gEqI, op_gNeI, op_isN, op_len, op_lenF, op_lenT, op_int, op_abs, op_max2, op_min2, op_divmod, op_list, op_neg, op_ixL, op_ixF, op_ixT, atI_0, atI_1, atI_2, ev_call, ev_meth, ex_ins, ev_make, ev_callO, ev_fld, flds_d, flds_w, flds_pm, ev_bor, ev_borT, ev_cut, ev_pInt, ex_int, op_cutL, ev_lstR, ev_iSeq, ex_lst, ex_frl, ev_iTp, ex_tup, ev_rg1, ex_int1, ev_rg2, ex_int2, run_seq, run_next, run_brk, run_cont, run_never, run_retN, run_ret, run_expr, run_if, run_set, run_tg, op_gNm, op_gTp, op_gNil, op_gCons, run_par, ex_two, run_fldS, ex_o, ex_l, run_setIx, run_for, ev_lc, op_stAt, stp_any, free_un, free_d, free_w, mk_d, mk_l, mk_o, divOk_iff, modOk_iff, powOk_iff, own_d, own_w, own_pm, own_s, seto_w, seto_pm, seto_s, op_backs_pm, op_backs_d, op_backs_nil, froz_ld, froz_d, froz_o, List.getElem?_cons_zero, List.getElem?_cons_succ, List.set_cons_zero, List.set_cons_succ, List.map_cons, List.map_nil, sfrz_un, sfrz_d, sfrz_w, sfrz_pm, flat_bl, flat_int, flat_non, flat_str, isN_non, isN_int, isN_bl, isN_str, isN_tup, isN_lst, isN_ins, decide_eq_true_eq, decide_eq_false_iff_not, Bool.not_eq_true', Bool.not_eq_false', true_and, and_true, forall_const, implies_true, false_implies, true_implies, forall_eq, Bool.false_eq_true, Bool.true_eq_false, if_true, if_false, reduceCtorEq, imp_self, List.cons_append, List.nil_append, List.replicate_succ, List.replicate_zero, Nat.reduceSub, Nat.reduceAdd, ne_eq, not_true_eq_false, not_false_eq_true, ex_pm, ex_mk, put0, put1, put2, put3, put4, put5, run_appP, op_qNm, qnp_d, op_catI, froz_il, op_gEqL, op_gNeL, op_gEqL0, op_gNeL0, op_gInL, op_gNinL, op_sorted, op_sum, op_lenSet, isi_int, isi_bl, isi_lst, isi_tup, isi_non, kit_ii, kit_ib, kit_bb, kit_bi, kit_ll, kit_tt, kit_il, kit_it, kit_lt, kit_tl, op_clr, op_clr0, clp_any, loc_un, loc_d, rst_cons, rst_nil, rstS_some, intL_rng, Bool.not_true, Bool.not_false, Int.sub_zero, op_gEqB, f5, f6]
    refine ⟨i62_of (by omega) (by omega), for_runG (fun pr e => ∃ s7 : Sl, s7.free ∧ e = [.d (lsD q), .d q.dt, .d (.int q.n), .d (.lst (((rng q.n).filter fun s => !decide (((rng q.n).filter fun r => !decide ((P q r s).length = 1)) = [])).map .int)), .w (.ld ((pre.filter (badC q)).map .int)), .d (.int s), .w (.ld ((C q s pr).map .int)), s7]) ⟨_, f7, rfl⟩ ?_ ?_⟩
    · rintro pr r po e hsp ⟨s7, f7, rfl⟩
      have hr := mem_rng.mp (show r ∈ rng q.n by rw [hsp]; simp)
      have hl : pr.length ≤ 10 := by
        have := congrArg List.length hsp
        rw [rng_len, List.length_append] at this
        omega
      have := C_len h s pr
      have := P_len h r s
      simp only [ev_ret, ev_opt, ev_bnd, ev_frz, ev_up, ev_var, ev_mov, varp_d, varp_w, movp_d, movp_w, ev_c, ev_e1, ev_e2, ev_eL, ev_anil, ev_acons, ev_onil, ev_ocons, ev_tup, ev_lst, ev_asB, ev_not, ev_or, ev_and, ev_eIf, ev_vB, ev_vAnd, ev_vOr, ev_vNot, ev_e3c, ex_bl, blp_bl, op_some, op_map, op_gI, op_gI0, op_gEqI, op_gNeI, op_isN, op_len, op_lenF, op_lenT, op_int, op_abs, op_max2, op_min2, op_divmod, op_list, op_neg, op_ixL, op_ixF, op_ixT, atI_0, atI_1, atI_2, ev_call, ev_meth, ex_ins, ev_make, ev_callO, ev_fld, flds_d, flds_w, flds_pm, ev_bor, ev_borT, ev_cut, ev_pInt, ex_int, op_cutL, ev_lstR, ev_iSeq, ex_lst, ex_frl, ev_iTp, ex_tup, ev_rg1, ex_int1, ev_rg2, ex_int2, run_seq, run_next, run_brk, run_cont, run_never, run_retN, run_ret, run_expr, run_if, run_set, run_tg, op_gNm, op_gTp, op_gNil, op_gCons, run_par, ex_two, run_fldS, ex_o, ex_l, run_setIx, run_for, ev_lc, op_stAt, stp_any, free_un, free_d, free_w, mk_d, mk_l, mk_o, divOk_iff, modOk_iff, powOk_iff, own_d, own_w, own_pm, own_s, seto_w, seto_pm, seto_s, op_backs_pm, op_backs_d, op_backs_nil, froz_ld, froz_d, froz_o, List.getElem?_cons_zero, List.getElem?_cons_succ, List.set_cons_zero, List.set_cons_succ, List.map_cons, List.map_nil, sfrz_un, sfrz_d, sfrz_w, sfrz_pm, flat_bl, flat_int, flat_non, flat_str, isN_non, isN_int, isN_bl, isN_str, isN_tup, isN_lst, isN_ins, decide_eq_true_eq, decide_eq_false_iff_not, Bool.not_eq_true', Bool.not_eq_false', true_and, and_true, forall_const, implies_true, false_implies, true_implies, forall_eq, Bool.false_eq_true, Bool.true_eq_false, if_true, if_false, reduceCtorEq, imp_self, List.cons_append, List.nil_append, List.replicate_succ, List.replicate_zero, Nat.reduceSub, Nat.reduceAdd, ne_eq, not_true_eq_false, not_false_eq_true, ex_pm, ex_mk, put0, put1, put2, put3, put4, put5, run_appP, op_qNm, qnp_d, op_catI, froz_il, op_gEqL, op_gNeL, op_gEqL0, op_gNeL0, op_gInL, op_gNinL, op_sorted, op_sum, op_lenSet, isi_int, isi_bl, isi_lst, isi_tup, isi_non, kit_ii, kit_ib, kit_bb, kit_bi, kit_ll, kit_tt, kit_il, kit_it, kit_lt, kit_tl, op_clr, op_clr0, clp_any, loc_un, loc_d, rst_cons, rst_nil, rstS_some, intL_rng, Bool.not_true, Bool.not_false, Int.sub_zero, op_gEqB, f7, ls_at hr.1 hr.2 hs.1 hs.2]
      exact ⟨sz' (by omega), .d (.int r), trivial, by rw [C_app]⟩
    · rintro e ⟨s7, f7, rfl⟩
      have hcl := C_len h s (rng q.n)
      rw [rng_len] at hcl
      simp only [ev_ret, ev_opt, ev_bnd, ev_frz, ev_up, ev_var, ev_mov, varp_d, varp_w, movp_d, movp_w, ev_c, ev_e1, ev_e2, ev_eL, ev_anil, ev_acons, ev_onil, ev_ocons, ev_tup, ev_lst, ev_asB, ev_not, ev_or, ev_and, ev_eIf, ev_vB, ev_vAnd, ev_vOr, ev_vNot, ev_e3c, ex_bl, blp_bl, op_some, op_map, op_gI, op_gI0, op_gEqI, op_gNeI, op_isN, op_len, op_lenF, op_lenT, op_int, op_abs, op_max2, op_min2, op_divmod, op_list, op_neg, op_ixL, op_ixF, op_ixT, atI_0, atI_1, atI_2, ev_call, ev_meth, ex_ins, ev_make, ev_callO, ev_fld, flds_d, flds_w, flds_pm, ev_bor, ev_borT, ev_cut, ev_pInt, ex_int, op_cutL, ev_lstR, ev_iSeq, ex_lst, ex_frl, ev_iTp, ex_tup, ev_rg1, ex_int1, ev_rg2, ex_int2, run_seq, run_next, run_brk, run_cont, run_never, run_retN, run_ret, run_expr, run_if, run_set, run_tg, op_gNm, op_gTp, op_gNil, op_gCons, run_par, ex_two, run_fldS, ex_o, ex_l, run_setIx, run_for, ev_lc, op_stAt, stp_any, free_un, free_d, free_w, mk_d, mk_l, mk_o, divOk_iff, modOk_iff, powOk_iff, own_d, own_w, own_pm, own_s, seto_w, seto_pm, seto_s, op_backs_pm, op_backs_d, op_backs_nil, froz_ld, froz_d, froz_o, List.getElem?_cons_zero, List.getElem?_cons_succ, List.set_cons_zero, List.set_cons_succ, List.map_cons, List.map_nil, sfrz_un, sfrz_d, sfrz_w, sfrz_pm, flat_bl, flat_int, flat_non, flat_str, isN_non, isN_int, isN_bl, isN_str, isN_tup, isN_lst, isN_ins, decide_eq_true_eq, decide_eq_false_iff_not, Bool.not_eq_true', Bool.not_eq_false', true_and, and_true, forall_const, implies_true, false_implies, true_implies, forall_eq, Bool.false_eq_true, Bool.true_eq_false, if_true, if_false, reduceCtorEq, imp_self, List.cons_append, List.nil_append, List.replicate_succ, List.replicate_zero, Nat.reduceSub, Nat.reduceAdd, ne_eq, not_true_eq_false, not_false_eq_true, ex_pm, ex_mk, put0, put1, put2, put3, put4, put5, run_appP, op_qNm, qnp_d, op_catI, froz_il, op_gEqL, op_gNeL, op_gEqL0, op_gNeL0, op_gInL, op_gNinL, op_sorted, op_sum, op_lenSet, isi_int, isi_bl, isi_lst, isi_tup, isi_non, kit_ii, kit_ib, kit_bb, kit_bi, kit_ll, kit_tt, kit_il, kit_it, kit_lt, kit_tl, op_clr, op_clr0, clp_any, loc_un, loc_d, rst_cons, rst_nil, rstS_some, intL_rng, Bool.not_true, Bool.not_false, Int.sub_zero, op_gEqB, List.length_map, nck]
      refine ⟨by omega, fun hh => ?_, fun hh => ?_⟩
      · rw [run_app rfl]
        simp only [ev_ret, ev_opt, ev_bnd, ev_frz, ev_up, ev_var, ev_mov, varp_d, varp_w, movp_d, movp_w, ev_c, ev_e1, ev_e2, ev_eL, ev_anil, ev_acons, ev_onil, ev_ocons, ev_tup, ev_lst, ev_asB, ev_not, ev_or, ev_and, ev_eIf, ev_vB, ev_vAnd, ev_vOr, ev_vNot, ev_e3c, ex_bl, blp_bl, op_some, op_map, op_gI, op_gI0, op_gEqI, op_gNeI, op_isN, op_len, op_lenF, op_lenT, op_int, op_abs, op_max2, op_min2, op_divmod, op_list, op_neg, op_ixL, op_ixF, op_ixT, atI_0, atI_1, atI_2, ev_call, ev_meth, ex_ins, ev_make, ev_callO, ev_fld, flds_d, flds_w, flds_pm, ev_bor, ev_borT, ev_cut, ev_pInt, ex_int, op_cutL, ev_lstR, ev_iSeq, ex_lst, ex_frl, ev_iTp, ex_tup, ev_rg1, ex_int1, ev_rg2, ex_int2, run_seq, run_next, run_brk, run_cont, run_never, run_retN, run_ret, run_expr, run_if, run_set, run_tg, op_gNm, op_gTp, op_gNil, op_gCons, run_par, ex_two, run_fldS, ex_o, ex_l, run_setIx, run_for, ev_lc, op_stAt, stp_any, free_un, free_d, free_w, mk_d, mk_l, mk_o, divOk_iff, modOk_iff, powOk_iff, own_d, own_w, own_pm, own_s, seto_w, seto_pm, seto_s, op_backs_pm, op_backs_d, op_backs_nil, froz_ld, froz_d, froz_o, List.getElem?_cons_zero, List.getElem?_cons_succ, List.set_cons_zero, List.set_cons_succ, List.map_cons, List.map_nil, sfrz_un, sfrz_d, sfrz_w, sfrz_pm, flat_bl, flat_int, flat_non, flat_str, isN_non, isN_int, isN_bl, isN_str, isN_tup, isN_lst, isN_ins, decide_eq_true_eq, decide_eq_false_iff_not, Bool.not_eq_true', Bool.not_eq_false', true_and, and_true, forall_const, implies_true, false_implies, true_implies, forall_eq, Bool.false_eq_true, Bool.true_eq_false, if_true, if_false, reduceCtorEq, imp_self, List.cons_append, List.nil_append, List.replicate_succ, List.replicate_zero, Nat.reduceSub, Nat.reduceAdd, ne_eq, not_true_eq_false, not_false_eq_true, ex_pm, ex_mk, put0, put1, put2, put3, put4, put5, run_appP, op_qNm, qnp_d, op_catI, froz_il, op_gEqL, op_gNeL, op_gEqL0, op_gNeL0, op_gInL, op_gNinL, op_sorted, op_sum, op_lenSet, isi_int, isi_bl, isi_lst, isi_tup, isi_non, kit_ii, kit_ib, kit_bb, kit_bi, kit_ll, kit_tt, kit_il, kit_it, kit_lt, kit_tl, op_clr, op_clr0, clp_any, loc_un, loc_d, rst_cons, rst_nil, rstS_some, intL_rng, Bool.not_true, Bool.not_false, Int.sub_zero, op_gEqB, List.length_map]
        have := List.length_filter_le (badC q) pre
        refine ⟨sz (by omega), .d (.int s), .d (.lst ((C q s (rng q.n)).map .int)), s7, trivial, trivial, f7, ?_⟩
        rw [List.filter_append, show [s].filter (badC q) = [s] by simp [badC, hh]]
        simp
      · refine ⟨.d (.int s), .d (.lst ((C q s (rng q.n)).map .int)), s7, trivial, trivial, f7, ?_⟩
        rw [List.filter_append, show [s].filter (badC q) = [] by simp [badC, hh]]
        simp
  · rintro e ⟨s5, s6, s7, f5, f6, f7, rfl⟩
    simp only [ev_ret, ev_opt, ev_bnd, ev_frz, ev_up, ev_var, ev_mov, varp_d, varp_w, movp_d, movp_w, ev_c, ev_e1, ev_e2, ev_eL, ev_anil, ev_acons, ev_onil, ev_ocons, ev_tup, ev_lst, ev_asB, ev_not, ev_or, ev_and, ev_eIf, ev_vB, ev_vAnd, ev_vOr, ev_vNot, ev_e3c, ex_bl, blp_bl, op_some, op_map, op_gI, op_gI0, op_gEqI, op_gNeI, op_isN, op_len, op_lenF, op_lenT, op_int, op_abs, op_max2, op_min2, op_divmod, op_list, op_neg, op_ixL, op_ixF, op_ixT, atI_0, atI_1, atI_2, ev_call, ev_meth, ex_ins, ev_make, ev_callO, ev_fld, flds_d, flds_w, flds_pm, ev_bor, ev_borT, ev_cut, ev_pInt, ex_int, op_cutL, ev_lstR, ev_iSeq, ex_lst, ex_frl, ev_iTp, ex_tup, ev_rg1, ex_int1, ev_rg2, ex_int2, run_seq, run_next, run_brk, run_cont, run_never, run_retN, run_ret, run_expr, run_if, run_set, run_tg, op_gNm, op_gTp, op_gNil, op_gCons, run_par, ex_two, run_fldS, ex_o, ex_l, run_setIx, run_for, ev_lc, op_stAt, stp_any, free_un, free_d, free_w, mk_d, mk_l, mk_o, divOk_iff, modOk_iff, powOk_iff, own_d, own_w, own_pm, own_s, seto_w, seto_pm, seto_s, op_backs_pm, op_backs_d, op_backs_nil, froz_ld, froz_d, froz_o, List.getElem?_cons_zero, List.getElem?_cons_succ, List.set_cons_zero, List.set_cons_succ, List.map_cons, List.map_nil, sfrz_un, sfrz_d, sfrz_w, sfrz_pm, flat_bl, flat_int, flat_non, flat_str, isN_non, isN_int, isN_bl, isN_str, isN_tup, isN_lst, isN_ins, decide_eq_true_eq, decide_eq_false_iff_not, Bool.not_eq_true', Bool.not_eq_false', true_and, and_true, forall_const, implies_true, false_implies, true_implies, forall_eq, Bool.false_eq_true, Bool.true_eq_false, if_true, if_false, reduceCtorEq, imp_self, List.cons_append, List.nil_append, List.replicate_succ, List.replicate_zero, Nat.reduceSub, Nat.reduceAdd, ne_eq, not_true_eq_false, not_false_eq_true, ex_pm, ex_mk, put0, put1, put2, put3, put4, put5, run_appP, op_qNm, qnp_d, op_catI, froz_il, op_gEqL, op_gNeL, op_gEqL0, op_gNeL0, op_gInL, op_gNinL, op_sorted, op_sum, op_lenSet, isi_int, isi_bl, isi_lst, isi_tup, isi_non, kit_ii, kit_ib, kit_bb, kit_bi, kit_ll, kit_tt, kit_il, kit_it, kit_lt, kit_tl, op_clr, op_clr0, clp_any, loc_un, loc_d, rst_cons, rst_nil, rstS_some, intL_rng, Bool.not_true, Bool.not_false, Int.sub_zero, op_gEqB, cclear_ok h, true_ok, hcol]
    simp
theorem cnt_app (q p : J) (s t : Int) (rs : List Int) (r : Int) : cnt q p s t (rs ++ [r]) = cnt q p s t rs + ((P q r s).filter fun c => decide (c ∈ P p r t)).length := by
  unfold cnt
  simp
def pairB (q p : J) : Bool := (rng q.n).all fun s => (rng q.n).all fun t => decide (cnt q p s t (rng q.n) = 1)
theorem pairB_G {q p : J} (h : q.Ok) (h' : p.Ok) (em : q.m = p.m) (ek : q.k = p.k) : (decide (Int.gcd (crossR q.o p.o) q.m = 1) && decide (Int.gcd (crossR q.i p.i) q.k = 1)) = pairB q p := by
  refine Bool.eq_iff_iff.mpr ?_
  rw [Bool.and_eq_true, decide_eq_true_eq, decide_eq_true_eq]
  refine (pairT h h' em ek).trans ?_
  unfold pairB
  simp only [List.all_eq_true, decide_eq_true_eq]
theorem pairs_ok {q p : J} (h : q.Ok) (h' : p.Ok) (em : q.m = p.m) (ek : q.k = p.k) : F__law_pairs.app [lsD q, lsD p, .int q.n] = some (.d (.bl (pairB q p))) := by
  refine eq_of_op ?_
  rw [op_app]
  refine fn_run rfl ?_
  have hN := h.n1
  have en : p.n = q.n := by show p.m * p.k = q.m * q.k; rw [em, ek]
  unfold m__law_pairs
  simp only [ev_ret, ev_opt, ev_bnd, ev_frz, ev_up, ev_var, ev_mov, varp_d, varp_w, movp_d, movp_w, ev_c, ev_e1, ev_e2, ev_eL, ev_anil, ev_acons, ev_onil, ev_ocons, ev_tup, ev_lst, ev_asB, ev_not, ev_or, ev_and, ev_eIf, ev_vB, ev_vAnd, ev_vOr, ev_vNot, ev_e3c, ex_bl, blp_bl, op_some, op_map, op_gI, op_gI0, op_gEqI, op_gNeI, op_isN, op_len, op_lenF, op_lenT, op_int, op_abs, op_max2, op_min2, op_divmod, op_list, op_neg, op_ixL, op_ixF, op_ixT, atI_0, atI_1, atI_2, ev_call, ev_meth, ex_ins, ev_make, ev_callO, ev_fld, flds_d, flds_w, flds_pm, ev_bor, ev_borT, ev_cut, ev_pInt, ex_int, op_cutL, ev_lstR, ev_iSeq, ex_lst, ex_frl, ev_iTp, ex_tup, ev_rg1, ex_int1, ev_rg2, ex_int2, run_seq, run_next, run_brk, run_cont, run_never, run_retN, run_ret, run_expr, run_if, run_set, run_tg, op_gNm, op_gTp, op_gNil, op_gCons, run_par, ex_two, run_fldS, ex_o, ex_l, run_setIx, run_for, ev_lc, op_stAt, stp_any, free_un, free_d, free_w, mk_d, mk_l, mk_o, divOk_iff, modOk_iff, powOk_iff, own_d, own_w, own_pm, own_s, seto_w, seto_pm, seto_s, op_backs_pm, op_backs_d, op_backs_nil, froz_ld, froz_d, froz_o, List.getElem?_cons_zero, List.getElem?_cons_succ, List.set_cons_zero, List.set_cons_succ, List.map_cons, List.map_nil, sfrz_un, sfrz_d, sfrz_w, sfrz_pm, flat_bl, flat_int, flat_non, flat_str, isN_non, isN_int, isN_bl, isN_str, isN_tup, isN_lst, isN_ins, decide_eq_true_eq, decide_eq_false_iff_not, Bool.not_eq_true', Bool.not_eq_false', true_and, and_true, forall_const, implies_true, false_implies, true_implies, forall_eq, Bool.false_eq_true, Bool.true_eq_false, if_true, if_false, reduceCtorEq, imp_self, List.cons_append, List.nil_append, List.replicate_succ, List.replicate_zero, Nat.reduceSub, Nat.reduceAdd, ne_eq, not_true_eq_false, not_false_eq_true, ex_pm, ex_mk, put0, put1, put2, put3, put4, put5, run_appP, op_qNm, qnp_d, op_catI, froz_il, op_gEqL, op_gNeL, op_gEqL0, op_gNeL0, op_gInL, op_gNinL, op_sorted, op_sum, op_lenSet, isi_int, isi_bl, isi_lst, isi_tup, isi_non, kit_ii, kit_ib, kit_bb, kit_bi, kit_ll, kit_tt, kit_il, kit_it, kit_lt, kit_tl, op_clr, op_clr0, clp_any, loc_un, loc_d, rst_cons, rst_nil, rstS_some, intL_rng, Bool.not_true, Bool.not_false, Int.sub_zero, op_gEqB]
  refine ⟨i62_of (by omega) (by omega), for_runG (fun pre e => (∀ s ∈ pre, ∀ t ∈ rng q.n, cnt q p s t (rng q.n) = 1) ∧ ∃ s3 s4 s5 s6 : Sl, (s3.free ∧ s4.free ∧ s5.free ∧ s6.free) ∧ e = [.d (lsD q), .d (lsD p), .d (.int q.n), s3, s4, s5, s6, .un]) ⟨(fun _ h => nomatch h), .un, .un, .un, .un, ⟨trivial, trivial, trivial, trivial⟩, rfl⟩ ?_ ?_⟩
  · rintro pre s post e hsp ⟨hall, s3, s4, s5, s6, ⟨f3, f4, f5, f6⟩, rfl⟩
    have hsm : s ∈ rng q.n := by rw [hsp]; simp
    have hs := mem_rng.mp hsm
    simp only [ev_ret, ev_opt, ev_bnd, ev_frz, ev_up, ev_var, ev_mov, varp_d, varp_w, movp_d, movp_w, ev_c, ev_e1, ev_e2, ev_eL, ev_anil, ev_acons, ev_onil, ev_ocons, ev_tup, ev_lst, ev_asB, ev_not, ev_or, ev_and, ev_eIf, ev_vB, ev_vAnd, ev_vOr, ev_vNot, ev_e3c, ex_bl, blp_bl, op_some, op_map, op_gI, op_gI0, op_gEqI, op_gNeI, op_isN, op_len, op_lenF, op_lenT, op_int, op_abs, op_max2, op_min2, op_divmod, op_list, op_neg, op_ixL, op_ixF, op_ixT, atI_0, atI_1, atI_2, ev_call, ev_meth, ex_ins, ev_make, ev_callO, ev_fld, flds_d, flds_w, flds_pm, ev_bor, ev_borT, ev_cut, ev_pInt, ex_int, op_cutL, ev_lstR, ev_iSeq, ex_lst, ex_frl, ev_iTp, ex_tup, ev_rg1, ex_int1, ev_rg2, ex_int2, run_seq, run_next, run_brk, run_cont, run_never, run_retN, run_ret, run_expr, run_if, run_set, run_tg, op_gNm, op_gTp, op_gNil, op_gCons, run_par, ex_two, run_fldS, ex_o, ex_l, run_setIx, run_for, ev_lc, op_stAt, stp_any, free_un, free_d, free_w, mk_d, mk_l, mk_o, divOk_iff, modOk_iff, powOk_iff, own_d, own_w, own_pm, own_s, seto_w, seto_pm, seto_s, op_backs_pm, op_backs_d, op_backs_nil, froz_ld, froz_d, froz_o, List.getElem?_cons_zero, List.getElem?_cons_succ, List.set_cons_zero, List.set_cons_succ, List.map_cons, List.map_nil, sfrz_un, sfrz_d, sfrz_w, sfrz_pm, flat_bl, flat_int, flat_non, flat_str, isN_non, isN_int, isN_bl, isN_str, isN_tup, isN_lst, isN_ins, decide_eq_true_eq, decide_eq_false_iff_not, Bool.not_eq_true', Bool.not_eq_false', true_and, and_true, forall_const, implies_true, false_implies, true_implies, forall_eq, Bool.false_eq_true, Bool.true_eq_false, if_true, if_false, reduceCtorEq, imp_self, List.cons_append, List.nil_append, List.replicate_succ, List.replicate_zero, Nat.reduceSub, Nat.reduceAdd, ne_eq, not_true_eq_false, not_false_eq_true, ex_pm, ex_mk, put0, put1, put2, put3, put4, put5, run_appP, op_qNm, qnp_d, op_catI, froz_il, op_gEqL, op_gNeL, op_gEqL0, op_gNeL0, op_gInL, op_gNinL, op_sorted, op_sum, op_lenSet, isi_int, isi_bl, isi_lst, isi_tup, isi_non, kit_ii, kit_ib, kit_bb, kit_bi, kit_ll, kit_tt, kit_il, kit_it, kit_lt, kit_tl, op_clr, op_clr0, clp_any, loc_un, loc_d, rst_cons, rst_nil, rstS_some, intL_rng, Bool.not_true, Bool.not_false, Int.sub_zero, op_gEqB, f3]
    refine ⟨i62_of (by omega) (by omega), for_runG (fun pr e => (∀ t ∈ pr, cnt q p s t (rng q.n) = 1) ∧ ∃ s4 s5 s6 : Sl, (s4.free ∧ s5.free ∧ s6.free) ∧ e = [.d (lsD q), .d (lsD p), .d (.int q.n), .d (.int s), s4, s5, s6, .un]) ⟨(fun _ h => nomatch h), s4, s5, s6, ⟨f4, f5, f6⟩, rfl⟩ ?_ ?_⟩
    · rintro pr t po e hsp ⟨hal, s4, s5, s6, ⟨f4, f5, f6⟩, rfl⟩
      have htm : t ∈ rng q.n := by rw [hsp]; simp
      have ht := mem_rng.mp htm
      simp only [ev_ret, ev_opt, ev_bnd, ev_frz, ev_up, ev_var, ev_mov, varp_d, varp_w, movp_d, movp_w, ev_c, ev_e1, ev_e2, ev_eL, ev_anil, ev_acons, ev_onil, ev_ocons, ev_tup, ev_lst, ev_asB, ev_not, ev_or, ev_and, ev_eIf, ev_vB, ev_vAnd, ev_vOr, ev_vNot, ev_e3c, ex_bl, blp_bl, op_some, op_map, op_gI, op_gI0, op_gEqI, op_gNeI, op_isN, op_len, op_lenF, op_lenT, op_int, op_abs, op_max2, op_min2, op_divmod, op_list, op_neg, op_ixL, op_ixF, op_ixT, atI_0, atI_1, atI_2, ev_call, ev_meth, ex_ins, ev_make, ev_callO, ev_fld, flds_d, flds_w, flds_pm, ev_bor, ev_borT, ev_cut, ev_pInt, ex_int, op_cutL, ev_lstR, ev_iSeq, ex_lst, ex_frl, ev_iTp, ex_tup, ev_rg1, ex_int1, ev_rg2, ex_int2, run_seq, run_next, run_brk, run_cont, run_never, run_retN, run_ret, run_expr, run_if, run_set, run_tg, op_gNm, op_gTp, op_gNil, op_gCons, run_par, ex_two, run_fldS, ex_o, ex_l, run_setIx, run_for, ev_lc, op_stAt, stp_any, free_un, free_d, free_w, mk_d, mk_l, mk_o, divOk_iff, modOk_iff, powOk_iff, own_d, own_w, own_pm, own_s, seto_w, seto_pm, seto_s, op_backs_pm, op_backs_d, op_backs_nil, froz_ld, froz_d, froz_o, List.getElem?_cons_zero, List.getElem?_cons_succ, List.set_cons_zero, List.set_cons_succ, List.map_cons, List.map_nil, sfrz_un, sfrz_d, sfrz_w, sfrz_pm, flat_bl, flat_int, flat_non, flat_str, isN_non, isN_int, isN_bl, isN_str, isN_tup, isN_lst, isN_ins, decide_eq_true_eq, decide_eq_false_iff_not, Bool.not_eq_true', Bool.not_eq_false', true_and, and_true, forall_const, implies_true, false_implies, true_implies, forall_eq, Bool.false_eq_true, Bool.true_eq_false, if_true, if_false, reduceCtorEq, imp_self, List.cons_append, List.nil_append, List.replicate_succ, List.replicate_zero, Nat.reduceSub, Nat.reduceAdd, ne_eq, not_true_eq_false, not_false_eq_true, ex_pm, ex_mk, put0, put1, put2, put3, put4, put5, run_appP, op_qNm, qnp_d, op_catI, froz_il, op_gEqL, op_gNeL, op_gEqL0, op_gNeL0, op_gInL, op_gNinL, op_sorted, op_sum, op_lenSet, isi_int, isi_bl, isi_lst, isi_tup, isi_non, kit_ii, kit_ib, kit_bb, kit_bi, kit_ll, kit_tt, kit_il, kit_it, kit_lt, kit_tl, op_clr, op_clr0, clp_any, loc_un, loc_d, rst_cons, rst_nil, rstS_some, intL_rng, Bool.not_true, Bool.not_false, Int.sub_zero, op_gEqB, f4, f5]
      refine ⟨i62_of (by omega) (by omega), for_runG (fun rs e => ∃ s6 : Sl, s6.free ∧ e = [.d (lsD q), .d (lsD p), .d (.int q.n), .d (.int s), .d (.int t), .d (.int (cnt q p s t rs : Nat)), s6, .un]) ⟨s6, f6, rfl⟩ ?_ ?_⟩
      · rintro rs r ro e hsp ⟨s6, f6, rfl⟩
        have hr := mem_rng.mp (show r ∈ rng q.n by rw [hsp]; simp)
        simp only [ev_ret, ev_opt, ev_bnd, ev_frz, ev_up, ev_var, ev_mov, varp_d, varp_w, movp_d, movp_w, ev_c, ev_e1, ev_e2, ev_eL, ev_anil, ev_acons, ev_onil, ev_ocons, ev_tup, ev_lst, ev_asB, ev_not, ev_or, ev_and, ev_eIf, ev_vB, ev_vAnd, ev_vOr, ev_vNot, ev_e3c, ex_bl, blp_bl, op_some, op_map, op_gI, op_gI0, op_gEqI, op_gNeI, op_isN, op_len, op_lenF, op_lenT, op_int, op_abs, op_max2, op_min2, op_divmod, op_list, op_neg, op_ixL, op_ixF, op_ixT, atI_0, atI_1, atI_2, ev_call, ev_meth, ex_ins, ev_make, ev_callO, ev_fld, flds_d, flds_w, flds_pm, ev_bor, ev_borT, ev_cut, ev_pInt, ex_int, op_cutL, ev_lstR, ev_iSeq, ex_lst, ex_frl, ev_iTp, ex_tup, ev_rg1, ex_int1, ev_rg2, ex_int2, run_seq, run_next, run_brk, run_cont, run_never, run_retN, run_ret, run_expr, run_if, run_set, run_tg, op_gNm, op_gTp, op_gNil, op_gCons, run_par, ex_two, run_fldS, ex_o, ex_l, run_setIx, run_for, ev_lc, op_stAt, stp_any, free_un, free_d, free_w, mk_d, mk_l, mk_o, divOk_iff, modOk_iff, powOk_iff, own_d, own_w, own_pm, own_s, seto_w, seto_pm, seto_s, op_backs_pm, op_backs_d, op_backs_nil, froz_ld, froz_d, froz_o, List.getElem?_cons_zero, List.getElem?_cons_succ, List.set_cons_zero, List.set_cons_succ, List.map_cons, List.map_nil, sfrz_un, sfrz_d, sfrz_w, sfrz_pm, flat_bl, flat_int, flat_non, flat_str, isN_non, isN_int, isN_bl, isN_str, isN_tup, isN_lst, isN_ins, decide_eq_true_eq, decide_eq_false_iff_not, Bool.not_eq_true', Bool.not_eq_false', true_and, and_true, forall_const, implies_true, false_implies, true_implies, forall_eq, Bool.false_eq_true, Bool.true_eq_false, if_true, if_false, reduceCtorEq, imp_self, List.cons_append, List.nil_append, List.replicate_succ, List.replicate_zero, Nat.reduceSub, Nat.reduceAdd, ne_eq, not_true_eq_false, not_false_eq_true, ex_pm, ex_mk, put0, put1, put2, put3, put4, put5, run_appP, op_qNm, qnp_d, op_catI, froz_il, op_gEqL, op_gNeL, op_gEqL0, op_gNeL0, op_gInL, op_gNinL, op_sorted, op_sum, op_lenSet, isi_int, isi_bl, isi_lst, isi_tup, isi_non, kit_ii, kit_ib, kit_bb, kit_bi, kit_ll, kit_tt, kit_il, kit_it, kit_lt, kit_tl, op_clr, op_clr0, clp_any, loc_un, loc_d, rst_cons, rst_nil, rstS_some, intL_rng, Bool.not_true, Bool.not_false, Int.sub_zero, op_gEqB, f6, ls_at hr.1 hr.2 hs.1 hs.2]
        refine lc_filterG (fun c => decide (c ∈ P p r t)) (fun c => .d (.int c)) (sz' (Nat.lt_of_le_of_lt (P_len h r s) (by decide))) ?_ ?_
        · intro z hz
          simp only [ev_ret, ev_opt, ev_bnd, ev_frz, ev_up, ev_var, ev_mov, varp_d, varp_w, movp_d, movp_w, ev_c, ev_e1, ev_e2, ev_eL, ev_anil, ev_acons, ev_onil, ev_ocons, ev_tup, ev_lst, ev_asB, ev_not, ev_or, ev_and, ev_eIf, ev_vB, ev_vAnd, ev_vOr, ev_vNot, ev_e3c, ex_bl, blp_bl, op_some, op_map, op_gI, op_gI0, op_gEqI, op_gNeI, op_isN, op_len, op_lenF, op_lenT, op_int, op_abs, op_max2, op_min2, op_divmod, op_list, op_neg, op_ixL, op_ixF, op_ixT, atI_0, atI_1, atI_2, ev_call, ev_meth, ex_ins, ev_make, ev_callO, ev_fld, flds_d, flds_w, flds_pm, ev_bor, ev_borT, ev_cut, ev_pInt, ex_int, op_cutL, ev_lstR, ev_iSeq, ex_lst, ex_frl, ev_iTp, ex_tup, ev_rg1, ex_int1, ev_rg2, ex_int2, run_seq, run_next, run_brk, run_cont, run_never, run_retN, run_ret, run_expr, run_if, run_set, run_tg, op_gNm, op_gTp, op_gNil, op_gCons, run_par, ex_two, run_fldS, ex_o, ex_l, run_setIx, run_for, ev_lc, op_stAt, stp_any, free_un, free_d, free_w, mk_d, mk_l, mk_o, divOk_iff, modOk_iff, powOk_iff, own_d, own_w, own_pm, own_s, seto_w, seto_pm, seto_s, op_backs_pm, op_backs_d, op_backs_nil, froz_ld, froz_d, froz_o, List.getElem?_cons_zero, List.getElem?_cons_succ, List.set_cons_zero, List.set_cons_succ, List.map_cons, List.map_nil, sfrz_un, sfrz_d, sfrz_w, sfrz_pm, flat_bl, flat_int, flat_non, flat_str, isN_non, isN_int, isN_bl, isN_str, isN_tup, isN_lst, isN_ins, decide_eq_true_eq, decide_eq_false_iff_not, Bool.not_eq_true', Bool.not_eq_false', true_and, and_true, forall_const, implies_true, false_implies, true_implies, forall_eq, Bool.false_eq_true, Bool.true_eq_false, if_true, if_false, reduceCtorEq, imp_self, List.cons_append, List.nil_append, List.replicate_succ, List.replicate_zero, Nat.reduceSub, Nat.reduceAdd, ne_eq, not_true_eq_false, not_false_eq_true, ex_pm, ex_mk, put0, put1, put2, put3, put4, put5, run_appP, op_qNm, qnp_d, op_catI, froz_il, op_gEqL, op_gNeL, op_gEqL0, op_gNeL0, op_gInL, op_gNinL, op_sorted, op_sum, op_lenSet, isi_int, isi_bl, isi_lst, isi_tup, isi_non, kit_ii, kit_ib, kit_bb, kit_bi, kit_ll, kit_tt, kit_il, kit_it, kit_lt, kit_tl, op_clr, op_clr0, clp_any, loc_un, loc_d, rst_cons, rst_nil, rstS_some, intL_rng, Bool.not_true, Bool.not_false, Int.sub_zero, op_gEqB, ls_at (q := p) hr.1 (en ▸ hr.2) ht.1 (en ▸ ht.2)]
        · simp only [ev_ret, ev_opt, ev_bnd, ev_frz, ev_up, ev_var, ev_mov, varp_d, varp_w, movp_d, movp_w, ev_c, ev_e1, ev_e2, ev_eL, ev_anil, ev_acons, ev_onil, ev_ocons, ev_tup, ev_lst, ev_asB, ev_not, ev_or, ev_and, ev_eIf, ev_vB, ev_vAnd, ev_vOr, ev_vNot, ev_e3c, ex_bl, blp_bl, op_some, op_map, op_gI, op_gI0, op_gEqI, op_gNeI, op_isN, op_len, op_lenF, op_lenT, op_int, op_abs, op_max2, op_min2, op_divmod, op_list, op_neg, op_ixL, op_ixF, op_ixT, atI_0, atI_1, atI_2, ev_call, ev_meth, ex_ins, ev_make, ev_callO, ev_fld, flds_d, flds_w, flds_pm, ev_bor, ev_borT, ev_cut, ev_pInt, ex_int, op_cutL, ev_lstR, ev_iSeq, ex_lst, ex_frl, ev_iTp, ex_tup, ev_rg1, ex_int1, ev_rg2, ex_int2, run_seq, run_next, run_brk, run_cont, run_never, run_retN, run_ret, run_expr, run_if, run_set, run_tg, op_gNm, op_gTp, op_gNil, op_gCons, run_par, ex_two, run_fldS, ex_o, ex_l, run_setIx, run_for, ev_lc, op_stAt, stp_any, free_un, free_d, free_w, mk_d, mk_l, mk_o, divOk_iff, modOk_iff, powOk_iff, own_d, own_w, own_pm, own_s, seto_w, seto_pm, seto_s, op_backs_pm, op_backs_d, op_backs_nil, froz_ld, froz_d, froz_o, List.getElem?_cons_zero, List.getElem?_cons_succ, List.set_cons_zero, List.set_cons_succ, List.map_cons, List.map_nil, sfrz_un, sfrz_d, sfrz_w, sfrz_pm, flat_bl, flat_int, flat_non, flat_str, isN_non, isN_int, isN_bl, isN_str, isN_tup, isN_lst, isN_ins, decide_eq_true_eq, decide_eq_false_iff_not, Bool.not_eq_true', Bool.not_eq_false', true_and, and_true, forall_const, implies_true, false_implies, true_implies, forall_eq, Bool.false_eq_true, Bool.true_eq_false, if_true, if_false, reduceCtorEq, imp_self, List.cons_append, List.nil_append, List.replicate_succ, List.replicate_zero, Nat.reduceSub, Nat.reduceAdd, ne_eq, not_true_eq_false, not_false_eq_true, ex_pm, ex_mk, put0, put1, put2, put3, put4, put5, run_appP, op_qNm, qnp_d, op_catI, froz_il, op_gEqL, op_gNeL, op_gEqL0, op_gNeL0, op_gInL, op_gNinL, op_sorted, op_sum, op_lenSet, isi_int, isi_bl, isi_lst, isi_tup, isi_non, kit_ii, kit_ib, kit_bb, kit_bi, kit_ll, kit_tt, kit_il, kit_it, kit_lt, kit_tl, op_clr, op_clr0, clp_any, loc_un, loc_d, rst_cons, rst_nil, rstS_some, intL_rng, Bool.not_true, Bool.not_false, Int.sub_zero, op_gEqB, List.length_map]
          exact ⟨.d (.int r), trivial, by rw [cnt_app]; rfl⟩
      · rintro e ⟨s6, f6, rfl⟩
        simp only [ev_ret, ev_opt, ev_bnd, ev_frz, ev_up, ev_var, ev_mov, varp_d, varp_w, movp_d, movp_w, ev_c, ev_e1, ev_e2, ev_eL, ev_anil, ev_acons, ev_onil, ev_ocons, ev_tup, ev_lst, ev_asB, ev_not, ev_or, ev_and, ev_eIf, ev_vB, ev_vAnd, ev_vOr, ev_vNot, ev_e3c, ex_bl, blp_bl, op_some, op_map, op_gI, op_gI0, op_gEqI, op_gNeI, op_isN, op_len, op_lenF, op_lenT, op_int, op_abs, op_max2, op_min2, op_divmod, op_list, op_neg, op_ixL, op_ixF, op_ixT, atI_0, atI_1, atI_2, ev_call, ev_meth, ex_ins, ev_make, ev_callO, ev_fld, flds_d, flds_w, flds_pm, ev_bor, ev_borT, ev_cut, ev_pInt, ex_int, op_cutL, ev_lstR, ev_iSeq, ex_lst, ex_frl, ev_iTp, ex_tup, ev_rg1, ex_int1, ev_rg2, ex_int2, run_seq, run_next, run_brk, run_cont, run_never, run_retN, run_ret, run_expr, run_if, run_set, run_tg, op_gNm, op_gTp, op_gNil, op_gCons, run_par, ex_two, run_fldS, ex_o, ex_l, run_setIx, run_for, ev_lc, op_stAt, stp_any, free_un, free_d, free_w, mk_d, mk_l, mk_o, divOk_iff, modOk_iff, powOk_iff, own_d, own_w, own_pm, own_s, seto_w, seto_pm, seto_s, op_backs_pm, op_backs_d, op_backs_nil, froz_ld, froz_d, froz_o, List.getElem?_cons_zero, List.getElem?_cons_succ, List.set_cons_zero, List.set_cons_succ, List.map_cons, List.map_nil, sfrz_un, sfrz_d, sfrz_w, sfrz_pm, flat_bl, flat_int, flat_non, flat_str, isN_non, isN_int, isN_bl, isN_str, isN_tup, isN_lst, isN_ins, decide_eq_true_eq, decide_eq_false_iff_not, Bool.not_eq_true', Bool.not_eq_false', true_and, and_true, forall_const, implies_true, false_implies, true_implies, forall_eq, Bool.false_eq_true, Bool.true_eq_false, if_true, if_false, reduceCtorEq, imp_self, List.cons_append, List.nil_append, List.replicate_succ, List.replicate_zero, Nat.reduceSub, Nat.reduceAdd, ne_eq, not_true_eq_false, not_false_eq_true, ex_pm, ex_mk, put0, put1, put2, put3, put4, put5, run_appP, op_qNm, qnp_d, op_catI, froz_il, op_gEqL, op_gNeL, op_gEqL0, op_gNeL0, op_gInL, op_gNinL, op_sorted, op_sum, op_lenSet, isi_int, isi_bl, isi_lst, isi_tup, isi_non, kit_ii, kit_ib, kit_bb, kit_bi, kit_ll, kit_tt, kit_il, kit_it, kit_lt, kit_tl, op_clr, op_clr0, clp_any, loc_un, loc_d, rst_cons, rst_nil, rstS_some, intL_rng, Bool.not_true, Bool.not_false, Int.sub_zero, op_gEqB, nc1]
        refine ⟨fun hh => ?_, fun hh => ⟨fun t' ht' => ?_, .d (.int t), .d (.int (cnt q p s t (rng q.n) : Nat)), s6, ⟨trivial, trivial, f6⟩, rfl⟩⟩
        · have : pairB q p = false := by
            refine Bool.eq_false_iff.mpr fun hb => hh ?_
            unfold pairB at hb
            simp only [List.all_eq_true, decide_eq_true_eq] at hb
            exact hb s hsm t htm
          rw [this]
        · rcases List.mem_append.mp ht' with m | m
          · exact hal t' m
          · rw [List.mem_singleton] at m
            subst m
            exact hh
    · rintro e ⟨hal, s4, s5, s6, ⟨f4, f5, f6⟩, rfl⟩
      refine ⟨fun s' hs' t ht => ?_, .d (.int s), s4, s5, s6, ⟨trivial, f4, f5, f6⟩, rfl⟩
      rcases List.mem_append.mp hs' with m | m
      · exact hall s' m t ht
      · rw [List.mem_singleton] at m
        subst m
        exact hal t ht
  · rintro e ⟨hall, s3, s4, s5, s6, _, rfl⟩
    simp only [ev_ret, ev_opt, ev_bnd, ev_frz, ev_up, ev_var, ev_mov, varp_d, varp_w, movp_d, movp_w, ev_c, ev_e1, ev_e2, ev_eL, ev_anil, ev_acons, ev_onil, ev_ocons, ev_tup, ev_lst, ev_asB, ev_not, ev_or, ev_and, ev_eIf, ev_vB, ev_vAnd, ev_vOr, ev_vNot, ev_e3c, ex_bl, blp_bl, op_some, op_map, op_gI, op_gI0, op_gEqI, op_gNeI, op_isN, op_len, op_lenF, op_lenT, op_int, op_abs, op_max2, op_min2, op_divmod, op_list, op_neg, op_ixL, op_ixF, op_ixT, atI_0, atI_1, atI_2, ev_call, ev_meth, ex_ins, ev_make, ev_callO, ev_fld, flds_d, flds_w, flds_pm, ev_bor, ev_borT, ev_cut, ev_pInt, ex_int, op_cutL, ev_lstR, ev_iSeq, ex_lst, ex_frl, ev_iTp, ex_tup, ev_rg1, ex_int1, ev_rg2, ex_int2, run_seq, run_next, run_brk, run_cont, run_never, run_retN, run_ret, run_expr, run_if, run_set, run_tg, op_gNm, op_gTp, op_gNil, op_gCons, run_par, ex_two, run_fldS, ex_o, ex_l, run_setIx, run_for, ev_lc, op_stAt, stp_any, free_un, free_d, free_w, mk_d, mk_l, mk_o, divOk_iff, modOk_iff, powOk_iff, own_d, own_w, own_pm, own_s, seto_w, seto_pm, seto_s, op_backs_pm, op_backs_d, op_backs_nil, froz_ld, froz_d, froz_o, List.getElem?_cons_zero, List.getElem?_cons_succ, List.set_cons_zero, List.set_cons_succ, List.map_cons, List.map_nil, sfrz_un, sfrz_d, sfrz_w, sfrz_pm, flat_bl, flat_int, flat_non, flat_str, isN_non, isN_int, isN_bl, isN_str, isN_tup, isN_lst, isN_ins, decide_eq_true_eq, decide_eq_false_iff_not, Bool.not_eq_true', Bool.not_eq_false', true_and, and_true, forall_const, implies_true, false_implies, true_implies, forall_eq, Bool.false_eq_true, Bool.true_eq_false, if_true, if_false, reduceCtorEq, imp_self, List.cons_append, List.nil_append, List.replicate_succ, List.replicate_zero, Nat.reduceSub, Nat.reduceAdd, ne_eq, not_true_eq_false, not_false_eq_true, ex_pm, ex_mk, put0, put1, put2, put3, put4, put5, run_appP, op_qNm, qnp_d, op_catI, froz_il, op_gEqL, op_gNeL, op_gEqL0, op_gNeL0, op_gInL, op_gNinL, op_sorted, op_sum, op_lenSet, isi_int, isi_bl, isi_lst, isi_tup, isi_non, kit_ii, kit_ib, kit_bb, kit_bi, kit_ll, kit_tt, kit_il, kit_it, kit_lt, kit_tl, op_clr, op_clr0, clp_any, loc_un, loc_d, rst_cons, rst_nil, rstS_some, intL_rng, Bool.not_true, Bool.not_false, Int.sub_zero, op_gEqB]
    have : pairB q p = true := by
      unfold pairB
      simp only [List.all_eq_true, decide_eq_true_eq]
      exact hall
    rw [this]
end K88
set_option Elab.async false
set_option linter.all false
set_option maxRecDepth 100000
set_option maxHeartbeats 1000000
set_option exponentiation.threshold 20000
namespace K88
open PySem DL
abbrev pool (z : Int) : Vl := .l [.d (.int z)]
theorem lg9000 {n : Int} (h : n.natAbs < 2 ^ 400) : n.natAbs.log2 < 9000 := log2_lt (Nat.lt_of_lt_of_le h (Nat.pow_le_pow_right (by decide) (by decide))) (by decide)
theorem froz_pool {z : Int} : Vl.froz (.l [.d (.int z)]) = .lst [.int z] := by simp [Vl.froz, frozs]
theorem setL_0 {x : Dt} {y : Dt} : setL [.d x] 0 y = some [.d y] := rfl
theorem take_ok (z : Int) {n : Int} (h0 : 0 < n) (h1 : n.natAbs < 2 ^ 400) : F__law_take [.pm (pool z), .d (.int n)] = some (.d (.int (z % n)), [.pm (pool (z / n)), .d (.int n)]) := by
  refine eq_of_op ?_
  refine fn_run rfl ?_
  unfold m__law_take
  simp only [ev_ret, ev_opt, ev_bnd, ev_frz, ev_up, ev_var, ev_mov, varp_d, varp_w, movp_d, movp_w, ev_c, ev_e1, ev_e2, ev_eL, ev_anil, ev_acons, ev_onil, ev_ocons, ev_tup, ev_lst, ev_asB, ev_not, ev_or, ev_and, ev_eIf, ev_vB, ev_vAnd, ev_vOr, ev_vNot, ev_e3c, ex_bl, blp_bl, op_some, op_map, op_gI, op_gI0, op_gEqI, op_gNeI, op_isN, op_len, op_lenF, op_lenT, op_int, op_abs, op_max2, op_min2, op_divmod, op_list, op_neg, op_ixL, op_ixF, op_ixT, atI_0, atI_1, atI_2, ev_call, ev_meth, ex_ins, ev_make, ev_callO, ev_fld, flds_d, flds_w, flds_pm, ev_bor, ev_borT, ev_cut, ev_pInt, ex_int, op_cutL, ev_lstR, ev_iSeq, ex_lst, ex_frl, ev_iTp, ex_tup, ev_rg1, ex_int1, ev_rg2, ex_int2, run_seq, run_next, run_brk, run_cont, run_never, run_retN, run_ret, run_expr, run_if, run_set, run_tg, op_gNm, op_gTp, op_gNil, op_gCons, run_par, ex_two, run_fldS, ex_o, ex_l, run_setIx, run_for, ev_lc, op_stAt, stp_any, free_un, free_d, free_w, mk_d, mk_l, mk_o, divOk_iff, modOk_iff, powOk_iff, own_d, own_w, own_pm, own_s, seto_w, seto_pm, seto_s, op_backs_pm, op_backs_d, op_backs_nil, froz_ld, froz_d, froz_o, List.getElem?_cons_zero, List.getElem?_cons_succ, List.set_cons_zero, List.set_cons_succ, List.map_cons, List.map_nil, sfrz_un, sfrz_d, sfrz_w, sfrz_pm, flat_bl, flat_int, flat_non, flat_str, isN_non, isN_int, isN_bl, isN_str, isN_tup, isN_lst, isN_ins, decide_eq_true_eq, decide_eq_false_iff_not, Bool.not_eq_true', Bool.not_eq_false', true_and, and_true, forall_const, implies_true, false_implies, true_implies, forall_eq, Bool.false_eq_true, Bool.true_eq_false, if_true, if_false, reduceCtorEq, imp_self, List.cons_append, List.nil_append, List.replicate_succ, List.replicate_zero, Nat.reduceSub, Nat.reduceAdd, ne_eq, not_true_eq_false, not_false_eq_true, ex_pm, ex_mk, put0, put1, put2, put3, put4, put5, run_appP, op_qNm, qnp_d, op_catI, froz_il, op_gEqL, op_gNeL, op_gEqL0, op_gNeL0, op_gInL, op_gNinL, op_sorted, op_sum, op_lenSet, isi_int, isi_bl, isi_lst, isi_tup, isi_non, kit_ii, kit_ib, kit_bb, kit_bi, kit_ll, kit_tt, kit_il, kit_it, kit_lt, kit_tl, op_clr, op_clr0, clp_any, loc_un, loc_d, rst_cons, rst_nil, rstS_some, intL_rng, Bool.not_true, Bool.not_false, Int.sub_zero, op_gEqB, froz_pool, h0, lg9000 h1, Option.map_some, isL, setL_0]
theorem near_ok (z : Int) {n : Int} (h0 : 0 ≤ n) (h1 : n.natAbs < 2 ^ 390) : F__law_near [.pm (pool z), .d (.int n)] = some (.d (.int (z % (2 * n + 1) - n)), [.pm (pool (z / (2 * n + 1))), .d (.int n)]) := by
  refine eq_of_op ?_
  refine fn_run rfl ?_
  unfold m__law_near
  simp only [ev_ret, ev_opt, ev_bnd, ev_frz, ev_up, ev_var, ev_mov, varp_d, varp_w, movp_d, movp_w, ev_c, ev_e1, ev_e2, ev_eL, ev_anil, ev_acons, ev_onil, ev_ocons, ev_tup, ev_lst, ev_asB, ev_not, ev_or, ev_and, ev_eIf, ev_vB, ev_vAnd, ev_vOr, ev_vNot, ev_e3c, ex_bl, blp_bl, op_some, op_map, op_gI, op_gI0, op_gEqI, op_gNeI, op_isN, op_len, op_lenF, op_lenT, op_int, op_abs, op_max2, op_min2, op_divmod, op_list, op_neg, op_ixL, op_ixF, op_ixT, atI_0, atI_1, atI_2, ev_call, ev_meth, ex_ins, ev_make, ev_callO, ev_fld, flds_d, flds_w, flds_pm, ev_bor, ev_borT, ev_cut, ev_pInt, ex_int, op_cutL, ev_lstR, ev_iSeq, ex_lst, ex_frl, ev_iTp, ex_tup, ev_rg1, ex_int1, ev_rg2, ex_int2, run_seq, run_next, run_brk, run_cont, run_never, run_retN, run_ret, run_expr, run_if, run_set, run_tg, op_gNm, op_gTp, op_gNil, op_gCons, run_par, ex_two, run_fldS, ex_o, ex_l, run_setIx, run_for, ev_lc, op_stAt, stp_any, free_un, free_d, free_w, mk_d, mk_l, mk_o, divOk_iff, modOk_iff, powOk_iff, own_d, own_w, own_pm, own_s, seto_w, seto_pm, seto_s, op_backs_pm, op_backs_d, op_backs_nil, froz_ld, froz_d, froz_o, List.getElem?_cons_zero, List.getElem?_cons_succ, List.set_cons_zero, List.set_cons_succ, List.map_cons, List.map_nil, sfrz_un, sfrz_d, sfrz_w, sfrz_pm, flat_bl, flat_int, flat_non, flat_str, isN_non, isN_int, isN_bl, isN_str, isN_tup, isN_lst, isN_ins, decide_eq_true_eq, decide_eq_false_iff_not, Bool.not_eq_true', Bool.not_eq_false', true_and, and_true, forall_const, implies_true, false_implies, true_implies, forall_eq, Bool.false_eq_true, Bool.true_eq_false, if_true, if_false, reduceCtorEq, imp_self, List.cons_append, List.nil_append, List.replicate_succ, List.replicate_zero, Nat.reduceSub, Nat.reduceAdd, ne_eq, not_true_eq_false, not_false_eq_true, ex_pm, ex_mk, put0, put1, put2, put3, put4, put5, run_appP, op_qNm, qnp_d, op_catI, froz_il, op_gEqL, op_gNeL, op_gEqL0, op_gNeL0, op_gInL, op_gNinL, op_sorted, op_sum, op_lenSet, isi_int, isi_bl, isi_lst, isi_tup, isi_non, kit_ii, kit_ib, kit_bb, kit_bi, kit_ll, kit_tt, kit_il, kit_it, kit_lt, kit_tl, op_clr, op_clr0, clp_any, loc_un, loc_d, rst_cons, rst_nil, rstS_some, intL_rng, Bool.not_true, Bool.not_false, Int.sub_zero, op_gEqB]
  rw [ev_callR rfl]
  simp only [ev_ret, ev_opt, ev_bnd, ev_frz, ev_up, ev_var, ev_mov, varp_d, varp_w, movp_d, movp_w, ev_c, ev_e1, ev_e2, ev_eL, ev_anil, ev_acons, ev_onil, ev_ocons, ev_tup, ev_lst, ev_asB, ev_not, ev_or, ev_and, ev_eIf, ev_vB, ev_vAnd, ev_vOr, ev_vNot, ev_e3c, ex_bl, blp_bl, op_some, op_map, op_gI, op_gI0, op_gEqI, op_gNeI, op_isN, op_len, op_lenF, op_lenT, op_int, op_abs, op_max2, op_min2, op_divmod, op_list, op_neg, op_ixL, op_ixF, op_ixT, atI_0, atI_1, atI_2, ev_call, ev_meth, ex_ins, ev_make, ev_callO, ev_fld, flds_d, flds_w, flds_pm, ev_bor, ev_borT, ev_cut, ev_pInt, ex_int, op_cutL, ev_lstR, ev_iSeq, ex_lst, ex_frl, ev_iTp, ex_tup, ev_rg1, ex_int1, ev_rg2, ex_int2, run_seq, run_next, run_brk, run_cont, run_never, run_retN, run_ret, run_expr, run_if, run_set, run_tg, op_gNm, op_gTp, op_gNil, op_gCons, run_par, ex_two, run_fldS, ex_o, ex_l, run_setIx, run_for, ev_lc, op_stAt, stp_any, free_un, free_d, free_w, mk_d, mk_l, mk_o, divOk_iff, modOk_iff, powOk_iff, own_d, own_w, own_pm, own_s, seto_w, seto_pm, seto_s, op_backs_pm, op_backs_d, op_backs_nil, froz_ld, froz_d, froz_o, List.getElem?_cons_zero, List.getElem?_cons_succ, List.set_cons_zero, List.set_cons_succ, List.map_cons, List.map_nil, sfrz_un, sfrz_d, sfrz_w, sfrz_pm, flat_bl, flat_int, flat_non, flat_str, isN_non, isN_int, isN_bl, isN_str, isN_tup, isN_lst, isN_ins, decide_eq_true_eq, decide_eq_false_iff_not, Bool.not_eq_true', Bool.not_eq_false', true_and, and_true, forall_const, implies_true, false_implies, true_implies, forall_eq, Bool.false_eq_true, Bool.true_eq_false, if_true, if_false, reduceCtorEq, imp_self, List.cons_append, List.nil_append, List.replicate_succ, List.replicate_zero, Nat.reduceSub, Nat.reduceAdd, ne_eq, not_true_eq_false, not_false_eq_true, ex_pm, ex_mk, put0, put1, put2, put3, put4, put5, run_appP, op_qNm, qnp_d, op_catI, froz_il, op_gEqL, op_gNeL, op_gEqL0, op_gNeL0, op_gInL, op_gNinL, op_sorted, op_sum, op_lenSet, isi_int, isi_bl, isi_lst, isi_tup, isi_non, kit_ii, kit_ib, kit_bb, kit_bi, kit_ll, kit_tt, kit_il, kit_it, kit_lt, kit_tl, op_clr, op_clr0, clp_any, loc_un, loc_d, rst_cons, rst_nil, rstS_some, intL_rng, Bool.not_true, Bool.not_false, Int.sub_zero, op_gEqB, mo200 (x := 2) (y := n) (by decide) (by omega), take_ok z (n := 2 * n + 1) (by omega) (by omega)]
theorem mk_rule (a b d : Int) : F_Ruleu_initu.make "Rule" [.int a, .int b, .int d] = some (.o "Rule" [.int a, .int b, .int d]) := by
  refine eq_of_op ?_
  rw [op_make]
  refine fn_run rfl ?_
  unfold m_Ruleu_initu
  simp only [ev_ret, ev_opt, ev_bnd, ev_frz, ev_up, ev_var, ev_mov, varp_d, varp_w, movp_d, movp_w, ev_c, ev_e1, ev_e2, ev_eL, ev_anil, ev_acons, ev_onil, ev_ocons, ev_tup, ev_lst, ev_asB, ev_not, ev_or, ev_and, ev_eIf, ev_vB, ev_vAnd, ev_vOr, ev_vNot, ev_e3c, ex_bl, blp_bl, op_some, op_map, op_gI, op_gI0, op_gEqI, op_gNeI, op_isN, op_len, op_lenF, op_lenT, op_int, op_abs, op_max2, op_min2, op_divmod, op_list, op_neg, op_ixL, op_ixF, op_ixT, atI_0, atI_1, atI_2, ev_call, ev_meth, ex_ins, ev_make, ev_callO, ev_fld, flds_d, flds_w, flds_pm, ev_bor, ev_borT, ev_cut, ev_pInt, ex_int, op_cutL, ev_lstR, ev_iSeq, ex_lst, ex_frl, ev_iTp, ex_tup, ev_rg1, ex_int1, ev_rg2, ex_int2, run_seq, run_next, run_brk, run_cont, run_never, run_retN, run_ret, run_expr, run_if, run_set, run_tg, op_gNm, op_gTp, op_gNil, op_gCons, run_par, ex_two, run_fldS, ex_o, ex_l, run_setIx, run_for, ev_lc, op_stAt, stp_any, free_un, free_d, free_w, mk_d, mk_l, mk_o, divOk_iff, modOk_iff, powOk_iff, own_d, own_w, own_pm, own_s, seto_w, seto_pm, seto_s, op_backs_pm, op_backs_d, op_backs_nil, froz_ld, froz_d, froz_o, List.getElem?_cons_zero, List.getElem?_cons_succ, List.set_cons_zero, List.set_cons_succ, List.map_cons, List.map_nil, sfrz_un, sfrz_d, sfrz_w, sfrz_pm, flat_bl, flat_int, flat_non, flat_str, isN_non, isN_int, isN_bl, isN_str, isN_tup, isN_lst, isN_ins, decide_eq_true_eq, decide_eq_false_iff_not, Bool.not_eq_true', Bool.not_eq_false', true_and, and_true, forall_const, implies_true, false_implies, true_implies, forall_eq, Bool.false_eq_true, Bool.true_eq_false, if_true, if_false, reduceCtorEq, imp_self, List.cons_append, List.nil_append, List.replicate_succ, List.replicate_zero, Nat.reduceSub, Nat.reduceAdd, ne_eq, not_true_eq_false, not_false_eq_true, ex_pm, ex_mk, put0, put1, put2, put3, put4, put5, run_appP, op_qNm, qnp_d, op_catI, froz_il, op_gEqL, op_gNeL, op_gEqL0, op_gNeL0, op_gInL, op_gNinL, op_sorted, op_sum, op_lenSet, isi_int, isi_bl, isi_lst, isi_tup, isi_non, kit_ii, kit_ib, kit_bb, kit_bi, kit_ll, kit_tt, kit_il, kit_it, kit_lt, kit_tl, op_clr, op_clr0, clp_any, loc_un, loc_d, rst_cons, rst_nil, rstS_some, intL_rng, Bool.not_true, Bool.not_false, Int.sub_zero, op_gEqB]
theorem mk_joined (q : J) (hm : 1 ≤ q.m) (hk : 1 ≤ q.k) : F_Joinedu_initu.make "Joined" [q.o.dt, .int q.m, q.i.dt, .int q.k] = some (.o "Joined" [q.o.dt, .int q.m, q.i.dt, .int q.k]) := by
  refine eq_of_op ?_
  rw [op_make]
  refine fn_run rfl ?_
  unfold m_Joinedu_initu
  simp only [ev_ret, ev_opt, ev_bnd, ev_frz, ev_up, ev_var, ev_mov, varp_d, varp_w, movp_d, movp_w, ev_c, ev_e1, ev_e2, ev_eL, ev_anil, ev_acons, ev_onil, ev_ocons, ev_tup, ev_lst, ev_asB, ev_not, ev_or, ev_and, ev_eIf, ev_vB, ev_vAnd, ev_vOr, ev_vNot, ev_e3c, ex_bl, blp_bl, op_some, op_map, op_gI, op_gI0, op_gEqI, op_gNeI, op_isN, op_len, op_lenF, op_lenT, op_int, op_abs, op_max2, op_min2, op_divmod, op_list, op_neg, op_ixL, op_ixF, op_ixT, atI_0, atI_1, atI_2, ev_call, ev_meth, ex_ins, ev_make, ev_callO, ev_fld, flds_d, flds_w, flds_pm, ev_bor, ev_borT, ev_cut, ev_pInt, ex_int, op_cutL, ev_lstR, ev_iSeq, ex_lst, ex_frl, ev_iTp, ex_tup, ev_rg1, ex_int1, ev_rg2, ex_int2, run_seq, run_next, run_brk, run_cont, run_never, run_retN, run_ret, run_expr, run_if, run_set, run_tg, op_gNm, op_gTp, op_gNil, op_gCons, run_par, ex_two, run_fldS, ex_o, ex_l, run_setIx, run_for, ev_lc, op_stAt, stp_any, free_un, free_d, free_w, mk_d, mk_l, mk_o, divOk_iff, modOk_iff, powOk_iff, own_d, own_w, own_pm, own_s, seto_w, seto_pm, seto_s, op_backs_pm, op_backs_d, op_backs_nil, froz_ld, froz_d, froz_o, List.getElem?_cons_zero, List.getElem?_cons_succ, List.set_cons_zero, List.set_cons_succ, List.map_cons, List.map_nil, sfrz_un, sfrz_d, sfrz_w, sfrz_pm, flat_bl, flat_int, flat_non, flat_str, isN_non, isN_int, isN_bl, isN_str, isN_tup, isN_lst, isN_ins, decide_eq_true_eq, decide_eq_false_iff_not, Bool.not_eq_true', Bool.not_eq_false', true_and, and_true, forall_const, implies_true, false_implies, true_implies, forall_eq, Bool.false_eq_true, Bool.true_eq_false, if_true, if_false, reduceCtorEq, imp_self, List.cons_append, List.nil_append, List.replicate_succ, List.replicate_zero, Nat.reduceSub, Nat.reduceAdd, ne_eq, not_true_eq_false, not_false_eq_true, ex_pm, ex_mk, put0, put1, put2, put3, put4, put5, run_appP, op_qNm, qnp_d, op_catI, froz_il, op_gEqL, op_gNeL, op_gEqL0, op_gNeL0, op_gInL, op_gNinL, op_sorted, op_sum, op_lenSet, isi_int, isi_bl, isi_lst, isi_tup, isi_non, kit_ii, kit_ib, kit_bb, kit_bi, kit_ll, kit_tt, kit_il, kit_it, kit_lt, kit_tl, op_clr, op_clr0, clp_any, loc_un, loc_d, rst_cons, rst_nil, rstS_some, intL_rng, Bool.not_true, Bool.not_false, Int.sub_zero, op_gEqB, csize_ok hm, csize_ok hk]
theorem md {z n : Int} (h : 0 < n) : 0 ≤ z % n ∧ z % n < n := ⟨Int.emod_nonneg _ (by omega), Int.emod_lt_of_pos _ h⟩
theorem rule_ok (z : Int) : ∃ (o : R) (z' : Int), o.Ok ∧ F__law_rule [.pm (pool z)] = some (.o "Rule" [.int o.a, .int o.b, .int o.d], [.pm (pool z')]) := by
  suffices h : Op (F__law_rule [.pm (pool z)]) fun r => ∃ (o : R) (z' : Int), o.Ok ∧ r = (.o "Rule" [.int o.a, .int o.b, .int o.d], [.pm (pool z')]) by
    obtain ⟨r, h1, o, z', h2, rfl⟩ := h
    exact ⟨o, z', h2, h1⟩
  refine fn_run rfl ?_
  unfold m__law_rule
  simp only [ev_ret, ev_opt, ev_bnd, ev_frz, ev_up, ev_var, ev_mov, varp_d, varp_w, movp_d, movp_w, ev_c, ev_e1, ev_e2, ev_eL, ev_anil, ev_acons, ev_onil, ev_ocons, ev_tup, ev_lst, ev_asB, ev_not, ev_or, ev_and, ev_eIf, ev_vB, ev_vAnd, ev_vOr, ev_vNot, ev_e3c, ex_bl, blp_bl, op_some, op_map, op_gI, op_gI0, op_gEqI, op_gNeI, op_isN, op_len, op_lenF, op_lenT, op_int, op_abs, op_max2, op_min2, op_divmod, op_list, op_neg, op_ixL, op_ixF, op_ixT, atI_0, atI_1, atI_2, ev_call, ev_meth, ex_ins, ev_make, ev_callO, ev_fld, flds_d, flds_w, flds_pm, ev_bor, ev_borT, ev_cut, ev_pInt, ex_int, op_cutL, ev_lstR, ev_iSeq, ex_lst, ex_frl, ev_iTp, ex_tup, ev_rg1, ex_int1, ev_rg2, ex_int2, run_seq, run_next, run_brk, run_cont, run_never, run_retN, run_ret, run_expr, run_if, run_set, run_tg, op_gNm, op_gTp, op_gNil, op_gCons, run_par, ex_two, run_fldS, ex_o, ex_l, run_setIx, run_for, ev_lc, op_stAt, stp_any, free_un, free_d, free_w, mk_d, mk_l, mk_o, divOk_iff, modOk_iff, powOk_iff, own_d, own_w, own_pm, own_s, seto_w, seto_pm, seto_s, op_backs_pm, op_backs_d, op_backs_nil, froz_ld, froz_d, froz_o, List.getElem?_cons_zero, List.getElem?_cons_succ, List.set_cons_zero, List.set_cons_succ, List.map_cons, List.map_nil, sfrz_un, sfrz_d, sfrz_w, sfrz_pm, flat_bl, flat_int, flat_non, flat_str, isN_non, isN_int, isN_bl, isN_str, isN_tup, isN_lst, isN_ins, decide_eq_true_eq, decide_eq_false_iff_not, Bool.not_eq_true', Bool.not_eq_false', true_and, and_true, forall_const, implies_true, false_implies, true_implies, forall_eq, Bool.false_eq_true, Bool.true_eq_false, if_true, if_false, reduceCtorEq, imp_self, List.cons_append, List.nil_append, List.replicate_succ, List.replicate_zero, Nat.reduceSub, Nat.reduceAdd, ne_eq, not_true_eq_false, not_false_eq_true, ex_pm, ex_mk, put0, put1, put2, put3, put4, put5, run_appP, op_qNm, qnp_d, op_catI, froz_il, op_gEqL, op_gNeL, op_gEqL0, op_gNeL0, op_gInL, op_gNinL, op_sorted, op_sum, op_lenSet, isi_int, isi_bl, isi_lst, isi_tup, isi_non, kit_ii, kit_ib, kit_bb, kit_bi, kit_ll, kit_tt, kit_il, kit_it, kit_lt, kit_tl, op_clr, op_clr0, clp_any, loc_un, loc_d, rst_cons, rst_nil, rstS_some, intL_rng, Bool.not_true, Bool.not_false, Int.sub_zero, op_gEqB]
  rw [ev_callR rfl]
  have h3 := md (z := z) (n := 3) (by decide)
  simp only [ev_ret, ev_opt, ev_bnd, ev_frz, ev_up, ev_var, ev_mov, varp_d, varp_w, movp_d, movp_w, ev_c, ev_e1, ev_e2, ev_eL, ev_anil, ev_acons, ev_onil, ev_ocons, ev_tup, ev_lst, ev_asB, ev_not, ev_or, ev_and, ev_eIf, ev_vB, ev_vAnd, ev_vOr, ev_vNot, ev_e3c, ex_bl, blp_bl, op_some, op_map, op_gI, op_gI0, op_gEqI, op_gNeI, op_isN, op_len, op_lenF, op_lenT, op_int, op_abs, op_max2, op_min2, op_divmod, op_list, op_neg, op_ixL, op_ixF, op_ixT, atI_0, atI_1, atI_2, ev_call, ev_meth, ex_ins, ev_make, ev_callO, ev_fld, flds_d, flds_w, flds_pm, ev_bor, ev_borT, ev_cut, ev_pInt, ex_int, op_cutL, ev_lstR, ev_iSeq, ex_lst, ex_frl, ev_iTp, ex_tup, ev_rg1, ex_int1, ev_rg2, ex_int2, run_seq, run_next, run_brk, run_cont, run_never, run_retN, run_ret, run_expr, run_if, run_set, run_tg, op_gNm, op_gTp, op_gNil, op_gCons, run_par, ex_two, run_fldS, ex_o, ex_l, run_setIx, run_for, ev_lc, op_stAt, stp_any, free_un, free_d, free_w, mk_d, mk_l, mk_o, divOk_iff, modOk_iff, powOk_iff, own_d, own_w, own_pm, own_s, seto_w, seto_pm, seto_s, op_backs_pm, op_backs_d, op_backs_nil, froz_ld, froz_d, froz_o, List.getElem?_cons_zero, List.getElem?_cons_succ, List.set_cons_zero, List.set_cons_succ, List.map_cons, List.map_nil, sfrz_un, sfrz_d, sfrz_w, sfrz_pm, flat_bl, flat_int, flat_non, flat_str, isN_non, isN_int, isN_bl, isN_str, isN_tup, isN_lst, isN_ins, decide_eq_true_eq, decide_eq_false_iff_not, Bool.not_eq_true', Bool.not_eq_false', true_and, and_true, forall_const, implies_true, false_implies, true_implies, forall_eq, Bool.false_eq_true, Bool.true_eq_false, if_true, if_false, reduceCtorEq, imp_self, List.cons_append, List.nil_append, List.replicate_succ, List.replicate_zero, Nat.reduceSub, Nat.reduceAdd, ne_eq, not_true_eq_false, not_false_eq_true, ex_pm, ex_mk, put0, put1, put2, put3, put4, put5, run_appP, op_qNm, qnp_d, op_catI, froz_il, op_gEqL, op_gNeL, op_gEqL0, op_gNeL0, op_gInL, op_gNinL, op_sorted, op_sum, op_lenSet, isi_int, isi_bl, isi_lst, isi_tup, isi_non, kit_ii, kit_ib, kit_bb, kit_bi, kit_ll, kit_tt, kit_il, kit_it, kit_lt, kit_tl, op_clr, op_clr0, clp_any, loc_un, loc_d, rst_cons, rst_nil, rstS_some, intL_rng, Bool.not_true, Bool.not_false, Int.sub_zero, op_gEqB, take_ok z (n := 3) (by decide) (by decide)]
  have key : ∃ k : Int, L2.atI [Dt.int 9, Dt.int 9, Dt.int (10 ^ (40 : Int).toNat)] (z % 3) = some (.int k) ∧ 0 ≤ k ∧ k.natAbs < 2 ^ 190 := by
    rcases (show z % 3 = 0 ∨ z % 3 = 1 ∨ z % 3 = 2 by omega) with e | e | e <;> rw [e]
    · exact ⟨9, atI_0, by decide, by decide⟩
    · exact ⟨9, atI_1, by decide, by decide⟩
    · exact ⟨10 ^ (40 : Int).toNat, atI_2, by decide, by decide⟩
  obtain ⟨k, hk, k0, k1⟩ := key
  refine ⟨⟨⟨by decide, by decide⟩, by decide⟩, ?_⟩
  simp only [ev_ret, ev_opt, ev_bnd, ev_frz, ev_up, ev_var, ev_mov, varp_d, varp_w, movp_d, movp_w, ev_c, ev_e1, ev_e2, ev_eL, ev_anil, ev_acons, ev_onil, ev_ocons, ev_tup, ev_lst, ev_asB, ev_not, ev_or, ev_and, ev_eIf, ev_vB, ev_vAnd, ev_vOr, ev_vNot, ev_e3c, ex_bl, blp_bl, op_some, op_map, op_gI, op_gI0, op_gEqI, op_gNeI, op_isN, op_len, op_lenF, op_lenT, op_int, op_abs, op_max2, op_min2, op_divmod, op_list, op_neg, op_ixL, op_ixF, op_ixT, atI_0, atI_1, atI_2, ev_call, ev_meth, ex_ins, ev_make, ev_callO, ev_fld, flds_d, flds_w, flds_pm, ev_bor, ev_borT, ev_cut, ev_pInt, ex_int, op_cutL, ev_lstR, ev_iSeq, ex_lst, ex_frl, ev_iTp, ex_tup, ev_rg1, ex_int1, ev_rg2, ex_int2, run_seq, run_next, run_brk, run_cont, run_never, run_retN, run_ret, run_expr, run_if, run_set, run_tg, op_gNm, op_gTp, op_gNil, op_gCons, run_par, ex_two, run_fldS, ex_o, ex_l, run_setIx, run_for, ev_lc, op_stAt, stp_any, free_un, free_d, free_w, mk_d, mk_l, mk_o, divOk_iff, modOk_iff, powOk_iff, own_d, own_w, own_pm, own_s, seto_w, seto_pm, seto_s, op_backs_pm, op_backs_d, op_backs_nil, froz_ld, froz_d, froz_o, List.getElem?_cons_zero, List.getElem?_cons_succ, List.set_cons_zero, List.set_cons_succ, List.map_cons, List.map_nil, sfrz_un, sfrz_d, sfrz_w, sfrz_pm, flat_bl, flat_int, flat_non, flat_str, isN_non, isN_int, isN_bl, isN_str, isN_tup, isN_lst, isN_ins, decide_eq_true_eq, decide_eq_false_iff_not, Bool.not_eq_true', Bool.not_eq_false', true_and, and_true, forall_const, implies_true, false_implies, true_implies, forall_eq, Bool.false_eq_true, Bool.true_eq_false, if_true, if_false, reduceCtorEq, imp_self, List.cons_append, List.nil_append, List.replicate_succ, List.replicate_zero, Nat.reduceSub, Nat.reduceAdd, ne_eq, not_true_eq_false, not_false_eq_true, ex_pm, ex_mk, put0, put1, put2, put3, put4, put5, run_appP, op_qNm, qnp_d, op_catI, froz_il, op_gEqL, op_gNeL, op_gEqL0, op_gNeL0, op_gInL, op_gNinL, op_sorted, op_sum, op_lenSet, isi_int, isi_bl, isi_lst, isi_tup, isi_non, kit_ii, kit_ib, kit_bb, kit_bi, kit_ll, kit_tt, kit_il, kit_it, kit_lt, kit_tl, op_clr, op_clr0, clp_any, loc_un, loc_d, rst_cons, rst_nil, rstS_some, intL_rng, Bool.not_true, Bool.not_false, Int.sub_zero, op_gEqB, hk]
  rw [ev_callR rfl]
  simp only [ev_ret, ev_opt, ev_bnd, ev_frz, ev_up, ev_var, ev_mov, varp_d, varp_w, movp_d, movp_w, ev_c, ev_e1, ev_e2, ev_eL, ev_anil, ev_acons, ev_onil, ev_ocons, ev_tup, ev_lst, ev_asB, ev_not, ev_or, ev_and, ev_eIf, ev_vB, ev_vAnd, ev_vOr, ev_vNot, ev_e3c, ex_bl, blp_bl, op_some, op_map, op_gI, op_gI0, op_gEqI, op_gNeI, op_isN, op_len, op_lenF, op_lenT, op_int, op_abs, op_max2, op_min2, op_divmod, op_list, op_neg, op_ixL, op_ixF, op_ixT, atI_0, atI_1, atI_2, ev_call, ev_meth, ex_ins, ev_make, ev_callO, ev_fld, flds_d, flds_w, flds_pm, ev_bor, ev_borT, ev_cut, ev_pInt, ex_int, op_cutL, ev_lstR, ev_iSeq, ex_lst, ex_frl, ev_iTp, ex_tup, ev_rg1, ex_int1, ev_rg2, ex_int2, run_seq, run_next, run_brk, run_cont, run_never, run_retN, run_ret, run_expr, run_if, run_set, run_tg, op_gNm, op_gTp, op_gNil, op_gCons, run_par, ex_two, run_fldS, ex_o, ex_l, run_setIx, run_for, ev_lc, op_stAt, stp_any, free_un, free_d, free_w, mk_d, mk_l, mk_o, divOk_iff, modOk_iff, powOk_iff, own_d, own_w, own_pm, own_s, seto_w, seto_pm, seto_s, op_backs_pm, op_backs_d, op_backs_nil, froz_ld, froz_d, froz_o, List.getElem?_cons_zero, List.getElem?_cons_succ, List.set_cons_zero, List.set_cons_succ, List.map_cons, List.map_nil, sfrz_un, sfrz_d, sfrz_w, sfrz_pm, flat_bl, flat_int, flat_non, flat_str, isN_non, isN_int, isN_bl, isN_str, isN_tup, isN_lst, isN_ins, decide_eq_true_eq, decide_eq_false_iff_not, Bool.not_eq_true', Bool.not_eq_false', true_and, and_true, forall_const, implies_true, false_implies, true_implies, forall_eq, Bool.false_eq_true, Bool.true_eq_false, if_true, if_false, reduceCtorEq, imp_self, List.cons_append, List.nil_append, List.replicate_succ, List.replicate_zero, Nat.reduceSub, Nat.reduceAdd, ne_eq, not_true_eq_false, not_false_eq_true, ex_pm, ex_mk, put0, put1, put2, put3, put4, put5, run_appP, op_qNm, qnp_d, op_catI, froz_il, op_gEqL, op_gNeL, op_gEqL0, op_gNeL0, op_gInL, op_gNinL, op_sorted, op_sum, op_lenSet, isi_int, isi_bl, isi_lst, isi_tup, isi_non, kit_ii, kit_ib, kit_bb, kit_bi, kit_ll, kit_tt, kit_il, kit_it, kit_lt, kit_tl, op_clr, op_clr0, clp_any, loc_un, loc_d, rst_cons, rst_nil, rstS_some, intL_rng, Bool.not_true, Bool.not_false, Int.sub_zero, op_gEqB, near_ok (z / 3) k0 (Nat.lt_of_lt_of_le k1 (Nat.pow_le_pow_right (by decide) (by decide)))]
  rw [ev_callR rfl]
  simp only [ev_ret, ev_opt, ev_bnd, ev_frz, ev_up, ev_var, ev_mov, varp_d, varp_w, movp_d, movp_w, ev_c, ev_e1, ev_e2, ev_eL, ev_anil, ev_acons, ev_onil, ev_ocons, ev_tup, ev_lst, ev_asB, ev_not, ev_or, ev_and, ev_eIf, ev_vB, ev_vAnd, ev_vOr, ev_vNot, ev_e3c, ex_bl, blp_bl, op_some, op_map, op_gI, op_gI0, op_gEqI, op_gNeI, op_isN, op_len, op_lenF, op_lenT, op_int, op_abs, op_max2, op_min2, op_divmod, op_list, op_neg, op_ixL, op_ixF, op_ixT, atI_0, atI_1, atI_2, ev_call, ev_meth, ex_ins, ev_make, ev_callO, ev_fld, flds_d, flds_w, flds_pm, ev_bor, ev_borT, ev_cut, ev_pInt, ex_int, op_cutL, ev_lstR, ev_iSeq, ex_lst, ex_frl, ev_iTp, ex_tup, ev_rg1, ex_int1, ev_rg2, ex_int2, run_seq, run_next, run_brk, run_cont, run_never, run_retN, run_ret, run_expr, run_if, run_set, run_tg, op_gNm, op_gTp, op_gNil, op_gCons, run_par, ex_two, run_fldS, ex_o, ex_l, run_setIx, run_for, ev_lc, op_stAt, stp_any, free_un, free_d, free_w, mk_d, mk_l, mk_o, divOk_iff, modOk_iff, powOk_iff, own_d, own_w, own_pm, own_s, seto_w, seto_pm, seto_s, op_backs_pm, op_backs_d, op_backs_nil, froz_ld, froz_d, froz_o, List.getElem?_cons_zero, List.getElem?_cons_succ, List.set_cons_zero, List.set_cons_succ, List.map_cons, List.map_nil, sfrz_un, sfrz_d, sfrz_w, sfrz_pm, flat_bl, flat_int, flat_non, flat_str, isN_non, isN_int, isN_bl, isN_str, isN_tup, isN_lst, isN_ins, decide_eq_true_eq, decide_eq_false_iff_not, Bool.not_eq_true', Bool.not_eq_false', true_and, and_true, forall_const, implies_true, false_implies, true_implies, forall_eq, Bool.false_eq_true, Bool.true_eq_false, if_true, if_false, reduceCtorEq, imp_self, List.cons_append, List.nil_append, List.replicate_succ, List.replicate_zero, Nat.reduceSub, Nat.reduceAdd, ne_eq, not_true_eq_false, not_false_eq_true, ex_pm, ex_mk, put0, put1, put2, put3, put4, put5, run_appP, op_qNm, qnp_d, op_catI, froz_il, op_gEqL, op_gNeL, op_gEqL0, op_gNeL0, op_gInL, op_gNinL, op_sorted, op_sum, op_lenSet, isi_int, isi_bl, isi_lst, isi_tup, isi_non, kit_ii, kit_ib, kit_bb, kit_bi, kit_ll, kit_tt, kit_il, kit_it, kit_lt, kit_tl, op_clr, op_clr0, clp_any, loc_un, loc_d, rst_cons, rst_nil, rstS_some, intL_rng, Bool.not_true, Bool.not_false, Int.sub_zero, op_gEqB, near_ok _ k0 (Nat.lt_of_lt_of_le k1 (Nat.pow_le_pow_right (by decide) (by decide)))]
  rw [ev_callR rfl]
  simp only [ev_ret, ev_opt, ev_bnd, ev_frz, ev_up, ev_var, ev_mov, varp_d, varp_w, movp_d, movp_w, ev_c, ev_e1, ev_e2, ev_eL, ev_anil, ev_acons, ev_onil, ev_ocons, ev_tup, ev_lst, ev_asB, ev_not, ev_or, ev_and, ev_eIf, ev_vB, ev_vAnd, ev_vOr, ev_vNot, ev_e3c, ex_bl, blp_bl, op_some, op_map, op_gI, op_gI0, op_gEqI, op_gNeI, op_isN, op_len, op_lenF, op_lenT, op_int, op_abs, op_max2, op_min2, op_divmod, op_list, op_neg, op_ixL, op_ixF, op_ixT, atI_0, atI_1, atI_2, ev_call, ev_meth, ex_ins, ev_make, ev_callO, ev_fld, flds_d, flds_w, flds_pm, ev_bor, ev_borT, ev_cut, ev_pInt, ex_int, op_cutL, ev_lstR, ev_iSeq, ex_lst, ex_frl, ev_iTp, ex_tup, ev_rg1, ex_int1, ev_rg2, ex_int2, run_seq, run_next, run_brk, run_cont, run_never, run_retN, run_ret, run_expr, run_if, run_set, run_tg, op_gNm, op_gTp, op_gNil, op_gCons, run_par, ex_two, run_fldS, ex_o, ex_l, run_setIx, run_for, ev_lc, op_stAt, stp_any, free_un, free_d, free_w, mk_d, mk_l, mk_o, divOk_iff, modOk_iff, powOk_iff, own_d, own_w, own_pm, own_s, seto_w, seto_pm, seto_s, op_backs_pm, op_backs_d, op_backs_nil, froz_ld, froz_d, froz_o, List.getElem?_cons_zero, List.getElem?_cons_succ, List.set_cons_zero, List.set_cons_succ, List.map_cons, List.map_nil, sfrz_un, sfrz_d, sfrz_w, sfrz_pm, flat_bl, flat_int, flat_non, flat_str, isN_non, isN_int, isN_bl, isN_str, isN_tup, isN_lst, isN_ins, decide_eq_true_eq, decide_eq_false_iff_not, Bool.not_eq_true', Bool.not_eq_false', true_and, and_true, forall_const, implies_true, false_implies, true_implies, forall_eq, Bool.false_eq_true, Bool.true_eq_false, if_true, if_false, reduceCtorEq, imp_self, List.cons_append, List.nil_append, List.replicate_succ, List.replicate_zero, Nat.reduceSub, Nat.reduceAdd, ne_eq, not_true_eq_false, not_false_eq_true, ex_pm, ex_mk, put0, put1, put2, put3, put4, put5, run_appP, op_qNm, qnp_d, op_catI, froz_il, op_gEqL, op_gNeL, op_gEqL0, op_gNeL0, op_gInL, op_gNinL, op_sorted, op_sum, op_lenSet, isi_int, isi_bl, isi_lst, isi_tup, isi_non, kit_ii, kit_ib, kit_bb, kit_bi, kit_ll, kit_tt, kit_il, kit_it, kit_lt, kit_tl, op_clr, op_clr0, clp_any, loc_un, loc_d, rst_cons, rst_nil, rstS_some, intL_rng, Bool.not_true, Bool.not_false, Int.sub_zero, op_gEqB, near_ok _ (n := 99) (by decide) (by decide), mk_rule]
  have a1 := md (z := z / 3) (n := 2 * k + 1) (by omega)
  have a2 := md (z := z / 3 / (2 * k + 1)) (n := 2 * k + 1) (by omega)
  have a3 := md (z := z / 3 / (2 * k + 1) / (2 * k + 1)) (n := 2 * 99 + 1) (by omega)
  exact ⟨⟨_, _, _⟩, _, ⟨show Int.natAbs (_ - _) < _ by omega, show Int.natAbs (_ - _) < _ by omega, show Int.natAbs (_ - _) < _ by omega⟩, rfl⟩
theorem mk_ls (q : J) : mkSl (lsV q) = .w (lsV q) := rfl
theorem sq_ls {q : J} {R : List Dt → Prop} : SqP (lsD q) R ↔ R ((rng q.n).map fun r => .lst ((rng q.n).map fun s => .lst ((P q r s).map .int))) := ex_lst
theorem sh_ls (q : J) : Sh 64 (lsD q) := by
  refine (Sh.lst (n := 2) fun x hx => ?_).mono (by decide)
  obtain ⟨r, _, rfl⟩ := List.mem_map.mp hx
  refine (Sh.lst (n := 1) fun x hx => ?_).mono (by decide)
  obtain ⟨s, _, rfl⟩ := List.mem_map.mp hx
  refine (Sh.lst (n := 0) fun x hx => ?_).mono (by decide)
  obtain ⟨z, _, rfl⟩ := List.mem_map.mp hx
  exact Sh.int z
theorem paired_qp {q p : J} (h : q.Ok) (h' : p.Ok) (em : q.m = p.m) (ek : q.k = p.k) : F_Joined_paired.app [q.dt, p.dt] = some (.d (.bl (pairB q p))) := by
  rw [paired_ok h h' em ek, pairB_G h h' em ek]
theorem paired_pq {q p : J} (h : q.Ok) (h' : p.Ok) (em : q.m = p.m) (ek : q.k = p.k) : F_Joined_paired.app [p.dt, q.dt] = some (.d (.bl (pairB q p))) := by
  rw [paired_ok h' h em.symm ek.symm, ← pairB_G h h' em ek, ← em, ← ek]
  have e : ∀ o u : R, crossR u o = -crossR o u := fun o u => by unfold crossR; grind
  have g : ∀ x y : Int, Int.gcd (-x) y = Int.gcd x y := fun x y => by simp [Int.gcd]
  rw [e q.o p.o, e q.i p.i, g, g]
theorem cut_last {xs : List Dt} {x : Dt} : cutD (xs ++ [x]) none (some (-1)) = xs := by
  unfold cutD HT.sIx
  simp only []
  rw [if_pos (by decide)]
  simp
  rw [List.take_left' (by omega)]
theorem rng_cons {n : Int} (h : 1 ≤ n) : rng n = 0 :: (rng n).tail := by
  unfold rng
  obtain ⟨k, hk⟩ : ∃ k, n.toNat = k + 1 := ⟨n.toNat - 1, by omega⟩
  rw [hk, List.range_succ_eq_map]
  rfl
theorem ls_cons {q : J} (h : 1 ≤ q.n) : ∃ X Y, lsV q = .l (.l (.ld ((P q 0 0).map .int) :: X) :: Y) := by
  unfold lsV
  rw [rng_cons h]
  exact ⟨_, _, rfl⟩
theorem get00 {env : DEnv} {a : Vl} {X Y : List Vl} : getP env (.l (.l (a :: X) :: Y)) [.c 0, .c 0] = some a := by
  simp [getP, ixOf, L2.ixN]
theorem set00 {env : DEnv} {a b : Vl} {X Y : List Vl} : setP env (.l (.l (a :: X) :: Y)) [.c 0, .c 0] b = some (.l (.l (b :: X) :: Y)) := by
  simp [getP, setP, ixOf, L2.ixN]
theorem froz00 {a : Vl} {X Y : List Vl} : Vl.froz (.l (.l (a :: X) :: Y)) = .lst (.lst (a.froz :: frozs X) :: frozs Y) := by simp [Vl.froz, frozs]
theorem froz_app1 {ys : List Dt} {y : Dt} : Vl.froz (.l (ys.map .d ++ [.d y])) = .lst (ys ++ [y]) := by
  rw [show ys.map Vl.d ++ [.d y] = (ys ++ [y]).map .d by simp, froz_ld]
theorem asked_ok (z : Int) : ∃ as, F__law_asked [.pm (pool z)] = some (.d (.bl true), as) := by
  suffices h : Op (F__law_asked [.pm (pool z)]) fun r => r.1 = .d (.bl true) by
    obtain ⟨⟨v, as⟩, h1, rfl⟩ := h
    exact ⟨as, h1⟩
  refine fn_run rfl ?_
  unfold m__law_asked
  simp only [ev_ret, ev_opt, ev_bnd, ev_frz, ev_up, ev_var, ev_mov, varp_d, varp_w, movp_d, movp_w, ev_c, ev_e1, ev_e2, ev_eL, ev_anil, ev_acons, ev_onil, ev_ocons, ev_tup, ev_lst, ev_asB, ev_not, ev_or, ev_and, ev_eIf, ev_vB, ev_vAnd, ev_vOr, ev_vNot, ev_e3c, ex_bl, blp_bl, op_some, op_map, op_gI, op_gI0, op_gEqI, op_gNeI, op_isN, op_len, op_lenF, op_lenT, op_int, op_abs, op_max2, op_min2, op_divmod, op_list, op_neg, op_ixL, op_ixF, op_ixT, atI_0, atI_1, atI_2, ev_call, ev_meth, ex_ins, ev_make, ev_callO, ev_fld, flds_d, flds_w, flds_pm, ev_bor, ev_borT, ev_cut, ev_pInt, ex_int, op_cutL, ev_lstR, ev_iSeq, ex_lst, ex_frl, ev_iTp, ex_tup, ev_rg1, ex_int1, ev_rg2, ex_int2, run_seq, run_next, run_brk, run_cont, run_never, run_retN, run_ret, run_expr, run_if, run_set, run_tg, op_gNm, op_gTp, op_gNil, op_gCons, run_par, ex_two, run_fldS, ex_o, ex_l, run_setIx, run_for, ev_lc, op_stAt, stp_any, free_un, free_d, free_w, mk_d, mk_l, mk_o, divOk_iff, modOk_iff, powOk_iff, own_d, own_w, own_pm, own_s, seto_w, seto_pm, seto_s, op_backs_pm, op_backs_d, op_backs_nil, froz_ld, froz_d, froz_o, List.getElem?_cons_zero, List.getElem?_cons_succ, List.set_cons_zero, List.set_cons_succ, List.map_cons, List.map_nil, sfrz_un, sfrz_d, sfrz_w, sfrz_pm, flat_bl, flat_int, flat_non, flat_str, isN_non, isN_int, isN_bl, isN_str, isN_tup, isN_lst, isN_ins, decide_eq_true_eq, decide_eq_false_iff_not, Bool.not_eq_true', Bool.not_eq_false', true_and, and_true, forall_const, implies_true, false_implies, true_implies, forall_eq, Bool.false_eq_true, Bool.true_eq_false, if_true, if_false, reduceCtorEq, imp_self, List.cons_append, List.nil_append, List.replicate_succ, List.replicate_zero, Nat.reduceSub, Nat.reduceAdd, ne_eq, not_true_eq_false, not_false_eq_true, ex_pm, ex_mk, put0, put1, put2, put3, put4, put5, run_appP, op_qNm, qnp_d, op_catI, froz_il, op_gEqL, op_gNeL, op_gEqL0, op_gNeL0, op_gInL, op_gNinL, op_sorted, op_sum, op_lenSet, isi_int, isi_bl, isi_lst, isi_tup, isi_non, kit_ii, kit_ib, kit_bb, kit_bi, kit_ll, kit_tt, kit_il, kit_it, kit_lt, kit_tl, op_clr, op_clr0, clp_any, loc_un, loc_d, rst_cons, rst_nil, rstS_some, intL_rng, Bool.not_true, Bool.not_false, Int.sub_zero, op_gEqB]
  rw [ev_callR rfl]
  simp only [ev_ret, ev_opt, ev_bnd, ev_frz, ev_up, ev_var, ev_mov, varp_d, varp_w, movp_d, movp_w, ev_c, ev_e1, ev_e2, ev_eL, ev_anil, ev_acons, ev_onil, ev_ocons, ev_tup, ev_lst, ev_asB, ev_not, ev_or, ev_and, ev_eIf, ev_vB, ev_vAnd, ev_vOr, ev_vNot, ev_e3c, ex_bl, blp_bl, op_some, op_map, op_gI, op_gI0, op_gEqI, op_gNeI, op_isN, op_len, op_lenF, op_lenT, op_int, op_abs, op_max2, op_min2, op_divmod, op_list, op_neg, op_ixL, op_ixF, op_ixT, atI_0, atI_1, atI_2, ev_call, ev_meth, ex_ins, ev_make, ev_callO, ev_fld, flds_d, flds_w, flds_pm, ev_bor, ev_borT, ev_cut, ev_pInt, ex_int, op_cutL, ev_lstR, ev_iSeq, ex_lst, ex_frl, ev_iTp, ex_tup, ev_rg1, ex_int1, ev_rg2, ex_int2, run_seq, run_next, run_brk, run_cont, run_never, run_retN, run_ret, run_expr, run_if, run_set, run_tg, op_gNm, op_gTp, op_gNil, op_gCons, run_par, ex_two, run_fldS, ex_o, ex_l, run_setIx, run_for, ev_lc, op_stAt, stp_any, free_un, free_d, free_w, mk_d, mk_l, mk_o, divOk_iff, modOk_iff, powOk_iff, own_d, own_w, own_pm, own_s, seto_w, seto_pm, seto_s, op_backs_pm, op_backs_d, op_backs_nil, froz_ld, froz_d, froz_o, List.getElem?_cons_zero, List.getElem?_cons_succ, List.set_cons_zero, List.set_cons_succ, List.map_cons, List.map_nil, sfrz_un, sfrz_d, sfrz_w, sfrz_pm, flat_bl, flat_int, flat_non, flat_str, isN_non, isN_int, isN_bl, isN_str, isN_tup, isN_lst, isN_ins, decide_eq_true_eq, decide_eq_false_iff_not, Bool.not_eq_true', Bool.not_eq_false', true_and, and_true, forall_const, implies_true, false_implies, true_implies, forall_eq, Bool.false_eq_true, Bool.true_eq_false, if_true, if_false, reduceCtorEq, imp_self, List.cons_append, List.nil_append, List.replicate_succ, List.replicate_zero, Nat.reduceSub, Nat.reduceAdd, ne_eq, not_true_eq_false, not_false_eq_true, ex_pm, ex_mk, put0, put1, put2, put3, put4, put5, run_appP, op_qNm, qnp_d, op_catI, froz_il, op_gEqL, op_gNeL, op_gEqL0, op_gNeL0, op_gInL, op_gNinL, op_sorted, op_sum, op_lenSet, isi_int, isi_bl, isi_lst, isi_tup, isi_non, kit_ii, kit_ib, kit_bb, kit_bi, kit_ll, kit_tt, kit_il, kit_it, kit_lt, kit_tl, op_clr, op_clr0, clp_any, loc_un, loc_d, rst_cons, rst_nil, rstS_some, intL_rng, Bool.not_true, Bool.not_false, Int.sub_zero, op_gEqB, take_ok z (n := 10) (by decide) (by decide)]
  have hm := md (z := z) (n := 10) (by decide)
  generalize hmm : 1 + z % 10 = m at *
  have hm1 : 1 ≤ m ∧ m ≤ 10 := by omega
  have hd : 1 ≤ 10 / m ∧ m * (10 / m) ≤ 10 := by
    have e := Int.emod_add_mul_ediv 10 m
    have := Int.emod_nonneg 10 (show m ≠ 0 by omega)
    refine ⟨?_, by omega⟩
    exact (Int.le_ediv_iff_mul_le (by omega)).mpr (by omega)
  rw [ev_callR rfl]
  simp only [ev_ret, ev_opt, ev_bnd, ev_frz, ev_up, ev_var, ev_mov, varp_d, varp_w, movp_d, movp_w, ev_c, ev_e1, ev_e2, ev_eL, ev_anil, ev_acons, ev_onil, ev_ocons, ev_tup, ev_lst, ev_asB, ev_not, ev_or, ev_and, ev_eIf, ev_vB, ev_vAnd, ev_vOr, ev_vNot, ev_e3c, ex_bl, blp_bl, op_some, op_map, op_gI, op_gI0, op_gEqI, op_gNeI, op_isN, op_len, op_lenF, op_lenT, op_int, op_abs, op_max2, op_min2, op_divmod, op_list, op_neg, op_ixL, op_ixF, op_ixT, atI_0, atI_1, atI_2, ev_call, ev_meth, ex_ins, ev_make, ev_callO, ev_fld, flds_d, flds_w, flds_pm, ev_bor, ev_borT, ev_cut, ev_pInt, ex_int, op_cutL, ev_lstR, ev_iSeq, ex_lst, ex_frl, ev_iTp, ex_tup, ev_rg1, ex_int1, ev_rg2, ex_int2, run_seq, run_next, run_brk, run_cont, run_never, run_retN, run_ret, run_expr, run_if, run_set, run_tg, op_gNm, op_gTp, op_gNil, op_gCons, run_par, ex_two, run_fldS, ex_o, ex_l, run_setIx, run_for, ev_lc, op_stAt, stp_any, free_un, free_d, free_w, mk_d, mk_l, mk_o, divOk_iff, modOk_iff, powOk_iff, own_d, own_w, own_pm, own_s, seto_w, seto_pm, seto_s, op_backs_pm, op_backs_d, op_backs_nil, froz_ld, froz_d, froz_o, List.getElem?_cons_zero, List.getElem?_cons_succ, List.set_cons_zero, List.set_cons_succ, List.map_cons, List.map_nil, sfrz_un, sfrz_d, sfrz_w, sfrz_pm, flat_bl, flat_int, flat_non, flat_str, isN_non, isN_int, isN_bl, isN_str, isN_tup, isN_lst, isN_ins, decide_eq_true_eq, decide_eq_false_iff_not, Bool.not_eq_true', Bool.not_eq_false', true_and, and_true, forall_const, implies_true, false_implies, true_implies, forall_eq, Bool.false_eq_true, Bool.true_eq_false, if_true, if_false, reduceCtorEq, imp_self, List.cons_append, List.nil_append, List.replicate_succ, List.replicate_zero, Nat.reduceSub, Nat.reduceAdd, ne_eq, not_true_eq_false, not_false_eq_true, ex_pm, ex_mk, put0, put1, put2, put3, put4, put5, run_appP, op_qNm, qnp_d, op_catI, froz_il, op_gEqL, op_gNeL, op_gEqL0, op_gNeL0, op_gInL, op_gNinL, op_sorted, op_sum, op_lenSet, isi_int, isi_bl, isi_lst, isi_tup, isi_non, kit_ii, kit_ib, kit_bb, kit_bi, kit_ll, kit_tt, kit_il, kit_it, kit_lt, kit_tl, op_clr, op_clr0, clp_any, loc_un, loc_d, rst_cons, rst_nil, rstS_some, intL_rng, Bool.not_true, Bool.not_false, Int.sub_zero, op_gEqB, show 0 < m by omega, lg9000 (show m.natAbs < 2 ^ 400 by omega), take_ok (z / 10) (n := 10 / m) (by omega) (by
    have := Int.ediv_le_self m (show 0 ≤ (10 : Int) by decide)
    have : 10 / m ≤ 10 := Int.ediv_le_self _ (by decide)
    omega)]
  have hk := md (z := z / 10) (n := 10 / m) (by omega)
  generalize hkk : 1 + z / 10 % (10 / m) = k at *
  have hk1 : 1 ≤ k ∧ k ≤ 10 / m := by omega
  have hN : m * k ≤ 10 := by
    have := Int.mul_le_mul_of_nonneg_left hk1.2 (show 0 ≤ m by omega)
    omega
  have hk10 : k ≤ 10 := by
    have := Int.mul_le_mul_of_nonneg_right hm1.1 (show 0 ≤ k by omega)
    omega
  refine ⟨mo200 (by omega) (by omega), ?_⟩
  obtain ⟨o, z1, ho, r1⟩ := rule_ok (z / 10 / (10 / m))
  rw [ev_callR rfl]
  simp only [ev_ret, ev_opt, ev_bnd, ev_frz, ev_up, ev_var, ev_mov, varp_d, varp_w, movp_d, movp_w, ev_c, ev_e1, ev_e2, ev_eL, ev_anil, ev_acons, ev_onil, ev_ocons, ev_tup, ev_lst, ev_asB, ev_not, ev_or, ev_and, ev_eIf, ev_vB, ev_vAnd, ev_vOr, ev_vNot, ev_e3c, ex_bl, blp_bl, op_some, op_map, op_gI, op_gI0, op_gEqI, op_gNeI, op_isN, op_len, op_lenF, op_lenT, op_int, op_abs, op_max2, op_min2, op_divmod, op_list, op_neg, op_ixL, op_ixF, op_ixT, atI_0, atI_1, atI_2, ev_call, ev_meth, ex_ins, ev_make, ev_callO, ev_fld, flds_d, flds_w, flds_pm, ev_bor, ev_borT, ev_cut, ev_pInt, ex_int, op_cutL, ev_lstR, ev_iSeq, ex_lst, ex_frl, ev_iTp, ex_tup, ev_rg1, ex_int1, ev_rg2, ex_int2, run_seq, run_next, run_brk, run_cont, run_never, run_retN, run_ret, run_expr, run_if, run_set, run_tg, op_gNm, op_gTp, op_gNil, op_gCons, run_par, ex_two, run_fldS, ex_o, ex_l, run_setIx, run_for, ev_lc, op_stAt, stp_any, free_un, free_d, free_w, mk_d, mk_l, mk_o, divOk_iff, modOk_iff, powOk_iff, own_d, own_w, own_pm, own_s, seto_w, seto_pm, seto_s, op_backs_pm, op_backs_d, op_backs_nil, froz_ld, froz_d, froz_o, List.getElem?_cons_zero, List.getElem?_cons_succ, List.set_cons_zero, List.set_cons_succ, List.map_cons, List.map_nil, sfrz_un, sfrz_d, sfrz_w, sfrz_pm, flat_bl, flat_int, flat_non, flat_str, isN_non, isN_int, isN_bl, isN_str, isN_tup, isN_lst, isN_ins, decide_eq_true_eq, decide_eq_false_iff_not, Bool.not_eq_true', Bool.not_eq_false', true_and, and_true, forall_const, implies_true, false_implies, true_implies, forall_eq, Bool.false_eq_true, Bool.true_eq_false, if_true, if_false, reduceCtorEq, imp_self, List.cons_append, List.nil_append, List.replicate_succ, List.replicate_zero, Nat.reduceSub, Nat.reduceAdd, ne_eq, not_true_eq_false, not_false_eq_true, ex_pm, ex_mk, put0, put1, put2, put3, put4, put5, run_appP, op_qNm, qnp_d, op_catI, froz_il, op_gEqL, op_gNeL, op_gEqL0, op_gNeL0, op_gInL, op_gNinL, op_sorted, op_sum, op_lenSet, isi_int, isi_bl, isi_lst, isi_tup, isi_non, kit_ii, kit_ib, kit_bb, kit_bi, kit_ll, kit_tt, kit_il, kit_it, kit_lt, kit_tl, op_clr, op_clr0, clp_any, loc_un, loc_d, rst_cons, rst_nil, rstS_some, intL_rng, Bool.not_true, Bool.not_false, Int.sub_zero, op_gEqB, r1]
  obtain ⟨i, z2, hi, r2⟩ := rule_ok z1
  rw [ev_callR rfl]
  simp only [ev_ret, ev_opt, ev_bnd, ev_frz, ev_up, ev_var, ev_mov, varp_d, varp_w, movp_d, movp_w, ev_c, ev_e1, ev_e2, ev_eL, ev_anil, ev_acons, ev_onil, ev_ocons, ev_tup, ev_lst, ev_asB, ev_not, ev_or, ev_and, ev_eIf, ev_vB, ev_vAnd, ev_vOr, ev_vNot, ev_e3c, ex_bl, blp_bl, op_some, op_map, op_gI, op_gI0, op_gEqI, op_gNeI, op_isN, op_len, op_lenF, op_lenT, op_int, op_abs, op_max2, op_min2, op_divmod, op_list, op_neg, op_ixL, op_ixF, op_ixT, atI_0, atI_1, atI_2, ev_call, ev_meth, ex_ins, ev_make, ev_callO, ev_fld, flds_d, flds_w, flds_pm, ev_bor, ev_borT, ev_cut, ev_pInt, ex_int, op_cutL, ev_lstR, ev_iSeq, ex_lst, ex_frl, ev_iTp, ex_tup, ev_rg1, ex_int1, ev_rg2, ex_int2, run_seq, run_next, run_brk, run_cont, run_never, run_retN, run_ret, run_expr, run_if, run_set, run_tg, op_gNm, op_gTp, op_gNil, op_gCons, run_par, ex_two, run_fldS, ex_o, ex_l, run_setIx, run_for, ev_lc, op_stAt, stp_any, free_un, free_d, free_w, mk_d, mk_l, mk_o, divOk_iff, modOk_iff, powOk_iff, own_d, own_w, own_pm, own_s, seto_w, seto_pm, seto_s, op_backs_pm, op_backs_d, op_backs_nil, froz_ld, froz_d, froz_o, List.getElem?_cons_zero, List.getElem?_cons_succ, List.set_cons_zero, List.set_cons_succ, List.map_cons, List.map_nil, sfrz_un, sfrz_d, sfrz_w, sfrz_pm, flat_bl, flat_int, flat_non, flat_str, isN_non, isN_int, isN_bl, isN_str, isN_tup, isN_lst, isN_ins, decide_eq_true_eq, decide_eq_false_iff_not, Bool.not_eq_true', Bool.not_eq_false', true_and, and_true, forall_const, implies_true, false_implies, true_implies, forall_eq, Bool.false_eq_true, Bool.true_eq_false, if_true, if_false, reduceCtorEq, imp_self, List.cons_append, List.nil_append, List.replicate_succ, List.replicate_zero, Nat.reduceSub, Nat.reduceAdd, ne_eq, not_true_eq_false, not_false_eq_true, ex_pm, ex_mk, put0, put1, put2, put3, put4, put5, run_appP, op_qNm, qnp_d, op_catI, froz_il, op_gEqL, op_gNeL, op_gEqL0, op_gNeL0, op_gInL, op_gNinL, op_sorted, op_sum, op_lenSet, isi_int, isi_bl, isi_lst, isi_tup, isi_non, kit_ii, kit_ib, kit_bb, kit_bi, kit_ll, kit_tt, kit_il, kit_it, kit_lt, kit_tl, op_clr, op_clr0, clp_any, loc_un, loc_d, rst_cons, rst_nil, rstS_some, intL_rng, Bool.not_true, Bool.not_false, Int.sub_zero, op_gEqB, r2, mk_joined ⟨o, m, i, k⟩ hm1.1 hk1.1]
  obtain ⟨o', z3, ho', r3⟩ := rule_ok z2
  rw [ev_callR rfl]
  simp only [ev_ret, ev_opt, ev_bnd, ev_frz, ev_up, ev_var, ev_mov, varp_d, varp_w, movp_d, movp_w, ev_c, ev_e1, ev_e2, ev_eL, ev_anil, ev_acons, ev_onil, ev_ocons, ev_tup, ev_lst, ev_asB, ev_not, ev_or, ev_and, ev_eIf, ev_vB, ev_vAnd, ev_vOr, ev_vNot, ev_e3c, ex_bl, blp_bl, op_some, op_map, op_gI, op_gI0, op_gEqI, op_gNeI, op_isN, op_len, op_lenF, op_lenT, op_int, op_abs, op_max2, op_min2, op_divmod, op_list, op_neg, op_ixL, op_ixF, op_ixT, atI_0, atI_1, atI_2, ev_call, ev_meth, ex_ins, ev_make, ev_callO, ev_fld, flds_d, flds_w, flds_pm, ev_bor, ev_borT, ev_cut, ev_pInt, ex_int, op_cutL, ev_lstR, ev_iSeq, ex_lst, ex_frl, ev_iTp, ex_tup, ev_rg1, ex_int1, ev_rg2, ex_int2, run_seq, run_next, run_brk, run_cont, run_never, run_retN, run_ret, run_expr, run_if, run_set, run_tg, op_gNm, op_gTp, op_gNil, op_gCons, run_par, ex_two, run_fldS, ex_o, ex_l, run_setIx, run_for, ev_lc, op_stAt, stp_any, free_un, free_d, free_w, mk_d, mk_l, mk_o, divOk_iff, modOk_iff, powOk_iff, own_d, own_w, own_pm, own_s, seto_w, seto_pm, seto_s, op_backs_pm, op_backs_d, op_backs_nil, froz_ld, froz_d, froz_o, List.getElem?_cons_zero, List.getElem?_cons_succ, List.set_cons_zero, List.set_cons_succ, List.map_cons, List.map_nil, sfrz_un, sfrz_d, sfrz_w, sfrz_pm, flat_bl, flat_int, flat_non, flat_str, isN_non, isN_int, isN_bl, isN_str, isN_tup, isN_lst, isN_ins, decide_eq_true_eq, decide_eq_false_iff_not, Bool.not_eq_true', Bool.not_eq_false', true_and, and_true, forall_const, implies_true, false_implies, true_implies, forall_eq, Bool.false_eq_true, Bool.true_eq_false, if_true, if_false, reduceCtorEq, imp_self, List.cons_append, List.nil_append, List.replicate_succ, List.replicate_zero, Nat.reduceSub, Nat.reduceAdd, ne_eq, not_true_eq_false, not_false_eq_true, ex_pm, ex_mk, put0, put1, put2, put3, put4, put5, run_appP, op_qNm, qnp_d, op_catI, froz_il, op_gEqL, op_gNeL, op_gEqL0, op_gNeL0, op_gInL, op_gNinL, op_sorted, op_sum, op_lenSet, isi_int, isi_bl, isi_lst, isi_tup, isi_non, kit_ii, kit_ib, kit_bb, kit_bi, kit_ll, kit_tt, kit_il, kit_it, kit_lt, kit_tl, op_clr, op_clr0, clp_any, loc_un, loc_d, rst_cons, rst_nil, rstS_some, intL_rng, Bool.not_true, Bool.not_false, Int.sub_zero, op_gEqB, r3]
  obtain ⟨i', z4, hi', r4⟩ := rule_ok z3
  rw [ev_callR rfl]
  simp only [ev_ret, ev_opt, ev_bnd, ev_frz, ev_up, ev_var, ev_mov, varp_d, varp_w, movp_d, movp_w, ev_c, ev_e1, ev_e2, ev_eL, ev_anil, ev_acons, ev_onil, ev_ocons, ev_tup, ev_lst, ev_asB, ev_not, ev_or, ev_and, ev_eIf, ev_vB, ev_vAnd, ev_vOr, ev_vNot, ev_e3c, ex_bl, blp_bl, op_some, op_map, op_gI, op_gI0, op_gEqI, op_gNeI, op_isN, op_len, op_lenF, op_lenT, op_int, op_abs, op_max2, op_min2, op_divmod, op_list, op_neg, op_ixL, op_ixF, op_ixT, atI_0, atI_1, atI_2, ev_call, ev_meth, ex_ins, ev_make, ev_callO, ev_fld, flds_d, flds_w, flds_pm, ev_bor, ev_borT, ev_cut, ev_pInt, ex_int, op_cutL, ev_lstR, ev_iSeq, ex_lst, ex_frl, ev_iTp, ex_tup, ev_rg1, ex_int1, ev_rg2, ex_int2, run_seq, run_next, run_brk, run_cont, run_never, run_retN, run_ret, run_expr, run_if, run_set, run_tg, op_gNm, op_gTp, op_gNil, op_gCons, run_par, ex_two, run_fldS, ex_o, ex_l, run_setIx, run_for, ev_lc, op_stAt, stp_any, free_un, free_d, free_w, mk_d, mk_l, mk_o, divOk_iff, modOk_iff, powOk_iff, own_d, own_w, own_pm, own_s, seto_w, seto_pm, seto_s, op_backs_pm, op_backs_d, op_backs_nil, froz_ld, froz_d, froz_o, List.getElem?_cons_zero, List.getElem?_cons_succ, List.set_cons_zero, List.set_cons_succ, List.map_cons, List.map_nil, sfrz_un, sfrz_d, sfrz_w, sfrz_pm, flat_bl, flat_int, flat_non, flat_str, isN_non, isN_int, isN_bl, isN_str, isN_tup, isN_lst, isN_ins, decide_eq_true_eq, decide_eq_false_iff_not, Bool.not_eq_true', Bool.not_eq_false', true_and, and_true, forall_const, implies_true, false_implies, true_implies, forall_eq, Bool.false_eq_true, Bool.true_eq_false, if_true, if_false, reduceCtorEq, imp_self, List.cons_append, List.nil_append, List.replicate_succ, List.replicate_zero, Nat.reduceSub, Nat.reduceAdd, ne_eq, not_true_eq_false, not_false_eq_true, ex_pm, ex_mk, put0, put1, put2, put3, put4, put5, run_appP, op_qNm, qnp_d, op_catI, froz_il, op_gEqL, op_gNeL, op_gEqL0, op_gNeL0, op_gInL, op_gNinL, op_sorted, op_sum, op_lenSet, isi_int, isi_bl, isi_lst, isi_tup, isi_non, kit_ii, kit_ib, kit_bb, kit_bi, kit_ll, kit_tt, kit_il, kit_it, kit_lt, kit_tl, op_clr, op_clr0, clp_any, loc_un, loc_d, rst_cons, rst_nil, rstS_some, intL_rng, Bool.not_true, Bool.not_false, Int.sub_zero, op_gEqB, r4, mk_joined ⟨o', m, i', k⟩ hm1.1 hk1.1]
  obtain ⟨q, hq, e1, e2, e3, e4⟩ : ∃ q : J, q = ⟨o, m, i, k⟩ ∧ q.o = o ∧ q.m = m ∧ q.i = i ∧ q.k = k := ⟨_, rfl, rfl, rfl, rfl, rfl⟩
  obtain ⟨p, hp, f1, f2, f3, f4⟩ : ∃ p : J, p = ⟨o', m, i', k⟩ ∧ p.o = o' ∧ p.m = m ∧ p.i = i' ∧ p.k = k := ⟨_, rfl, rfl, rfl, rfl, rfl⟩
  have hQ : q.Ok := by subst hq; exact ⟨hm1.1, hk1.1, hN, ho, hi⟩
  have hP : p.Ok := by subst hp; exact ⟨hm1.1, hk1.1, hN, ho', hi'⟩
  have em : q.m = p.m := e2.trans f2.symm
  have ek : q.k = p.k := e4.trans f4.symm
  have dq : (Dt.ins "Joined" [.ins "Rule" [.int o.a, .int o.b, .int o.d], .int m, .ins "Rule" [.int i.a, .int i.b, .int i.d], .int k]) = q.dt := by rw [hq]
  have dp : (Dt.ins "Joined" [.ins "Rule" [.int o'.a, .int o'.b, .int o'.d], .int m, .ins "Rule" [.int i'.a, .int i'.b, .int i'.d], .int k]) = p.dt := by rw [hp]
  have en : m * k = q.n := by rw [hq]
  have en' : p.n = q.n := by show p.m * p.k = q.m * q.k; rw [em, ek]
  have hn := hQ.n1
  have hL := lists_ok p hP
  rw [en'] at hL
  rw [dq, dp, en]
  clear dq dp
  simp only [ev_ret, ev_opt, ev_bnd, ev_frz, ev_up, ev_var, ev_mov, varp_d, varp_w, movp_d, movp_w, ev_c, ev_e1, ev_e2, ev_eL, ev_anil, ev_acons, ev_onil, ev_ocons, ev_tup, ev_lst, ev_asB, ev_not, ev_or, ev_and, ev_eIf, ev_vB, ev_vAnd, ev_vOr, ev_vNot, ev_e3c, ex_bl, blp_bl, op_some, op_map, op_gI, op_gI0, op_gEqI, op_gNeI, op_isN, op_len, op_lenF, op_lenT, op_int, op_abs, op_max2, op_min2, op_divmod, op_list, op_neg, op_ixL, op_ixF, op_ixT, atI_0, atI_1, atI_2, ev_call, ev_meth, ex_ins, ev_make, ev_callO, ev_fld, flds_d, flds_w, flds_pm, ev_bor, ev_borT, ev_cut, ev_pInt, ex_int, op_cutL, ev_lstR, ev_iSeq, ex_lst, ex_frl, ev_iTp, ex_tup, ev_rg1, ex_int1, ev_rg2, ex_int2, run_seq, run_next, run_brk, run_cont, run_never, run_retN, run_ret, run_expr, run_if, run_set, run_tg, op_gNm, op_gTp, op_gNil, op_gCons, run_par, ex_two, run_fldS, ex_o, ex_l, run_setIx, run_for, ev_lc, op_stAt, stp_any, free_un, free_d, free_w, mk_d, mk_l, mk_o, divOk_iff, modOk_iff, powOk_iff, own_d, own_w, own_pm, own_s, seto_w, seto_pm, seto_s, op_backs_pm, op_backs_d, op_backs_nil, froz_ld, froz_d, froz_o, List.getElem?_cons_zero, List.getElem?_cons_succ, List.set_cons_zero, List.set_cons_succ, List.map_cons, List.map_nil, sfrz_un, sfrz_d, sfrz_w, sfrz_pm, flat_bl, flat_int, flat_non, flat_str, isN_non, isN_int, isN_bl, isN_str, isN_tup, isN_lst, isN_ins, decide_eq_true_eq, decide_eq_false_iff_not, Bool.not_eq_true', Bool.not_eq_false', true_and, and_true, forall_const, implies_true, false_implies, true_implies, forall_eq, Bool.false_eq_true, Bool.true_eq_false, if_true, if_false, reduceCtorEq, imp_self, List.cons_append, List.nil_append, List.replicate_succ, List.replicate_zero, Nat.reduceSub, Nat.reduceAdd, ne_eq, not_true_eq_false, not_false_eq_true, ex_pm, ex_mk, put0, put1, put2, put3, put4, put5, run_appP, op_qNm, qnp_d, op_catI, froz_il, op_gEqL, op_gNeL, op_gEqL0, op_gNeL0, op_gInL, op_gNinL, op_sorted, op_sum, op_lenSet, isi_int, isi_bl, isi_lst, isi_tup, isi_non, kit_ii, kit_ib, kit_bb, kit_bi, kit_ll, kit_tt, kit_il, kit_it, kit_lt, kit_tl, op_clr, op_clr0, clp_any, loc_un, loc_d, rst_cons, rst_nil, rstS_some, intL_rng, Bool.not_true, Bool.not_false, Int.sub_zero, op_gEqB, lists_ok q hQ, hL, mk_ls, lsV_froz, sq_ls]
  refine lc_mapG (fun r => .l ((rng q.n).map fun s => .ld ((P q r s).map .int))) (sz' (by rw [rng_len]; omega)) ?_ ?_
  · intro r hr
    simp only [ev_ret, ev_opt, ev_bnd, ev_frz, ev_up, ev_var, ev_mov, varp_d, varp_w, movp_d, movp_w, ev_c, ev_e1, ev_e2, ev_eL, ev_anil, ev_acons, ev_onil, ev_ocons, ev_tup, ev_lst, ev_asB, ev_not, ev_or, ev_and, ev_eIf, ev_vB, ev_vAnd, ev_vOr, ev_vNot, ev_e3c, ex_bl, blp_bl, op_some, op_map, op_gI, op_gI0, op_gEqI, op_gNeI, op_isN, op_len, op_lenF, op_lenT, op_int, op_abs, op_max2, op_min2, op_divmod, op_list, op_neg, op_ixL, op_ixF, op_ixT, atI_0, atI_1, atI_2, ev_call, ev_meth, ex_ins, ev_make, ev_callO, ev_fld, flds_d, flds_w, flds_pm, ev_bor, ev_borT, ev_cut, ev_pInt, ex_int, op_cutL, ev_lstR, ev_iSeq, ex_lst, ex_frl, ev_iTp, ex_tup, ev_rg1, ex_int1, ev_rg2, ex_int2, run_seq, run_next, run_brk, run_cont, run_never, run_retN, run_ret, run_expr, run_if, run_set, run_tg, op_gNm, op_gTp, op_gNil, op_gCons, run_par, ex_two, run_fldS, ex_o, ex_l, run_setIx, run_for, ev_lc, op_stAt, stp_any, free_un, free_d, free_w, mk_d, mk_l, mk_o, divOk_iff, modOk_iff, powOk_iff, own_d, own_w, own_pm, own_s, seto_w, seto_pm, seto_s, op_backs_pm, op_backs_d, op_backs_nil, froz_ld, froz_d, froz_o, List.getElem?_cons_zero, List.getElem?_cons_succ, List.set_cons_zero, List.set_cons_succ, List.map_cons, List.map_nil, sfrz_un, sfrz_d, sfrz_w, sfrz_pm, flat_bl, flat_int, flat_non, flat_str, isN_non, isN_int, isN_bl, isN_str, isN_tup, isN_lst, isN_ins, decide_eq_true_eq, decide_eq_false_iff_not, Bool.not_eq_true', Bool.not_eq_false', true_and, and_true, forall_const, implies_true, false_implies, true_implies, forall_eq, Bool.false_eq_true, Bool.true_eq_false, if_true, if_false, reduceCtorEq, imp_self, List.cons_append, List.nil_append, List.replicate_succ, List.replicate_zero, Nat.reduceSub, Nat.reduceAdd, ne_eq, not_true_eq_false, not_false_eq_true, ex_pm, ex_mk, put0, put1, put2, put3, put4, put5, run_appP, op_qNm, qnp_d, op_catI, froz_il, op_gEqL, op_gNeL, op_gEqL0, op_gNeL0, op_gInL, op_gNinL, op_sorted, op_sum, op_lenSet, isi_int, isi_bl, isi_lst, isi_tup, isi_non, kit_ii, kit_ib, kit_bb, kit_bi, kit_ll, kit_tt, kit_il, kit_it, kit_lt, kit_tl, op_clr, op_clr0, clp_any, loc_un, loc_d, rst_cons, rst_nil, rstS_some, intL_rng, Bool.not_true, Bool.not_false, Int.sub_zero, op_gEqB]
    refine lc_mapG (fun s => .ld ((P q r s).map .int)) (sz' (by rw [rng_len]; omega)) ?_ ⟨rfl, rfl⟩
    intro s hs
    simp only [ev_ret, ev_opt, ev_bnd, ev_frz, ev_up, ev_var, ev_mov, varp_d, varp_w, movp_d, movp_w, ev_c, ev_e1, ev_e2, ev_eL, ev_anil, ev_acons, ev_onil, ev_ocons, ev_tup, ev_lst, ev_asB, ev_not, ev_or, ev_and, ev_eIf, ev_vB, ev_vAnd, ev_vOr, ev_vNot, ev_e3c, ex_bl, blp_bl, op_some, op_map, op_gI, op_gI0, op_gEqI, op_gNeI, op_isN, op_len, op_lenF, op_lenT, op_int, op_abs, op_max2, op_min2, op_divmod, op_list, op_neg, op_ixL, op_ixF, op_ixT, atI_0, atI_1, atI_2, ev_call, ev_meth, ex_ins, ev_make, ev_callO, ev_fld, flds_d, flds_w, flds_pm, ev_bor, ev_borT, ev_cut, ev_pInt, ex_int, op_cutL, ev_lstR, ev_iSeq, ex_lst, ex_frl, ev_iTp, ex_tup, ev_rg1, ex_int1, ev_rg2, ex_int2, run_seq, run_next, run_brk, run_cont, run_never, run_retN, run_ret, run_expr, run_if, run_set, run_tg, op_gNm, op_gTp, op_gNil, op_gCons, run_par, ex_two, run_fldS, ex_o, ex_l, run_setIx, run_for, ev_lc, op_stAt, stp_any, free_un, free_d, free_w, mk_d, mk_l, mk_o, divOk_iff, modOk_iff, powOk_iff, own_d, own_w, own_pm, own_s, seto_w, seto_pm, seto_s, op_backs_pm, op_backs_d, op_backs_nil, froz_ld, froz_d, froz_o, List.getElem?_cons_zero, List.getElem?_cons_succ, List.set_cons_zero, List.set_cons_succ, List.map_cons, List.map_nil, sfrz_un, sfrz_d, sfrz_w, sfrz_pm, flat_bl, flat_int, flat_non, flat_str, isN_non, isN_int, isN_bl, isN_str, isN_tup, isN_lst, isN_ins, decide_eq_true_eq, decide_eq_false_iff_not, Bool.not_eq_true', Bool.not_eq_false', true_and, and_true, forall_const, implies_true, false_implies, true_implies, forall_eq, Bool.false_eq_true, Bool.true_eq_false, if_true, if_false, reduceCtorEq, imp_self, List.cons_append, List.nil_append, List.replicate_succ, List.replicate_zero, Nat.reduceSub, Nat.reduceAdd, ne_eq, not_true_eq_false, not_false_eq_true, ex_pm, ex_mk, put0, put1, put2, put3, put4, put5, run_appP, op_qNm, qnp_d, op_catI, froz_il, op_gEqL, op_gNeL, op_gEqL0, op_gNeL0, op_gInL, op_gNinL, op_sorted, op_sum, op_lenSet, isi_int, isi_bl, isi_lst, isi_tup, isi_non, kit_ii, kit_ib, kit_bb, kit_bi, kit_ll, kit_tt, kit_il, kit_it, kit_lt, kit_tl, op_clr, op_clr0, clp_any, loc_un, loc_d, rst_cons, rst_nil, rstS_some, intL_rng, Bool.not_true, Bool.not_false, Int.sub_zero, op_gEqB]
  have hR := rows_ok p hP
  have hC := clear_ok hP
  rw [en'] at hR hC
  rw [show Vl.l ((rng q.n).map fun r => .l ((rng q.n).map fun s => .ld ((P q r s).map .int))) = lsV q from rfl]
  simp only [ev_ret, ev_opt, ev_bnd, ev_frz, ev_up, ev_var, ev_mov, varp_d, varp_w, movp_d, movp_w, ev_c, ev_e1, ev_e2, ev_eL, ev_anil, ev_acons, ev_onil, ev_ocons, ev_tup, ev_lst, ev_asB, ev_not, ev_or, ev_and, ev_eIf, ev_vB, ev_vAnd, ev_vOr, ev_vNot, ev_e3c, ex_bl, blp_bl, op_some, op_map, op_gI, op_gI0, op_gEqI, op_gNeI, op_isN, op_len, op_lenF, op_lenT, op_int, op_abs, op_max2, op_min2, op_divmod, op_list, op_neg, op_ixL, op_ixF, op_ixT, atI_0, atI_1, atI_2, ev_call, ev_meth, ex_ins, ev_make, ev_callO, ev_fld, flds_d, flds_w, flds_pm, ev_bor, ev_borT, ev_cut, ev_pInt, ex_int, op_cutL, ev_lstR, ev_iSeq, ex_lst, ex_frl, ev_iTp, ex_tup, ev_rg1, ex_int1, ev_rg2, ex_int2, run_seq, run_next, run_brk, run_cont, run_never, run_retN, run_ret, run_expr, run_if, run_set, run_tg, op_gNm, op_gTp, op_gNil, op_gCons, run_par, ex_two, run_fldS, ex_o, ex_l, run_setIx, run_for, ev_lc, op_stAt, stp_any, free_un, free_d, free_w, mk_d, mk_l, mk_o, divOk_iff, modOk_iff, powOk_iff, own_d, own_w, own_pm, own_s, seto_w, seto_pm, seto_s, op_backs_pm, op_backs_d, op_backs_nil, froz_ld, froz_d, froz_o, List.getElem?_cons_zero, List.getElem?_cons_succ, List.set_cons_zero, List.set_cons_succ, List.map_cons, List.map_nil, sfrz_un, sfrz_d, sfrz_w, sfrz_pm, flat_bl, flat_int, flat_non, flat_str, isN_non, isN_int, isN_bl, isN_str, isN_tup, isN_lst, isN_ins, decide_eq_true_eq, decide_eq_false_iff_not, Bool.not_eq_true', Bool.not_eq_false', true_and, and_true, forall_const, implies_true, false_implies, true_implies, forall_eq, Bool.false_eq_true, Bool.true_eq_false, if_true, if_false, reduceCtorEq, imp_self, List.cons_append, List.nil_append, List.replicate_succ, List.replicate_zero, Nat.reduceSub, Nat.reduceAdd, ne_eq, not_true_eq_false, not_false_eq_true, ex_pm, ex_mk, put0, put1, put2, put3, put4, put5, run_appP, op_qNm, qnp_d, op_catI, froz_il, op_gEqL, op_gNeL, op_gEqL0, op_gNeL0, op_gInL, op_gNinL, op_sorted, op_sum, op_lenSet, isi_int, isi_bl, isi_lst, isi_tup, isi_non, kit_ii, kit_ib, kit_bb, kit_bi, kit_ll, kit_tt, kit_il, kit_it, kit_lt, kit_tl, op_clr, op_clr0, clp_any, loc_un, loc_d, rst_cons, rst_nil, rstS_some, intL_rng, Bool.not_true, Bool.not_false, Int.sub_zero, op_gEqB, rows_ok q hQ, hR, clear_ok hQ, hC, pairs_ok hQ hP em ek, paired_qp hQ hP em ek, paired_pq hQ hP em ek, true_ok, lsV_froz]
  obtain ⟨X, Y, hXY⟩ := ls_cons (q := p) (by omega)
  rw [hXY]
  simp only [ev_ret, ev_opt, ev_bnd, ev_frz, ev_up, ev_var, ev_mov, varp_d, varp_w, movp_d, movp_w, ev_c, ev_e1, ev_e2, ev_eL, ev_anil, ev_acons, ev_onil, ev_ocons, ev_tup, ev_lst, ev_asB, ev_not, ev_or, ev_and, ev_eIf, ev_vB, ev_vAnd, ev_vOr, ev_vNot, ev_e3c, ex_bl, blp_bl, op_some, op_map, op_gI, op_gI0, op_gEqI, op_gNeI, op_isN, op_len, op_lenF, op_lenT, op_int, op_abs, op_max2, op_min2, op_divmod, op_list, op_neg, op_ixL, op_ixF, op_ixT, atI_0, atI_1, atI_2, ev_call, ev_meth, ex_ins, ev_make, ev_callO, ev_fld, flds_d, flds_w, flds_pm, ev_bor, ev_borT, ev_cut, ev_pInt, ex_int, op_cutL, ev_lstR, ev_iSeq, ex_lst, ex_frl, ev_iTp, ex_tup, ev_rg1, ex_int1, ev_rg2, ex_int2, run_seq, run_next, run_brk, run_cont, run_never, run_retN, run_ret, run_expr, run_if, run_set, run_tg, op_gNm, op_gTp, op_gNil, op_gCons, run_par, ex_two, run_fldS, ex_o, ex_l, run_setIx, run_for, ev_lc, op_stAt, stp_any, free_un, free_d, free_w, mk_d, mk_l, mk_o, divOk_iff, modOk_iff, powOk_iff, own_d, own_w, own_pm, own_s, seto_w, seto_pm, seto_s, op_backs_pm, op_backs_d, op_backs_nil, froz_ld, froz_d, froz_o, List.getElem?_cons_zero, List.getElem?_cons_succ, List.set_cons_zero, List.set_cons_succ, List.map_cons, List.map_nil, sfrz_un, sfrz_d, sfrz_w, sfrz_pm, flat_bl, flat_int, flat_non, flat_str, isN_non, isN_int, isN_bl, isN_str, isN_tup, isN_lst, isN_ins, decide_eq_true_eq, decide_eq_false_iff_not, Bool.not_eq_true', Bool.not_eq_false', true_and, and_true, forall_const, implies_true, false_implies, true_implies, forall_eq, Bool.false_eq_true, Bool.true_eq_false, if_true, if_false, reduceCtorEq, imp_self, List.cons_append, List.nil_append, List.replicate_succ, List.replicate_zero, Nat.reduceSub, Nat.reduceAdd, ne_eq, not_true_eq_false, not_false_eq_true, ex_pm, ex_mk, put0, put1, put2, put3, put4, put5, run_appP, op_qNm, qnp_d, op_catI, froz_il, op_gEqL, op_gNeL, op_gEqL0, op_gNeL0, op_gInL, op_gNinL, op_sorted, op_sum, op_lenSet, isi_int, isi_bl, isi_lst, isi_tup, isi_non, kit_ii, kit_ib, kit_bb, kit_bi, kit_ll, kit_tt, kit_il, kit_it, kit_lt, kit_tl, op_clr, op_clr0, clp_any, loc_un, loc_d, rst_cons, rst_nil, rstS_some, intL_rng, Bool.not_true, Bool.not_false, Int.sub_zero, op_gEqB, get00, set00, froz00, op_gEqR (sh_ls q), lists_ok q hQ, lsV_froz, place_ok p hP 0 0 (by decide) hP.n1.1 (by decide) hP.n1.1, froz_app1, cut_last]
  have := P_len hP 0 0
  simp only [List.length_map]
  exact ⟨sz (by omega), by simp⟩
theorem sq_bound {x : Int} (h0 : 0 ≤ x) (h1 : x < 2 ^ 61) : mulOk x (x + 48271) = true := mo200 (by omega) (by omega)
theorem pool_loop (fr k cell : Dt) (kk part : Int) (hk : k = .int kk) (hk0 : 0 ≤ kk) (hk3 : kk ≤ 3) (h0 : 0 ≤ part) (h1 : part < 2 ^ 61) (s5 : Sl) (f5 : s5.free) (Q : Out → Prop) (hQ : ∀ z s3 s5, Q (.nx [.d fr, .d k, .d cell, s3, .d (.int z), s5])) :
    Run (forF (gNm 5) (sSeq (sSet 3 (e2 gMod (frz (eL gInt (aCons (frz (e2 gAdd (frz (e2 gAdd (frz (e2 gAdd (frz (e2 gMul (eVar 3) (frz (e2 gAdd (eVar 3) (eC (.int 48271)))))) (frz (e2 gMul (eC (.int 69621)) (eVar 5))))) (frz (e2 gMul (eC (.int 40692)) (eVar 1))))) (eC (.int 3)))) aNil))) (eC (.int 2147483629))))
      (sSet 4 (e2 gAdd (frz (e2 gMul (eVar 4) (eC (.int 2147483629)))) (eVar 3)))) ((rng 24).map .int)) [.d fr, .d k, .d cell, .d (.int part), .d (.int 0), s5] Q := by
  subst hk
  refine for_runG (fun pre e => ∃ (x b : Int) (s5 : Sl), 0 ≤ x ∧ x < 2 ^ 61 ∧ 0 ≤ b ∧ b < 2 ^ (31 * pre.length) ∧ s5.free ∧ e = [.d fr, .d (.int kk), .d cell, .d (.int x), .d (.int b), s5]) ⟨part, 0, s5, h0, h1, by decide, by decide, f5, rfl⟩ ?_ ?_
  · rintro pre t post e hsp ⟨x, b, s5, x0, x1, b0, b1, f5, rfl⟩
    have ht := mem_rng.mp (show t ∈ rng 24 by rw [hsp]; simp)
    have hl : pre.length < 24 := by
      have := congrArg List.length hsp
      rw [rng_len, List.length_append, List.length_cons] at this
      have : (24 : Int).toNat = 24 := rfl
      omega
    have hb : b < 2 ^ 744 := Int.lt_of_lt_of_le b1 (by
      have := Nat.pow_le_pow_right (n := 2) (by decide) (show 31 * pre.length ≤ 744 by omega)
      exact_mod_cast this)
    have hbm : mulOk b 2147483629 = true := sm_mul (Nat.lt_of_lt_of_le (show b.natAbs < 2 ^ 745 by omega) (Nat.pow_le_pow_right (by decide) (by decide))) (by decide)
    simp only [ev_ret, ev_opt, ev_bnd, ev_frz, ev_up, ev_var, ev_mov, varp_d, varp_w, movp_d, movp_w, ev_c, ev_e1, ev_e2, ev_eL, ev_anil, ev_acons, ev_onil, ev_ocons, ev_tup, ev_lst, ev_asB, ev_not, ev_or, ev_and, ev_eIf, ev_vB, ev_vAnd, ev_vOr, ev_vNot, ev_e3c, ex_bl, blp_bl, op_some, op_map, op_gI, op_gI0, op_gEqI, op_gNeI, op_isN, op_len, op_lenF, op_lenT, op_int, op_abs, op_max2, op_min2, op_divmod, op_list, op_neg, op_ixL, op_ixF, op_ixT, atI_0, atI_1, atI_2, ev_call, ev_meth, ex_ins, ev_make, ev_callO, ev_fld, flds_d, flds_w, flds_pm, ev_bor, ev_borT, ev_cut, ev_pInt, ex_int, op_cutL, ev_lstR, ev_iSeq, ex_lst, ex_frl, ev_iTp, ex_tup, ev_rg1, ex_int1, ev_rg2, ex_int2, run_seq, run_next, run_brk, run_cont, run_never, run_retN, run_ret, run_expr, run_if, run_set, run_tg, op_gNm, op_gTp, op_gNil, op_gCons, run_par, ex_two, run_fldS, ex_o, ex_l, run_setIx, run_for, ev_lc, op_stAt, stp_any, free_un, free_d, free_w, mk_d, mk_l, mk_o, divOk_iff, modOk_iff, powOk_iff, own_d, own_w, own_pm, own_s, seto_w, seto_pm, seto_s, op_backs_pm, op_backs_d, op_backs_nil, froz_ld, froz_d, froz_o, List.getElem?_cons_zero, List.getElem?_cons_succ, List.set_cons_zero, List.set_cons_succ, List.map_cons, List.map_nil, sfrz_un, sfrz_d, sfrz_w, sfrz_pm, flat_bl, flat_int, flat_non, flat_str, isN_non, isN_int, isN_bl, isN_str, isN_tup, isN_lst, isN_ins, decide_eq_true_eq, decide_eq_false_iff_not, Bool.not_eq_true', Bool.not_eq_false', true_and, and_true, forall_const, implies_true, false_implies, true_implies, forall_eq, Bool.false_eq_true, Bool.true_eq_false, if_true, if_false, reduceCtorEq, imp_self, List.cons_append, List.nil_append, List.replicate_succ, List.replicate_zero, Nat.reduceSub, Nat.reduceAdd, ne_eq, not_true_eq_false, not_false_eq_true, ex_pm, ex_mk, put0, put1, put2, put3, put4, put5, run_appP, op_qNm, qnp_d, op_catI, froz_il, op_gEqL, op_gNeL, op_gEqL0, op_gNeL0, op_gInL, op_gNinL, op_sorted, op_sum, op_lenSet, isi_int, isi_bl, isi_lst, isi_tup, isi_non, kit_ii, kit_ib, kit_bb, kit_bi, kit_ll, kit_tt, kit_il, kit_it, kit_lt, kit_tl, op_clr, op_clr0, clp_any, loc_un, loc_d, rst_cons, rst_nil, rstS_some, intL_rng, Bool.not_true, Bool.not_false, Int.sub_zero, op_gEqB, f5, sq_bound x0 x1, mo200 (x := 69621) (y := t) (by decide) (by omega), mo200 (x := 40692) (y := kk) (by decide) (by omega), hbm]
    have hm := md (z := x * (x + 48271) + 69621 * t + 40692 * kk + 3) (n := 2147483629) (by decide)
    generalize (x * (x + 48271) + 69621 * t + 40692 * kk + 3) % 2147483629 = y at *
    refine ⟨by decide, y, b * 2147483629 + y, .d (.int t), hm.1, by omega, by omega, ?_, trivial, rfl⟩
    rw [List.length_append, List.length_singleton, Nat.mul_add, Int.pow_add]
    have : (2 : Int) ^ (31 * 1) = 2147483648 := by decide
    rw [this]
    generalize (2 : Int) ^ (31 * pre.length) = w at *
    omega
  · rintro e ⟨x, b, s5, _, _, _, _, _, rfl⟩
    exact hQ _ _ _
theorem pool_ok (ns : List Int) (k : Int) (hk : 0 ≤ k) (hk3 : k ≤ 3) : ∃ z, F__law_pool.app [.frl (ns.map .int), .int k] = some (pool z) := by
  suffices h : Op (F__law_pool.app [.frl (ns.map .int), .int k]) fun v => ∃ z, v = pool z by
    obtain ⟨v, h1, z, rfl⟩ := h
    exact ⟨z, h1⟩
  rw [op_app]
  refine fn_run rfl ?_
  unfold m__law_pool
  simp only [ev_ret, ev_opt, ev_bnd, ev_frz, ev_up, ev_var, ev_mov, varp_d, varp_w, movp_d, movp_w, ev_c, ev_e1, ev_e2, ev_eL, ev_anil, ev_acons, ev_onil, ev_ocons, ev_tup, ev_lst, ev_asB, ev_not, ev_or, ev_and, ev_eIf, ev_vB, ev_vAnd, ev_vOr, ev_vNot, ev_e3c, ex_bl, blp_bl, op_some, op_map, op_gI, op_gI0, op_gEqI, op_gNeI, op_isN, op_len, op_lenF, op_lenT, op_int, op_abs, op_max2, op_min2, op_divmod, op_list, op_neg, op_ixL, op_ixF, op_ixT, atI_0, atI_1, atI_2, ev_call, ev_meth, ex_ins, ev_make, ev_callO, ev_fld, flds_d, flds_w, flds_pm, ev_bor, ev_borT, ev_cut, ev_pInt, ex_int, op_cutL, ev_lstR, ev_iSeq, ex_lst, ex_frl, ev_iTp, ex_tup, ev_rg1, ex_int1, ev_rg2, ex_int2, run_seq, run_next, run_brk, run_cont, run_never, run_retN, run_ret, run_expr, run_if, run_set, run_tg, op_gNm, op_gTp, op_gNil, op_gCons, run_par, ex_two, run_fldS, ex_o, ex_l, run_setIx, run_for, ev_lc, op_stAt, stp_any, free_un, free_d, free_w, mk_d, mk_l, mk_o, divOk_iff, modOk_iff, powOk_iff, own_d, own_w, own_pm, own_s, seto_w, seto_pm, seto_s, op_backs_pm, op_backs_d, op_backs_nil, froz_ld, froz_d, froz_o, List.getElem?_cons_zero, List.getElem?_cons_succ, List.set_cons_zero, List.set_cons_succ, List.map_cons, List.map_nil, sfrz_un, sfrz_d, sfrz_w, sfrz_pm, flat_bl, flat_int, flat_non, flat_str, isN_non, isN_int, isN_bl, isN_str, isN_tup, isN_lst, isN_ins, decide_eq_true_eq, decide_eq_false_iff_not, Bool.not_eq_true', Bool.not_eq_false', true_and, and_true, forall_const, implies_true, false_implies, true_implies, forall_eq, Bool.false_eq_true, Bool.true_eq_false, if_true, if_false, reduceCtorEq, imp_self, List.cons_append, List.nil_append, List.replicate_succ, List.replicate_zero, Nat.reduceSub, Nat.reduceAdd, ne_eq, not_true_eq_false, not_false_eq_true, ex_pm, ex_mk, put0, put1, put2, put3, put4, put5, run_appP, op_qNm, qnp_d, op_catI, froz_il, op_gEqL, op_gNeL, op_gEqL0, op_gNeL0, op_gInL, op_gNinL, op_sorted, op_sum, op_lenSet, isi_int, isi_bl, isi_lst, isi_tup, isi_non, kit_ii, kit_ib, kit_bb, kit_bi, kit_ll, kit_tt, kit_il, kit_it, kit_lt, kit_tl, op_clr, op_clr0, clp_any, loc_un, loc_d, rst_cons, rst_nil, rstS_some, intL_rng, Bool.not_true, Bool.not_false, Int.sub_zero, op_gEqB, List.length_map]
  have hpow : (0 ≤ (18 : Int) ∧ (18 : Int) ≤ 1000000) ∧ Int.natAbs 10 < 2 ^ 64 := ⟨⟨by decide, by decide⟩, by decide⟩
  refine ⟨fun hlt => ?_, fun hge => ⟨mo200 (by decide) (by omega), hpow, fun _ => ⟨hpow, _, rfl⟩, fun _ => ⟨by decide, i62_of (by decide) (by decide), ?_⟩⟩⟩
  · have hg : ns[k.toNat]? = some ns[k.toNat] := List.getElem?_eq_getElem (by omega)
    generalize ns[k.toNat]'(by omega) = c at *
    have hat : L2.atI (ns.map Dt.int) k = some (.int c) := atI_int hk (by rw [List.getElem?_map, hg]; rfl)
    simp only [ev_ret, ev_opt, ev_bnd, ev_frz, ev_up, ev_var, ev_mov, varp_d, varp_w, movp_d, movp_w, ev_c, ev_e1, ev_e2, ev_eL, ev_anil, ev_acons, ev_onil, ev_ocons, ev_tup, ev_lst, ev_asB, ev_not, ev_or, ev_and, ev_eIf, ev_vB, ev_vAnd, ev_vOr, ev_vNot, ev_e3c, ex_bl, blp_bl, op_some, op_map, op_gI, op_gI0, op_gEqI, op_gNeI, op_isN, op_len, op_lenF, op_lenT, op_int, op_abs, op_max2, op_min2, op_divmod, op_list, op_neg, op_ixL, op_ixF, op_ixT, atI_0, atI_1, atI_2, ev_call, ev_meth, ex_ins, ev_make, ev_callO, ev_fld, flds_d, flds_w, flds_pm, ev_bor, ev_borT, ev_cut, ev_pInt, ex_int, op_cutL, ev_lstR, ev_iSeq, ex_lst, ex_frl, ev_iTp, ex_tup, ev_rg1, ex_int1, ev_rg2, ex_int2, run_seq, run_next, run_brk, run_cont, run_never, run_retN, run_ret, run_expr, run_if, run_set, run_tg, op_gNm, op_gTp, op_gNil, op_gCons, run_par, ex_two, run_fldS, ex_o, ex_l, run_setIx, run_for, ev_lc, op_stAt, stp_any, free_un, free_d, free_w, mk_d, mk_l, mk_o, divOk_iff, modOk_iff, powOk_iff, own_d, own_w, own_pm, own_s, seto_w, seto_pm, seto_s, op_backs_pm, op_backs_d, op_backs_nil, froz_ld, froz_d, froz_o, List.getElem?_cons_zero, List.getElem?_cons_succ, List.set_cons_zero, List.set_cons_succ, List.map_cons, List.map_nil, sfrz_un, sfrz_d, sfrz_w, sfrz_pm, flat_bl, flat_int, flat_non, flat_str, isN_non, isN_int, isN_bl, isN_str, isN_tup, isN_lst, isN_ins, decide_eq_true_eq, decide_eq_false_iff_not, Bool.not_eq_true', Bool.not_eq_false', true_and, and_true, forall_const, implies_true, false_implies, true_implies, forall_eq, Bool.false_eq_true, Bool.true_eq_false, if_true, if_false, reduceCtorEq, imp_self, List.cons_append, List.nil_append, List.replicate_succ, List.replicate_zero, Nat.reduceSub, Nat.reduceAdd, ne_eq, not_true_eq_false, not_false_eq_true, ex_pm, ex_mk, put0, put1, put2, put3, put4, put5, run_appP, op_qNm, qnp_d, op_catI, froz_il, op_gEqL, op_gNeL, op_gEqL0, op_gNeL0, op_gInL, op_gNinL, op_sorted, op_sum, op_lenSet, isi_int, isi_bl, isi_lst, isi_tup, isi_non, kit_ii, kit_ib, kit_bb, kit_bi, kit_ll, kit_tt, kit_il, kit_it, kit_lt, kit_tl, op_clr, op_clr0, clp_any, loc_un, loc_d, rst_cons, rst_nil, rstS_some, intL_rng, Bool.not_true, Bool.not_false, Int.sub_zero, op_gEqB, hat]
    refine ⟨hpow, fun _ => ⟨hpow, _, rfl⟩, fun _ => ⟨by decide, i62_of (by decide) (by decide), ?_⟩⟩
    have hm := md (z := c) (n := 2305843009213693951) (by decide)
    refine pool_loop _ _ _ k _ rfl hk hk3 hm.1 (by omega) .un trivial _ fun z s3 s5 => ?_
    simp only [ev_ret, ev_opt, ev_bnd, ev_frz, ev_up, ev_var, ev_mov, varp_d, varp_w, movp_d, movp_w, ev_c, ev_e1, ev_e2, ev_eL, ev_anil, ev_acons, ev_onil, ev_ocons, ev_tup, ev_lst, ev_asB, ev_not, ev_or, ev_and, ev_eIf, ev_vB, ev_vAnd, ev_vOr, ev_vNot, ev_e3c, ex_bl, blp_bl, op_some, op_map, op_gI, op_gI0, op_gEqI, op_gNeI, op_isN, op_len, op_lenF, op_lenT, op_int, op_abs, op_max2, op_min2, op_divmod, op_list, op_neg, op_ixL, op_ixF, op_ixT, atI_0, atI_1, atI_2, ev_call, ev_meth, ex_ins, ev_make, ev_callO, ev_fld, flds_d, flds_w, flds_pm, ev_bor, ev_borT, ev_cut, ev_pInt, ex_int, op_cutL, ev_lstR, ev_iSeq, ex_lst, ex_frl, ev_iTp, ex_tup, ev_rg1, ex_int1, ev_rg2, ex_int2, run_seq, run_next, run_brk, run_cont, run_never, run_retN, run_ret, run_expr, run_if, run_set, run_tg, op_gNm, op_gTp, op_gNil, op_gCons, run_par, ex_two, run_fldS, ex_o, ex_l, run_setIx, run_for, ev_lc, op_stAt, stp_any, free_un, free_d, free_w, mk_d, mk_l, mk_o, divOk_iff, modOk_iff, powOk_iff, own_d, own_w, own_pm, own_s, seto_w, seto_pm, seto_s, op_backs_pm, op_backs_d, op_backs_nil, froz_ld, froz_d, froz_o, List.getElem?_cons_zero, List.getElem?_cons_succ, List.set_cons_zero, List.set_cons_succ, List.map_cons, List.map_nil, sfrz_un, sfrz_d, sfrz_w, sfrz_pm, flat_bl, flat_int, flat_non, flat_str, isN_non, isN_int, isN_bl, isN_str, isN_tup, isN_lst, isN_ins, decide_eq_true_eq, decide_eq_false_iff_not, Bool.not_eq_true', Bool.not_eq_false', true_and, and_true, forall_const, implies_true, false_implies, true_implies, forall_eq, Bool.false_eq_true, Bool.true_eq_false, if_true, if_false, reduceCtorEq, imp_self, List.cons_append, List.nil_append, List.replicate_succ, List.replicate_zero, Nat.reduceSub, Nat.reduceAdd, ne_eq, not_true_eq_false, not_false_eq_true, ex_pm, ex_mk, put0, put1, put2, put3, put4, put5, run_appP, op_qNm, qnp_d, op_catI, froz_il, op_gEqL, op_gNeL, op_gEqL0, op_gNeL0, op_gInL, op_gNinL, op_sorted, op_sum, op_lenSet, isi_int, isi_bl, isi_lst, isi_tup, isi_non, kit_ii, kit_ib, kit_bb, kit_bi, kit_ll, kit_tt, kit_il, kit_it, kit_lt, kit_tl, op_clr, op_clr0, clp_any, loc_un, loc_d, rst_cons, rst_nil, rstS_some, intL_rng, Bool.not_true, Bool.not_false, Int.sub_zero, op_gEqB]
    exact ⟨z, rfl⟩
  · have hm := md (z := 5 * k + 2) (n := 2305843009213693951) (by decide)
    refine pool_loop _ _ _ k _ rfl hk hk3 hm.1 (by omega) .un trivial _ fun z s3 s5 => ?_
    simp only [ev_ret, ev_opt, ev_bnd, ev_frz, ev_up, ev_var, ev_mov, varp_d, varp_w, movp_d, movp_w, ev_c, ev_e1, ev_e2, ev_eL, ev_anil, ev_acons, ev_onil, ev_ocons, ev_tup, ev_lst, ev_asB, ev_not, ev_or, ev_and, ev_eIf, ev_vB, ev_vAnd, ev_vOr, ev_vNot, ev_e3c, ex_bl, blp_bl, op_some, op_map, op_gI, op_gI0, op_gEqI, op_gNeI, op_isN, op_len, op_lenF, op_lenT, op_int, op_abs, op_max2, op_min2, op_divmod, op_list, op_neg, op_ixL, op_ixF, op_ixT, atI_0, atI_1, atI_2, ev_call, ev_meth, ex_ins, ev_make, ev_callO, ev_fld, flds_d, flds_w, flds_pm, ev_bor, ev_borT, ev_cut, ev_pInt, ex_int, op_cutL, ev_lstR, ev_iSeq, ex_lst, ex_frl, ev_iTp, ex_tup, ev_rg1, ex_int1, ev_rg2, ex_int2, run_seq, run_next, run_brk, run_cont, run_never, run_retN, run_ret, run_expr, run_if, run_set, run_tg, op_gNm, op_gTp, op_gNil, op_gCons, run_par, ex_two, run_fldS, ex_o, ex_l, run_setIx, run_for, ev_lc, op_stAt, stp_any, free_un, free_d, free_w, mk_d, mk_l, mk_o, divOk_iff, modOk_iff, powOk_iff, own_d, own_w, own_pm, own_s, seto_w, seto_pm, seto_s, op_backs_pm, op_backs_d, op_backs_nil, froz_ld, froz_d, froz_o, List.getElem?_cons_zero, List.getElem?_cons_succ, List.set_cons_zero, List.set_cons_succ, List.map_cons, List.map_nil, sfrz_un, sfrz_d, sfrz_w, sfrz_pm, flat_bl, flat_int, flat_non, flat_str, isN_non, isN_int, isN_bl, isN_str, isN_tup, isN_lst, isN_ins, decide_eq_true_eq, decide_eq_false_iff_not, Bool.not_eq_true', Bool.not_eq_false', true_and, and_true, forall_const, implies_true, false_implies, true_implies, forall_eq, Bool.false_eq_true, Bool.true_eq_false, if_true, if_false, reduceCtorEq, imp_self, List.cons_append, List.nil_append, List.replicate_succ, List.replicate_zero, Nat.reduceSub, Nat.reduceAdd, ne_eq, not_true_eq_false, not_false_eq_true, ex_pm, ex_mk, put0, put1, put2, put3, put4, put5, run_appP, op_qNm, qnp_d, op_catI, froz_il, op_gEqL, op_gNeL, op_gEqL0, op_gNeL0, op_gInL, op_gNinL, op_sorted, op_sum, op_lenSet, isi_int, isi_bl, isi_lst, isi_tup, isi_non, kit_ii, kit_ib, kit_bb, kit_bi, kit_ll, kit_tt, kit_il, kit_it, kit_lt, kit_tl, op_clr, op_clr0, clp_any, loc_un, loc_d, rst_cons, rst_nil, rstS_some, intL_rng, Bool.not_true, Bool.not_false, Int.sub_zero, op_gEqB]
    exact ⟨z, rfl⟩
theorem law_holds (ns : List Int) (hl : ns.length ≤ 63) (hb : ∀ z ∈ ns, Builtin.Int.intBits z ≤ 1048576) : F_law.app [.frl (ns.map .int)] = some (.d (.bl true)) := by
  refine eq_of_op ?_
  rw [op_app]
  refine fn_run rfl ?_
  unfold m_law
  simp only [ev_ret, ev_opt, ev_bnd, ev_frz, ev_up, ev_var, ev_mov, varp_d, varp_w, movp_d, movp_w, ev_c, ev_e1, ev_e2, ev_eL, ev_anil, ev_acons, ev_onil, ev_ocons, ev_tup, ev_lst, ev_asB, ev_not, ev_or, ev_and, ev_eIf, ev_vB, ev_vAnd, ev_vOr, ev_vNot, ev_e3c, ex_bl, blp_bl, op_some, op_map, op_gI, op_gI0, op_gEqI, op_gNeI, op_isN, op_len, op_lenF, op_lenT, op_int, op_abs, op_max2, op_min2, op_divmod, op_list, op_neg, op_ixL, op_ixF, op_ixT, atI_0, atI_1, atI_2, ev_call, ev_meth, ex_ins, ev_make, ev_callO, ev_fld, flds_d, flds_w, flds_pm, ev_bor, ev_borT, ev_cut, ev_pInt, ex_int, op_cutL, ev_lstR, ev_iSeq, ex_lst, ex_frl, ev_iTp, ex_tup, ev_rg1, ex_int1, ev_rg2, ex_int2, run_seq, run_next, run_brk, run_cont, run_never, run_retN, run_ret, run_expr, run_if, run_set, run_tg, op_gNm, op_gTp, op_gNil, op_gCons, run_par, ex_two, run_fldS, ex_o, ex_l, run_setIx, run_for, ev_lc, op_stAt, stp_any, free_un, free_d, free_w, mk_d, mk_l, mk_o, divOk_iff, modOk_iff, powOk_iff, own_d, own_w, own_pm, own_s, seto_w, seto_pm, seto_s, op_backs_pm, op_backs_d, op_backs_nil, froz_ld, froz_d, froz_o, List.getElem?_cons_zero, List.getElem?_cons_succ, List.set_cons_zero, List.set_cons_succ, List.map_cons, List.map_nil, sfrz_un, sfrz_d, sfrz_w, sfrz_pm, flat_bl, flat_int, flat_non, flat_str, isN_non, isN_int, isN_bl, isN_str, isN_tup, isN_lst, isN_ins, decide_eq_true_eq, decide_eq_false_iff_not, Bool.not_eq_true', Bool.not_eq_false', true_and, and_true, forall_const, implies_true, false_implies, true_implies, forall_eq, Bool.false_eq_true, Bool.true_eq_false, if_true, if_false, reduceCtorEq, imp_self, List.cons_append, List.nil_append, List.replicate_succ, List.replicate_zero, Nat.reduceSub, Nat.reduceAdd, ne_eq, not_true_eq_false, not_false_eq_true, ex_pm, ex_mk, put0, put1, put2, put3, put4, put5, run_appP, op_qNm, qnp_d, op_catI, froz_il, op_gEqL, op_gNeL, op_gEqL0, op_gNeL0, op_gInL, op_gNinL, op_sorted, op_sum, op_lenSet, isi_int, isi_bl, isi_lst, isi_tup, isi_non, kit_ii, kit_ib, kit_bb, kit_bi, kit_ll, kit_tt, kit_il, kit_it, kit_lt, kit_tl, op_clr, op_clr0, clp_any, loc_un, loc_d, rst_cons, rst_nil, rstS_some, intL_rng, Bool.not_true, Bool.not_false, Int.sub_zero, op_gEqB, List.length_map]
  refine ⟨i62_of ?_ ?_, for_runG (fun _ e => ∃ s1 : Sl, s1.free ∧ e = [.d (.frl (ns.map .int)), s1]) ⟨.un, trivial, rfl⟩ ?_ ?_⟩
  · split <;> split <;> omega
  · split <;> split <;> omega
  · rintro pre k post e hsp ⟨s1, f1, rfl⟩
    have hk := mem_rng.mp (show k ∈ rng _ by rw [hsp]; simp)
    have hk3 : k ≤ 3 := by
      have := hk.2
      split at this <;> split at this <;> omega
    obtain ⟨z, hz⟩ := pool_ok ns k hk.1 hk3
    obtain ⟨as, ha⟩ := asked_ok z
    simp only [ev_ret, ev_opt, ev_bnd, ev_frz, ev_up, ev_var, ev_mov, varp_d, varp_w, movp_d, movp_w, ev_c, ev_e1, ev_e2, ev_eL, ev_anil, ev_acons, ev_onil, ev_ocons, ev_tup, ev_lst, ev_asB, ev_not, ev_or, ev_and, ev_eIf, ev_vB, ev_vAnd, ev_vOr, ev_vNot, ev_e3c, ex_bl, blp_bl, op_some, op_map, op_gI, op_gI0, op_gEqI, op_gNeI, op_isN, op_len, op_lenF, op_lenT, op_int, op_abs, op_max2, op_min2, op_divmod, op_list, op_neg, op_ixL, op_ixF, op_ixT, atI_0, atI_1, atI_2, ev_call, ev_meth, ex_ins, ev_make, ev_callO, ev_fld, flds_d, flds_w, flds_pm, ev_bor, ev_borT, ev_cut, ev_pInt, ex_int, op_cutL, ev_lstR, ev_iSeq, ex_lst, ex_frl, ev_iTp, ex_tup, ev_rg1, ex_int1, ev_rg2, ex_int2, run_seq, run_next, run_brk, run_cont, run_never, run_retN, run_ret, run_expr, run_if, run_set, run_tg, op_gNm, op_gTp, op_gNil, op_gCons, run_par, ex_two, run_fldS, ex_o, ex_l, run_setIx, run_for, ev_lc, op_stAt, stp_any, free_un, free_d, free_w, mk_d, mk_l, mk_o, divOk_iff, modOk_iff, powOk_iff, own_d, own_w, own_pm, own_s, seto_w, seto_pm, seto_s, op_backs_pm, op_backs_d, op_backs_nil, froz_ld, froz_d, froz_o, List.getElem?_cons_zero, List.getElem?_cons_succ, List.set_cons_zero, List.set_cons_succ, List.map_cons, List.map_nil, sfrz_un, sfrz_d, sfrz_w, sfrz_pm, flat_bl, flat_int, flat_non, flat_str, isN_non, isN_int, isN_bl, isN_str, isN_tup, isN_lst, isN_ins, decide_eq_true_eq, decide_eq_false_iff_not, Bool.not_eq_true', Bool.not_eq_false', true_and, and_true, forall_const, implies_true, false_implies, true_implies, forall_eq, Bool.false_eq_true, Bool.true_eq_false, if_true, if_false, reduceCtorEq, imp_self, List.cons_append, List.nil_append, List.replicate_succ, List.replicate_zero, Nat.reduceSub, Nat.reduceAdd, ne_eq, not_true_eq_false, not_false_eq_true, ex_pm, ex_mk, put0, put1, put2, put3, put4, put5, run_appP, op_qNm, qnp_d, op_catI, froz_il, op_gEqL, op_gNeL, op_gEqL0, op_gNeL0, op_gInL, op_gNinL, op_sorted, op_sum, op_lenSet, isi_int, isi_bl, isi_lst, isi_tup, isi_non, kit_ii, kit_ib, kit_bb, kit_bi, kit_ll, kit_tt, kit_il, kit_it, kit_lt, kit_tl, op_clr, op_clr0, clp_any, loc_un, loc_d, rst_cons, rst_nil, rstS_some, intL_rng, Bool.not_true, Bool.not_false, Int.sub_zero, op_gEqB, f1, hz, ha]
    exact ⟨.d (.int k), trivial, rfl⟩
  · rintro e ⟨s1, f1, rfl⟩
    simp only [ev_ret, ev_opt, ev_bnd, ev_frz, ev_up, ev_var, ev_mov, varp_d, varp_w, movp_d, movp_w, ev_c, ev_e1, ev_e2, ev_eL, ev_anil, ev_acons, ev_onil, ev_ocons, ev_tup, ev_lst, ev_asB, ev_not, ev_or, ev_and, ev_eIf, ev_vB, ev_vAnd, ev_vOr, ev_vNot, ev_e3c, ex_bl, blp_bl, op_some, op_map, op_gI, op_gI0, op_gEqI, op_gNeI, op_isN, op_len, op_lenF, op_lenT, op_int, op_abs, op_max2, op_min2, op_divmod, op_list, op_neg, op_ixL, op_ixF, op_ixT, atI_0, atI_1, atI_2, ev_call, ev_meth, ex_ins, ev_make, ev_callO, ev_fld, flds_d, flds_w, flds_pm, ev_bor, ev_borT, ev_cut, ev_pInt, ex_int, op_cutL, ev_lstR, ev_iSeq, ex_lst, ex_frl, ev_iTp, ex_tup, ev_rg1, ex_int1, ev_rg2, ex_int2, run_seq, run_next, run_brk, run_cont, run_never, run_retN, run_ret, run_expr, run_if, run_set, run_tg, op_gNm, op_gTp, op_gNil, op_gCons, run_par, ex_two, run_fldS, ex_o, ex_l, run_setIx, run_for, ev_lc, op_stAt, stp_any, free_un, free_d, free_w, mk_d, mk_l, mk_o, divOk_iff, modOk_iff, powOk_iff, own_d, own_w, own_pm, own_s, seto_w, seto_pm, seto_s, op_backs_pm, op_backs_d, op_backs_nil, froz_ld, froz_d, froz_o, List.getElem?_cons_zero, List.getElem?_cons_succ, List.set_cons_zero, List.set_cons_succ, List.map_cons, List.map_nil, sfrz_un, sfrz_d, sfrz_w, sfrz_pm, flat_bl, flat_int, flat_non, flat_str, isN_non, isN_int, isN_bl, isN_str, isN_tup, isN_lst, isN_ins, decide_eq_true_eq, decide_eq_false_iff_not, Bool.not_eq_true', Bool.not_eq_false', true_and, and_true, forall_const, implies_true, false_implies, true_implies, forall_eq, Bool.false_eq_true, Bool.true_eq_false, if_true, if_false, reduceCtorEq, imp_self, List.cons_append, List.nil_append, List.replicate_succ, List.replicate_zero, Nat.reduceSub, Nat.reduceAdd, ne_eq, not_true_eq_false, not_false_eq_true, ex_pm, ex_mk, put0, put1, put2, put3, put4, put5, run_appP, op_qNm, qnp_d, op_catI, froz_il, op_gEqL, op_gNeL, op_gEqL0, op_gNeL0, op_gInL, op_gNinL, op_sorted, op_sum, op_lenSet, isi_int, isi_bl, isi_lst, isi_tup, isi_non, kit_ii, kit_ib, kit_bb, kit_bi, kit_ll, kit_tt, kit_il, kit_it, kit_lt, kit_tl, op_clr, op_clr0, clp_any, loc_un, loc_d, rst_cons, rst_nil, rstS_some, intL_rng, Bool.not_true, Bool.not_false, Int.sub_zero, op_gEqB]
end K88
open PySem PySem.W PyProof.Rows
set_option maxRecDepth 100000 in
set_option maxHeartbeats 0 in
theorem PySem.Challenge.cw_rulesquares_k88_whole_places_make_the_sq_holds : PySem.Challenge.rw_rulesquares_k88_whole_places_make_the_sq.Holds := by
  w_on; o_law; k_head; (case hw => w_witness2)
  k_fill
  refine DL.walk_law (l := PySem.Challenge.rw_rulesquares_k88_whole_places_make_the_sq) (n := 63) (k := 7) rfl (by decide) ⟨rfl, by decide, by decide⟩ rfl (fun w h Y => PySem.W.kIn_of Y) ?F
  case F =>
    intro w mg fa h KX G hmg
    refine' K88.F_mk (m := 63) hmg ?Hl ?Hc ?Hk (K88.txt_mk KX G ?a_Joined ?a_Rule ?n_abs ?n_bool ?n_divmod ?n_int ?n_isinstance ?n_len ?n_list ?n_max ?n_min ?n_range ?n_set ?n_sorted ?pg_Joined ?hd_Joined ?po_Joined ?sa_Joined ?na_Joined_outer ?na_Joined_blocks ?na_Joined_inner ?na_Joined_width ?pg_Rule ?hd_Rule ?po_Rule ?sa_Rule ?na_Rule_by_row ?na_Rule_by_column ?na_Rule_start ?c_MOST ?at_law_take ?l_law_take ?c_law_take ?k_law_take ?atcheck_size ?lcheck_size ?ccheck_size ?kcheck_size ?inJoinedu_initu ?fnJoinedu_initu ?mkJoinedu_initu ?kpJoinedu_initu ?lJoinedu_initu ?cJoinedu_initu ?kJoinedu_initu ?inRuleu_initu ?fnRuleu_initu ?mkRuleu_initu ?kpRuleu_initu ?lRuleu_initu ?cRuleu_initu ?kRuleu_initu ?at_law_near ?l_law_near ?c_law_near ?k_law_near ?at_law_rule ?l_law_rule ?c_law_rule ?k_law_rule ?atcheck_row ?lcheck_row ?ccheck_row ?kcheck_row ?atJoined_size ?geJoined_size ?taJoined_size ?reJoined_size ?lJoined_size ?cJoined_size ?kJoined_size ?atgcd ?lgcd ?cgcd ?kgcd ?atinverse ?linverse ?cinverse ?kinverse ?atsolve ?lsolve ?csolve ?ksolve ?atRule_d ?geRule_d ?taRule_d ?reRule_d ?lRule_d ?cRule_d ?kRule_d ?atRule_a ?geRule_a ?taRule_a ?reRule_a ?lRule_a ?cRule_a ?kRule_a ?atRule_b ?geRule_b ?taRule_b ?reRule_b ?lRule_b ?cRule_b ?kRule_b ?atJoined_place ?fnJoined_place ?lJoined_place ?cJoined_place ?kJoined_place ?at_law_lists ?l_law_lists ?c_law_lists ?k_law_lists ?at_law_whole ?l_law_whole ?c_law_whole ?k_law_whole ?atcheck_cell ?lcheck_cell ?ccheck_cell ?kcheck_cell ?atRule_entry ?fnRule_entry ?lRule_entry ?cRule_entry ?kRule_entry ?atRule_sign ?fnRule_sign ?lRule_sign ?cRule_sign ?kRule_sign ?atJoined_sign ?fnJoined_sign ?lJoined_sign ?cJoined_sign ?kJoined_sign ?at_law_rows ?l_law_rows ?c_law_rows ?k_law_rows ?at_law_true ?l_law_true ?c_law_true ?k_law_true ?atJoined_rows_clear ?fnJoined_rows_clear ?lJoined_rows_clear ?cJoined_rows_clear ?kJoined_rows_clear ?atJoined_columns_clear ?fnJoined_columns_clear ?lJoined_columns_clear ?cJoined_columns_clear ?kJoined_columns_clear ?at_law_clear ?l_law_clear ?c_law_clear ?k_law_clear ?at_law_pairs ?l_law_pairs ?c_law_pairs ?k_law_pairs ?atcross ?lcross ?ccross ?kcross ?atJoined_paired ?fnJoined_paired ?lJoined_paired ?cJoined_paired ?kJoined_paired ?at_law_asked ?l_law_asked ?c_law_asked ?k_law_asked ?at_law_pool ?l_law_pool ?c_law_pool ?k_law_pool ?atlaw ?llaw ?claw ?klaw) K88.law_holds
    (case a_Joined => k_is)
    (case a_Rule => k_is)
    (case n_abs => k_is)
    (case n_bool => k_is)
    (case n_divmod => k_is)
    (case n_int => k_is)
    (case n_isinstance => k_is)
    (case n_len => k_is)
    (case n_list => k_is)
    (case n_max => k_is)
    (case n_min => k_is)
    (case n_range => k_is)
    (case n_set => k_is)
    (case n_sorted => k_is)
    (case pg_Joined => k_is)
    (case hd_Joined => k_is)
    (case po_Joined => k_is)
    (case sa_Joined => k_is)
    (case na_Joined_outer => k_is)
    (case na_Joined_blocks => k_is)
    (case na_Joined_inner => k_is)
    (case na_Joined_width => k_is)
    (case pg_Rule => k_is)
    (case hd_Rule => k_is)
    (case po_Rule => k_is)
    (case sa_Rule => k_is)
    (case na_Rule_by_row => k_is)
    (case na_Rule_by_column => k_is)
    (case na_Rule_start => k_is)
    (case c_MOST => k_is)
    (case at_law_take => k_is)
    (case l_law_take => k_is)
    (case c_law_take => k_is)
    (case k_law_take => k_is)
    (case atcheck_size => k_is)
    (case lcheck_size => k_is)
    (case ccheck_size => k_is)
    (case kcheck_size => k_is)
    (case inJoinedu_initu => k_is)
    (case fnJoinedu_initu => k_is)
    (case mkJoinedu_initu => k_is)
    (case kpJoinedu_initu => k_is)
    (case lJoinedu_initu => k_is)
    (case cJoinedu_initu => k_is)
    (case kJoinedu_initu => k_is)
    (case inRuleu_initu => k_is)
    (case fnRuleu_initu => k_is)
    (case mkRuleu_initu => k_is)
    (case kpRuleu_initu => k_is)
    (case lRuleu_initu => k_is)
    (case cRuleu_initu => k_is)
    (case kRuleu_initu => k_is)
    (case at_law_near => k_is)
    (case l_law_near => k_is)
    (case c_law_near => k_is)
    (case k_law_near => k_is)
    (case at_law_rule => k_is)
    (case l_law_rule => k_is)
    (case c_law_rule => k_is)
    (case k_law_rule => k_is)
    (case atcheck_row => k_is)
    (case lcheck_row => k_is)
    (case ccheck_row => k_is)
    (case kcheck_row => k_is)
    (case atJoined_size => k_is)
    (case geJoined_size => k_is)
    (case taJoined_size => k_is)
    (case reJoined_size => k_is)
    (case lJoined_size => k_is)
    (case cJoined_size => k_is)
    (case kJoined_size => k_is)
    (case atgcd => k_is)
    (case lgcd => k_is)
    (case cgcd => k_is)
    (case kgcd => k_is)
    (case atinverse => k_is)
    (case linverse => k_is)
    (case cinverse => k_is)
    (case kinverse => k_is)
    (case atsolve => k_is)
    (case lsolve => k_is)
    (case csolve => k_is)
    (case ksolve => k_is)
    (case atRule_d => k_is)
    (case geRule_d => k_is)
    (case taRule_d => k_is)
    (case reRule_d => k_is)
    (case lRule_d => k_is)
    (case cRule_d => k_is)
    (case kRule_d => k_is)
    (case atRule_a => k_is)
    (case geRule_a => k_is)
    (case taRule_a => k_is)
    (case reRule_a => k_is)
    (case lRule_a => k_is)
    (case cRule_a => k_is)
    (case kRule_a => k_is)
    (case atRule_b => k_is)
    (case geRule_b => k_is)
    (case taRule_b => k_is)
    (case reRule_b => k_is)
    (case lRule_b => k_is)
    (case cRule_b => k_is)
    (case kRule_b => k_is)
    (case atJoined_place => k_is)
    (case fnJoined_place => k_is)
    (case lJoined_place => k_is)
    (case cJoined_place => k_is)
    (case kJoined_place => k_is)
    (case at_law_lists => k_is)
    (case l_law_lists => k_is)
    (case c_law_lists => k_is)
    (case k_law_lists => k_is)
    (case at_law_whole => k_is)
    (case l_law_whole => k_is)
    (case c_law_whole => k_is)
    (case k_law_whole => k_is)
    (case atcheck_cell => k_is)
    (case lcheck_cell => k_is)
    (case ccheck_cell => k_is)
    (case kcheck_cell => k_is)
    (case atRule_entry => k_is)
    (case fnRule_entry => k_is)
    (case lRule_entry => k_is)
    (case cRule_entry => k_is)
    (case kRule_entry => k_is)
    (case atRule_sign => k_is)
    (case fnRule_sign => k_is)
    (case lRule_sign => k_is)
    (case cRule_sign => k_is)
    (case kRule_sign => k_is)
    (case atJoined_sign => k_is)
    (case fnJoined_sign => k_is)
    (case lJoined_sign => k_is)
    (case cJoined_sign => k_is)
    (case kJoined_sign => k_is)
    (case at_law_rows => k_is)
    (case l_law_rows => k_is)
    (case c_law_rows => k_is)
    (case k_law_rows => k_is)
    (case at_law_true => k_is)
    (case l_law_true => k_is)
    (case c_law_true => k_is)
    (case k_law_true => k_is)
    (case atJoined_rows_clear => k_is)
    (case fnJoined_rows_clear => k_is)
    (case lJoined_rows_clear => k_is)
    (case cJoined_rows_clear => k_is)
    (case kJoined_rows_clear => k_is)
    (case atJoined_columns_clear => k_is)
    (case fnJoined_columns_clear => k_is)
    (case lJoined_columns_clear => k_is)
    (case cJoined_columns_clear => k_is)
    (case kJoined_columns_clear => k_is)
    (case at_law_clear => k_is)
    (case l_law_clear => k_is)
    (case c_law_clear => k_is)
    (case k_law_clear => k_is)
    (case at_law_pairs => k_is)
    (case l_law_pairs => k_is)
    (case c_law_pairs => k_is)
    (case k_law_pairs => k_is)
    (case atcross => k_is)
    (case lcross => k_is)
    (case ccross => k_is)
    (case kcross => k_is)
    (case atJoined_paired => k_is)
    (case fnJoined_paired => k_is)
    (case lJoined_paired => k_is)
    (case cJoined_paired => k_is)
    (case kJoined_paired => k_is)
    (case at_law_asked => k_is)
    (case l_law_asked => k_is)
    (case c_law_asked => k_is)
    (case k_law_asked => k_is)
    (case at_law_pool => k_is)
    (case l_law_pool => k_is)
    (case c_law_pool => k_is)
    (case k_law_pool => k_is)
    (case atlaw => k_is)
    (case llaw => k_is)
    (case claw => k_is)
    (case klaw => k_is)
    (case Hl => k_is); (case Hc => k_is); (case Hk => k_is)
