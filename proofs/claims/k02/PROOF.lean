import PyProof.Rows.All
import HandS.ForMost
import HandS.Exc
import HandS.TryOnly
import HandS.ExcSuper
import HandS.ExcField
import HandS.ExcInit
import HandS.ExcValue
import HandS.Flow
import HandS.Wide
import HandS.Style
import HandS.SortInts
import HandS.Conv
import HandS.Zip
import HandS.IsInst
import HandS.Deep
import HandS.Defaults
import HandS.CallSlots
import HandS.TupAny
import HandS.WideBits
import HandS.RaiseMore
import HandS.Head0
import HandS.Head1
import HandS.Head2
import HandS.HeadEnd
import HandS.HeadHook1
import HandS.HeadHook2
import HandS.EndBits
import KE.KExcSuper
import PySem.Challenge.RW_wishkept_k02_whole_values_of_nets
set_option Elab.async false
set_option linter.all false
set_option maxRecDepth 100000
set_option maxHeartbeats 200000
set_option synthInstance.maxSize 128
set_option synthInstance.maxHeartbeats 20000
namespace VI
open PySem L2

/-- values by content; a list node says whether it is owned alone (true) or stays as it is for ever (false) -/
inductive D where
  | non | bl (b : Bool) | int (i : Int) | str (x : Str)
  | tup (xs : List D) | lst (o : Bool) (xs : List D)
  | edic | fn (f : String) | cls (c : String) | exc (c : String) (v : D) | scr (ns : List Int)
  deriving Inhabited

/-- where the program's defs and classes stand -/
structure Nm where
  K : PySem.W.Frag
  fn : String → Option Addr
  cl : String → Option Addr

/-- an exception's object, told to be at a -/
def ExT (C : Value) (d : Option Addr) (a : Addr) : HO := .ext fun h => ∃ (oe : Obj) (vs : Array Value), h.get? a = some oe ∧ Zc C d oe ∧ oe.data = .fields vs

/-- the script: a list that nobody writes -/
def ScrAt (K : PySem.W.Frag) (H : Hp) (a : Addr) (ns : List Int) : Prop := (∃ o, H a = some (.frz o (.lst (ns.map V.int)))) ∨ ∀ H', SqL K H' a (ns.map V.int)
theorem ScrAt.seq {K : PySem.W.Frag} {H : Hp} {a : Addr} {ns : List Int} (h : ScrAt K H a ns) : SqL K H a (ns.map V.int) := by
  rcases h with ⟨o, h⟩ | h
  · exact .inl (.inr ⟨o, h⟩)
  · exact h H
mutual
inductive Rep (M : Nm) (G : Addr → Prop) (H : Hp) : V → D → List Addr → Prop
  | non : Rep M G H .non .non []
  | bl (b) : Rep M G H (.bl b) (.bl b) []
  | int (i) : Rep M G H (.int i) (.int i) []
  | str (x) : Rep M G H (.str x) (.str x) []
  | tup {a xs ds F} : SqT M.K H a xs → RepL M G H xs ds F → Rep M G H (.ref a) (.tup ds) F
  | lstS {a xs ds} : H a = some (.lst xs) → ¬ G a → RepL M G H xs ds [] → Rep M G H (.ref a) (.lst false ds) []
  | lstO {a xs ds F} : H a = some (.lst xs) → G a → RepL M G H xs ds F → Rep M G H (.ref a) (.lst true ds) (a :: F)
  | edic {a} : H a = some (.dK []) → Rep M G H (.ref a) .edic []
  | fn {f a} : M.fn f = some a → Rep M G H (.ref a) (.fn f) []
  | cls {c a} : M.cl c = some a → Rep M G H (.ref a) (.cls c) []
  | exc {a C d c fs u v} : M.cl c = some C → H a = some (ExT (.ref C) (some d) a) → H d = some (.xd fs) → fs.lookup ("value" : Str) = some u → Rep M G H u v [] → Rep M G H (.ref a) (.exc c v) []
  | scr {a ns} : ScrAt M.K H a ns → ns.length ≤ sizeLine → Rep M G H (.ref a) (.scr ns) []
inductive RepL (M : Nm) (G : Addr → Prop) (H : Hp) : List V → List D → List Addr → Prop
  | nil : RepL M G H [] [] []
  | cons {v vs d ds F Fs} : Rep M G H v d F → RepL M G H vs ds Fs → RepL M G H (v :: vs) (d :: ds) (F ++ Fs)
end

/-- owned addresses are lists -/
def GOK (H : Hp) (G : Addr → Prop) : Prop := ∀ a, G a → ∃ xs, H a = some (.lst xs)

section
variable {M : Nm} {G G' : Addr → Prop} {H H' : Hp}

/-- what a representation leans on stays -/
structure Kp (G : Addr → Prop) (H : Hp) (G' : Addr → Prop) (H' : Hp) (F : List Addr) : Prop where
  keep : ∀ b o, H b = some o → (¬ G b ∨ b ∈ F) → H' b = some o
  shared : ∀ b o, H b = some o → ¬ G b → ¬ G' b
  own : ∀ b ∈ F, G' b
theorem Kp.left {F₁ F₂ : List Addr} (k : Kp G H G' H' (F₁ ++ F₂)) : Kp G H G' H' F₁ :=
  ⟨fun b o e h => k.keep b o e (h.imp_right (List.mem_append_left _)), k.shared, fun b h => k.own b (List.mem_append_left _ h)⟩
theorem Kp.right {F₁ F₂ : List Addr} (k : Kp G H G' H' (F₁ ++ F₂)) : Kp G H G' H' F₂ :=
  ⟨fun b o e h => k.keep b o e (h.imp_right (List.mem_append_right _)), k.shared, fun b h => k.own b (List.mem_append_right _ h)⟩
theorem Kp.tail {a : Addr} {F : List Addr} (k : Kp G H G' H' (a :: F)) : Kp G H G' H' F :=
  ⟨fun b o e h => k.keep b o e (h.imp_right (List.mem_cons_of_mem _)), k.shared, fun b h => k.own b (List.mem_cons_of_mem _ h)⟩
theorem Kp.nil {F : List Addr} (k : Kp G H G' H' F) : Kp G H G' H' [] :=
  ⟨fun b o e h => k.keep b o e (h.elim .inl (fun z => absurd z (by simp))), k.shared, fun b h => absurd h (by simp)⟩

/-- a tracked object that is no list is not owned -/
theorem GOK.not {a : Addr} {o : HO} (g : GOK H G) (e : H a = some o) (n : ∀ xs, o ≠ .lst xs) : ¬ G a := fun z => by
  obtain ⟨xs, q⟩ := g a z
  rw [e] at q
  exact n xs (Option.some.inj q)
theorem SqT.mono {K : PySem.W.Frag} {a : Addr} {xs : List V} {F : List Addr} (g : GOK H G) (k : Kp G H G' H' F) (h : SqT K H a xs) : SqT K H' a xs := by
  rcases h with (h | ⟨o, h⟩) | h
  · exact .inl (.inl (k.keep _ _ h (.inl (g.not h (fun _ z => by cases z)))))
  · exact .inl (.inr ⟨o, k.keep _ _ h (.inl (g.not h (fun _ z => by cases z)))⟩)
  · exact .inr h
theorem ScrAt.mono {K : PySem.W.Frag} {a : Addr} {ns : List Int} {F : List Addr} (g : GOK H G) (k : Kp G H G' H' F) (h : ScrAt K H a ns) : ScrAt K H' a ns := by
  rcases h with ⟨o, h⟩ | h
  · exact .inl ⟨o, k.keep _ _ h (.inl (g.not h (fun _ z => by cases z)))⟩
  · exact .inr h
mutual
theorem Rep.mono (g : GOK H G) : ∀ {v : V} {d : D} {F : List Addr}, Rep M G H v d F → Kp G H G' H' F → Rep M G' H' v d F
  | _, _, _, .non, _ => .non
  | _, _, _, .bl b, _ => .bl b
  | _, _, _, .int i, _ => .int i
  | _, _, _, .str x, _ => .str x
  | _, _, _, .tup s r, k => .tup (SqT.mono g k s) (RepL.mono g r k)
  | _, _, _, .lstS e n r, k => .lstS (k.keep _ _ e (.inl n)) (k.shared _ _ e n) (RepL.mono g r k)
  | _, _, _, .lstO e n r, k => .lstO (k.keep _ _ e (.inr List.mem_cons_self)) (k.own _ List.mem_cons_self) (RepL.mono g r k.tail)
  | _, _, _, .edic e, k => .edic (k.keep _ _ e (.inl (g.not e (fun _ z => by cases z))))
  | _, _, _, .fn e, _ => .fn e
  | _, _, _, .cls e, _ => .cls e
  | _, _, _, .exc c e1 e2 l r, k => .exc c (k.keep _ _ e1 (.inl (g.not e1 (fun _ z => by cases z)))) (k.keep _ _ e2 (.inl (g.not e2 (fun _ z => by cases z)))) l (Rep.mono g r k)
  | _, _, _, .scr s l, k => .scr (ScrAt.mono g k s) l
theorem RepL.mono (g : GOK H G) : ∀ {v : List V} {d : List D} {F : List Addr}, RepL M G H v d F → Kp G H G' H' F → RepL M G' H' v d F
  | _, _, _, .nil, _ => .nil
  | _, _, _, .cons h t, k => .cons (Rep.mono g h k.left) (RepL.mono g t k.right)
end

/-- what an evaluation does to the heap: what is not ours stays -/
structure Stp (G : Addr → Prop) (H : Hp) (O : Addr → Prop) (G' : Addr → Prop) (H' : Hp) : Prop where
  keep : ∀ b o, H b = some o → ¬ O b → H' b = some o
  there : ∀ b o, H b = some o → ∃ o', H' b = some o'
  gkeep : ∀ b, G b → ¬ O b → G' b
  gnew : ∀ b, G' b → G b ∨ H b = none
theorem Stp.refl {O : Addr → Prop} : Stp G H O G H := ⟨fun _ _ e _ => e, fun _ o e => ⟨o, e⟩, fun _ e _ => e, fun _ e => .inl e⟩
theorem Stp.free {O : Addr → Prop} (a : Stp G H O G' H') {c : Addr} (h : H' c = none) : H c = none := by
  cases q : H c with
  | none => rfl
  | some o => obtain ⟨o', e'⟩ := a.there c o q; rw [h] at e'; cases e'
theorem Stp.trans {G₁ : Addr → Prop} {H₁ : Hp} {O O₁ : Addr → Prop} (g : GOK H G) (a : Stp G H O G₁ H₁) (b : Stp G₁ H₁ O₁ G' H') (own : ∀ c, O₁ c → O c ∨ H c = none) : Stp G H O G' H' where
  keep := fun c o e n => b.keep c o (a.keep c o e n) fun z => by
    rcases own c z with z | z
    · exact n z
    · rw [e] at z; cases z
  there := fun c o e => let ⟨o', e'⟩ := a.there c o e; b.there c o' e'
  gkeep := fun c e n => by
    refine b.gkeep c (a.gkeep c e n) fun z => ?_
    obtain ⟨xs, q⟩ := g c e
    rcases own c z with z | z
    · exact n z
    · rw [q] at z; cases z
  gnew := fun c e => by
    rcases b.gnew c e with z | z
    · exact a.gnew c z
    · exact .inr (a.free z)
/-- a value of ours that is not in the evaluation's hands stays -/
theorem Stp.kp {O : Addr → Prop} {F : List Addr} (g : GOK H G) (a : Stp G H O G' H') (o : ∀ b, O b → G b) (f : ∀ b ∈ F, G b ∧ ¬ O b) : Kp G H G' H' F where
  keep := fun b u e h => a.keep b u e fun z => by
    rcases h with h | h
    · exact h (o b z)
    · exact (f b h).2 z
  shared := fun b u e n z => by
    rcases a.gnew b z with q | q
    · exact n q
    · rw [e] at q; cases q
  own := fun b h => a.gkeep b (f b h).1 (f b h).2

mutual
theorem Rep.own : ∀ {v : V} {d : D} {F : List Addr}, Rep M G H v d F → ∀ b ∈ F, G b
  | _, _, _, .non => fun _ h => nomatch h
  | _, _, _, .bl _ => fun _ h => nomatch h
  | _, _, _, .int _ => fun _ h => nomatch h
  | _, _, _, .str _ => fun _ h => nomatch h
  | _, _, _, .tup _ r => fun b h => RepL.own r b h
  | _, _, _, .lstS _ _ _ => fun _ h => nomatch h
  | _, _, _, .lstO _ g r => fun b h => (List.mem_cons.mp h).elim (fun e => by rw [e]; exact g) (fun h => RepL.own r b h)
  | _, _, _, .edic _ => fun _ h => nomatch h
  | _, _, _, .fn _ => fun _ h => nomatch h
  | _, _, _, .cls _ => fun _ h => nomatch h
  | _, _, _, .exc _ _ _ _ _ => fun _ h => nomatch h
  | _, _, _, .scr _ _ => fun _ h => nomatch h
theorem RepL.own : ∀ {v : List V} {d : List D} {F : List Addr}, RepL M G H v d F → ∀ b ∈ F, G b
  | _, _, _, .nil => fun _ h => nomatch h
  | _, _, _, .cons h t => fun b hb => (List.mem_append.mp hb).elim (fun z => Rep.own h b z) (fun z => RepL.own t b z)
end
theorem RepL.length : ∀ {v : List V} {d : List D} {F : List Addr}, RepL M G H v d F → v.length = d.length
  | _, _, _, .nil => rfl
  | _, _, _, .cons _ t => by rw [List.length_cons, List.length_cons, RepL.length t]
theorem RepL.inv {v : V} {vs : List V} {d : D} {ds : List D} (r : RepL M G H (v :: vs) (d :: ds) []) : Rep M G H v d [] ∧ RepL M G H vs ds [] := by
  generalize hF : ([] : List Addr) = F at r
  cases r with
  | cons h t =>
    obtain ⟨e1, e2⟩ := List.append_eq_nil_iff.mp hF.symm
    subst e1; subst e2
    exact ⟨h, t⟩
theorem RepL.get : ∀ (ds : List D) (vs : List V) (i : Nat) (d : D), RepL M G H vs ds [] → ds[i]? = some d → ∃ v, vs[i]? = some v ∧ Rep M G H v d []
  | [], _, _, _, _, e => by simp at e
  | d0 :: ds, [], i, d, r, e => by have := r.length; simp at this
  | d0 :: ds, v0 :: vs, 0, d, r, e => by simp at e; subst e; exact ⟨_, rfl, r.inv.1⟩
  | d0 :: ds, v0 :: vs, i + 1, d, r, e => by
    obtain ⟨v, h1, h2⟩ := RepL.get ds vs i d r.inv.2 (by simpa using e)
    exact ⟨v, by simpa using h1, h2⟩
mutual
def D.pure : D → Bool
  | .tup xs => D.pures xs
  | .lst o xs => !o && D.pures xs
  | .exc _ v => v.pure
  | _ => true
def D.pures : List D → Bool
  | [] => true
  | d :: ds => d.pure && D.pures ds
end
mutual
theorem Rep.pure : ∀ {v : V} {d : D} {F : List Addr}, Rep M G H v d F → d.pure = true → F = []
  | _, _, _, .non, _ => rfl
  | _, _, _, .bl b, _ => rfl
  | _, _, _, .int i, _ => rfl
  | _, _, _, .str x, _ => rfl
  | _, _, _, .tup s r, h => RepL.pure r (by simpa [D.pure] using h)
  | _, _, _, .lstS _ _ _, _ => rfl
  | _, _, _, .lstO _ _ _, h => by simp [D.pure] at h
  | _, _, _, .edic _, _ => rfl
  | _, _, _, .fn _, _ => rfl
  | _, _, _, .cls _, _ => rfl
  | _, _, _, .exc _ _ _ _ _, _ => rfl
  | _, _, _, .scr _ _, _ => rfl
theorem RepL.pure : ∀ {v : List V} {d : List D} {F : List Addr}, RepL M G H v d F → D.pures d = true → F = []
  | _, _, _, .nil, _ => rfl
  | _, _, _, .cons h t, hp => by
    have hp' := Bool.and_eq_true_iff.mp (by simpa [D.pures] using hp)
    rw [Rep.pure h hp'.1, RepL.pure t hp'.2]; rfl
end
mutual
def D.frz : D → D
  | .tup xs => .tup (D.frzs xs)
  | .lst _ xs => .lst false (D.frzs xs)
  | d => d
def D.frzs : List D → List D
  | [] => []
  | d :: ds => d.frz :: D.frzs ds
end
theorem D.frzs_eq (ds : List D) : D.frzs ds = ds.map D.frz := by
  induction ds with
  | nil => simp [D.frzs]
  | cons d ds ih => simp [D.frzs, ih]
mutual
theorem D.frz_pure : ∀ d : D, d.pure = true → d.frz = d
  | .non, _ => by simp [D.frz]
  | .bl b, _ => by simp [D.frz]
  | .int i, _ => by simp [D.frz]
  | .str x, _ => by simp [D.frz]
  | .tup xs, h => by rw [D.frz, D.frzs_pure xs (by simpa [D.pure] using h)]
  | .lst o xs, h => by
    have h' : o = false ∧ D.pures xs = true := by simpa [D.pure] using h
    rw [D.frz, D.frzs_pure xs h'.2, h'.1]
  | .edic, _ => by simp [D.frz]
  | .fn _, _ => by simp [D.frz]
  | .cls _, _ => by simp [D.frz]
  | .exc _ _, _ => by simp [D.frz]
  | .scr _, _ => by simp [D.frz]
theorem D.frzs_pure : ∀ ds : List D, D.pures ds = true → D.frzs ds = ds
  | [], _ => by simp [D.frzs]
  | d :: ds, h => by
    have h' := Bool.and_eq_true_iff.mp (by simpa [D.pures] using h)
    rw [D.frzs, D.frz_pure d h'.1, D.frzs_pure ds h'.2]
end
/-- given up: what was owned is shared now -/
def drop (G : Addr → Prop) (F : List Addr) : Addr → Prop := fun a => G a ∧ a ∉ F
mutual
theorem Rep.frz {F₀ : List Addr} (g : GOK H G) : ∀ {v : V} {d : D} {F : List Addr}, Rep M G H v d F → (∀ b ∈ F, b ∈ F₀) → Rep M (drop G F₀) H v d.frz []
  | _, _, _, .non, _ => by simp only [D.frz]; exact .non
  | _, _, _, .bl b, _ => by simp only [D.frz]; exact .bl b
  | _, _, _, .int i, _ => by simp only [D.frz]; exact .int i
  | _, _, _, .str x, _ => by simp only [D.frz]; exact .str x
  | _, _, _, .tup s r, h => by rw [D.frz]; exact .tup s (RepL.frz g r h)
  | _, _, _, .lstS e n r, h => by rw [D.frz]; exact .lstS e (fun z => n z.1) (RepL.frz g r (fun _ z => absurd z (by simp)))
  | _, _, _, .lstO e n r, h => by rw [D.frz]; exact .lstS e (fun z => z.2 (h _ List.mem_cons_self)) (RepL.frz g r (fun b z => h b (List.mem_cons_of_mem _ z)))
  | _, _, _, .edic e, _ => by simp only [D.frz]; exact .edic e
  | _, _, _, .fn e, _ => by simp only [D.frz]; exact .fn e
  | _, _, _, .cls e, _ => by simp only [D.frz]; exact .cls e
  | _, _, _, .exc c e1 e2 l r, _ => by
    simp only [D.frz]
    exact .exc c e1 e2 l (Rep.mono g r ⟨fun _ _ q _ => q, fun _ _ _ n z => n z.1, fun _ z => absurd z (by simp)⟩)
  | _, _, _, .scr s l, _ => by simp only [D.frz]; exact .scr s l
theorem RepL.frz {F₀ : List Addr} (g : GOK H G) : ∀ {v : List V} {d : List D} {F : List Addr}, RepL M G H v d F → (∀ b ∈ F, b ∈ F₀) → RepL M (drop G F₀) H v (D.frzs d) []
  | _, _, _, .nil, _ => by rw [D.frzs]; exact .nil
  | _, _, _, .cons h t, hs => by
    rw [D.frzs]
    exact .cons (F := []) (Fs := []) (Rep.frz g h fun b z => hs b (List.mem_append_left _ z)) (RepL.frz g t fun b z => hs b (List.mem_append_right _ z))
end
theorem drop_kp {F : List Addr} : Kp G H (drop G F) H [] := ⟨fun _ _ e _ => e, fun _ _ _ n z => n z.1, fun _ z => absurd z (by simp)⟩
theorem drop_kp' {F F' : List Addr} (g : ∀ b ∈ F', G b) (n : ∀ b ∈ F', b ∉ F) : Kp G H (drop G F) H F' := ⟨fun _ _ e _ => e, fun _ _ _ n z => n z.1, fun b z => ⟨g b z, n b z⟩⟩
theorem drop_gok {F : List Addr} (g : GOK H G) : GOK H (drop G F) := fun a z => g a z.1
end

/-! ### the slots -/
abbrev Env := List (Option D)
def Own (Fs : Nat → List Addr) (a : Addr) : Prop := ∃ i, a ∈ Fs i
structure EnvOK (M : Nm) (G : Addr → Prop) (H : Hp) (σ : St) (ρ : Env) (Fs : Nat → List Addr) : Prop where
  len : ρ.length = σ.length
  at_ : ∀ i d, ρ[i]? = some (some d) → ∃ v, σ[i]? = some (some v) ∧ Rep M G H v d (Fs i)
  non : ∀ i, (∀ d, ρ[i]? ≠ some (some d)) → Fs i = []
  nd : ∀ i, (Fs i).Nodup
  dj : ∀ i j a, i ≠ j → a ∈ Fs i → a ∉ Fs j
section
variable {M : Nm} {G G' : Addr → Prop} {H H' : Hp} {σ : St} {ρ : Env} {Fs : Nat → List Addr}
theorem EnvOK.own (E : EnvOK M G H σ ρ Fs) {a : Addr} (h : Own Fs a) : G a := by
  obtain ⟨i, h⟩ := h
  cases q : ρ[i]? with
  | none => rw [E.non i (fun d z => by rw [q] at z; cases z)] at h; cases h
  | some o =>
    cases o with
    | none => rw [E.non i (fun d z => by rw [q] at z; cases z)] at h; cases h
    | some d =>
      obtain ⟨v, _, r⟩ := E.at_ i d q
      exact r.own a h
/-- nothing of the frame's is touched -/
theorem EnvOK.mono (g : GOK H G) (E : EnvOK M G H σ ρ Fs) (k : ∀ i, Kp G H G' H' (Fs i)) : EnvOK M G' H' σ ρ Fs :=
  ⟨E.len, fun i d e => let ⟨v, e1, r⟩ := E.at_ i d e; ⟨v, e1, r.mono g (k i)⟩, E.non, E.nd, E.dj⟩
end

/-- a value came -/
structure Pst (M : Nm) (σ : St) (G : Addr → Prop) (H : Hp) (O : Addr → Prop) (ρ' : Env) (d : D) (v : V) (G' : Addr → Prop) (H' : Hp) (Fs' : Nat → List Addr) (F : List Addr) : Prop where
  env : EnvOK M G' H' σ ρ' Fs'
  gok : GOK H' G'
  stp : Stp G H O G' H'
  rep : Rep M G' H' v d F
  own : ∀ b, (b ∈ F ∨ Own Fs' b) → (O b ∨ H b = none)
  nd : F.Nodup
  dj : ∀ b ∈ F, ¬ Own Fs' b
/-- several came -/
structure Psts (M : Nm) (σ : St) (G : Addr → Prop) (H : Hp) (O : Addr → Prop) (ρ' : Env) (ds : List D) (vs : List V) (G' : Addr → Prop) (H' : Hp) (Fs' : Nat → List Addr) (F : List Addr) : Prop where
  env : EnvOK M G' H' σ ρ' Fs'
  gok : GOK H' G'
  stp : Stp G H O G' H'
  rep : RepL M G' H' vs ds F
  own : ∀ b, (b ∈ F ∨ Own Fs' b) → (O b ∨ H b = none)
  nd : F.Nodup
  dj : ∀ b ∈ F, ¬ Own Fs' b
/-- an exception came -/
structure Pex (M : Nm) (σ : St) (G : Addr → Prop) (H : Hp) (O : Addr → Prop) (ρ' : Env) (c : String) (d : D) (C dd : Addr) (G' : Addr → Prop) (H' : Hp) (Fs' : Nat → List Addr) : Prop where
  env : EnvOK M G' H' σ ρ' Fs'
  gok : GOK H' G'
  stp : Stp G H O G' H'
  cl : M.cl c = some C
  fld : ∃ fs u, H' dd = some (.xd fs) ∧ fs.lookup ("value" : Str) = some u ∧ Rep M G' H' u d []
  own : ∀ b, Own Fs' b → (O b ∨ H b = none)
end VI

set_option maxHeartbeats 200000
set_option synthInstance.maxSize 128
set_option synthInstance.maxHeartbeats 20000
namespace VI
open PySem L2

inductive Ty where
  | int | bool | str | tuple | list | dict
  deriving DecidableEq
def Ty.name : Ty → String
  | .int => "int" | .bool => "bool" | .str => "str" | .tuple => "tuple" | .list => "list" | .dict => "dict"
inductive BI where
  | len | int | abs | all | any | sum | max | min | sorted | list | tuple | repr | max2 | min2 | bitlen
  deriving DecidableEq

/-- targets -/
inductive Tg where
  | n (i : Nat) | t (ts : Tg) | nil | cons (h r : Tg)

/-- expressions; slots by number, names of the text by their letters -/
inductive E where
  | non | bl (b : Bool) | int (i : Int) | str (x : String)
  | var (i : Nat) | mov (i : Nat) | bor (i : Nat) | fzs (i : Nat)
  | gi (x : String) (i : Int) | fn (f : String) | cls (c : String)
  | frz (e : E) | frzi (e : E)
  | nil | cons (h r : E)
  | tup (es : E) | lst (es : E) | edic
  | bin (op : Operator) (a b : E) | neg (a : E) | not (a : E)
  | cmp (op : CmpOp) (a b : E) | cmp2 (o1 o2 : CmpOp) (a b c : E)
  | and (a b : E) | or (a b : E) | ite (c a b : E)
  | idx (a i : E) | sl (a lo hi : E)
  | call (f : String) (as : E) | callk (f : String) (names : List String) (perm : List Nat) (as ks : E)
  | callv (i : Nat) (as : E) | calli (f : String) (i : Nat) (as : E)
  | callb (f : String) (i : Nat) (e as : E)
  | bi (b : BI) (as : E) | isi (a : E) (ts : List Ty) | lrg (a : E)
  | comp (own : List (String × Nat)) (tg : Tg) (it c elt : E)
  | rng (a : E) | rng2 (a b : E) | enum (a : E) | zip (a b : E) (strict : Bool)
  | pop (i : Nat) (a : E) | pop0 (i : Nat) | fld (a : E)

inductive S where
  | nil | seq (s t : S)
  | asg (tg : Tg) (e : E) | par (is : List Nat) (es : E)
  | seti (i : Nat) (ix e : E) | app (i : Nat) (e : E) | ex (e : E)
  | ifs (c : E) (a b : S) | whl (c : E) (b : S) | for (tg : Tg) (it : E) (b : S)
  | ret (e : E) | retn | pass | brk | cnt | raise (c : String) (e : E)
  | try (b : S) (hs : S) | hnd (c : String) (i : Nat) (s : S) | dead

/-! ### what operators give -/
def D.py : D → Option PyData
  | .non => some .none
  | .bl b => some (.bool b)
  | .int i => some (.int i)
  | .str x => some (.str x)
  | .tup xs => (pys xs).map .tuple
  | .lst _ xs => (pys xs).map .list
  | .edic => some (.dict [])
  | _ => none
where pys : List D → Option (List PyData)
  | [] => some []
  | d :: ds => (d.py).bind fun p => (pys ds).map (p :: ·)

def truth : D → Option Bool
  | .non => some false
  | .bl b => some b
  | .int i => some (i != 0)
  | .str x => if x.length ≤ sizeLine then some ((x.length : Int) != 0) else none
  | .tup xs => some (!xs.isEmpty)
  | .lst _ xs => some (!xs.isEmpty)
  | .scr ns => some (!ns.isEmpty)
  | .edic => some false
  | _ => none
def itemsOf : D → Option (List D)
  | .tup xs => some xs
  | .lst _ xs => some xs
  | .scr ns => some (ns.map .int)
  | _ => none
def small (i : Int) : Bool := decide (-(2 ^ 62) ≤ i) && decide (i < 2 ^ 62)
def binD (op : Operator) (x y : D) : Option D :=
  match op, x, y with
  | .Add, .int i, .int j => some (.int (i + j))
  | .Sub, .int i, .int j => some (.int (i - j))
  | .Mult, .int i, .int j => if i.natAbs.log2 + j.natAbs.log2 < 1000000 then some (.int (i * j)) else none
  | .FloorDiv, .int i, .int j => if 0 < j ∧ j.natAbs.log2 < 9000 then some (.int (i / j)) else none
  | .Mod, .int i, .int j => if 0 < j then some (.int (i % j)) else none
  | .Pow, .int i, .int j => if 0 ≤ j ∧ (i.natAbs.log2 + 1) * j.toNat ≤ 134217728 then some (.int (i ^ j.toNat)) else none
  | .Add, .lst _ xs, .lst _ ys => if D.pures xs && D.pures ys && decide (xs.length + ys.length ≤ sizeLine) then some (.lst true (xs ++ ys)) else none
  | .Mult, .lst _ xs, .int k => if D.pures xs && small k && decide (xs.length * k.toNat ≤ sizeLine) then some (.lst true (List.replicate k.toNat xs).flatten) else none
  | .Add, .tup xs, .tup ys => if D.pures xs && D.pures ys && decide (xs.length + ys.length ≤ sizeLine) then some (.tup (xs ++ ys)) else none
  | .Add, .str x, .str y => if x.length + y.length ≤ sizeLine then some (.str (x ++ y)) else none
  | _, _, _ => none
def flatD : D → Bool
  | .non | .bl _ | .int _ | .str _ => true
  | _ => false
def eqF : D → D → Bool
  | .non, .non => true
  | .bl a, .bl b => a == b
  | .bl a, .int b => (if a then 1 else 0) == b
  | .int a, .bl b => a == (if b then 1 else 0)
  | .int a, .int b => a == b
  | .str a, .str b => a == b
  | _, _ => false
def eqD (x y : D) : Option Bool :=
  if flatD x && flatD y then some (eqF x y) else
  match x.py, y.py with
  | some a, some b => if SeqAt.shaped a && SeqAt.shaped b then some (PyData.eqv a b) else none
  | _, _ => none
def inD (x y : D) : Option Bool := match y with
  | .tup ys => if flatD x && ys.all flatD then some (ys.any fun z => eqF z x) else none
  | .lst _ ys => if flatD x && ys.all flatD then some (ys.any fun z => eqF z x) else
    match x.py, D.py.pys ys with
    | some a, some bs => if SeqAt.shaped a && SeqAt.shaped (.list bs) then some (bs.any fun z => PyData.eqv z a) else none
    | _, _ => none
  | _ => none
def isD (x y : D) : Option Bool := match y with
  | .non => (match x with
    | .non => some true
    | .scr _ => none
    | _ => some false)
  | .bl b => (match x with
    | .bl a => some (decide (a = b))
    | _ => some false)
  | _ => none
def cmpD (op : CmpOp) (x y : D) : Option Bool :=
  match op with
  | .Eq => eqD x y
  | .NotEq => (eqD x y).map (!·)
  | .In => inD x y
  | .NotIn => (inD x y).map (!·)
  | .Is => isD x y
  | .IsNot => (isD x y).map (!·)
  | .Lt => match x, y with | .int i, .int j => some (decide (i < j)) | _, _ => none
  | .LtE => match x, y with | .int i, .int j => some (decide (i ≤ j)) | _, _ => none
  | .Gt => match x, y with | .int i, .int j => some (decide (j < i)) | _, _ => none
  | .GtE => match x, y with | .int i, .int j => some (decide (j ≤ i)) | _, _ => none
def idxD (a i : D) : Option D := match a, i with
  | .tup xs, .int k => (atI xs k).bind fun d => if d.pure then some d else none
  | .lst _ xs, .int k => (atI xs k).bind fun d => if d.pure then some d else none
  | .scr ns, .int k => (atI ns k).map .int
  | .str x, .int k => if x.length ≤ sizeLine then (atI x.cps.toList k).map fun c => .str ⟨#[c]⟩ else none
  | _, _ => none
def cut {α : Type} (xs : List α) (lo hi : Option Int) : List α :=
  (xs.drop (HT.sIx xs.length 0 lo)).take (HT.sIx xs.length xs.length hi - HT.sIx xs.length 0 lo)
def slD (a : D) (lo hi : Option Int) : Option D := match a with
  | .lst _ xs => if D.pures xs then some (.lst true (cut xs lo hi)) else none
  | .scr ns => some (.lst true ((cut ns lo hi).map .int))
  | .tup xs => if D.pures xs then some (.tup (cut xs lo hi)) else none
  | _ => none
def intsOf : List D → Option (List Int)
  | [] => some []
  | .int i :: r => (intsOf r).map (i :: ·)
  | _ => none
def boolsOf : List D → Option (List Bool)
  | [] => some []
  | .bl i :: r => (boolsOf r).map (i :: ·)
  | _ => none
/-- the ints in order -/
def insI (i : Int) : List Int → List Int
  | [] => [i]
  | j :: r => if i ≤ j then i :: j :: r else j :: insI i r
def sortI : List Int → List Int
  | [] => []
  | i :: r => insI i (sortI r)
def maxI : Int → List Int → Int
  | m, [] => m
  | m, j :: r => maxI (if m < j then j else m) r
def minI : Int → List Int → Int
  | m, [] => m
  | m, j :: r => minI (if j < m then j else m) r
def bitLen (i : Int) : Nat := Builtin.Int.intBits i
def biD (b : BI) (as : List D) : Option D :=
  match b, as with
  | .len, [.str x] => if x.length ≤ sizeLine then some (.int x.length) else none
  | .len, [.tup xs] => some (.int xs.length)
  | .len, [.lst _ xs] => some (.int xs.length)
  | .len, [.scr ns] => some (.int ns.length)
  | .int, [.int i] => some (.int i)
  | .int, [.bl b] => some (.int (if b then 1 else 0))
  | .abs, [.int i] => some (.int (if i < 0 then -i else i))
  | .max2, [.int i, .int j] => some (.int (if j > i then j else i))
  | .min2, [.int i, .int j] => some (.int (if j < i then j else i))
  | .sum, [.lst _ xs] => (intsOf xs).map fun ns => .int ns.sum
  | .sum, [.scr ns] => some (.int ns.sum)
  | .max, [.lst _ xs] => (intsOf xs).bind fun ns => match ns with | [] => none | n :: r => some (.int (maxI n r))
  | .min, [.lst _ xs] => (intsOf xs).bind fun ns => match ns with | [] => none | n :: r => some (.int (minI n r))
  | .sorted, [.lst _ xs] => (intsOf xs).map fun ns => .lst true ((sortI ns).map .int)
  | .all, [.lst _ xs] => (boolsOf xs).map fun bs => .bl (bs.all id)
  | .any, [.lst _ xs] => (boolsOf xs).map fun bs => .bl (bs.any id)
  | .list, [.lst _ xs] => if D.pures xs then some (.lst true xs) else none
  | .list, [.tup xs] => if D.pures xs then some (.lst true xs) else none
  | .list, [.scr ns] => some (.lst true (ns.map .int))
  | .tuple, [.lst _ xs] => if D.pures xs then some (.tup xs) else none
  | .tuple, [.tup xs] => if D.pures xs then some (.tup xs) else none
  | .repr, [.edic] => some (.str "{}")
  | .repr, [d] => d.py.bind fun p => if p.showable && SeqAt.shaped p && decide (p.shown.length ≤ sizeLine) then some (.str p.shown) else none
  | .bitlen, [.int i] => some (.int (bitLen i))
  | _, _ => none
def tyD : D → Option Ty
  | .bl _ => some .bool | .int _ => some .int | .str _ => some .str | .tup _ => some .tuple | .lst _ _ => some .list
  | .edic => some .dict
  | _ => none
def isiT : Option Ty → Ty → Bool
  | some .bool, .int => true
  | some a, b => decide (a = b)
  | none, _ => false
def isiD (d : D) (ts : List Ty) : Option D := match d with
  | .non => some (.bl false)
  | .fn _ | .cls _ | .exc _ _ | .scr _ => none
  | d => some (.bl (ts.any fun t => isiT (tyD d) t))

/-! ### evaluation -/
inductive R where
  | ok (d : D) (ρ : Env) | ex (c : String) (d : D) (ρ : Env)
inductive CR' where
  | ok (d : D) (io : D) | ex (c : String) (d : D)
abbrev Gam := String → List D → Option CR'
def bindR : Option R → (D → Env → Option R) → Option R
  | some (.ok d ρ), k => k d ρ
  | some (.ex c d ρ), _ => some (.ex c d ρ)
  | none, _ => none
def slot (ρ : Env) (i : Nat) : Option D := (ρ[i]?).join
/-- the value of an operand, looked at behind the later ones -/
def late (a : E) (d : D) (ρ : Env) : Option D := match a with
  | .bor i => slot ρ i
  | _ => some d
/-- what a callee sees of it -/
def seen (a : E) (d : D) : D := match a with
  | .bor _ => d.frz
  | _ => d
def impure (a : E) (d : D) : Bool := match a with
  | .bor _ => !d.pure
  | _ => false
mutual
/-- no list in it is shared -/
def D.nosh : D → Bool
  | .tup xs => D.noshs xs
  | .lst o xs => o && D.noshs xs
  | .exc _ v => v.nosh
  | _ => true
def D.noshs : List D → Bool
  | [] => true
  | d :: ds => d.nosh && D.noshs ds
end
structure Sm where
  v : Env → Option R
  t : Env → Option R
  as : Env → Option R
  it : Env → Option R
def mkV (f : Env → Option R) : Sm where
  v := f
  t := fun ρ => bindR (f ρ) fun d ρ => (truth d).map fun b => .ok (.bl b) ρ
  as := fun _ => none
  it := fun ρ => bindR (f ρ) fun d ρ => (itemsOf d).map fun ds => .ok (.tup ds) ρ
def partD : E → D → Option (Option Int)
  | .nil, _ => some none
  | _, .int i => some (some i)
  | _, _ => none
def isBor : E → Bool
  | .bor _ => true
  | _ => false
def tupOf : D → List D
  | .tup xs => xs
  | _ => []
/-- as: the arguments as (seen) values; whether one of them is borrowed and owned -/
def anyImp : E → List D → Bool
  | .cons h r, d :: ds => impure h d || anyImp r ds
  | _, _ => false
def seens : E → List D → List D
  | .cons h r, d :: ds => seen h d :: seens r ds
  | _, ds => ds
/-- behind a call -/
def afterCall (imp : Bool) (r : Option CR') (k : D → D → Option R) (ρ : Env) : Option R := match r with
  | some (.ok d io) => if imp && !(d.nosh && io.nosh) then none else k d io
  | some (.ex c d) => if imp && !d.nosh then none else some (.ex c d ρ)
  | none => none
mutual
def assignT : Tg → D → Env → Option Env
  | .n i, d, ρ => some (ρ.set i (some d))
  | .t ts, .tup ds, ρ => assignTs ts ds ρ
  | _, _, _ => none
def assignTs : Tg → List D → Env → Option Env
  | .nil, [], ρ => some ρ
  | .cons h r, d :: ds, ρ => (assignT h d ρ).bind fun ρ1 => assignTs r ds ρ1
  | _, _, _ => none
end
def wipeE (ρ : Env) : List Nat → Env
  | [] => ρ
  | i :: r => (wipeE ρ r).set i none
def compLoop (own : List Nat) (tg : Tg) (c elt : Env → Option R) : List D → List D → Env → Option R
  | [], acc, ρ => some (.ok (.lst true acc) ρ)
  | d :: ds, acc, ρ => (assignT tg d (wipeE ρ own)).bind fun ρ1 => match c ρ1 with
    | some (.ok (.bl true) ρ2) => (match elt ρ2 with
      | some (.ok y ρ3) => if acc.length < sizeLine then compLoop own tg c elt ds (acc ++ [y]) ρ3 else none
      | _ => none)
    | some (.ok (.bl false) ρ2) => compLoop own tg c elt ds acc ρ2
    | _ => none
/-- the slots as they were ahead -/
def restore (ρ0 ρ : Env) : List Nat → Env
  | [] => ρ
  | i :: r => (restore ρ0 ρ r).set i (slot ρ0 i)
/-- the slots whose lists are walked -/
def locks : E → List Nat
  | .bor i => [i]
  | .enum a => locks a
  | .zip a b _ => locks a ++ locks b
  | _ => []
def rangeD (i j : Int) : List D := (List.range (j - i).toNat).map fun k => .int (i + (k : Nat))
def enumD : Nat → List D → List D
  | _, [] => []
  | k, d :: ds => .tup [.int (k : Nat), d] :: enumD (k + 1) ds
def zipD : List D → List D → List D
  | d :: ds, e :: es => .tup [d, e] :: zipD ds es
  | _, _ => []
def lstOf : D → Option (List D)
  | .lst _ xs => if D.pures xs then some xs else none
  | _ => none
def permD (ds : List D) : List Nat → Option (List D)
  | [] => some []
  | i :: r => (ds[i]?).bind fun d => (permD ds r).map (d :: ·)

def ev (Γ : Gam) : E → Sm
  | .non => mkV fun ρ => some (.ok .non ρ)
  | .bl b => mkV fun ρ => some (.ok (.bl b) ρ)
  | .int i => mkV fun ρ => some (.ok (.int i) ρ)
  | .str x => mkV fun ρ => some (.ok (.str x) ρ)
  | .var i => mkV fun ρ => (slot ρ i).bind fun d => if d.pure then some (.ok d ρ) else none
  | .mov i => mkV fun ρ => (slot ρ i).map fun d => .ok d (ρ.set i none)
  | .bor i => mkV fun ρ => (slot ρ i).map fun d => .ok d ρ
  | .fzs i => mkV fun ρ => (slot ρ i).map fun d => .ok d.frz (ρ.set i (some d.frz))
  | .gi _ i => mkV fun ρ => some (.ok (.int i) ρ)
  | .fn f => mkV fun ρ => some (.ok (.fn f) ρ)
  | .cls c => mkV fun ρ => some (.ok (.cls c) ρ)
  | .frz e => mkV fun ρ => bindR ((ev Γ e).v ρ) fun d ρ => some (.ok d.frz ρ)
  | .frzi e => mkV fun ρ => bindR ((ev Γ e).v ρ) fun d ρ => match d with
    | .lst true xs => some (.ok (.lst true (D.frzs xs)) ρ)
    | _ => none
  | .nil => ⟨fun ρ => some (.ok .non ρ), fun ρ => some (.ok (.bl true) ρ), fun ρ => some (.ok (.tup []) ρ), fun _ => none⟩
  | .cons h r => ⟨fun _ => none, fun _ => none, fun ρ => bindR ((ev Γ h).v ρ) fun d ρ1 => bindR ((ev Γ r).as ρ1) fun ds ρ2 =>
      (late h d ρ2).map fun d' => .ok (.tup (d' :: tupOf ds)) ρ2, fun _ => none⟩
  | .tup es => mkV fun ρ => bindR ((ev Γ es).as ρ) fun ds ρ => if (tupOf ds).length ≤ sizeLine then some (.ok (.tup (tupOf ds)) ρ) else none
  | .lst es => mkV fun ρ => bindR ((ev Γ es).as ρ) fun ds ρ => if (tupOf ds).length ≤ sizeLine then some (.ok (.lst true (tupOf ds)) ρ) else none
  | .edic => mkV fun ρ => some (.ok .edic ρ)
  | .bin op a b => mkV fun ρ => bindR ((ev Γ a).v ρ) fun x ρ1 => bindR ((ev Γ b).v ρ1) fun y ρ2 =>
      (late a x ρ2).bind fun x => (binD op x y).map fun d => .ok d ρ2
  | .neg a => mkV fun ρ => bindR ((ev Γ a).v ρ) fun x ρ => match x with
    | .int i => some (.ok (.int (-i)) ρ)
    | _ => none
  | .not a => { mkV (fun ρ => bindR ((ev Γ a).v ρ) fun x ρ => (truth x).map fun k => .ok (.bl (!k)) ρ) with
      t := fun ρ => bindR ((ev Γ a).t ρ) fun x ρ => match x with
        | .bl k => some (.ok (.bl (!k)) ρ)
        | _ => none }
  | .cmp op a b => mkV fun ρ => bindR ((ev Γ a).v ρ) fun x ρ1 => bindR ((ev Γ b).v ρ1) fun y ρ2 =>
      (late a x ρ2).bind fun x => (cmpD op x y).map fun k => .ok (.bl k) ρ2
  | .cmp2 o1 o2 a b c => mkV fun ρ => bindR ((ev Γ a).v ρ) fun x ρ1 => bindR ((ev Γ b).v ρ1) fun y ρ2 =>
      (cmpD o1 x y).bind fun k => if k then bindR ((ev Γ c).v ρ2) fun z ρ3 => (cmpD o2 y z).map fun k => .ok (.bl k) ρ3 else some (.ok (.bl false) ρ2)
  | .and a b => { mkV (fun ρ => bindR ((ev Γ a).v ρ) fun x ρ1 => (truth x).bind fun k => if k then (ev Γ b).v ρ1 else some (.ok x ρ1)) with
      t := fun ρ => bindR ((ev Γ a).t ρ) fun x ρ1 => match x with
        | .bl true => (ev Γ b).t ρ1
        | .bl false => some (.ok (.bl false) ρ1)
        | _ => none }
  | .or a b => { mkV (fun ρ => bindR ((ev Γ a).v ρ) fun x ρ1 => (truth x).bind fun k => if k then some (.ok x ρ1) else (ev Γ b).v ρ1) with
      t := fun ρ => bindR ((ev Γ a).t ρ) fun x ρ1 => match x with
        | .bl true => some (.ok (.bl true) ρ1)
        | .bl false => (ev Γ b).t ρ1
        | _ => none }
  | .ite c a b => mkV fun ρ => bindR ((ev Γ c).t ρ) fun x ρ1 => match x with
    | .bl true => (ev Γ a).v ρ1
    | .bl false => (ev Γ b).v ρ1
    | _ => none
  | .idx a i => mkV fun ρ => bindR ((ev Γ a).v ρ) fun x ρ1 => bindR ((ev Γ i).v ρ1) fun y ρ2 =>
      (late a x ρ2).bind fun x => (idxD x y).map fun d => .ok d ρ2
  | .sl a lo hi => mkV fun ρ => bindR ((ev Γ a).v ρ) fun x ρ1 => bindR ((ev Γ lo).v ρ1) fun y ρ2 => (partD lo y).bind fun l => bindR ((ev Γ hi).v ρ2) fun z ρ3 =>
      (late a x ρ3).bind fun x => (partD hi z).bind fun h => (slD x l h).map fun d => .ok d ρ3
  | .call f as => mkV fun ρ => bindR ((ev Γ as).as ρ) fun ds ρ => afterCall (anyImp as (tupOf ds)) (Γ f (seens as (tupOf ds))) (fun d _ => some (.ok d ρ)) ρ
  | .callk f _ perm as ks => mkV fun ρ => bindR ((ev Γ as).as ρ) fun ds ρ => bindR ((ev Γ ks).as ρ) fun es ρ =>
      if D.pures (tupOf ds) && D.pures (tupOf es) then (permD (tupOf ds ++ tupOf es) perm).bind fun vs => afterCall false (Γ f vs) (fun d _ => some (.ok d ρ)) ρ else none
  | .callv i as => mkV fun ρ => match slot ρ i with
    | some (.fn f) => bindR ((ev Γ as).as ρ) fun ds ρ => afterCall (anyImp as (tupOf ds)) (Γ f (seens as (tupOf ds))) (fun d _ => some (.ok d ρ)) ρ
    | _ => none
  | .calli f i as => mkV fun ρ => (slot ρ i).bind fun _ => bindR ((ev Γ as).as ρ) fun ds ρ => (slot ρ i).bind fun x =>
      afterCall (anyImp as (tupOf ds)) (Γ f (x :: seens as (tupOf ds))) (fun d io => some (.ok d (ρ.set i (some io)))) (ρ.set i none)
  | .callb f i e as => mkV fun ρ => (slot ρ i).bind fun _ => bindR ((ev Γ e).v ρ) fun d ρ1 => bindR ((ev Γ as).as ρ1) fun ds ρ2 => (slot ρ2 i).bind fun x =>
      if d.pure then afterCall (!x.pure) (Γ f (.lst false [x.frz, d] :: tupOf ds)) (fun d _ => some (.ok d ρ2)) ρ2 else none
  | .bi b as => mkV fun ρ => bindR ((ev Γ as).as ρ) fun ds ρ => (biD b (tupOf ds)).map fun d => .ok d ρ
  | .isi a ts => mkV fun ρ => bindR ((ev Γ a).v ρ) fun x ρ => (isiD x ts).map fun d => .ok d ρ
  | .lrg a => mkV fun ρ => bindR ((ev Γ a).v ρ) fun x ρ => match x with
    | .int j => if decide (-(2 ^ 62) ≤ j) && decide (j ≤ (sizeLine : Nat)) then some (.ok (.lst true (rangeD 0 j)) ρ) else none
    | _ => none
  | .comp own tg it c elt => mkV fun ρ => bindR ((ev Γ it).it ρ) fun ds ρ1 =>
      if D.pures (tupOf ds) then
        bindR (compLoop (own.map (·.2)) tg (ev Γ c).t (ev Γ elt).v (tupOf ds) [] (wipeE ρ1 (locks it ++ own.map (·.2)))) fun d ρ2 =>
          some (.ok d (restore ρ1 ρ2 (locks it ++ own.map (·.2))))
      else none
  | .rng a => ⟨fun _ => none, fun _ => none, fun _ => none, fun ρ => bindR ((ev Γ a).v ρ) fun x ρ => match x with
    | .int j => if small j then some (.ok (.tup (rangeD 0 j)) ρ) else none
    | _ => none⟩
  | .rng2 a b => ⟨fun _ => none, fun _ => none, fun _ => none, fun ρ => bindR ((ev Γ a).v ρ) fun x ρ1 => bindR ((ev Γ b).v ρ1) fun y ρ2 => match x, y with
    | .int i, .int j => if small i && small j then some (.ok (.tup (rangeD i j)) ρ2) else none
    | _, _ => none⟩
  | .enum a => ⟨fun _ => none, fun _ => none, fun _ => none, fun ρ => bindR ((ev Γ a).v ρ) fun x ρ =>
      (lstOf x).map fun xs => .ok (.tup (enumD 0 xs)) ρ⟩
  | .zip a b st => ⟨fun _ => none, fun _ => none, fun _ => none, fun ρ => bindR ((ev Γ a).v ρ) fun x ρ1 => bindR ((ev Γ b).v ρ1) fun y ρ2 =>
      (late a x ρ2).bind fun x => (lstOf x).bind fun xs => (lstOf y).bind fun ys => if st && xs.length != ys.length then none else some (.ok (.tup (zipD xs ys)) ρ2)⟩
  | .pop i a => mkV fun ρ => match slot ρ i with
    | some (.lst true _) => bindR ((ev Γ a).v ρ) fun y ρ => (match slot ρ i, y with
      | some (.lst true xs), .int k => if D.pures xs && small k then
          (seqIndex? k xs.length).bind fun j => (xs[j]?).map fun d => .ok d (ρ.set i (some (.lst true (xs.eraseIdx j))))
        else none
      | _, _ => none)
    | _ => none
  | .pop0 i => mkV fun ρ => match slot ρ i with
    | some (.lst true xs) => if D.pures xs then (xs[xs.length - 1]?).map fun d => .ok d (ρ.set i (some (.lst true xs.dropLast))) else none
    | _ => none
  | .fld a => mkV fun ρ => bindR ((ev Γ a).v ρ) fun x ρ => match x with
    | .exc _ v => some (.ok v ρ)
    | _ => none

inductive SR where
  | nx (ρ : Env) | rt (d : D) (ρ : Env) | bk (ρ : Env) | ct (ρ : Env) | ex (c : String) (d : D) (ρ : Env)
def bindS : Option R → (D → Env → Option SR) → Option SR
  | some (.ok d ρ), k => k d ρ
  | some (.ex c d ρ), _ => some (.ex c d ρ)
  | none, _ => none
def forLoop (tg : Tg) (f : Env → Option SR) : List D → Env → Option SR
  | [], ρ => some (.nx ρ)
  | d :: ds, ρ => (assignT tg d ρ).bind fun ρ1 => match f ρ1 with
    | some (.nx ρ2) => forLoop tg f ds ρ2
    | some (.ct ρ2) => forLoop tg f ds ρ2
    | some (.bk ρ2) => some (.nx ρ2)
    | r => r
def whileLoop (c : Env → Option R) (f : Env → Option SR) : Nat → Env → Option SR
  | 0, _ => none
  | n + 1, ρ => bindS (c ρ) fun x ρ1 => match x with
    | .bl true => (match f ρ1 with
      | some (.nx ρ2) => whileLoop c f n ρ2
      | some (.ct ρ2) => whileLoop c f n ρ2
      | some (.bk ρ2) => some (.nx ρ2)
      | r => r)
    | .bl false => some (.nx ρ1)
    | _ => none
def fuel0 : Nat := 1000000000
def setAll : List Nat → List D → Env → Env
  | i :: is, d :: ds, ρ => setAll is ds (ρ.set i (some d))
  | _, _, ρ => ρ
/-- the first clause that takes the exception; up: which class is below which -/
def evS (Γ : Gam) (up : String → String → Bool) : S → Env → Option SR
  | .nil, ρ => some (.nx ρ)
  | .seq s t, ρ => match evS Γ up s ρ with
    | some (.nx ρ1) => evS Γ up t ρ1
    | r => r
  | .asg tg e, ρ => bindS ((ev Γ e).v ρ) fun d ρ => (assignT tg d ρ).map .nx
  | .par is es, ρ => bindS ((ev Γ es).as ρ) fun ds ρ => if (tupOf ds).length = is.length then some (.nx (setAll is (tupOf ds) ρ)) else none
  | .seti i ix e, ρ => bindS ((ev Γ e).v ρ) fun d ρ => match slot ρ i with
    | some (.lst true _) => bindS ((ev Γ ix).v ρ) fun k ρ => (match slot ρ i, k with
      | some (.lst true xs), .int k => if D.pures xs && d.pure then (ixN xs.length k).map fun j => .nx (ρ.set i (some (.lst true (xs.set j d)))) else none
      | _, _ => none)
    | _ => none
  | .app i e, ρ => match slot ρ i with
    | some (.lst true _) => bindS ((ev Γ e).v ρ) fun d ρ => (match slot ρ i with
      | some (.lst true xs) => if xs.length < sizeLine then some (.nx (ρ.set i (some (.lst true (xs ++ [d]))))) else none
      | _ => none)
    | _ => none
  | .ex e, ρ => bindS ((ev Γ e).v ρ) fun _ ρ => some (.nx ρ)
  | .ifs c a b, ρ => bindS ((ev Γ c).t ρ) fun x ρ => match x with
    | .bl true => evS Γ up a ρ
    | .bl false => evS Γ up b ρ
    | _ => none
  | .whl c b, ρ => whileLoop (ev Γ c).t (evS Γ up b) fuel0 ρ
  | .for tg it b, ρ => bindS ((ev Γ it).it ρ) fun ds ρ1 =>
      if D.pures (tupOf ds) then forLoop tg (evS Γ up b) (tupOf ds) ρ1 else none
  | .ret e, ρ => bindS ((ev Γ e).v ρ) fun d ρ => some (.rt d ρ)
  | .retn, ρ => some (.rt .non ρ)
  | .pass, ρ => some (.nx ρ)
  | .brk, ρ => some (.bk ρ)
  | .cnt, ρ => some (.ct ρ)
  | .raise c e, ρ => bindS ((ev Γ e).v ρ) fun d ρ => if d.pure then some (.ex c d ρ) else none
  | .try b hs, ρ => match evS Γ up b ρ with
    | some (.ex c d ρ1) => handle c d ρ1 hs
    | r => r
  | .hnd _ _ _, _ => none
  | .dead, _ => none
where handle (c : String) (d : D) (ρ : Env) : S → Option SR
  | .seq (.hnd c' i s) r => if up c c' then (match evS Γ up s (ρ.set i (some (.exc c d))) with
      | some (.nx ρ2) => some (.nx (ρ2.set i none))
      | some (.rt d ρ2) => some (.rt d (ρ2.set i none))
      | _ => none) else handle c d ρ r
  | .nil => some (.ex c d ρ)
  | _ => none

/-- a def -/
structure Fn where
  ps : List String
  N : List String
  io : Bool
  body : S
abbrev Tab := String → Option Fn
def runFn (Γ : Gam) (up : String → String → Bool) (f : Fn) (ds : List D) : Option CR' :=
  if ds.length = f.ps.length then
    match evS Γ up f.body (ds.map some ++ List.replicate (f.N.length - ds.length) none) with
    | some (.nx ρ) => fin .non ρ
    | some (.rt d ρ) => fin d ρ
    | some (.ex c d _) => some (.ex c d)
    | _ => none
  else none
where fin (d : D) (ρ : Env) : Option CR' := if f.io then (match slot ρ 0 with
    | some (.lst true xs) => some (.ok d (.lst true xs))
    | _ => none) else some (.ok d .non)
def callN (T : Tab) (up : String → String → Bool) : Nat → Gam
  | 0, _, _ => none
  | n + 1, f, ds => (T f).bind fun g => runFn (callN T up n) up g ds
end VI

set_option maxHeartbeats 200000
set_option synthInstance.maxSize 128
set_option synthInstance.maxHeartbeats 20000
namespace VI
open PySem L2

/-! ### how an evaluation may end -/
def Fin (M : Nm) (W : WX) (σ : St) (Q : VK) (G : Addr → Prop) (H : Hp) (O : Addr → Prop) (r : R) : Prop := match r with
  | .ok d ρ' => ∀ v G' H' Fs' F, Pst M σ G H O ρ' d v G' H' Fs' F → Q v H'
  | .ex c d ρ' => ∀ C dd G' H' Fs', Pex M σ G H O ρ' c d C dd G' H' Fs' → W (.ref C) (some dd) σ H'
/-- only the frame's state came -/
structure Pen (M : Nm) (σ : St) (G : Addr → Prop) (H : Hp) (O : Addr → Prop) (ρ' : Env) (G' : Addr → Prop) (H' : Hp) (Fs' : Nat → List Addr) : Prop where
  env : EnvOK M G' H' σ ρ' Fs'
  gok : GOK H' G'
  stp : Stp G H O G' H'
  own : ∀ b, Own Fs' b → (O b ∨ H b = none)
def FinT (M : Nm) (W : WX) (σ : St) (Q : Bool → Hp → Prop) (G : Addr → Prop) (H : Hp) (O : Addr → Prop) (r : R) : Prop := match r with
  | .ok (.bl b) ρ' => ∀ G' H' Fs', Pen M σ G H O ρ' G' H' Fs' → Q b H'
  | .ok _ _ => False
  | .ex c d ρ' => ∀ C dd G' H' Fs', Pex M σ G H O ρ' c d C dd G' H' Fs' → W (.ref C) (some dd) σ H'
def tD (M : Nm) (W : WX) (f : Env → Option R) : TE := fun σ H Q => ∃ ρ G Fs r, EnvOK M G H σ ρ Fs ∧ GOK H G ∧ f ρ = some r ∧ Fin M W σ Q G H (Own Fs) r
def tT (M : Nm) (W : WX) (f : Env → Option R) : TT := fun σ H Q => ∃ ρ G Fs r, EnvOK M G H σ ρ Fs ∧ GOK H G ∧ f ρ = some r ∧ FinT M W σ Q G H (Own Fs) r
def tO (M : Nm) (W : WX) (Γ : Gam) : E → TE
  | .bor i => tVar i
  | a => tD M W (ev Γ a).v

section
variable {M : Nm} {W : WX} {Γ : Gam} {σ : St} {ρ ρ' ρ1 : Env} {G G' G1 : Addr → Prop} {H H' H1 : Hp} {Fs Fs' Fs1 : Nat → List Addr} {O : Addr → Prop} {r : R}
theorem Pen.refl (e : EnvOK M G H σ ρ Fs) (g : GOK H G) : Pen M σ G H (Own Fs) ρ G H Fs := ⟨e, g, .refl, fun _ h => .inl h⟩
theorem Pst.pen {d : D} {v : V} {F : List Addr} (p : Pst M σ G H O ρ' d v G' H' Fs' F) : Pen M σ G H O ρ' G' H' Fs' := ⟨p.env, p.gok, p.stp, fun b h => p.own b (.inr h)⟩
theorem Pen.trans {G2 : Addr → Prop} {H2 : Hp} {Fs2 : Nat → List Addr} {ρ2 : Env} (g : GOK H G) (a : Pen M σ G H O ρ1 G1 H1 Fs1) (b : Pen M σ G1 H1 (Own Fs1) ρ2 G2 H2 Fs2) : Pen M σ G H O ρ2 G2 H2 Fs2 :=
  ⟨b.env, b.gok, a.stp.trans g b.stp a.own, fun c h => (b.own c h).elim (a.own c) (fun z => .inr (a.stp.free z))⟩
theorem Pen.pst {G2 : Addr → Prop} {H2 : Hp} {Fs2 : Nat → List Addr} {ρ2 : Env} {d : D} {v : V} {F : List Addr} (g : GOK H G) (a : Pen M σ G H O ρ1 G1 H1 Fs1) (b : Pst M σ G1 H1 (Own Fs1) ρ2 d v G2 H2 Fs2 F) : Pst M σ G H O ρ2 d v G2 H2 Fs2 F :=
  ⟨b.env, b.gok, a.stp.trans g b.stp a.own, b.rep, fun c h => (b.own c h).elim (a.own c) (fun z => .inr (a.stp.free z)), b.nd, b.dj⟩
theorem Pen.pex {G2 : Addr → Prop} {H2 : Hp} {Fs2 : Nat → List Addr} {ρ2 : Env} {c : String} {d : D} {C dd : Addr} (g : GOK H G) (a : Pen M σ G H O ρ1 G1 H1 Fs1) (b : Pex M σ G1 H1 (Own Fs1) ρ2 c d C dd G2 H2 Fs2) : Pex M σ G H O ρ2 c d C dd G2 H2 Fs2 :=
  ⟨b.env, b.gok, a.stp.trans g b.stp a.own, b.cl, b.fld, fun c h => (b.own c h).elim (a.own c) (fun z => .inr (a.stp.free z))⟩
theorem Fin.step {Q : VK} (g : GOK H G) (f : Fin M W σ Q G H O r) (a : Pen M σ G H O ρ1 G1 H1 Fs1) : Fin M W σ Q G1 H1 (Own Fs1) r := by
  cases r with
  | ok d ρ' => exact fun v G' H' Fs' F p => f v G' H' Fs' F (a.pst g p)
  | ex c d ρ' => exact fun C dd G' H' Fs' p => f C dd G' H' Fs' (a.pex g p)
theorem FinT.step {Q : Bool → Hp → Prop} (g : GOK H G) (f : FinT M W σ Q G H O r) (a : Pen M σ G H O ρ1 G1 H1 Fs1) : FinT M W σ Q G1 H1 (Own Fs1) r := by
  cases r with
  | ok d ρ' =>
    cases d with
    | bl b => exact fun G' H' Fs' p => f G' H' Fs' (a.trans g p)
    | _ => exact f
  | ex c d ρ' => exact fun C dd G' H' Fs' p => f C dd G' H' Fs' (a.pex g p)
/-- an operand came; a borrowed one is the slot's -/
structure PstO (M : Nm) (σ : St) (G : Addr → Prop) (H : Hp) (O : Addr → Prop) (a : E) (ρ' : Env) (d : D) (v : V) (G' : Addr → Prop) (H' : Hp) (Fs' : Nat → List Addr) (F : List Addr) : Prop where
  pen : Pen M σ G H O ρ' G' H' Fs'
  own : ∀ b ∈ F, O b ∨ H b = none
  nd : F.Nodup
  dj : ∀ b ∈ F, ¬ Own Fs' b
  bor : ∀ i, a = .bor i → σ[i]? = some (some v) ∧ slot ρ' i = some d ∧ F = []
  rep : isBor a = false → Rep M G' H' v d F
theorem slot_some {i : Nat} {d : D} (h : slot ρ i = some d) : ρ[i]? = some (some d) := by
  unfold slot at h
  cases q : ρ[i]? with
  | none => rw [q] at h; cases h
  | some o => rw [q] at h; cases o with
    | none => cases h
    | some e => exact congrArg some h
theorem slot_of {i : Nat} {d : D} (h : ρ[i]? = some (some d)) : slot ρ i = some d := by unfold slot; rw [h]; rfl
/-- an operand behind later steps -/
theorem PstO.late {a : E} {d d' : D} {v : V} {F : List Addr} {G2 : Addr → Prop} {H2 : Hp} {Fs2 : Nat → List Addr} {ρ2 : Env} (p : PstO M σ G H O a ρ1 d v G1 H1 Fs1 F) (q : Pen M σ G1 H1 (Own Fs1) ρ2 G2 H2 Fs2)
    (h : VI.late a d ρ2 = some d') : ∃ F', Rep M G2 H2 v d' F' := by
  have val : isBor a = false → d' = d → ∃ F', Rep M G2 H2 v d' F' := fun hb e => by
    rw [e]
    exact ⟨F, (p.rep hb).mono p.pen.gok (q.stp.kp p.pen.gok (fun b o => p.pen.env.own o) fun b hb' => ⟨(p.rep hb).own b hb', p.dj b hb'⟩)⟩
  cases a with
  | bor i =>
    obtain ⟨e1, e2, _⟩ := p.bor i rfl
    have h' : slot ρ2 i = some d' := h
    obtain ⟨v', e3, r⟩ := q.env.at_ i d' (slot_some h')
    rw [e1] at e3; cases e3
    exact ⟨_, r⟩
  | _ => exact val rfl (Option.some.inj h).symm
theorem bindR_some {x : Option R} {k : D → Env → Option R} (h : bindR x k = some r) : (∃ d ρ1, x = some (.ok d ρ1) ∧ k d ρ1 = some r) ∨ ∃ c d ρ1, x = some (.ex c d ρ1) ∧ r = .ex c d ρ1 := by
  cases x with
  | none => cases h
  | some y =>
    cases y with
    | ok d ρ1 => exact .inl ⟨d, ρ1, rfl, h⟩
    | ex c d ρ1 => exact .inr ⟨c, d, ρ1, rfl, (Option.some.inj h).symm⟩
theorem tO_eq {a : E} (h : isBor a = false) : tO M W Γ a = tD M W (ev Γ a).v := by
  cases a with
  | bor i => cases h
  | _ => rfl
theorem Fin.ex {Q : VK} (f : Fin M W σ Q G H O r) {c : String} {d : D} {ρ' : Env} (e : r = .ex c d ρ') {C dd : Addr} {G' : Addr → Prop} {H' : Hp} {Fs' : Nat → List Addr} (p : Pex M σ G H O ρ' c d C dd G' H' Fs') : W (.ref C) (some dd) σ H' := by
  subst e; exact f C dd G' H' Fs' p
theorem FinT.ex {Q : Bool → Hp → Prop} (f : FinT M W σ Q G H O r) {c : String} {d : D} {ρ' : Env} (e : r = .ex c d ρ') {C dd : Addr} {G' : Addr → Prop} {H' : Hp} {Fs' : Nat → List Addr} (p : Pex M σ G H O ρ' c d C dd G' H' Fs') : W (.ref C) (some dd) σ H' := by
  subst e; exact f C dd G' H' Fs' p
/-- use of an operand's reading -/
theorem tO_use {a : E} {Q : VK} {k : D → Env → Option R} (e : EnvOK M G H σ ρ Fs) (g : GOK H G) (hb : bindR ((ev Γ a).v ρ) k = some r)
    (hx : ∀ {c : String} {d : D} {ρ' : Env}, r = .ex c d ρ' → ∀ {C dd : Addr} {G' : Addr → Prop} {H' : Hp} {Fs' : Nat → List Addr}, Pex M σ G H (Own Fs) ρ' c d C dd G' H' Fs' → W (.ref C) (some dd) σ H')
    (hk : ∀ d ρ1 v G1 H1 Fs1 F, (ev Γ a).v ρ = some (.ok d ρ1) → k d ρ1 = some r → PstO M σ G H (Own Fs) a ρ1 d v G1 H1 Fs1 F → Q v H1) : tO M W Γ a σ H Q := by
  have val : isBor a = false → tO M W Γ a σ H Q := fun hbor => by
    rw [tO_eq hbor]
    rcases bindR_some hb with ⟨d, ρ1, h1, h2⟩ | ⟨c, d, ρ1, h1, h2⟩
    · refine ⟨ρ, G, Fs, .ok d ρ1, e, g, h1, fun v G' H' Fs' F p => ?_⟩
      exact hk d ρ1 v G' H' Fs' F h1 h2 ⟨p.pen, fun b h => p.own b (.inl h), p.nd, p.dj, fun i z => (by rw [z] at hbor; cases hbor), fun _ => p.rep⟩
    · exact ⟨ρ, G, Fs, .ex c d ρ1, e, g, h1, fun C dd G' H' Fs' p => hx h2 p⟩
  cases a with
  | bor i =>
    have hb' : bindR ((slot ρ i).map fun d => R.ok d ρ) k = some r := hb
    cases q : slot ρ i with
    | none => rw [q] at hb'; cases hb'
    | some d =>
      rw [q] at hb'
      obtain ⟨v, e1, rp⟩ := e.at_ i d (slot_some q)
      exact ⟨v, e1, hk d ρ v G H Fs [] (by show (slot ρ i).map _ = _; rw [q]; rfl) hb' { pen := .refl e g, own := fun _ z => (nomatch z), nd := .nil, dj := fun _ z => (nomatch z), bor := fun j z => (by cases z; exact ⟨e1, q, rfl⟩), rep := fun z => (nomatch z) }⟩
  | _ => exact val rfl
theorem PstO.here {a : E} {d d' : D} {v : V} {F : List Addr} (p : PstO M σ G H O a ρ1 d v G1 H1 Fs1 F) (h : VI.late a d ρ1 = some d') : ∃ F', Rep M G1 H1 v d' F' :=
  p.late (.refl p.pen.env p.pen.gok) h
theorem PstO.rep' {a : E} {d : D} {v : V} {F : List Addr} (p : PstO M σ G H O a ρ1 d v G1 H1 Fs1 F) : ∃ F', Rep M G1 H1 v d F' := by
  refine p.here ?_
  cases a with
  | bor i => exact (p.bor i rfl).2.1
  | _ => rfl
/-- a flat value at the state as it is -/
theorem Fin.give {Q : VK} {d : D} {v : V} (f : Fin M W σ Q G H (Own Fs) (.ok d ρ)) (e : EnvOK M G H σ ρ Fs) (g : GOK H G) (rp : Rep M G H v d []) : Q v H :=
  f v G H Fs [] ⟨e, g, .refl, rp, fun b h => h.elim (fun z => by cases z) .inl, .nil, fun _ z => by cases z⟩

/-! ### new objects -/
def add (G : Addr → Prop) (p : Addr) : Addr → Prop := fun a => G a ∨ a = p
theorem GOK.fresh (g : GOK H G) {p : Addr} (h : H p = none) : ¬ G p := fun z => by
  obtain ⟨xs, e⟩ := g p z
  rw [h] at e; cases e
theorem new_ne {p b : Addr} {o u : HO} (h : H p = none) (e : H b = some o) : upd H p u b = some o := by
  rw [upd_ne (ne_of_none e h)]; exact e
theorem new_kp {p : Addr} {o : HO} {F : List Addr} (h : H p = none) (f : ∀ b ∈ F, G b) : Kp G H G (upd H p o) F := ⟨fun b u e _ => new_ne h e, fun _ _ _ n => n, f⟩
theorem new_gok {p : Addr} {o : HO} (g : GOK H G) (h : H p = none) : GOK (upd H p o) G := fun a z => let ⟨xs, e⟩ := g a z; ⟨xs, new_ne h e⟩
theorem new_stp {p : Addr} {o : HO} (h : H p = none) : Stp G H O G (upd H p o) := ⟨fun b u e _ => new_ne h e, fun b u e => ⟨u, new_ne h e⟩, fun _ z _ => z, fun _ z => .inl z⟩
theorem new_env {p : Addr} {o : HO} (g : GOK H G) (e : EnvOK M G H σ ρ Fs) (h : H p = none) : EnvOK M G (upd H p o) σ ρ Fs := e.mono g fun i => new_kp h fun b hb => e.own ⟨i, hb⟩
theorem own_kp {p : Addr} {o : HO} {F : List Addr} (h : H p = none) (f : ∀ b ∈ F, G b) : Kp G H (add G p) (upd H p o) F :=
  ⟨fun b u e _ => new_ne h e, fun b u e n z => z.elim n (fun q => by rw [q, h] at e; cases e), fun b hb => .inl (f b hb)⟩
theorem own_gok {p : Addr} {xs : List V} (g : GOK H G) (h : H p = none) : GOK (upd H p (.lst xs)) (add G p) := fun a z => by
  rcases z with z | z
  · exact let ⟨xs, e⟩ := g a z; ⟨xs, new_ne h e⟩
  · rw [z]; exact ⟨_, upd_same⟩
theorem own_stp {p : Addr} {o : HO} (h : H p = none) : Stp G H O (add G p) (upd H p o) := ⟨fun b u e _ => new_ne h e, fun b u e => ⟨u, new_ne h e⟩, fun _ z _ => .inl z, fun b z => z.imp_right fun q => by rw [q]; exact h⟩
theorem own_env {p : Addr} {o : HO} (g : GOK H G) (e : EnvOK M G H σ ρ Fs) (h : H p = none) : EnvOK M (add G p) (upd H p o) σ ρ Fs := e.mono g fun i => own_kp h fun b hb => e.own ⟨i, hb⟩
/-- a new tuple -/
theorem Fin.newTup {Q : VK} {ds : List D} {vs : List V} {F : List Addr} {p : Addr} (f : Fin M W σ Q G H (Own Fs) (.ok (.tup ds) ρ)) (e : EnvOK M G H σ ρ Fs) (g : GOK H G) (rp : RepL M G H vs ds F)
    (own : ∀ b ∈ F, Own Fs b ∨ H b = none) (nd : F.Nodup) (dj : ∀ b ∈ F, ¬ Own Fs b) (h : H p = none) : Q (.ref p) (upd H p (.tup vs)) :=
  f (.ref p) G _ Fs F ⟨new_env g e h, new_gok g h, new_stp h, .tup (.inl (.inl upd_same)) (rp.mono g (new_kp h rp.own)), fun b z => z.elim (own b) .inl, nd, dj⟩
/-- a new list -/
theorem Fin.newLst {Q : VK} {ds : List D} {vs : List V} {F : List Addr} {p : Addr} (f : Fin M W σ Q G H (Own Fs) (.ok (.lst true ds) ρ)) (e : EnvOK M G H σ ρ Fs) (g : GOK H G) (rp : RepL M G H vs ds F)
    (own : ∀ b ∈ F, Own Fs b ∨ H b = none) (nd : F.Nodup) (dj : ∀ b ∈ F, ¬ Own Fs b) (h : H p = none) : Q (.ref p) (upd H p (.lst vs)) := by
  have ne : ∀ b, G b → b ≠ p := fun b z q => g.fresh h (q ▸ z)
  refine f (.ref p) (add G p) _ Fs (p :: F) ⟨own_env g e h, own_gok g h, own_stp h, .lstO upd_same (.inr rfl) (rp.mono g (own_kp h rp.own)), fun b z => ?_, ?_, fun b z => ?_⟩
  · rcases z with z | z
    · rcases List.mem_cons.mp z with z | z
      · rw [z]; exact .inr h
      · exact own b z
    · exact .inl z
  · exact List.nodup_cons.mpr ⟨fun z => ne p (rp.own p z) rfl, nd⟩
  · rcases List.mem_cons.mp z with z | z
    · rw [z]; exact fun q => ne p (e.own q) rfl
    · exact dj b z
end

/-! ### what binary operators ask -/
section
variable {M : Nm} {W : WX} {Γ : Gam} {σ : St} {ρ : Env} {G : Addr → Prop} {H : Hp} {Fs : Nat → List Addr}
theorem Rep.lstInv {v : V} {o : Bool} {xs : List D} {F : List Addr} (r : Rep M G H v (.lst o xs) F) (hp : D.pures xs = true) : ∃ a vs, v = .ref a ∧ H a = some (.lst vs) ∧ RepL M G H vs xs [] := by
  cases r with
  | lstS e n r => exact ⟨_, _, rfl, e, r⟩
  | lstO e g r =>
    have := r.pure hp
    subst this
    exact ⟨_, _, rfl, e, r⟩
theorem Rep.lstInv0 {v : V} {o : Bool} {xs : List D} {F : List Addr} (r : Rep M G H v (.lst o xs) F) : ∃ a vs F', v = .ref a ∧ H a = some (.lst vs) ∧ RepL M G H vs xs F' := by
  cases r with
  | lstS e n r => exact ⟨_, _, _, rfl, e, r⟩
  | lstO e g r => exact ⟨_, _, _, rfl, e, r⟩
theorem Rep.tupInv {v : V} {xs : List D} {F : List Addr} (r : Rep M G H v (.tup xs) F) (hp : D.pures xs = true) : ∃ a vs, v = .ref a ∧ SqT M.K H a vs ∧ RepL M G H vs xs [] := by
  cases r with
  | tup e r =>
    have := r.pure hp
    subst this
    exact ⟨_, _, rfl, e, r⟩
theorem Rep.tupInv0 {v : V} {xs : List D} {F : List Addr} (r : Rep M G H v (.tup xs) F) : ∃ a vs, v = .ref a ∧ SqT M.K H a vs ∧ RepL M G H vs xs F := by
  cases r with
  | tup e r => exact ⟨_, _, rfl, e, r⟩
theorem RepL.app {vs ws : List V} {ds es : List D} {F F' : List Addr} : RepL M G H vs ds F → RepL M G H ws es F' → RepL M G H (vs ++ ws) (ds ++ es) (F ++ F')
  | .nil, h => h
  | .cons a t, h => by
    rw [List.append_assoc]
    exact .cons a (RepL.app t h)
theorem RepL.app0 {vs ws : List V} {ds es : List D} (a : RepL M G H vs ds []) (b : RepL M G H ws es []) : RepL M G H (vs ++ ws) (ds ++ es) [] := RepL.app a b
theorem RepL.rep0 {vs : List V} {ds : List D} (a : RepL M G H vs ds []) : ∀ n, RepL M G H (List.replicate n vs).flatten (List.replicate n ds).flatten []
  | 0 => .nil
  | n + 1 => by
    rw [List.replicate_succ, List.replicate_succ, List.flatten_cons, List.flatten_cons]
    exact a.app0 (RepL.rep0 a n)
theorem RepL.drop0 : ∀ {vs : List V} {ds : List D} (n : Nat), RepL M G H vs ds [] → RepL M G H (vs.drop n) (ds.drop n) []
  | _, _, 0, h => h
  | [], ds, n + 1, h => by have := h.length; cases ds with | nil => exact .nil | cons _ _ => simp at this
  | v :: vs, [], n + 1, h => by have := h.length; simp at this
  | v :: vs, d :: ds, n + 1, h => RepL.drop0 n h.inv.2
theorem RepL.take0 : ∀ {vs : List V} {ds : List D} (n : Nat), RepL M G H vs ds [] → RepL M G H (vs.take n) (ds.take n) []
  | _, _, 0, _ => .nil
  | [], ds, n + 1, h => by have := h.length; cases ds with | nil => exact .nil | cons _ _ => simp at this
  | v :: vs, [], n + 1, h => by have := h.length; simp at this
  | v :: vs, d :: ds, n + 1, h => .cons (F := []) (Fs := []) h.inv.1 (RepL.take0 n h.inv.2)
theorem RepL.ints : ∀ {vs : List V} (ns : List Int) {F : List Addr}, RepL M G H vs (ns.map .int) F → vs = ns.map V.int
  | _, [], _, h => by cases h; rfl
  | _, n :: ns, _, h => by
    cases h with
    | cons a t => cases a; rw [RepL.ints ns t]; rfl
theorem RepL.ofInts : ∀ (ns : List Int), RepL M G H (ns.map V.int) (ns.map D.int) []
  | [] => .nil
  | n :: ns => .cons (F := []) (Fs := []) (.int n) (RepL.ofInts ns)
end
end VI

set_option maxHeartbeats 1000000
set_option synthInstance.maxSize 128
set_option synthInstance.maxHeartbeats 20000
namespace VI
open PySem L2

section
variable {X : Cx} {M : Nm} {W : WX} {Γ : Gam} {σ : St} {ρ : Env} {G : Addr → Prop} {H : Hp} {Fs : Nat → List Addr}

/-! ### from content to the library's data -/
mutual
theorem Rep.dp : ∀ {v : V} {d : D} {F : List Addr} {p : PyData}, Rep M G H v d F → d.py = some p → p.canLay0 = true → Dp M.K H v p
  | _, _, _, p, .non, h, _ => by cases (by simpa [D.py] using h : PyData.none = p); exact .non
  | _, _, _, p, .bl b, h, _ => by cases (by simpa [D.py] using h : PyData.bool b = p); exact .bl b
  | _, _, _, p, .int i, h, _ => by cases (by simpa [D.py] using h : PyData.int i = p); exact .int i
  | _, _, _, p, .str x, h, _ => by cases (by simpa [D.py] using h : PyData.str x = p); exact .str x
  | _, _, _, p, .tup s r, h, hc => by
    simp only [D.py, Option.map_eq_some_iff] at h
    obtain ⟨ps, h1, h2⟩ := h
    subst h2
    exact .tup s (RepL.dp r h1 (by simpa [PyData.canLay0] using hc))
  | _, _, _, p, .lstS e n r, h, hc => by
    simp only [D.py, Option.map_eq_some_iff] at h
    obtain ⟨ps, h1, h2⟩ := h
    subst h2
    exact .lst (.of e) (RepL.dp r h1 (by simpa [PyData.canLay0] using hc))
  | _, _, _, p, .lstO e n r, h, hc => by
    simp only [D.py, Option.map_eq_some_iff] at h
    obtain ⟨ps, h1, h2⟩ := h
    subst h2
    exact .lst (.of e) (RepL.dp r h1 (by simpa [PyData.canLay0] using hc))
  | _, _, _, p, .edic e, h, hc => by
    cases (by simpa [D.py] using h : PyData.dict [] = p)
    simp [PyData.canLay0] at hc
  | _, _, _, p, .fn _, h, _ => by simp [D.py] at h
  | _, _, _, p, .cls _, h, _ => by simp [D.py] at h
  | _, _, _, p, .exc _ _ _ _ _, h, _ => by simp [D.py] at h
  | _, _, _, p, .scr _ _, h, _ => by simp [D.py] at h
theorem RepL.dp : ∀ {v : List V} {d : List D} {F : List Addr} {p : List PyData}, RepL M G H v d F → D.py.pys d = some p → PyData.canLayAll0 p = true → DpAll M.K H v p
  | _, _, _, p, .nil, h, _ => by cases (by simpa [D.py.pys] using h : [] = p); exact .nil
  | _, _, _, p, .cons a t, h, hc => by
    simp only [D.py.pys, Option.bind_eq_some_iff, Option.map_eq_some_iff] at h
    obtain ⟨q, h1, qs, h2, h3⟩ := h
    subst h3
    have hc' := Bool.and_eq_true_iff.mp (by simpa [PyData.canLayAll0] using hc)
    exact .cons (Rep.dp a h1 hc'.1) (RepL.dp t h2 hc'.2)
end
theorem shaped_lay {p : PyData} (h : SeqAt.shaped p = true) : p.canLay0 = true := SeqAt.canLay_of_shaped h

/-! ### binary operators -/
/-- a power of at most 2 ^ 27 bits -/
def PowV (i j : Int) : Prop := 0 ≤ j ∧ (i.natAbs.log2 + 1) * j.toNat ≤ 134217728
theorem op_powV : OpR X (binaryOp .Pow) (rI PowV fun i j => .int (i ^ j.toNat)) := opI fun i j _ _ _ _ _ hc q => by
  obtain ⟨h1, h2⟩ := hc
  refine PyProof.Rows.pow_int h1 ?_ q
  have b : Builtin.Int.intBits i ≤ i.natAbs.log2 + 1 := by
    unfold Builtin.Int.intBits
    split <;> omega
  have h3 : Builtin.Int.intBits i * j.toNat ≤ 134217728 := Nat.le_trans (Nat.mul_le_mul_right _ b) h2
  have h4 : (j.toNat : Int) = j := Int.toNat_of_nonneg h1
  have e : (2 : Int) ^ 27 = 134217728 := by decide
  rw [← h4, e]
  have h5 := Int.ofNat_le.mpr h3
  rw [Int.natCast_mul] at h5
  exact h5
def rBin (K : PySem.W.Frag) : Operator → R2
  | .Add => fun x y H Q => (rI0 fun i j => .int (i + j)) x y H Q ∨ (rCat x y H Q ∨ (rCatA K x y H Q ∨ ∃ i j, x = .str i ∧ y = .str j ∧ i.length + j.length ≤ sizeLine ∧ Q (.str (i ++ j)) H))
  | .Sub => rI0 fun i j => .int (i - j)
  | .Mult => fun x y H Q => (rI CMulW fun i j => .int (i * j)) x y H Q ∨ rRep x y H Q
  | .FloorDiv => rI CDivW fun i j => .int (i / j)
  | .Mod => rI (fun _ j => 0 < j) fun i j => .int (i % j)
  | .Pow => rI PowV fun i j => .int (i ^ j.toNat)
  | _ => fun _ _ _ _ => False
theorem op_bin (op : Operator) : OpR X (binaryOp op) (rBin X.K op) := by
  cases op with
  | Add => exact op_add.or (op_cat.or (op_catA.or op_add_str))
  | Sub => exact op_sub
  | Mult => exact op_mulW.or op_rep
  | FloorDiv => exact op_fdivW
  | Mod => exact op_mod
  | Pow => exact op_powV
  | _ => exact fun _ _ _ _ _ _ _ _ _ _ _ _ h => h.elim
theorem binD_ok {op : Operator} {x y d : D} {vx vy : V} {Fx Fy : List Addr} {Q : VK} (hx : Rep M G H vx x Fx) (hy : Rep M G H vy y Fy) (h : binD op x y = some d)
    (e : EnvOK M G H σ ρ Fs) (g : GOK H G) (fin : Fin M W σ Q G H (Own Fs) (.ok d ρ)) : rBin M.K op vx vy H Q := by
  unfold binD at h
  split at h
  · cases h; cases hx; cases hy; exact .inl ⟨_, _, rfl, rfl, fin.give e g (.int _)⟩
  · cases h; cases hx; cases hy; exact ⟨_, _, rfl, rfl, fin.give e g (.int _)⟩
  · split at h
    · cases h; cases hx; cases hy; exact .inl ⟨_, _, rfl, rfl, by assumption, fin.give e g (.int _)⟩
    · cases h
  · split at h
    · cases h; cases hx; cases hy; exact ⟨_, _, rfl, rfl, by assumption, fin.give e g (.int _)⟩
    · cases h
  · split at h
    · cases h; cases hx; cases hy; exact ⟨_, _, rfl, rfl, by assumption, fin.give e g (.int _)⟩
    · cases h
  · split at h
    · cases h; cases hx; cases hy; exact ⟨_, _, rfl, rfl, by assumption, fin.give e g (.int _)⟩
    · cases h
  · split at h
    · rename_i hc
      simp only [Bool.and_eq_true, decide_eq_true_eq] at hc
      cases h
      obtain ⟨a, vs, rfl, ea, ra⟩ := hx.lstInv hc.1.1
      obtain ⟨b, ws, rfl, eb, rb⟩ := hy.lstInv hc.1.2
      refine .inr (.inl ⟨a, b, vs, ws, rfl, rfl, ea, eb, ?_, fun p hp => fin.newLst e g (ra.app0 rb) (fun _ z => (nomatch z)) .nil (fun _ z => (nomatch z)) hp⟩)
      rw [ra.length, rb.length]; exact hc.2
    · cases h
  · split at h
    · rename_i hc
      simp only [Bool.and_eq_true, decide_eq_true_eq, small] at hc
      cases h
      cases hy
      obtain ⟨a, vs, rfl, ea, ra⟩ := hx.lstInv hc.1.1
      refine .inr ⟨a, _, vs, rfl, rfl, ea, by omega, by omega, ?_, fun p hp => fin.newLst e g (ra.rep0 _) (fun _ z => (nomatch z)) .nil (fun _ z => (nomatch z)) hp⟩
      rw [ra.length]; exact hc.2
    · cases h
  · split at h
    · rename_i hc
      simp only [Bool.and_eq_true, decide_eq_true_eq] at hc
      cases h
      obtain ⟨a, vs, rfl, ea, ra⟩ := hx.tupInv hc.1.1
      obtain ⟨b, ws, rfl, eb, rb⟩ := hy.tupInv hc.1.2
      have rr := ra.app0 rb
      refine .inr (.inr (.inl ⟨a, b, vs, ws, rfl, rfl, ea, eb, ?_, fun z => ?_, fun _ z => ?_, fun _ _ p hp => fin.newTup e g rr (fun _ z => (nomatch z)) .nil (fun _ z => (nomatch z)) hp⟩))
      · rw [ra.length, rb.length]; exact hc.2
      · subst z
        exact fin.give e g (.tup eb rr)
      · subst z
        rw [List.append_nil] at rr
        exact fin.give e g (.tup ea rr)
    · cases h
  · split at h
    · cases h; cases hx; cases hy; exact .inr (.inr (.inr ⟨_, _, rfl, rfl, by assumption, fin.give e g (.str _)⟩))
    · cases h
  · cases h

/-! ### comparisons -/
def rIs (neg : Bool) : R2 := fun x y H Q => (y = .non ∨ ∃ b, y = .bl b) ∧ Q (.bl (if neg then !decide (x = y) else decide (x = y))) H
theorem relV_same {x y : V} {v u : Value} (rx : RelV x v) (ry : RelV y u) (hy : y = .non ∨ ∃ b, y = .bl b) : PySem.plainIs v u = true ∧ (v == u) = decide (x = y) := by
  rcases hy with rfl | ⟨b, rfl⟩
  · cases (show u = Value.none from ry)
    refine ⟨?_, rx.none_iff⟩
    cases x <;> first | (cases (show v = _ from rx); rfl) | (obtain ⟨t, q⟩ := (show ∃ t, v = _ from rx); cases q; rfl)
  · cases (show u = Value.bool b from ry)
    cases x with
    | bl a =>
      cases (show v = Value.bool a from rx)
      refine ⟨rfl, ?_⟩
      by_cases e : a = b
      · subst e; simp
      · simp [e]
    | non => cases (show v = _ from rx); exact ⟨rfl, by simp⟩
    | ref a => cases (show v = _ from rx); exact ⟨rfl, by simp⟩
    | ty n => cases (show v = _ from rx); exact ⟨rfl, by simp⟩
    | _ => obtain ⟨t, q⟩ := (show ∃ t, v = _ from rx); cases q; exact ⟨rfl, by simp⟩
theorem op_isB : OpR X (compareOp .Is) (rIs false) := by
  intro pins s σ H x y v u Q I rx ry h
  obtain ⟨hy, q⟩ := h
  obtain ⟨h1, h2⟩ := relV_same rx ry hy
  exact PySem.wpAny_is_plain h1 ⟨.bl _, H, I, congrArg Value.bool h2, q⟩
theorem op_isnotB : OpR X (compareOp .IsNot) (rIs true) := by
  intro pins s σ H x y v u Q I rx ry h
  obtain ⟨hy, q⟩ := h
  obtain ⟨h1, h2⟩ := relV_same rx ry hy
  exact PySem.wpAny_isNot_plain h1 ⟨.bl _, H, I, congrArg (fun z => Value.bool (!z)) h2, q⟩
def rCmp (K : PySem.W.Frag) : CmpOp → R2
  | .Eq => fun x y H Q => rEq x y H Q ∨ rEqD K x y H Q
  | .NotEq => fun x y H Q => rNe x y H Q ∨ rNeD K x y H Q
  | .Lt => rI0 fun i j => .bl (decide (i < j))
  | .LtE => rI0 fun i j => .bl (decide (i ≤ j))
  | .Gt => rI0 fun i j => .bl (decide (j < i))
  | .GtE => rI0 fun i j => .bl (decide (j ≤ i))
  | .Is => rIs false
  | .IsNot => rIs true
  | .In => fun x y H Q => rIn K false x y H Q ∨ rInD K x y H Q
  | .NotIn => fun x y H Q => rIn K true x y H Q ∨ rNotInD K x y H Q
theorem op_cmp (hu : X.A.units + 65 < cLine) (op : CmpOp) : OpR X (compareOp op) (rCmp X.K op) := by
  cases op with
  | Eq => exact op_eq.or (op_eqD (by omega))
  | NotEq => exact op_ne.or (op_neD (by omega))
  | Lt => exact op_lt
  | LtE => exact op_le
  | Gt => exact op_gt
  | GtE => exact op_ge
  | Is => exact op_isB
  | IsNot => exact op_isnotB
  | In => exact op_in_seq.or (op_inD hu)
  | NotIn => exact op_notIn_seq.or (op_notInD hu)
/-- a flat value -/
theorem Rep.flat {v : V} {d : D} {F : List Addr} (r : Rep M G H v d F) (h : flatD d = true) : flatV v = true ∧ (∀ w e F', Rep M G H w e F' → flatD e = true → eqV v w = eqF d e) := by
  cases r <;> first | (simp [flatD] at h; done) | skip
  all_goals refine ⟨rfl, fun w e F' r' h' => ?_⟩
  all_goals (cases r' <;> first | (simp [flatD] at h'; done) | rfl)
theorem eq_flat {vx vy : V} {x y : D} {Fx Fy : List Addr} (hx : Rep M G H vx x Fx) (hy : Rep M G H vy y Fy) (fx : flatD x = true) (fy : flatD y = true) {Q : VK} (q : Q (.bl (eqF x y)) H) : rEq vx vy H Q ∨ rEqD M.K vx vy H Q := by
  cases hx <;> first | (simp [flatD] at fx; done) | skip
  all_goals (cases hy <;> first | (simp [flatD] at fy; done) | skip)
  all_goals first
    | (refine .inl ⟨rfl, ?_⟩; (first | exact q | (rw [dec_str]; exact q) | (simpa [eqF] using q) | (simp only [eqF] at q; rw [← Bool.beq_eq_decide_eq]; simpa using q)))
    | (refine .inr ⟨_, _, by first | exact .bl _ | exact .int _, by first | exact .bl _ | exact .int _, ?_, ?_, ?_⟩ <;> first | (simp [SeqAt.shaped, PyData.canLay0, PyData.depth]; done) | (simpa [eqF, PyData.eqv] using q))
theorem ne_flat {vx vy : V} {x y : D} {Fx Fy : List Addr} (hx : Rep M G H vx x Fx) (hy : Rep M G H vy y Fy) (fx : flatD x = true) (fy : flatD y = true) {Q : VK} (q : Q (.bl (!eqF x y)) H) : rNe vx vy H Q ∨ rNeD M.K vx vy H Q := by
  cases hx <;> first | (simp [flatD] at fx; done) | skip
  all_goals (cases hy <;> first | (simp [flatD] at fy; done) | skip)
  all_goals first
    | (refine .inl ⟨rfl, ?_⟩; (first | exact q | (rw [dec_str]; exact q) | (simpa [eqF] using q) | (simp only [eqF] at q; rw [← Bool.beq_eq_decide_eq]; simpa using q)))
    | (refine .inr ⟨_, _, by first | exact .bl _ | exact .int _, by first | exact .bl _ | exact .int _, ?_, ?_, ?_⟩ <;> first | (simp [SeqAt.shaped, PyData.canLay0, PyData.depth]; done) | (simpa [eqF, PyData.eqv] using q))
theorem RepL.flat : ∀ {vs : List V} {ds : List D} {F : List Addr}, RepL M G H vs ds F → ds.all flatD = true → vs.all flatV = true ∧ ∀ w e F', Rep M G H w e F' → flatD e = true → inV w vs = ds.any fun z => eqF z e
  | _, _, _, .nil, _ => ⟨rfl, fun _ _ _ _ _ => rfl⟩
  | _, _, _, .cons a t, h => by
    have h' := Bool.and_eq_true_iff.mp (by simpa only [List.all_cons] using h)
    obtain ⟨a1, a2⟩ := a.flat h'.1
    obtain ⟨t1, t2⟩ := RepL.flat t h'.2
    refine ⟨by rw [List.all_cons, a1, t1]; rfl, fun w e F' r he => ?_⟩
    have e1 := a2 w e F' r he
    have e2 := t2 w e F' r he
    unfold inV at e2 ⊢
    rw [List.any_cons, List.any_cons, e1, e2]
theorem Rep.seq {v : V} {o : Bool} {xs : List D} {F : List Addr} (r : Rep M G H v (.lst o xs) F) : ∃ a vs F', v = .ref a ∧ SqL M.K H a vs ∧ RepL M G H vs xs F' := by
  obtain ⟨a, vs, F', e1, e2, e3⟩ := r.lstInv0
  exact ⟨a, vs, F', e1, .of e2, e3⟩
theorem in_ok {vx vy : V} {x y : D} {k : Bool} {Fx Fy : List Addr} (hx : Rep M G H vx x Fx) (hy : Rep M G H vy y Fy) (h : inD x y = some k) :
    (∀ Q : VK, Q (.bl k) H → rIn M.K false vx vy H Q ∨ rInD M.K vx vy H Q) ∧ (∀ Q : VK, Q (.bl (!k)) H → rIn M.K true vx vy H Q ∨ rNotInD M.K vx vy H Q) := by
  unfold inD at h
  split at h
  · split at h
    · rename_i hc
      have hc' := Bool.and_eq_true_iff.mp hc
      cases h
      obtain ⟨a, vs, rfl, ea, ra⟩ := hy.tupInv0
      obtain ⟨f1, f2⟩ := ra.flat hc'.2
      have e := f2 _ _ _ hx hc'.1
      exact ⟨fun Q q => .inl ⟨a, vs, rfl, .inr ea, (hx.flat hc'.1).1, f1, by rw [e]; exact q⟩, fun Q q => .inl ⟨a, vs, rfl, .inr ea, (hx.flat hc'.1).1, f1, by rw [e]; exact q⟩⟩
    · cases h
  · split at h
    · rename_i hc
      have hc' := Bool.and_eq_true_iff.mp hc
      cases h
      obtain ⟨a, vs, F', rfl, ea, ra⟩ := hy.seq
      obtain ⟨f1, f2⟩ := ra.flat hc'.2
      have e := f2 _ _ _ hx hc'.1
      exact ⟨fun Q q => .inl ⟨a, vs, rfl, .inl ea, (hx.flat hc'.1).1, f1, by rw [e]; exact q⟩, fun Q q => .inl ⟨a, vs, rfl, .inl ea, (hx.flat hc'.1).1, f1, by rw [e]; exact q⟩⟩
    · split at h
      · rename_i a bs h1 h2
        split at h
        · rename_i hc
          have hc' := Bool.and_eq_true_iff.mp hc
          cases h
          have dx := hx.dp h1 (shaped_lay hc'.1)
          have dy := hy.dp (p := .list bs) (by simp only [D.py, h2, Option.map_some]) (shaped_lay hc'.2)
          exact ⟨fun Q q => .inr ⟨_, _, dx, dy, hc'.1, hc'.2, q⟩, fun Q q => .inr ⟨_, _, dx, dy, hc'.1, hc'.2, q⟩⟩
        · cases h
      · cases h
  · cases h
theorem eq_ok {vx vy : V} {x y : D} {k : Bool} {Fx Fy : List Addr} (hx : Rep M G H vx x Fx) (hy : Rep M G H vy y Fy) (h : eqD x y = some k) :
    (∀ Q : VK, Q (.bl k) H → rEq vx vy H Q ∨ rEqD M.K vx vy H Q) ∧ (∀ Q : VK, Q (.bl (!k)) H → rNe vx vy H Q ∨ rNeD M.K vx vy H Q) := by
  unfold eqD at h
  split at h
  · rename_i hc
    have hc' := Bool.and_eq_true_iff.mp hc
    cases h
    exact ⟨fun Q q => eq_flat hx hy hc'.1 hc'.2 q, fun Q q => ne_flat hx hy hc'.1 hc'.2 q⟩
  · split at h
    · rename_i a b h1 h2
      split at h
      · rename_i hc
        have hc' := Bool.and_eq_true_iff.mp hc
        cases h
        have dx := hx.dp h1 (shaped_lay hc'.1)
        have dy := hy.dp h2 (shaped_lay hc'.2)
        exact ⟨fun Q q => .inr ⟨_, _, dx, dy, hc'.1, hc'.2, q⟩, fun Q q => .inr ⟨_, _, dx, dy, hc'.1, hc'.2, q⟩⟩
      · cases h
    · cases h
theorem is_ok {vx vy : V} {x y : D} {k : Bool} {Fx Fy : List Addr} (hx : Rep M G H vx x Fx) (hy : Rep M G H vy y Fy) (h : isD x y = some k) : (vy = .non ∨ ∃ b, vy = .bl b) ∧ decide (vx = vy) = k := by
  unfold isD at h
  split at h
  · cases hy
    refine ⟨.inl rfl, ?_⟩
    split at h <;> (try cases h)
    · cases hx; rfl
    · rename_i z
      cases hx <;> first | (exact absurd rfl ‹D.non = D.non → False›) | rfl | (exact (‹D.non = D.non → False› rfl).elim) | simp
  · cases hy
    refine ⟨.inr ⟨_, rfl⟩, ?_⟩
    split at h <;> (try cases h)
    · cases hx; simp
    · rename_i z
      cases hx <;> first | rfl | (exact (z _ rfl).elim) | simp
  · cases h
theorem cmpD_ok {op : CmpOp} {x y : D} {k : Bool} {vx vy : V} {Fx Fy : List Addr} {Q : VK} (hx : Rep M G H vx x Fx) (hy : Rep M G H vy y Fy) (h : cmpD op x y = some k) (q : Q (.bl k) H) : rCmp M.K op vx vy H Q := by
  cases op with
  | Eq => exact (eq_ok hx hy h).1 Q q
  | NotEq =>
    simp only [cmpD, Option.map_eq_some_iff] at h
    obtain ⟨k', h1, rfl⟩ := h
    exact (eq_ok hx hy h1).2 Q q
  | In => exact (in_ok hx hy h).1 Q q
  | NotIn =>
    simp only [cmpD, Option.map_eq_some_iff] at h
    obtain ⟨k', h1, rfl⟩ := h
    exact (in_ok hx hy h1).2 Q q
  | Is =>
    obtain ⟨h1, h2⟩ := is_ok hx hy h
    exact ⟨h1, by rw [h2]; exact q⟩
  | IsNot =>
    simp only [cmpD, Option.map_eq_some_iff] at h
    obtain ⟨k', h1, rfl⟩ := h
    obtain ⟨h1, h2⟩ := is_ok hx hy h1
    exact ⟨h1, by rw [h2]; exact q⟩
  | _ =>
    simp only [cmpD] at h
    split at h
    · cases h; cases hx; cases hy; exact ⟨_, _, rfl, rfl, q⟩
    · cases h
end
end VI

set_option maxHeartbeats 1000000
set_option synthInstance.maxSize 128
set_option synthInstance.maxHeartbeats 20000
namespace VI
open PySem L2

section
variable {X : Cx} {M : Nm} {W : WX} {Γ : Gam} {σ : St} {ρ : Env} {G : Addr → Prop} {H : Hp} {Fs : Nat → List Addr}

theorem RepL.getP : ∀ (ds : List D) (vs : List V) (F : List Addr) (j : Nat) (d : D), RepL M G H vs ds F → ds[j]? = some d → d.pure = true → ∃ v, vs[j]? = some v ∧ Rep M G H v d []
  | [], _, _, _, _, _, e, _ => by simp at e
  | d0 :: ds, [], _, _, _, r, _, _ => by have := r.length; simp at this
  | d0 :: ds, v0 :: vs, _, 0, d, .cons a t, e, hp => by
    simp at e; subst e
    have := a.pure hp
    subst this
    exact ⟨_, rfl, a⟩
  | d0 :: ds, v0 :: vs, _, j + 1, d, .cons a t, e, hp => by
    obtain ⟨v, h1, h2⟩ := RepL.getP ds vs _ j d t (by simpa using e) hp
    exact ⟨v, by simpa using h1, h2⟩
theorem RepL.atI {vs : List V} {ds : List D} {F : List Addr} {i : Int} {d : D} (r : RepL M G H vs ds F) (h : L2.atI ds i = some d) (hp : d.pure = true) : ∃ v, L2.atI vs i = some v ∧ Rep M G H v d [] := by
  have hl := r.length
  unfold L2.atI at h ⊢
  rw [hl]
  cases q : ixN ds.length i with
  | none => rw [q] at h; cases h
  | some j =>
    rw [q] at h
    exact RepL.getP ds vs F j d r h hp
theorem atI_map {α β : Type} (f : α → β) (xs : List α) (i : Int) : L2.atI (xs.map f) i = (L2.atI xs i).map f := by
  unfold L2.atI
  rw [List.length_map]
  cases ixN xs.length i with
  | none => rfl
  | some j => simp
/-- a[i] -/
theorem idxD_ok {x y d : D} {vx vy : V} {Fx Fy : List Addr} {Q : VK} (hx : Rep M G H vx x Fx) (hy : Rep M G H vy y Fy) (h : idxD x y = some d) (q : ∀ v, Rep M G H v d [] → Q v H) : rIx M.K vx vy H Q := by
  unfold idxD at h
  split at h
  · simp only [Option.bind_eq_some_iff] at h
    obtain ⟨d', h1, h2⟩ := h
    split at h2
    · cases h2
      cases hy
      obtain ⟨a, vs, rfl, ea, ra⟩ := hx.tupInv0
      obtain ⟨v, e1, rv⟩ := ra.atI h1 (by assumption)
      exact .inr (.inl ⟨a, vs, _, v, rfl, rfl, ea, e1, q v rv⟩)
    · cases h2
  · simp only [Option.bind_eq_some_iff] at h
    obtain ⟨d', h1, h2⟩ := h
    split at h2
    · cases h2
      cases hy
      obtain ⟨a, vs, F', rfl, ea, ra⟩ := hx.seq
      obtain ⟨v, e1, rv⟩ := ra.atI h1 (by assumption)
      exact .inl ⟨a, vs, _, v, rfl, rfl, ea, e1, q v rv⟩
    · cases h2
  · simp only [Option.map_eq_some_iff] at h
    obtain ⟨n, h1, rfl⟩ := h
    cases hx with
    | scr s l =>
      cases hy
      exact .inl ⟨_, _, _, .int n, rfl, rfl, s.seq, by rw [atI_map, h1]; rfl, q _ (.int n)⟩
  · split at h
    · simp only [Option.map_eq_some_iff] at h
      obtain ⟨n, h1, rfl⟩ := h
      cases hx; cases hy
      exact .inr (.inr ⟨_, _, n, rfl, rfl, by assumption, h1, q _ (.str _)⟩)
    · cases h
  · cases h
/-- a[lo:hi] -/
def rSl (K : PySem.W.Frag) : V → Option Int → Option Int → Hp → VK → Prop := fun x lo hi H Q => rSlL K x lo hi H Q ∨ rSlA K x lo hi H Q
theorem sl_any : SlR X (rSl X.K) := sl_list.or sl_tupA
theorem RepL.cut0 {vs : List V} {ds : List D} (r : RepL M G H vs ds []) (lo hi : Option Int) : RepL M G H (cutV vs lo hi) (cut ds lo hi) [] := by
  unfold cutV cut
  rw [r.length]
  exact (r.drop0 _).take0 _
theorem cut_map {α β : Type} (f : α → β) (xs : List α) (lo hi : Option Int) : cut (xs.map f) lo hi = (cut xs lo hi).map f := by
  unfold cut
  rw [List.length_map, List.map_take, List.map_drop]
theorem slD_ok {x d : D} {lo hi : Option Int} {vx : V} {Fx : List Addr} {Q : VK} (hx : Rep M G H vx x Fx) (h : slD x lo hi = some d)
    (e : EnvOK M G H σ ρ Fs) (g : GOK H G) (fin : Fin M W σ Q G H (Own Fs) (.ok d ρ)) : rSl M.K vx lo hi H Q := by
  unfold slD at h
  split at h
  · split at h
    · cases h
      obtain ⟨a, vs, rfl, ea, ra⟩ := hx.lstInv (by assumption)
      exact .inl ⟨a, vs, rfl, .of ea, fun p hp => fin.newLst e g (ra.cut0 lo hi) (fun _ z => (nomatch z)) .nil (fun _ z => (nomatch z)) hp⟩
    · cases h
  · cases h
    cases hx with
    | scr s l =>
      exact .inl ⟨_, _, rfl, s.seq, fun p hp => fin.newLst (F := []) e g (cut_map D.int _ lo hi ▸ (RepL.ofInts _).cut0 lo hi) (fun _ z => (nomatch z)) .nil (fun _ z => (nomatch z)) hp⟩
  · split at h
    · cases h
      obtain ⟨a, vs, rfl, ea, ra⟩ := hx.tupInv (by assumption)
      refine .inr ⟨a, vs, rfl, ea, fun z => ?_, fun _ p hp => fin.newTup e g (ra.cut0 lo hi) (fun _ z => (nomatch z)) .nil (fun _ z => (nomatch z)) hp⟩
      have e1 := ra.cut0 lo hi
      unfold cutV cut at e1
      rw [← ra.length, z.1, z.2] at e1
      simp only [List.drop_zero, Nat.sub_zero, List.take_length] at e1
      rw [ra.length, List.take_length] at e1
      refine fin.give e g (.tup ea ?_)
      unfold cut
      rw [← ra.length, z.1, z.2]
      simp only [List.drop_zero, Nat.sub_zero]
      rw [ra.length, List.take_length]
      exact ra
    · cases h
  · cases h
/-- truth -/
theorem isEmpty_len {α β : Type} {xs : List α} {ys : List β} (h : xs.length = ys.length) : xs.isEmpty = ys.isEmpty := by
  cases xs <;> cases ys <;> simp at h ⊢
theorem truth_ok {x : D} {k : Bool} {vx : V} {Fx : List Addr} (hx : Rep M G H vx x Fx) (h : truth x = some k) : TruV M.K vx H k := by
  unfold truth at h
  split at h
  · cases hx; cases h; rfl
  · cases hx; cases h; rfl
  · cases hx; cases h; rfl
  · split at h
    · cases hx; cases h; exact ⟨by assumption, rfl⟩
    · cases h
  · cases h
    obtain ⟨a, vs, rfl, ea, ra⟩ := hx.tupInv0
    exact .inr (.inl ⟨vs, ea, by rw [isEmpty_len ra.length]⟩)
  · cases h
    obtain ⟨a, vs, F', rfl, ea, ra⟩ := hx.seq
    exact .inl ⟨vs, ea, by rw [isEmpty_len ra.length]⟩
  · cases h
    cases hx with
    | scr s l => exact .inl ⟨_, s.seq, by simp⟩
  · cases h
    cases hx with
    | edic e => exact .inr (.inr ⟨_, e, rfl⟩)
  · cases h
theorem items_ok {x : D} {ds : List D} {vx : V} {Fx : List Addr} (hx : Rep M G H vx x Fx) (h : itemsOf x = some ds) (hp : D.pures ds = true) :
    ∃ a vs, vx = .ref a ∧ RepL M G H vs ds [] ∧ ((SqL M.K H a vs ∧ ((∃ o, x = .lst o ds) ∨ ∃ ns, x = .scr ns)) ∨ (SqT M.K H a vs ∧ x = .tup ds)) := by
  unfold itemsOf at h
  split at h
  · cases h
    obtain ⟨a, vs, rfl, ea, ra⟩ := hx.tupInv hp
    exact ⟨a, vs, rfl, ra, .inr ⟨ea, rfl⟩⟩
  · cases h
    obtain ⟨a, vs, rfl, ea, ra⟩ := hx.lstInv hp
    exact ⟨a, vs, rfl, ra, .inl ⟨.of ea, .inl ⟨_, rfl⟩⟩⟩
  · cases h
    cases hx with
    | scr s l => exact ⟨_, _, rfl, RepL.ofInts _, .inl ⟨s.seq, .inr ⟨_, rfl⟩⟩⟩
  · cases h

/-! ### built-in functions -/
theorem intsOf_eq : ∀ {xs : List D} {ns : List Int}, intsOf xs = some ns → xs = ns.map .int
  | [], _, h => by simp [intsOf] at h; subst h; rfl
  | .int i :: r, ns, h => by
    simp only [intsOf, Option.map_eq_some_iff] at h
    obtain ⟨ms, h1, rfl⟩ := h
    rw [intsOf_eq h1]; rfl
  | .non :: _, _, h | .bl _ :: _, _, h | .str _ :: _, _, h | .tup _ :: _, _, h | .lst _ _ :: _, _, h | .edic :: _, _, h | .fn _ :: _, _, h | .cls _ :: _, _, h | .exc _ _ :: _, _, h | .scr _ :: _, _, h => by simp [intsOf] at h
theorem boolsOf_eq : ∀ {xs : List D} {ns : List Bool}, boolsOf xs = some ns → xs = ns.map .bl
  | [], _, h => by simp [boolsOf] at h; subst h; rfl
  | .bl i :: r, ns, h => by
    simp only [boolsOf, Option.map_eq_some_iff] at h
    obtain ⟨ms, h1, rfl⟩ := h
    rw [boolsOf_eq h1]; rfl
  | .non :: _, _, h | .int _ :: _, _, h | .str _ :: _, _, h | .tup _ :: _, _, h | .lst _ _ :: _, _, h | .edic :: _, _, h | .fn _ :: _, _, h | .cls _ :: _, _, h | .exc _ _ :: _, _, h | .scr _ :: _, _, h => by simp [boolsOf] at h
theorem RepL.bls : ∀ {vs : List V} (ns : List Bool) {F : List Addr}, RepL M G H vs (ns.map .bl) F → vs = ns.map V.bl
  | _, [], _, h => by cases h; rfl
  | _, n :: ns, _, h => by
    cases h with
    | cons a t => cases a; rw [RepL.bls ns t]; rfl
theorem insI_perm (i : Int) : ∀ l, (insI i l).Perm (i :: l)
  | [] => .refl _
  | j :: r => by
    unfold insI
    split
    · exact .refl _
    · exact ((insI_perm i r).cons j).trans (.swap i j r)
theorem sortI_perm : ∀ l, (sortI l).Perm l
  | [] => .refl _
  | i :: r => (insI_perm i _).trans ((sortI_perm r).cons i)
theorem insI_sorted (i : Int) : ∀ l : List Int, l.Pairwise (· ≤ ·) → (insI i l).Pairwise (· ≤ ·)
  | [], _ => List.pairwise_singleton _ _
  | j :: r, h => by
    unfold insI
    split
    · rename_i hij
      refine List.pairwise_cons.mpr ⟨fun a ha => ?_, h⟩
      rcases List.mem_cons.mp ha with e | ha
      · rw [e]; exact hij
      · exact Int.le_trans hij ((List.pairwise_cons.mp h).1 a ha)
    · rename_i hij
      refine List.pairwise_cons.mpr ⟨fun a ha => ?_, insI_sorted i r (List.pairwise_cons.mp h).2⟩
      rcases List.mem_cons.mp ((insI_perm i r).mem_iff.mp ha) with e | ha
      · rw [e]; omega
      · exact (List.pairwise_cons.mp h).1 a ha
theorem sortI_sorted : ∀ l : List Int, (sortI l).Pairwise (· ≤ ·)
  | [] => .nil
  | i :: r => insI_sorted i _ (sortI_sorted r)
theorem sorted_eq {a b : List Int} (p : a.Perm b) (ha : a.Pairwise (· ≤ ·)) (hb : b.Pairwise (· ≤ ·)) : a = b :=
  p.eq_of_pairwise (fun x y _ _ h1 h2 => Int.le_antisymm h1 h2) ha hb
theorem maxI_mem : ∀ (m : Int) (l : List Int), maxI m l ∈ m :: l
  | m, [] => List.mem_cons_self
  | m, j :: r => by
    unfold maxI
    have := maxI_mem (if m < j then j else m) r
    rcases List.mem_cons.mp this with e | h
    · rw [e]; split <;> simp
    · simp [h]
theorem maxI_ge : ∀ (m : Int) (l : List Int), ∀ y ∈ m :: l, y ≤ maxI m l
  | m, [], y, h => by simp at h; subst h; exact Int.le_refl _
  | m, j :: r, y, h => by
    unfold maxI
    have ih := maxI_ge (if m < j then j else m) r
    have h0 := ih _ List.mem_cons_self
    rcases List.mem_cons.mp h with e | h
    · subst e; split at h0 <;> rename_i hc
      · rw [if_pos hc]; omega
      · rw [if_neg hc]; omega
    · rcases List.mem_cons.mp h with e | h
      · subst e; split at h0 <;> rename_i hc
        · rw [if_pos hc]; omega
        · rw [if_neg hc]; omega
      · exact ih y (List.mem_cons_of_mem _ h)
theorem minI_mem : ∀ (m : Int) (l : List Int), minI m l ∈ m :: l
  | m, [] => List.mem_cons_self
  | m, j :: r => by
    unfold minI
    have := minI_mem (if j < m then j else m) r
    rcases List.mem_cons.mp this with e | h
    · rw [e]; split <;> simp
    · simp [h]
theorem minI_le : ∀ (m : Int) (l : List Int), ∀ y ∈ m :: l, minI m l ≤ y
  | m, [], y, h => by simp at h; subst h; exact Int.le_refl _
  | m, j :: r, y, h => by
    unfold minI
    have ih := minI_le (if j < m then j else m) r
    have h0 := ih _ List.mem_cons_self
    rcases List.mem_cons.mp h with e | h
    · subst e; split at h0 <;> rename_i hc
      · rw [if_pos hc]; omega
      · rw [if_neg hc]; omega
    · rcases List.mem_cons.mp h with e | h
      · subst e; split at h0 <;> rename_i hc
        · rw [if_pos hc]; omega
        · rw [if_neg hc]; omega
      · exact ih y (List.mem_cons_of_mem _ h)
def BI.name : BI → String
  | .len => "len" | .int => "int" | .abs => "abs" | .all => "all" | .any => "any" | .sum => "sum" | .max => "max" | .min => "min" | .sorted => "sorted"
  | .list => "list" | .tuple => "tuple" | .repr => "repr" | .max2 => "max" | .min2 => "min" | .bitlen => "bit_length"
def BI.isTy : BI → Bool
  | .int | .list | .tuple => true
  | _ => false
def rRepr (K : PySem.W.Frag) : List V → Hp → VK → Prop := fun xs H Q => (∃ a, xs = [.ref a] ∧ H a = some (.dK []) ∧ Q (.str "{}") H) ∨ ∃ (v : V) (p : PyData), xs = [v] ∧ Dp K H v p ∧ p.showable = true ∧ SeqAt.shaped p = true ∧ p.shown.length ≤ sizeLine ∧ Q (.str p.shown) H
/-- what a built-in's call asks -/
def rBi (K : PySem.W.Frag) : BI → List V → Hp → VK → Prop
  | .len => fun xs H Q => ∃ x n, xs = [x] ∧ LenV K x H n ∧ Q (.int n) H
  | .int => fun xs H Q => (∃ i, xs = [.int i] ∧ Q (.int i) H) ∨ ∃ k, xs = [.bl k] ∧ Q (.int (if k then 1 else 0)) H
  | .abs => fun xs H Q => ∃ i, xs = [.int i] ∧ Q (.int (if i < 0 then -i else i)) H
  | .all => rAll K
  | .any => rAny K
  | .sum => rSum K
  | .max => rMax K
  | .min => rMin K
  | .sorted => rSortedI K
  | .list => fun xs H Q => ∃ p ys, xs = [.ref p] ∧ (SqL K H p ys ∨ SqT K H p ys) ∧ ∀ l, H l = none → Q (.ref l) (upd H l (.lst ys))
  | .tuple => fun xs H Q => ∃ p ys, xs = [.ref p] ∧ ((SqL K H p ys ∧ ∀ l, H l = none → Q (.ref l) (upd H l (.tup ys))) ∨ (SqT K H p ys ∧ Q (.ref p) H))
  | .repr => rRepr K
  | .max2 => fun xs H Q => ∃ i j, xs = [.int i, .int j] ∧ Q (.int (if j > i then j else i)) H
  | .min2 => fun xs H Q => ∃ i j, xs = [.int i, .int j] ∧ Q (.int (if j < i then j else i)) H
  | .bitlen => fun _ _ _ => False
theorem Reads.display {h : Heap} {a : Addr} {d : PyData} {as : List Addr} (r : Reads h (.ref a) d as) : True := trivial
theorem call_repr (hg : X.A.guards = some []) (hu : X.A.units + 66 < cLine) : CallR X (.builtin "repr") (rRepr X.K) := by
  intro pins s σ H xs us Q I r h
  rcases h with ⟨a, rfl, ha, q⟩ | ⟨v, p, rfl, dp, hs, hsh, hl, q⟩
  · obtain ⟨u, rfl, ru⟩ := vals1 r
    cases (show u = Value.ref a from ru)
    obtain ⟨_, hsys, vs, kv, o, es, ep, e1, e2, e3, e4⟩ := I.hok a _ ha
    cases kv
    have he : es.toList = [] := by
      have z := e4.2.1
      generalize es.toList = l at z
      cases z
      rfl
    have rd : Reads s.heap (.ref a) (.dict []) (a :: [] ++ []) := .dict e1 e2.1 e3 (by rw [he]; exact .nil) (by rw [he]; exact .nil)
    refine PySem.repr_of_reads' rd rfl (fun _ z => ?_) hg (by show X.A.units + (1 + 1) < cLine; omega) (fun _ _ e => e) (fun h' u' tk k => ?_) (by decide)
    · have : sysModules = a := by simpa using z
      rw [← this] at hsys
      simp at hsys
    · exact ⟨.str _, H, I.kept k, ⟨_, rfl⟩, q⟩
  · obtain ⟨u, rfl, ru⟩ := vals1 r
    have hd := SeqAt.depth_of_shaped hsh
    have fin : ∀ {h' : Heap} {t : Nat} {u' : Tok}, (∀ b o, s.heap.get? b = some o → h'.get? b = some o) → EP X pins σ Q (.str p.shown u') { s with heap := h', toks := t } := fun {h' t u'} k => ⟨.str _, H, I.kept k, ⟨_, rfl⟩, q⟩
    cases v with
    | non =>
      cases dp
      cases (show u = Value.none from ru)
      exact PySem.P.repr_of_none (fin fun _ _ e => e)
    | bl b =>
      cases dp
      cases (show u = Value.bool b from ru)
      exact PySem.P.repr_of_bool (fin fun _ _ e => e)
    | int i =>
      cases dp
      obtain ⟨t, rfl⟩ := (show ∃ t, u = Value.int i t from ru)
      exact PySem.P.repr_of_int (by simpa [PyData.showable] using hs) (fin fun _ _ e => e)
    | str x =>
      cases dp
      obtain ⟨t, rfl⟩ := (show ∃ t, u = Value.str x t from ru)
      exact PySem.P.repr_of_str (fin fun _ _ e => e) hl
    | ref a =>
      cases (show u = Value.ref a from ru)
      obtain ⟨as, rd⟩ := Dp.reads I p _ _ dp rfl
      exact PySem.repr_of_reads' rd hs (PyData.noDict_hsm (PyData.hasDict_of_canLay _ (shaped_lay hsh))) hg (by omega) (fun _ _ e => e) (fun h' u' tk k => fin k) hl
    | _ => cases dp
theorem call_bi (hc : X.calm = true) (hg : X.A.guards = some []) (hu : X.A.units + 66 < cLine) (b : BI) (h : b ≠ .bitlen) : CallR X (if b.isTy then .type b.name else .builtin b.name) (rBi X.K b) := by
  cases b with
  | len => exact call_len
  | int => exact call_int1
  | abs => exact call_abs
  | all => exact cr_all hc
  | any => exact cr_any hc
  | sum => exact cr_sum hc
  | max => exact cr_max hc
  | min => exact cr_min hc
  | sorted => exact cr_sortedI
  | list => exact call_list_of
  | tuple => exact call_tuple_of
  | repr => exact call_repr hg hu
  | max2 => exact call_max2 hc
  | min2 => exact call_min2 hc
  | bitlen => exact absurd rfl h
theorem RepL.inv1 {vs : List V} {d : D} {F : List Addr} (r : RepL M G H vs [d] F) : ∃ v F', vs = [v] ∧ Rep M G H v d F' := by
  cases r with
  | cons a t => cases t; exact ⟨_, _, rfl, a⟩
theorem RepL.inv2 {vs : List V} {d d' : D} {F : List Addr} (r : RepL M G H vs [d, d'] F) : ∃ v F' v' F'', vs = [v, v'] ∧ Rep M G H v d F' ∧ Rep M G H v' d' F'' := by
  cases r with
  | cons a t =>
    cases t with
    | cons b t => cases t; exact ⟨_, _, _, _, rfl, a, b⟩
theorem biD_ok {b : BI} {ds : List D} {d : D} {vs : List V} {F : List Addr} {Q : VK} (r : RepL M G H vs ds F) (h : biD b ds = some d) (hb : b ≠ .bitlen)
    (e : EnvOK M G H σ ρ Fs) (g : GOK H G) (fin : Fin M W σ Q G H (Own Fs) (.ok d ρ)) : rBi M.K b vs H Q := by
  unfold biD at h
  split at h
  · obtain ⟨v, F', rfl, a⟩ := r.inv1
    split at h
    · cases h; cases a
      exact ⟨_, _, rfl, ⟨by assumption, rfl⟩, fin.give e g (.int _)⟩
    · cases h
  · obtain ⟨v, F', rfl, a⟩ := r.inv1
    cases h
    obtain ⟨p, ws, rfl, ea, ra⟩ := a.tupInv0
    exact ⟨_, _, rfl, .inr ⟨ws, ea, ra.length.symm⟩, fin.give e g (.int _)⟩
  · obtain ⟨v, F', rfl, a⟩ := r.inv1
    cases h
    obtain ⟨p, ws, F2, rfl, ea, ra⟩ := a.seq
    exact ⟨_, _, rfl, .inl ⟨ws, ea, ra.length.symm⟩, fin.give e g (.int _)⟩
  · obtain ⟨v, F', rfl, a⟩ := r.inv1
    cases h
    cases a with
    | scr s l => exact ⟨_, _, rfl, .inl ⟨_, s.seq, by simp⟩, fin.give e g (.int _)⟩
  · obtain ⟨v, F', rfl, a⟩ := r.inv1
    cases h; cases a
    exact .inl ⟨_, rfl, fin.give e g (.int _)⟩
  · obtain ⟨v, F', rfl, a⟩ := r.inv1
    cases h; cases a
    exact .inr ⟨_, rfl, fin.give e g (.int _)⟩
  · obtain ⟨v, F', rfl, a⟩ := r.inv1
    cases h; cases a
    exact ⟨_, rfl, fin.give e g (.int _)⟩
  · obtain ⟨v, F', v', F'', rfl, a, b⟩ := r.inv2
    cases h; cases a; cases b
    exact ⟨_, _, rfl, fin.give e g (.int _)⟩
  · obtain ⟨v, F', v', F'', rfl, a, b⟩ := r.inv2
    cases h; cases a; cases b
    exact ⟨_, _, rfl, fin.give e g (.int _)⟩
  · obtain ⟨v, F', rfl, a⟩ := r.inv1
    simp only [Option.map_eq_some_iff] at h
    obtain ⟨ns, h1, rfl⟩ := h
    cases intsOf_eq h1
    obtain ⟨p, ws, F2, rfl, ea, ra⟩ := a.seq
    cases RepL.ints ns ra
    exact ⟨p, ns, rfl, ea, fin.give e g (.int _)⟩
  · obtain ⟨v, F', rfl, a⟩ := r.inv1
    cases h
    cases a with
    | scr s l => exact ⟨_, _, rfl, s.seq, fin.give e g (.int _)⟩
  · obtain ⟨v, F', rfl, a⟩ := r.inv1
    simp only [Option.bind_eq_some_iff] at h
    obtain ⟨ns, h1, h2⟩ := h
    cases intsOf_eq h1
    obtain ⟨p, ws, F2, rfl, ea, ra⟩ := a.seq
    cases RepL.ints ns ra
    cases ns with
    | nil => cases h2
    | cons n rr =>
      cases h2
      refine ⟨p, n :: rr, rfl, ea, by simp, fun m hm hle => ?_⟩
      have : m = maxI n rr := Int.le_antisymm (maxI_ge n rr m hm) (hle _ (maxI_mem n rr))
      rw [this]
      exact fin.give e g (.int _)
  · obtain ⟨v, F', rfl, a⟩ := r.inv1
    simp only [Option.bind_eq_some_iff] at h
    obtain ⟨ns, h1, h2⟩ := h
    cases intsOf_eq h1
    obtain ⟨p, ws, F2, rfl, ea, ra⟩ := a.seq
    cases RepL.ints ns ra
    cases ns with
    | nil => cases h2
    | cons n rr =>
      cases h2
      refine ⟨p, n :: rr, rfl, ea, by simp, fun m hm hle => ?_⟩
      have : m = minI n rr := Int.le_antisymm (hle _ (minI_mem n rr)) (minI_le n rr m hm)
      rw [this]
      exact fin.give e g (.int _)
  · obtain ⟨v, F', rfl, a⟩ := r.inv1
    simp only [Option.map_eq_some_iff] at h
    obtain ⟨ns, h1, rfl⟩ := h
    cases intsOf_eq h1
    obtain ⟨p, ws, F2, rfl, ea, ra⟩ := a.seq
    cases RepL.ints ns ra
    refine ⟨p, ns, rfl, ea, fun ns' p' hp hs hn => ?_⟩
    have : ns' = sortI ns := sorted_eq (hp.trans (sortI_perm ns).symm) hs (sortI_sorted ns)
    rw [this]
    exact fin.newLst e g (RepL.ofInts _) (fun _ z => (nomatch z)) .nil (fun _ z => (nomatch z)) hn
  · obtain ⟨v, F', rfl, a⟩ := r.inv1
    simp only [Option.map_eq_some_iff] at h
    obtain ⟨ns, h1, rfl⟩ := h
    cases boolsOf_eq h1
    obtain ⟨p, ws, F2, rfl, ea, ra⟩ := a.seq
    cases RepL.bls ns ra
    exact ⟨p, ns, rfl, ea, fin.give e g (.bl _)⟩
  · obtain ⟨v, F', rfl, a⟩ := r.inv1
    simp only [Option.map_eq_some_iff] at h
    obtain ⟨ns, h1, rfl⟩ := h
    cases boolsOf_eq h1
    obtain ⟨p, ws, F2, rfl, ea, ra⟩ := a.seq
    cases RepL.bls ns ra
    exact ⟨p, ns, rfl, ea, fin.give e g (.bl _)⟩
  · obtain ⟨v, F', rfl, a⟩ := r.inv1
    split at h
    · cases h
      obtain ⟨p, ws, rfl, ea, ra⟩ := a.lstInv (by assumption)
      exact ⟨p, ws, rfl, .inl (.of ea), fun l hl => fin.newLst e g ra (fun _ z => (nomatch z)) .nil (fun _ z => (nomatch z)) hl⟩
    · cases h
  · obtain ⟨v, F', rfl, a⟩ := r.inv1
    split at h
    · cases h
      obtain ⟨p, ws, rfl, ea, ra⟩ := a.tupInv (by assumption)
      exact ⟨p, ws, rfl, .inr ea, fun l hl => fin.newLst e g ra (fun _ z => (nomatch z)) .nil (fun _ z => (nomatch z)) hl⟩
    · cases h
  · obtain ⟨v, F', rfl, a⟩ := r.inv1
    cases h
    cases a with
    | scr s l => exact ⟨_, _, rfl, .inl s.seq, fun l hl => fin.newLst e g (RepL.ofInts _) (fun _ z => (nomatch z)) .nil (fun _ z => (nomatch z)) hl⟩
  · obtain ⟨v, F', rfl, a⟩ := r.inv1
    split at h
    · cases h
      obtain ⟨p, ws, rfl, ea, ra⟩ := a.lstInv (by assumption)
      exact ⟨p, ws, rfl, .inl ⟨.of ea, fun l hl => fin.newTup e g ra (fun _ z => (nomatch z)) .nil (fun _ z => (nomatch z)) hl⟩⟩
    · cases h
  · obtain ⟨v, F', rfl, a⟩ := r.inv1
    split at h
    · cases h
      obtain ⟨p, ws, rfl, ea, ra⟩ := a.tupInv (by assumption)
      exact ⟨p, ws, rfl, .inr ⟨ea, fin.give e g (.tup ea ra)⟩⟩
    · cases h
  · obtain ⟨v, F', rfl, a⟩ := r.inv1
    cases h
    cases a with
    | edic ea => exact .inl ⟨_, rfl, ea, fin.give e g (.str _)⟩
  · obtain ⟨v, F', rfl, a⟩ := r.inv1
    simp only [Option.bind_eq_some_iff] at h
    obtain ⟨p, h1, h2⟩ := h
    split at h2
    · rename_i hc
      simp only [Bool.and_eq_true, decide_eq_true_eq] at hc
      cases h2
      exact .inr ⟨v, p, rfl, a.dp h1 (shaped_lay hc.1.2), hc.1.1, hc.1.2, hc.2, fin.give e g (.str _)⟩
    · cases h2
  · exact absurd rfl hb
  · cases h

/-! ### isinstance -/
theorem tyX {v : V} {d : D} {F : List Addr} (r : Rep M G H v d F) : (∃ t, tyD d = some t ∧ TyX M.K H v (.type t.name)) ∨ (d = .non ∧ v = .non) ∨ (match d with | .fn _ | .cls _ | .exc _ _ | .scr _ => True | _ => False) := by
  cases r with
  | non => exact .inr (.inl ⟨rfl, rfl⟩)
  | bl b => exact .inl ⟨_, rfl, .base (.bl b)⟩
  | int i => exact .inl ⟨_, rfl, .base (.int i)⟩
  | str x => exact .inl ⟨_, rfl, .base (.str x)⟩
  | tup s r =>
    refine .inl ⟨_, rfl, ?_⟩
    rcases s with (h | ⟨o, h⟩) | ⟨o, its, n, h, c, _⟩
    · exact .base (.tup h)
    · exact .fTuple h
    · exact .kTuple h c
  | lstS e n r => exact .inl ⟨_, rfl, .base (.lst e)⟩
  | lstO e n r => exact .inl ⟨_, rfl, .base (.lst e)⟩
  | edic e => exact .inl ⟨_, rfl, .base (.dK e)⟩
  | fn _ => exact .inr (.inr trivial)
  | cls _ => exact .inr (.inr trivial)
  | exc _ _ _ _ _ => exact .inr (.inr trivial)
  | scr _ _ => exact .inr (.inr trivial)
theorem kit_ty' (K : PySem.W.Frag) (a b : Ty) : PySem.W.kitOne K (.type a.name) (.type b.name) = some (isiT (some a) b) := by
  cases a <;> cases b <;> rfl
theorem kit_none (K : PySem.W.Frag) (b : Ty) : PySem.W.kitOne K (.type "NoneType") (.type b.name) = some false := by
  cases b <;> rfl
end
end VI

set_option maxHeartbeats 1000000
set_option synthInstance.maxSize 128
set_option synthInstance.maxHeartbeats 20000
namespace VI
open PySem L2

/-! ### the text's arguments -/
def notStar : Expr → Bool
  | .Starred _ _ => false
  | _ => true
theorem star_cons {e : Expr} {es : List Expr} {env : PySem.Env} (h : notStar e = true) : starEach (e :: es) env = (false, eval e env) :: starEach es env := by
  cases e <;> first | rfl | cases h
theorem star_any {env : PySem.Env} {pos : Pos} : ∀ {es : List Expr}, es.all notStar = true → (backTo pos (starEach es env)).any (·.1) = false
  | [], _ => rfl
  | e :: es, h => by
    have h' := Bool.and_eq_true_iff.mp (by simpa only [List.all_cons] using h)
    rw [star_cons h'.1]
    exact star_any h'.2

/-! ### a def's promise, where no repr runs around -/
structure FnG (P : Program) (w : World) (K : PySem.W.Frag) (mg : Str → Option Value) (base : Heap) (k : Nat) (f : Addr) (fd : FuncData) (ps : List Str) (sp : Sp) : Prop where
  len : ∀ vs H Q E, sp vs H Q E → vs.length = ps.length
  run : ∀ (A : Around) (outer : List PySem.Env) (s : Shared) (H : Hp) (args : Args) (us : List Value) (vs : List V) (Q : VK) (E : XK), Room k A → A.guards = some [] → Env0 P w K mg base A outer s H → BindsTo s fd args (ps.zip us) → Vals vs us → sp vs H Q E →
    codeAny (model P w) A (.call (.ref f) args) (CR (CX P w) outer P w H s Q E) s
section
variable {X : Cx} {k : Nat} {f : Addr} {fd : FuncData} {ps : List Str} {sp : Sp} {W : WX} {x : Str} {p pos : Pos} {es : List Expr} {t : TA}
theorem run_fnG {pins : List (Addr × Obj)} {σ : St} {H : Hp} {s : Shared} {Q : VK} {us us' : List Value} {kw : List (Str × Value)} {vs : List V} (F : FnG X.prog X.w X.K X.mg X.base k f fd ps sp) (hr : Room k X.A) (hg : X.A.guards = some []) (tk : Takes X W)
    (I : Inv X pins σ H s) (hb : BindsTo s fd ⟨us, kw⟩ (ps.zip us')) (r : Vals vs us') (h : sp vs H Q (WE W σ)) : wpAny (model X.prog X.w) X.A (call (.ref f) us kw) (EP X pins σ Q) X.xe s := by
  refine wpAny_call (codeAny_mono (F.run X.A X.stack s H ⟨us, kw⟩ us' vs Q (WE W σ) hr hg I.env0 hb r h) fun r s' hq => ?_)
  cases r with
  | error e => exact L2.passAt tk σ pins H s e s' I hq
  | ok fl =>
    cases fl with
    | ret u => exact I.after hq
    | next => exact hq.elim
    | brk => exact hq.elim
    | cont => exact hq.elim
def tCl (sp : Sp) (W : WX) (t : TA) : TE := fun σ H Q => t σ H fun vs H1 => sp vs H1 Q (WE W σ)
theorem binds_of (F : FnG X.prog X.w X.K X.mg X.base k f fd ps sp) (hb : Binds X.K fd ps []) {pins : List (Addr × Obj)} {σ : St} {H : Hp} {s : Shared} {Q : VK} {E : XK} {us : List Value} {vs : List V} (I : Inv X pins σ H s) (r : Vals vs us) (h : sp vs H Q E) : BindsTo s fd ⟨us, []⟩ (ps.zip us) := by
  have hl : us.length = ps.length := by rw [← r.length]; exact F.len _ _ _ _ h
  have q := hb s us I.kIn (by rw [List.append_nil]; exact hl)
  rw [List.append_nil] at q
  exact q
/-- f(e, ..) -/
theorem pe_callG (F : FnG X.prog X.w X.K X.mg X.base k f fd ps sp) (hr : Room k X.A) (hgd : X.A.guards = some []) (hg : Gl X x) (hm : X.mg x = some (.ref f)) (hk : PySem.W.keepIn X.K (.ref f) = true) (hb : Binds X.K fd ps []) (tk : Takes X W)
    (ha : PA X es t) (hdb : (x == ("__debug__" : Str)) = false) (hst : es.all notStar = true) (ht : es = [] → t = tNil) : PE X (.Call (.Name x p) es [] pos) (tCl sp W t) := by
  refine ⟨fun pins s σ H Q I h => ?_⟩
  refine wpAny_Call_Name_kw (ld_glob I hg hm ?_ hdb)
  cases es with
  | nil =>
    obtain rfl := ht rfl
    exact PySem.W.callWith_K0 I.kIn hk (run_fnG (us := []) F hr hgd tk I (binds_of F hb I .nil h) .nil h)
  | cons e es =>
    have h' := Bool.and_eq_true_iff.mp (by simpa only [List.all_cons] using hst)
    refine PySem.W.callWith_K (h₀ := X.base) I.ok.mod.kin hk (thn (ha.run pos pins s σ H _ I h) fun us s1 ⟨vs, H1, I1, r, q⟩ => ⟨I1.kIn, ?_⟩) (star_cons h'.1) (star_any h'.2)
    exact run_fnG (us := us) F hr hgd tk I1 (binds_of F hb I1 r q) r q
/-- g(e, ..), g the name of slot i that holds f -/
theorem pe_callGv {i : Nat} (F : FnG X.prog X.w X.K X.mg X.base k f fd ps sp) (hr : Room k X.A) (hgd : X.A.guards = some []) (hN : X.N[i]? = some x) (hv : Vis X.env.scope x) (hk : PySem.W.keepIn X.K (.ref f) = true) (hb : Binds X.K fd ps []) (tk : Takes X W)
    (ha : PA X es t) (hdb : (x == ("__debug__" : Str)) = false) (hcd : (x == ("__classdict__" : Str)) = false) (hst : es.all notStar = true) (ht : es = [] → t = tNil) : PE X (.Call (.Name x p) es [] pos) (fun σ H Q => σ[i]? = some (some (.ref f)) ∧ tCl sp W t σ H Q) := by
  refine ⟨fun pins s σ H Q I h => ?_⟩
  obtain ⟨hs, h⟩ := h
  refine wpAny_Call_Name_kw (thn ((pe_var (pos := p) hN hv hdb hcd).run pins s σ H (fun v H1 => v = .ref f ∧ H1 = H) I ⟨.ref f, hs, rfl, rfl⟩) fun u s1 ⟨v, H1, I1, r1, q1⟩ => ?_)
  obtain ⟨rfl, rfl⟩ := q1
  cases r1
  cases es with
  | nil =>
    obtain rfl := ht rfl
    exact PySem.W.callWith_K0 I1.kIn hk (run_fnG (us := []) F hr hgd tk I1 (binds_of F hb I1 .nil h) .nil h)
  | cons e es =>
    have h' := Bool.and_eq_true_iff.mp (by simpa only [List.all_cons] using hst)
    refine PySem.W.callWith_K (h₀ := X.base) I.ok.mod.kin hk (thn (ha.run pos pins s1 σ _ _ I1 h) fun us s2 ⟨vs, H2, I2, r, q⟩ => ⟨I2.kIn, ?_⟩) (star_cons h'.1) (star_any h'.2)
    exact run_fnG (us := us) F hr hgd tk I2 (binds_of F hb I2 r q) r q
/-- how a call with keywords (of these names) binds -/
def KB (K : PySem.W.Frag) (fd : FuncData) (ps ks : List Str) (np : Nat) (perm : List Nat) : Prop :=
  ∀ (s : Shared) (us ws : List Value), K.In s.heap → us.length = np → ws.length = ks.length → BindsTo s fd ⟨us, ks.zip ws⟩ (ps.zip (perm.filterMap fun i => (us ++ ws)[i]?))
/-- the keywords' values, one by one -/
def kwNames : List Keyword → List (Option Str)
  | [] => []
  | ⟨n, _, _⟩ :: r => n :: kwNames r
theorem kw_names {env : PySem.Env} {pos : Pos} : ∀ {kws : List Keyword}, (backToKw pos (keywordEach kws env)).map (·.1) = kwNames kws
  | [] => rfl
  | ⟨n, e, p⟩ :: r => by
    show n :: (backToKw pos (keywordEach r env)).map (·.1) = _
    rw [kw_names]; rfl
theorem any_map {α β : Type} (f : α → β) (q : β → Bool) (l : List α) : l.any (fun a => q (f a)) = (l.map f).any q := by
  induction l with
  | nil => rfl
  | cons a l ih => simp only [List.any_cons, List.map_cons, ih]
theorem all_map {α β : Type} (f : α → β) (q : β → Bool) (l : List α) : l.all (fun a => q (f a)) = (l.map f).all q := by
  induction l with
  | nil => rfl
  | cons a l ih => simp only [List.all_cons, List.map_cons, ih]
theorem fm_map {α β : Type} (f : α → Option β) (l : List α) : l.filterMap f = (l.map f).filterMap id := by
  induction l with
  | nil => rfl
  | cons a l ih => simp only [List.filterMap_cons, List.map_cons, ih]; rfl
theorem Vals.perm {vs : List V} {us : List Value} (r : Vals vs us) : ∀ (perm : List Nat), Vals (perm.filterMap fun i => vs[i]?) (perm.filterMap fun i => us[i]?)
  | [] => .nil
  | i :: p => by
    simp only [List.filterMap_cons]
    cases q : vs[i]? with
    | none => rw [r.none_of q]; exact Vals.perm r p
    | some v =>
      obtain ⟨u, hu, rv⟩ := r.get q
      rw [hu]
      exact .cons rv (Vals.perm r p)
def tClK (sp : Sp) (W : WX) (np nk : Nat) (perm : List Nat) (t tk : TA) : TE := fun σ H Q => t σ H fun vs H1 => tk σ H1 fun zs H2 => vs.length = np ∧ zs.length = nk ∧ sp (perm.filterMap fun i => (vs ++ zs)[i]?) H2 Q (WE W σ)
/-- f(e, .., k = v, ..) -/
theorem pe_callGK {kws : List Keyword} {ks : List Str} {np : Nat} {perm : List Nat} {tk' : TA} (F : FnG X.prog X.w X.K X.mg X.base k f fd ps sp) (hr : Room k X.A) (hgd : X.A.guards = some []) (hg : Gl X x) (hm : X.mg x = some (.ref f)) (hk : PySem.W.keepIn X.K (.ref f) = true) (hb : KB X.K fd ps ks np perm) (tk : Takes X W)
    (ha : PA X es t) (hkw : PK X kws tk') (hn : kwNames kws = ks.map some) (hdb : (x == ("__debug__" : Str)) = false) (hst : es.all notStar = true) (ht : es = [] → t = tNil) : PE X (.Call (.Name x p) es kws pos) (tClK sp W np ks.length perm t tk') := by
  refine ⟨fun pins s σ H Q I h => ?_⟩
  refine wpAny_Call_Name_kw (ld_glob I hg hm ?_ hdb)
  have hall : (backToKw pos (keywordEach kws X.env)).all (·.1.isSome) = true := by
    rw [all_map (fun a : Option Str × Sem Value => a.1) (fun a => a.isSome), kw_names, hn]
    simp
  have hany : (backToKw pos (keywordEach kws X.env)).any (·.1.isNone) = false := by
    rw [any_map (fun a : Option Str × Sem Value => a.1) (fun a => a.isNone), kw_names, hn]
    simp
  have hks : (backToKw pos (keywordEach kws X.env)).filterMap (·.1) = ks := by
    rw [fm_map, kw_names, hn]
    simp
  have fin : ∀ {s2 : Shared} {H2 : Hp} {us ws : List Value} {vs zs : List V}, Inv X pins σ H2 s2 → Vals vs us → Vals zs ws → (vs.length = np ∧ zs.length = ks.length ∧ sp (perm.filterMap fun i => (vs ++ zs)[i]?) H2 Q (WE W σ)) →
      wpAny (model X.prog X.w) X.A (call (.ref f) us (ks.zip ws)) (EP X pins σ Q) X.xe s2 := fun {s2 H2 us ws vs zs} I2 r rz q => by
    have rr := r.append rz
    exact run_fnG F hr hgd tk I2 (hb s2 us ws I2.kIn (by rw [← r.length]; exact q.1) (by rw [← rz.length]; exact q.2.1)) (VI.Vals.perm rr perm) q.2.2
  cases es with
  | nil =>
    obtain rfl := ht rfl
    refine PySem.W.callWith_KW0 (h₀ := X.base) I.ok.mod.kin hk hall ?_ (by show (false || _) = false; rw [hany]; rfl)
    refine thn (hkw.run pos pins s σ H _ I h) fun ws s2 ⟨zs, H2, I2, rz, q2⟩ => ⟨I2.kIn, ?_⟩
    rw [hks]
    exact fin I2 .nil rz q2
  | cons e es =>
    have h' := Bool.and_eq_true_iff.mp (by simpa only [List.all_cons] using hst)
    refine PySem.W.callWith_KW (h₀ := X.base) I.ok.mod.kin hk hall (thn (ha.run pos pins s σ H _ I h) fun us s1 ⟨vs, H1, I1, r, q⟩ => ?_) (by rw [star_any hst, hany]; rfl) (star_cons h'.1)
    refine thn (hkw.run pos pins s1 σ H1 _ I1 q) fun ws s2 ⟨zs, H2, I2, rz, q2⟩ => ⟨I2.kIn, ?_⟩
    rw [hks]
    exact fin I2 r rz q2
end
end VI

set_option maxHeartbeats 1000000
set_option synthInstance.maxSize 128
set_option synthInstance.maxHeartbeats 20000
namespace VI
open PySem L2

/-! ### what a def promises -/
structure Post (M : Nm) (G : Addr → Prop) (H : Hp) (F : List Addr) (d : D) (v : V) (G' : Addr → Prop) (H' : Hp) (F' : List Addr) : Prop where
  gok : GOK H' G'
  stp : Stp G H (· ∈ F) G' H'
  rep : Rep M G' H' v d F'
  own : ∀ b ∈ F', b ∈ F ∨ H b = none
  nd : F'.Nodup
structure PostE (M : Nm) (G : Addr → Prop) (H : Hp) (F : List Addr) (c : String) (d : D) (C dd : Addr) (G' : Addr → Prop) (H' : Hp) : Prop where
  gok : GOK H' G'
  stp : Stp G H (· ∈ F) G' H'
  cl : M.cl c = some C
  fld : ∃ fs u, H' dd = some (.xd fs) ∧ fs.lookup ("value" : Str) = some u ∧ Rep M G' H' u d []
/-- the first argument, changed in place -/
def PostIo (M : Nm) (F : List Addr) (H : Hp) (vs : List V) (F' : List Addr) (io : D) (G' : Addr → Prop) (H' : Hp) (Fi : List Addr) : Prop :=
  ∃ v0, vs[0]? = some v0 ∧ Rep M G' H' v0 io Fi ∧ Fi.Nodup ∧ (∀ b ∈ Fi, b ∈ F ∨ H b = none) ∧ ∀ b ∈ Fi, b ∉ F'
def spG (M : Nm) (Γ : Gam) (f : String) (g : Fn) : Sp := fun vs H Q E => ∃ G ds F r, GOK H G ∧ RepL M G H vs ds F ∧ F.Nodup ∧ vs.length = g.ps.length ∧ Γ f ds = some r ∧ (match r with
  | .ok d io => ∀ v G' H' F', Post M G H F d v G' H' F' → (g.io = true → ∃ Fi, PostIo M F H vs F' io G' H' Fi) → Q v H'
  | .ex c d => ∀ C dd G' H', PostE M G H F c d C dd G' H' → E (.ref C) (some dd) H')

/-! ### argument lists -/
def borsOf : E → List Nat
  | .cons (.bor i) r => i :: borsOf r
  | .cons _ r => borsOf r
  | _ => []
inductive RepA (M : Nm) (G : Addr → Prop) (H : Hp) (σ : St) (ρ : Env) : E → List V → List D → List Addr → Prop
  | nil : RepA M G H σ ρ .nil [] [] []
  | bor {i r v vs d ds F} : σ[i]? = some (some v) → slot ρ i = some d → RepA M G H σ ρ r vs ds F → RepA M G H σ ρ (.cons (.bor i) r) (v :: vs) (d :: ds) F
  | val {h r v vs d ds F0 F} : isBor h = false → Rep M G H v d F0 → RepA M G H σ ρ r vs ds F → RepA M G H σ ρ (.cons h r) (v :: vs) (d :: ds) (F0 ++ F)
structure PstA (M : Nm) (σ : St) (G : Addr → Prop) (H : Hp) (O : Addr → Prop) (as : E) (ρ' : Env) (ds : List D) (vs : List V) (G' : Addr → Prop) (H' : Hp) (Fs' : Nat → List Addr) (F : List Addr) : Prop where
  pen : Pen M σ G H O ρ' G' H' Fs'
  rep : RepA M G' H' σ ρ' as vs ds F
  own : ∀ b ∈ F, O b ∨ H b = none
  nd : F.Nodup
  dj : ∀ b ∈ F, ¬ Own Fs' b
def FinA (M : Nm) (W : WX) (σ : St) (Q : List V → Hp → Prop) (G : Addr → Prop) (H : Hp) (O : Addr → Prop) (as : E) (r : R) : Prop := match r with
  | .ok (.tup ds) ρ' => ∀ vs G' H' Fs' F, PstA M σ G H O as ρ' ds vs G' H' Fs' F → Q vs H'
  | .ok _ _ => False
  | .ex c d ρ' => ∀ C dd G' H' Fs', Pex M σ G H O ρ' c d C dd G' H' Fs' → W (.ref C) (some dd) σ H'
def tA (M : Nm) (W : WX) (Γ : Gam) (as : E) : TA := fun σ H Q => ∃ ρ G Fs r, EnvOK M G H σ ρ Fs ∧ GOK H G ∧ (ev Γ as).as ρ = some r ∧ FinA M W σ Q G H (Own Fs) as r
section
variable {M : Nm} {W : WX} {Γ : Gam} {σ : St} {ρ ρ' ρ1 : Env} {G G' G1 : Addr → Prop} {H H' H1 : Hp} {Fs Fs' Fs1 : Nat → List Addr} {O : Addr → Prop} {r : R}
theorem RepA.own {as : E} {vs : List V} {ds : List D} {F : List Addr} (h : RepA M G H σ ρ as vs ds F) : ∀ b ∈ F, G b := by
  induction h with
  | nil => intro b z; cases z
  | bor _ _ _ ih => exact ih
  | val _ a _ ih => intro b z; exact (List.mem_append.mp z).elim (a.own b) (ih b)
/-- some representation each -/
theorem RepA.repL {as : E} {vs : List V} {ds : List D} {F : List Addr} (e : EnvOK M G H σ ρ Fs) (h : RepA M G H σ ρ as vs ds F) : ∃ F', RepL M G H vs ds F' := by
  induction h with
  | nil => exact ⟨_, .nil⟩
  | bor e1 e2 _ ih =>
    obtain ⟨F', r⟩ := ih
    obtain ⟨v', e3, rv⟩ := e.at_ _ _ (slot_some e2)
    rw [e1] at e3; cases e3
    exact ⟨_, .cons rv r⟩
  | val _ a _ ih =>
    obtain ⟨F', r⟩ := ih
    exact ⟨_, .cons a r⟩
theorem RepA.pure {as : E} {vs : List V} {ds : List D} {F : List Addr} (hb : borsOf as = []) (h : RepA M G H σ ρ as vs ds F) : RepL M G H vs ds F := by
  induction h with
  | nil => exact .nil
  | bor _ _ _ ih => simp [borsOf] at hb
  | val hn a _ ih =>
    rename_i h r _ _ _ _ _ _ _
    refine .cons a (ih ?_)
    cases h <;> first | (cases hn; done) | simpa [borsOf] using hb
theorem RepA.mono (g : GOK H G) {as : E} {vs : List V} {ds : List D} {F : List Addr} (h : RepA M G H σ ρ as vs ds F) (k : Kp G H G' H' F) : RepA M G' H' σ ρ as vs ds F := by
  induction h with
  | nil => exact .nil
  | bor e1 e2 _ ih => exact .bor e1 e2 (ih k)
  | val hn a _ ih => exact .val hn (a.mono g k.left) (ih k.right)
/-- use of an argument list's reading -/
theorem tA_use {as : E} {Q : List V → Hp → Prop} {k : D → Env → Option R} (e : EnvOK M G H σ ρ Fs) (g : GOK H G) (hb : bindR ((ev Γ as).as ρ) k = some r)
    (hx : ∀ {c : String} {d : D} {ρ' : Env}, r = .ex c d ρ' → ∀ {C dd : Addr} {G' : Addr → Prop} {H' : Hp} {Fs' : Nat → List Addr}, Pex M σ G H (Own Fs) ρ' c d C dd G' H' Fs' → W (.ref C) (some dd) σ H')
    (ht : ∀ d ρ1, (ev Γ as).as ρ = some (.ok d ρ1) → ∃ ds, d = .tup ds)
    (hk : ∀ ds ρ1 vs G1 H1 Fs1 F, k (.tup ds) ρ1 = some r → PstA M σ G H (Own Fs) as ρ1 ds vs G1 H1 Fs1 F → Q vs H1) : tA M W Γ as σ H Q := by
  rcases bindR_some hb with ⟨d, ρ1, h1, h2⟩ | ⟨c, d, ρ1, h1, h2⟩
  · obtain ⟨ds, rfl⟩ := ht d ρ1 h1
    exact ⟨ρ, G, Fs, .ok (.tup ds) ρ1, e, g, h1, fun vs G' H' Fs' F p => hk ds ρ1 vs G' H' Fs' F h2 p⟩
  · exact ⟨ρ, G, Fs, .ex c d ρ1, e, g, h1, fun C dd G' H' Fs' p => hx h2 p⟩
/-- argument lists give lists -/
theorem as_tup (as : E) : ∀ {ρ : Env} {d : D} {ρ1 : Env}, (ev Γ as).as ρ = some (.ok d ρ1) → ∃ ds, d = .tup ds := by
  intro ρ d ρ1 h
  cases as with
  | nil => cases h; exact ⟨_, rfl⟩
  | cons a b =>
    have h' : bindR ((ev Γ a).v ρ) (fun d ρ1 => bindR ((ev Γ b).as ρ1) fun ds ρ2 => (late a d ρ2).map fun d' => R.ok (.tup (d' :: tupOf ds)) ρ2) = some (.ok d ρ1) := h
    rcases bindR_some h' with ⟨d1, ρ2, h1, h2⟩ | ⟨_, _, _, _, h2⟩
    · rcases bindR_some h2 with ⟨d3, ρ3, h3, h4⟩ | ⟨_, _, _, _, h4⟩
      · simp only [Option.map_eq_some_iff] at h4
        obtain ⟨_, _, h5⟩ := h4
        cases h5; exact ⟨_, rfl⟩
      · cases h4
    · cases h2
  | _ => cases h
/-- f(a, rest ..) -/
theorem tA_cons {a as : E} {Q : List V → Hp → Prop} (h : tA M W Γ (.cons a as) σ H Q) : tCons (tO M W Γ a) (tA M W Γ as) σ H Q := by
  obtain ⟨ρ, G, Fs, r, e, g, hr, fin⟩ := h
  have hr' : bindR ((ev Γ a).v ρ) (fun d ρ1 => bindR ((ev Γ as).as ρ1) fun ds ρ2 => (late a d ρ2).map fun d' => R.ok (.tup (d' :: tupOf ds)) ρ2) = some r := hr
  have hx : ∀ {c : String} {d : D} {ρ' : Env}, r = .ex c d ρ' → ∀ {C dd : Addr} {G' : Addr → Prop} {H' : Hp} {Fs' : Nat → List Addr}, Pex M σ G H (Own Fs) ρ' c d C dd G' H' Fs' → W (.ref C) (some dd) σ H' := fun {c d ρ'} e => by subst e; exact fun {_ _ _ _ _} p => fin _ _ _ _ _ p
  refine tO_use e g hr' hx fun d ρ1 v G1 H1 Fs1 F _ h2 p => ?_
  refine tA_use p.pen.env p.pen.gok h2 (fun {c d ρ'} e {C dd G' H' Fs'} q => hx e (p.pen.pex g q)) (fun _ _ => as_tup as) fun ds ρ2 vs G2 H2 Fs2 F2 h3 q => ?_
  simp only [Option.map_eq_some_iff] at h3
  obtain ⟨d', h4, h5⟩ := h3
  subst h5
  refine fin (v :: vs) G2 H2 Fs2 (F ++ F2) ⟨p.pen.trans g q.pen, ?_, fun b hb => ?_, ?_, fun b hb => ?_⟩
  · by_cases hbor : isBor a = false
    · have e1 : d' = d := by cases a <;> first | (cases hbor; done) | exact (Option.some.inj h4).symm
      rw [e1]
      exact .val hbor ((p.rep hbor).mono p.pen.gok (q.pen.stp.kp p.pen.gok (fun b o => p.pen.env.own o) fun b hb' => ⟨(p.rep hbor).own b hb', p.dj b hb'⟩)) q.rep
    · cases a with
      | bor i =>
        obtain ⟨e1, e2, e3⟩ := p.bor i rfl
        rw [e3]
        exact .bor e1 h4 q.rep
      | _ => exact absurd rfl hbor
  · rcases List.mem_append.mp hb with hb | hb
    · exact p.own b hb
    · exact (q.own b hb).elim (p.pen.own b) (fun z => .inr (p.pen.stp.free z))
  · refine List.nodup_append.mpr ⟨p.nd, q.nd, fun b h1 c h2 e => ?_⟩
    subst e
    rcases q.own b h2 with z | z
    · exact p.dj b h1 z
    · by_cases hbor : isBor a = false
      · obtain ⟨xs, e⟩ := p.pen.gok b ((p.rep hbor).own b h1)
        rw [z] at e; cases e
      · cases a with
        | bor i => obtain ⟨_, _, e3⟩ := p.bor i rfl; rw [e3] at h1; cases h1
        | _ => exact absurd rfl hbor
  · rcases List.mem_append.mp hb with hb | hb
    · intro z
      rcases q.pen.own b z with z | z
      · exact p.dj b hb z
      · by_cases hbor : isBor a = false
        · obtain ⟨xs, e⟩ := p.pen.gok b ((p.rep hbor).own b hb)
          rw [z] at e; cases e
        · cases a with
          | bor i => obtain ⟨_, _, e3⟩ := p.bor i rfl; rw [e3] at hb; cases hb
          | _ => exact absurd rfl hbor
    · exact q.dj b hb
theorem tA_nil {Q : List V → Hp → Prop} (h : tA M W Γ .nil σ H Q) : tNil σ H Q := by
  obtain ⟨ρ, G, Fs, r, e, g, hr, fin⟩ := h
  cases hr
  exact fin [] G H Fs [] ⟨.refl e g, .nil, fun _ z => (nomatch z), .nil, fun _ z => (nomatch z)⟩

/-! ### a call -/
mutual
theorem Rep.nosh : ∀ {v : V} {d : D} {F : List Addr}, Rep M G H v d F → d.nosh = true → (∀ b ∈ F, G' b) → Rep M G' H v d F
  | _, _, _, .non, _, _ => .non
  | _, _, _, .bl b, _, _ => .bl b
  | _, _, _, .int i, _, _ => .int i
  | _, _, _, .str x, _, _ => .str x
  | _, _, _, .tup s r, h, k => .tup s (RepL.nosh r (by simpa [D.nosh] using h) k)
  | _, _, _, .lstS _ _ _, h, _ => by simp [D.nosh] at h
  | _, _, _, .lstO e _ r, h, k => .lstO e (k _ List.mem_cons_self) (RepL.nosh r (by simpa [D.nosh] using h) fun b z => k b (List.mem_cons_of_mem _ z))
  | _, _, _, .edic e, _, _ => .edic e
  | _, _, _, .fn e, _, _ => .fn e
  | _, _, _, .cls e, _, _ => .cls e
  | _, _, _, .exc c e1 e2 l r, h, _ => .exc c e1 e2 l (Rep.nosh r (by simpa [D.nosh] using h) fun _ z => (nomatch z))
  | _, _, _, .scr s l, _, _ => .scr s l
theorem RepL.nosh : ∀ {v : List V} {d : List D} {F : List Addr}, RepL M G H v d F → D.noshs d = true → (∀ b ∈ F, G' b) → RepL M G' H v d F
  | _, _, _, .nil, _, _ => .nil
  | _, _, _, .cons h t, hs, k => by
    have hs' := Bool.and_eq_true_iff.mp (by simpa [D.noshs] using hs)
    exact .cons (Rep.nosh h hs'.1 fun b z => k b (List.mem_append_left _ z)) (RepL.nosh t hs'.2 fun b z => k b (List.mem_append_right _ z))
end
def upF (Fs : Nat → List Addr) (i : Nat) (F : List Addr) : Nat → List Addr := fun j => if j = i then F else Fs j
theorem own_up {i : Nat} {F : List Addr} {b : Addr} (h : Own (upF Fs i F) b) : b ∈ F ∨ ∃ j, j ≠ i ∧ b ∈ Fs j := by
  obtain ⟨j, h⟩ := h
  unfold upF at h
  split at h
  · exact .inl h
  · exact .inr ⟨j, by assumption, h⟩
theorem List.set_getElem?_eq {α : Type} {l : List α} {i : Nat} {a : α} (h : l[i]? = some a) : l.set i a = l := by
  apply List.ext_getElem?
  intro j
  by_cases e : i = j
  · subst e
    rw [List.getElem?_set_self (List.getElem?_eq_some_iff.mp h).1, h]
  · rw [List.getElem?_set_ne e]
/-- a slot forgotten -/
theorem EnvOK.clear (e : EnvOK M G H σ ρ Fs) (i : Nat) : EnvOK M G H σ (ρ.set i none) (upF Fs i []) where
  len := by rw [List.length_set]; exact e.len
  at_ := fun j d h => by
    by_cases hj : i = j
    · subst hj
      by_cases hl : i < ρ.length
      · rw [List.getElem?_set_self hl] at h; cases h
      · rw [List.getElem?_eq_none (by simpa using hl)] at h; cases h
    · rw [List.getElem?_set_ne hj] at h
      unfold upF
      rw [if_neg (Ne.symm hj)]
      exact e.at_ j d h
  non := fun j h => by
    unfold upF
    split
    · rfl
    · rename_i hj
      exact e.non j fun d z => h d (by rw [List.getElem?_set_ne (Ne.symm hj)]; exact z)
  nd := fun j => by unfold upF; split; exact .nil; exact e.nd j
  dj := fun j l a hjl h => by
    unfold upF at h ⊢
    split at h
    · cases h
    · split
      · exact fun z => (nomatch z)
      · exact e.dj j l a hjl h
/-- a slot stored -/
theorem EnvOK.put {v : V} {d : D} {F : List Addr} (e : EnvOK M G H σ ρ Fs) (i : Nat) (r : Rep M G H v d F) (nd : F.Nodup) (dj : ∀ b ∈ F, ∀ j, j ≠ i → b ∉ Fs j) : EnvOK M G H (σ.set i (some v)) (ρ.set i (some d)) (if i < ρ.length then upF Fs i F else Fs) := by
  by_cases hl : i < ρ.length
  · rw [if_pos hl]
    refine ⟨by rw [List.length_set, List.length_set]; exact e.len, fun j d' h => ?_, fun j h => ?_, fun j => ?_, fun j l a hjl h => ?_⟩
    · by_cases hj : i = j
      · subst hj
        rw [List.getElem?_set_self hl] at h
        cases h
        refine ⟨v, by rw [List.getElem?_set_self (e.len ▸ hl)], ?_⟩
        unfold upF; rw [if_pos rfl]; exact r
      · rw [List.getElem?_set_ne hj] at h
        obtain ⟨v', h1, h2⟩ := e.at_ j d' h
        refine ⟨v', by rw [List.getElem?_set_ne hj]; exact h1, ?_⟩
        unfold upF; rw [if_neg (Ne.symm hj)]; exact h2
    · unfold upF
      split
      · rename_i hj
        subst hj
        exact absurd (by rw [List.getElem?_set_self hl]) (h d)
      · rename_i hj
        exact e.non j fun d' z => h d' (by rw [List.getElem?_set_ne (Ne.symm hj)]; exact z)
    · unfold upF; split; exact nd; exact e.nd j
    · unfold upF at h ⊢
      split at h
      · rename_i hj
        split
        · rename_i hl'; exact absurd (hj.trans hl'.symm) hjl
        · rename_i hl'
          exact dj a h l hl'
      · rename_i hj
        split
        · exact fun z => dj a z j hj h
        · exact e.dj j l a hjl h
  · rw [if_neg hl, List.set_eq_of_length_le (Nat.le_of_not_lt hl), List.set_eq_of_length_le (e.len ▸ Nat.le_of_not_lt hl)]
    exact e
theorem own_put {i : Nat} {F : List Addr} {b : Addr} (h : Own (if i < ρ.length then upF Fs i F else Fs) b) : b ∈ F ∨ Own Fs b := by
  split at h
  · exact (own_up h).imp_right fun ⟨j, _, z⟩ => ⟨j, z⟩
  · exact .inr h
/-- behind a call: what was lent is ours again -/
def back (G2 : Addr → Prop) (Fb : List Addr) : Addr → Prop := fun a => G2 a ∨ a ∈ Fb
theorem back_pen {Fb Fc : List Addr} {G2 : Addr → Prop} {H2 : Hp} (g : GOK H G) (p : Pen M σ G H O ρ1 G1 H1 Fs1) (hb : ∀ b ∈ Fb, Own Fs1 b) (hc : ∀ b ∈ Fc, O b ∨ H b = none) (hd : ∀ b ∈ Fc, ¬ Own Fs1 b) (hG : ∀ b ∈ Fc, G1 b)
    (g2 : GOK H2 G2) (st : Stp (drop G1 Fb) H1 (· ∈ Fc) G2 H2) : Pen M σ G H O ρ1 (back G2 Fb) H2 Fs1 := by
  have kept : ∀ b o, H1 b = some o → b ∉ Fc → H2 b = some o := fun b o e n => st.keep b o e n
  have shr : ∀ b o, H1 b = some o → ¬ G1 b → ¬ back G2 Fb b := fun b o e n z => by
    rcases z with z | z
    · rcases st.gnew b z with q | q
      · exact n q.1
      · rw [e] at q; cases q
    · exact n (p.env.own (hb b z))
  have own : ∀ b, G1 b → b ∉ Fc → back G2 Fb b := fun b z n => by
    by_cases h : b ∈ Fb
    · exact .inr h
    · exact .inl (st.gkeep b ⟨z, h⟩ n)
  refine ⟨p.env.mono p.gok fun i => ⟨fun b o e h => kept b o e fun z => ?_, shr, fun b h => own b (p.env.own ⟨i, h⟩) fun z => hd b z ⟨i, h⟩⟩, fun b z => ?_, ?_, p.own⟩
  · rcases h with h | h
    · exact h (hG b z)
    · exact hd b z ⟨i, h⟩
  · rcases z with z | z
    · exact g2 b z
    · obtain ⟨xs, e⟩ := p.gok b (p.env.own (hb b z))
      exact ⟨xs, kept b _ e fun q => hd b q (hb b z)⟩
  · have st1 : Stp G1 H1 (fun b => Own Fs1 b ∨ b ∈ Fc) (back G2 Fb) H2 :=
      ⟨fun b o e n => kept b o e fun z => n (.inr z), st.there, fun b z n => own b z fun q => n (.inr q), fun b z => by
        rcases z with z | z
        · exact (st.gnew b z).imp_left (·.1)
        · exact .inl (p.env.own (hb b z))⟩
    exact p.stp.trans g st1 fun b z => z.elim (p.own b) (hc b)
theorem back_rep {Fb : List Addr} {G2 : Addr → Prop} {H2 : Hp} {v : V} {d : D} {F2 : List Addr} (r : Rep M G2 H2 v d F2) (h : Fb = [] ∨ d.nosh = true) : Rep M (back G2 Fb) H2 v d F2 := by
  rcases h with h | h
  · subst h
    have e : back G2 [] = G2 := by funext a; unfold back; simp
    rw [e]; exact r
  · exact r.nosh h fun b z => .inl (r.own b z)
/-- the lists lent -/
def lent (Fs : Nat → List Addr) (as : E) : List Addr := (borsOf as).flatMap Fs
theorem RepA.seen {as : E} {vs : List V} {ds : List D} {F : List Addr} (e : EnvOK M G H σ ρ Fs) (g : GOK H G) (h : RepA M G H σ ρ as vs ds F) (dj : ∀ b ∈ F, ¬ Own Fs b) {Fb : List Addr} (hs : ∀ i ∈ borsOf as, ∀ b ∈ Fs i, b ∈ Fb) (hb : ∀ b ∈ Fb, Own Fs b) :
    RepL M (drop G Fb) H vs (seens as ds) F := by
  induction h with
  | nil => exact .nil
  | bor e1 e2 _ ih =>
    obtain ⟨v', e3, rv⟩ := e.at_ _ _ (slot_some e2)
    rw [e1] at e3; cases e3
    exact .cons (F := []) (rv.frz g (hs _ (by simp [borsOf]))) (ih dj fun i hi => hs i (by simp [borsOf, hi]))
  | @val h r v vs d ds F0 F hn a t ih =>
    have e1 : VI.seen h d = d := by cases h <;> first | rfl | cases hn
    show RepL M _ H _ (VI.seen h d :: seens r ds) _
    rw [e1]
    refine .cons (a.mono g (drop_kp' (fun b z => a.own b z) fun b z q => dj b (List.mem_append_left _ z) (hb b q))) (ih (fun b z => dj b (List.mem_append_right _ z)) fun i hi => hs i ?_)
    cases h <;> first | (cases hn; done) | simpa [borsOf] using hi
theorem RepA.imp {as : E} {vs : List V} {ds : List D} {F : List Addr} (e : EnvOK M G H σ ρ Fs) (h : RepA M G H σ ρ as vs ds F) (hi : anyImp as ds = false) : lent Fs as = [] := by
  unfold lent
  induction h with
  | nil => rfl
  | @bor i r v vs d ds F e1 e2 _ ih =>
    have h' : (impure (.bor i) d || anyImp r ds) = false := hi
    have h2 := Bool.or_eq_false_iff.mp h'
    obtain ⟨v', e3, rv⟩ := e.at_ _ _ (slot_some e2)
    have h3 : d.pure = true := by simpa [impure] using h2.1
    simp only [borsOf, List.flatMap_cons]
    rw [rv.pure h3, ih h2.2]; rfl
  | @val h r v vs d ds F0 F hn a t ih =>
    have h' : (impure h d || anyImp r ds) = false := hi
    have h2 := Bool.or_eq_false_iff.mp h'
    have : borsOf (.cons h r) = borsOf r := by cases h <;> first | (cases hn; done) | rfl
    rw [this]
    exact ih h2.2
theorem lent_own {as : E} : ∀ b ∈ lent Fs as, Own Fs b := fun b z => by
  obtain ⟨i, _, h⟩ := List.mem_flatMap.mp z
  exact ⟨i, h⟩
theorem lent_of {as : E} : ∀ i ∈ borsOf as, ∀ b ∈ Fs i, b ∈ lent Fs as := fun i hi b h => List.mem_flatMap.mpr ⟨i, hi, h⟩
theorem afterCall_some {imp : Bool} {x : Option CR'} {k : D → D → Option R} {ρ2 : Env} (h : afterCall imp x k ρ2 = some r) :
    (∃ d io, x = some (.ok d io) ∧ k d io = some r ∧ (imp = false ∨ (d.nosh = true ∧ io.nosh = true))) ∨ ∃ c d, x = some (.ex c d) ∧ r = .ex c d ρ2 ∧ (imp = false ∨ d.nosh = true) := by
  unfold afterCall at h
  split at h
  · rename_i d io
    split at h
    · cases h
    · rename_i hc
      refine .inl ⟨d, io, rfl, h, ?_⟩
      cases imp
      · exact .inl rfl
      · refine .inr ?_
        simpa using hc
  · rename_i c d
    split at h
    · cases h
    · rename_i hc
      refine .inr ⟨c, d, rfl, (Option.some.inj h).symm, ?_⟩
      cases imp <;> simp at hc ⊢
      exact hc
  · cases h
/-- f(..) -/
theorem tCl_ok {f : String} {fn : Fn} {as : E} {Q : VK} (hio : fn.io = false) (hl : ∀ ds r, Γ f ds = some r → ds.length = fn.ps.length)
    (hf : ∀ ρ, fl ρ = bindR ((ev Γ as).as ρ) fun ds ρ => afterCall (anyImp as (tupOf ds)) (Γ f (seens as (tupOf ds))) (fun d _ => some (.ok d ρ)) ρ)
    (h : tD M W fl σ H Q) : tCl (spG M Γ f fn) W (tA M W Γ as) σ H Q := by
  obtain ⟨ρ, G, Fs, r, e, g, hr, fin⟩ := h
  rw [hf] at hr
  refine tA_use e g hr (fun {c d ρ'} e {C dd G' H' Fs'} p => fin.ex e p) (fun _ _ => as_tup as) fun ds ρ1 vs G1 H1 Fs1 F h2 p => ?_
  have hlen : vs.length = (seens as ds).length := (p.rep.seen p.pen.env p.pen.gok p.dj lent_of lent_own).length
  rcases afterCall_some h2 with ⟨d, io, h3, h4, h5⟩ | ⟨c, d, h3, h4, h5⟩
  · refine ⟨_, _, F, _, drop_gok p.pen.gok, p.rep.seen p.pen.env p.pen.gok p.dj lent_of lent_own, p.nd, hlen.trans (hl _ _ h3), h3, fun v G2 H2 F2 po _ => ?_⟩
    cases h4
    have pen := back_pen g p.pen (fun b => lent_own (as := as) b) p.own p.dj (fun b z => p.rep.own b z) po.gok po.stp
    have hb : lent Fs1 as = [] ∨ d.nosh = true := h5.imp (fun z => p.rep.imp p.pen.env z) (·.1)
    refine fin v _ H2 Fs1 F2 ⟨pen.env, pen.gok, pen.stp, back_rep po.rep hb, fun b z => ?_, po.nd, fun b z q => ?_⟩
    · rcases z with z | z
      · exact (po.own b z).elim (p.own b) (fun q => .inr (p.pen.stp.free q))
      · exact pen.own b z
    · rcases po.own b z with w | w
      · exact p.dj b w q
      · obtain ⟨xs, e⟩ := p.pen.gok b (p.pen.env.own q)
        rw [w] at e; cases e
  · refine ⟨_, _, F, _, drop_gok p.pen.gok, p.rep.seen p.pen.env p.pen.gok p.dj lent_of lent_own, p.nd, hlen.trans (hl _ _ h3), h3, fun C dd G2 H2 po => ?_⟩
    have pen := back_pen g p.pen (fun b => lent_own (as := as) b) p.own p.dj (fun b z => p.rep.own b z) po.gok po.stp
    have hb : lent Fs1 as = [] ∨ d.nosh = true := h5.imp_left fun z => p.rep.imp p.pen.env z
    obtain ⟨fs, u, e1, e2, e3⟩ := po.fld
    exact fin.ex h4 ⟨pen.env, pen.gok, pen.stp, po.cl, ⟨fs, u, e1, e2, back_rep e3 hb⟩, pen.own⟩
/-- f(x, ..), x changed in place -/
theorem tCl_io {f : String} {fn : Fn} {as : E} {i : Nat} {Q : VK} (hio : fn.io = true) (hn : i ∉ borsOf as) (hl : ∀ ds r, Γ f ds = some r → ds.length = fn.ps.length)
    (h : tD M W (ev Γ (.calli f i as)).v σ H Q) : tCl (spG M Γ f fn) W (tCons (tVar i) (tA M W Γ as)) σ H Q := by
  obtain ⟨ρ, G, Fs, r, e, g, hr, fin⟩ := h
  have hr' : ((slot ρ i).bind fun _ => bindR ((ev Γ as).as ρ) fun ds ρ => (slot ρ i).bind fun x =>
      afterCall (anyImp as (tupOf ds)) (Γ f (x :: seens as (tupOf ds))) (fun d io => some (.ok d (ρ.set i (some io)))) (ρ.set i none)) = some r := hr
  simp only [Option.bind_eq_some_iff] at hr'
  obtain ⟨x0, e0, hr2⟩ := hr'
  obtain ⟨v0, ev0, _⟩ := e.at_ i x0 (slot_some e0)
  refine ⟨v0, ev0, ?_⟩
  refine tA_use e g hr2 (fun {c d ρ'} e {C dd G' H' Fs'} p => fin.ex e p) (fun _ _ => as_tup as) fun ds ρ1 vs G1 H1 Fs1 F h2 p => ?_
  simp only [Option.bind_eq_some_iff] at h2
  obtain ⟨x, ex, h3⟩ := h2
  obtain ⟨v1, ev1, rx⟩ := p.pen.env.at_ i x (slot_some ex)
  rw [ev0] at ev1; cases ev1
  have il : i < ρ1.length := by
    have := slot_some ex
    exact (List.getElem?_eq_some_iff.mp this).1
  -- the frame without the slot
  have hne : ∀ j ∈ borsOf as, j ≠ i := fun j hj z => hn (z ▸ hj)
  have ownB : ∀ b ∈ lent Fs1 as, Own (upF Fs1 i []) b := fun b z => by
    obtain ⟨j, hj, hb⟩ := List.mem_flatMap.mp z
    exact ⟨j, by unfold upF; rw [if_neg (hne j hj)]; exact hb⟩
  have clr : Pen M σ G H (Own Fs) (ρ1.set i none) G1 H1 (upF Fs1 i []) := ⟨p.pen.env.clear i, p.pen.gok, p.pen.stp, fun b z => (own_up z).elim (fun q => nomatch q) fun ⟨j, _, q⟩ => p.pen.own b ⟨j, q⟩⟩
  have cOwn : ∀ b ∈ Fs1 i ++ F, Own Fs b ∨ H b = none := fun b z => (List.mem_append.mp z).elim (fun q => p.pen.own b ⟨i, q⟩) (p.own b)
  have cDj : ∀ b ∈ Fs1 i ++ F, ¬ Own (upF Fs1 i []) b := fun b z q => by
    rcases own_up q with q | ⟨j, hj, q⟩
    · cases q
    · rcases List.mem_append.mp z with z | z
      · exact p.pen.env.dj j i b hj q z
      · exact p.dj b z ⟨j, q⟩
  have cG : ∀ b ∈ Fs1 i ++ F, G1 b := fun b z => (List.mem_append.mp z).elim (fun q => p.pen.env.own ⟨i, q⟩) (p.rep.own b)
  have cN : (Fs1 i ++ F).Nodup := List.nodup_append.mpr ⟨p.pen.env.nd i, p.nd, fun b h1 c h2 e => p.dj c h2 (e ▸ ⟨i, h1⟩)⟩
  have rl : RepL M (drop G1 (lent Fs1 as)) H1 (v0 :: vs) (x :: seens as ds) (Fs1 i ++ F) := by
    refine .cons (rx.mono p.pen.gok (drop_kp' (fun b z => p.pen.env.own ⟨i, z⟩) fun b z q => ?_)) (p.rep.seen p.pen.env p.pen.gok p.dj lent_of lent_own)
    rcases own_up (ownB b q) with w | ⟨j, hj, w⟩
    · cases w
    · exact p.pen.env.dj j i b hj w z
  rcases afterCall_some h3 with ⟨d, io, h3, h4, h5⟩ | ⟨c, d, h3, h4, h5⟩
  · refine ⟨_, _, _, _, drop_gok p.pen.gok, rl, cN, rl.length.trans (hl _ _ h3), h3, fun v G2 H2 F2 po pio => ?_⟩
    cases h4
    obtain ⟨Fi, w0, ew0, ri, ndi, owi, dji⟩ := pio hio
    cases ew0
    have pen := back_pen g clr ownB cOwn cDj cG po.gok po.stp
    have hb : lent Fs1 as = [] ∨ d.nosh = true := h5.imp (fun z => p.rep.imp p.pen.env z) (·.1)
    have hb' : lent Fs1 as = [] ∨ io.nosh = true := h5.imp (fun z => p.rep.imp p.pen.env z) (·.2)
    have owF : ∀ b, (b ∈ Fs1 i ++ F ∨ H1 b = none) → Own Fs b ∨ H b = none := fun b z => z.elim (cOwn b) (fun q => .inr (p.pen.stp.free q))
    have djF : ∀ b, (b ∈ Fs1 i ++ F ∨ H1 b = none) → ¬ Own (upF Fs1 i []) b := fun b z q => by
      rcases z with z | z
      · exact cDj b z q
      · obtain ⟨xs, e⟩ := p.pen.gok b (clr.env.own q)
        rw [z] at e; cases e
    have hput := pen.env.put (v := v0) i (back_rep ri hb') ndi (fun b z j hj q => djF b (owi b z) ⟨j, q⟩)
    have e1 : σ.set i (some v0) = σ := List.set_getElem?_eq ev0
    have e2 : (ρ1.set i none).set i (some io) = ρ1.set i (some io) := by rw [List.set_set]
    have e3 : i < (ρ1.set i none).length := by rw [List.length_set]; exact il
    rw [e1, e2, if_pos e3] at hput
    refine fin v _ H2 _ F2 ⟨hput, pen.gok, pen.stp, back_rep po.rep hb, fun b z => ?_, po.nd, fun b z q => ?_⟩
    · rcases z with z | z
      · exact owF b (po.own b z)
      · rcases own_up z with z | ⟨j, hj, z⟩
        · exact owF b (owi b z)
        · exact pen.own b ⟨j, z⟩
    · rcases own_up q with q | ⟨j, hj, q⟩
      · exact dji b q z
      · exact djF b (po.own b z) ⟨j, q⟩
  · refine ⟨_, _, _, _, drop_gok p.pen.gok, rl, cN, rl.length.trans (hl _ _ h3), h3, fun C dd G2 H2 po => ?_⟩
    have pen := back_pen g clr ownB cOwn cDj cG po.gok po.stp
    have hb : lent Fs1 as = [] ∨ d.nosh = true := h5.imp_left fun z => p.rep.imp p.pen.env z
    obtain ⟨fs, u, e1, e2, e3⟩ := po.fld
    exact fin.ex h4 ⟨pen.env, pen.gok, pen.stp, po.cl, ⟨fs, u, e1, e2, back_rep e3 hb⟩, pen.own⟩
/-- f([x, e], ..), x as it stands, lent for the call -/
theorem tCl_b {f : String} {fn : Fn} {a as : E} {i : Nat} {Q : VK} (hio : fn.io = false) (he : isBor a = false) (hn : borsOf as = []) (hl : ∀ ds r, Γ f ds = some r → ds.length = fn.ps.length)
    (h : tD M W (ev Γ (.callb f i a as)).v σ H Q) : tCl (spG M Γ f fn) W (tCons (tLst (tCons (tVar i) (tCons (tO M W Γ a) tNil))) (tA M W Γ as)) σ H Q := by
  obtain ⟨ρ, G, Fs, r, e0, g, hr, fin⟩ := h
  have hr' : ((slot ρ i).bind fun _ => bindR ((ev Γ a).v ρ) fun d ρ1 => bindR ((ev Γ as).as ρ1) fun ds ρ2 => (slot ρ2 i).bind fun x =>
      if d.pure then afterCall (!x.pure) (Γ f (.lst false [x.frz, d] :: tupOf ds)) (fun d _ => some (.ok d ρ2)) ρ2 else none) = some r := hr
  simp only [Option.bind_eq_some_iff] at hr'
  obtain ⟨x0, ex0, hr2⟩ := hr'
  obtain ⟨v0, ev0, _⟩ := e0.at_ i x0 (slot_some ex0)
  refine ⟨v0, ev0, ?_⟩
  refine tO_use e0 g hr2 (fun {c d ρ'} e {C dd G' H' Fs'} p => fin.ex e p) fun d ρ1 ve G1 H1 Fs1 F1 _ h2 p => ?_
  refine ⟨by rw [sizeLine_eq]; show 2 ≤ 16777216; decide, fun q hq => ?_⟩
  have g1 : GOK (upd H1 q (.lst [v0, ve])) G1 := new_gok p.pen.gok hq
  have e1 : EnvOK M G1 (upd H1 q (.lst [v0, ve])) σ ρ1 Fs1 := new_env p.pen.gok p.pen.env hq
  have pen1 : Pen M σ G H (Own Fs) ρ1 G1 (upd H1 q (.lst [v0, ve])) Fs1 := p.pen.trans g ⟨e1, g1, new_stp hq, fun b h => .inl h⟩
  refine tA_use e1 g1 h2 (fun {c d ρ'} e {C dd G' H' Fs'} z => fin.ex e (pen1.pex g z)) (fun _ _ => as_tup as) fun ds ρ2 vs G2 H2 Fs2 F2 h3 p2 => ?_
  simp only [Option.bind_eq_some_iff] at h3
  obtain ⟨x, ex, h4⟩ := h3
  split at h4
  · rename_i hdp
    obtain ⟨v1, ev1, rx⟩ := p2.pen.env.at_ i x (slot_some ex)
    rw [ev0] at ev1; cases ev1
    have re := p.rep he
    have fe : F1 = [] := re.pure hdp
    subst fe
    have hq2 : H2 q = some (.lst [v0, ve]) := p2.pen.stp.keep q _ upd_same fun z => p.pen.gok.fresh hq (p.pen.env.own z)
    have nq : ¬ G2 q := fun z => by
      rcases p2.pen.stp.gnew q z with w | w
      · exact p.pen.gok.fresh hq w
      · rw [upd_same] at w; cases w
    have re1 : Rep M G1 (upd H1 q (.lst [v0, ve])) ve d [] := re.mono p.pen.gok (new_kp hq fun _ z => (nomatch z))
    have re2 : Rep M G2 H2 ve d [] := re1.mono g1 (p2.pen.stp.kp g1 (fun b o => e1.own o) fun _ z => (nomatch z))
    have rl : RepL M (drop G2 (Fs2 i)) H2 (.ref q :: vs) (.lst false [x.frz, d] :: ds) F2 := by
      refine .cons (F := []) (.lstS hq2 (fun z => nq z.1) (.cons (F := []) (Fs := []) (rx.frz p2.pen.gok fun _ z => z) (.cons (F := []) (Fs := []) (re2.mono p2.pen.gok (drop_kp' (fun _ z => (nomatch z)) fun _ z => (nomatch z))) .nil))) ?_
      exact (p2.rep.pure hn).mono p2.pen.gok (drop_kp' (fun b z => p2.rep.own b z) fun b z w => p2.dj b z ⟨i, w⟩)
    have penA : Pen M σ G H (Own Fs) ρ2 G2 H2 Fs2 := pen1.trans g p2.pen
    have ownA : ∀ b ∈ F2, Own Fs b ∨ H b = none := fun b z => (p2.own b z).elim (pen1.own b) fun w => .inr (pen1.stp.free w)
    have hob : ∀ b ∈ Fs2 i, Own Fs2 b := fun b z => ⟨i, z⟩
    have hpx : (!x.pure) = false → Fs2 i = [] := fun z => rx.pure (by simpa using z)
    rcases afterCall_some h4 with ⟨d2, io, h5, h6, h7⟩ | ⟨c, d2, h5, h6, h7⟩
    · refine ⟨_, _, F2, _, drop_gok p2.pen.gok, rl, p2.nd, rl.length.trans (hl _ _ h5), h5, fun v G3 H3 F3 po _ => ?_⟩
      cases h6
      have pen := back_pen g penA hob ownA p2.dj (fun b z => p2.rep.own b z) po.gok po.stp
      have hb : Fs2 i = [] ∨ d2.nosh = true := h7.imp hpx (·.1)
      refine fin v _ H3 Fs2 F3 ⟨pen.env, pen.gok, pen.stp, back_rep po.rep hb, fun b z => ?_, po.nd, fun b z w => ?_⟩
      · rcases z with z | z
        · exact (po.own b z).elim (ownA b) fun w => .inr (penA.stp.free w)
        · exact pen.own b z
      · rcases po.own b z with u | u
        · exact p2.dj b u w
        · obtain ⟨xs, e⟩ := p2.pen.gok b (p2.pen.env.own w)
          rw [u] at e; cases e
    · refine ⟨_, _, F2, _, drop_gok p2.pen.gok, rl, p2.nd, rl.length.trans (hl _ _ h5), h5, fun C dd G3 H3 po => ?_⟩
      have pen := back_pen g penA hob ownA p2.dj (fun b z => p2.rep.own b z) po.gok po.stp
      have hb : Fs2 i = [] ∨ d2.nosh = true := h7.imp_left hpx
      obtain ⟨fs, u, e1, e2, e3⟩ := po.fld
      exact fin.ex h6 ⟨pen.env, pen.gok, pen.stp, po.cl, ⟨fs, u, e1, e2, back_rep e3 hb⟩, pen.own⟩
  · cases h4
end
end VI

set_option maxHeartbeats 1000000
set_option synthInstance.maxSize 128
set_option synthInstance.maxHeartbeats 20000
namespace VI
open PySem L2

theorem PE.imp {X : Cx} {e : Expr} {t t' : TE} (h : PE X e t) (i : ∀ σ H Q, t' σ H Q → t σ H Q) : PE X e t' := ⟨fun pins s σ H Q I q => h.run pins s σ H Q I (i σ H Q q)⟩
theorem PT.imp {X : Cx} {e : Expr} {t t' : TT} (h : PT X e t) (i : ∀ σ H Q, t' σ H Q → t σ H Q) : PT X e t' := ⟨fun pins s σ H Q I q => h.run pins s σ H Q I (i σ H Q q)⟩
theorem PW.imp {X : Cx} {e : Expr} {t t' : TT} (h : PW X e t) (i : ∀ σ H Q, t' σ H Q → t σ H Q) : PW X e t' := ⟨fun wh pins s σ H Q I q => h.run wh pins s σ H Q I (i σ H Q q)⟩
theorem PA.imp {X : Cx} {e : List Expr} {t t' : TA} (h : PA X e t) (i : ∀ σ H Q, t' σ H Q → t σ H Q) : PA X e t' := ⟨fun p pins s σ H Q I q => h.run p pins s σ H Q I (i σ H Q q)⟩
theorem PK.imp {X : Cx} {e : List Keyword} {t t' : TA} (h : PK X e t) (i : ∀ σ H Q, t' σ H Q → t σ H Q) : PK X e t' := ⟨fun p pins s σ H Q I q => h.run p pins s σ H Q I (i σ H Q q)⟩
theorem PI.imp {X : Cx} {tg e : Expr} {t t' : TI} (h : PI X tg e t) (i : ∀ σ H Q, t' σ H Q → t σ H Q) : PI X tg e t' := ⟨fun pins s σ H Q I q => h.run pins s σ H Q I (i σ H Q q)⟩
theorem PI.or {X : Cx} {tg e : Expr} {t t' : TI} (h : PI X tg e t) (h' : PI X tg e t') : PI X tg e (fun σ H Q => t σ H Q ∨ t' σ H Q) := ⟨fun pins s σ H Q I q => q.elim (h.run pins s σ H Q I) (h'.run pins s σ H Q I)⟩
theorem PG.imp {X : Cx} {e : Expr} {t t' : TG} (h : PG X e t) (i : ∀ v σ H Q, t' v σ H Q → t v σ H Q) : PG X e t' := ⟨fun pins s σ H v u Q I r q => h.run pins s σ H v u Q I r (i v σ H Q q)⟩
theorem PGs.imp {X : Cx} {e : List Expr} {t t' : TGs} (h : PGs X e t) (i : ∀ v σ H Q, t' v σ H Q → t v σ H Q) : PGs X e t' := ⟨fun pins s σ H v u Q I r q => h.run pins s σ H v u Q I r (i v σ H Q q)⟩
theorem PS.imp {X : Cx} {e : Stmt} {t t' : TS} (h : PS X e t) (i : ∀ D σ H, t' D σ H → t D σ H) : PS X e t' := ⟨fun pins s σ H D I q => h.run pins s σ H D I (i D σ H q)⟩
theorem PSs.imp {X : Cx} {e : List Stmt} {t t' : TS} (h : PSs X e t) (i : ∀ D σ H, t' D σ H → t D σ H) : PSs X e t' := ⟨fun pins s σ H D I q => h.run pins s σ H D I (i D σ H q)⟩

/-! ### targets -/
def tgSlots : Tg → List Nat
  | .n i => [i]
  | .t ts => tgSlots ts
  | .nil => []
  | .cons h r => tgSlots h ++ tgSlots r
/-- the slots were stored -/
structure Stored (M : Nm) (G : Addr → Prop) (H : Hp) (σ : St) (Fs : Nat → List Addr) (F : List Addr) (sl : List Nat) (σ' : St) (ρ' : Env) (Fs' : Nat → List Addr) : Prop where
  env : EnvOK M G H σ' ρ' Fs'
  own : ∀ b, Own Fs' b → Own Fs b ∨ b ∈ F
  fix : ∀ j, j ∉ sl → σ'[j]? = σ[j]?
def gT (M : Nm) (tg : Tg) : TG := fun v σ H Q => ∃ G Fs ρ d F ρ', EnvOK M G H σ ρ Fs ∧ Rep M G H v d F ∧ F.Nodup ∧ (∀ b ∈ F, ¬ Own Fs b) ∧ assignT tg d ρ = some ρ' ∧
  ∀ σ' Fs', Stored M G H σ Fs F (tgSlots tg) σ' ρ' Fs' → Q σ' H
def gTs (M : Nm) (tg : Tg) : TGs := fun vs σ H Q => ∃ G Fs ρ ds F ρ', EnvOK M G H σ ρ Fs ∧ RepL M G H vs ds F ∧ F.Nodup ∧ (∀ b ∈ F, ¬ Own Fs b) ∧ assignTs tg ds ρ = some ρ' ∧
  ∀ σ' Fs', Stored M G H σ Fs F (tgSlots tg) σ' ρ' Fs' → Q σ' H
section
variable {M : Nm} {σ : St} {G : Addr → Prop} {H : Hp}
theorem gT_n {i : Nat} {v : V} {Q : St → Hp → Prop} (h : gT M (.n i) v σ H Q) : gName i v σ H Q := by
  obtain ⟨G, Fs, ρ, d, F, ρ', e, r, nd, dj, ha, q⟩ := h
  cases ha
  refine q _ _ ⟨e.put i r nd fun b hb j _ z => dj b hb ⟨j, z⟩, fun b z => (own_put z).symm, fun j hj => ?_⟩
  rw [List.getElem?_set_ne]
  intro z
  exact hj (by simp [tgSlots, z])
theorem gTs_nil {vs : List V} {Q : St → Hp → Prop} (h : gTs M .nil vs σ H Q) : gNil vs σ H Q := by
  obtain ⟨G, Fs, ρ, ds, F, ρ', e, r, nd, dj, ha, q⟩ := h
  cases ds with
  | nil =>
    cases ha
    cases r
    exact ⟨rfl, q _ _ ⟨e, fun b z => .inl z, fun j _ => rfl⟩⟩
  | cons d ds => cases ha
theorem gTs_cons {a b : Tg} {vs : List V} {Q : St → Hp → Prop} (h : gTs M (.cons a b) vs σ H Q) : gCons (gT M a) (gTs M b) vs σ H Q := by
  obtain ⟨G, Fs, ρ, ds, F, ρ', e, r, nd, dj, ha, q⟩ := h
  cases ds with
  | nil => cases ha
  | cons d ds =>
    have ha' : ((assignT a d ρ).bind fun ρ1 => assignTs b ds ρ1) = some ρ' := ha
    simp only [Option.bind_eq_some_iff] at ha'
    obtain ⟨ρ1, h1, h2⟩ := ha'
    cases r with
    | @cons v vs _ _ F1 F2 r1 r2 =>
      have nd' := List.nodup_append.mp nd
      refine ⟨v, vs, rfl, G, Fs, ρ, d, F1, ρ1, e, r1, nd'.1, fun b z => dj b (List.mem_append_left _ z), h1, fun σ1 Fs1 st => ?_⟩
      refine ⟨G, Fs1, ρ1, ds, F2, ρ', st.env, r2, nd'.2.1, fun b z q => ?_, h2, fun σ2 Fs2 st2 => q _ _ ⟨st2.env, fun b z => ?_, fun j hj => ?_⟩⟩
      · rcases st.own b q with w | w
        · exact dj b (List.mem_append_right _ z) w
        · exact nd'.2.2 b w b z rfl
      · rcases st2.own b z with w | w
        · exact (st.own b w).imp_right fun w => List.mem_append_left _ w
        · exact .inr (List.mem_append_right _ w)
      · rw [st2.fix j fun z => hj (by simp [tgSlots, z]), st.fix j fun z => hj (by simp [tgSlots, z])]
theorem gT_t {a : Tg} {n : Nat} {v : V} {Q : St → Hp → Prop} (hn : ∀ ds ρ ρ', assignTs a ds ρ = some ρ' → ds.length = n) (h : gT M (.t a) v σ H Q) : gTup M.K n (gTs M a) v σ H Q := by
  obtain ⟨G, Fs, ρ, d, F, ρ', e, r, nd, dj, ha, q⟩ := h
  cases r with
  | tup s r =>
    have ha' : assignTs a _ ρ = some ρ' := ha
    exact ⟨_, _, rfl, s, r.length.trans (hn _ _ _ ha'), G, Fs, ρ, _, F, ρ', e, r, nd, dj, ha', q⟩
  | _ => cases ha
def tgLen : Tg → Nat
  | .cons _ r => tgLen r + 1
  | _ => 0
theorem tgLen_eq : ∀ (a : Tg) (ds : List D) (ρ ρ' : Env), assignTs a ds ρ = some ρ' → ds.length = tgLen a
  | .nil, ds, ρ, ρ', h => by cases ds <;> first | rfl | cases h
  | .cons a b, [], ρ, ρ', h => by cases h
  | .cons a b, d :: ds, ρ, ρ', h => by
    have h' : ((assignT a d ρ).bind fun ρ1 => assignTs b ds ρ1) = some ρ' := h
    simp only [Option.bind_eq_some_iff] at h'
    obtain ⟨ρ1, _, h2⟩ := h'
    rw [List.length_cons, tgLen_eq b ds ρ1 ρ' h2]; rfl
  | .n _, ds, ρ, ρ', h => by cases ds <;> cases h
  | .t _, ds, ρ, ρ', h => by cases ds <;> cases h
end

/-! ### what is walked -/
/-- J walks the contents ds as long as the lists at F (ours) and all shared ones stay -/
structure Wk (M : Nm) (G : Addr → Prop) (H : Hp) (J : It) (ds : List D) (F : List Addr) : Prop where
  go : ∀ G' H', GOK H' G' → Kp G H G' H' F → ∀ i, i < ds.length → J.go i H'
  stop : ∀ G' H', GOK H' G' → Kp G H G' H' F → J.stop ds.length H'
  yld : ∀ G' H', GOK H' G' → Kp G H G' H' F → ∀ i x H'', i < ds.length → J.yld i H' x H'' → ∃ d, ds[i]? = some d ∧ (H'' = H' ∨ ∃ T ys, H' T = none ∧ H'' = upd H' T (.tup ys)) ∧ Rep M G' H'' x d []
def wipeF (Fs : Nat → List Addr) (ls : List Nat) : Nat → List Addr := fun i => if i ∈ ls then [] else Fs i
structure PstI (M : Nm) (σ : St) (G : Addr → Prop) (H : Hp) (O : Addr → Prop) (it : E) (ρ' : Env) (ds : List D) (J : It) (G' : Addr → Prop) (H' : Hp) (Fs' : Nat → List Addr) (F : List Addr) : Prop where
  pen : Pen M σ G H O ρ' G' H' Fs'
  wk : Wk M G' H' J ds F
  fG : ∀ b ∈ F, G' b
  dj : ∀ b ∈ F, ¬ Own (wipeF Fs' (locks it)) b
def FinI (M : Nm) (W : WX) (σ : St) (Q : It → Hp → Prop) (G : Addr → Prop) (H : Hp) (O : Addr → Prop) (it : E) (r : R) : Prop := match r with
  | .ok (.tup ds) ρ' => D.pures ds = true → ∀ J G' H' Fs' F, PstI M σ G H O it ρ' ds J G' H' Fs' F → Q J H'
  | .ok _ _ => False
  | .ex c d ρ' => ∀ C dd G' H' Fs', Pex M σ G H O ρ' c d C dd G' H' Fs' → W (.ref C) (some dd) σ H'
/-- walked: the items are known to be free of owned lists -/
def tI (M : Nm) (W : WX) (Γ : Gam) (it : E) : TI := fun σ H Q => ∃ ρ G Fs r, EnvOK M G H σ ρ Fs ∧ GOK H G ∧ (ev Γ it).it ρ = some r ∧ (∀ ds ρ', r = .ok (.tup ds) ρ' → D.pures ds = true) ∧ FinI M W σ Q G H (Own Fs) it r
section
variable {M : Nm} {W : WX} {Γ : Gam} {σ : St} {ρ ρ' ρ1 : Env} {G G' G1 : Addr → Prop} {H H' H1 : Hp} {Fs Fs' Fs1 : Nat → List Addr} {O : Addr → Prop} {r : R}
/-- an operand that is walked: its list is shared, or a temporary one of ours, or lent and locked -/
theorem PstO.src {a : E} {d : D} {v : V} {F : List Addr} {G2 : Addr → Prop} {H2 : Hp} {Fs2 : Nat → List Addr} {ρ2 : Env} (p : PstO M σ G H O a ρ1 d v G1 H1 Fs1 F) (q : Pen M σ G1 H1 (Own Fs1) ρ2 G2 H2 Fs2) {d' : D}
    (h : VI.late a d ρ2 = some d') : ∃ F', Rep M G2 H2 v d' F' ∧ (∀ b ∈ F', ¬ Own (wipeF Fs2 (locks a)) b) := by
  have val : isBor a = false → d' = d → ∃ F', Rep M G2 H2 v d' F' ∧ (∀ b ∈ F', ¬ Own Fs2 b) := fun hb e => by
    rw [e]
    refine ⟨F, (p.rep hb).mono p.pen.gok (q.stp.kp p.pen.gok (fun b o => p.pen.env.own o) fun b hb' => ⟨(p.rep hb).own b hb', p.dj b hb'⟩), fun b hb' z => ?_⟩
    rcases q.own b z with w | w
    · exact p.dj b hb' w
    · obtain ⟨xs, e⟩ := p.pen.gok b ((p.rep hb).own b hb')
      rw [w] at e; cases e
  have sub : ∀ ls b, Own (wipeF Fs2 ls) b → Own Fs2 b := fun ls b ⟨i, z⟩ => by
    unfold wipeF at z
    split at z
    · cases z
    · exact ⟨i, z⟩
  cases a with
  | bor i =>
    obtain ⟨e1, e2, _⟩ := p.bor i rfl
    have h' : slot ρ2 i = some d' := h
    obtain ⟨v', e3, r⟩ := q.env.at_ i d' (slot_some h')
    rw [e1] at e3; cases e3
    refine ⟨_, r, fun b hb ⟨j, z⟩ => ?_⟩
    unfold wipeF at z
    split at z
    · cases z
    · rename_i hj
      exact q.env.dj i j b (fun e => hj (by simp [locks, e])) hb z
  | _ => exact let ⟨F', h1, h2⟩ := val rfl (Option.some.inj h).symm; ⟨F', h1, fun b z w => h2 b z (sub _ b w)⟩
theorem pures_get {ds : List D} {i : Nat} {d : D} (h : D.pures ds = true) (e : ds[i]? = some d) : d.pure = true := by
  induction ds generalizing i with
  | nil => simp at e
  | cons a ds ih =>
    have h' := Bool.and_eq_true_iff.mp (by simpa [D.pures] using h)
    cases i with
    | zero => simp at e; subst e; exact h'.1
    | succ i => exact ih h'.2 (by simpa using e)
/-- a list of pure items, walked -/
theorem wk_list {a : Addr} {vs : List V} {ds : List D} {F : List Addr} (gok : GOK H G) (s : ∀ G' H', GOK H' G' → Kp G H G' H' F → SqL M.K H' a vs) (r : RepL M G H vs ds []) : Wk M G H (Itl M.K a) ds F where
  go := fun G' H' g k i hi => by
    obtain ⟨v, e⟩ : ∃ v, vs[i]? = some v := ⟨_, List.getElem?_eq_getElem (by rw [r.length]; exact hi)⟩
    exact ⟨vs, v, s G' H' g k, e⟩
  stop := fun G' H' g k => ⟨vs, s G' H' g k, by rw [r.length]; exact Nat.le_refl _⟩
  yld := fun G' H' g k i x H'' hi h => by
    obtain ⟨e, y⟩ := h
    subst e
    obtain ⟨d, e⟩ : ∃ d, ds[i]? = some d := ⟨_, List.getElem?_eq_getElem hi⟩
    obtain ⟨v, e1, r1⟩ := RepL.get ds vs i d r e
    rw [y vs (s G' _ g k)] at e1; cases e1
    exact ⟨d, e, .inl rfl, r1.mono gok k.nil⟩
theorem wk_tup {a : Addr} {vs : List V} {ds : List D} {F : List Addr} (gok : GOK H G) (s : SqT M.K H a vs) (r : RepL M G H vs ds []) : Wk M G H (Itt M.K a) ds F where
  go := fun G' H' g k i hi => by
    obtain ⟨v, e⟩ : ∃ v, vs[i]? = some v := ⟨_, List.getElem?_eq_getElem (by rw [r.length]; exact hi)⟩
    exact ⟨vs, v, SqT.mono gok k s, e⟩
  stop := fun G' H' g k => ⟨vs, SqT.mono gok k s, by rw [r.length]; exact Nat.le_refl _⟩
  yld := fun G' H' g k i x H'' hi h => by
    obtain ⟨e, y⟩ := h
    subst e
    obtain ⟨d, e⟩ : ∃ d, ds[i]? = some d := ⟨_, List.getElem?_eq_getElem hi⟩
    obtain ⟨v, e1, r1⟩ := RepL.get ds vs i d r e
    rw [y vs (SqT.mono gok k s)] at e1; cases e1
    exact ⟨d, e, .inl rfl, r1.mono gok k.nil⟩
theorem rangeD_len (i j : Int) : (rangeD i j).length = (j - i).toNat := by unfold rangeD; rw [List.length_map, List.length_range]
theorem rangeD_get {i j : Int} {k : Nat} (h : k < (j - i).toNat) : (rangeD i j)[k]? = some (.int (i + (k : Nat))) := by
  unfold rangeD
  rw [List.getElem?_map, List.getElem?_range h]; rfl
theorem wk_rng (lo hi : Int) {F : List Addr} : Wk M G H (Itr lo (hi - lo).toNat) (rangeD lo hi) F where
  go := fun G' H' g k i h => by rw [rangeD_len] at h; exact h
  stop := fun G' H' g k => by rw [rangeD_len]; exact Nat.le_refl _
  yld := fun G' H' g k i x H'' h y => by
    rw [rangeD_len] at h
    obtain ⟨e, y⟩ := y
    subst e; subst y
    exact ⟨_, rangeD_get h, .inl rfl, .int _⟩
theorem enumD_len : ∀ (k : Nat) (ds : List D), (enumD k ds).length = ds.length
  | _, [] => rfl
  | k, d :: ds => by unfold enumD; rw [List.length_cons, enumD_len (k + 1) ds]; rfl
theorem enumD_get : ∀ (k : Nat) (ds : List D) (i : Nat) (d : D), ds[i]? = some d → (enumD k ds)[i]? = some (.tup [.int ((k + i : Nat)), d])
  | _, [], _, _, h => by simp at h
  | k, d0 :: ds, 0, d, h => by simp at h; subst h; simp [enumD]
  | k, d0 :: ds, i + 1, d, h => by
    have e : k + 1 + i = k + (i + 1) := by omega
    unfold enumD
    rw [List.getElem?_cons_succ, enumD_get (k + 1) ds i d (by simpa using h), e]
theorem wk_enum {a : Addr} {vs : List V} {ds : List D} {F : List Addr} (gok : GOK H G) (s : ∀ G' H', GOK H' G' → Kp G H G' H' F → SqL M.K H' a vs) (r : RepL M G H vs ds []) : Wk M G H (Ite M.K a) (enumD 0 ds) F where
  go := fun G' H' g k i hi => by
    rw [enumD_len] at hi
    obtain ⟨v, e⟩ : ∃ v, vs[i]? = some v := ⟨_, List.getElem?_eq_getElem (by rw [r.length]; exact hi)⟩
    exact ⟨vs, v, s G' H' g k, e⟩
  stop := fun G' H' g k => ⟨vs, s G' H' g k, by rw [enumD_len, r.length]; exact Nat.le_refl _⟩
  yld := fun G' H' g k i x H'' hi h => by
    rw [enumD_len] at hi
    obtain ⟨T, x, rfl, hT, rfl, y⟩ := h
    obtain ⟨d, e⟩ : ∃ d, ds[i]? = some d := ⟨_, List.getElem?_eq_getElem hi⟩
    obtain ⟨v, e1, r1⟩ := RepL.get ds vs i d r e
    rw [y vs (s G' _ g k)] at e1; cases e1
    refine ⟨_, enumD_get 0 ds i d e, .inr ⟨T, _, hT, rfl⟩, .tup (.inl (.inl upd_same)) (.cons (F := []) (Fs := []) ?_ (.cons (F := []) (Fs := []) ?_ .nil))⟩
    · simp only [Nat.zero_add]; exact .int _
    · exact (r1.mono gok k.nil).mono g (new_kp hT fun _ z => (nomatch z))
theorem zipD_len : ∀ (xs ys : List D), (zipD xs ys).length = min xs.length ys.length
  | [], ys => by simp [zipD]
  | x :: xs, [] => by simp [zipD]
  | x :: xs, y :: ys => by simp [zipD, zipD_len xs ys]
theorem zipD_get : ∀ (xs ys : List D) (i : Nat) (x y : D), xs[i]? = some x → ys[i]? = some y → (zipD xs ys)[i]? = some (.tup [x, y])
  | [], _, _, _, _, h, _ => by simp at h
  | _ :: _, [], _, _, _, _, h => by simp at h
  | a :: xs, b :: ys, 0, x, y, h, h' => by simp at h h'; subst h; subst h'; simp [zipD]
  | a :: xs, b :: ys, i + 1, x, y, h, h' => by
    unfold zipD
    rw [List.getElem?_cons_succ]
    exact zipD_get xs ys i x y (by simpa using h) (by simpa using h')
theorem wk_zip {a b : Addr} {vs ws : List V} {ds es : List D} {F : List Addr} (gok : GOK H G) (s : ∀ G' H', GOK H' G' → Kp G H G' H' F → SqL M.K H' a vs) (s' : ∀ G' H', GOK H' G' → Kp G H G' H' F → SqL M.K H' b ws)
    (r : RepL M G H vs ds []) (r' : RepL M G H ws es []) : Wk M G H (Itz M.K a b) (zipD ds es) F where
  go := fun G' H' g k i hi => by
    rw [zipD_len] at hi
    obtain ⟨v, e⟩ : ∃ v, vs[i]? = some v := ⟨_, List.getElem?_eq_getElem (by rw [r.length]; omega)⟩
    obtain ⟨w, e'⟩ : ∃ w, ws[i]? = some w := ⟨_, List.getElem?_eq_getElem (by rw [r'.length]; omega)⟩
    exact ⟨vs, ws, v, w, s G' H' g k, s' G' H' g k, e, e'⟩
  stop := fun G' H' g k => ⟨vs, ws, s G' H' g k, s' G' H' g k, by rw [zipD_len, r.length, r'.length]; omega⟩
  yld := fun G' H' g k i x H'' hi h => by
    rw [zipD_len] at hi
    obtain ⟨T, x, y, rfl, hT, rfl, y1, y2⟩ := h
    obtain ⟨d, e⟩ : ∃ d, ds[i]? = some d := ⟨_, List.getElem?_eq_getElem (by omega)⟩
    obtain ⟨d', e'⟩ : ∃ d, es[i]? = some d := ⟨_, List.getElem?_eq_getElem (by omega)⟩
    obtain ⟨v, e1, r1⟩ := RepL.get ds vs i d r e
    obtain ⟨w, e2, r2⟩ := RepL.get es ws i d' r' e'
    rw [y1 vs (s G' _ g k)] at e1; cases e1
    rw [y2 ws (s' G' _ g k)] at e2; cases e2
    exact ⟨_, zipD_get ds es i d d' e e', .inr ⟨T, _, hT, rfl⟩, .tup (.inl (.inl upd_same)) (.cons (F := []) (Fs := []) ((r1.mono gok k.nil).mono g (new_kp hT fun _ z => (nomatch z))) (.cons (F := []) (Fs := []) ((r2.mono gok k.nil).mono g (new_kp hT fun _ z => (nomatch z))) .nil))⟩
/-- where a list of pure items stands, for as long as it is kept -/
theorem Rep.stays {v : V} {o : Bool} {xs : List D} {F : List Addr} (r : Rep M G H v (.lst o xs) F) (hp : D.pures xs = true) : ∃ a vs, v = .ref a ∧ RepL M G H vs xs [] ∧ SqL M.K H a vs ∧ ∀ G' H' F', (∀ b ∈ F, b ∈ F') → Kp G H G' H' F' → SqL M.K H' a vs := by
  cases r with
  | lstS e n r => exact ⟨_, _, rfl, r, .of e, fun G' H' F' _ k => .of (k.keep _ _ e (.inl n))⟩
  | lstO e g r =>
    have := r.pure hp
    subst this
    exact ⟨_, _, rfl, r, .of e, fun G' H' F' h k => .of (k.keep _ _ e (.inr (h _ List.mem_cons_self)))⟩
theorem lstOf_some {d : D} {xs : List D} (h : lstOf d = some xs) : ∃ o, d = .lst o xs ∧ D.pures xs = true := by
  unfold lstOf at h
  split at h
  · split at h
    · cases h; exact ⟨_, rfl, by assumption⟩
    · cases h
  · cases h
/-- a list, a tuple, the script -/
theorem tI_any {a : E} {Z : It → Hp → Prop} (hit : ∀ ρ, (ev Γ a).it ρ = bindR ((ev Γ a).v ρ) fun d ρ => (itemsOf d).map fun ds => .ok (.tup ds) ρ) (hlk : locks a = match (generalizing := false) a with | .bor i => [i] | _ => [])
    (h : tI M W Γ a σ H Z) : iList M.K (tO M W Γ a) σ H Z ∨ iTup M.K (tO M W Γ a) σ H Z := by
  obtain ⟨ρ, G, Fs, r, e, g, hr, hp, fin⟩ := h
  rw [hit] at hr
  have hx : ∀ {c : String} {d : D} {ρ' : Env}, r = .ex c d ρ' → ∀ {C dd : Addr} {G' : Addr → Prop} {H' : Hp} {Fs' : Nat → List Addr}, Pex M σ G H (Own Fs) ρ' c d C dd G' H' Fs' → W (.ref C) (some dd) σ H' := fun {c d ρ'} e => by subst e; exact fun {_ _ _ _ _} p => fin _ _ _ _ _ p
  have use : ∀ d ρ1 v G1 H1 Fs1 F, (itemsOf d).map (fun ds => R.ok (.tup ds) ρ1) = some r → PstO M σ G H (Own Fs) a ρ1 d v G1 H1 Fs1 F →
      ∃ p vs ds F', v = .ref p ∧ itemsOf d = some ds ∧ RepL M G1 H1 vs ds [] ∧ (((SqL M.K H1 p vs ∧ Z (Itl M.K p) H1) ∧ ∀ xs, d ≠ .tup xs) ∨ ((SqT M.K H1 p vs ∧ Z (Itt M.K p) H1) ∧ ∃ xs, d = .tup xs)) := fun d ρ1 v G1 H1 Fs1 F h2 p => by
    simp only [Option.map_eq_some_iff] at h2
    obtain ⟨ds, h3, h4⟩ := h2
    subst h4
    have hpu := hp ds ρ1 rfl
    obtain ⟨F', rp, dj⟩ := p.src (.refl p.pen.env p.pen.gok) (d' := d) (by
      cases a with
      | bor i => exact (p.bor i rfl).2.1
      | _ => rfl)
    have dj' : ∀ b ∈ F', ¬ Own (wipeF Fs1 (locks a)) b := dj
    unfold itemsOf at h3
    split at h3
    · cases h3
      obtain ⟨q, vs, rfl, s, rl⟩ := rp.tupInv hpu
      exact ⟨q, vs, _, F', rfl, rfl, rl, .inr ⟨⟨s, fin hpu _ _ _ _ F' ⟨p.pen, wk_tup p.pen.gok s rl, rp.own, dj'⟩⟩, _, rfl⟩⟩
    · cases h3
      obtain ⟨q, vs, rfl, rl, s, st⟩ := rp.stays hpu
      exact ⟨q, vs, _, F', rfl, rfl, rl, .inl ⟨⟨s, fin hpu _ _ _ _ F' ⟨p.pen, wk_list p.pen.gok (fun G' H' _ k => st G' H' F' (fun _ z => z) k) rl, rp.own, dj'⟩⟩, fun _ z => (nomatch z)⟩⟩
    · cases h3
      cases rp with
      | scr s l =>
        exact ⟨_, _, _, [], rfl, rfl, RepL.ofInts _, .inl ⟨⟨s.seq, fin hpu _ _ _ _ [] ⟨p.pen, wk_list p.pen.gok (fun G' H' _ k => (ScrAt.mono p.pen.gok k s).seq) (RepL.ofInts _), fun _ z => (nomatch z), fun _ z => (nomatch z)⟩⟩, fun _ z => (nomatch z)⟩⟩
    · cases h3
  by_cases ht : ∃ xs ρ1, (ev Γ a).v ρ = some (.ok (.tup xs) ρ1)
  · refine .inr (tO_use e g hr hx fun d ρ1 v G1 H1 Fs1 F h1 h2 p => ?_)
    obtain ⟨xs, ρ2, h3⟩ := ht
    rw [h1] at h3; cases h3
    obtain ⟨q, vs, ds, F', rfl, _, rl, h | h⟩ := use _ _ _ _ _ _ _ h2 p
    · exact absurd rfl (h.2 _)
    · exact ⟨q, rfl, ⟨vs, h.1.1⟩, h.1.2⟩
  · refine .inl (tO_use e g hr hx fun d ρ1 v G1 H1 Fs1 F h1 h2 p => ?_)
    obtain ⟨q, vs, ds, F', rfl, _, rl, h | h⟩ := use _ _ _ _ _ _ _ h2 p
    · exact ⟨q, rfl, ⟨vs, h.1.1⟩, h.1.2⟩
    · obtain ⟨xs, hx⟩ := h.2
      subst hx
      exact absurd ⟨xs, ρ1, h1⟩ ht
theorem Pen.none {ls : List Nat} {b : Addr} : b ∈ ([] : List Addr) → ¬ Own (wipeF Fs' ls) b := fun z => (nomatch z)
/-- range(n) -/
theorem tI_rng {a : E} {Z : It → Hp → Prop} (h : tI M W Γ (.rng a) σ H Z) : iRng1 (tCons (tO M W Γ a) tNil) σ H Z := by
  obtain ⟨ρ, G, Fs, r, e, g, hr, hp, fin⟩ := h
  have hx : ∀ {c : String} {d : D} {ρ' : Env}, r = .ex c d ρ' → ∀ {C dd : Addr} {G' : Addr → Prop} {H' : Hp} {Fs' : Nat → List Addr}, Pex M σ G H (Own Fs) ρ' c d C dd G' H' Fs' → W (.ref C) (some dd) σ H' := fun {c d ρ'} e => by subst e; exact fun {_ _ _ _ _} p => fin _ _ _ _ _ p
  refine tO_use e g hr hx fun d ρ1 v G1 H1 Fs1 F h1 h2 p => ?_
  split at h2
  · split at h2
    · rename_i hc
      simp only [small, Bool.and_eq_true, decide_eq_true_eq] at hc
      cases h2
      obtain ⟨F', rp⟩ := p.rep'
      cases rp
      refine ⟨_, rfl, hc.1, hc.2, ?_⟩
      have := fin (hp _ _ rfl) (Itr 0 ((_ : Int) - 0).toNat) _ _ _ [] ⟨p.pen, wk_rng 0 _, fun _ z => (nomatch z), fun _ => Pen.none⟩
      rw [Int.sub_zero] at this
      exact this
    · cases h2
  · cases h2
theorem tI_rng2 {a b : E} {Z : It → Hp → Prop} (h : tI M W Γ (.rng2 a b) σ H Z) : iRng2 (tCons (tO M W Γ a) (tCons (tO M W Γ b) tNil)) σ H Z := by
  obtain ⟨ρ, G, Fs, r, e, g, hr, hp, fin⟩ := h
  have hx : ∀ {c : String} {d : D} {ρ' : Env}, r = .ex c d ρ' → ∀ {C dd : Addr} {G' : Addr → Prop} {H' : Hp} {Fs' : Nat → List Addr}, Pex M σ G H (Own Fs) ρ' c d C dd G' H' Fs' → W (.ref C) (some dd) σ H' := fun {c d ρ'} e => by subst e; exact fun {_ _ _ _ _} p => fin _ _ _ _ _ p
  refine tO_use e g hr hx fun x ρ1 v G1 H1 Fs1 F h1 h2 p => ?_
  refine tO_use p.pen.env p.pen.gok h2 (fun {c d ρ'} e {C dd G' H' Fs'} q => hx e (p.pen.pex g q)) fun y ρ2 w G2 H2 Fs2 F2 h3 h4 q => ?_
  split at h4
  · split at h4
    · rename_i hc
      simp only [small, Bool.and_eq_true, decide_eq_true_eq] at hc
      cases h4
      obtain ⟨F', rp⟩ := p.rep'
      obtain ⟨F'', rq⟩ := q.rep'
      cases rp; cases rq
      exact ⟨_, _, rfl, ⟨hc.1.1, hc.1.2, hc.2.1, hc.2.2⟩, fin (hp _ _ rfl) _ _ _ _ [] ⟨p.pen.trans g q.pen, wk_rng _ _, fun _ z => (nomatch z), fun _ => Pen.none⟩⟩
    · cases h4
  · cases h4
theorem tI_enum {a : E} {Z : It → Hp → Prop} (hlk : locks a = match (generalizing := false) a with | .bor i => [i] | _ => []) (h : tI M W Γ (.enum a) σ H Z) : iEnum M.K (tCons (tO M W Γ a) tNil) σ H Z := by
  obtain ⟨ρ, G, Fs, r, e, g, hr, hp, fin⟩ := h
  have hx : ∀ {c : String} {d : D} {ρ' : Env}, r = .ex c d ρ' → ∀ {C dd : Addr} {G' : Addr → Prop} {H' : Hp} {Fs' : Nat → List Addr}, Pex M σ G H (Own Fs) ρ' c d C dd G' H' Fs' → W (.ref C) (some dd) σ H' := fun {c d ρ'} e => by subst e; exact fun {_ _ _ _ _} p => fin _ _ _ _ _ p
  refine tO_use e g hr hx fun d ρ1 v G1 H1 Fs1 F h1 h2 p => ?_
  simp only [Option.map_eq_some_iff] at h2
  obtain ⟨xs, h3, h4⟩ := h2
  subst h4
  obtain ⟨o, rfl, hpu⟩ := lstOf_some h3
  obtain ⟨F', rp, dj⟩ := p.src (.refl p.pen.env p.pen.gok) (d' := .lst o xs) (by
      cases a with
      | bor i => exact (p.bor i rfl).2.1
      | _ => rfl)
  obtain ⟨q, vs, rfl, rl, s, st⟩ := rp.stays hpu
  exact ⟨q, vs, rfl, s, fin (hp _ _ rfl) _ _ _ _ F' ⟨p.pen, wk_enum p.pen.gok (fun G' H' _ k => st G' H' F' (fun _ z => z) k) rl, rp.own, dj⟩⟩
theorem tI_zip {a b : E} {Z : It → Hp → Prop} (h : tI M W Γ (.zip a b false) σ H Z) : iZip M.K (tCons (tO M W Γ a) (tCons (tO M W Γ b) tNil)) σ H Z := by
  obtain ⟨ρ, G, Fs, r, e, g, hr, hp, fin⟩ := h
  have hx : ∀ {c : String} {d : D} {ρ' : Env}, r = .ex c d ρ' → ∀ {C dd : Addr} {G' : Addr → Prop} {H' : Hp} {Fs' : Nat → List Addr}, Pex M σ G H (Own Fs) ρ' c d C dd G' H' Fs' → W (.ref C) (some dd) σ H' := fun {c d ρ'} e => by subst e; exact fun {_ _ _ _ _} p => fin _ _ _ _ _ p
  refine tO_use e g hr hx fun x ρ1 v G1 H1 Fs1 F h1 h2 p => ?_
  refine tO_use p.pen.env p.pen.gok h2 (fun {c d ρ'} e {C dd G' H' Fs'} q => hx e (p.pen.pex g q)) fun y ρ2 w G2 H2 Fs2 F2 h3 h4 q => ?_
  simp only [Option.bind_eq_some_iff] at h4
  obtain ⟨x', h5, xs, h6, ys, h7, h8⟩ := h4
  split at h8
  · cases h8
  · cases h8
    obtain ⟨o, rfl, hpx⟩ := lstOf_some h6
    obtain ⟨o', rfl, hpy⟩ := lstOf_some h7
    obtain ⟨Fa, ra, dja⟩ := p.src q.pen h5
    obtain ⟨Fb, rb, djb⟩ := q.src (.refl q.pen.env q.pen.gok) (d' := .lst o' ys) (by
      cases b with
      | bor i => exact (q.bor i rfl).2.1
      | _ => rfl)
    obtain ⟨pa, vs, rfl, rla, sa, sta⟩ := ra.stays hpx
    obtain ⟨pb, ws, rfl, rlb, sb, stb⟩ := rb.stays hpy
    have sub : ∀ ls ls' b, Own (wipeF Fs2 (ls ++ ls')) b → Own (wipeF Fs2 ls) b ∧ Own (wipeF Fs2 ls') b := fun ls ls' b ⟨i, z⟩ => by
      unfold wipeF at z
      split at z
      · cases z
      · rename_i hi
        have hi' := fun z => hi (List.mem_append_left ls' z)
        have hi'' := fun z => hi (List.mem_append_right ls z)
        exact ⟨⟨i, by unfold wipeF; rw [if_neg hi']; exact z⟩, ⟨i, by unfold wipeF; rw [if_neg hi'']; exact z⟩⟩
    refine ⟨pa, pb, vs, ws, rfl, sa, sb, fin (hp _ _ rfl) _ _ _ _ (Fa ++ Fb) ⟨p.pen.trans g q.pen, wk_zip q.pen.gok (fun G' H' _ k => sta G' H' _ (fun _ z => List.mem_append_left _ z) k) (fun G' H' _ k => stb G' H' _ (fun _ z => List.mem_append_right _ z) k) rla rlb, fun c z => (List.mem_append.mp z).elim (ra.own c) (rb.own c), fun c z w => ?_⟩⟩
    have w' := sub _ _ c w
    rcases List.mem_append.mp z with z | z
    · exact dja c z w'.1
    · exact djb c z w'.2
end
end VI

set_option maxHeartbeats 1000000
set_option synthInstance.maxSize 128
set_option synthInstance.maxHeartbeats 20000
namespace VI
open PySem L2

def W0 : WX := fun _ _ _ _ => False
theorem wipe_get {σ : St} (ls : List Nat) (j : Nat) : (wipe σ ls)[j]? = if j ∈ ls then (if j < σ.length then some none else none) else σ[j]? := by
  induction ls with
  | nil => simp [wipe]
  | cons a ls ih =>
    unfold wipe
    by_cases h : a = j
    · subst h
      rw [if_pos List.mem_cons_self]
      by_cases hl : a < σ.length
      · rw [if_pos hl, List.getElem?_set_self (by rw [wipe_length]; exact hl)]
      · rw [if_neg hl, List.getElem?_eq_none (by rw [List.length_set, wipe_length]; omega)]
    · rw [List.getElem?_set_ne h, ih]
      simp [Ne.symm h]
theorem wipeE_len (ρ : Env) : ∀ ls : List Nat, (wipeE ρ ls).length = ρ.length
  | [] => rfl
  | a :: ls => by unfold wipeE; rw [List.length_set, wipeE_len ρ ls]
theorem wipeE_get {ρ : Env} (ls : List Nat) (j : Nat) : (wipeE ρ ls)[j]? = if j ∈ ls then (if j < ρ.length then some none else none) else ρ[j]? := by
  induction ls with
  | nil => simp [wipeE]
  | cons a ls ih =>
    unfold wipeE
    by_cases h : a = j
    · subst h
      rw [if_pos List.mem_cons_self]
      by_cases hl : a < ρ.length
      · rw [if_pos hl, List.getElem?_set_self (by rw [wipeE_len]; exact hl)]
      · rw [if_neg hl, List.getElem?_eq_none (by rw [List.length_set, wipeE_len]; omega)]
    · rw [List.getElem?_set_ne h, ih]
      simp [Ne.symm h]
theorem restore_len (ρ0 ρ : Env) : ∀ ls : List Nat, (restore ρ0 ρ ls).length = ρ.length
  | [] => rfl
  | a :: ls => by unfold restore; rw [List.length_set, restore_len ρ0 ρ ls]
theorem restore_get {ρ0 ρ : Env} (ls : List Nat) (j : Nat) : (restore ρ0 ρ ls)[j]? = if j ∈ ls then (if j < ρ.length then some (slot ρ0 j) else none) else ρ[j]? := by
  induction ls with
  | nil => simp [restore]
  | cons a ls ih =>
    unfold restore
    by_cases h : a = j
    · subst h
      rw [if_pos List.mem_cons_self]
      by_cases hl : a < ρ.length
      · rw [if_pos hl, List.getElem?_set_self (by rw [restore_len]; exact hl)]
      · rw [if_neg hl, List.getElem?_eq_none (by rw [List.length_set, restore_len]; omega)]
    · rw [List.getElem?_set_ne h, ih]
      simp [Ne.symm h]
section
variable {M : Nm} {W : WX} {Γ : Gam} {σ : St} {ρ ρ' ρ1 : Env} {G G' G1 : Addr → Prop} {H H' H1 : Hp} {Fs Fs' Fs1 : Nat → List Addr} {O : Addr → Prop} {r : R}
theorem own_wipe {ls : List Nat} {b : Addr} (h : Own (wipeF Fs ls) b) : Own Fs b := by
  obtain ⟨i, h⟩ := h
  unfold wipeF at h
  split at h
  · cases h
  · exact ⟨i, h⟩
theorem Stp.weaken {O' : Addr → Prop} (st : Stp G H O G' H') (h : ∀ b, O b → O' b) : Stp G H O' G' H' := ⟨fun b o e n => st.keep b o e fun z => n (h b z), st.there, fun b e n => st.gkeep b e fun z => n (h b z), st.gnew⟩
theorem assignT_len : ∀ (tg : Tg), (∀ d ρ ρ', assignT tg d ρ = some ρ' → ρ'.length = ρ.length) ∧ (∀ ds ρ ρ', assignTs tg ds ρ = some ρ' → ρ'.length = ρ.length) := by
  intro tg
  induction tg with
  | n i => exact ⟨fun d ρ ρ' z => (by cases z; rw [List.length_set]), fun ds ρ ρ' z => by cases ds <;> cases z⟩
  | t ts ih => exact ⟨fun d ρ ρ' z => (by cases d <;> first | (exact ih.2 _ _ _ z) | cases z), fun ds ρ ρ' z => by cases ds <;> cases z⟩
  | nil => exact ⟨fun d ρ ρ' z => (by cases d <;> cases z), fun ds ρ ρ' z => by cases ds <;> cases z; rfl⟩
  | cons h r ih1 ih2 =>
    refine ⟨fun d ρ ρ' z => (by cases d <;> cases z), fun ds ρ ρ' z => ?_⟩
    cases ds with
    | nil => cases z
    | cons d ds =>
      have z' : ((assignT h d ρ).bind fun ρ1 => assignTs r ds ρ1) = some ρ' := z
      simp only [Option.bind_eq_some_iff] at z'
      obtain ⟨ρ1, z1, z2⟩ := z'
      rw [ih2.2 _ _ _ z2, ih1.1 _ _ _ z1]
/-- the values of some slots forgotten on both sides, of more only in the contents -/
theorem EnvOK.wipe2 (e : EnvOK M G H σ ρ Fs) (vs ls : List Nat) (h : ∀ i ∈ vs, i ∈ ls) : EnvOK M G H (L2.wipe σ vs) (wipeE ρ ls) (wipeF Fs ls) where
  len := by rw [wipeE_len, wipe_length]; exact e.len
  at_ := fun i d hd => by
    rw [wipeE_get] at hd
    split at hd
    · split at hd <;> cases hd
    · rename_i hi
      obtain ⟨v, h1, h2⟩ := e.at_ i d hd
      refine ⟨v, ?_, ?_⟩
      · rw [wipe_get, if_neg (fun z => hi (h i z))]; exact h1
      · unfold wipeF; rw [if_neg hi]; exact h2
  non := fun i hd => by
    unfold wipeF
    split
    · rfl
    · rename_i hi
      exact e.non i fun d z => hd d (by rw [wipeE_get, if_neg hi]; exact z)
  nd := fun i => by unfold wipeF; split; exact .nil; exact e.nd i
  dj := fun i j a hij hm => by
    unfold wipeF at hm ⊢
    split at hm
    · cases hm
    · split
      · exact fun z => (nomatch z)
      · exact e.dj i j a hij hm
theorem wipe_same {σ' : St} {vs sl : List Nat} (hl : σ'.length = σ.length) (hs : ∀ j ∈ sl, j ∈ vs) (hf : ∀ j, j ∉ sl → σ'[j]? = (L2.wipe σ vs)[j]?) : L2.wipe σ' vs = L2.wipe σ vs := by
  apply List.ext_getElem?
  intro j
  rw [wipe_get, wipe_get]
  by_cases hj : j ∈ vs
  · rw [if_pos hj, if_pos hj, hl]
  · rw [if_neg hj, if_neg hj, hf j (fun z => hj (hs j z)), wipe_get, if_neg hj]
/-- [elt for tg in it if c] -/
theorem tD_comp {own : List (String × Nat)} {tg : Tg} {it c elt : E} {Q : VK} {fl : Env → Option R} (hts : ∀ j ∈ tgSlots tg, j ∈ own.map (·.2))
    (hf : ∀ ρ, fl ρ = bindR ((ev Γ it).it ρ) fun ds ρ1 => if D.pures (tupOf ds) then
        bindR (compLoop (own.map (·.2)) tg (ev Γ c).t (ev Γ elt).v (tupOf ds) [] (wipeE ρ1 (locks it ++ own.map (·.2)))) fun d ρ2 =>
          some (.ok d (restore ρ1 ρ2 (locks it ++ own.map (·.2)))) else none)
    (ht : ∀ {ρ d ρ1}, (ev Γ it).it ρ = some (.ok d ρ1) → ∃ ds, d = .tup ds)
    (h : tD M W fl σ H Q) : tLc (tI M W Γ it) (gT M tg) (tT M W0 (ev Γ c).t) (tD M W0 (ev Γ elt).v) (own.map (·.2)) σ H Q := by
  obtain ⟨ρ, G, Fs, r, e, g, hr, fin⟩ := h
  rw [hf] at hr
  generalize hvs : own.map (·.2) = vs at hr hts ⊢
  rcases bindR_some hr with ⟨d, ρ1, h1, h2⟩ | ⟨cx, d, ρ1, h1, h2⟩
  · obtain ⟨ds, rfl⟩ := ht h1
    have h2' : (if D.pures ds = true then bindR (compLoop vs tg (ev Γ c).t (ev Γ elt).v ds [] (wipeE ρ1 (locks it ++ vs))) fun d ρ2 => some (R.ok d (restore ρ1 ρ2 (locks it ++ vs))) else none) = some r := h2
    split at h2'
    · rename_i hpu
      refine ⟨ρ, G, Fs, .ok (.tup ds) ρ1, e, g, h1, fun ds' ρ' z => (by cases z; exact hpu), fun _ J G1 H1 Fs1 F p Da hD => ?_⟩
      have loop : ∃ dres ρ2, compLoop vs tg (ev Γ c).t (ev Γ elt).v ds [] (wipeE ρ1 (locks it ++ vs)) = some (.ok dres ρ2) ∧ r = .ok dres (restore ρ1 ρ2 (locks it ++ vs)) := by
        rcases bindR_some h2' with ⟨d, ρ2, h3, h4⟩ | ⟨cx, d, ρ2, h3, h4⟩
        · exact ⟨d, ρ2, h3, (Option.some.inj h4).symm⟩
        · exfalso
          have : ∀ (ds acc : List D) (ρ : Env), compLoop vs tg (ev Γ c).t (ev Γ elt).v ds acc ρ ≠ some (.ex cx d ρ2) := by
            intro ds
            induction ds with
            | nil => intro acc ρ z; cases z
            | cons a ds ih =>
              intro acc ρ z
              unfold compLoop at z
              simp only [Option.bind_eq_some_iff] at z
              obtain ⟨ρ3, _, z⟩ := z
              split at z
              · split at z
                · split at z
                  · exact ih _ _ z
                  · cases z
                · cases z
              · exact ih _ _ z
              · cases z
          exact this _ _ _ h3
      obtain ⟨dres, ρ2, hloop, hres⟩ := loop
      have E1 := p.pen.env.wipe2 vs (locks it ++ vs) (fun i hi => List.mem_append_right _ hi)
      have DG : ¬ G1 Da := p.pen.gok.fresh hD
      have neD : ∀ b o, H1 b = some o → b ≠ Da := fun b o e z => by rw [z, hD] at e; cases e
      let Fw := wipeF Fs1 (locks it ++ vs)
      let H1' := upd H1 Da (.lst [])
      let G1' := add G1 Da
      let Inv' : Nat → Hp → Prop := fun i Hi => i ≤ ds.length ∧ ∃ G' Fs' ρ' acc accV Fa, EnvOK M G' Hi (L2.wipe σ vs) (wipeE ρ' vs) Fs' ∧ GOK Hi G' ∧ Hi Da = some (.lst accV) ∧ G' Da ∧ RepL M G' Hi accV acc Fa ∧ (Da :: Fa).Nodup ∧ (∀ b ∈ Da :: Fa, ¬ Own Fs' b) ∧
        Stp G1' H1' (fun b => Own Fw b ∨ b = Da) G' Hi ∧ (∀ b, (b ∈ Fa ∨ Own Fs' b) → Own Fw b ∨ H1' b = none) ∧ compLoop vs tg (ev Γ c).t (ev Γ elt).v (ds.drop i) acc ρ' = some (.ok dres ρ2)
      have base : ∀ {G' Hi}, GOK Hi G' → Stp G1' H1' (fun b => Own Fw b ∨ b = Da) G' Hi → Kp G1 H1 G' Hi F := fun {G' Hi} g' st => by
        have fw : ∀ b ∈ F, ¬ Own Fw b := fun b hb z => p.dj b hb (by
          obtain ⟨i, z⟩ := z
          have z' : b ∈ (if i ∈ locks it ++ vs then [] else Fs1 i) := z
          split at z'
          · cases z'
          · rename_i hi
            exact ⟨i, by unfold wipeF; rw [if_neg fun w => hi (List.mem_append_left _ w)]; exact z'⟩)
        refine ⟨fun b o e h => st.keep b o (new_ne hD e) fun z => ?_, fun b o e n z => ?_, fun b hb => st.gkeep b (.inl (p.fG b hb)) fun z => ?_⟩
        · rcases z with z | z
          · rcases h with h | h
            · exact h (p.pen.env.own (own_wipe z))
            · exact fw b h z
          · exact neD b o e z
        · rcases st.gnew b z with w | w
          · rcases w with w | w
            · exact n w
            · exact neD b o e w
          · rw [show H1' b = some o from new_ne hD e] at w; cases w
        · rcases z with z | z
          · exact fw b hb z
          · exact DG (z ▸ p.fG b hb)
      refine ⟨fun i m Hi => m = ds.length - i ∧ Inv' i Hi, ⟨_, rfl, Nat.zero_le _, G1', Fw, wipeE ρ1 (locks it ++ vs), [], [], [], ?_, own_gok p.pen.gok hD, upd_same, .inr rfl, .nil, by simp, fun b hb z => ?_, .refl, fun b z => ?_, hloop⟩, ?_⟩
      · have E2 := own_env (o := .lst []) p.pen.gok E1 hD
        have e3 : wipeE (wipeE ρ1 (locks it ++ vs)) vs = wipeE ρ1 (locks it ++ vs) := by
          apply List.ext_getElem?
          intro j
          rw [wipeE_get, wipeE_get, wipeE_len]
          by_cases hj : j ∈ vs
          · rw [if_pos hj, if_pos (List.mem_append_right _ hj)]
          · rw [if_neg hj]
        rw [e3]
        exact E2
      · rcases List.mem_cons.mp hb with z' | z'
        · exact DG (z' ▸ p.pen.env.own (own_wipe z))
        · cases z'
      · rcases z with z | z
        · cases z
        · exact .inl z
      rintro i m Hi ⟨rfl, hi, G', Fs', ρq, acc, accV, Fa, e', g', hDa, hGD, ra, nd, dj, st, ow, hl⟩
      have kp := base g' st
      by_cases hlt : i < ds.length
      · refine .inr ⟨p.wk.go G' Hi g' kp i hlt, fun Hn => (ds.length - (i + 1) < ds.length - i) ∧ Inv' (i + 1) Hn, fun Hn hn => ⟨_, hn.1, rfl, hn.2⟩, fun x Hy y => ?_⟩
        obtain ⟨d, hd, hHy, rx⟩ := p.wk.yld G' Hi g' kp i x Hy hlt y
        have hdr : ds.drop i = d :: ds.drop (i + 1) := by
          rw [List.drop_eq_getElem_cons hlt]
          have : ds[i] = d := by rw [List.getElem?_eq_getElem hlt] at hd; exact Option.some.inj hd
          rw [this]
        rw [hdr] at hl
        unfold compLoop at hl
        simp only [Option.bind_eq_some_iff] at hl
        obtain ⟨ρ3, ha, hl⟩ := hl
        -- the heap with the item's tuple
        have stY : (∀ b o, Hi b = some o → Hy b = some o) ∧ (∀ b, Hy b = none → Hi b = none) := by
          rcases hHy with rfl | ⟨T, ys, hT, rfl⟩
          · exact ⟨fun _ _ z => z, fun _ z => z⟩
          · refine ⟨fun b o z => new_ne hT z, fun b z => ?_⟩
            by_cases hb : b = T
            · rw [hb]; exact hT
            · rw [upd_ne hb] at z; exact z
        have kY : ∀ F0 : List Addr, (∀ b ∈ F0, G' b) → Kp G' Hi G' Hy F0 := fun F0 h0 => ⟨fun b o z _ => stY.1 b o z, fun _ _ _ n => n, h0⟩
        have eY : EnvOK M G' Hy (L2.wipe σ vs) (wipeE ρq vs) Fs' := e'.mono g' fun j => kY _ fun b hb => e'.own ⟨j, hb⟩
        have gY : GOK Hy G' := fun a z => let ⟨xs, q⟩ := g' a z; ⟨xs, stY.1 a _ q⟩
        have raY := ra.mono g' (kY Fa ra.own)
        have hDY := stY.1 Da _ hDa
        have hsame : ∀ σ2 Fs2, Stored M G' Hy (L2.wipe σ vs) Fs' [] (tgSlots tg) σ2 ρ3 Fs2 → L2.wipe σ2 vs = L2.wipe σ vs := fun σ2 Fs2 sd => by
          refine wipe_same ?_ hts fun j hj => sd.fix j hj
          have l1 := sd.env.len
          have l2 := (assignT_len tg).1 _ _ _ ha
          have l3 := eY.len
          rw [wipe_length] at l3
          omega
        refine ⟨G', Fs', wipeE ρq vs, d, [], ρ3, eY, rx, .nil, fun _ z => (nomatch z), ha, fun σ2 Fs2 sd => ⟨?_, ?_⟩⟩
        · exact hsame σ2 Fs2 sd
        -- the test
        have djs : ∀ b ∈ Da :: Fa, ¬ Own Fs2 b := fun b hb z => (sd.own b z).elim (dj b hb) (fun q => nomatch q)
        split at hl
        · rename_i ρ4 hc
          refine ⟨ρ3, G', Fs2, .ok (.bl true) ρ4, sd.env, gY, hc, fun G3 H3 Fs3 pc => ?_⟩
          show if true = true then _ else _
          rw [if_pos rfl]
          split at hl
          · rename_i yd ρ5 hy
            split at hl
            · rename_i hz
              refine ⟨ρ4, G3, Fs3, .ok yd ρ5, pc.env, pc.gok, hy, fun yv G4 H4 Fs4 F4 ps => ?_⟩
              -- from the turn's start to here
              have pall : Pst M σ2 G' Hy (Own Fs2) ρ5 yd yv G4 H4 Fs4 F4 := pc.pst gY ps
              have hD4 : H4 Da = some (.lst accV) := pall.stp.keep Da _ hDY (djs Da List.mem_cons_self)
              have hG4 : G4 Da := pall.stp.gkeep Da hGD (djs Da List.mem_cons_self)
              have ra4 : RepL M G4 H4 accV acc Fa := raY.mono gY (pall.stp.kp gY (fun b z => sd.env.own z) fun b hb => ⟨raY.own b hb, djs b (List.mem_cons_of_mem _ hb)⟩)
              refine ⟨accV, hD4, by rw [ra.length]; exact hz, by omega, by omega, ?_⟩
              have nD : ∀ b ∈ F4, b ≠ Da := fun b hb z => by
                rcases pall.own b (.inl hb) with w | w
                · exact djs Da List.mem_cons_self (z ▸ w)
                · rw [z, hDY] at w; cases w
              have nDF : ∀ j, Da ∉ Fs4 j := fun j z => by
                rcases pall.own Da (.inr ⟨j, z⟩) with w | w
                · exact djs Da List.mem_cons_self w
                · rw [hDY] at w; cases w
              have kD : ∀ F0 : List Addr, (∀ b ∈ F0, G4 b) → Da ∉ F0 → Kp G4 H4 G4 (upd H4 Da (.lst (accV ++ [yv]))) F0 := fun F0 h0 hn => ⟨fun b o z q => by
                rw [upd_ne (fun w => by
                  subst w
                  rcases q with q | q
                  · exact q hG4
                  · exact hn q)]; exact z, fun _ _ _ n => n, h0⟩
              have ownA : ∀ b, (b ∈ Fa ++ F4 ∨ Own (wipeF Fs4 vs) b) → Own Fw b ∨ H1' b = none := fun b z => by
                have back : Own Fs2 b ∨ Hy b = none → Own Fw b ∨ H1' b = none := fun w => by
                  rcases w with w | w
                  · rcases sd.own b w with w | w
                    · exact ow b (.inr w)
                    · cases w
                  · exact .inr (st.free (stY.2 b w))
                rcases z with z | z
                · rcases List.mem_append.mp z with z | z
                  · exact ow b (.inl z)
                  · exact back (pall.own b (.inl z))
                · exact back (pall.own b (.inr (own_wipe z)))
              refine ⟨G4, wipeF Fs4 vs, ρ5, acc ++ [yd], accV ++ [yv], Fa ++ F4, ?_, ?_, upd_same, hG4, ?_, ?_, ?_, ?_, ownA, hl⟩
              · have e5 := (pall.env.wipe2 vs vs (fun _ z => z))
                have e6 := hsame σ2 Fs2 sd
                rw [e6] at e5
                exact e5.mono pall.gok fun j => kD _ (fun b hb => e5.own ⟨j, hb⟩) (fun z => by
                  unfold wipeF at z
                  split at z
                  · cases z
                  · exact nDF j z)
              · intro a z
                by_cases ha' : a = Da
                · rw [ha']; exact ⟨_, upd_same⟩
                · obtain ⟨xs, q⟩ := pall.gok a z
                  exact ⟨xs, by rw [upd_ne ha']; exact q⟩
              · exact (ra4.mono pall.gok (kD Fa ra4.own (List.nodup_cons.mp nd).1)).app (by
                  have r0 := RepL.cons (pall.rep.mono pall.gok (kD F4 pall.rep.own fun z => nD Da z rfl)) RepL.nil
                  rw [List.append_nil] at r0
                  exact r0)
              · refine List.nodup_cons.mpr ⟨fun z => ?_, List.nodup_append.mpr ⟨(List.nodup_cons.mp nd).2, pall.nd, fun b h1 b' h2 w => ?_⟩⟩
                · rcases List.mem_append.mp z with z | z
                  · exact (List.nodup_cons.mp nd).1 z
                  · exact nD Da z rfl
                · subst w
                  rcases pall.own b (.inl h2) with w | w
                  · exact djs b (List.mem_cons_of_mem _ h1) w
                  · obtain ⟨xs, q⟩ := gY b (raY.own b h1)
                    rw [w] at q; cases q
              · intro b hb z
                have z' := own_wipe z
                rcases List.mem_cons.mp hb with hb | hb
                · obtain ⟨j, z'⟩ := z'
                  exact nDF j (hb ▸ z')
                · rcases List.mem_append.mp hb with hb | hb
                  · rcases pall.own b (.inr z') with w | w
                    · exact djs b (List.mem_cons_of_mem _ hb) w
                    · obtain ⟨xs, q⟩ := gY b (raY.own b hb)
                      rw [w] at q; cases q
                  · exact pall.dj b hb z'
              · have stA : Stp G' Hi (fun b => Own Fs2 b ∨ b = Da) G4 (upd H4 Da (.lst (accV ++ [yv]))) := by
                  refine ⟨fun b o z n => ?_, fun b o z => ?_, fun b z n => pall.stp.gkeep b z fun w => n (.inl w), fun b z => (pall.stp.gnew b z).imp_right (stY.2 b)⟩
                  · rw [upd_ne fun w => n (.inr w)]
                    exact pall.stp.keep b o (stY.1 b o z) fun w => n (.inl w)
                  · by_cases hb : b = Da
                    · rw [hb]; exact ⟨_, upd_same⟩
                    · obtain ⟨o', q⟩ := pall.stp.there b o (stY.1 b o z)
                      exact ⟨o', by rw [upd_ne hb]; exact q⟩
                refine st.trans (own_gok p.pen.gok hD) stA fun b z => ?_
                rcases z with z | z
                · rcases sd.own b z with w | w
                  · exact (ow b (.inr w)).imp_left .inl
                  · cases w
                · exact .inl (.inr z)
            · cases hl
          · cases hl
        · rename_i ρ4 hc
          refine ⟨ρ3, G', Fs2, .ok (.bl false) ρ4, sd.env, gY, hc, fun G3 H3 Fs3 pc => ?_⟩
          show if false = true then _ else _
          rw [if_neg Bool.false_ne_true]
          have hD3 : H3 Da = some (.lst accV) := pc.stp.keep Da _ hDY (djs Da List.mem_cons_self)
          have hG3 : G3 Da := pc.stp.gkeep Da hGD (djs Da List.mem_cons_self)
          have ra3 : RepL M G3 H3 accV acc Fa := raY.mono gY (pc.stp.kp gY (fun b z => sd.env.own z) fun b hb => ⟨raY.own b hb, djs b (List.mem_cons_of_mem _ hb)⟩)
          refine ⟨by omega, by omega, G3, wipeF Fs3 vs, ρ4, acc, accV, Fa, ?_, pc.gok, hD3, hG3, ra3, nd, fun b hb z => ?_, ?_, fun b z => ?_, hl⟩
          · have e5 := (pc.env.wipe2 vs vs (fun _ z => z))
            have e6 := hsame σ2 Fs2 sd
            rw [e6] at e5
            exact e5
          · rcases pc.own b (own_wipe z) with w | w
            · exact djs b hb w
            · rcases List.mem_cons.mp hb with hb | hb
              · rw [hb, hDY] at w; cases w
              · obtain ⟨xs, q⟩ := gY b (raY.own b hb)
                rw [w] at q; cases q
          · have stA : Stp G' Hi (fun b => Own Fs2 b) G3 H3 := ⟨fun b o z n => pc.stp.keep b o (stY.1 b o z) n, fun b o z => pc.stp.there b o (stY.1 b o z), pc.stp.gkeep, fun b z => (pc.stp.gnew b z).imp_right (stY.2 b)⟩
            refine st.trans (own_gok p.pen.gok hD) stA fun b z => ?_
            rcases sd.own b z with w | w
            · exact (ow b (.inr w)).imp_left .inl
            · cases w
          · rcases z with z | z
            · exact ow b (.inl z)
            · rcases pc.own b (own_wipe z) with w | w
              · rcases sd.own b w with w | w
                · exact ow b (.inr w)
                · cases w
              · exact .inr (st.free (stY.2 b w))
        · cases hl
      · -- the end
        have hie : i = ds.length := by omega
        subst hie
        rw [List.drop_length] at hl
        unfold compLoop at hl
        cases hl
        refine .inl ⟨p.wk.stop G' Hi g' kp, ?_⟩
        subst hres
        have st0 : Stp G1 H1 (Own Fs1) G' Hi := by
          have st' : Stp G1' H1' (fun b => Own Fs1 b ∨ b = Da) G' Hi := st.weaken fun b z => z.imp_left own_wipe
          exact Stp.trans p.pen.gok (own_stp (O := Own Fs1) (o := .lst []) hD) st' fun b z => z.imp_right fun (q : b = Da) => q ▸ hD
        have djl : ∀ i ∈ locks it ++ vs, ∀ b ∈ Fs1 i, ¬ Own Fw b := fun i hi b hb ⟨j, z⟩ => by
          have z' : b ∈ (if j ∈ locks it ++ vs then [] else Fs1 j) := z
          split at z'
          · cases z'
          · rename_i hj
            exact p.pen.env.dj i j b (fun q => hj (q ▸ hi)) hb z'
        have kpL : ∀ i ∈ locks it ++ vs, Kp G1 H1 G' Hi (Fs1 i) := fun i hi => by
          refine ⟨fun b o e h => st.keep b o (new_ne hD e) fun z => ?_, fun b o e n z => ?_, fun b hb => st.gkeep b (.inl (p.pen.env.own ⟨i, hb⟩)) fun z => ?_⟩
          · rcases z with z | z
            · rcases h with h | h
              · exact h (p.pen.env.own (own_wipe z))
              · exact djl i hi b h z
            · exact neD b o e z
          · rcases st.gnew b z with w | w
            · rcases w with w | w
              · exact n w
              · exact neD b o e w
            · rw [show H1' b = some o from new_ne hD e] at w; cases w
          · rcases z with z | z
            · exact djl i hi b hb z
            · exact DG (z ▸ p.pen.env.own ⟨i, hb⟩)
        have lens : ρ2.length = σ.length := by
          have l := e'.len
          rw [wipeE_len, wipe_length] at l
          exact l
        have ownNew : ∀ b, (b ∈ Fa ∨ Own Fs' b) → Own Fs b ∨ H b = none := fun b z => by
          rcases ow b z with w | w
          · exact p.pen.own b (own_wipe w)
          · exact .inr (p.pen.stp.free (by
              by_cases hb : b = Da
              · rw [hb]; exact hD
              · rw [show H1' b = H1 b from upd_ne hb] at w; exact w))
        have disjL : ∀ i ∈ locks it ++ vs, ∀ b ∈ Fs1 i, ¬ (b ∈ Da :: Fa ∨ Own Fs' b) := fun i hi b hb z => by
          have t1 : ∃ xs, H1 b = some (.lst xs) := p.pen.gok b (p.pen.env.own ⟨i, hb⟩)
          obtain ⟨xs, t1⟩ := t1
          have key : (b ∈ Fa ∨ Own Fs' b) → False := fun z => by
            rcases ow b z with w | w
            · exact djl i hi b hb w
            · rw [show H1' b = some _ from new_ne hD t1] at w; cases w
          rcases z with z | z
          · rcases List.mem_cons.mp z with z | z
            · exact neD b _ t1 z
            · exact key (.inl z)
          · exact key (.inr z)
        refine fin (.ref Da) G' Hi (fun i => if i ∈ locks it ++ vs then Fs1 i else Fs' i) (Da :: Fa) ⟨⟨?_, fun i d hd => ?_, fun i hd => ?_, fun i => ?_, fun i j b hij hm => ?_⟩, g', p.pen.stp.trans g st0 p.pen.own, .lstO hDa hGD ra, fun b z => ?_, nd, fun b hb ⟨i, z⟩ => ?_⟩
        · rw [restore_len]; exact lens
        · rw [restore_get] at hd
          split at hd
          · rename_i hi
            split at hd
            · have hd' : slot ρ1 i = some d := by simpa using hd
              obtain ⟨v, h1, h2⟩ := p.pen.env.at_ i d (slot_some hd')
              refine ⟨v, h1, ?_⟩
              rw [if_pos hi]
              exact h2.mono p.pen.gok (kpL i hi)
            · cases hd
          · rename_i hi
            have hv : i ∉ vs := fun z => hi (List.mem_append_right _ z)
            obtain ⟨v, h1, h2⟩ := e'.at_ i d (by rw [wipeE_get, if_neg hv]; exact hd)
            refine ⟨v, ?_, ?_⟩
            · rw [wipe_get, if_neg hv] at h1; exact h1
            · rw [if_neg hi]; exact h2
        · show (if i ∈ locks it ++ vs then Fs1 i else Fs' i) = []
          split
          · rename_i hi
            refine p.pen.env.non i fun d z => hd d ?_
            rw [restore_get, if_pos hi, if_pos (by rw [lens, ← p.pen.env.len]; exact (List.getElem?_eq_some_iff.mp z).1), slot_of z]
          · rename_i hi
            have hv : i ∉ vs := fun z => hi (List.mem_append_right _ z)
            exact e'.non i fun d z => hd d (by rw [wipeE_get, if_neg hv] at z; rw [restore_get, if_neg hi]; exact z)
        · show (if i ∈ locks it ++ vs then Fs1 i else Fs' i).Nodup
          split
          · exact p.pen.env.nd i
          · exact e'.nd i
        · have hm' : b ∈ (if i ∈ locks it ++ vs then Fs1 i else Fs' i) := hm
          show b ∉ (if j ∈ locks it ++ vs then Fs1 j else Fs' j)
          split at hm'
          · rename_i hi
            split
            · exact p.pen.env.dj i j b hij hm'
            · exact fun z => disjL i hi b hm' (.inr ⟨j, z⟩)
          · split
            · rename_i hj
              exact fun z => disjL j hj b z (.inr ⟨i, hm'⟩)
            · exact e'.dj i j b hij hm'
        · rcases z with z | ⟨i, z⟩
          · rcases List.mem_cons.mp z with z | z
            · exact .inr (p.pen.stp.free (z ▸ hD))
            · exact ownNew b (.inl z)
          · have z' : b ∈ (if i ∈ locks it ++ vs then Fs1 i else Fs' i) := z
            split at z'
            · exact p.pen.own b ⟨i, z'⟩
            · exact ownNew b (.inr ⟨i, z'⟩)
        · have z' : b ∈ (if i ∈ locks it ++ vs then Fs1 i else Fs' i) := z
          split at z'
          · rename_i hi
            exact disjL i hi b z' (.inl hb)
          · exact dj b hb ⟨i, z'⟩
    · cases h2'
  · refine ⟨ρ, G, Fs, .ex cx d ρ1, e, g, h1, fun ds ρ' z => (by cases z), fun C dd G' H' Fs' p => ?_⟩
    exact fin.ex h2 p
end
end VI

set_option maxHeartbeats 1000000
set_option synthInstance.maxSize 128
set_option synthInstance.maxHeartbeats 20000
namespace VI
open PySem L2
section
variable {M : Nm} {W : WX} {Γ : Gam} {σ : St} {ρ ρ' ρ1 : Env} {G G' G1 : Addr → Prop} {H H' H1 : Hp} {Fs Fs' Fs1 : Nat → List Addr} {O : Addr → Prop} {r : R} {Q : VK}
theorem e_const {d : D} {v : V} {f : Env → Option R} (hf : ∀ ρ, f ρ = some (.ok d ρ)) (hr : ∀ G H, Rep M G H v d []) (h : tD M W f σ H Q) : tC v σ H Q := by
  obtain ⟨ρ, G, Fs, r, e, g, h1, fin⟩ := h
  rw [hf] at h1; cases h1
  exact fin.give e g (hr G H)
theorem e_var {i : Nat} (h : tD M W (ev Γ (.var i)).v σ H Q) : tVar i σ H Q := by
  obtain ⟨ρ, G, Fs, r, e, g, h1, fin⟩ := h
  have h1' : ((slot ρ i).bind fun d => if d.pure then some (R.ok d ρ) else none) = some r := h1
  simp only [Option.bind_eq_some_iff] at h1'
  obtain ⟨d, h2, h3⟩ := h1'
  split at h3
  · cases h3
    obtain ⟨v, e1, r1⟩ := e.at_ i d (slot_some h2)
    have := r1.pure (by assumption)
    rw [this] at r1
    exact ⟨v, e1, fin.give e g r1⟩
  · cases h3
theorem e_mov {i : Nat} (h : tD M W (ev Γ (.mov i)).v σ H Q) : tVar i σ H Q := by
  obtain ⟨ρ, G, Fs, r, e, g, h1, fin⟩ := h
  have h1' : (slot ρ i).map (fun d => R.ok d (ρ.set i none)) = some r := h1
  simp only [Option.map_eq_some_iff] at h1'
  obtain ⟨d, h2, h3⟩ := h1'
  cases h3
  obtain ⟨v, e1, r1⟩ := e.at_ i d (slot_some h2)
  refine ⟨v, e1, fin v G H _ (Fs i) ⟨e.clear i, g, .refl, r1, fun b z => ?_, e.nd i, fun b z w => ?_⟩⟩
  · rcases z with z | z
    · exact .inl ⟨i, z⟩
    · rcases own_up z with z | ⟨j, _, z⟩
      · cases z
      · exact .inl ⟨j, z⟩
  · rcases own_up w with w | ⟨j, hj, w⟩
    · cases w
    · exact e.dj j i b hj w z
theorem EnvOK.freeze (g : GOK H G) (e : EnvOK M G H σ ρ Fs) {i : Nat} {d : D} (h : slot ρ i = some d) : EnvOK M (drop G (Fs i)) H σ (ρ.set i (some d.frz)) (upF Fs i []) := by
  obtain ⟨v, e1, r1⟩ := e.at_ i d (slot_some h)
  have il : i < ρ.length := (List.getElem?_eq_some_iff.mp (slot_some h)).1
  have c := e.clear i
  have c2 : EnvOK M (drop G (Fs i)) H σ (ρ.set i none) (upF Fs i []) := c.mono g fun j => drop_kp' (fun b z => c.own ⟨j, z⟩) fun b z w => by
    rcases own_up ⟨j, z⟩ with q | ⟨l, hl, q⟩
    · cases q
    · exact e.dj l i b hl q w
  have p := c2.put i (r1.frz g fun _ z => z) .nil fun _ z => (nomatch z)
  rw [if_pos (by rw [List.length_set]; exact il), List.set_getElem?_eq e1, List.set_set] at p
  have e2 : upF (upF Fs i []) i [] = upF Fs i [] := by funext j; unfold upF; split <;> rfl
  rw [e2] at p
  exact p
theorem drop_stp {F : List Addr} (h : ∀ b ∈ F, O b) : Stp G H O (drop G F) H := ⟨fun _ _ e _ => e, fun _ o e => ⟨o, e⟩, fun b z n => ⟨z, fun w => n (h b w)⟩, fun _ z => .inl z.1⟩
theorem e_fzs {i : Nat} (h : tD M W (ev Γ (.fzs i)).v σ H Q) : tVar i σ H Q := by
  obtain ⟨ρ, G, Fs, r, e, g, h1, fin⟩ := h
  have h1' : (slot ρ i).map (fun d => R.ok d.frz (ρ.set i (some d.frz))) = some r := h1
  simp only [Option.map_eq_some_iff] at h1'
  obtain ⟨d, h2, h3⟩ := h1'
  cases h3
  obtain ⟨v, e1, r1⟩ := e.at_ i d (slot_some h2)
  refine ⟨v, e1, fin v _ H _ [] ⟨e.freeze g h2, drop_gok g, drop_stp fun b z => ⟨i, z⟩, r1.frz g fun _ z => z, fun b z => ?_, .nil, fun b z => (nomatch z)⟩⟩
  rcases z with z | z
  · cases z
  · rcases own_up z with z | ⟨j, _, z⟩
    · cases z
    · exact .inl ⟨j, z⟩
/-- a value of ours is shared from here on -/
theorem Pst.freeze {d : D} {v : V} {F : List Addr} (g : GOK H G) (p : Pst M σ G H O ρ' d v G' H' Fs' F) : Pst M σ G H O ρ' d.frz v (drop G' F) H' Fs' [] :=
  ⟨p.env.mono p.gok fun i => drop_kp' (fun b z => p.env.own ⟨i, z⟩) fun b z w => p.dj b w ⟨i, z⟩, drop_gok p.gok,
    p.stp.trans g (drop_stp (O := fun b => b ∈ F) fun _ z => z) fun b z => p.own b (.inl z), p.rep.frz p.gok fun _ z => z, fun b z => p.own b (.inr (z.elim (fun w => nomatch w) id)), .nil, fun _ z => (nomatch z)⟩
theorem e_frz {a : E} (h : tD M W (ev Γ (.frz a)).v σ H Q) : tD M W (ev Γ a).v σ H Q := by
  obtain ⟨ρ, G, Fs, r, e, g, h1, fin⟩ := h
  have h1' : bindR ((ev Γ a).v ρ) (fun d ρ => some (R.ok d.frz ρ)) = some r := h1
  rcases bindR_some h1' with ⟨d, ρ1, h2, h3⟩ | ⟨c, d, ρ1, h2, h3⟩
  · cases h3
    exact ⟨ρ, G, Fs, _, e, g, h2, fun v G' H' Fs' F p => fin v _ H' Fs' [] (p.freeze g)⟩
  · subst h3
    exact ⟨ρ, G, Fs, _, e, g, h2, fin⟩
theorem e_frzi {a : E} (h : tD M W (ev Γ (.frzi a)).v σ H Q) : tD M W (ev Γ a).v σ H Q := by
  obtain ⟨ρ, G, Fs, r, e, g, h1, fin⟩ := h
  have h1' : bindR ((ev Γ a).v ρ) (fun d ρ => match d with
    | .lst true xs => some (R.ok (.lst true (D.frzs xs)) ρ)
    | _ => none) = some r := h1
  rcases bindR_some h1' with ⟨d, ρ1, h2, h3⟩ | ⟨c, d, ρ1, h2, h3⟩
  · split at h3
    · cases h3
      refine ⟨ρ, G, Fs, _, e, g, h2, fun v G' H' Fs' F p => ?_⟩
      obtain ⟨env, gok, stp, rep, own, nd, dj⟩ := p
      cases rep with
      | @lstO a xs _ F0 ea ga ra =>
        have nd' := List.nodup_cons.mp nd
        refine fin _ (drop G' F0) H' Fs' [a] ⟨env.mono gok fun i => drop_kp' (fun b z => env.own ⟨i, z⟩) fun b z w => dj b (List.mem_cons_of_mem _ w) ⟨i, z⟩, drop_gok gok,
          stp.trans g (drop_stp (O := fun b => b ∈ F0) fun _ z => z) fun b z => own b (.inl (List.mem_cons_of_mem _ z)), .lstO ea ⟨ga, nd'.1⟩ (ra.frz gok fun _ z => z), fun b z => ?_, List.nodup_cons.mpr ⟨fun z => (nomatch z), .nil⟩, fun b z => ?_⟩
        · rcases z with z | z
          · rcases List.mem_cons.mp z with z | z
            · exact own b (.inl (by rw [z]; exact List.mem_cons_self))
            · cases z
          · exact own b (.inr z)
        · rcases List.mem_cons.mp z with z | z
          · exact dj b (by rw [z]; exact List.mem_cons_self)
          · cases z
    · cases h3
  · subst h3
    exact ⟨ρ, G, Fs, _, e, g, h2, fin⟩
theorem PstA.fin {as : E} {ds : List D} {vs : List V} {F : List Addr} {Q : VK} (g : GOK H G) (p : PstA M σ G H O as ρ' ds vs G' H' Fs' F) (f : Fin M W σ Q G H O r) : Fin M W σ Q G' H' (Own Fs') r := f.step g p.pen
theorem e_tup {es : E} (hn : borsOf es = []) (h : tD M W (ev Γ (.tup es)).v σ H Q) : tTup (tA M W Γ es) σ H Q := by
  obtain ⟨ρ, G, Fs, r, e, g, h1, fin⟩ := h
  refine tA_use e g h1 (fun {c d ρ'} e {C dd G' H' Fs'} p => fin.ex e p) (fun _ _ => as_tup es) fun ds ρ1 vs G1 H1 Fs1 F h2 p => ?_
  have h2' : (if ds.length ≤ sizeLine then some (R.ok (.tup ds) ρ1) else none) = some r := h2
  split at h2'
  · cases h2'
    have rl := p.rep.pure hn
    refine ⟨by rw [rl.length]; assumption, fun q hq => ?_⟩
    refine fin (.ref q) G1 _ Fs1 F ⟨new_env p.pen.gok p.pen.env hq, new_gok p.pen.gok hq, p.pen.stp.trans g (new_stp (O := fun _ => False) hq) (fun _ z => z.elim), .tup (.inl (.inl upd_same)) (rl.mono p.pen.gok (new_kp hq rl.own)), fun b z => z.elim (p.own b) (p.pen.own b), p.nd, p.dj⟩
  · cases h2'
theorem e_lst {es : E} (hn : borsOf es = []) (h : tD M W (ev Γ (.lst es)).v σ H Q) : tLst (tA M W Γ es) σ H Q := by
  obtain ⟨ρ, G, Fs, r, e, g, h1, fin⟩ := h
  refine tA_use e g h1 (fun {c d ρ'} e {C dd G' H' Fs'} p => fin.ex e p) (fun _ _ => as_tup es) fun ds ρ1 vs G1 H1 Fs1 F h2 p => ?_
  have h2' : (if ds.length ≤ sizeLine then some (R.ok (.lst true ds) ρ1) else none) = some r := h2
  split at h2'
  · cases h2'
    have rl := p.rep.pure hn
    refine ⟨by rw [rl.length]; assumption, fun q hq => ?_⟩
    have ne : ∀ b, G1 b → b ≠ q := fun b z w => p.pen.gok.fresh hq (w ▸ z)
    refine fin (.ref q) (add G1 q) _ Fs1 (q :: F) ⟨own_env p.pen.gok p.pen.env hq, own_gok p.pen.gok hq, p.pen.stp.trans g (own_stp (O := fun _ => False) hq) (fun _ z => z.elim), .lstO upd_same (.inr rfl) (rl.mono p.pen.gok (own_kp hq rl.own)), fun b z => ?_, ?_, fun b z => ?_⟩
    · rcases z with z | z
      · rcases List.mem_cons.mp z with z | z
        · rw [z]; exact .inr (p.pen.stp.free hq)
        · exact p.own b z
      · exact p.pen.own b z
    · exact List.nodup_cons.mpr ⟨fun z => ne q (rl.own q z) rfl, p.nd⟩
    · rcases List.mem_cons.mp z with z | z
      · rw [z]; exact fun w => ne q (p.pen.env.own w) rfl
      · exact p.dj b z
  · cases h2'
theorem e_edic (h : tD M W (ev Γ .edic).v σ H Q) : tDNewK σ H Q := by
  obtain ⟨ρ, G, Fs, r, e, g, h1, fin⟩ := h
  cases h1
  exact fun q hq => fin (.ref q) G _ Fs [] ⟨new_env g e hq, new_gok g hq, new_stp hq, .edic upd_same, fun b z => z.elim (fun w => nomatch w) .inl, .nil, fun _ z => (nomatch z)⟩
theorem e_bin {op : Operator} {a b : E} (h : tD M W (ev Γ (.bin op a b)).v σ H Q) : tOp (rBin M.K op) (tO M W Γ a) (tO M W Γ b) σ H Q := by
  obtain ⟨ρ, G, Fs, r, e, g, hr, fin⟩ := h
  refine tO_use e g hr fin.ex fun x ρ1 v G1 H1 Fs1 F _ h2 p => ?_
  have fin1 := fin.step g p.pen
  refine tO_use p.pen.env p.pen.gok h2 fin1.ex fun y ρ2 w G2 H2 Fs2 F2 _ h3 q => ?_
  have fin2 := fin1.step p.pen.gok q.pen
  simp only [Option.bind_eq_some_iff, Option.map_eq_some_iff] at h3
  obtain ⟨x', h4, d, h5, h6⟩ := h3
  subst h6
  obtain ⟨Fx, rx⟩ := p.late q.pen h4
  obtain ⟨Fy, ry⟩ := q.rep'
  exact binD_ok rx ry h5 q.pen.env q.pen.gok fin2
theorem e_neg {a : E} (h : tD M W (ev Γ (.neg a)).v σ H Q) : tUn (rU fun i => .int (-i)) (tO M W Γ a) σ H Q := by
  obtain ⟨ρ, G, Fs, r, e, g, hr, fin⟩ := h
  refine tO_use e g hr fin.ex fun x ρ1 v G1 H1 Fs1 F _ h2 p => ?_
  have fin1 := fin.step g p.pen
  split at h2
  · cases h2
    obtain ⟨Fx, rx⟩ := p.rep'
    cases rx
    exact ⟨_, rfl, fin1.give p.pen.env p.pen.gok (.int _)⟩
  · cases h2
theorem e_not {a : E} (h : tD M W (ev Γ (.not a)).v σ H Q) : tNotT M.K (tO M W Γ a) σ H Q := by
  obtain ⟨ρ, G, Fs, r, e, g, hr, fin⟩ := h
  refine tO_use e g hr fin.ex fun x ρ1 v G1 H1 Fs1 F _ h2 p => ?_
  have fin1 := fin.step g p.pen
  simp only [Option.map_eq_some_iff] at h2
  obtain ⟨k, h3, h4⟩ := h2
  subst h4
  obtain ⟨Fx, rx⟩ := p.rep'
  exact ⟨k, truth_ok rx h3, fin1.give p.pen.env p.pen.gok (.bl _)⟩
theorem e_cmp {op : CmpOp} {a b : E} (h : tD M W (ev Γ (.cmp op a b)).v σ H Q) : tOp (rCmp M.K op) (tO M W Γ a) (tO M W Γ b) σ H Q := by
  obtain ⟨ρ, G, Fs, r, e, g, hr, fin⟩ := h
  refine tO_use e g hr fin.ex fun x ρ1 v G1 H1 Fs1 F _ h2 p => ?_
  have fin1 := fin.step g p.pen
  refine tO_use p.pen.env p.pen.gok h2 fin1.ex fun y ρ2 w G2 H2 Fs2 F2 _ h3 q => ?_
  have fin2 := fin1.step p.pen.gok q.pen
  simp only [Option.bind_eq_some_iff, Option.map_eq_some_iff] at h3
  obtain ⟨x', h4, k, h5, h6⟩ := h3
  subst h6
  obtain ⟨Fx, rx⟩ := p.late q.pen h4
  obtain ⟨Fy, ry⟩ := q.rep'
  exact cmpD_ok rx ry h5 (fin2.give q.pen.env q.pen.gok (.bl _))
theorem e_cmp2 {o1 o2 : CmpOp} {a b c : E} (ha : isBor a = false) (hb : isBor b = false) (h : tD M W (ev Γ (.cmp2 o1 o2 a b c)).v σ H Q) : tChain (rCmp M.K o1) (rCmp M.K o2) (tO M W Γ a) (tO M W Γ b) (tO M W Γ c) σ H Q := by
  obtain ⟨ρ, G, Fs, r, e, g, hr, fin⟩ := h
  refine tO_use e g hr fin.ex fun x ρ1 v G1 H1 Fs1 F _ h2 p => ?_
  have fin1 := fin.step g p.pen
  refine tO_use p.pen.env p.pen.gok h2 fin1.ex fun y ρ2 w G2 H2 Fs2 F2 _ h3 q => ?_
  have fin2 := fin1.step p.pen.gok q.pen
  simp only [Option.bind_eq_some_iff] at h3
  obtain ⟨k, h4, h5⟩ := h3
  obtain ⟨Fx, rx⟩ := p.late q.pen (d' := x) (by cases a <;> first | (cases ha; done) | rfl)
  obtain ⟨Fy, ry⟩ := q.rep'
  refine cmpD_ok rx ry h4 ⟨k, rfl, ?_⟩
  cases k with
  | false =>
    rw [if_neg Bool.false_ne_true] at h5 ⊢
    cases h5
    exact fin2.give q.pen.env q.pen.gok (.bl _)
  | true =>
    rw [if_pos rfl] at h5 ⊢
    refine tO_use q.pen.env q.pen.gok h5 fin2.ex fun z ρ3 u G3 H3 Fs3 F3 _ h6 s => ?_
    have fin3 := fin2.step q.pen.gok s.pen
    simp only [Option.map_eq_some_iff] at h6
    obtain ⟨k', h7, h8⟩ := h6
    subst h8
    obtain ⟨Fy', ry'⟩ := q.late s.pen (d' := y) (by cases b <;> first | (cases hb; done) | rfl)
    obtain ⟨Fz, rz⟩ := s.rep'
    exact cmpD_ok ry' rz h7 (fin3.give s.pen.env s.pen.gok (.bl _))
theorem e_idx {a i : E} (h : tD M W (ev Γ (.idx a i)).v σ H Q) : tOp (rIx M.K) (tO M W Γ a) (tO M W Γ i) σ H Q := by
  obtain ⟨ρ, G, Fs, r, e, g, hr, fin⟩ := h
  refine tO_use e g hr fin.ex fun x ρ1 v G1 H1 Fs1 F _ h2 p => ?_
  have fin1 := fin.step g p.pen
  refine tO_use p.pen.env p.pen.gok h2 fin1.ex fun y ρ2 w G2 H2 Fs2 F2 _ h3 q => ?_
  have fin2 := fin1.step p.pen.gok q.pen
  simp only [Option.bind_eq_some_iff, Option.map_eq_some_iff] at h3
  obtain ⟨x', h4, d, h5, h6⟩ := h3
  subst h6
  obtain ⟨Fx, rx⟩ := p.late q.pen h4
  obtain ⟨Fy, ry⟩ := q.rep'
  exact idxD_ok rx ry h5 fun v' r' => fin2.give q.pen.env q.pen.gok r'
/-- a part of a slice -/
def tP (M : Nm) (W : WX) (Γ : Gam) : E → TO
  | .nil => tNoPart
  | a => tPart (tD M W (ev Γ a).v)
theorem e_part {a : E} {Q : Option Int → Hp → Prop} {k : D → Env → Option R} (hb : isBor a = false) (e : EnvOK M G H σ ρ Fs) (g : GOK H G) (h : bindR ((ev Γ a).v ρ) k = some r)
    (hx : ∀ {c : String} {d : D} {ρ' : Env}, r = .ex c d ρ' → ∀ {C dd : Addr} {G' : Addr → Prop} {H' : Hp} {Fs' : Nat → List Addr}, Pex M σ G H (Own Fs) ρ' c d C dd G' H' Fs' → W (.ref C) (some dd) σ H')
    (hd : ∀ d ρ1, k d ρ1 = some r → ∃ o, partD a d = some o)
    (hk : ∀ d o ρ1 G1 H1 Fs1, partD a d = some o → k d ρ1 = some r → Pen M σ G H (Own Fs) ρ1 G1 H1 Fs1 → Q o H1) : tP M W Γ a σ H Q := by
  by_cases hn : a = .nil
  · subst hn
    have h' : k .non ρ = some r := h
    exact hk .non none ρ G H Fs rfl h' (.refl e g)
  · have val : tPart (tD M W (ev Γ a).v) σ H Q := by
      rw [← tO_eq (M := M) (W := W) (Γ := Γ) hb]
      refine tO_use e g h hx fun d ρ1 v G1 H1 Fs1 F h1 h2 p => ?_
      obtain ⟨o, ho⟩ := hd d ρ1 h2
      obtain ⟨F', rp⟩ := p.rep'
      have ho' : ∃ i, d = .int i ∧ o = some i := by
        unfold partD at ho
        split at ho
        · exact absurd rfl hn
        · cases ho; exact ⟨_, rfl, rfl⟩
        · cases ho
      obtain ⟨i, rfl, rfl⟩ := ho'
      cases rp
      exact ⟨i, rfl, hk _ _ _ _ _ _ ho h2 p.pen⟩
    cases a <;> first | exact val | exact absurd rfl hn
theorem e_sl {a lo hi : E} (hl : isBor lo = false) (hh : isBor hi = false) (h : tD M W (ev Γ (.sl a lo hi)).v σ H Q) : tSl (rSl M.K) (tO M W Γ a) (tP M W Γ lo) (tP M W Γ hi) σ H Q := by
  obtain ⟨ρ, G, Fs, r, e, g, hr, fin⟩ := h
  refine tO_use e g hr fin.ex fun x ρ1 v G1 H1 Fs1 F _ h2 p => ?_
  have fin1 := fin.step g p.pen
  refine e_part hl p.pen.env p.pen.gok h2 fin1.ex (fun y ρ2 h3 => ?_) fun y l ρ2 G2 H2 Fs2 hy h3 q => ?_
  · simp only [Option.bind_eq_some_iff] at h3
    obtain ⟨l, h3, _⟩ := h3
    exact ⟨l, h3⟩
  have fin2 := fin1.step p.pen.gok q
  simp only [Option.bind_eq_some_iff] at h3
  obtain ⟨l', hy', h3⟩ := h3
  rw [hy] at hy'; cases hy'
  refine e_part hh q.env q.gok h3 fin2.ex (fun z ρ3 h4 => ?_) fun z u ρ3 G3 H3 Fs3 hz h4 s => ?_
  · simp only [Option.bind_eq_some_iff] at h4
    obtain ⟨_, _, u, h4, _⟩ := h4
    exact ⟨u, h4⟩
  have fin3 := fin2.step q.gok s
  simp only [Option.bind_eq_some_iff, Option.map_eq_some_iff] at h4
  obtain ⟨x', h5, u', h7, d, h8, h9⟩ := h4
  rw [hz] at h7; cases h7
  subst h9
  obtain ⟨Fx, rx⟩ := p.late (q.trans p.pen.gok s) h5
  exact slD_ok rx h8 s.env s.gok fin3
theorem e_and {a b : E} (ha : isBor a = false) (h : tD M W (ev Γ (.and a b)).v σ H Q) : tAndT M.K (tD M W (ev Γ a).v) (tD M W (ev Γ b).v) σ H Q := by
  obtain ⟨ρ, G, Fs, r, e, g, hr, fin⟩ := h
  rcases bindR_some hr with ⟨x, ρ1, h1, h2⟩ | ⟨c, d, ρ1, h1, h2⟩
  · refine ⟨ρ, G, Fs, _, e, g, h1, fun v G1 H1 Fs1 F p => ?_⟩
    simp only [Option.bind_eq_some_iff] at h2
    obtain ⟨k, h3, h4⟩ := h2
    refine ⟨k, truth_ok p.rep h3, ?_⟩
    cases k with
    | true =>
      rw [if_pos rfl] at h4 ⊢
      exact ⟨ρ1, G1, Fs1, r, p.env, p.gok, h4, fin.step g p.pen⟩
    | false =>
      rw [if_neg Bool.false_ne_true] at h4 ⊢
      cases h4
      exact fin v G1 H1 Fs1 F p
  · subst h2
    exact ⟨ρ, G, Fs, _, e, g, h1, fin⟩
theorem e_or {a b : E} (ha : isBor a = false) (h : tD M W (ev Γ (.or a b)).v σ H Q) : tOrT M.K (tD M W (ev Γ a).v) (tD M W (ev Γ b).v) σ H Q := by
  obtain ⟨ρ, G, Fs, r, e, g, hr, fin⟩ := h
  rcases bindR_some hr with ⟨x, ρ1, h1, h2⟩ | ⟨c, d, ρ1, h1, h2⟩
  · refine ⟨ρ, G, Fs, _, e, g, h1, fun v G1 H1 Fs1 F p => ?_⟩
    simp only [Option.bind_eq_some_iff] at h2
    obtain ⟨k, h3, h4⟩ := h2
    refine ⟨k, truth_ok p.rep h3, ?_⟩
    cases k with
    | true =>
      rw [if_pos rfl] at h4 ⊢
      cases h4
      exact fin v G1 H1 Fs1 F p
    | false =>
      rw [if_neg Bool.false_ne_true] at h4 ⊢
      exact ⟨ρ1, G1, Fs1, r, p.env, p.gok, h4, fin.step g p.pen⟩
  · subst h2
    exact ⟨ρ, G, Fs, _, e, g, h1, fin⟩
/-- use of a test's reading -/
theorem tT_use {f : Env → Option R} {Q : Bool → Hp → Prop} {k : D → Env → Option R} (e : EnvOK M G H σ ρ Fs) (g : GOK H G) (hb : bindR (f ρ) k = some r)
    (hx : ∀ {c : String} {d : D} {ρ' : Env}, r = .ex c d ρ' → ∀ {C dd : Addr} {G' : Addr → Prop} {H' : Hp} {Fs' : Nat → List Addr}, Pex M σ G H (Own Fs) ρ' c d C dd G' H' Fs' → W (.ref C) (some dd) σ H')
    (hd : ∀ d ρ1, k d ρ1 = some r → ∃ b, d = .bl b)
    (hk : ∀ b ρ1 G1 H1 Fs1, k (.bl b) ρ1 = some r → Pen M σ G H (Own Fs) ρ1 G1 H1 Fs1 → Q b H1) : tT M W f σ H Q := by
  rcases bindR_some hb with ⟨x, ρ1, h1, h2⟩ | ⟨c, d, ρ1, h1, h2⟩
  · obtain ⟨b, rfl⟩ := hd x ρ1 h2
    exact ⟨ρ, G, Fs, _, e, g, h1, fun G1 H1 Fs1 p => hk b ρ1 G1 H1 Fs1 h2 p⟩
  · exact ⟨ρ, G, Fs, _, e, g, h1, fun C dd G' H' Fs' p => hx h2 p⟩
theorem e_ite {c a b : E} (h : tD M W (ev Γ (.ite c a b)).v σ H Q) : tIf (tT M W (ev Γ c).t) (tD M W (ev Γ a).v) (tD M W (ev Γ b).v) σ H Q := by
  obtain ⟨ρ, G, Fs, r, e, g, hr, fin⟩ := h
  refine tT_use e g hr fin.ex (fun d ρ1 z => ?_) fun k ρ1 G1 H1 Fs1 h2 p => ?_
  · split at z <;> first | exact ⟨_, rfl⟩ | cases z
  · have fin1 := fin.step g p
    cases k with
    | true =>
      rw [if_pos rfl]
      exact ⟨ρ1, G1, Fs1, r, p.env, p.gok, h2, fin1⟩
    | false =>
      rw [if_neg Bool.false_ne_true]
      exact ⟨ρ1, G1, Fs1, r, p.env, p.gok, h2, fin1⟩
theorem e_bi {b : BI} {as : E} (hb : b ≠ .bitlen) (h : tD M W (ev Γ (.bi b as)).v σ H Q) : tCB (rBi M.K b) (tA M W Γ as) σ H Q := by
  obtain ⟨ρ, G, Fs, r, e, g, hr, fin⟩ := h
  refine tA_use e g hr fin.ex (fun _ _ => as_tup as) fun ds ρ1 vs G1 H1 Fs1 F h2 p => ?_
  have fin1 := fin.step g p.pen
  have h2' : (biD b ds).map (fun d => R.ok d ρ1) = some r := h2
  simp only [Option.map_eq_some_iff] at h2'
  obtain ⟨d, h3, h4⟩ := h2'
  subst h4
  obtain ⟨F', rl⟩ := p.rep.repL p.pen.env
  exact biD_ok rl h3 hb p.pen.env p.pen.gok fin1
theorem e_bitlen {a : E} (h : tD M W (ev Γ (.bi .bitlen (.cons a .nil))).v σ H Q) : tBits (tO M W Γ a) σ H Q := by
  obtain ⟨ρ, G, Fs, r, e, g, hr, fin⟩ := h
  have hr' : bindR (bindR ((ev Γ a).v ρ) fun d ρ1 => (late a d ρ1).map fun d' => R.ok (.tup [d']) ρ1) (fun ds ρ => (biD .bitlen (tupOf ds)).map fun d => .ok d ρ) = some r := hr
  have hr2 : bindR ((ev Γ a).v ρ) (fun d ρ1 => bindR ((late a d ρ1).map fun d' => R.ok (.tup [d']) ρ1) (fun ds ρ => (biD .bitlen (tupOf ds)).map fun d => .ok d ρ)) = some r := by
    cases q : (ev Γ a).v ρ with
    | none => rw [q] at hr'; exact hr'
    | some x => rw [q] at hr'; cases x <;> exact hr'
  refine tO_use e g hr2 fin.ex fun x ρ1 v G1 H1 Fs1 F _ h2 p => ?_
  have fin1 := fin.step g p.pen
  rcases bindR_some h2 with ⟨d, ρ2, h3, h4⟩ | ⟨_, _, _, h3, _⟩
  · simp only [Option.map_eq_some_iff] at h3
    obtain ⟨d', h5, h6⟩ := h3
    cases h6
    simp only [Option.map_eq_some_iff] at h4
    obtain ⟨d2, h7, h8⟩ := h4
    subst h8
    obtain ⟨F', rp⟩ := p.here h5
    have h7' : biD .bitlen [d'] = some d2 := h7
    cases rp <;> first | (cases h7'; done) | skip
    cases h7'
    exact ⟨_, rfl, fin1.give p.pen.env p.pen.gok (.int _)⟩
  · simp only [Option.map_eq_some_iff] at h3
    obtain ⟨_, _, h6⟩ := h3
    cases h6
theorem kitAny_ty (K : PySem.W.Frag) (t : Value) (f : Ty → Bool) (h : ∀ T, PySem.W.kitOne K t (.type T.name) = some (f T)) : ∀ ts : List Ty, PySem.W.kitAny K t (ts.map fun T => .type T.name) = some (ts.any f)
  | [] => rfl
  | T :: ts => by
    rw [List.map_cons, List.any_cons]
    refine kitAny_cons (h T) (fun e => ?_) fun e => by rw [e, Bool.true_or]
    rw [e, Bool.false_or]
    exact kitAny_ty K t f h ts
theorem isiD_ok {x d : D} {ts : List Ty} {vx : V} {Fx : List Addr} (hx : Rep M G H vx x Fx) (h : isiD x ts = some d) :
    ∃ t f, d = .bl (ts.any f) ∧ TyX M.K H vx t ∧ ∀ T : Ty, PySem.W.kitOne M.K t (.type T.name) = some (f T) := by
  rcases tyX hx with ⟨t, e, ty⟩ | ⟨rfl, rfl⟩ | n
  · refine ⟨_, fun b => isiT (some t) b, ?_, ty, fun T => kit_ty' _ _ _⟩
    rw [← e]
    cases x <;> first | (cases h; rfl) | cases e
  · cases h
    exact ⟨_, fun _ => false, by rw [List.any_eq_false.mpr fun _ _ => Bool.false_ne_true], .base .non, fun T => kit_none _ _⟩
  · cases x <;> first | exact n.elim | (cases h; done)
def clsA : List Ty → TA
  | [] => tNil
  | T :: ts => tCons (tC (.ty T.name)) (clsA ts)
theorem clsA_ok {σ : St} {H : Hp} : ∀ {ts : List Ty} {Q : List V → Hp → Prop}, Q (ts.map fun T => .ty T.name) H → clsA ts σ H Q
  | [], _, h => h
  | T :: ts, _, h => clsA_ok (ts := ts) (Q := fun vs H1 => _) h
theorem clsV_all : ∀ ts : List Ty, Paired ClsV (ts.map fun T => V.ty T.name) (ts.map fun T => Value.type T.name)
  | [] => .nil
  | T :: ts => .cons (.ty _) (clsV_all ts)
theorem e_isi1 {a : E} {T : Ty} (h : tD M W (ev Γ (.isi a [T])).v σ H Q) : tCB (rIsi M.K) (tCons (tO M W Γ a) (tCons (tC (.ty T.name)) tNil)) σ H Q := by
  obtain ⟨ρ, G, Fs, r, e, g, hr, fin⟩ := h
  refine tO_use e g hr fin.ex fun x ρ1 v G1 H1 Fs1 F _ h2 p => ?_
  have fin1 := fin.step g p.pen
  simp only [Option.map_eq_some_iff] at h2
  obtain ⟨d, h3, h4⟩ := h2
  subst h4
  obtain ⟨F', rp⟩ := p.rep'
  obtain ⟨t, f, rfl, ty, k⟩ := isiD_ok rp h3
  refine ⟨v, _, t, _, _, rfl, .ty _, ty, k T, ?_⟩
  rw [List.any_cons, List.any_nil, Bool.or_false] at fin1
  exact fin1.give p.pen.env p.pen.gok (.bl _)
theorem e_isiT {a : E} {ts : List Ty} (hz : ts.length ≤ 100) (h : tD M W (ev Γ (.isi a ts)).v σ H Q) : tCB (rIsiT M.K) (tCons (tO M W Γ a) (tCons (tTup (clsA ts)) tNil)) σ H Q := by
  obtain ⟨ρ, G, Fs, r, e, g, hr, fin⟩ := h
  refine tO_use e g hr fin.ex fun x ρ1 v G1 H1 Fs1 F _ h2 p => ?_
  have fin1 := fin.step g p.pen
  simp only [Option.map_eq_some_iff] at h2
  obtain ⟨d, h3, h4⟩ := h2
  subst h4
  refine clsA_ok ⟨by rw [List.length_map, sizeLine_eq]; omega, fun q hq => ?_⟩
  have e' : EnvOK M G1 (upd H1 q (.tup (ts.map fun T => V.ty T.name))) σ ρ1 Fs1 := new_env p.pen.gok p.pen.env hq
  have g' : GOK (upd H1 q (.tup (ts.map fun T => V.ty T.name))) G1 := new_gok p.pen.gok hq
  have pen' : Pen M σ G H (Own Fs) ρ1 G1 (upd H1 q (.tup (ts.map fun T => V.ty T.name))) Fs1 := ⟨e', g', p.pen.stp.trans g (new_stp (O := fun _ => False) hq) fun _ z => z.elim, p.pen.own⟩
  have pen1 : Pen M σ G1 H1 (Own Fs1) ρ1 G1 (upd H1 q (.tup (ts.map fun T => V.ty T.name))) Fs1 := ⟨e', g', new_stp hq, fun _ z => .inl z⟩
  obtain ⟨F', rp⟩ := p.late (d' := x) pen1 (by
    cases a with
    | bor i => exact (p.bor i rfl).2.1
    | _ => rfl)
  obtain ⟨t, f, rfl, ty, k⟩ := isiD_ok rp h3
  exact ⟨v, q, _, t, _, _, rfl, upd_same, clsV_all ts, ty, kitAny_ty _ _ _ k ts, (fin.step g pen').give e' g' (.bl _)⟩
theorem e_lrg {a : E} (h : tD M W (ev Γ (.lrg a)).v σ H Q) : tLstRg (tRg1 (tO M W Γ a)) σ H Q := by
  obtain ⟨ρ, G, Fs, r, e, g, hr, fin⟩ := h
  refine tO_use e g hr fin.ex fun x ρ1 v G1 H1 Fs1 F _ h2 p => ?_
  have fin1 := fin.step g p.pen
  split at h2
  · split at h2
    · rename_i hc
      simp only [Bool.and_eq_true, decide_eq_true_eq] at hc
      cases h2
      obtain ⟨F', rp⟩ := p.rep'
      cases rp
      have hz : (sizeLine : Nat) = 16777216 := sizeLine_eq
      refine ⟨_, rfl, ⟨by omega, by omega, by omega, by omega, by omega⟩, fun q hq => ?_⟩
      have rl : ∀ (l : List Nat) (b : Int), RepL M G1 H1 (l.map fun i => V.int (b + (i : Nat))) (l.map fun k => D.int (b + (k : Nat))) [] := by
        intro l b
        induction l with
        | nil => exact .nil
        | cons i l ih => exact .cons (F := []) (Fs := []) (.int _) ih
      exact fin1.newLst p.pen.env p.pen.gok (rl _ 0) (fun _ z => (nomatch z)) .nil (fun _ z => (nomatch z)) hq
    · cases h2
  · cases h2
/-- a slot's own list is set anew -/
theorem EnvOK.own0 {i : Nat} {xs : List D} (e : EnvOK M G H σ ρ Fs) (h : slot ρ i = some (.lst true xs)) : ∃ a vs F0, σ[i]? = some (some (.ref a)) ∧ H a = some (.lst vs) ∧ G a ∧ RepL M G H vs xs F0 ∧ Fs i = a :: F0 := by
  obtain ⟨v, e1, r⟩ := e.at_ i _ (slot_some h)
  generalize hF : Fs i = Fi at r
  cases r with
  | lstO ea ga ra => exact ⟨_, _, _, e1, ea, ga, ra, rfl⟩
theorem upd_at {p b : Addr} {o u : HO} (n : b ≠ p) (e : H b = some o) : upd H p u b = some o := by
  rw [upd_ne n]; exact e
/-- .. with another content (new things from F, old things from F0) -/
theorem EnvOK.relst {i : Nat} {xs ys : List D} {a : Addr} {vs ws : List V} {F0 F1 : List Addr} (g : GOK H G) (e : EnvOK M G H σ ρ Fs) (h : slot ρ i = some (.lst true xs)) (h1 : σ[i]? = some (some (.ref a))) (ha : H a = some (.lst vs)) (ga : G a) (hF : Fs i = a :: F0)
    (r : RepL M G H ws ys F1) (na : a ∉ F1) (nd : F1.Nodup) (dj : ∀ b ∈ F1, ∀ j, j ≠ i → b ∉ Fs j) :
    EnvOK M G (upd H a (.lst ws)) σ (ρ.set i (some (.lst true ys))) (upF Fs i (a :: F1)) ∧ GOK (upd H a (.lst ws)) G ∧ Stp G H (Own Fs) G (upd H a (.lst ws)) := by
  have own : Own Fs a := ⟨i, by rw [hF]; exact List.mem_cons_self⟩
  have g' : GOK (upd H a (.lst ws)) G := fun b z => by
    by_cases q : b = a
    · rw [q]; exact ⟨_, upd_same⟩
    · exact let ⟨xs, e⟩ := g b z; ⟨xs, upd_at q e⟩
  have kp : ∀ F, (∀ b ∈ F, G b) → a ∉ F → Kp G H G (upd H a (.lst ws)) F := fun F hf n => ⟨fun b o e z => upd_at (fun q => by
      subst q
      exact z.elim (fun z => z ga) n) e, fun _ _ _ n => n, hf⟩
  have st : Stp G H (Own Fs) G (upd H a (.lst ws)) := ⟨fun b o e n => upd_at (fun q => n (by rw [q]; exact own)) e, fun b o e => by
    by_cases q : b = a
    · rw [q]; exact ⟨_, upd_same⟩
    · exact ⟨o, upd_at q e⟩, fun _ z _ => z, fun _ z => .inl z⟩
  refine ⟨?_, g', st⟩
  have c := (e.clear i).mono g fun j => kp _ (fun b z => (e.clear i).own ⟨j, z⟩) fun z => by
    rcases own_up ⟨j, z⟩ with q | ⟨l, hl, q⟩
    · cases q
    · exact e.dj i l a (Ne.symm hl) (by rw [hF]; exact List.mem_cons_self) q
  have p := c.put (v := .ref a) (d := .lst true ys) (F := a :: F1) i (.lstO upd_same ga (r.mono g (kp _ r.own na))) (List.nodup_cons.mpr ⟨na, nd⟩) fun b z j hj w => by
    unfold upF at w
    rw [if_neg hj] at w
    rcases List.mem_cons.mp z with z | z
    · exact e.dj i j b (Ne.symm hj) (by rw [hF, z]; exact List.mem_cons_self) w
    · exact dj b z j hj w
  rw [if_pos (by rw [List.length_set]; exact (List.getElem?_eq_some_iff.mp (slot_some h)).1), List.set_getElem?_eq h1, List.set_set] at p
  have e2 : upF (upF Fs i []) i (a :: F1) = upF Fs i (a :: F1) := by funext j; unfold upF; split <;> rfl
  rw [e2] at p
  exact p
theorem slot_lt {i : Nat} {d : D} (h : slot ρ i = some d) : i < ρ.length := (List.getElem?_eq_some_iff.mp (slot_some h)).1
theorem RepL.erase0 {vs : List V} {ds : List D} (k : Nat) (h : RepL M G H vs ds []) : RepL M G H (vs.eraseIdx k) (ds.eraseIdx k) [] := by
  rw [List.eraseIdx_eq_take_drop_succ, List.eraseIdx_eq_take_drop_succ]
  exact (h.take0 k).app0 (h.drop0 (k + 1))
theorem EnvOK.nodupF {i : Nat} {a : Addr} {F0 : List Addr} (e : EnvOK M G H σ ρ Fs) (h : Fs i = a :: F0) : a ∉ F0 ∧ F0.Nodup := by
  have := e.nd i
  rw [h] at this
  exact List.nodup_cons.mp this
theorem e_pop {i : Nat} {a : E} (hb : isBor a = false) (h : tD M W (ev Γ (.pop i a)).v σ H Q) : tBM M.K "list" rPopAt (tVar i) (tCons (tD M W (ev Γ a).v) tNil) σ H Q := by
  obtain ⟨ρ, G, Fs, r, e, g, hr, fin⟩ := h
  have hr' : (match slot ρ i with
    | some (.lst true _) => bindR ((ev Γ a).v ρ) fun y ρ => (match slot ρ i, y with
      | some (.lst true xs), .int k => if D.pures xs && small k then
          (seqIndex? k xs.length).bind fun j => (xs[j]?).map fun d => R.ok d (ρ.set i (some (.lst true (xs.eraseIdx j))))
        else none
      | _, _ => none)
    | _ => none) = some r := hr
  split at hr'
  · rename_i xs0 hs0
    obtain ⟨p0, vs0, F00, e1, ea0, _, _, _⟩ := e.own0 hs0
    refine ⟨.ref p0, e1, .inl ⟨rfl, vs0, .of ea0⟩, ?_⟩
    rw [← tO_eq (M := M) (W := W) (Γ := Γ) hb]
    refine tO_use e g hr' fin.ex fun y ρ1 v G1 H1 Fs1 F _ h2 p => ?_
    split at h2
    · rename_i xs k hs _
      split at h2
      · rename_i hc
        simp only [small, Bool.and_eq_true, decide_eq_true_eq] at hc
        simp only [Option.bind_eq_some_iff, Option.map_eq_some_iff] at h2
        obtain ⟨j, h3, d, h4, h5⟩ := h2
        subst h5
        obtain ⟨q, vs, F0, e2, ea, ga, ra, hF⟩ := p.pen.env.own0 hs
        rw [e1] at e2; cases e2
        have := ra.pure hc.1
        subst this
        obtain ⟨F', rp⟩ := p.rep'
        cases rp
        obtain ⟨v, h6, rv⟩ := RepL.get xs vs j d ra h4
        refine ⟨p0, vs, k, j, v, rfl, rfl, ea, by omega, by omega, by rw [ra.length]; exact h3, h6, ?_⟩
        obtain ⟨e', g', st⟩ := p.pen.env.relst p.pen.gok hs e1 ea ga hF (ra.erase0 j) (fun z => (nomatch z)) .nil (fun _ z => (nomatch z))
        have fin1 := fin.step g p.pen
        exact fin1 v G1 _ _ [] ⟨e', g', st, rv.mono p.pen.gok ⟨fun b o q z => upd_at (fun w => by
            subst w
            exact z.elim (fun z => z ga) fun z => (nomatch z)) q, fun _ _ _ n => n, fun _ z => (nomatch z)⟩, fun b z => .inl (z.elim (fun w => nomatch w) fun z => by
            rcases own_up z with z | ⟨l, _, z⟩
            · rcases List.mem_cons.mp z with z | z
              · exact ⟨i, by rw [hF, z]; exact List.mem_cons_self⟩
              · cases z
            · exact ⟨l, z⟩), .nil, fun _ z => (nomatch z)⟩
      · cases h2
    · cases h2
  · cases hr'
theorem e_pop0 {i : Nat} (h : tD M W (ev Γ (.pop0 i)).v σ H Q) : tBM0 M.K "list" rPop (tVar i) σ H Q := by
  obtain ⟨ρ, G, Fs, r, e, g, hr, fin⟩ := h
  have hr' : (match slot ρ i with
    | some (.lst true xs) => if D.pures xs then (xs[xs.length - 1]?).map fun d => R.ok d (ρ.set i (some (.lst true xs.dropLast))) else none
    | _ => none) = some r := hr
  split at hr'
  · rename_i xs hs
    split at hr'
    · rename_i hc
      simp only [Option.map_eq_some_iff] at hr'
      obtain ⟨d, h4, h5⟩ := hr'
      subst h5
      obtain ⟨p0, vs, F0, e1, ea, ga, ra, hF⟩ := e.own0 hs
      have := ra.pure hc
      subst this
      obtain ⟨v, h6, rv⟩ := RepL.get xs vs _ d ra h4
      refine ⟨.ref p0, e1, .inl ⟨rfl, vs, .of ea⟩, p0, vs, v, rfl, rfl, ea, by rw [ra.length]; exact h6, ?_⟩
      have rd : RepL M G H vs.dropLast xs.dropLast [] := by
        rw [List.dropLast_eq_take, List.dropLast_eq_take, ra.length]
        exact ra.take0 _
      obtain ⟨e', g', st⟩ := e.relst g hs e1 ea ga hF rd (fun z => (nomatch z)) .nil (fun _ z => (nomatch z))
      exact fin v G _ _ [] ⟨e', g', st, rv.mono g ⟨fun b o q z => upd_at (fun w => by
            subst w
            exact z.elim (fun z => z ga) fun z => (nomatch z)) q, fun _ _ _ n => n, fun _ z => (nomatch z)⟩, fun b z => .inl (z.elim (fun w => nomatch w) fun z => by
            rcases own_up z with z | ⟨l, _, z⟩
            · rcases List.mem_cons.mp z with z | z
              · exact ⟨i, by rw [hF, z]; exact List.mem_cons_self⟩
              · cases z
            · exact ⟨l, z⟩), .nil, fun _ z => (nomatch z)⟩
    · cases hr'
  · cases hr'
end
end VI

set_option maxHeartbeats 1000000
set_option synthInstance.maxSize 128
set_option synthInstance.maxHeartbeats 20000
namespace VI
open PySem L2
section
variable {M : Nm} {W : WX} {Γ : Gam} {σ : St} {ρ ρ' ρ1 : Env} {G G' G1 : Addr → Prop} {H H' H1 : Hp} {Fs Fs' Fs1 : Nat → List Addr} {O : Addr → Prop} {r : R} {Q : VK}
/-! ### tests -/
def truthR (f : Env → Option R) : Env → Option R := fun ρ => bindR (f ρ) fun d ρ => (truth d).map fun b => .ok (.bl b) ρ
theorem FinT.ex' {Q : Bool → Hp → Prop} (f : FinT M W σ Q G H O r) : ∀ {c : String} {d : D} {ρ' : Env}, r = .ex c d ρ' → ∀ {C dd : Addr} {G' : Addr → Prop} {H' : Hp} {Fs' : Nat → List Addr}, Pex M σ G H O ρ' c d C dd G' H' Fs' → W (.ref C) (some dd) σ H' := fun e => by
  subst e; exact fun {_ _ _ _ _} p => f _ _ _ _ _ p
theorem t_truth {a : E} {Q : Bool → Hp → Prop} (h : tT M W (truthR (ev Γ a).v) σ H Q) : tO M W Γ a σ H fun x H' => ∃ k, TruV M.K x H' k ∧ Q k H' := by
  obtain ⟨ρ, G, Fs, r, e, g, hr, fin⟩ := h
  refine tO_use e g hr fin.ex' fun x ρ1 v G1 H1 Fs1 F _ h2 p => ?_
  simp only [Option.map_eq_some_iff] at h2
  obtain ⟨k, h3, h4⟩ := h2
  subst h4
  obtain ⟨Fx, rx⟩ := p.rep'
  exact ⟨k, truth_ok rx h3, fin _ _ _ p.pen⟩
theorem t_bool {f : Env → Option R} {Q : Bool → Hp → Prop} (hb : ∀ ρ d ρ', f ρ = some (.ok d ρ') → ∃ b, d = .bl b) (h : tT M W (truthR f) σ H Q) : tD M W f σ H fun x H' => ∃ k, x = .bl k ∧ Q k H' := by
  obtain ⟨ρ, G, Fs, r, e, g, hr, fin⟩ := h
  rcases bindR_some hr with ⟨x, ρ1, h1, h2⟩ | ⟨c, d, ρ1, h1, h2⟩
  · obtain ⟨b, rfl⟩ := hb _ _ _ h1
    cases h2
    refine ⟨ρ, G, Fs, _, e, g, h1, fun v G' H' Fs' F p => ?_⟩
    have rp := p.rep
    cases rp
    exact ⟨b, rfl, fin _ _ _ p.pen⟩
  · subst h2
    exact ⟨ρ, G, Fs, _, e, g, h1, fun C dd G' H' Fs' p => fin C dd G' H' Fs' p⟩
theorem cmp_bool {op : CmpOp} {a b : E} : ∀ ρ d ρ', (ev Γ (.cmp op a b)).v ρ = some (.ok d ρ') → ∃ k, d = .bl k := fun ρ d ρ' h => by
  have h : bindR ((ev Γ a).v ρ) (fun x ρ1 => bindR ((ev Γ b).v ρ1) fun y ρ2 => (late a x ρ2).bind fun x => (cmpD op x y).map fun k => R.ok (.bl k) ρ2) = some (.ok d ρ') := h
  rcases bindR_some h with ⟨x, ρ1, h1, h2⟩ | ⟨c, d, ρ1, h1, h2⟩
  · rcases bindR_some h2 with ⟨y, ρ2, h3, h4⟩ | ⟨c, d, ρ2, h3, h4⟩
    · simp only [Option.bind_eq_some_iff, Option.map_eq_some_iff] at h4
      obtain ⟨_, _, k, _, h6⟩ := h4
      cases h6; exact ⟨k, rfl⟩
    · cases h4
  · cases h2
theorem cmp2_bool {o1 o2 : CmpOp} {a b c : E} : ∀ ρ d ρ', (ev Γ (.cmp2 o1 o2 a b c)).v ρ = some (.ok d ρ') → ∃ k, d = .bl k := fun ρ d ρ' h => by
  have h : bindR ((ev Γ a).v ρ) (fun x ρ1 => bindR ((ev Γ b).v ρ1) fun y ρ2 =>
      (cmpD o1 x y).bind fun k => if k then bindR ((ev Γ c).v ρ2) fun z ρ3 => (cmpD o2 y z).map fun k => R.ok (.bl k) ρ3 else some (.ok (.bl false) ρ2)) = some (.ok d ρ') := h
  rcases bindR_some h with ⟨x, ρ1, h1, h2⟩ | ⟨c, d, ρ1, h1, h2⟩
  · rcases bindR_some h2 with ⟨y, ρ2, h3, h4⟩ | ⟨c, d, ρ2, h3, h4⟩
    · simp only [Option.bind_eq_some_iff] at h4
      obtain ⟨k, _, h6⟩ := h4
      cases k
      · cases h6; exact ⟨false, rfl⟩
      · rcases bindR_some h6 with ⟨z, ρ3, h7, h8⟩ | ⟨c, d, ρ3, h7, h8⟩
        · simp only [Option.map_eq_some_iff] at h8
          obtain ⟨k, _, h6⟩ := h8
          cases h6; exact ⟨k, rfl⟩
        · cases h8
    · cases h4
  · cases h2
theorem t_and {a b : E} {Q : Bool → Hp → Prop} (h : tT M W (ev Γ (.and a b)).t σ H Q) : tAnd (tT M W (ev Γ a).t) (tT M W (ev Γ b).t) σ H Q := by
  obtain ⟨ρ, G, Fs, r, e, g, hr, fin⟩ := h
  refine tT_use e g hr fin.ex' (fun d ρ1 z => ?_) fun k ρ1 G1 H1 Fs1 h2 p => ?_
  · split at z <;> first | exact ⟨_, rfl⟩ | cases z
  · cases k with
    | true =>
      rw [if_pos rfl]
      exact ⟨ρ1, G1, Fs1, r, p.env, p.gok, h2, fin.step g p⟩
    | false =>
      rw [if_neg Bool.false_ne_true]
      cases h2
      exact fin _ _ _ p
theorem t_or {a b : E} {Q : Bool → Hp → Prop} (h : tT M W (ev Γ (.or a b)).t σ H Q) : tOr (tT M W (ev Γ a).t) (tT M W (ev Γ b).t) σ H Q := by
  obtain ⟨ρ, G, Fs, r, e, g, hr, fin⟩ := h
  refine tT_use e g hr fin.ex' (fun d ρ1 z => ?_) fun k ρ1 G1 H1 Fs1 h2 p => ?_
  · split at z <;> first | exact ⟨_, rfl⟩ | cases z
  · cases k with
    | true =>
      rw [if_pos rfl]
      cases h2
      exact fin _ _ _ p
    | false =>
      rw [if_neg Bool.false_ne_true]
      exact ⟨ρ1, G1, Fs1, r, p.env, p.gok, h2, fin.step g p⟩
theorem t_not {a : E} {Q : Bool → Hp → Prop} (h : tT M W (ev Γ (.not a)).t σ H Q) : tNot (tT M W (ev Γ a).t) σ H Q := by
  obtain ⟨ρ, G, Fs, r, e, g, hr, fin⟩ := h
  refine tT_use e g hr fin.ex' (fun d ρ1 z => ?_) fun k ρ1 G1 H1 Fs1 h2 p => ?_
  · split at z <;> first | exact ⟨_, rfl⟩ | cases z
  · cases h2
    exact fin _ _ _ p
/-! ### keyword calls -/
def lenE : E → Nat
  | .cons _ r => lenE r + 1
  | _ => 0
theorem as_len : ∀ (as : E) {ρ : Env} {ds : List D} {ρ1 : Env}, (ev Γ as).as ρ = some (.ok (.tup ds) ρ1) → ds.length = lenE as := by
  intro as
  induction as with
  | nil => intro ρ ds ρ1 h; cases h; rfl
  | cons a b _ ih =>
    intro ρ ds ρ1 h
    have h' : bindR ((ev Γ a).v ρ) (fun d ρ1 => bindR ((ev Γ b).as ρ1) fun ds ρ2 => (late a d ρ2).map fun d' => R.ok (.tup (d' :: tupOf ds)) ρ2) = some (.ok (.tup ds) ρ1) := h
    rcases bindR_some h' with ⟨d1, ρ2, h1, h2⟩ | ⟨_, _, _, _, h2⟩
    · rcases bindR_some h2 with ⟨d3, ρ3, h3, h4⟩ | ⟨_, _, _, _, h4⟩
      · simp only [Option.map_eq_some_iff] at h4
        obtain ⟨_, _, h5⟩ := h4
        cases h5
        obtain ⟨es, rfl⟩ := as_tup b h3
        show es.length + 1 = lenE b + 1
        rw [ih h3]
      · cases h4
    · cases h2
  | _ => intro ρ ds ρ1 h; cases h
theorem RepL.perm {vs : List V} {ds : List D} (h : RepL M G H vs ds []) : ∀ (perm : List Nat) (ws : List D), permD ds perm = some ws → RepL M G H (perm.filterMap fun i => vs[i]?) ws []
  | [], ws, e => by cases e; exact .nil
  | i :: p, ws, e => by
    have e' : ((ds[i]?).bind fun d => (permD ds p).map (d :: ·)) = some ws := e
    simp only [Option.bind_eq_some_iff, Option.map_eq_some_iff] at e'
    obtain ⟨d, h1, us, h2, h3⟩ := e'
    subst h3
    obtain ⟨v, hv, rv⟩ := RepL.get ds vs i d h h1
    simp only [List.filterMap_cons, hv]
    exact .cons (F := []) (Fs := []) rv (RepL.perm h p us h2)
theorem Pen.noF {G2 : Addr → Prop} {H2 : Hp} {ρ2 : Env} {Fs2 : Nat → List Addr} (e : EnvOK M G H σ ρ Fs) (g : GOK H G) (p : Pen M σ G H (Own Fs) ρ2 G2 H2 Fs2) : Kp G H G2 H2 [] := p.stp.kp g (fun b o => e.own o) fun _ z => (nomatch z)
theorem tClK_ok {f : String} {fn : Fn} {as ks : E} {names : List String} {perm : List Nat} {np nk : Nat} {Q : VK} (hio : fn.io = false) (hl : ∀ ds r, Γ f ds = some r → ds.length = fn.ps.length) (h1 : lenE as = np) (h2 : lenE ks = nk)
    (h : tD M W (ev Γ (.callk f names perm as ks)).v σ H Q) : tClK (spG M Γ f fn) W np nk perm (tA M W Γ as) (tA M W Γ ks) σ H Q := by
  obtain ⟨ρ, G, Fs, r, e, g, hr, fin⟩ := h
  have hr' : bindR ((ev Γ as).as ρ) (fun ds ρ => bindR ((ev Γ ks).as ρ) fun es ρ =>
      if D.pures (tupOf ds) && D.pures (tupOf es) then (permD (tupOf ds ++ tupOf es) perm).bind fun vs => afterCall false (Γ f vs) (fun d _ => some (.ok d ρ)) ρ else none) = some r := hr
  have use : ∀ d ρ1, (ev Γ as).as ρ = some (.ok d ρ1) → ∃ ds, d = .tup ds := fun _ _ => as_tup as
  by_cases hq : ∃ d ρ1, (ev Γ as).as ρ = some (.ok d ρ1)
  · obtain ⟨d, ρ1, hd⟩ := hq
    obtain ⟨ds, rfl⟩ := as_tup as hd
    refine ⟨ρ, G, Fs, _, e, g, hd, fun vs G1 H1 Fs1 F p => ?_⟩
    rw [hd] at hr'
    have fin1 := fin.step g p.pen
    have hr2 : bindR ((ev Γ ks).as ρ1) (fun es ρ =>
      if D.pures ds && D.pures (tupOf es) then (permD (ds ++ tupOf es) perm).bind fun vs => afterCall false (Γ f vs) (fun d _ => some (.ok d ρ)) ρ else none) = some r := hr'
    rcases bindR_some hr2 with ⟨d2, ρ2, h3, h4⟩ | ⟨c, d2, ρ2, h3, h4⟩
    · obtain ⟨es, rfl⟩ := as_tup ks h3
      refine ⟨ρ1, G1, Fs1, _, p.pen.env, p.pen.gok, h3, fun zs G2 H2 Fs2 F2 q => ?_⟩
      have fin2 := fin1.step p.pen.gok q.pen
      have h4' : (if (D.pures ds && D.pures es) = true then (permD (ds ++ es) perm).bind fun vs => afterCall false (Γ f vs) (fun d _ => some (R.ok d ρ2)) ρ2 else none) = some r := h4
      split at h4'
      · rename_i hc
        have hc := Bool.and_eq_true_iff.mp hc
        simp only [Option.bind_eq_some_iff] at h4'
        obtain ⟨ws, h5, h6⟩ := h4'
        obtain ⟨Fa, ra⟩ := p.rep.repL p.pen.env
        obtain ⟨Fb, rb⟩ := q.rep.repL q.pen.env
        have := ra.pure hc.1; subst this
        have := rb.pure hc.2; subst this
        have rl := ((ra.mono p.pen.gok (q.pen.noF p.pen.env p.pen.gok)).app0 rb).perm perm ws h5
        refine ⟨by rw [ra.length, as_len as hd, h1], by rw [rb.length, as_len ks h3, h2], ?_⟩
        have pe : Pen M σ G2 H2 (Own Fs2) ρ2 G2 H2 Fs2 := .refl q.pen.env q.pen.gok
        have key : ∀ {G3 : Addr → Prop} {H3 : Hp}, GOK H3 G3 → Stp G2 H2 (· ∈ ([] : List Addr)) G3 H3 → Pen M σ G2 H2 (Own Fs2) ρ2 G3 H3 Fs2 := fun {G3 H3} g3 st => by
          have st' : Stp (drop G2 []) H2 (· ∈ ([] : List Addr)) G3 H3 := by
            have e0 : drop G2 [] = G2 := by funext a; unfold drop; simp
            rw [e0]; exact st
          have z := back_pen (Fb := []) (Fc := []) q.pen.gok pe (fun _ z => nomatch z) (fun _ z => nomatch z) (fun _ z => nomatch z) (fun _ z => nomatch z) g3 st'
          have e1 : back G3 [] = G3 := by funext a; unfold back; simp
          rw [e1] at z; exact z
        rcases afterCall_some h6 with ⟨d, io, h7, h8, _⟩ | ⟨c, d, h7, h8, _⟩
        · refine ⟨G2, ws, [], _, q.pen.gok, rl, .nil, rl.length.trans (hl _ _ h7), h7, fun v G3 H3 F3 po _ => ?_⟩
          cases h8
          have pen := key po.gok po.stp
          refine fin2 v G3 H3 Fs2 F3 ⟨pen.env, pen.gok, pen.stp, po.rep, fun b z => ?_, po.nd, fun b z w => ?_⟩
          · rcases z with z | z
            · exact (po.own b z).elim (fun w => nomatch w) .inr
            · exact pen.own b z
          · rcases po.own b z with u | u
            · cases u
            · obtain ⟨xs, e⟩ := q.pen.gok b (q.pen.env.own w)
              rw [u] at e; cases e
        · refine ⟨G2, ws, [], _, q.pen.gok, rl, .nil, rl.length.trans (hl _ _ h7), h7, fun C dd G3 H3 po => ?_⟩
          have pen := key po.gok po.stp
          exact fin2.ex h8 ⟨pen.env, pen.gok, pen.stp, po.cl, po.fld, pen.own⟩
      · cases h4'
    · exact ⟨ρ1, G1, Fs1, _, p.pen.env, p.pen.gok, h3, fun C dd G' H' Fs' q => fin1.ex h4 q⟩
  · rcases bindR_some hr' with ⟨d, ρ1, h3, h4⟩ | ⟨c, d2, ρ2, h3, h4⟩
    · exact absurd ⟨_, _, h3⟩ hq
    · exact ⟨ρ, G, Fs, _, e, g, h3, fun C dd G' H' Fs' q => fin.ex h4 q⟩
end
end VI

set_option maxHeartbeats 1000000
set_option synthInstance.maxSize 128
set_option synthInstance.maxHeartbeats 20000
namespace VI
open PySem L2
/-- the text's fixed facts -/
structure Cf where
  N : List Str
  gi : List (String × Int)
  cls : List String
  fns : List (String × Bool)
  kws : List (String × List String × Nat × List Nat)
  exs : List String := []
  cm : Bool := true
  cv : Bool := true
  io : Bool := false
structure Mt where
  v : Expr → Bool
  t : Expr → Bool
  as : List Expr → Bool
  ks : List Keyword → Bool
  it : Expr → Expr → Bool
def gl (sc : Scope) (x : Str) : Bool := decide (sc.names.lookup x = some .globalImplicit)
def vis (sc : Scope) (x : Str) : Bool := match sc.names.lookup x with
  | some .local => true
  | some .cell => true
  | some .free => true
  | _ => false
def okNm (x : Str) : Bool := (x == ("__debug__" : Str)) == false && (x == ("__classdict__" : Str)) == false
def plT : Expr → Bool
  | .Name _ _ => true
  | .Call _ _ _ _ => true
  | .Subscript _ _ _ => true
  | .BinOp _ _ _ _ => true
  | .Constant _ _ _ => true
  | .Attribute _ _ _ => true
  | _ => false
def plIx : Expr → Bool
  | .Slice _ _ _ _ => false
  | _ => true
def noSet : Expr → Bool
  | .Set _ _ _ => false
  | _ => true
def mkM (v : Expr → Bool) : Mt := ⟨v, fun e => plT e && v e, fun _ => false, fun _ => false, fun _ e => noSet e && v e⟩
def mkV0 (v : Expr → Bool) : Mt := ⟨v, fun _ => false, fun _ => false, fun _ => false, fun _ e => noSet e && v e⟩
def nameIs (x : Str) (f : String) : Bool := x == (Str.ofString f)
/-- targets -/
def mtG (N : List Str) (cm : Bool) (sc sco : Scope) : Tg → (Expr → Bool) × (List Expr → Bool)
  | .n i => (fun e => match e with
    | .Name x _ => decide (N[i]? = some x) && (decide (sc.names.lookup x = some .local) || (decide (sc.names.lookup x = some .cell) && decide (sco.names.lookup x = some .cell)))
    | _ => false, fun _ => false)
  | .t ts => (fun e => match e with
    | .Tuple es _ _ => cm && (mtG N cm sc sco ts).2 es
    | _ => false, fun _ => false)
  | .nil => (fun _ => false, fun es => es.isEmpty)
  | .cons h r => (fun _ => false, fun es => match es with
    | e :: es => (mtG N cm sc sco h).1 e && (mtG N cm sc sco r).2 es
    | [] => false)
def isTrueE : E → Bool
  | .bl true => true
  | _ => false
def isTupE : Expr → Bool
  | .Tuple _ _ _ => true
  | _ => false
def sl1 (lo : E) (m : Expr → Bool) : Option Expr → Bool
  | none => (match lo with | .nil => true | _ => false)
  | some e => (match lo with | .nil => false | _ => true) && m e
def mt (cf : Cf) : E → Scope → Scope → Mt
  | .non, _, _ => mkM fun e => match e with | .Constant .none _ _ => true | _ => false
  | .bl b, _, _ => mkM fun e => match e with | .Constant (.bool c) _ _ => b == c | _ => false
  | .int i, _, _ => mkM fun e => match e with | .Constant (.int j) _ _ => decide (i = j) | _ => false
  | .str s, _, _ => mkM fun e => match e with | .Constant (.str z) _ _ => decide (s = z) | _ => false
  | .var i, sc, _ => mkM fun e => match e with | .Name x _ => decide (cf.N[i]? = some x) && vis sc x && okNm x | _ => false
  | .mov i, sc, _ => mkM fun e => match e with | .Name x _ => decide (cf.N[i]? = some x) && vis sc x && okNm x | _ => false
  | .bor i, sc, _ => mkM fun e => match e with | .Name x _ => decide (cf.N[i]? = some x) && vis sc x && okNm x | _ => false
  | .fzs i, sc, _ => mkM fun e => match e with | .Name x _ => decide (cf.N[i]? = some x) && vis sc x && okNm x | _ => false
  | .gi c i, sc, _ => mkM fun e => match e with | .Name x _ => nameIs x c && gl sc x && okNm x && decide (cf.gi.lookup c = some i) | _ => false
  | .fn f, sc, _ => mkM fun e => match e with | .Name x _ => nameIs x f && gl sc x && okNm x && decide (cf.fns.lookup f = some false) | _ => false
  | .cls c, sc, _ => mkM fun e => match e with | .Name x _ => nameIs x c && gl sc x && okNm x && decide (c ∈ cf.cls) | _ => false
  | .frz a, sc, so => mkV0 fun e => !isBor a && (mt cf a sc so).v e
  | .frzi a, sc, so => mkV0 fun e => !isBor a && (mt cf a sc so).v e
  | .nil, _, _ => { mkM (fun _ => false) with as := fun es => es.isEmpty, ks := fun es => es.isEmpty }
  | .cons h r, sc, so => { mkM (fun _ => false) with
      as := fun es => match es with
        | e :: es => notStar e && (mt cf h sc so).v e && (mt cf r sc so).as es
        | [] => false
      ks := fun es => match es with
        | ⟨_, e, _⟩ :: es => (mt cf h sc so).v e && (mt cf r sc so).ks es
        | [] => false }
  | .tup es, sc, so => mkM fun e => match e with | .Tuple xs _ _ => (borsOf es).isEmpty && (mt cf es sc so).as xs | _ => false
  | .lst es, sc, so => mkM fun e => match e with | .List xs _ => (borsOf es).isEmpty && (mt cf es sc so).as xs | _ => false
  | .edic, _, _ => mkM fun e => match e with | .Dict [] [] _ => true | _ => false
  | .bin op a b, sc, so => mkM fun e => match e with | .BinOp x o y _ => decide (op = o) && (mt cf a sc so).v x && (mt cf b sc so).v y | _ => false
  | .neg a, sc, so => mkM fun e => match e with | .UnaryOp .USub x _ => (mt cf a sc so).v x | _ => false
  | .not a, sc, so => { mkV0 (fun e => match e with | .UnaryOp .Not x _ => (mt cf a sc so).v x | _ => false) with
      t := fun e => match e with | .UnaryOp .Not x _ => (mt cf a sc so).t x | _ => false }
  | .cmp op a b, sc, so =>
      let v : Expr → Bool := fun e => match e with | .Compare x [o] [y] _ => decide (op = o) && (mt cf a sc so).v x && (mt cf b sc so).v y && !(behindInMarks op y) | _ => false
      { mkV0 v with t := v }
  | .cmp2 o1 o2 a b c, sc, so =>
      let v : Expr → Bool := fun e => match e with | .Compare x [p1, p2] [y, z] _ => decide (o1 = p1) && decide (o2 = p2) && (mt cf a sc so).v x && (mt cf b sc so).v y && (mt cf c sc so).v z && !(lastMarks [o1, o2] [y, z]) && !isBor a && !isBor b | _ => false
      { mkV0 v with t := v }
  | .and a b, sc, so => { mkV0 (fun e => match e with
        | .BoolOp .And [x, y] _ => !isBor a && !isBor b && (mt cf a sc so).v x && (mt cf b sc so).v y
        | .BoolOp .And (x :: y :: z :: r) p => !isBor a && !isBor b && (mt cf a sc so).v x && (mt cf b sc so).v (.BoolOp .And (y :: z :: r) p)
        | _ => false) with
      t := fun e => match e with
        | .BoolOp .And [x, y] _ => (mt cf a sc so).t x && (mt cf b sc so).t y
        | .BoolOp .And (x :: y :: z :: r) p => (mt cf a sc so).t x && (mt cf b sc so).t (.BoolOp .And (y :: z :: r) p)
        | _ => false }
  | .or a b, sc, so => { mkV0 (fun e => match e with
        | .BoolOp .Or [x, y] _ => !isBor a && !isBor b && (mt cf a sc so).v x && (mt cf b sc so).v y
        | .BoolOp .Or (x :: y :: z :: r) p => !isBor a && !isBor b && (mt cf a sc so).v x && (mt cf b sc so).v (.BoolOp .Or (y :: z :: r) p)
        | _ => false) with
      t := fun e => match e with
        | .BoolOp .Or [x, y] _ => (mt cf a sc so).t x && (mt cf b sc so).t y
        | .BoolOp .Or (x :: y :: z :: r) p => (mt cf a sc so).t x && (mt cf b sc so).t (.BoolOp .Or (y :: z :: r) p)
        | _ => false }
  | .ite c a b, sc, so => mkV0 fun e => match e with | .IfExp z x y _ => !isBor a && !isBor b && (mt cf c sc so).t z && (mt cf a sc so).v x && (mt cf b sc so).v y | _ => false
  | .idx a i, sc, so => mkM fun e => match e with | .Subscript x y _ => plIx y && (mt cf a sc so).v x && (mt cf i sc so).v y | _ => false
  | .sl a lo hi, sc, so => mkM fun e => match e with
    | .Subscript x (.Slice l h none _) _ => !isBor lo && !isBor hi && (mt cf a sc so).v x && sl1 lo (mt cf lo sc so).v l && sl1 hi (mt cf hi sc so).v h
    | _ => false
  | .call f as, sc, so => mkM fun e => match e with
    | .Call (.Name x _) es [] _ => nameIs x f && gl sc x && okNm x && decide (cf.fns.lookup f = some false) && (mt cf as sc so).as es
    | _ => false
  | .callk f ks perm as bs, sc, so => mkM fun e => match e with
    | .Call (.Name x _) es kws _ => nameIs x f && gl sc x && okNm x && decide (cf.fns.lookup f = some false) && decide ((f, ks, lenE as, perm) ∈ cf.kws) && decide (lenE bs = ks.length) && decide (kwNames kws = ks.map fun k => some (Str.ofString k)) &&
        (mt cf as sc so).as es && (mt cf bs sc so).ks kws
    | _ => false
  | .callv i as, sc, so => mkM fun e => match e with
    | .Call (.Name x _) es [] _ => cf.cv && decide (cf.N[i]? = some x) && vis sc x && okNm x && (mt cf as sc so).as es
    | _ => false
  | .calli f i as, sc, so => mkM fun e => match e with
    | .Call (.Name x _) (.Name y _ :: es) [] _ => nameIs x f && gl sc x && okNm x && decide (cf.fns.lookup f = some true) && decide (i ∉ borsOf as) && decide (cf.N[i]? = some y) && vis sc y && okNm y && (mt cf as sc so).as es
    | _ => false
  | .callb f i a as, sc, so => mkM fun e => match e with
    | .Call (.Name x _) (.List [.Name y _, e1] _ :: es) [] _ => nameIs x f && gl sc x && okNm x && decide (cf.fns.lookup f = some false) && decide (cf.N[i]? = some y) && vis sc y && okNm y && !isBor a && notStar e1 && (mt cf a sc so).v e1 && (borsOf as).isEmpty && (mt cf as sc so).as es
    | _ => false
  | .bi .bitlen as, sc, so => mkM fun e => match e with
    | .Call (.Attribute (.Name y q) m ap) [] [] cp => nameIs m "bit_length" && (ap.endLine == cp.line) && (match as with | .cons (.var i) .nil => decide (cf.N[i]? = some y) && vis sc y && okNm y | _ => false)
    | _ => false
  | .bi b as, sc, so => mkM fun e => match e with
    | .Call (.Name x _) (e1 :: es) [] _ => cf.cm && nameIs x b.name && gl sc x && (mt cf as sc so).as (e1 :: es)
    | _ => false
  | .isi a ts, sc, so => mkM fun e => match e with
    | .Call (.Name x _) [y, .Name t _] [] _ => nameIs x "isinstance" && gl sc x && notStar y && (mt cf a sc so).v y && (match ts with | [T] => nameIs t T.name && gl sc t | _ => false)
    | .Call (.Name x _) [y, .Tuple zs _ _] [] _ => nameIs x "isinstance" && gl sc x && notStar y && (mt cf a sc so).v y && decide (ts.length ≤ 100) && tys sc ts zs
    | _ => false
  | .lrg a, sc, so => mkM fun e => match e with
    | .Call (.Name x _) [.Call (.Name y _) [z] [] _] [] _ => cf.cm && nameIs x "list" && gl sc x && nameIs y "range" && gl sc y && notStar z && (mt cf a sc so).v z
    | _ => false
  | .comp own tg it c elt, sc, so => mkV0 fun e => match e with
    | .ListComp el [⟨tgt, iter, ifs, 0⟩] scope _ =>
        cf.cm && blkC cf.N sc scope (own.map fun p => (Str.ofString p.1, p.2)) && noSet iter && (tgSlots tg).all (fun j => decide (j ∈ own.map (·.2))) && (mtG cf.N cf.cm (relS scope sc) scope tg).1 tgt && (mt cf it sc so).it tgt iter &&
        (match ifs with
          | [] => isTrueE c
          | [ce] => (mt cf c (relS scope sc) scope).t ce
          | _ => false) &&
        !isBor elt && (mt cf elt (relS scope sc) scope).v el
    | _ => false
  | .rng a, sc, so => ⟨fun _ => false, fun _ => false, fun _ => false, fun _ => false, fun _ e => match e with
    | .Call (.Name x _) [y] [] _ => nameIs x "range" && gl sc x && notStar y && (mt cf a sc so).v y
    | _ => false⟩
  | .rng2 a b, sc, so => ⟨fun _ => false, fun _ => false, fun _ => false, fun _ => false, fun _ e => match e with
    | .Call (.Name x _) [y, z] [] _ => nameIs x "range" && gl sc x && notStar y && notStar z && (mt cf a sc so).v y && (mt cf b sc so).v z
    | _ => false⟩
  | .enum a, sc, so => ⟨fun _ => false, fun _ => false, fun _ => false, fun _ => false, fun tg e => isTupE tg && match e with
    | .Call (.Name x _) [y] [] _ => nameIs x "enumerate" && gl sc x && notStar y && (mt cf a sc so).v y && noLk a
    | _ => false⟩
  | .zip a b st, sc, so => ⟨fun _ => false, fun _ => false, fun _ => false, fun _ => false, fun tg e => isTupE tg && !st && match e with
    | .Call (.Name x _) [y, z] [] _ => nameIs x "zip" && gl sc x && notStar y && notStar z && (mt cf a sc so).v y && (mt cf b sc so).v z && noLk a && noLk b
    | _ => false⟩
  | .pop i a, sc, so => mkM fun e => match e with
    | .Call (.Attribute (.Name y _) m ap) [z] [] cp => nameIs m "pop" && (ap.endLine == cp.line) && decide (cf.N[i]? = some y) && vis sc y && okNm y && !isBor a && notStar z && (mt cf a sc so).v z
    | _ => false
  | .pop0 i, sc, so => mkM fun e => match e with
    | .Call (.Attribute (.Name y _) m ap) [] [] cp => nameIs m "pop" && (ap.endLine == cp.line) && decide (cf.N[i]? = some y) && vis sc y && okNm y
    | _ => false
  | .fld a, sc, so => mkM fun e => match e with
    | .Attribute (.Name y p) m _ => nameIs m "value" && (mt cf a sc so).v (.Name y p)
    | _ => false
where
  noLk : E → Bool
    | .enum _ => false
    | .zip _ _ _ => false
    | _ => true
  tys (sc : Scope) : List Ty → List Expr → Bool
    | [], [] => true
    | T :: ts, .Name t _ :: es => nameIs t T.name && gl sc t && tys sc ts es
    | _, _ => false
end VI

set_option maxHeartbeats 1000000
set_option synthInstance.maxSize 128
set_option synthInstance.maxHeartbeats 20000
namespace VI
open PySem L2
def biNames : List Str := ["len", "int", "abs", "all", "any", "sum", "max", "min", "sorted", "list", "tuple", "repr", "range", "enumerate", "zip", "isinstance", "bool", "str", "dict"]
/-- a def of the program, as the context sees it -/
structure FnOK (M : Nm) (Γ : Gam) (X : Cx) (kws : List (String × List String × Nat × List Nat)) (f : String) (io : Bool) (a : Addr) (fd : FuncData) (g : Fn) (ps : List Str) (k : Nat) : Prop where
  fn : io = false → M.fn f = some a
  mg : X.mg (Str.ofString f) = some (.ref a)
  keep : PySem.W.keepIn X.K (.ref a) = true
  room : Room k X.A
  io : g.io = io
  len : ∀ ds r, Γ f ds = some r → ds.length = g.ps.length
  run : FnG X.prog X.w X.K X.mg X.base k a fd ps (spG M Γ f g)
  binds : Binds X.K fd ps []
  kb : ∀ ks np perm, (f, ks, np, perm) ∈ kws → KB X.K fd ps (ks.map Str.ofString) np perm
structure GX (M : Nm) (Γ : Gam) (cf : Cf) (X : Cx) (W : WX) (sc so : Scope) : Prop where
  K : X.K = M.K
  sc : X.env.scope = sc
  N : X.N = cf.N
  nd : cf.N.Nodup
  calm : cf.cm = true → X.calm = true
  units : X.A.units + 66 < cLine
  guards : X.A.guards = some []
  tk : Takes X W
  fnc : ∀ x, so.names.lookup x = some .cell → X.fn x = true
  fn : ∀ f io, cf.fns.lookup f = some io → ∃ a fd g ps k, FnOK M Γ X cf.kws f io a fd g ps k
  fnv : cf.cv = true → ∀ f a, M.fn f = some a → cf.fns.lookup f = some false
  gi : ∀ x i, cf.gi.lookup x = some i → ∃ t, X.mg (Str.ofString x) = some (.int i t)
  cl : ∀ c, c ∈ cf.cls → ∃ a, M.cl c = some a ∧ X.mg (Str.ofString c) = some (.ref a)
  bi : ∀ x ∈ biNames, X.mg x = none
  xf : ∀ c C, M.cl c = some C → XfC X.K C ∧ PySem.W.findIn X.K (.ref C) "value" = some none
section
variable {M : Nm} {Γ : Gam} {cf : Cf} {X : Cx} {W : WX} {sc so : Scope}
theorem W0_takes {s : Shared} {H : Hp} {scope : Scope} {cenv : PySem.Env} {fp : List Addr} : Takes (X.blk s H scope cenv fp) W0 := fun u s' ⟨a, B, sI, pins, σ, H, cls, d, e, I, nb, up, sky, na, os, ag, w⟩ => w.elim
theorem GX.blk (g : GX M Γ cf X W sc so) (s : Shared) (H : Hp) (scope : Scope) (C : Addr) (cl : List (Str × Addr)) (fp : List Addr) : GX M Γ cf (X.blk s H scope (compEnvC scope cl C X.env) fp) W0 (relS scope sc) scope where
  K := g.K
  sc := by
    have e : X.env.scope = sc := g.sc
    show relS scope X.env.scope = _
    rw [e]
  N := g.N
  nd := g.nd
  calm := g.calm
  units := g.units
  guards := g.guards
  tk := W0_takes
  fnc := fun x h => by
    show (scope.names.lookup x == some .cell) = true
    rw [h]; rfl
  fn := fun f io h => by
    obtain ⟨a, fd, g', ps, k, F⟩ := g.fn f io h
    exact ⟨a, fd, g', ps, k, ⟨F.fn, F.mg, F.keep, F.room, F.io, F.len, F.run, F.binds, F.kb⟩⟩
  fnv := g.fnv
  gi := g.gi
  cl := g.cl
  bi := g.bi
  xf := g.xf
theorem GX.gl (g : GX M Γ cf X W sc so) {x : Str} (h : gl sc x = true) : Gl X x := by
  show X.env.scope.names.lookup x = _
  rw [g.sc]
  exact of_decide_eq_true h
theorem GX.vis (g : GX M Γ cf X W sc so) {x : Str} (h : vis sc x = true) : Vis X.env.scope x := by
  rw [g.sc]
  unfold VI.vis at h
  unfold Vis
  split at h
  · exact .inl (by assumption)
  · exact .inr (.inl (by assumption))
  · exact .inr (.inr (by assumption))
  · cases h
theorem okNm1 {x : Str} (h : okNm x = true) : (x == ("__debug__" : Str)) = false := by
  have h := (Bool.and_eq_true_iff.mp h).1
  exact eq_of_beq h
theorem okNm2 {x : Str} (h : okNm x = true) : (x == ("__classdict__" : Str)) = false := by
  have h := (Bool.and_eq_true_iff.mp h).2
  exact eq_of_beq h
theorem nameIs_eq {x : Str} {f : String} (h : nameIs x f = true) : x = Str.ofString f := eq_of_beq h
theorem GX.var (g : GX M Γ cf X W sc so) {x : Str} {i : Nat} {p : Pos} (h : (decide (cf.N[i]? = some x) && VI.vis sc x && okNm x) = true) : PE X (.Name x p) (tVar i) := by
  simp only [Bool.and_eq_true, decide_eq_true_eq] at h
  exact pe_var (by rw [g.N]; exact h.1.1) (g.vis h.1.2) (okNm1 h.2) (okNm2 h.2)
theorem plT_ok {e : Expr} (h : plT e = true) (env : PySem.Env) : ∀ whole, isTrue e env whole = (do let v ← whole; standAt e.pos; holding [v] (truthy v)) := by
  cases e <;> first | (cases h; done) | (intro _; rfl)
theorem plIx_ok {e : Expr} (h : plIx e = true) : PlainIx e := by
  cases e <;> first | (cases h; done) | (intro _ _; rfl)
theorem noSet_ok {e : Expr} (h : noSet e = true) (env : PySem.Env) : ∀ x, foldedSetIterable e env x = pure x := by
  cases e <;> first | (cases h; done) | (intro _; rfl)
theorem few_ok {e : Expr} {env : PySem.Env} {cpos : Pos} (h : notStar e = true) : ((backTo cpos (starEach [e] env)).all (fun x => !x.1) && (backToKw cpos (keywordEach [] env)).all (fun x => x.1.isSome)
      && decide ([e].length + ([] : List Keyword).length + (if ([] : List Keyword).isEmpty then 0 else 1) < 30)) = true := by
  cases e <;> first | (cases h; done) | rfl
theorem star1 {e : Expr} {env : PySem.Env} (h : notStar e = true) : starEach [e] env = [(false, eval e env)] := star_cons h
theorem bi_boot (b : BI) (h : b ≠ .bitlen) : bootBuiltins (Str.ofString b.name) = some (if b.isTy then .type b.name else .builtin b.name) := by
  cases b <;> first | rfl | exact absurd rfl h
theorem bi_mem (b : BI) (h : b ≠ .bitlen) : Str.ofString b.name ∈ biNames := by
  cases b <;> first | decide | exact absurd rfl h
theorem ty_boot (T : Ty) : bootBuiltins (Str.ofString T.name) = some (.type T.name) := by cases T <;> rfl
theorem ty_mem (T : Ty) : Str.ofString T.name ∈ biNames := by cases T <;> decide
/-- what is proved of a form -/
structure Good (M : Nm) (Γ : Gam) (cf : Cf) (a : E) : Prop where
  v : ∀ {X : Cx} {W : WX} {sc so : Scope}, GX M Γ cf X W sc so → ∀ e, (mt cf a sc so).v e = true → PE X e (tO M W Γ a)
  t : ∀ {X : Cx} {W : WX} {sc so : Scope}, GX M Γ cf X W sc so → ∀ e, (mt cf a sc so).t e = true → PT X e (tT M W (ev Γ a).t)
  as : ∀ {X : Cx} {W : WX} {sc so : Scope}, GX M Γ cf X W sc so → ∀ es, (mt cf a sc so).as es = true → PA X es (tA M W Γ a) ∧ es.all notStar = true ∧ (es = [] → a = .nil)
  ks : ∀ {X : Cx} {W : WX} {sc so : Scope}, GX M Γ cf X W sc so → ∀ es, (mt cf a sc so).ks es = true → PK X es (tA M W Γ a)
  it : ∀ {X : Cx} {W : WX} {sc so : Scope}, GX M Γ cf X W sc so → ∀ tg e, (mt cf a sc so).it tg e = true → PI X tg e (tI M W Γ a)
/-- a form whose value is all that is known -/
theorem Good.plain {a : E} {mv : Scope → Scope → Expr → Bool} (hm : ∀ sc so, (mt cf a sc so).v = mv sc so ∧ ((mt cf a sc so).t = (fun e => plT e && mv sc so e) ∨ (mt cf a sc so).t = fun _ => false) ∧ (mt cf a sc so).as = (fun _ => false) ∧ (mt cf a sc so).ks = (fun _ => false) ∧ (mt cf a sc so).it = fun _ e => noSet e && mv sc so e)
    (ht : ∀ ρ, (ev Γ a).t ρ = truthR (ev Γ a).v ρ) (hit : ∀ ρ, (ev Γ a).it ρ = bindR ((ev Γ a).v ρ) fun d ρ => (itemsOf d).map fun ds => .ok (.tup ds) ρ) (hlk : locks a = match (generalizing := false) a with | .bor i => [i] | _ => [])
    (h : ∀ {X : Cx} {W : WX} {sc so : Scope}, GX M Γ cf X W sc so → ∀ e, mv sc so e = true → PE X e (tO M W Γ a)) : Good M Γ cf a where
  v := fun {X W sc so} g e he => h g e (by rw [(hm sc so).1] at he; exact he)
  t := fun {X W sc so} g e he => by
    rcases (hm sc so).2.1 with q | q
    · rw [q] at he
      have he := Bool.and_eq_true_iff.mp he
      refine PT.imp (pt_truth (h g e he.2) (plT_ok he.1 _)) fun σ H Q q => ?_
      have e1 : (ev Γ a).t = truthR (ev Γ a).v := funext ht
      rw [e1] at q
      have := t_truth q
      rw [← g.K] at this
      exact this
    · rw [q] at he; cases he
  as := fun {X W sc so} g es he => by rw [(hm sc so).2.2.1] at he; cases he
  ks := fun {X W sc so} g es he => by rw [(hm sc so).2.2.2.1] at he; cases he
  it := fun {X W sc so} g tg e he => by
    rw [(hm sc so).2.2.2.2] at he
    have he := Bool.and_eq_true_iff.mp he
    have p := h g e he.2
    refine PI.imp (VI.PI.or (pi_list p) (pi_tup p)) fun σ H Q q => ?_
    have := tI_any hit hlk q
    rw [← g.K] at this
    exact this
/-- targets -/
theorem pg_ok (g : GX M Γ cf X W sc so) (tg : Tg) : (∀ e, (mtG cf.N cf.cm sc so tg).1 e = true → PG X e (gT M tg) ∧ (∀ es, (assignEach (e :: es) X.env).map (·.2) = assign e X.env :: (assignEach es X.env).map (·.2) ∧ (assignEach (e :: es) X.env).findIdx? (·.1) = ((assignEach es X.env).findIdx? (·.1)).map (· + 1) ∧ (assignEach (e :: es) X.env).length = (assignEach es X.env).length + 1)) ∧
    (∀ es, (mtG cf.N cf.cm sc so tg).2 es = true → PGs X es (gTs M tg) ∧ (assignEach es X.env).length = tgLen tg ∧ (assignEach es X.env).findIdx? (·.1) = none) := by
  induction tg with
  | n i =>
    refine ⟨fun e h => ?_, fun es h => by cases h⟩
    cases e <;> first | (cases h; done) | skip
    rename_i x p
    have h : (decide (cf.N[i]? = some x) && (decide (sc.names.lookup x = some .local) || (decide (sc.names.lookup x = some .cell) && decide (so.names.lookup x = some .cell)))) = true := h
    simp only [Bool.and_eq_true, Bool.or_eq_true, decide_eq_true_eq] at h
    refine ⟨PG.imp (pg_name (by rw [g.N]; exact g.nd) (by rw [g.N]; exact h.1) (by rw [g.sc]; exact h.2.imp id (·.1)) (h.2.elim (fun z => .inr (by rw [g.sc]; exact z)) fun z => .inl (g.fnc x z.2))) fun v σ H Q q => gT_n q, fun es => ⟨rfl, List.findIdx?_cons .., rfl⟩⟩
  | t ts ih =>
    refine ⟨fun e h => ?_, fun es h => by cases h⟩
    cases e <;> first | (cases h; done) | skip
    rename_i es k p
    have h := Bool.and_eq_true_iff.mp (show (cf.cm && (mtG cf.N cf.cm sc so ts).2 es) = true from h)
    obtain ⟨h1, h2, h3⟩ := ih.2 es h.2
    refine ⟨PG.imp (pg_tup (g.calm h.1) h1 h2 h3) fun v σ H Q q => ?_, fun es => ⟨rfl, List.findIdx?_cons .., rfl⟩⟩
    have := gT_t (fun ds ρ ρ' e => tgLen_eq ts ds ρ ρ' e) q
    rw [← g.K] at this
    exact this
  | nil =>
    refine ⟨fun e h => (by cases h), fun es h => ?_⟩
    cases es with
    | nil => exact ⟨PGs.imp pgs_nil fun v σ H Q q => gTs_nil q, rfl, rfl⟩
    | cons _ _ => cases h
  | cons a b iha ihb =>
    refine ⟨fun e h => (by cases h), fun es h => ?_⟩
    cases es with
    | nil => cases h
    | cons e es =>
      have h := Bool.and_eq_true_iff.mp (show ((mtG cf.N cf.cm sc so a).1 e && (mtG cf.N cf.cm sc so b).2 es) = true from h)
      obtain ⟨p1, p2⟩ := iha.1 e h.1
      obtain ⟨q1, q2, q3⟩ := ihb.2 es h.2
      obtain ⟨s1, s2, s3⟩ := p2 es
      refine ⟨PGs.imp (pgs_cons p1 q1 s1) fun v σ H Q q => gTs_cons q, ?_, ?_⟩
      · rw [s3, q2]; rfl
      · rw [s2, q3]; rfl
end
end VI

set_option maxHeartbeats 1000000
set_option synthInstance.maxSize 128
set_option synthInstance.maxHeartbeats 20000
namespace VI
open PySem L2
section
variable {M : Nm} {Γ : Gam} {cf : Cf}
theorem good_of {a : E} (hm : ∀ sc so, ((mt cf a sc so).t = (fun e => plT e && (mt cf a sc so).v e) ∨ (mt cf a sc so).t = fun _ => false) ∧ (mt cf a sc so).as = (fun _ => false) ∧ (mt cf a sc so).ks = (fun _ => false) ∧ (mt cf a sc so).it = fun _ e => noSet e && (mt cf a sc so).v e)
    (ht : ∀ ρ, (ev Γ a).t ρ = truthR (ev Γ a).v ρ) (hit : ∀ ρ, (ev Γ a).it ρ = bindR ((ev Γ a).v ρ) fun d ρ => (itemsOf d).map fun ds => .ok (.tup ds) ρ) (hlk : locks a = match (generalizing := false) a with | .bor i => [i] | _ => [])
    (h : ∀ {X : Cx} {W : WX} {sc so : Scope}, GX M Γ cf X W sc so → ∀ e, (mt cf a sc so).v e = true → PE X e (tO M W Γ a)) : Good M Γ cf a :=
  Good.plain (mv := fun sc so => (mt cf a sc so).v) (fun sc so => ⟨rfl, (hm sc so).1, (hm sc so).2.1, (hm sc so).2.2.1, (hm sc so).2.2.2⟩) ht hit hlk h
theorem g_non : Good M Γ cf .non := by
  (refine good_of (fun _ _ => ⟨by first | exact .inl rfl | exact .inr rfl, rfl, rfl, rfl⟩) (fun _ => rfl) (fun _ => rfl) rfl fun {X W sc so} g e he => ?_)
  simp only [mt, mkM] at he
  split at he
  · exact PE.imp pe_non fun σ H Q q => e_const (fun _ => rfl) (fun _ _ => .non) q
  · cases he
theorem g_bl {b : Bool} : Good M Γ cf (.bl b) := by
  (refine good_of (fun _ _ => ⟨by first | exact .inl rfl | exact .inr rfl, rfl, rfl, rfl⟩) (fun _ => rfl) (fun _ => rfl) rfl fun {X W sc so} g e he => ?_)
  simp only [mt, mkM] at he
  split at he
  · cases eq_of_beq he
    exact PE.imp pe_bl fun σ H Q q => e_const (fun _ => rfl) (fun _ _ => .bl _) q
  · cases he
theorem g_int {i : Int} : Good M Γ cf (.int i) := by
  (refine good_of (fun _ _ => ⟨by first | exact .inl rfl | exact .inr rfl, rfl, rfl, rfl⟩) (fun _ => rfl) (fun _ => rfl) rfl fun {X W sc so} g e he => ?_)
  simp only [mt, mkM] at he
  split at he
  · cases of_decide_eq_true he
    exact PE.imp pe_int fun σ H Q q => e_const (fun _ => rfl) (fun _ _ => .int _) q
  · cases he
theorem g_str {i : String} : Good M Γ cf (.str i) := by
  (refine good_of (fun _ _ => ⟨by first | exact .inl rfl | exact .inr rfl, rfl, rfl, rfl⟩) (fun _ => rfl) (fun _ => rfl) rfl fun {X W sc so} g e he => ?_)
  simp only [mt, mkM] at he
  split at he
  · cases of_decide_eq_true he
    exact PE.imp pe_str fun σ H Q q => e_const (fun _ => rfl) (fun _ _ => .str _) q
  · cases he
theorem g_var {i : Nat} : Good M Γ cf (.var i) := by
  (refine good_of (fun _ _ => ⟨by first | exact .inl rfl | exact .inr rfl, rfl, rfl, rfl⟩) (fun _ => rfl) (fun _ => rfl) rfl fun {X W sc so} g e he => ?_)
  simp only [mt, mkM] at he
  split at he
  · exact PE.imp (g.var he) fun σ H Q q => e_var q
  · cases he
theorem g_mov {i : Nat} : Good M Γ cf (.mov i) := by
  (refine good_of (fun _ _ => ⟨by first | exact .inl rfl | exact .inr rfl, rfl, rfl, rfl⟩) (fun _ => rfl) (fun _ => rfl) rfl fun {X W sc so} g e he => ?_)
  simp only [mt, mkM] at he
  split at he
  · exact PE.imp (g.var he) fun σ H Q q => e_mov q
  · cases he
theorem g_fzs {i : Nat} : Good M Γ cf (.fzs i) := by
  (refine good_of (fun _ _ => ⟨by first | exact .inl rfl | exact .inr rfl, rfl, rfl, rfl⟩) (fun _ => rfl) (fun _ => rfl) rfl fun {X W sc so} g e he => ?_)
  simp only [mt, mkM] at he
  split at he
  · exact PE.imp (g.var he) fun σ H Q q => e_fzs q
  · cases he
theorem g_bor {i : Nat} : Good M Γ cf (.bor i) := by
  (refine good_of (fun _ _ => ⟨by first | exact .inl rfl | exact .inr rfl, rfl, rfl, rfl⟩) (fun _ => rfl) (fun _ => rfl) rfl fun {X W sc so} g e he => ?_)
  simp only [mt, mkM] at he
  split at he
  · exact g.var he
  · cases he
theorem g_gi {c : String} {i : Int} : Good M Γ cf (.gi c i) := by
  (refine good_of (fun _ _ => ⟨by first | exact .inl rfl | exact .inr rfl, rfl, rfl, rfl⟩) (fun _ => rfl) (fun _ => rfl) rfl fun {X W sc so} g e he => ?_)
  simp only [mt, mkM] at he
  split at he
  · simp only [Bool.and_eq_true, decide_eq_true_eq] at he
    obtain ⟨⟨⟨h1, h2⟩, h3⟩, h4⟩ := he
    cases nameIs_eq h1
    obtain ⟨t, ht⟩ := g.gi c i h4
    exact PE.imp (pe_glob (v := .int i) (g.gl h2) ht ⟨_, rfl⟩ (okNm1 h3)) fun σ H Q q => e_const (fun _ => rfl) (fun _ _ => .int _) q
  · cases he
theorem g_fn {f : String} : Good M Γ cf (.fn f) := by
  (refine good_of (fun _ _ => ⟨by first | exact .inl rfl | exact .inr rfl, rfl, rfl, rfl⟩) (fun _ => rfl) (fun _ => rfl) rfl fun {X W sc so} g e he => ?_)
  simp only [mt, mkM] at he
  split at he
  · simp only [Bool.and_eq_true, decide_eq_true_eq] at he
    obtain ⟨⟨⟨h1, h2⟩, h3⟩, h5⟩ := he
    cases nameIs_eq h1
    obtain ⟨a, fd, g', ps, k, F⟩ := g.fn f false h5
    exact PE.imp (pe_glob (v := .ref a) (g.gl h2) F.mg rfl (okNm1 h3)) fun σ H Q q => e_const (fun _ => rfl) (fun _ _ => .fn (F.fn rfl)) q
  · cases he
theorem g_cls {c : String} : Good M Γ cf (.cls c) := by
  (refine good_of (fun _ _ => ⟨by first | exact .inl rfl | exact .inr rfl, rfl, rfl, rfl⟩) (fun _ => rfl) (fun _ => rfl) rfl fun {X W sc so} g e he => ?_)
  simp only [mt, mkM] at he
  split at he
  · simp only [Bool.and_eq_true, decide_eq_true_eq] at he
    obtain ⟨⟨⟨h1, h2⟩, h3⟩, h4⟩ := he
    cases nameIs_eq h1
    obtain ⟨a, e1, e2⟩ := g.cl c h4
    exact PE.imp (pe_glob (v := .ref a) (g.gl h2) e2 rfl (okNm1 h3)) fun σ H Q q => e_const (fun _ => rfl) (fun _ _ => .cls e1) q
  · cases he
theorem g_frz {a : E} (ga : Good M Γ cf a) : Good M Γ cf (.frz a) := by
  (refine good_of (fun _ _ => ⟨by first | exact .inl rfl | exact .inr rfl, rfl, rfl, rfl⟩) (fun _ => rfl) (fun _ => rfl) rfl fun {X W sc so} g e he => ?_)
  simp only [mt, mkV0, Bool.and_eq_true, Bool.not_eq_true'] at he
  have p := ga.v g e he.2
  rw [tO_eq he.1] at p
  exact PE.imp p fun σ H Q q => e_frz q
theorem g_frzi {a : E} (ga : Good M Γ cf a) : Good M Γ cf (.frzi a) := by
  (refine good_of (fun _ _ => ⟨by first | exact .inl rfl | exact .inr rfl, rfl, rfl, rfl⟩) (fun _ => rfl) (fun _ => rfl) rfl fun {X W sc so} g e he => ?_)
  simp only [mt, mkV0, Bool.and_eq_true, Bool.not_eq_true'] at he
  have p := ga.v g e he.2
  rw [tO_eq he.1] at p
  exact PE.imp p fun σ H Q q => e_frzi q
theorem no_v {a : E} {X : Cx} {W : WX} {sc so : Scope} {e : Expr} (h : (mt cf a sc so).v = fun _ => false) (he : (mt cf a sc so).v e = true) : False := by rw [h] at he; cases he
theorem g_nil : Good M Γ cf .nil where
  v := fun g e he => by cases he
  t := fun g e he => by
    simp only [mt, mkM, Bool.and_false] at he
    cases he
  as := fun g es he => by
    cases es with
    | nil => exact ⟨PA.imp pa_nil fun σ H Q q => tA_nil q, rfl, fun _ => rfl⟩
    | cons _ _ => cases he
  ks := fun g es he => by
    cases es with
    | nil => exact PK.imp pk_nil fun σ H Q q => tA_nil q
    | cons _ _ => cases he
  it := fun g tg e he => by
    simp only [mt, mkM, Bool.and_false] at he
    cases he
theorem g_cons {a b : E} (ga : Good M Γ cf a) (gb : Good M Γ cf b) : Good M Γ cf (.cons a b) where
  v := fun g e he => by cases he
  t := fun g e he => by
    simp only [mt, mkM, Bool.and_false] at he
    cases he
  as := fun g es he => by
    cases es with
    | nil => cases he
    | cons e es =>
      simp only [mt, Bool.and_eq_true] at he
      obtain ⟨⟨h1, h2⟩, h3⟩ := he
      obtain ⟨p1, p2, p3⟩ := gb.as g es h3
      exact ⟨PA.imp (pa_cons (ga.v g e h2) p1 (star_cons h1)) fun σ H Q q => tA_cons q, by rw [List.all_cons, h1, p2]; rfl, fun z => by cases z⟩
  ks := fun g es he => by
    cases es with
    | nil => cases he
    | cons e es =>
      obtain ⟨n, e, p⟩ := e
      simp only [mt, Bool.and_eq_true] at he
      exact PK.imp (pk_cons (ga.v g e he.1) (gb.ks g es he.2)) fun σ H Q q => tA_cons q
  it := fun g tg e he => by
    simp only [mt, mkM, Bool.and_false] at he
    cases he
theorem g_tup {es : E} (ga : Good M Γ cf es) : Good M Γ cf (.tup es) := by
  (refine good_of (fun _ _ => ⟨by first | exact .inl rfl | exact .inr rfl, rfl, rfl, rfl⟩) (fun _ => rfl) (fun _ => rfl) rfl fun {X W sc so} g e he => ?_)
  simp only [mt, mkM] at he
  split at he
  · simp only [Bool.and_eq_true, List.isEmpty_iff] at he
    exact PE.imp (pe_tup (ga.as g _ he.2).1) fun σ H Q q => e_tup he.1 q
  · cases he
theorem g_lst {es : E} (ga : Good M Γ cf es) : Good M Γ cf (.lst es) := by
  (refine good_of (fun _ _ => ⟨by first | exact .inl rfl | exact .inr rfl, rfl, rfl, rfl⟩) (fun _ => rfl) (fun _ => rfl) rfl fun {X W sc so} g e he => ?_)
  simp only [mt, mkM] at he
  split at he
  · simp only [Bool.and_eq_true, List.isEmpty_iff] at he
    exact PE.imp (pe_lst (ga.as g _ he.2).1) fun σ H Q q => e_lst he.1 q
  · cases he
theorem g_edic : Good M Γ cf .edic := by
  (refine good_of (fun _ _ => ⟨by first | exact .inl rfl | exact .inr rfl, rfl, rfl, rfl⟩) (fun _ => rfl) (fun _ => rfl) rfl fun {X W sc so} g e he => ?_)
  simp only [mt, mkM] at he
  split at he
  · exact PE.imp pe_dnewK fun σ H Q q => e_edic q
  · cases he
theorem g_bin {op : Operator} {a b : E} (ga : Good M Γ cf a) (gb : Good M Γ cf b) : Good M Γ cf (.bin op a b) := by
  (refine good_of (fun _ _ => ⟨by first | exact .inl rfl | exact .inr rfl, rfl, rfl, rfl⟩) (fun _ => rfl) (fun _ => rfl) rfl fun {X W sc so} g e he => ?_)
  simp only [mt, mkM] at he
  split at he
  · simp only [Bool.and_eq_true, decide_eq_true_eq] at he
    obtain ⟨⟨rfl, h2⟩, h3⟩ := he
    exact PE.imp (pe_op (op_bin op) (ga.v g _ h2) (gb.v g _ h3)) fun σ H Q q => by rw [g.K]; exact e_bin q
  · cases he
theorem g_neg {a : E} (ga : Good M Γ cf a) : Good M Γ cf (.neg a) := by
  (refine good_of (fun _ _ => ⟨by first | exact .inl rfl | exact .inr rfl, rfl, rfl, rfl⟩) (fun _ => rfl) (fun _ => rfl) rfl fun {X W sc so} g e he => ?_)
  simp only [mt, mkM] at he
  split at he
  · exact PE.imp (pe_un un_neg (ga.v g _ he)) fun σ H Q q => e_neg q
  · cases he
theorem g_idx {a b : E} (ga : Good M Γ cf a) (gb : Good M Γ cf b) : Good M Γ cf (.idx a b) := by
  (refine good_of (fun _ _ => ⟨by first | exact .inl rfl | exact .inr rfl, rfl, rfl, rfl⟩) (fun _ => rfl) (fun _ => rfl) rfl fun {X W sc so} g e he => ?_)
  simp only [mt, mkM] at he
  split at he
  · simp only [Bool.and_eq_true] at he
    exact PE.imp (pe_ix ix_seq (ga.v g _ he.1.2) (gb.v g _ he.2) (plIx_ok he.1.1)) fun σ H Q q => by rw [g.K]; exact e_idx q
  · cases he
theorem po_ok {X : Cx} {W : WX} {sc so : Scope} {a : E} {l : Option Expr} (g : GX M Γ cf X W sc so) (ga : Good M Γ cf a) (hb : isBor a = false) (h : sl1 a (mt cf a sc so).v l = true) : PO X l (tP M W Γ a) := by
  cases l with
  | none =>
    cases a <;> first | exact po_none | cases h
  | some e =>
    have h := Bool.and_eq_true_iff.mp h
    have p := ga.v g e h.2
    rw [tO_eq hb] at p
    have := po_some p
    cases a <;> first | exact this | exact absurd h.1 Bool.false_ne_true
theorem g_sl {a lo hi : E} (ga : Good M Γ cf a) (gl : Good M Γ cf lo) (gh : Good M Γ cf hi) : Good M Γ cf (.sl a lo hi) := by
  (refine good_of (fun _ _ => ⟨by first | exact .inl rfl | exact .inr rfl, rfl, rfl, rfl⟩) (fun _ => rfl) (fun _ => rfl) rfl fun {X W sc so} g e he => ?_)
  simp only [mt, mkM] at he
  split at he
  · simp only [Bool.and_eq_true, Bool.not_eq_true'] at he
    obtain ⟨⟨⟨⟨h1, h2⟩, h3⟩, h4⟩, h5⟩ := he
    exact PE.imp (pe_slice sl_any (ga.v g _ h3) (po_ok g gl h1 h4) (po_ok g gh h2 h5)) fun σ H Q q => by rw [g.K]; exact e_sl h1 h2 q
  · cases he
end
end VI

set_option maxHeartbeats 1000000
set_option synthInstance.maxSize 128
set_option synthInstance.maxHeartbeats 20000
namespace VI
open PySem L2
section
variable {M : Nm} {Γ : Gam} {cf : Cf}
/-- with tests of its own -/
theorem good_t {a : E} (hm : ∀ sc so, (mt cf a sc so).as = (fun _ => false) ∧ (mt cf a sc so).ks = (fun _ => false) ∧ (mt cf a sc so).it = fun _ e => noSet e && (mt cf a sc so).v e)
    (hit : ∀ ρ, (ev Γ a).it ρ = bindR ((ev Γ a).v ρ) fun d ρ => (itemsOf d).map fun ds => .ok (.tup ds) ρ) (hlk : locks a = match (generalizing := false) a with | .bor i => [i] | _ => [])
    (h : ∀ {X : Cx} {W : WX} {sc so : Scope}, GX M Γ cf X W sc so → ∀ e, (mt cf a sc so).v e = true → PE X e (tO M W Γ a))
    (ht : ∀ {X : Cx} {W : WX} {sc so : Scope}, GX M Γ cf X W sc so → ∀ e, (mt cf a sc so).t e = true → PT X e (tT M W (ev Γ a).t)) : Good M Γ cf a where
  v := h
  t := ht
  as := fun {X W sc so} g es he => by rw [(hm sc so).1] at he; cases he
  ks := fun {X W sc so} g es he => by rw [(hm sc so).2.1] at he; cases he
  it := fun {X W sc so} g tg e he => by
    rw [(hm sc so).2.2] at he
    have he := Bool.and_eq_true_iff.mp he
    have p := h g e he.2
    refine PI.imp (VI.PI.or (pi_list p) (pi_tup p)) fun σ H Q q => ?_
    have := tI_any hit hlk q
    rw [← g.K] at this
    exact this
theorem PT.ofW {X : Cx} {e : Expr} {t : TT} (h : PW X e t) : PT X e t := ⟨fun pins s σ H Q I q => h.run _ pins s σ H Q I q⟩
theorem g_not {a : E} (ga : Good M Γ cf a) : Good M Γ cf (.not a) := by
  (refine good_t (fun _ _ => ⟨rfl, rfl, rfl⟩) (fun _ => rfl) rfl (fun {X W sc so} g e he => ?_) (fun {X W sc so} g e he => ?_))
  · simp only [mt, mkV0] at he
    split at he
    · exact PE.imp (pe_notT (ga.v g _ he)) fun σ H Q q => by rw [g.K]; exact e_not q
    · cases he
  · simp only [mt, mkV0] at he
    split at he
    · exact PT.imp (pt_not (ga.t g _ he)) fun σ H Q q => t_not q
    · cases he
theorem g_cmp {op : CmpOp} {a b : E} (ga : Good M Γ cf a) (gb : Good M Γ cf b) : Good M Γ cf (.cmp op a b) := by
  (refine good_t (fun _ _ => ⟨rfl, rfl, rfl⟩) (fun _ => rfl) rfl (fun {X W sc so} g e he => ?_) (fun {X W sc so} g e he => ?_))
  · simp only [mt, mkV0] at he
    split at he
    · simp only [Bool.and_eq_true, decide_eq_true_eq, Bool.not_eq_true'] at he
      obtain ⟨⟨⟨rfl, h2⟩, h3⟩, h4⟩ := he
      have hu := g.units
      exact PE.imp (pe_cmpR (op_cmp (by omega) op) (ga.v g _ h2) (gb.v g _ h3) h4) fun σ H Q q => by rw [g.K]; exact e_cmp q
    · cases he
  · simp only [mt, mkV0] at he
    split at he
    · simp only [Bool.and_eq_true, decide_eq_true_eq, Bool.not_eq_true'] at he
      obtain ⟨⟨⟨rfl, h2⟩, h3⟩, h4⟩ := he
      have hu := g.units
      exact PT.imp (pt_cmpR (op_cmp (by omega) op) (ga.v g _ h2) (gb.v g _ h3) h4) fun σ H Q q => by
        rw [g.K]; exact e_cmp (t_bool cmp_bool q)
    · cases he
theorem g_cmp2 {o1 o2 : CmpOp} {a b c : E} (ga : Good M Γ cf a) (gb : Good M Γ cf b) (gc : Good M Γ cf c) : Good M Γ cf (.cmp2 o1 o2 a b c) := by
  (refine good_t (fun _ _ => ⟨rfl, rfl, rfl⟩) (fun _ => rfl) rfl (fun {X W sc so} g e he => ?_) (fun {X W sc so} g e he => ?_))
  · simp only [mt, mkV0] at he
    split at he
    · simp only [Bool.and_eq_true, decide_eq_true_eq, Bool.not_eq_true'] at he
      obtain ⟨⟨⟨⟨⟨⟨⟨rfl, rfl⟩, h2⟩, h3⟩, h4⟩, h5⟩, h6⟩, h7⟩ := he
      have hu := g.units
      exact PE.imp (pe_chain (op_cmp (by omega) o1) (op_cmp (by omega) o2) (ga.v g _ h2) (gb.v g _ h3) (gc.v g _ h4) h5) fun σ H Q q => by rw [g.K]; exact e_cmp2 h6 h7 q
    · cases he
  · simp only [mt, mkV0] at he
    split at he
    · simp only [Bool.and_eq_true, decide_eq_true_eq, Bool.not_eq_true'] at he
      obtain ⟨⟨⟨⟨⟨⟨⟨rfl, rfl⟩, h2⟩, h3⟩, h4⟩, h5⟩, h6⟩, h7⟩ := he
      have hu := g.units
      exact PT.imp (pt_chain (op_cmp (by omega) o1) (op_cmp (by omega) o2) (ga.v g _ h2) (gb.v g _ h3) (gc.v g _ h4) h5) fun σ H Q q => by
        rw [g.K]; exact e_cmp2 h6 h7 (t_bool cmp2_bool q)
    · cases he
theorem g_and {a b : E} (ga : Good M Γ cf a) (gb : Good M Γ cf b) : Good M Γ cf (.and a b) := by
  (refine good_t (fun _ _ => ⟨rfl, rfl, rfl⟩) (fun _ => rfl) rfl (fun {X W sc so} g e he => ?_) (fun {X W sc so} g e he => ?_))
  · simp only [mt, mkV0] at he
    split at he
    · simp only [Bool.and_eq_true, Bool.not_eq_true'] at he
      obtain ⟨⟨⟨h1, h2⟩, h3⟩, h4⟩ := he
      have p1 := ga.v g _ h3
      have p2 := gb.v g _ h4
      rw [tO_eq h1] at p1
      rw [tO_eq h2] at p2
      exact PE.imp (pe_andT p1 (pe_one p2)) fun σ H Q q => by rw [g.K]; exact e_and h1 q
    · simp only [Bool.and_eq_true, Bool.not_eq_true'] at he
      obtain ⟨⟨⟨h1, h2⟩, h3⟩, h4⟩ := he
      have p1 := ga.v g _ h3
      have p2 := gb.v g _ h4
      rw [tO_eq h1] at p1
      rw [tO_eq h2] at p2
      exact PE.imp (pe_andT p1 p2) fun σ H Q q => by rw [g.K]; exact e_and h1 q
    · cases he
  · simp only [mt, mkV0] at he
    split at he
    · simp only [Bool.and_eq_true] at he
      exact PT.imp (PT.ofW (pw_and (ga.t g _ he.1) (pw_and1 (gb.t g _ he.2)))) fun σ H Q q => t_and q
    · simp only [Bool.and_eq_true] at he
      have p2 := gb.t g _ he.2
      exact PT.imp (PT.ofW (pw_and (ga.t g _ he.1) ⟨fun wh pins s σ H Q I q => p2.run pins s σ H Q I q⟩)) fun σ H Q q => t_and q
    · cases he
theorem g_or {a b : E} (ga : Good M Γ cf a) (gb : Good M Γ cf b) : Good M Γ cf (.or a b) := by
  (refine good_t (fun _ _ => ⟨rfl, rfl, rfl⟩) (fun _ => rfl) rfl (fun {X W sc so} g e he => ?_) (fun {X W sc so} g e he => ?_))
  · simp only [mt, mkV0] at he
    split at he
    · simp only [Bool.and_eq_true, Bool.not_eq_true'] at he
      obtain ⟨⟨⟨h1, h2⟩, h3⟩, h4⟩ := he
      have p1 := ga.v g _ h3
      have p2 := gb.v g _ h4
      rw [tO_eq h1] at p1
      rw [tO_eq h2] at p2
      exact PE.imp (pe_orT p1 (pe_one p2)) fun σ H Q q => by rw [g.K]; exact e_or h1 q
    · simp only [Bool.and_eq_true, Bool.not_eq_true'] at he
      obtain ⟨⟨⟨h1, h2⟩, h3⟩, h4⟩ := he
      have p1 := ga.v g _ h3
      have p2 := gb.v g _ h4
      rw [tO_eq h1] at p1
      rw [tO_eq h2] at p2
      exact PE.imp (pe_orT p1 p2) fun σ H Q q => by rw [g.K]; exact e_or h1 q
    · cases he
  · simp only [mt, mkV0] at he
    split at he
    · simp only [Bool.and_eq_true] at he
      exact PT.imp (PT.ofW (pw_or (ga.t g _ he.1) (pw_or1 (gb.t g _ he.2)))) fun σ H Q q => t_or q
    · simp only [Bool.and_eq_true] at he
      have p2 := gb.t g _ he.2
      exact PT.imp (PT.ofW (pw_or (ga.t g _ he.1) ⟨fun wh pins s σ H Q I q => p2.run pins s σ H Q I q⟩)) fun σ H Q q => t_or q
    · cases he
theorem g_ite {c a b : E} (gc : Good M Γ cf c) (ga : Good M Γ cf a) (gb : Good M Γ cf b) : Good M Γ cf (.ite c a b) := by
  (refine good_of (fun _ _ => ⟨by first | exact .inl rfl | exact .inr rfl, rfl, rfl, rfl⟩) (fun _ => rfl) (fun _ => rfl) rfl fun {X W sc so} g e he => ?_)
  simp only [mt, mkV0] at he
  split at he
  · simp only [Bool.and_eq_true, Bool.not_eq_true'] at he
    obtain ⟨⟨⟨⟨h1, h2⟩, h3⟩, h4⟩, h5⟩ := he
    have p1 := ga.v g _ h4
    have p2 := gb.v g _ h5
    rw [tO_eq h1] at p1
    rw [tO_eq h2] at p2
    exact PE.imp (pe_ifExp (gc.t g _ h3) p1 p2) fun σ H Q q => e_ite q
  · cases he
theorem g_call {f : String} {as : E} (ga : Good M Γ cf as) : Good M Γ cf (.call f as) := by
  (refine good_of (fun _ _ => ⟨by first | exact .inl rfl | exact .inr rfl, rfl, rfl, rfl⟩) (fun _ => rfl) (fun _ => rfl) rfl fun {X W sc so} g e he => ?_)
  simp only [mt, mkM] at he
  split at he
  · rename_i x p es q
    simp only [Bool.and_eq_true, decide_eq_true_eq] at he
    obtain ⟨⟨⟨⟨h1, h2⟩, h3⟩, h4⟩, h5⟩ := he
    cases nameIs_eq h1
    obtain ⟨a, fd, g', ps, k, F⟩ := g.fn f false h4
    obtain ⟨p1, p2, p3⟩ := ga.as g es h5
    cases es with
    | nil =>
      cases p3 rfl
      refine PE.imp (pe_callG F.run F.room g.guards (g.gl h2) F.mg F.keep F.binds g.tk pa_nil (okNm1 h3) p2 fun _ => rfl) fun σ H Q q => ?_
      exact tA_nil (tCl_ok F.io F.len (fun ρ => rfl) q)
    | cons e es =>
      exact PE.imp (pe_callG F.run F.room g.guards (g.gl h2) F.mg F.keep F.binds g.tk p1 (okNm1 h3) p2 fun z => by cases z) fun σ H Q q => tCl_ok F.io F.len (fun ρ => rfl) q
  · cases he
theorem g_callk {f : String} {ns : List String} {perm : List Nat} {as bs : E} (ga : Good M Γ cf as) (gb : Good M Γ cf bs) : Good M Γ cf (.callk f ns perm as bs) := by
  (refine good_of (fun _ _ => ⟨by first | exact .inl rfl | exact .inr rfl, rfl, rfl, rfl⟩) (fun _ => rfl) (fun _ => rfl) rfl fun {X W sc so} g e he => ?_)
  simp only [mt, mkM] at he
  split at he
  · rename_i x p es kws q
    simp only [Bool.and_eq_true, decide_eq_true_eq] at he
    obtain ⟨⟨⟨⟨⟨⟨⟨⟨h1, h2⟩, h3⟩, h4⟩, h5⟩, h6⟩, h7⟩, h8⟩, h9⟩ := he
    cases nameIs_eq h1
    obtain ⟨a, fd, g', ps, k, F⟩ := g.fn f false h4
    obtain ⟨p1, p2, p3⟩ := ga.as g es h8
    have hn : kwNames kws = (ns.map Str.ofString).map some := by rw [h7, List.map_map]; rfl
    have kb := F.kb _ _ _ h5
    cases es with
    | nil =>
      cases p3 rfl
      refine PE.imp (pe_callGK F.run F.room g.guards (g.gl h2) F.mg F.keep kb g.tk pa_nil (gb.ks g kws h9) hn (okNm1 h3) p2 fun _ => rfl) fun σ H Q q => ?_
      have := tClK_ok (W := W) (nk := (ns.map Str.ofString).length) F.io F.len rfl (by rw [h6, List.length_map]) q
      exact tA_nil this
    | cons e es =>
      refine PE.imp (pe_callGK F.run F.room g.guards (g.gl h2) F.mg F.keep kb g.tk p1 (gb.ks g kws h9) hn (okNm1 h3) p2 fun z => by cases z) fun σ H Q q => ?_
      exact tClK_ok F.io F.len rfl (by rw [h6, List.length_map]) q
  · cases he
theorem g_calli {f : String} {i : Nat} {as : E} (ga : Good M Γ cf as) : Good M Γ cf (.calli f i as) := by
  (refine good_of (fun _ _ => ⟨by first | exact .inl rfl | exact .inr rfl, rfl, rfl, rfl⟩) (fun _ => rfl) (fun _ => rfl) rfl fun {X W sc so} g e he => ?_)
  simp only [mt, mkM] at he
  split at he
  · rename_i x p y p' es q
    simp only [Bool.and_eq_true, decide_eq_true_eq] at he
    obtain ⟨⟨⟨⟨⟨⟨⟨⟨h1, h2⟩, h3⟩, h4⟩, h5⟩, h6⟩, h7⟩, h8⟩, h9⟩ := he
    cases nameIs_eq h1
    obtain ⟨a, fd, g', ps, k, F⟩ := g.fn f true h4
    obtain ⟨p1, p2, p3⟩ := ga.as g es h9
    have pv : PE X (.Name y p') (tVar i) := g.var (by simp only [Bool.and_eq_true, decide_eq_true_eq]; exact ⟨⟨h6, h7⟩, h8⟩)
    exact PE.imp (pe_callG F.run F.room g.guards (g.gl h2) F.mg F.keep F.binds g.tk (pa_cons pv p1) (okNm1 h3) (by rw [List.all_cons, p2]; rfl) fun z => by cases z) fun σ H Q q => tCl_io F.io h5 F.len q
  · cases he
theorem _root_.VI.Rep.fnInv {M : Nm} {G : Addr → Prop} {H : Hp} {v : V} {f : String} {F : List Addr} (r : Rep M G H v (.fn f) F) : ∃ a, v = .ref a ∧ M.fn f = some a := by
  cases r with
  | fn e => exact ⟨_, rfl, e⟩
theorem g_callv {i : Nat} {as : E} (ga : Good M Γ cf as) : Good M Γ cf (.callv i as) := by
  (refine good_of (fun _ _ => ⟨by first | exact .inl rfl | exact .inr rfl, rfl, rfl, rfl⟩) (fun _ => rfl) (fun _ => rfl) rfl fun {X W sc so} g e he => ?_)
  simp only [mt, mkM] at he
  split at he
  · rename_i x p es q
    simp only [Bool.and_eq_true, decide_eq_true_eq] at he
    obtain ⟨⟨⟨⟨h0, h1⟩, h2⟩, h3⟩, h5⟩ := he
    obtain ⟨p1, p2, p3⟩ := ga.as g es h5
    refine ⟨fun pins s σ H Q I h => ?_⟩
    obtain ⟨ρ, G, Fs, r, e, g0, hr, fin⟩ := h
    have hr' : (match slot ρ i with
      | some (.fn f) => bindR ((ev Γ as).as ρ) fun ds ρ => afterCall (anyImp as (tupOf ds)) (Γ f (seens as (tupOf ds))) (fun d _ => some (.ok d ρ)) ρ
      | _ => none) = some r := hr
    split at hr'
    · rename_i f hs
      obtain ⟨v, e1, rp⟩ := e.at_ i _ (slot_some hs)
      obtain ⟨a, rfl, ef⟩ := rp.fnInv
      · obtain ⟨a', fd, g', ps, k, F⟩ := g.fn f false (g.fnv h0 f a ef)
        have ea : a' = a := by
          have := F.fn rfl
          rw [ef] at this; cases this; rfl
        subst ea
        have qq : tD M W (ev Γ (.call f as)).v σ H Q := ⟨ρ, G, Fs, r, e, g0, hr', fin⟩
        cases es with
        | nil =>
          cases p3 rfl
          exact (pe_callGv F.run F.room g.guards (by rw [g.N]; exact h1) (g.vis h2) F.keep F.binds g.tk pa_nil (okNm1 h3) (okNm2 h3) p2 fun _ => rfl).run pins s σ H Q I ⟨e1, tA_nil (tCl_ok F.io F.len (fun ρ => rfl) qq)⟩
        | cons ex es =>
          exact (pe_callGv F.run F.room g.guards (by rw [g.N]; exact h1) (g.vis h2) F.keep F.binds g.tk p1 (okNm1 h3) (okNm2 h3) p2 fun z => by cases z).run pins s σ H Q I ⟨e1, tCl_ok F.io F.len (fun ρ => rfl) qq⟩
    · cases hr'
  · cases he
theorem g_callb {f : String} {i : Nat} {a as : E} (ga : Good M Γ cf a) (gas : Good M Γ cf as) : Good M Γ cf (.callb f i a as) := by
  (refine good_of (fun _ _ => ⟨by first | exact .inl rfl | exact .inr rfl, rfl, rfl, rfl⟩) (fun _ => rfl) (fun _ => rfl) rfl fun {X W sc so} g e he => ?_)
  simp only [mt, mkM] at he
  split at he
  · rename_i x p y p' e1 p'' es q
    simp only [Bool.and_eq_true, Bool.not_eq_true', decide_eq_true_eq, List.isEmpty_iff] at he
    obtain ⟨⟨⟨⟨⟨⟨⟨⟨⟨⟨⟨h1, h2⟩, h3⟩, h4⟩, h5⟩, h6⟩, h7⟩, h8⟩, h9⟩, h10⟩, h11⟩, h12⟩ := he
    cases nameIs_eq h1
    obtain ⟨ad, fd, g', ps, k, F⟩ := g.fn f false h4
    obtain ⟨p1, p2, p3⟩ := gas.as g es h12
    have pv : PE X (.Name y p') (tVar i) := g.var (by simp only [Bool.and_eq_true, decide_eq_true_eq]; exact ⟨⟨h5, h6⟩, h7⟩)
    have pl := pe_lst (pos := p'') (pa_cons pv (pa_cons (ga.v g _ h10) pa_nil (star_cons h9)))
    exact PE.imp (pe_callG F.run F.room g.guards (g.gl h2) F.mg F.keep F.binds g.tk (pa_cons pl p1) (okNm1 h3) (by rw [List.all_cons, p2]; rfl) fun z => by cases z) fun σ H Q q => tCl_b F.io h8 h11 F.len q
  · cases he
/-- e.value, e a tracked exception -/
def tXt (te : TE) : TE := fun σ H Q => te σ H fun x H1 => ∃ (a C d : Addr) (fs : List (Str × V)) (v : V) (c : String), x = .ref a ∧ M.cl c = some C ∧ H1 a = some (ExT (.ref C) (some d) a) ∧ H1 d = some (.xd fs) ∧ fs.lookup ("value" : Str) = some v ∧ Q v H1
theorem pe_fldx {X : Cx} {W : WX} {sc so : Scope} (g : GX M Γ cf X W sc so) {y : Str} {p pos : Pos} {te : TE} (he : PE X (.Name y p) te) : PE X (.Attribute (.Name y p) "value" pos) (tXt (M := M) te) := by
  refine ⟨fun pins s σ H Q I h => ?_⟩
  refine attr_of rfl (thn (he.run pins s σ H _ I h) fun u s1 ⟨x, H1, I1, rx, a, C, d, fs, v, c, ex, hc, ha, hd, hl, q⟩ => ?_)
  subst ex
  obtain rfl : u = Value.ref a := rx
  obtain ⟨⟨oe, vs, e1, zc, dt⟩, _, _⟩ := I1.hok a _ ha
  obtain ⟨mA, hns, hr⟩ := (show ObjOk X.prog X.w H1 s1.heap d (.xd fs) from I1.hok d _ hd)
  obtain ⟨od, ho, hk⟩ := lookIn_ns hns
  obtain ⟨w, hw, rw'⟩ := RelO.some_of (v := v) (o := mA "value") (by rw [← hl]; exact hr "value")
  have inst : PySem.W.InstAt s1.heap a oe C (some od) := ⟨e1, zc.1, by unfold PySem.W.notCls; rw [dt] <;> rfl, by rw [zc.2]; exact ho⟩
  obtain ⟨T, hno⟩ := g.xf c C hc
  exact HandSPX.exc_get I1.kIn inst T.ga T.gg T.exC (PySem.W.findObj_own T.hdC hno rfl (by rw [hk, hw])) (handed_of rw') ⟨v, H1, I1.tok _, rw', q⟩
theorem e_fld {W : WX} {σ : St} {H : Hp} {Q : VK} {a : E} (h : tD M W (ev Γ (.fld a)).v σ H Q) : tXt (M := M) (tO M W Γ a) σ H Q := by
  obtain ⟨ρ, G, Fs, r, e, g, hr, fin⟩ := h
  refine tO_use e g hr fin.ex fun x ρ1 v G1 H1 Fs1 F _ h2 p => ?_
  have fin1 := fin.step g p.pen
  split at h2
  · cases h2
    obtain ⟨F', rp⟩ := p.rep'
    cases rp with
    | exc c e1 e2 l r0 => exact ⟨_, _, _, _, _, _, rfl, by assumption, e1, e2, l, fin1.give p.pen.env p.pen.gok r0⟩
  · cases h2
theorem g_fld {a : E} (ga : Good M Γ cf a) : Good M Γ cf (.fld a) := by
  (refine good_of (fun _ _ => ⟨by first | exact .inl rfl | exact .inr rfl, rfl, rfl, rfl⟩) (fun _ => rfl) (fun _ => rfl) rfl fun {X W sc so} g e he => ?_)
  simp only [mt, mkM] at he
  split at he
  · simp only [Bool.and_eq_true] at he
    cases nameIs_eq he.1
    exact PE.imp (pe_fldx g (ga.v g _ he.2)) fun σ H Q q => e_fld q
  · cases he
theorem g_bi {b : BI} {as : E} (ga : Good M Γ cf as) : Good M Γ cf (.bi b as) := by
  by_cases hb : b = .bitlen
  · subst hb
    (refine good_of (fun _ _ => ⟨by first | exact .inl rfl | exact .inr rfl, rfl, rfl, rfl⟩) (fun _ => rfl) (fun _ => rfl) rfl fun {X W sc so} g e he => ?_)
    simp only [mt, mkM] at he
    split at he
    · simp only [Bool.and_eq_true] at he
      obtain ⟨⟨h1, h2⟩, h3⟩ := he
      cases nameIs_eq h1
      split at h3
      · rename_i i
        exact PE.imp (pe_bits (PE.imp (g.var h3) fun σ H Q q => e_var q) rfl h2) fun σ H Q q => e_bitlen q
      · cases h3
    · cases he
  · have e : ∀ sc so, mt cf (.bi b as) sc so = mkM fun e => match e with
      | .Call (.Name x _) (e1 :: es) [] _ => cf.cm && nameIs x b.name && gl sc x && (mt cf as sc so).as (e1 :: es)
      | _ => false := fun sc so => by cases b <;> first | rfl | exact absurd rfl hb
    refine good_of (fun sc so => by rw [e]; exact ⟨.inl rfl, rfl, rfl, rfl⟩) (fun _ => rfl) (fun _ => rfl) rfl fun {X W sc so} g e' he => ?_
    rw [e] at he
    simp only [mkM] at he
    split at he
    · rename_i x p e1 es q
      simp only [Bool.and_eq_true] at he
      obtain ⟨⟨⟨h0, h1⟩, h2⟩, h3⟩ := he
      cases nameIs_eq h1
      obtain ⟨p1, p2, p3⟩ := ga.as g _ h3
      have p2' := Bool.and_eq_true_iff.mp (by rw [List.all_cons] at p2; exact p2)
      have c := call_bi (g.calm h0) g.guards g.units b hb (X := X)
      have boot := bi_boot b hb
      have hm := g.bi _ (bi_mem b hb)
      by_cases ht : b.isTy = true
      · rw [if_pos ht] at c boot
        exact PE.imp (pe_callTy c (g.gl h2) hm boot p1 (by cases b <;> decide) (by cases b <;> decide) (star_cons p2'.1) (star_any p2'.2)) fun σ H Q q => by rw [g.K]; exact e_bi hb q
      · rw [if_neg ht] at c boot
        exact PE.imp (pe_callB c (g.gl h2) hm boot p1 (by cases b <;> decide) (by cases b <;> decide) (star_cons p2'.1) (star_any p2'.2)) fun σ H Q q => by rw [g.K]; exact e_bi hb q
    · cases he
end
end VI

set_option maxHeartbeats 1000000
set_option synthInstance.maxSize 128
set_option synthInstance.maxHeartbeats 20000
namespace VI
open PySem L2
section
variable {M : Nm} {Γ : Gam} {cf : Cf} {X : Cx} {W : WX} {sc so : Scope}
theorem cls_pe (g : GX M Γ cf X W sc so) (T : Ty) {p : Pos} (h : gl sc (Str.ofString T.name) = true) : PE X (.Name (Str.ofString T.name) p) (tC (.ty T.name)) :=
  pe_bltn (g.gl h) (g.bi _ (ty_mem T)) (ty_boot T) rfl (by cases T <;> decide) (by cases T <;> decide)
theorem cls_pa (g : GX M Γ cf X W sc so) : ∀ (ts : List Ty) (es : List Expr), mt.tys sc ts es = true → PA X es (clsA ts)
  | [], [], _ => pa_nil
  | T :: ts, .Name t p :: es, h => by
    simp only [mt.tys, Bool.and_eq_true] at h
    cases nameIs_eq h.1.1
    exact pa_cons (cls_pe g T h.1.2) (cls_pa g ts es h.2)
  | [], e :: es, h => by simp [mt.tys] at h
  | T :: ts, [], h => by simp [mt.tys] at h
theorem mem_bi {x : Str} (h : x ∈ biNames) (g : GX M Γ cf X W sc so) : X.mg x = none := g.bi x h
theorem g_isi {a : E} {ts : List Ty} (ga : Good M Γ cf a) : Good M Γ cf (.isi a ts) := by
  (refine good_of (fun _ _ => ⟨by first | exact .inl rfl | exact .inr rfl, rfl, rfl, rfl⟩) (fun _ => rfl) (fun _ => rfl) rfl fun {X W sc so} g e he => ?_)
  simp only [mt, mkM] at he
  have hs : (Str.ofString "isinstance") ∈ biNames := by decide
  split at he
  · rename_i x p y t q r
    simp only [Bool.and_eq_true] at he
    obtain ⟨⟨⟨⟨h1, h2⟩, h3⟩, h4⟩, h5⟩ := he
    cases nameIs_eq h1
    split at h5
    · rename_i T
      simp only [Bool.and_eq_true] at h5
      cases nameIs_eq h5.1
      exact PE.imp (pe_callB call_isi (g.gl h2) (g.bi _ hs) rfl (pa_cons (ga.v g _ h4) (pa_cons (cls_pe g T h5.2) pa_nil) (star_cons h3)) (by decide) (by decide) (star_cons h3)) fun σ H Q q => by rw [g.K]; exact e_isi1 q
    · cases h5
  · rename_i x p y zs k p2 r
    simp only [Bool.and_eq_true, decide_eq_true_eq] at he
    obtain ⟨⟨⟨⟨⟨h1, h2⟩, h3⟩, h4⟩, h5⟩, h6⟩ := he
    cases nameIs_eq h1
    exact PE.imp (pe_callB call_isiT (g.gl h2) (g.bi _ hs) rfl (pa_cons (ga.v g _ h4) (pa_cons (pe_tup (cls_pa g ts zs h6)) pa_nil) (star_cons h3)) (by decide) (by decide) (star_cons h3)) fun σ H Q q => by rw [g.K]; exact e_isiT h5 q
  · cases he
theorem g_lrg {a : E} (ga : Good M Γ cf a) : Good M Γ cf (.lrg a) := by
  (refine good_of (fun _ _ => ⟨by first | exact .inl rfl | exact .inr rfl, rfl, rfl, rfl⟩) (fun _ => rfl) (fun _ => rfl) rfl fun {X W sc so} g e he => ?_)
  simp only [mt, mkM] at he
  split at he
  · simp only [Bool.and_eq_true] at he
    obtain ⟨⟨⟨⟨⟨⟨h0, h1⟩, h2⟩, h3⟩, h4⟩, h5⟩, h6⟩ := he
    cases nameIs_eq h1
    cases nameIs_eq h3
    exact PE.imp (pe_listRg (g.calm h0) (g.gl h2) (g.bi _ (by decide)) (prg_1 (g.gl h4) (g.bi _ (by decide)) (ga.v g _ h6) (star1 h5))) fun σ H Q q => e_lrg q
  · cases he
theorem g_pop {i : Nat} {a : E} (ga : Good M Γ cf a) : Good M Γ cf (.pop i a) := by
  (refine good_of (fun _ _ => ⟨by first | exact .inl rfl | exact .inr rfl, rfl, rfl, rfl⟩) (fun _ => rfl) (fun _ => rfl) rfl fun {X W sc so} g e he => ?_)
  simp only [mt, mkM] at he
  split at he
  · rename_i y p m ap z cp
    simp only [Bool.and_eq_true, Bool.not_eq_true', decide_eq_true_eq] at he
    obtain ⟨⟨⟨⟨⟨⟨⟨h1, h2⟩, h3⟩, h4⟩, h5⟩, h6⟩, h7⟩, h8⟩ := he
    cases nameIs_eq h1
    have pv : PE X (.Name y p) (tVar i) := g.var (by simp only [Bool.and_eq_true, decide_eq_true_eq]; exact ⟨⟨h3, h4⟩, h5⟩)
    have pa := ga.v g _ h8
    rw [tO_eq h6] at pa
    exact PE.imp (pe_bm PySem.F.plainAttrs_list PySem.F.slot_list_pop PySem.F.type_list_pop mt_popAt pv (pa_cons pa pa_nil (star_cons h7)) rfl (few_ok h7) h2 (star_cons h7)) fun σ H Q q => by rw [g.K]; exact e_pop h6 q
  · cases he
theorem g_pop0 {i : Nat} : Good M Γ cf (.pop0 i) := by
  (refine good_of (fun _ _ => ⟨by first | exact .inl rfl | exact .inr rfl, rfl, rfl, rfl⟩) (fun _ => rfl) (fun _ => rfl) rfl fun {X W sc so} g e he => ?_)
  simp only [mt, mkM] at he
  split at he
  · rename_i y p m ap cp
    simp only [Bool.and_eq_true, decide_eq_true_eq] at he
    obtain ⟨⟨⟨⟨h1, h2⟩, h3⟩, h4⟩, h5⟩ := he
    cases nameIs_eq h1
    have pv : PE X (.Name y p) (tVar i) := g.var (by simp only [Bool.and_eq_true, decide_eq_true_eq]; exact ⟨⟨h3, h4⟩, h5⟩)
    exact PE.imp (pe_bm0 PySem.F.plainAttrs_list PySem.F.slot_list_pop PySem.F.type_list_pop mt_pop pv rfl h2) fun σ H Q q => by rw [g.K]; exact e_pop0 q
  · cases he
/-- a form that is only walked -/
theorem good_it {a : E} (hm : ∀ sc so, (mt cf a sc so).v = (fun _ => false) ∧ (mt cf a sc so).t = (fun _ => false) ∧ (mt cf a sc so).as = (fun _ => false) ∧ (mt cf a sc so).ks = (fun _ => false))
    (h : ∀ {X : Cx} {W : WX} {sc so : Scope}, GX M Γ cf X W sc so → ∀ tg e, (mt cf a sc so).it tg e = true → PI X tg e (tI M W Γ a)) : Good M Γ cf a where
  v := fun {X W sc so} g e he => by rw [(hm sc so).1] at he; cases he
  t := fun {X W sc so} g e he => by rw [(hm sc so).2.1] at he; cases he
  as := fun {X W sc so} g es he => by rw [(hm sc so).2.2.1] at he; cases he
  ks := fun {X W sc so} g es he => by rw [(hm sc so).2.2.2] at he; cases he
  it := h
theorem g_rng {a : E} (ga : Good M Γ cf a) : Good M Γ cf (.rng a) := by
  refine good_it (fun _ _ => ⟨rfl, rfl, rfl, rfl⟩) fun {X W sc so} g tg e he => ?_
  simp only [mt] at he
  split at he
  · simp only [Bool.and_eq_true] at he
    obtain ⟨⟨⟨h1, h2⟩, h3⟩, h4⟩ := he
    cases nameIs_eq h1
    exact PI.imp (pi_range1 (g.gl h2) (g.bi _ (by decide)) (pa_cons (ga.v g _ h4) pa_nil (star_cons h3)) (star1 h3)) fun σ H Q q => tI_rng q
  · cases he
theorem g_rng2 {a b : E} (ga : Good M Γ cf a) (gb : Good M Γ cf b) : Good M Γ cf (.rng2 a b) := by
  refine good_it (fun _ _ => ⟨rfl, rfl, rfl, rfl⟩) fun {X W sc so} g tg e he => ?_
  simp only [mt] at he
  split at he
  · simp only [Bool.and_eq_true] at he
    obtain ⟨⟨⟨⟨⟨h1, h2⟩, h3⟩, h4⟩, h5⟩, h6⟩ := he
    cases nameIs_eq h1
    exact PI.imp (pi_range2 (g.gl h2) (g.bi _ (by decide)) (pa_cons (ga.v g _ h5) (pa_cons (gb.v g _ h6) pa_nil (star_cons h4)) (star_cons h3)) (by rw [star_cons h3, star1 h4]) (star1 h4)) fun σ H Q q => tI_rng2 q
  · cases he
theorem noLk_ok {a : E} (h : mt.noLk a = true) : locks a = match (generalizing := false) a with | .bor i => [i] | _ => [] := by
  cases a <;> first | rfl | cases h
theorem g_enum {a : E} (ga : Good M Γ cf a) : Good M Γ cf (.enum a) := by
  refine good_it (fun _ _ => ⟨rfl, rfl, rfl, rfl⟩) fun {X W sc so} g tg e he => ?_
  simp only [mt, Bool.and_eq_true] at he
  obtain ⟨ht, he⟩ := he
  cases tg <;> first | (cases ht; done) | skip
  split at he
  · simp only [Bool.and_eq_true] at he
    obtain ⟨⟨⟨⟨h1, h2⟩, h3⟩, h4⟩, h5⟩ := he
    cases nameIs_eq h1
    exact PI.imp (pi_enum (g.gl h2) (g.bi _ (by decide)) (pa_cons (ga.v g _ h4) pa_nil (star_cons h3)) (star1 h3)) fun σ H Q q => by rw [g.K]; exact tI_enum (noLk_ok h5) q
  · cases he
theorem g_zip {a b : E} {st : Bool} (ga : Good M Γ cf a) (gb : Good M Γ cf b) : Good M Γ cf (.zip a b st) := by
  refine good_it (fun _ _ => ⟨rfl, rfl, rfl, rfl⟩) fun {X W sc so} g tg e he => ?_
  simp only [mt, Bool.and_eq_true, Bool.not_eq_true'] at he
  obtain ⟨⟨ht, hst⟩, he⟩ := he
  subst hst
  cases tg <;> first | (cases ht; done) | skip
  split at he
  · simp only [Bool.and_eq_true] at he
    obtain ⟨⟨⟨⟨⟨⟨⟨h1, h2⟩, h3⟩, h4⟩, h5⟩, h6⟩, h7⟩, h8⟩ := he
    cases nameIs_eq h1
    exact PI.imp (pi_zip (g.gl h2) (g.bi _ (by decide)) (pa_cons (ga.v g _ h5) (pa_cons (gb.v g _ h6) pa_nil (star_cons h4)) (star_cons h3)) (star_cons h3) (star_any (by rw [List.all_cons, h4]; rfl))) fun σ H Q q => by rw [g.K]; exact tI_zip q
  · cases he
theorem it_tup (a : E) : ∀ {ρ : Env} {d : D} {ρ1 : Env}, (ev Γ a).it ρ = some (.ok d ρ1) → ∃ ds, d = .tup ds := by
  intro ρ d ρ1 h
  have pl : (ev Γ a).it ρ = bindR ((ev Γ a).v ρ) (fun d ρ => (itemsOf d).map fun ds => .ok (.tup ds) ρ) → ∃ ds, d = .tup ds := fun e => by
    rw [e] at h
    rcases bindR_some h with ⟨x, ρ2, _, h2⟩ | ⟨_, _, _, _, h2⟩
    · simp only [Option.map_eq_some_iff] at h2
      obtain ⟨ds, _, h3⟩ := h2
      cases h3; exact ⟨_, rfl⟩
    · cases h2
  cases a with
  | nil => cases h
  | cons _ _ => cases h
  | rng a =>
    have h : bindR ((ev Γ a).v ρ) _ = _ := h
    rcases bindR_some h with ⟨x, ρ2, _, h2⟩ | ⟨_, _, _, _, h2⟩
    · split at h2
      · split at h2
        · cases h2; exact ⟨_, rfl⟩
        · cases h2
      · cases h2
    · cases h2
  | rng2 a b =>
    have h : bindR ((ev Γ a).v ρ) _ = _ := h
    rcases bindR_some h with ⟨x, ρ2, _, h2⟩ | ⟨_, _, _, _, h2⟩
    · rcases bindR_some h2 with ⟨y, ρ3, _, h3⟩ | ⟨_, _, _, _, h3⟩
      · split at h3
        · split at h3
          · cases h3; exact ⟨_, rfl⟩
          · cases h3
        · cases h3
      · cases h3
    · cases h2
  | enum a =>
    have h : bindR ((ev Γ a).v ρ) _ = _ := h
    rcases bindR_some h with ⟨x, ρ2, _, h2⟩ | ⟨_, _, _, _, h2⟩
    · simp only [Option.map_eq_some_iff] at h2
      obtain ⟨ds, _, h3⟩ := h2
      cases h3; exact ⟨_, rfl⟩
    · cases h2
  | zip a b st =>
    have h : bindR ((ev Γ a).v ρ) _ = _ := h
    rcases bindR_some h with ⟨x, ρ2, _, h2⟩ | ⟨_, _, _, _, h2⟩
    · rcases bindR_some h2 with ⟨y, ρ3, _, h3⟩ | ⟨_, _, _, _, h3⟩
      · simp only [Option.bind_eq_some_iff] at h3
        obtain ⟨_, _, xs, _, ys, _, h4⟩ := h3
        split at h4
        · cases h4
        · cases h4; exact ⟨_, rfl⟩
      · cases h3
    · cases h2
  | _ => exact pl rfl
theorem t_yes {M : Nm} {W : WX} {σ : St} {H : Hp} {Q : Bool → Hp → Prop} (h : tT M W (ev Γ (.bl true)).t σ H Q) : tYes σ H Q := by
  obtain ⟨ρ, G, Fs, r, e, g, hr, fin⟩ := h
  cases hr
  exact fin _ _ _ (.refl e g)
theorem comp_ok {own : List (String × Nat)} {tg : Tg} {it c elt : E} (gi : Good M Γ cf it) (gc : Good M Γ cf c) (ge : Good M Γ cf elt) (g : GX M Γ cf X W sc so) {tgt iter el : Expr} {ifs : List Expr} {scope : Scope}
    (he : (cf.cm && blkC cf.N sc scope (own.map fun p => (Str.ofString p.1, p.2)) && noSet iter && (tgSlots tg).all (fun j => decide (j ∈ own.map (·.2))) && (mtG cf.N cf.cm (relS scope sc) scope tg).1 tgt && (mt cf it sc so).it tgt iter &&
        (match ifs with
          | [] => isTrueE c
          | [ce] => (mt cf c (relS scope sc) scope).t ce
          | _ => false) &&
        !isBor elt && (mt cf elt (relS scope sc) scope).v el) = true) :
    X.calm = true ∧ (∀ j ∈ tgSlots tg, j ∈ own.map (·.2)) ∧ BlkOk X.N X.env.scope scope (own.map fun p => (Str.ofString p.1, p.2)) ∧ (∀ x, foldedSetIterable iter X.env x = pure x) ∧ PI X tgt iter (tI M W Γ it) ∧
    (∀ (s : Shared) (H : Hp) (C : Addr) (cl : List (Str × Addr)) (fp : List Addr), PG (X.blk s H scope (compEnvC scope cl C X.env) fp) tgt (gT M tg)) ∧
    (∀ (s : Shared) (H : Hp) (C : Addr) (cl : List (Str × Addr)) (fp : List Addr), PTs (X.blk s H scope (compEnvC scope cl C X.env) fp) ifs (tT M W0 (ev Γ c).t)) ∧
    (∀ (s : Shared) (H : Hp) (C : Addr) (cl : List (Str × Addr)) (fp : List Addr), PE (X.blk s H scope (compEnvC scope cl C X.env) fp) el (tD M W0 (ev Γ elt).v)) := by
  simp only [Bool.and_eq_true, Bool.not_eq_true', List.all_eq_true, decide_eq_true_eq] at he
  obtain ⟨⟨⟨⟨⟨⟨⟨⟨h0, h1⟩, h2⟩, h3⟩, h4⟩, h5⟩, h6⟩, h7⟩, h8⟩ := he
  refine ⟨g.calm h0, h3, blkOk_by (by rw [g.N, g.sc]; exact h1), noSet_ok h2 _, gi.it g _ _ h5, fun s H C cl fp => ((pg_ok (g.blk s H scope C cl fp) tg).1 _ h4).1, fun s H C cl fp => ?_, fun s H C cl fp => ?_⟩
  · split at h6
    · unfold isTrueE at h6
      split at h6
      · exact ⟨fun pins s σ H Q I q => pts_nil.run pins s σ H Q I (t_yes q)⟩
      · cases h6
    · exact pts_one (gc.t (g.blk s H scope C cl fp) _ h6)
    · cases h6
  · have := ge.v (g.blk s H scope C cl fp) _ h8
    rw [tO_eq h7] at this
    exact this
theorem own_snd (own : List (String × Nat)) : (own.map fun p => (Str.ofString p.1, p.2)).map (·.2) = own.map (·.2) := by rw [List.map_map]; rfl
theorem g_comp {own : List (String × Nat)} {tg : Tg} {it c elt : E} (gi : Good M Γ cf it) (gc : Good M Γ cf c) (ge : Good M Γ cf elt) : Good M Γ cf (.comp own tg it c elt) := by
  (refine good_of (fun _ _ => ⟨by first | exact .inl rfl | exact .inr rfl, rfl, rfl, rfl⟩) (fun _ => rfl) (fun _ => rfl) rfl fun {X W sc so} g e he => ?_)
  simp only [mt, mkV0] at he
  split at he
  · obtain ⟨h0, h1, h2, h3, h4, h5, h6, h7⟩ := comp_ok gi gc ge g he
    refine PE.imp (pe_lc h0 (by rw [g.N]; exact g.nd) h4 h2 h5 h6 h7 h3) fun σ H Q q => ?_
    rw [own_snd]
    exact tD_comp h1 (fun _ => rfl) (it_tup it) q
  · cases he
theorem good : ∀ a, Good M Γ cf a := by
  intro a
  induction a with
  | non => exact g_non
  | bl b => exact g_bl
  | int i => exact g_int
  | str x => exact g_str
  | var i => exact g_var
  | mov i => exact g_mov
  | bor i => exact g_bor
  | fzs i => exact g_fzs
  | gi x i => exact g_gi
  | fn f => exact g_fn
  | cls c => exact g_cls
  | frz e ih => exact g_frz ih
  | frzi e ih => exact g_frzi ih
  | nil => exact g_nil
  | cons h r ih1 ih2 => exact g_cons ih1 ih2
  | tup es ih => exact g_tup ih
  | lst es ih => exact g_lst ih
  | edic => exact g_edic
  | bin op a b ih1 ih2 => exact g_bin ih1 ih2
  | neg a ih => exact g_neg ih
  | not a ih => exact g_not ih
  | cmp op a b ih1 ih2 => exact g_cmp ih1 ih2
  | cmp2 o1 o2 a b c ih1 ih2 ih3 => exact g_cmp2 ih1 ih2 ih3
  | and a b ih1 ih2 => exact g_and ih1 ih2
  | or a b ih1 ih2 => exact g_or ih1 ih2
  | ite c a b ih1 ih2 ih3 => exact g_ite ih1 ih2 ih3
  | idx a i ih1 ih2 => exact g_idx ih1 ih2
  | sl a lo hi ih1 ih2 ih3 => exact g_sl ih1 ih2 ih3
  | call f as ih => exact g_call ih
  | callk f ns p as ks ih1 ih2 => exact g_callk ih1 ih2
  | callv i as ih => exact g_callv ih
  | calli f i as ih => exact g_calli ih
  | callb f i a as ih1 ih2 => exact g_callb ih1 ih2
  | bi b as ih => exact g_bi ih
  | isi a ts ih => exact g_isi ih
  | lrg a ih => exact g_lrg ih
  | comp own tg it c elt ih1 ih2 ih3 => exact g_comp ih1 ih2 ih3
  | rng a ih => exact g_rng ih
  | rng2 a b ih1 ih2 => exact g_rng2 ih1 ih2
  | enum a ih => exact g_enum ih
  | zip a b s ih1 ih2 => exact g_zip ih1 ih2
  | pop i a ih => exact g_pop ih
  | pop0 i => exact g_pop0
  | fld a ih => exact g_fld ih
end
end VI

set_option maxHeartbeats 1000000
set_option synthInstance.maxSize 128
set_option synthInstance.maxHeartbeats 20000
namespace VI
open PySem L2
/-! ### statements -/
structure PenS (M : Nm) (z : Bool) (σ : St) (G : Addr → Prop) (H : Hp) (O : Addr → Prop) (σ' : St) (ρ' : Env) (G' : Addr → Prop) (H' : Hp) (Fs' : Nat → List Addr) : Prop where
  env : EnvOK M G' H' σ' ρ' Fs'
  gok : GOK H' G'
  stp : Stp G H O G' H'
  own : ∀ b, Own Fs' b → (O b ∨ H b = none)
  fix : z = true → σ'[0]? = σ[0]?
  len : σ'.length = σ.length
structure PexS (M : Nm) (z : Bool) (σ : St) (G : Addr → Prop) (H : Hp) (O : Addr → Prop) (σ' : St) (ρ' : Env) (c : String) (d : D) (C dd : Addr) (G' : Addr → Prop) (H' : Hp) (Fs' : Nat → List Addr) : Prop where
  pen : PenS M z σ G H O σ' ρ' G' H' Fs'
  cl : M.cl c = some C
  fld : ∃ fs u, H' dd = some (.xd fs) ∧ fs.lookup ("value" : Str) = some u ∧ Rep M G' H' u d []
structure PstS (M : Nm) (z : Bool) (σ : St) (G : Addr → Prop) (H : Hp) (O : Addr → Prop) (σ' : St) (ρ' : Env) (d : D) (v : V) (G' : Addr → Prop) (H' : Hp) (Fs' : Nat → List Addr) (F : List Addr) : Prop where
  pen : PenS M z σ G H O σ' ρ' G' H' Fs'
  rep : Rep M G' H' v d F
  own : ∀ b ∈ F, O b ∨ H b = none
  nd : F.Nodup
  dj : ∀ b ∈ F, ¬ Own Fs' b
def FinS (M : Nm) (W : WX) (z : Bool) (D : Ends) (σ : St) (G : Addr → Prop) (H : Hp) (O : Addr → Prop) (r : SR) : Prop := match r with
  | .nx ρ' => ∀ σ' G' H' Fs', PenS M z σ G H O σ' ρ' G' H' Fs' → D.nx σ' H'
  | .bk ρ' => ∀ σ' G' H' Fs', PenS M z σ G H O σ' ρ' G' H' Fs' → D.bk σ' H'
  | .ct ρ' => ∀ σ' G' H' Fs', PenS M z σ G H O σ' ρ' G' H' Fs' → D.ct σ' H'
  | .rt d ρ' => ∀ v σ' G' H' Fs' F, PstS M z σ G H O σ' ρ' d v G' H' Fs' F → D.rt v H'
  | .ex c d ρ' => ∀ C dd σ' G' H' Fs', PexS M z σ G H O σ' ρ' c d C dd G' H' Fs' → W (.ref C) (some dd) σ' H'
def tS (M : Nm) (W : WX) (z : Bool) (f : Env → Option SR) : TS := fun D σ H => ∃ ρ G Fs r, EnvOK M G H σ ρ Fs ∧ GOK H G ∧ f ρ = some r ∧ FinS M W z D σ G H (Own Fs) r
section
variable {M : Nm} {W : WX} {Γ : Gam} {z : Bool} {σ σ1 σ2 : St} {ρ ρ' ρ1 ρ2 : Env} {G G' G1 G2 : Addr → Prop} {H H' H1 H2 : Hp} {Fs Fs' Fs1 Fs2 : Nat → List Addr} {O : Addr → Prop} {r : SR} {D : Ends}
theorem Pen.s (p : Pen M σ G H O ρ' G' H' Fs') : PenS M z σ G H O σ ρ' G' H' Fs' := ⟨p.env, p.gok, p.stp, p.own, fun _ => rfl, rfl⟩
theorem PenS.refl (e : EnvOK M G H σ ρ Fs) (g : GOK H G) : PenS M z σ G H (Own Fs) σ ρ G H Fs := (Pen.refl e g).s
theorem PenS.trans (g : GOK H G) (a : PenS M z σ G H O σ1 ρ1 G1 H1 Fs1) (b : PenS M z σ1 G1 H1 (Own Fs1) σ2 ρ2 G2 H2 Fs2) : PenS M z σ G H O σ2 ρ2 G2 H2 Fs2 :=
  ⟨b.env, b.gok, a.stp.trans g b.stp a.own, fun c h => (b.own c h).elim (a.own c) (fun z => .inr (a.stp.free z)), fun h => (b.fix h).trans (a.fix h), b.len.trans a.len⟩
theorem FinS.step (g : GOK H G) (f : FinS M W z D σ G H O r) (a : PenS M z σ G H O σ1 ρ1 G1 H1 Fs1) : FinS M W z D σ1 G1 H1 (Own Fs1) r := by
  cases r with
  | nx ρ' => exact fun σ' G' H' Fs' p => f σ' G' H' Fs' (a.trans g p)
  | bk ρ' => exact fun σ' G' H' Fs' p => f σ' G' H' Fs' (a.trans g p)
  | ct ρ' => exact fun σ' G' H' Fs' p => f σ' G' H' Fs' (a.trans g p)
  | rt d ρ' => exact fun v σ' G' H' Fs' F p => f v σ' G' H' Fs' F ⟨a.trans g p.pen, p.rep, fun c h => (p.own c h).elim (a.own c) (fun z => .inr (a.stp.free z)), p.nd, p.dj⟩
  | ex c d ρ' => exact fun C dd σ' G' H' Fs' p => f C dd σ' G' H' Fs' ⟨a.trans g p.pen, p.cl, p.fld⟩
theorem FinS.ex (f : FinS M W z D σ G H O r) : ∀ {c : String} {d : VI.D} {ρ' : Env}, r = .ex c d ρ' → ∀ {C dd : Addr} {G' : Addr → Prop} {H' : Hp} {Fs' : Nat → List Addr}, Pex M σ G H O ρ' c d C dd G' H' Fs' → W (.ref C) (some dd) σ H' := fun e => by
  subst e; exact fun {_ _ _ _ _} p => f _ _ _ _ _ _ ⟨⟨p.env, p.gok, p.stp, p.own, fun _ => rfl, rfl⟩, p.cl, p.fld⟩
theorem bindS_some {x : Option R} {k : VI.D → Env → Option SR} (h : bindS x k = some r) : (∃ d ρ1, x = some (.ok d ρ1) ∧ k d ρ1 = some r) ∨ ∃ c d ρ1, x = some (.ex c d ρ1) ∧ r = .ex c d ρ1 := by
  cases x with
  | none => cases h
  | some y =>
    cases y with
    | ok d ρ1 => exact .inl ⟨d, ρ1, rfl, h⟩
    | ex c d ρ1 => exact .inr ⟨c, d, ρ1, rfl, (Option.some.inj h).symm⟩
/-- uses of readings in statements -/
theorem tD_useS {f : Env → Option R} {Q : VK} {k : VI.D → Env → Option SR} (e : EnvOK M G H σ ρ Fs) (g : GOK H G) (hb : bindS (f ρ) k = some r)
    (hx : ∀ {c : String} {d : VI.D} {ρ' : Env}, r = .ex c d ρ' → ∀ {C dd : Addr} {G' : Addr → Prop} {H' : Hp} {Fs' : Nat → List Addr}, Pex M σ G H (Own Fs) ρ' c d C dd G' H' Fs' → W (.ref C) (some dd) σ H')
    (hk : ∀ d ρ1 v G1 H1 Fs1 F, k d ρ1 = some r → Pst M σ G H (Own Fs) ρ1 d v G1 H1 Fs1 F → Q v H1) : tD M W f σ H Q := by
  rcases bindS_some hb with ⟨d, ρ1, h1, h2⟩ | ⟨c, d, ρ1, h1, h2⟩
  · exact ⟨ρ, G, Fs, _, e, g, h1, fun v G' H' Fs' F p => hk d ρ1 v G' H' Fs' F h2 p⟩
  · exact ⟨ρ, G, Fs, _, e, g, h1, fun C dd G' H' Fs' p => hx h2 p⟩
theorem tT_useS {f : Env → Option R} {Q : Bool → Hp → Prop} {k : VI.D → Env → Option SR} (e : EnvOK M G H σ ρ Fs) (g : GOK H G) (hb : bindS (f ρ) k = some r)
    (hx : ∀ {c : String} {d : VI.D} {ρ' : Env}, r = .ex c d ρ' → ∀ {C dd : Addr} {G' : Addr → Prop} {H' : Hp} {Fs' : Nat → List Addr}, Pex M σ G H (Own Fs) ρ' c d C dd G' H' Fs' → W (.ref C) (some dd) σ H')
    (hd : ∀ d ρ1, k d ρ1 = some r → ∃ b, d = .bl b)
    (hk : ∀ b ρ1 G1 H1 Fs1, k (.bl b) ρ1 = some r → Pen M σ G H (Own Fs) ρ1 G1 H1 Fs1 → Q b H1) : tT M W f σ H Q := by
  rcases bindS_some hb with ⟨d, ρ1, h1, h2⟩ | ⟨c, d, ρ1, h1, h2⟩
  · obtain ⟨b, rfl⟩ := hd _ _ h2
    exact ⟨ρ, G, Fs, _, e, g, h1, fun G' H' Fs' p => hk b ρ1 G' H' Fs' h2 p⟩
  · exact ⟨ρ, G, Fs, _, e, g, h1, fun C dd G' H' Fs' p => hx h2 p⟩
theorem tA_useS {as : E} {Q : List V → Hp → Prop} {k : VI.D → Env → Option SR} (e : EnvOK M G H σ ρ Fs) (g : GOK H G) (hb : bindS ((ev Γ as).as ρ) k = some r)
    (hx : ∀ {c : String} {d : VI.D} {ρ' : Env}, r = .ex c d ρ' → ∀ {C dd : Addr} {G' : Addr → Prop} {H' : Hp} {Fs' : Nat → List Addr}, Pex M σ G H (Own Fs) ρ' c d C dd G' H' Fs' → W (.ref C) (some dd) σ H')
    (hk : ∀ ds ρ1 vs G1 H1 Fs1 F, k (.tup ds) ρ1 = some r → PstA M σ G H (Own Fs) as ρ1 ds vs G1 H1 Fs1 F → Q vs H1) : tA M W Γ as σ H Q := by
  rcases bindS_some hb with ⟨d, ρ1, h1, h2⟩ | ⟨c, d, ρ1, h1, h2⟩
  · obtain ⟨ds, rfl⟩ := as_tup as h1
    exact ⟨ρ, G, Fs, .ok (.tup ds) ρ1, e, g, h1, fun vs G' H' Fs' F p => hk ds ρ1 vs G' H' Fs' F h2 p⟩
  · exact ⟨ρ, G, Fs, .ex c d ρ1, e, g, h1, fun C dd G' H' Fs' p => hx h2 p⟩
theorem tI_useS {it : E} {Q : It → Hp → Prop} {k : VI.D → Env → Option SR} (e : EnvOK M G H σ ρ Fs) (g : GOK H G) (hb : bindS ((ev Γ it).it ρ) k = some r)
    (hx : ∀ {c : String} {d : VI.D} {ρ' : Env}, r = .ex c d ρ' → ∀ {C dd : Addr} {G' : Addr → Prop} {H' : Hp} {Fs' : Nat → List Addr}, Pex M σ G H (Own Fs) ρ' c d C dd G' H' Fs' → W (.ref C) (some dd) σ H')
    (hp : ∀ ds ρ1, k (.tup ds) ρ1 = some r → VI.D.pures ds = true)
    (hk : ∀ ds ρ1 J G1 H1 Fs1 F, k (.tup ds) ρ1 = some r → PstI M σ G H (Own Fs) it ρ1 ds J G1 H1 Fs1 F → Q J H1) : tI M W Γ it σ H Q := by
  rcases bindS_some hb with ⟨d, ρ1, h1, h2⟩ | ⟨c, d, ρ1, h1, h2⟩
  · obtain ⟨ds, rfl⟩ := it_tup it h1
    exact ⟨ρ, G, Fs, .ok (.tup ds) ρ1, e, g, h1, fun ds' ρ' q => (by cases q; exact hp ds ρ1 h2), fun _ J G' H' Fs' F p => hk ds ρ1 J G' H' Fs' F h2 p⟩
  · exact ⟨ρ, G, Fs, .ex c d ρ1, e, g, h1, fun ds' ρ' q => (by cases q), fun C dd G' H' Fs' p => hx h2 p⟩
/-! ### one by one -/
theorem s_nil (h : tS M W z (fun ρ => some (.nx ρ)) D σ H) : tNext D σ H := by
  obtain ⟨ρ, G, Fs, r, e, g, hr, fin⟩ := h
  cases hr
  exact fin _ _ _ _ (.refl e g)
theorem s_brk (h : tS M W z (fun ρ => some (.bk ρ)) D σ H) : tBreak D σ H := by
  obtain ⟨ρ, G, Fs, r, e, g, hr, fin⟩ := h
  cases hr
  exact fin _ _ _ _ (.refl e g)
theorem s_cnt (h : tS M W z (fun ρ => some (.ct ρ)) D σ H) : tCont D σ H := by
  obtain ⟨ρ, G, Fs, r, e, g, hr, fin⟩ := h
  cases hr
  exact fin _ _ _ _ (.refl e g)
theorem s_seq {f k : Env → Option SR} (h : tS M W z (fun ρ => match f ρ with
    | some (.nx ρ1) => k ρ1
    | r => r) D σ H) : tSeq (tS M W z f) (tS M W z k) D σ H := by
  obtain ⟨ρ, G, Fs, r, e, g, hr', fin⟩ := h
  have hr : (match f ρ with
    | some (.nx ρ1) => k ρ1
    | r => r) = some r := hr'
  cases q : f ρ with
  | none => rw [q] at hr; cases hr
  | some r1 =>
    rw [q] at hr
    refine ⟨ρ, G, Fs, r1, e, g, q, ?_⟩
    cases r1 with
    | nx ρ1 => exact fun σ' G' H' Fs' p => ⟨ρ1, G', Fs', r, p.env, p.gok, hr, fin.step g p⟩
    | bk ρ1 => cases hr; exact fin
    | ct ρ1 => cases hr; exact fin
    | rt d ρ1 => cases hr; exact fin
    | ex c d ρ1 => cases hr; exact fin
theorem s_ret {f : Env → Option R} (h : tS M W z (fun ρ => bindS (f ρ) fun d ρ => some (.rt d ρ)) D σ H) : tRet (tD M W f) D σ H := by
  obtain ⟨ρ, G, Fs, r, e, g, hr, fin⟩ := h
  refine tD_useS e g hr fin.ex fun d ρ1 v G1 H1 Fs1 F h2 p => ?_
  cases h2
  exact fin v σ G1 H1 Fs1 F ⟨p.pen.s, p.rep, fun b h => p.own b (.inl h), p.nd, p.dj⟩
theorem s_retn (h : tS M W z (fun ρ => some (.rt .non ρ)) D σ H) : tRetN D σ H := by
  obtain ⟨ρ, G, Fs, r, e, g, hr, fin⟩ := h
  cases hr
  exact fin .non σ G H Fs [] ⟨.refl e g, .non, fun _ z => (nomatch z), .nil, fun _ z => (nomatch z)⟩
theorem s_drop {f : Env → Option R} (h : tS M W z (fun ρ => bindS (f ρ) fun _ ρ => some (.nx ρ)) D σ H) : tDrop (tD M W f) D σ H := by
  obtain ⟨ρ, G, Fs, r, e, g, hr, fin⟩ := h
  refine tD_useS e g hr fin.ex fun d ρ1 v G1 H1 Fs1 F h2 p => ?_
  cases h2
  exact fin σ G1 H1 Fs1 p.pen.s
theorem s_if {c : Env → Option R} {a b : Env → Option SR} (h : tS M W z (fun ρ => bindS (c ρ) fun x ρ => match x with
    | .bl true => a ρ
    | .bl false => b ρ
    | _ => none) D σ H) : tIfS (tT M W c) (tS M W z a) (tS M W z b) D σ H := by
  obtain ⟨ρ, G, Fs, r, e, g, hr, fin⟩ := h
  refine tT_useS e g hr fin.ex (fun d ρ1 q => ?_) fun k ρ1 G1 H1 Fs1 h2 p => ?_
  · split at q <;> first | exact ⟨_, rfl⟩ | cases q
  · have fin1 := fin.step g p.s
    cases k with
    | true =>
      rw [if_pos rfl]
      exact ⟨ρ1, G1, Fs1, r, p.env, p.gok, h2, fin1⟩
    | false =>
      rw [if_neg Bool.false_ne_true]
      exact ⟨ρ1, G1, Fs1, r, p.env, p.gok, h2, fin1⟩
theorem assign_len (a : Tg) : (∀ (d : VI.D) (ρ ρ' : Env), assignT a d ρ = some ρ' → ρ'.length = ρ.length) ∧ ∀ (ds : List VI.D) (ρ ρ' : Env), assignTs a ds ρ = some ρ' → ρ'.length = ρ.length := by
  induction a with
  | n i => exact ⟨fun d ρ ρ' h => (by cases h; exact List.length_set ..), fun ds ρ ρ' h => (by cases ds <;> cases h)⟩
  | t ts ih => exact ⟨fun d ρ ρ' h => (by cases d <;> first | (cases h; done) | exact ih.2 _ _ _ h), fun ds ρ ρ' h => (by cases ds <;> cases h)⟩
  | nil => exact ⟨fun d ρ ρ' h => (by cases h), fun ds ρ ρ' h => (by cases ds <;> cases h; rfl)⟩
  | cons a b iha ihb =>
    refine ⟨fun d ρ ρ' h => (by cases h), fun ds ρ ρ' h => ?_⟩
    cases ds with
    | nil => cases h
    | cons d ds =>
      have h' : ((assignT a d ρ).bind fun ρ1 => assignTs b ds ρ1) = some ρ' := h
      simp only [Option.bind_eq_some_iff] at h'
      obtain ⟨ρ1, h1, h2⟩ := h'
      rw [ihb.2 _ _ _ h2, iha.1 _ _ _ h1]
/-- behind a store -/
theorem Stored.pen {d : VI.D} {v : V} {F : List Addr} {tg : Tg} (hz : z = true → 0 ∉ tgSlots tg) (p : Pst M σ G H O ρ1 d v G1 H1 Fs1 F) (ha : assignT tg d ρ1 = some ρ2) (s : Stored M G1 H1 σ Fs1 F (tgSlots tg) σ2 ρ2 Fs2) : PenS M z σ G H O σ2 ρ2 G1 H1 Fs2 :=
  ⟨s.env, p.gok, p.stp, fun b h => (s.own b h).elim (fun w => p.own b (.inr w)) (fun w => p.own b (.inl w)), fun h => s.fix 0 (hz h), by
    rw [← s.env.len, (assign_len tg).1 _ _ _ ha, p.env.len]⟩
theorem s_asg {tg : Tg} {f : Env → Option R} (hz : z = true → 0 ∉ tgSlots tg) (h : tS M W z (fun ρ => bindS (f ρ) fun d ρ => (assignT tg d ρ).map .nx) D σ H) : tAsg (tD M W f) (gT M tg) D σ H := by
  obtain ⟨ρ, G, Fs, r, e, g, hr, fin⟩ := h
  refine tD_useS e g hr fin.ex fun d ρ1 v G1 H1 Fs1 F h2 p => ?_
  simp only [Option.map_eq_some_iff] at h2
  obtain ⟨ρ2, h3, h4⟩ := h2
  subst h4
  exact ⟨G1, Fs1, ρ1, d, F, ρ2, p.env, p.rep, p.nd, p.dj, h3, fun σ2 Fs2 st => fin σ2 G1 H1 Fs2 (st.pen hz p h3)⟩
end
end VI

set_option maxHeartbeats 1000000
set_option synthInstance.maxSize 128
set_option synthInstance.maxHeartbeats 20000
namespace VI
open PySem L2
def tgL : List Nat → Tg
  | [] => .nil
  | i :: is => .cons (.n i) (tgL is)
theorem tgL_assign : ∀ (is : List Nat) (ds : List D) (ρ : Env), ds.length = is.length → assignTs (tgL is) ds ρ = some (setAll is ds ρ)
  | [], [], ρ, _ => rfl
  | [], _ :: _, ρ, h => by simp at h
  | _ :: _, [], ρ, h => by simp at h
  | i :: is, d :: ds, ρ, h => tgL_assign is ds (ρ.set i (some d)) (by simpa using h)
theorem tgL_slots : ∀ is : List Nat, tgSlots (tgL is) = is
  | [] => rfl
  | i :: is => by show i :: tgSlots (tgL is) = _; rw [tgL_slots is]
section
variable {M : Nm} {W : WX} {Γ : Gam} {z : Bool} {σ σ1 σ2 : St} {ρ ρ' ρ1 ρ2 : Env} {G G' G1 G2 : Addr → Prop} {H H' H1 H2 : Hp} {Fs Fs' Fs1 Fs2 : Nat → List Addr} {O : Addr → Prop} {r : SR} {D : Ends}
theorem par_use {is : List Nat} {es : E} {Q : List V → St → Hp → Prop} (hb : borsOf es = []) (hz : z = true → 0 ∉ is)
    (h : tS M W z (fun ρ => bindS ((ev Γ es).as ρ) fun ds ρ => if (tupOf ds).length = is.length then some (.nx (setAll is (tupOf ds) ρ)) else none) D σ H)
    (hq : ∀ vs H1, gTs M (tgL is) vs σ H1 D.nx → Q vs σ H1) : tA M W Γ es σ H fun vs H1 => Q vs σ H1 := by
  obtain ⟨ρ, G, Fs, r, e, g, hr, fin⟩ := h
  refine tA_useS e g hr fin.ex fun ds ρ1 vs G1 H1 Fs1 F h2 p => ?_
  have h2' : (if ds.length = is.length then some (SR.nx (setAll is ds ρ1)) else none) = some r := h2
  split at h2'
  · rename_i hl
    cases h2'
    refine hq _ _ ⟨G1, Fs1, ρ1, ds, F, _, p.pen.env, p.rep.pure hb, p.nd, p.dj, tgL_assign is ds ρ1 hl, fun σ2 Fs2 st => fin σ2 G1 H1 Fs2 ⟨st.env, p.pen.gok, p.pen.stp, fun b h => (st.own b h).elim (p.pen.own b) (p.own b), fun h => st.fix 0 (by rw [tgL_slots]; exact hz h), ?_⟩⟩
    rw [← st.env.len, (assign_len _).2 _ _ _ (tgL_assign is ds ρ1 hl), p.pen.env.len]
  · cases h2'
theorem s_par {i j : Nat} {es : E} (hb : borsOf es = []) (hz : z = true → 0 ∉ [i, j])
    (h : tS M W z (fun ρ => bindS ((ev Γ es).as ρ) fun ds ρ => if (tupOf ds).length = [i, j].length then some (.nx (setAll [i, j] (tupOf ds) ρ)) else none) D σ H) : tPar i j (tA M W Γ es) D σ H :=
  par_use (Q := fun vs σ H1 => ∃ v w, vs = [v, w] ∧ D.nx ((σ.set i (some v)).set j (some w)) H1) hb hz h fun vs H1 q0 => by
    obtain ⟨v, r, rfl, q⟩ := gTs_cons q0
    have q1 := gT_n q
    obtain ⟨w, r', rfl, q2⟩ := gTs_cons q1
    have q3 := gT_n q2
    obtain ⟨rfl, q4⟩ := gTs_nil q3
    exact ⟨v, w, rfl, q4⟩
theorem s_par3 {i j l : Nat} {es : E} (hb : borsOf es = []) (hz : z = true → 0 ∉ [i, j, l])
    (h : tS M W z (fun ρ => bindS ((ev Γ es).as ρ) fun ds ρ => if (tupOf ds).length = [i, j, l].length then some (.nx (setAll [i, j, l] (tupOf ds) ρ)) else none) D σ H) : tPar3 i j l (tA M W Γ es) D σ H :=
  par_use (Q := fun vs σ H1 => ∃ u v w, vs = [u, v, w] ∧ D.nx (((σ.set i (some u)).set j (some v)).set l (some w)) H1) hb hz h fun vs H1 q0 => by
    obtain ⟨u, r, rfl, q⟩ := gTs_cons q0
    have q1 := gT_n q
    obtain ⟨v, r', rfl, q2⟩ := gTs_cons q1
    have q3 := gT_n q2
    obtain ⟨w, r', rfl, q4⟩ := gTs_cons q3
    have q5 := gT_n q4
    obtain ⟨rfl, q6⟩ := gTs_nil q5
    exact ⟨u, v, w, rfl, q6⟩
theorem Own.up {i : Nat} {a : Addr} {F0 F1 : List Addr} {b : Addr} (hF : Fs i = a :: F0) (h : Own (upF Fs i (a :: F1)) b) : Own Fs b ∨ b ∈ F1 := by
  rcases own_up h with h | ⟨j, _, h⟩
  · rcases List.mem_cons.mp h with h | h
    · exact .inl ⟨i, by rw [hF, h]; exact List.mem_cons_self⟩
    · exact .inr h
  · exact .inl ⟨j, h⟩
theorem RepL.set0 {v : V} {d : VI.D} (rv : Rep M G H v d []) : ∀ {vs : List V} {ds : List VI.D} (k : Nat), RepL M G H vs ds [] → RepL M G H (vs.set k v) (ds.set k d) []
  | [], ds, k, h => by have := h.length; cases ds with | nil => exact .nil | cons _ _ => simp at this
  | _ :: _, [], k, h => by have := h.length; simp at this
  | v0 :: vs, d0 :: ds, 0, h => .cons (F := []) (Fs := []) rv h.inv.2
  | v0 :: vs, d0 :: ds, k + 1, h => .cons (F := []) (Fs := []) h.inv.1 (RepL.set0 rv k h.inv.2)
theorem s_seti {i : Nat} {ix e : E} (hb : isBor ix = false) (h : tS M W z (evS Γ up (.seti i ix e)) D σ H) : tAsg (tD M W (ev Γ e).v) (gSub (tVar i) (tD M W (ev Γ ix).v) rSetL) D σ H := by
  obtain ⟨ρ, G, Fs, r, e0, g, hr, fin⟩ := h
  have hr' : bindS ((ev Γ e).v ρ) (fun d ρ => match slot ρ i with
    | some (.lst true _) => bindS ((ev Γ ix).v ρ) fun k ρ => (match slot ρ i, k with
      | some (.lst true xs), .int k => if VI.D.pures xs && d.pure then (ixN xs.length k).map fun j => SR.nx (ρ.set i (some (.lst true (xs.set j d)))) else none
      | _, _ => none)
    | _ => none) = some r := hr
  refine tD_useS e0 g hr' fin.ex fun d ρ1 v G1 H1 Fs1 F h2 p => ?_
  have fin1 := fin.step g p.pen.s
  split at h2
  · rename_i xs0 hs0
    obtain ⟨p0, vs0, F00, e1, ea0, _, _, _⟩ := p.env.own0 hs0
    refine ⟨.ref p0, e1, ?_⟩
    refine tD_useS p.env p.gok h2 fin1.ex fun k ρ2 w G2 H2 Fs2 F2 h3 q => ?_
    split at h3
    · rename_i xs k hs
      split at h3
      · rename_i hc
        have hc := Bool.and_eq_true_iff.mp hc
        simp only [Option.map_eq_some_iff] at h3
        obtain ⟨j, h4, h5⟩ := h3
        subst h5
        have := q.rep
        cases this
        obtain ⟨p1, vs, F0, e2, ea, ga, ra, hF⟩ := q.env.own0 hs
        rw [e1] at e2; cases e2
        have := ra.pure hc.1; subst this
        have := p.rep.pure hc.2; subst this
        have rv := p.rep.mono p.gok (q.pen.noF p.env p.gok)
        obtain ⟨e', g', st⟩ := q.env.relst q.gok hs e1 ea ga hF (RepL.set0 rv j ra) (fun z => (nomatch z)) .nil (fun _ z => (nomatch z))
        refine ⟨p0, vs, k, j, rfl, rfl, ea, by rw [ra.length]; exact h4, ?_⟩
        have fin2 := fin1.step p.gok q.pen.s
        exact fin2 σ _ _ _ ⟨e', g', st, fun b h => (Own.up hF h).elim .inl (fun w => nomatch w), fun _ => rfl, rfl⟩
      · cases h3
    · cases h3
  · cases h2
theorem s_app {i : Nat} {e : E} (hb : isBor e = false) (h : tS M W z (evS Γ up (.app i e)) D σ H) : tDrop (tBM M.K "list" rAppend (tVar i) (tCons (tD M W (ev Γ e).v) tNil)) D σ H := by
  obtain ⟨ρ, G, Fs, r, e0, g, hr, fin⟩ := h
  have hr' : (match slot ρ i with
    | some (.lst true _) => bindS ((ev Γ e).v ρ) fun d ρ => (match slot ρ i with
      | some (.lst true xs) => if xs.length < sizeLine then some (SR.nx (ρ.set i (some (.lst true (xs ++ [d]))))) else none
      | _ => none)
    | _ => none) = some r := hr
  split at hr'
  · rename_i xs0 hs0
    obtain ⟨p0, vs0, F00, e1, ea0, _, _, _⟩ := e0.own0 hs0
    refine ⟨.ref p0, e1, .inl ⟨rfl, vs0, .of ea0⟩, ?_⟩
    refine tD_useS e0 g hr' fin.ex fun d ρ1 v G1 H1 Fs1 F h2 p => ?_
    split at h2
    · rename_i xs hs
      split at h2
      · rename_i hz
        cases h2
        obtain ⟨p1, vs, F0, e2, ea, ga, ra, hF⟩ := p.env.own0 hs
        rw [e1] at e2; cases e2
        have nF := p.env.nodupF hF
        have ne : ∀ b ∈ F, b ≠ p0 := fun b hb e => p.dj b hb ⟨i, by rw [hF, e]; exact List.mem_cons_self⟩
        have rl : RepL M G1 H1 (vs ++ [v]) (xs ++ [d]) (F0 ++ (F ++ [])) := ra.app (.cons p.rep .nil)
        rw [List.append_nil] at rl
        obtain ⟨e', g', st⟩ := p.env.relst p.gok hs e1 ea ga hF rl (fun w => (List.mem_append.mp w).elim nF.1 fun w => ne _ w rfl)
          (List.nodup_append.mpr ⟨nF.2, p.nd, fun b h1 c h2 e => p.dj c h2 ⟨i, by rw [hF, ← e]; exact List.mem_cons_of_mem _ h1⟩⟩)
          (fun b hb j hj w => (List.mem_append.mp hb).elim (fun q => p.env.dj i j b (Ne.symm hj) (by rw [hF]; exact List.mem_cons_of_mem _ q) w) fun q => p.dj b q ⟨j, w⟩)
        refine ⟨p0, vs, v, rfl, rfl, ea, by rw [ra.length]; exact hz, ?_⟩
        have fin1 := fin.step g p.pen.s
        refine fin σ G1 _ _ ⟨e', g', p.stp.trans g st fun c h => p.own c (.inr h), fun b h => ?_, fun _ => rfl, rfl⟩
        rcases Own.up hF h with h | h
        · exact p.own b (.inr h)
        · rcases List.mem_append.mp h with h | h
          · exact p.own b (.inr ⟨i, by rw [hF]; exact List.mem_cons_of_mem _ h⟩)
          · exact p.own b (.inl h)
      · cases h2
    · cases h2
  · cases hr'
/-! ### loops -/
theorem s_whl {c : Env → Option R} {f : Env → Option SR} {n : Nat} (h : tS M W z (fun ρ => whileLoop c f n ρ) D σ H) : tWhile (tT M W c) (tS M W z f) D σ H := by
  obtain ⟨ρ, G, Fs, r, e, g, hr, fin⟩ := h
  refine ⟨fun m σ' H' => ∃ ρ' G' Fs', whileLoop c f m ρ' = some r ∧ PenS M z σ G H (Own Fs) σ' ρ' G' H' Fs', ⟨n, ρ, G, Fs, hr, .refl e g⟩, ?_⟩
  rintro m σ1 H1 ⟨ρ1, G1, Fs1, hw, p⟩
  cases m with
  | zero => cases hw
  | succ m =>
    have hw' : bindS (c ρ1) (fun x ρ1 => match x with
      | .bl true => (match f ρ1 with
        | some (.nx ρ2) => whileLoop c f m ρ2
        | some (.ct ρ2) => whileLoop c f m ρ2
        | some (.bk ρ2) => some (.nx ρ2)
        | r => r)
      | .bl false => some (.nx ρ1)
      | _ => none) = some r := hw
    have fin1 := fin.step g p
    refine tT_useS p.env p.gok hw' fin1.ex (fun d ρ1 q => ?_) fun k ρ2 G2 H2 Fs2 h2 p2 => ?_
    · split at q <;> first | exact ⟨_, rfl⟩ | cases q
    · have p3 := p.trans g p2.s
      cases k with
      | false =>
        rw [if_neg Bool.false_ne_true]
        cases h2
        exact fin _ _ _ _ p3
      | true =>
        rw [if_pos rfl]
        have h2' : (match f ρ2 with
          | some (.nx ρ2) => whileLoop c f m ρ2
          | some (.ct ρ2) => whileLoop c f m ρ2
          | some (.bk ρ2) => some (.nx ρ2)
          | r => r) = some r := h2
        refine ⟨fun σ' H' => ∃ ρ' G' Fs', whileLoop c f m ρ' = some r ∧ PenS M z σ G H (Own Fs) σ' ρ' G' H' Fs', fun σ' H' q => ⟨m, Nat.lt_succ_self m, q⟩, ?_⟩
        cases q : f ρ2 with
        | none => rw [q] at h2'; cases h2'
        | some r2 =>
          rw [q] at h2'
          refine ⟨ρ2, G2, Fs2, r2, p3.env, p3.gok, q, ?_⟩
          cases r2 with
          | nx ρ3 => exact fun σ' G' H' Fs' p4 => ⟨ρ3, G', Fs', h2', p3.trans g p4⟩
          | ct ρ3 => exact fun σ' G' H' Fs' p4 => ⟨ρ3, G', Fs', h2', p3.trans g p4⟩
          | bk ρ3 => cases h2'; exact fun σ' G' H' Fs' p4 => fin _ _ _ _ (p3.trans g p4)
          | rt d ρ3 => cases h2'; exact fin.step g p3
          | ex c d ρ3 => cases h2'; exact fin.step g p3
theorem drop_cons {α : Type} {l : List α} {i : Nat} {a : α} (h : l[i]? = some a) : l.drop i = a :: l.drop (i + 1) := by
  obtain ⟨hi, e⟩ := List.getElem?_eq_some_iff.mp h
  rw [List.drop_eq_getElem_cons hi, e]
theorem s_for {tg : Tg} {it : E} {f : Env → Option SR} (hz : z = true → 0 ∉ tgSlots tg) (hl : locks it = [])
    (h : tS M W z (fun ρ => bindS ((ev Γ it).it ρ) fun ds ρ1 => if VI.D.pures (tupOf ds) then forLoop tg f (tupOf ds) ρ1 else none) D σ H) : tFor (tI M W Γ it) (gT M tg) (tS M W z f) D σ H := by
  obtain ⟨ρ, G, Fs, r, e, g, hr, fin⟩ := h
  refine tI_useS e g hr fin.ex (fun ds ρ1 h => ?_) fun ds ρ1 J G1 H1 Fs1 F h2 p => ?_
  · have h' : (if VI.D.pures ds then forLoop tg f ds ρ1 else none) = some r := h
    split at h'
    · assumption
    · cases h'
  have h2' : (if VI.D.pures ds then forLoop tg f ds ρ1 else none) = some r := h2
  split at h2'
  · rename_i hp
    have fin1 := fin.step g p.pen.s
    have dj : ∀ b ∈ F, ¬ Own Fs1 b := fun b hb ⟨i, w⟩ => p.dj b hb ⟨i, by unfold wipeF; rw [hl, if_neg (by simp)]; exact w⟩
    refine ⟨fun i m σ' H' => (m = ds.length - i ∧ i ≤ ds.length) ∧ ∃ ρ' G' Fs', forLoop tg f (ds.drop i) ρ' = some r ∧ PenS M z σ G1 H1 (Own Fs1) σ' ρ' G' H' Fs', ⟨ds.length, ⟨rfl, Nat.zero_le _⟩, ρ1, G1, Fs1, h2', .refl p.pen.env p.pen.gok⟩, ?_⟩
    rintro i m σ2 H2 ⟨⟨hm, hle⟩, ρ2, G2, Fs2, hw, p2⟩
    have kp : Kp G1 H1 G2 H2 F := p2.stp.kp p.pen.gok (fun b h => p.pen.env.own h) fun b hb => ⟨p.fG b hb, dj b hb⟩
    by_cases hi : i < ds.length
    · refine .inr ⟨p.wk.go _ _ p2.gok kp i hi, fun σ' H' => ∃ ρ' G' Fs', forLoop tg f (ds.drop (i + 1)) ρ' = some r ∧ PenS M z σ G1 H1 (Own Fs1) σ' ρ' G' H' Fs', fun σ' H' q => ⟨ds.length - (i + 1), by omega, ⟨rfl, hi⟩, q⟩, fun x H3 y => ?_⟩
      obtain ⟨d, hd, hH, rx⟩ := p.wk.yld _ _ p2.gok kp i x H3 hi y
      rw [drop_cons hd] at hw
      have hw' : ((assignT tg d ρ2).bind fun ρ1 => match f ρ1 with
        | some (.nx ρ2) => forLoop tg f (ds.drop (i + 1)) ρ2
        | some (.ct ρ2) => forLoop tg f (ds.drop (i + 1)) ρ2
        | some (.bk ρ2) => some (.nx ρ2)
        | r => r) = some r := hw
      simp only [Option.bind_eq_some_iff] at hw'
      obtain ⟨ρ3, ha, hf⟩ := hw'
      have p3 : Pen M σ2 G2 H2 (Own Fs2) ρ2 G2 H3 Fs2 := by
        rcases hH with rfl | ⟨T, ys, hT, rfl⟩
        · exact .refl p2.env p2.gok
        · exact ⟨new_env p2.gok p2.env hT, new_gok p2.gok hT, new_stp hT, fun _ w => .inl w⟩
      refine ⟨G2, Fs2, ρ2, d, [], ρ3, p3.env, rx, .nil, fun _ w => (nomatch w), ha, fun σ3 Fs3 st => ?_⟩
      have p4 : PenS M z σ2 G2 H2 (Own Fs2) σ3 ρ3 G2 H3 Fs3 := st.pen hz ⟨p3.env, p3.gok, p3.stp, rx, fun b w => .inl (w.elim (fun w => nomatch w) id), .nil, fun _ w => (nomatch w)⟩ ha
      have p5 := p2.trans p.pen.gok p4
      cases q : f ρ3 with
      | none => rw [q] at hf; cases hf
      | some r2 =>
        rw [q] at hf
        refine ⟨ρ3, G2, Fs3, r2, p5.env, p5.gok, q, ?_⟩
        cases r2 with
        | nx ρ4 => exact fun σ' G' H' Fs' p6 => ⟨ρ4, G', Fs', hf, p5.trans p.pen.gok p6⟩
        | ct ρ4 => exact fun σ' G' H' Fs' p6 => ⟨ρ4, G', Fs', hf, p5.trans p.pen.gok p6⟩
        | bk ρ4 => cases hf; exact fun σ' G' H' Fs' p6 => fin1 _ _ _ _ (p5.trans p.pen.gok p6)
        | rt d ρ4 => cases hf; exact fin1.step p.pen.gok p5
        | ex c d ρ4 => cases hf; exact fin1.step p.pen.gok p5
    · left
      rw [List.drop_eq_nil_of_le (Nat.le_of_not_lt hi)] at hw
      cases hw
      refine ⟨?_, fin1 _ _ _ _ p2⟩
      have e1 : i = ds.length := Nat.le_antisymm hle (Nat.le_of_not_lt hi)
      rw [e1]
      exact p.wk.stop _ _ p2.gok kp
  · cases h2'
end
end VI

set_option maxHeartbeats 2000000
set_option synthInstance.maxSize 128
set_option synthInstance.maxHeartbeats 20000
namespace VI
open PySem PySem.Spec L2
open PyProof.Rows hiding St
section
variable {X : Cx} {pins : List (Addr × Obj)} {σ : St} {H : Hp} {s : Shared}
theorem ext_ok {P : Program} {w : World} {K : Heap} {a : Addr} {cc : Value} {dd : Option Addr} {ob : Obj} {vs : Array Value} (e : K.get? a = some ob) (zc : Zc cc dd ob) (dt : ob.data = .fields vs) {H : Hp} : ObjOk P w H K a (ExT cc dd a) :=
  ⟨⟨ob, vs, e, zc, dt⟩, ⟨ob, e⟩, fun _ _ ⟨o, v, q, r⟩ k => ⟨o, v, k o q, r⟩⟩
/-- an object that stands there, new since the entry, is tracked from here on -/
theorem track (I : Inv X pins σ H s) {a : Addr} {cc : Value} {dd : Option Addr} {ob : Obj} {vs : Array Value} (e : s.heap.get? a = some ob) (zc : Zc cc dd ob) (dt : ob.data = .fields vs) (na : H a = none)
    (n0 : X.s_0.heap.get? a = none) (nL : a ≠ X.env.locals) (np : ∀ p ∈ X.pn ++ pins, p.1 ≠ a) : Inv X pins σ (upd H a (ExT cc dd a)) s where
  ok := I.ok
  os := I.os
  bare := I.bare
  base :=
    { keep := I.base.keep
      slot := I.base.slot
      free := fun b o q n x => by
        have nb : b ≠ a := fun z => by rw [z, n0] at q; cases q
        rw [upd_ne nb]; exact I.base.free b o q n x
      there := I.base.there
      tups := fun b xs q => upd_at (fun z => by rw [← z, I.base.tups b xs q] at na; cases na) (I.base.tups b xs q)
      frzs := fun b o u q => upd_at (fun z => by rw [← z, I.base.frzs b o u q] at na; cases na) (I.base.frzs b o u q)
      tbls := fun b ps q => by
        obtain ⟨m, y⟩ := I.base.tbls b ps q
        exact ⟨m, upd_at (fun z => by rw [← z, y] at na; cases na) y⟩ }
  loc := I.loc
  cell := I.cell
  free := by rw [upd_ne (Ne.symm nL)]; exact I.free
  freeC := fun x c q => by
    have nc : c ≠ a := fun z => by
      obtain ⟨v, o, ho, hd⟩ := I.cell x c q
      rw [z, e] at ho; cases ho
      rw [dt] at hd; cases hd
    rw [upd_ne nc]; exact I.freeC x c q
  pin := fun p hp => by
    obtain ⟨q1, q2, q3⟩ := I.pin p hp
    exact ⟨q1, by rw [upd_ne (np p hp)]; exact q2, q3⟩
  hok := fun b u q => by
    by_cases hb : b = a
    · subst hb
      rw [upd_same] at q; cases q
      exact ext_ok e zc dt
    · rw [upd_ne hb] at q
      refine (I.hok b u q).stay (fun c v _ y => y) (fun c y => upd_at (fun z => by rw [← z, y] at na; cases na) y) fun c xs y => upd_at (fun z => by rw [← z, y] at na; cases na) y
  len := I.len
theorem inSuite (I : Inv X pins σ H s) (a : Addr) : Inv (X.suite a (X.pn ++ pins)) [] σ H s :=
  ⟨I.ok.suite _ _, I.os, I.bare, I.base, I.loc, I.cell, I.free, I.freeC, fun p hp => I.pin p (by simpa using hp), I.hok, I.len⟩
theorem outSuite {a : Addr} {pn' : List (Addr × Obj)} (ok : X.Ok) (I : Inv (X.suite a (X.pn ++ pins)) pn' σ H s) : Inv X pins σ H s :=
  ⟨ok, I.os, I.bare, I.base, I.loc, I.cell, I.free, I.freeC, fun p hp => I.pin p (List.mem_append_left _ hp), I.hok, I.len⟩
end
/-- behind the suite: its name is gone -/
def noName (D : Ends) (i : Nat) : Ends := { nx := fun σ' H' => D.nx (σ'.set i none) H', rt := D.rt, bk := fun σ' H' => D.bk (σ'.set i none) H', ct := fun σ' H' => D.ct (σ'.set i none) H' }
/-- what is wished of an exception in the body: caught, it is tracked -/
def wTr (K : PySem.W.Frag) (c : Value) (i : Nat) (ts : TS) (Wo : WX) (D : Ends) : WX := fun cc dd σ H =>
  ∃ b, PySem.W.exmOne K cc c = some b ∧ (b = true → ∀ a, H a = none → ts (noName D i) (σ.set i (some (.ref a))) (upd H a (ExT cc dd a))) ∧ (b = false → Wo cc dd σ H)
section
variable {X : Cx} {x n : Str} {c : Value} {i : Nat} {body rest : List Stmt} {b₀ : Stmt} {p1 p2 p3 : Pos} {tb : WX → TS} {ts : TS} {Wo : WX}
theorem ps_try_tr (hst : X.stack = X.env :: X.outer) (hfr : X.env.frame = some X.env.locals) (hex : X.ex = []) (hN : X.N.Nodup) (hi : X.N[i]? = some n) (hloc : X.env.kindOf n = some .local) (hnm : Names X x c) (tk : Takes X Wo)
    (hbody : ∀ (W : WX) (pn : List (Addr × Obj)) (xe : Value → Shared → Prop), Takes (X.tr pn xe) W → PassesOwn (model X.prog X.w) X.A X.env xe → PSs (X.tr pn xe) body (tb W))
    (hsuite : ∀ (a : Addr) (pn : List (Addr × Obj)), PSs (X.suite a pn) (b₀ :: rest) ts) :
    PS X (.Try body [.ExceptHandler (some (.Name x p1)) (some n) (b₀ :: rest) p2] [] [] p3) (fun D σ H => tb (wTr X.K c i ts Wo D) D σ H) := by
  refine ⟨fun pins s σ H D I0 hyp => ?_⟩
  have okX := I0.ok
  have frA : X.A.frames = some (X.env :: X.outer) := hst ▸ okX.frames
  have locN : Loc X.env.scope n := .inl hloc
  let late : Value → Shared → Prop := fun e s₁ => wpAny (model X.prog X.w) X.A (noteFrame e X.env) (fun _ s₂ =>
    wpAny (model X.prog X.w) X.A (setFlight e none) (fun _ s₃ => wpAny (model X.prog X.w) X.A (handleBy e X.env [.ExceptHandler (some (.Name x p1)) (some n) (b₀ :: rest) p2]) (SP X pins D) X.xe s₃) X.xe s₂) X.xe s₁
  have caught : Takes (X.tr (X.pn ++ pins) late) (wTr X.K c i ts Wo D) := fun u s' air => by
    obtain ⟨a, B, sI, pins1, σ1, H1, cc, dd, rfl, J0, nbB, upI, skyI, naI, osI, agI, b, hbb, yes, no⟩ := air
    have J : Inv X pins σ1 H1 sI := J0.ofTry okX
    show wpAny (model X.prog X.w) X.A (noteFrame (.ref a) X.env) _ _ _
    refine Sky.land Zc.steady frA hfr (show Sky B (X.env :: X.outer) a (Zc cc dd) X.env.locals s'.heap from hst ▸ skyI) fun k3 fl3 up3 => ?_
    have J3 : Inv X pins σ1 H1 { s' with heap := k3 } := J.landed nbB fl3.1 (upI.trans up3) osI agI
    obtain ⟨ob3, vs3, at3, zc3, dt3⟩ := fl3.there
    have offFr : a ∉ frs (X.env :: X.outer) := fun hm => by
      obtain ⟨_, o', e', hnf⟩ := fl3.2.2.1.mem hm
      rw [at3] at e'; cases e'
      exact hnf _ dt3
    have nL : a ≠ X.env.locals := fun z => offFr (List.mem_filterMap.mpr ⟨X.env, List.mem_cons_self, by rw [hfr, z]⟩)
    have nI : sI.heap.get? a = none := by
      cases q : sI.heap.get? a with
      | none => rfl
      | some o =>
        have y := nbB a o q (by rw [hst]; exact offFr)
        rw [fl3.2.1] at y; cases y
    have n0 : X.s_0.heap.get? a = none := by
      cases q : X.s_0.heap.get? a with
      | none => rfl
      | some o =>
        obtain ⟨o', y⟩ := J.base.there a o q (by rw [hex]; exact fun z => nomatch z)
        rw [nI] at y; cases y
    have np : ∀ p ∈ X.pn ++ pins, p.1 ≠ a := fun p hp z => by
      have y := (J.pin p hp).1
      rw [z, nI] at y; cases y
    have S3 := inSuite J3 a
    refine wpAny_handleBy_cons (codeAny_handlers_test ?_) (by intro q; cases q)
    have looksT : PySem.W.Looks (model X.prog X.w) k3 (typeOf (.ref a)) cc := fun A Q E s k q => wpAny_typeOf_ref (k _ _ at3) (by rw [zc3.1]; exact q)
    have looksM := PySem.W.exm_one (M := model X.prog X.w) (J3.kIn) looksT hbb
    have named : ∀ {Q : Value → Shared → Prop} {E : Value → Shared → Prop}, Q c { s' with heap := k3 } → wpAny (model X.prog X.w) (X.A.mark (some (.ref a))) (eval (.Name x p1) X.env) Q E { s' with heap := k3 } := fun {Q E} q => by
      obtain ⟨isG, isD, inG | ⟨notG, inB, notN⟩⟩ := hnm
      · exact ld_glob (X := X.suite a (X.pn ++ pins)) S3 isG inG q isD
      · exact ld_blt (X := X.suite a (X.pn ++ pins)) S3 isG notG inB q notN isD
    refine named (looksM.here ?_)
    cases b with
    | true =>
      refine codeAny_handlers_suite_as ?_
      refine HandSPX.lands_againZ fl3 fun k4 fl4 up4 => ?_
      have J4 : Inv X pins σ1 H1 { s' with heap := k4 } := J.landed nbB fl4.1 ((upI.trans up3).trans up4) osI agI
      obtain ⟨ob4, vs4, at4, zc4, dt4⟩ := fl4.there
      have S4 := inSuite (track J4 at4 zc4 dt4 naI n0 nL np) a
      refine store_ok (X := X.suite a (X.pn ++ pins)) (v := .ref a) S4 hN hi locN rfl (fun s5 S5 => ?_) (.inr hloc)
      refine wpAny_mono ((hsuite a (X.pn ++ pins)).run [] s5 _ _ (noName D i) S5 (yes rfl a naI)) (fun f s6 hsp => ?_) (fun _ _ z => False.elim z)
      have gone : ∀ {σ6 : St} {H6 : Hp} {Q : Shared → Prop}, Inv (X.suite a (X.pn ++ pins)) [] σ6 H6 s6 → (∀ s7, Inv X pins (σ6.set i none) H6 s7 → Q s7) →
          wpAny (model X.prog X.w) X.A (do bindName X.env n .none; unbindBehindTheSuite X.env n p2) (fun _ s7 => Q s7) X.xe s6 := fun {σ6 H6 Q} S6 hq => gone_ok (outSuite okX S6) hN hi hloc hq
      cases f with
      | next => obtain ⟨_, _, S6, q6⟩ := hsp; exact gone S6 fun s7 J7 => ⟨_, _, J7, q6⟩
      | brk => obtain ⟨_, _, S6, q6⟩ := hsp; exact gone S6 fun s7 J7 => ⟨_, _, J7, q6⟩
      | cont => obtain ⟨_, _, S6, q6⟩ := hsp; exact gone S6 fun s7 J7 => ⟨_, _, J7, q6⟩
      | ret u => obtain ⟨_, _, _, S6, r6, q6⟩ := hsp; exact gone S6 fun s7 J7 => ⟨_, _, _, J7, r6, q6⟩
    | false =>
      show wpAny _ X.A (handleBy (.ref a) X.env []) _ _ _
      refine wpAny_handleBy_nil ?_
      obtain ⟨_, _, _, ob, vs, T, oT, tsT, eA, zA, dA, h1A, _⟩ := id fl3
      unfold PySem.passOn
      refine wpAny_bind (wpAny_field eA dA h1A ?_)
      rw [if_neg (show ¬ ((Value.ref T == Value.none) = true) from by simp)]
      have onward : wpAny (model X.prog X.w) X.A (setFlight (.ref a) X.env.frame) (fun _ s4 => wpAny (model X.prog X.w) X.A (throw (.ref a) : Sem Flow) (SP X pins D) X.xe s4) X.xe { s' with heap := k3 } := by
        rw [hfr]
        refine HandSPX.setFlight_upZ fl3 fun k4 fl4 up4 => wpAny_throw (tk _ _ ?_)
        exact ⟨a, B, sI, pins, σ1, H1, cc, dd, rfl, J, nbB, (upI.trans up3).trans up4, .inr (.inr (hst ▸ fl4)), naI, osI, agI, no rfl⟩
      first
        | exact wpAny_bind (wpAny_pure (wpAny_bind onward))
        | exact wpAny_bind onward
  refine wpAny_Try_except ?_
  refine wpAny_mono ((hbody (wTr X.K c i ts Wo D) (X.pn ++ pins) late caught PassesOwn.looking).run [] s σ H D (I0.toTry _) hyp) (fun f s1 hsp => ?_) (fun e s1 he => he)
  cases f with
  | next => obtain ⟨_, _, J1, q⟩ := hsp; exact wpAny_execs_nil ⟨_, _, J1.ofTry okX, q⟩
  | brk => obtain ⟨_, _, J1, q⟩ := hsp; exact ⟨_, _, J1.ofTry okX, q⟩
  | cont => obtain ⟨_, _, J1, q⟩ := hsp; exact ⟨_, _, J1.ofTry okX, q⟩
  | ret u => obtain ⟨_, _, _, J1, r, q⟩ := hsp; exact ⟨_, _, _, J1.ofTry okX, r, q⟩
end
end VI

set_option maxHeartbeats 1000000
set_option synthInstance.maxSize 128
set_option synthInstance.maxHeartbeats 20000
namespace VI
open PySem L2
/-! ### the text of statements -/
def starred : Expr → Bool
  | .Starred _ _ => true
  | _ => false
/-- which names are stored from the right (none: not known) -/
def sw (sc : Scope) (ts vs : List Expr) : Option (Option (List Str)) :=
  if (!(ts.length == 2 || ts.length == 3) || vs.length != ts.length) = true then some none else
  if (vs.any fun | .Starred .. => true | _ => false) = true then some none else
  let line := (ts.head?.map (·.pos.line)).getD 0
  let names := ts.filterMap fun
    | .Name id pos => if (sc.names.lookup id == some .local && pos.line == line) = true then some id else none
    | _ => none
  if (names.length != ts.length || names.eraseDups.length != names.length) = true then some none else
  if vs.all (foldedForSure 8) = true then some none else
  if vs.all (constantsAlone 8) = true then none else some (some names)
theorem sw_ok {env : PySem.Env} {ts vs : List Expr} {k k2} {p p2 : Pos} {o : Option (List Str)} (hk : env.scope.kind = .function) (h : sw env.scope ts vs = some o) : swappedStores [.Tuple ts k p] (.Tuple vs k2 p2) env = pure o := by
  have hb : (env.blockKind != .function) = false := by unfold PySem.Env.blockKind; rw [hk]; rfl
  unfold sw at h
  unfold swappedStores
  simp only [hb, Bool.or_false]
  split at h
  · rename_i q0; cases h
    exact (if_pos q0).trans rfl
  · rename_i q0
    refine (if_neg q0).trans ?_
    split at h
    · rename_i q1; cases h
      exact (if_pos q1).trans rfl
    · rename_i q1
      refine (if_neg q1).trans ?_
      simp only at h
      split at h
      · rename_i q2; cases h
        exact (if_pos q2).trans rfl
      · rename_i q2
        refine (if_neg q2).trans ?_
        split at h
        · rename_i q3; cases h
          exact (if_pos q3).trans rfl
        · rename_i q3
          refine (if_neg q3).trans ?_
          split at h
          · cases h
          · rename_i q4; cases h
            exact (if_neg q4).trans rfl
def isTup : Expr → Bool
  | .Tuple _ _ _ => true
  | _ => false
/-- no pair on both sides, or stored in order -/
def noSw (sc : Scope) (t v : Expr) : Bool := match t, v with
  | .Tuple ts _ _, .Tuple vs _ _ => decide (sw sc ts vs = some none)
  | .Tuple _ _ _, _ => true
  | .Name _ _, _ => true
  | _, _ => false
theorem noSw_ok {env : PySem.Env} {t v : Expr} (hk : env.scope.kind = .function) (h : noSw env.scope t v = true) : swappedStores [t] v env = pure none := by
  unfold noSw at h
  split at h
  · exact sw_ok hk (of_decide_eq_true h)
  · rename_i hn
    cases v <;> first | rfl | exact (hn _ _ _ rfl).elim
  · cases v <;> rfl
  · cases h
/-- the comprehension is laid straight into the name -/
def lcSw (sc : Scope) (t v : Expr) : Bool := match v, t with
  | .ListComp _ _ s _, .Name x pos => decide (sc.names.lookup x = some .local) && (pos.line == v.pos.line) && !(s.names.any fun (n, k) => n == x && (k == .local || k == .cell))
  | .SetComp _ _ _ _, _ => true
  | .DictComp _ _ _ _ _, _ => true
  | _, _ => false
theorem lcSw_no {env : PySem.Env} {t v : Expr} {line : Nat} (hk : env.scope.kind = .function) (h : lcSw env.scope t v = false) : swapsWith v (some t) line env = pure false := by
  have hb : (env.blockKind == .function) = true := by unfold PySem.Env.blockKind; rw [hk]; rfl
  cases v with
  | ListComp el cs s cp =>
    cases t with
    | Name x p =>
      have e : (env.kindOf x == some NameKind.local) = decide (env.scope.names.lookup x = some .local) := by
        unfold PySem.Env.kindOf
        by_cases q : env.scope.names.lookup x = some .local
        · rw [q]; rfl
        · simp [q]
      have h : (decide (env.scope.names.lookup x = some .local) && (p.line == (Expr.ListComp el cs s cp).pos.line) && !(s.names.any fun (n, k) => n == x && (k == .local || k == .cell))) = false := h
      unfold swapsWith
      simp only [hb, Bool.true_and]
      rw [e]
      show pure _ = pure false
      rw [h]
    | _ => rfl
  | SetComp _ _ _ _ => cases h
  | DictComp _ _ _ _ _ => cases h
  | _ => rfl
theorem lcSw_yes {env : PySem.Env} {x : Str} {p : Pos} {el : Expr} {cs : List Comprehension} {s : Scope} {cp : Pos} {line : Nat} (hk : env.scope.kind = .function) (h : lcSw env.scope (.Name x p) (.ListComp el cs s cp) = true) : swapsWith (.ListComp el cs s cp) (some (.Name x p)) line env = pure true := by
  have hb : (env.blockKind == .function) = true := by unfold PySem.Env.blockKind; rw [hk]; rfl
  have h : (decide (env.scope.names.lookup x = some .local) && (p.line == (Expr.ListComp el cs s cp).pos.line) && !(s.names.any fun (n, k) => n == x && (k == .local || k == .cell))) = true := h
  unfold swapsWith
  have e : (env.kindOf x == some NameKind.local) = decide (env.scope.names.lookup x = some .local) := by
    unfold PySem.Env.kindOf
    by_cases q : env.scope.names.lookup x = some .local
    · rw [q]; rfl
    · simp [q]
  simp only [hb, Bool.true_and]
  rw [e]
  show pure _ = pure true
  rw [h]
def lcDrop : Expr → Bool
  | .ListComp _ _ _ _ => false
  | .SetComp _ _ _ _ => false
  | .DictComp _ _ _ _ _ => false
  | _ => true
theorem lcDrop_ok {env : PySem.Env} {v : Expr} {line : Nat} (h : lcDrop v = true) : swapsWith v none line env = pure false := by
  cases v <;> first | rfl | cases h
end VI

set_option maxHeartbeats 1000000
set_option synthInstance.maxSize 128
set_option synthInstance.maxHeartbeats 20000
namespace VI
open PySem L2
/-- C(v): the new exception's dict has the value -/
def tMkV (C : Addr) (ta : TA) : St → Hp → XK → Prop := fun σ H Q => ta σ H fun vs H1 => ∃ v, vs = [v] ∧ ∀ d, H1 d = none → Q (.ref C) (some d) (upd H1 d (.xd [(("value" : Str), v)]))
structure GS (M : Nm) (Γ : Gam) (up : String → String → Bool) (cf : Cf) (X : Cx) (W : WX) (sc : Scope) : Prop where
  g : GX M Γ cf X W sc sc
  pass : PassesOwn (model X.prog X.w) X.A X.env X.xe
  kind : sc.kind = .function
  stack : X.stack = X.env :: X.outer
  frame : X.env.frame = some X.env.locals
  noex : X.ex = []
  exs : ∀ c, c ∈ cf.exs → ∃ C, M.cl c = some C ∧ ∀ {e : Expr} {ta : TA} {p pos : Pos}, Gl X (Str.ofString c) → PA X [e] ta → starEach [e] X.env = [(false, eval e X.env)] → PMk X (.Call (.Name (Str.ofString c) p) [e] [] pos) (tMkV C ta)
  exm : ∀ c1 c2 C1 C2, M.cl c1 = some C1 → M.cl c2 = some C2 → PySem.W.exmOne X.K (.ref C1) (.ref C2) = some (up c1 c2)
abbrev Cf.tr (cf : Cf) : Cf := { cf with exs := [] }
abbrev Cf.su (cf : Cf) : Cf := { cf with exs := [], cm := false, fns := [], kws := [], cv := false }
theorem GS.tr {M : Nm} {Γ : Gam} {up : String → String → Bool} {cf : Cf} {X : Cx} {W W' : WX} {sc : Scope} (s : GS M Γ up cf X W sc) (pn : List (Addr × Obj)) (xe : Value → Shared → Prop) (tk : Takes (X.tr pn xe) W') (ps : PassesOwn (model X.prog X.w) X.A X.env xe) : GS M Γ up cf.tr (X.tr pn xe) W' sc where
  g := { K := s.g.K, sc := s.g.sc, N := s.g.N, nd := s.g.nd, calm := s.g.calm, units := s.g.units, guards := s.g.guards, tk := tk, fnc := s.g.fnc
         fn := fun f io h => by
           obtain ⟨a, fd, g', ps, k, F⟩ := s.g.fn f io h
           exact ⟨a, fd, g', ps, k, ⟨F.fn, F.mg, F.keep, F.room, F.io, F.len, F.run, F.binds, F.kb⟩⟩
         fnv := s.g.fnv, gi := s.g.gi, cl := s.g.cl, bi := s.g.bi, xf := s.g.xf }
  pass := ps
  kind := s.kind
  stack := s.stack
  frame := s.frame
  noex := s.noex
  exs := fun c h => (nomatch h)
  exm := s.exm
theorem GS.su {M : Nm} {Γ : Gam} {up : String → String → Bool} {cf : Cf} {X : Cx} {W : WX} {sc : Scope} (s : GS M Γ up cf X W sc) (a : Addr) (pn : List (Addr × Obj)) : GS M Γ up cf.su (X.suite a pn) W0 sc where
  g := { K := s.g.K, sc := s.g.sc, N := s.g.N, nd := s.g.nd, calm := fun z => (nomatch z), units := s.g.units, guards := s.g.guards
         tk := fun u s' ⟨_, _, _, _, _, _, _, _, _, _, _, _, _, _, _, _, w⟩ => w.elim, fnc := s.g.fnc
         fn := fun f io h => (nomatch h)
         fnv := fun h => (nomatch h)
         gi := s.g.gi, cl := s.g.cl, bi := s.g.bi, xf := s.g.xf }
  pass := PassesOwn.never
  kind := s.kind
  stack := s.stack
  frame := s.frame
  noex := s.noex
  exs := fun c h => (nomatch h)
  exm := s.exm
def isCompE : E → Bool
  | .comp _ _ _ _ _ => true
  | .frz (.comp _ _ _ _ _) => true
  | _ => false
def noZ (io : Bool) (l : List Nat) : Bool := !io || decide (0 ∉ l)
theorem noZ_ok {io : Bool} {l : List Nat} (h : noZ io l = true) : io = true → 0 ∉ l := fun z => by
  subst z
  have h : (false || decide (0 ∉ l)) = true := h
  rw [Bool.false_or] at h
  exact of_decide_eq_true h
def loc (sc : Scope) (x : Str) : Bool := decide (sc.names.lookup x = some .local)
def mtS : S → Cf → Scope → (Stmt → Bool) × (List Stmt → Bool)
  | .nil, _, _ => (fun _ => false, fun l => l.isEmpty)
  | .seq s t, cf, sc => (fun _ => false, fun l => match l with
    | st :: r => (mtS s cf sc).1 st && (mtS t cf sc).2 r
    | [] => false)
  | .asg tg e, cf, sc => (fun st => match st with
    | .Assign [t] v _ => noZ cf.io (tgSlots tg) && !isBor e && (mt cf e sc sc).v v &&
        (if lcSw sc t v = true then cf.cm && isCompE e && (match tg, t with
          | .n i, .Name y _ => decide (cf.N[i]? = some y) && loc sc y
          | _, _ => false)
        else (mtG cf.N cf.cm sc sc tg).1 t && noSw sc t v)
    | _ => false, fun _ => false)
  | .par is es, cf, sc => (fun st => match st with
    | .Assign [.Tuple [.Name x _, .Name y _] _ _] (.Tuple [a, b] _ _) _ => (match is with
      | [i, j] => cf.cm && (borsOf es).isEmpty && noZ cf.io [i, j] && (mt cf es sc sc).as [a, b] && decide (cf.N[i]? = some x) && decide (cf.N[j]? = some y) && decide (i ≠ j) && loc sc x && loc sc y && (match st with
        | .Assign [.Tuple ts _ _] (.Tuple vs _ _) _ => decide (sw sc ts vs = some (some [x, y]))
        | _ => false)
      | _ => false)
    | .Assign [.Tuple [.Name x _, .Name y _, .Name z _] _ _] (.Tuple [a, b, c] _ _) _ => (match is with
      | [i, j, l] => cf.cm && (borsOf es).isEmpty && noZ cf.io [i, j, l] && (mt cf es sc sc).as [a, b, c] && decide (cf.N[i]? = some x) && decide (cf.N[j]? = some y) && decide (cf.N[l]? = some z) && decide (i ≠ j) && decide (i ≠ l) && decide (j ≠ l) && loc sc x && loc sc y && loc sc z && (match st with
        | .Assign [.Tuple ts _ _] (.Tuple vs _ _) _ => decide (sw sc ts vs = some (some [x, y, z]))
        | _ => false)
      | _ => false)
    | _ => false, fun _ => false)
  | .seti i ix e, cf, sc => (fun st => match st with
    | .Assign [.Subscript (.Name y _) ie _] v _ => !isBor ix && !isBor e && plIx ie && decide (cf.N[i]? = some y) && vis sc y && okNm y && (mt cf ix sc sc).v ie && (mt cf e sc sc).v v && lcDrop v
    | _ => false, fun _ => false)
  | .app i e, cf, sc => (fun st => match st with
    | .Expr (.Call (.Attribute (.Name y _) m ap) [z] [] cp) _ => nameIs m "append" && (ap.endLine == cp.line) && decide (cf.N[i]? = some y) && vis sc y && okNm y && !isBor e && notStar z && (mt cf e sc sc).v z
    | _ => false, fun _ => false)
  | .ex e, cf, sc => (fun st => match st with
    | .Expr v _ => !isBor e && lcDrop v && (mt cf e sc sc).v v
    | _ => false, fun _ => false)
  | .ifs c a b, cf, sc => (fun st => match st with
    | .If t x y _ => (mt cf c sc sc).t t && (mtS a cf sc).2 x && (mtS b cf sc).2 y
    | _ => false, fun _ => false)
  | .whl c b, cf, sc => (fun st => match st with
    | .While t x [] _ => (mt cf c sc sc).t t && (mtS b cf sc).2 x
    | _ => false, fun _ => false)
  | .for tg it b, cf, sc => (fun st => match st with
    | .For t i x [] _ => cf.cm && noZ cf.io (tgSlots tg) && (locks it).isEmpty && noSet i && (mtG cf.N cf.cm sc sc tg).1 t && (mt cf it sc sc).it t i && (mtS b cf sc).2 x
    | _ => false, fun _ => false)
  | .ret e, cf, sc => (fun st => match st with
    | .Return (some v) _ => !isBor e && (mt cf e sc sc).v v
    | _ => false, fun _ => false)
  | .retn, _, _ => (fun st => match st with | .Return none _ => true | _ => false, fun _ => false)
  | .pass, _, _ => (fun st => match st with | .Pass _ => true | _ => false, fun _ => false)
  | .brk, _, _ => (fun st => match st with | .Break _ => true | _ => false, fun _ => false)
  | .cnt, _, _ => (fun st => match st with | .Continue _ => true | _ => false, fun _ => false)
  | .raise c e, cf, sc => (fun st => match st with
    | .Raise (some (.Call (.Name x _) [v] [] _)) none _ => cf.cm && nameIs x c && gl sc x && okNm x && decide (c ∈ cf.exs) && notStar v && !isBor e && (mt cf e sc sc).v v
    | _ => false, fun _ => false)
  | .try b (.seq (.hnd c i s) .nil), cf, sc => (fun st => match st with
    | .Try body [.ExceptHandler (some (.Name x _)) (some n) (b0 :: rest) _] [] [] _ => nameIs x c && gl sc x && okNm x && decide (c ∈ cf.cls) && decide (cf.N[i]? = some n) && loc sc n && noZ cf.io [i] && (mtS b cf.tr sc).2 body && (mtS s cf.su sc).2 (b0 :: rest)
    | _ => false, fun _ => false)
  | .try _ _, _, _ => (fun _ => false, fun _ => false)
  | .hnd _ _ _, _, _ => (fun _ => false, fun _ => false)
  | .dead, _, _ => (fun _ => true, fun _ => true)
section
variable {M : Nm} {W : WX} {Γ : Gam} {up : String → String → Bool} {z : Bool} {σ σ1 σ2 : St} {ρ ρ' ρ1 ρ2 : Env} {G G' G1 G2 : Addr → Prop} {H H' H1 H2 : Hp} {Fs Fs' Fs1 Fs2 : Nat → List Addr} {O : Addr → Prop} {r : SR} {D : Ends}
theorem s_raise {c : String} {C : Addr} {e : E} (hC : M.cl c = some C) (h : tS M W z (evS Γ up (.raise c e)) D σ H) : tMkV C (tCons (tD M W (ev Γ e).v) tNil) σ H fun cls d H' => W cls d σ H' := by
  obtain ⟨ρ, G, Fs, r, e0, g, hr, fin⟩ := h
  have hr' : bindS ((ev Γ e).v ρ) (fun d ρ => if d.pure then some (SR.ex c d ρ) else none) = some r := hr
  refine tD_useS e0 g hr' fin.ex fun d ρ1 v G1 H1 Fs1 F h2 p => ?_
  split at h2
  · rename_i hp
    cases h2
    refine ⟨v, rfl, fun dd hd => ?_⟩
    have := p.rep.pure hp
    subst this
    exact fin C dd σ G1 _ Fs1 ⟨⟨new_env p.gok p.env hd, new_gok p.gok hd, p.stp.trans g (new_stp (O := fun _ => False) hd) fun _ z => z.elim, fun b h => p.own b (.inr h), fun _ => rfl, rfl⟩, hC,
      ⟨_, v, upd_same, rfl, p.rep.mono p.gok (new_kp hd fun _ z => (nomatch z))⟩⟩
  · cases h2
theorem EnvOK.gone (e : EnvOK M G H σ ρ Fs) (i : Nat) : EnvOK M G H (σ.set i none) (ρ.set i none) (upF Fs i []) where
  len := by rw [List.length_set, List.length_set]; exact e.len
  at_ := fun j d h => by
    obtain ⟨v, h1, h2⟩ := (e.clear i).at_ j d h
    refine ⟨v, ?_, h2⟩
    rw [List.getElem?_set_ne]
    · exact h1
    · intro hj
      subst hj
      have hl : i < (ρ.set i none).length := (List.getElem?_eq_some_iff.mp h).1
      rw [List.length_set] at hl
      rw [List.getElem?_set_self hl] at h
      cases h
  non := (e.clear i).non
  nd := (e.clear i).nd
  dj := (e.clear i).dj
theorem s_try {c : String} {Cc : Addr} {i : Nat} {b s : S} (hC : M.cl c = some Cc) (hz : z = true → 0 ∉ [i]) (exm : ∀ c1 c2 C1 C2, M.cl c1 = some C1 → M.cl c2 = some C2 → PySem.W.exmOne M.K (.ref C1) (.ref C2) = some (up c1 c2))
    (h : tS M W z (evS Γ up (.try b (.seq (.hnd c i s) .nil))) D σ H) : tS M (wTr M.K (.ref Cc) i (tS M W0 z (evS Γ up s)) W D) z (evS Γ up b) D σ H := by
  obtain ⟨ρ, G, Fs, r, e0, g, hr, fin⟩ := h
  have hr' : (match evS Γ up b ρ with
    | some (.ex c' d ρ1) => evS.handle Γ up c' d ρ1 (.seq (.hnd c i s) .nil)
    | r => r) = some r := hr
  cases q : evS Γ up b ρ with
  | none => rw [q] at hr'; cases hr'
  | some r1 =>
    rw [q] at hr'
    refine ⟨ρ, G, Fs, r1, e0, g, q, ?_⟩
    cases r1 with
    | nx ρ1 => cases hr'; exact fin
    | bk ρ1 => cases hr'; exact fin
    | ct ρ1 => cases hr'; exact fin
    | rt d ρ1 => cases hr'; exact fin
    | ex c' d ρ1 =>
      intro C' dd σ1 G1 H1 Fs1 p
      refine ⟨up c' c, exm c' c C' Cc p.cl hC, fun hu a na => ?_, fun hu => ?_⟩
      · have h2 : (if up c' c then (match evS Γ up s (ρ1.set i (some (.exc c' d))) with
          | some (.nx ρ2) => some (.nx (ρ2.set i none))
          | some (.rt d ρ2) => some (.rt d (ρ2.set i none))
          | _ => none) else evS.handle Γ up c' d ρ1 .nil) = some r := hr'
        rw [if_pos hu] at h2
        obtain ⟨fs, u, e1, e2, e3⟩ := p.fld
        have dpure : Rep M G1 (upd H1 a (ExT (.ref C') (some dd) a)) (.ref a) (.exc c' d) [] :=
          .exc p.cl upd_same (new_ne na e1) e2 (e3.mono p.pen.gok (new_kp na fun _ z => (nomatch z)))
        have env' := (new_env (o := ExT (.ref C') (some dd) a) p.pen.gok p.pen.env na).put i dpure .nil fun _ z => (nomatch z)
        have pen' : PenS M z σ G H (Own Fs) (σ1.set i (some (.ref a))) (ρ1.set i (some (.exc c' d))) G1 (upd H1 a (ExT (.ref C') (some dd) a)) (if i < ρ1.length then upF Fs1 i [] else Fs1) :=
          ⟨env', new_gok p.pen.gok na, p.pen.stp.trans g (new_stp (O := fun _ => False) na) fun _ z => z.elim, fun b h => (own_put h).elim (fun z => nomatch z) fun z => p.pen.own b z, fun hh => by
            rw [List.getElem?_set_ne (fun z => hz hh (by simp [z]))]; exact p.pen.fix hh, by rw [List.length_set]; exact p.pen.len⟩
        cases q2 : evS Γ up s (ρ1.set i (some (.exc c' d))) with
        | none => rw [q2] at h2; cases h2
        | some r2 =>
          rw [q2] at h2
          refine ⟨_, G1, _, r2, pen'.env, pen'.gok, q2, ?_⟩
          have back : ∀ {σ2 : St} {ρ2 : Env} {G2 : Addr → Prop} {H2 : Hp} {Fs2 : Nat → List Addr}, PenS M z (σ1.set i (some (.ref a))) G1 (upd H1 a (ExT (.ref C') (some dd) a)) (Own (if i < ρ1.length then upF Fs1 i [] else Fs1)) σ2 ρ2 G2 H2 Fs2 →
              PenS M z σ G H (Own Fs) (σ2.set i none) (ρ2.set i none) G2 H2 (upF Fs2 i []) := fun {σ2 ρ2 G2 H2 Fs2} p2 => by
            have p3 := pen'.trans g p2
            exact ⟨p3.env.gone i, p3.gok, p3.stp, fun b h => (own_up h).elim (fun z => nomatch z) fun ⟨j, _, w⟩ => p3.own b ⟨j, w⟩, fun hh => by
              rw [List.getElem?_set_ne (fun z => hz hh (by simp [z]))]; exact p3.fix hh, by rw [List.length_set]; exact p3.len⟩
          cases r2 with
          | nx ρ2 => cases h2; exact fun σ2 G2 H2 Fs2 p2 => fin _ _ _ _ (back p2)
          | rt d2 ρ2 =>
            cases h2
            intro v σ2 G2 H2 Fs2 F p2
            refine fin v (σ2.set i none) G2 H2 (upF Fs2 i []) F ⟨back p2.pen, p2.rep, fun b h => ?_, p2.nd, fun b h w => ?_⟩
            · exact (p2.own b h).elim (fun w => pen'.own b w) fun w => .inr (pen'.stp.free w)
            · exact (own_up w).elim (fun z => nomatch z) fun ⟨j, _, w⟩ => p2.dj b h ⟨j, w⟩
          | bk ρ2 => cases h2
          | ct ρ2 => cases h2
          | ex c2 d2 ρ2 => cases h2
      · have h2 : (if up c' c then (match evS Γ up s (ρ1.set i (some (.exc c' d))) with
          | some (.nx ρ2) => some (.nx (ρ2.set i none))
          | some (.rt d ρ2) => some (.rt d (ρ2.set i none))
          | _ => none) else some (SR.ex c' d ρ1)) = some r := hr'
        rw [if_neg (by rw [hu]; exact Bool.false_ne_true)] at h2
        cases h2
        exact fin C' dd σ1 G1 H1 Fs1 p
end
end VI

set_option maxHeartbeats 1000000
set_option synthInstance.maxSize 128
set_option synthInstance.maxHeartbeats 20000
namespace VI
open PySem L2
structure GoodS (M : Nm) (Γ : Gam) (up : String → String → Bool) (s : S) : Prop where
  st : ∀ {cf : Cf} {X : Cx} {W : WX} {sc : Scope}, GS M Γ up cf X W sc → ∀ x, (mtS s cf sc).1 x = true → PS X x (tS M W cf.io (evS Γ up s))
  ss : ∀ {cf : Cf} {X : Cx} {W : WX} {sc : Scope}, GS M Γ up cf X W sc → ∀ x, (mtS s cf sc).2 x = true → PSs X x (tS M W cf.io (evS Γ up s))
section
variable {M : Nm} {Γ : Gam} {up : String → String → Bool}
theorem goodS_st {s : S} (hm : ∀ cf sc, (mtS s cf sc).2 = fun _ => false) (h : ∀ {cf : Cf} {X : Cx} {W : WX} {sc : Scope}, GS M Γ up cf X W sc → ∀ x, (mtS s cf sc).1 x = true → PS X x (tS M W cf.io (evS Γ up s))) : GoodS M Γ up s :=
  ⟨h, fun {cf X W sc} _ x hx => by rw [hm] at hx; cases hx⟩
theorem GX.var' {cf : Cf} {X : Cx} {W : WX} {sc so : Scope} (g : GX M Γ cf X W sc so) {x : Str} {i : Nat} {p : Pos} (h1 : cf.N[i]? = some x) (h2 : VI.vis sc x = true) (h3 : okNm x = true) : PE X (.Name x p) (tVar i) :=
  g.var (by simp only [Bool.and_eq_true, decide_eq_true_eq]; exact ⟨⟨h1, h2⟩, h3⟩)
theorem tD_imp {W : WX} {f : Env → Option R} {σ : St} {H : Hp} {Q Q' : VK} (hq : ∀ v H, Q v H → Q' v H) (h : tD M W f σ H Q) : tD M W f σ H Q' := by
  obtain ⟨ρ, G, Fs, r, e, g, hr, fin⟩ := h
  refine ⟨ρ, G, Fs, r, e, g, hr, ?_⟩
  cases r with
  | ok d ρ' => exact fun v G' H' Fs' F p => hq _ _ (fin v G' H' Fs' F p)
  | ex c d ρ' => exact fin
theorem gs_asg {tg : Tg} {e : E} : GoodS M Γ up (.asg tg e) := by
  refine goodS_st (fun _ _ => rfl) fun {cf X W sc} s x he => ?_
  have g := s.g
  have hk : X.env.scope.kind = .function := by rw [g.sc]; exact s.kind
  simp only [mtS] at he
  split at he
  · rename_i t v pos
    simp only [Bool.and_eq_true, Bool.not_eq_true'] at he
    obtain ⟨⟨⟨h1, h2⟩, h3⟩, h4⟩ := he
    have hz := noZ_ok h1
    split at h4
    · rename_i hl
      simp only [Bool.and_eq_true] at h4
      obtain ⟨⟨hc, h5⟩, h6⟩ := h4
      split at h6
      · rename_i i y yp
        simp only [Bool.and_eq_true, decide_eq_true_eq] at h6
        have fz : ∀ {own : List (String × Nat)} {ctg : Tg} {it c elt : E} {Q : VK} {σ : St} {H : Hp}, tD M W (ev Γ (.frz (.comp own ctg it c elt))).v σ H Q → tD M W (ev Γ (.comp own ctg it c elt)).v σ H Q := fun q => e_frz q
        cases e <;> first | (cases h5; done) | skip
        case frz e1 =>
          cases e1 <;> first | (cases h5; done) | skip
          rename_i own ctg it c elt
          replace h3 := (Bool.and_eq_true_iff.mp (show (!isBor (.comp own ctg it c elt) && (mt cf (.comp own ctg it c elt) sc sc).v _) = true from h3)).2
          simp only [mt, mkV0] at h3
          split at h3
          · rename_i el tgt iter ifs scope lp
            obtain ⟨c0, c1, c2, c3, c4, c5, c6, c7⟩ := comp_ok (good it) (good c) (good elt) g h3
            refine PS.imp (ps_setLc c0 (by rw [g.N]; exact g.nd) (by rw [g.N]; exact h6.1) (by rw [g.sc]; exact of_decide_eq_true h6.2) (lcSw_yes hk (by rw [g.sc]; exact hl)) c4 c2 c5 c6 c7 c3) fun D σ H q => ?_
            rw [own_snd]
            have q1 := s_asg (tg := .n i) hz q
            exact tD_comp c1 (fun _ => rfl) (it_tup it) (tD_imp (fun v H q => gT_n q) (fz q1))
          · cases h3
        rename_i own ctg it c elt
        simp only [mt, mkV0] at h3
        split at h3
        · rename_i el tgt iter ifs scope lp
          obtain ⟨c0, c1, c2, c3, c4, c5, c6, c7⟩ := comp_ok (good it) (good c) (good elt) g h3
          refine PS.imp (ps_setLc c0 (by rw [g.N]; exact g.nd) (by rw [g.N]; exact h6.1) (by rw [g.sc]; exact of_decide_eq_true h6.2) (lcSw_yes hk (by rw [g.sc]; exact hl)) c4 c2 c5 c6 c7 c3) fun D σ H q => ?_
          rw [own_snd]
          have q1 := s_asg (tg := .n i) hz q
          exact tD_comp c1 (fun _ => rfl) (it_tup it) (tD_imp (fun v H q => gT_n q) q1)
        · cases h3
      · cases h6
    · rename_i hl
      simp only [Bool.and_eq_true] at h4
      have hl' : lcSw sc t v = false := by simpa using hl
      have pe := (good e).v g v h3
      rw [tO_eq h2] at pe
      obtain ⟨pg, sh⟩ := (pg_ok g tg).1 t h4.1
      exact PS.imp (ps_asg pe pg (lcSw_no hk (by rw [g.sc]; exact hl')) (noSw_ok hk (by rw [g.sc]; exact h4.2)) (sh []).1) fun D σ H q => s_asg hz q
  · cases he
theorem gs_par {is : List Nat} {es : E} : GoodS M Γ up (.par is es) := by
  refine goodS_st (fun _ _ => rfl) fun {cf X W sc} s x he => ?_
  have g := s.g
  have hk : X.env.scope.kind = .function := by rw [g.sc]; exact s.kind
  have lk : ∀ {y : Str}, loc sc y = true → X.env.scope.names.lookup y = some .local := fun {y} h => by rw [g.sc]; exact of_decide_eq_true h
  simp only [mtS] at he
  split at he
  · split at he
    · simp only [Bool.and_eq_true, decide_eq_true_eq, List.isEmpty_iff] at he
      obtain ⟨⟨⟨⟨⟨⟨⟨⟨⟨h0, h1⟩, h2⟩, h3⟩, h4⟩, h5⟩, h6⟩, h7⟩, h8⟩, h9⟩ := he
      exact PS.imp (ps_par (g.calm h0) (by rw [g.N]; exact g.nd) (by rw [g.N]; exact h4) (by rw [g.N]; exact h5) h6 (lk h7) (lk h8) ((good es).as g _ h3).1 (sw_ok hk (by rw [g.sc]; exact h9))) fun D σ H q => s_par h1 (noZ_ok h2) q
    · cases he
  · split at he
    · simp only [Bool.and_eq_true, decide_eq_true_eq, List.isEmpty_iff] at he
      obtain ⟨⟨⟨⟨⟨⟨⟨⟨⟨⟨⟨⟨⟨h0, h1⟩, h2⟩, h3⟩, h4⟩, h5⟩, h5'⟩, h6⟩, h6'⟩, h6''⟩, h7⟩, h8⟩, h8'⟩, h9⟩ := he
      exact PS.imp (ps_par3 (g.calm h0) (by rw [g.N]; exact g.nd) (by rw [g.N]; exact h4) (by rw [g.N]; exact h5) (by rw [g.N]; exact h5') h6 h6' h6'' (lk h7) (lk h8) (lk h8') ((good es).as g _ h3).1 (sw_ok hk (by rw [g.sc]; exact h9))) fun D σ H q => s_par3 h1 (noZ_ok h2) q
    · cases he
  · cases he
theorem gs_seti {i : Nat} {ix e : E} : GoodS M Γ up (.seti i ix e) := by
  refine goodS_st (fun _ _ => rfl) fun {cf X W sc} s x he => ?_
  have g := s.g
  simp only [mtS] at he
  split at he
  · rename_i y yp ie p2 v pos
    simp only [Bool.and_eq_true, Bool.not_eq_true', decide_eq_true_eq] at he
    obtain ⟨⟨⟨⟨⟨⟨⟨⟨h1, h2⟩, h3⟩, h4⟩, h5⟩, h6⟩, h7⟩, h8⟩, h9⟩ := he
    have pi := (good ix).v g _ h7
    rw [tO_eq h1] at pi
    have pe := (good e).v g _ h8
    rw [tO_eq h2] at pe
    refine PS.imp (ps_asg pe (pg_sub (g.var' h4 h5 h6) pi set_list (by cases ie <;> first | (cases h3; done) | (intro _; rfl))) ?_ ?_) fun D σ H q => s_seti h1 q
    · cases v <;> first | rfl | cases h9
    · cases v <;> rfl
  · cases he
theorem gs_app {i : Nat} {e : E} : GoodS M Γ up (.app i e) := by
  refine goodS_st (fun _ _ => rfl) fun {cf X W sc} s x he => ?_
  have g := s.g
  simp only [mtS] at he
  split at he
  · simp only [Bool.and_eq_true, Bool.not_eq_true', decide_eq_true_eq] at he
    obtain ⟨⟨⟨⟨⟨⟨⟨h1, h2⟩, h3⟩, h4⟩, h5⟩, h6⟩, h7⟩, h8⟩ := he
    cases nameIs_eq h1
    have pe := (good e).v g _ h8
    rw [tO_eq h6] at pe
    exact PS.imp (ps_expr (pe_bm PySem.F.plainAttrs_list PySem.F.slot_list_append PySem.F.type_list_append mt_append (g.var' h3 h4 h5) (pa_cons pe pa_nil (star_cons h7)) rfl (few_ok h7) h2 (star_cons h7)) rfl) fun D σ H q => by
      rw [g.K]; exact s_app h6 q
  · cases he
theorem gs_ex {e : E} : GoodS M Γ up (.ex e) := by
  refine goodS_st (fun _ _ => rfl) fun {cf X W sc} s x he => ?_
  have g := s.g
  simp only [mtS] at he
  split at he
  · simp only [Bool.and_eq_true, Bool.not_eq_true'] at he
    have pe := (good e).v g _ he.2
    rw [tO_eq he.1.1] at pe
    exact PS.imp (ps_expr pe (lcDrop_ok he.1.2)) fun D σ H q => s_drop q
  · cases he
theorem gs_ret {e : E} : GoodS M Γ up (.ret e) := by
  refine goodS_st (fun _ _ => rfl) fun {cf X W sc} s x he => ?_
  have g := s.g
  simp only [mtS] at he
  split at he
  · simp only [Bool.and_eq_true, Bool.not_eq_true'] at he
    have pe := (good e).v g _ he.2
    rw [tO_eq he.1] at pe
    exact PS.imp (ps_ret pe) fun D σ H q => s_ret q
  · cases he
theorem gs_ifs {c : E} {a b : S} (ga : GoodS M Γ up a) (gb : GoodS M Γ up b) : GoodS M Γ up (.ifs c a b) := by
  refine goodS_st (fun _ _ => rfl) fun {cf X W sc} s x he => ?_
  have g := s.g
  simp only [mtS] at he
  split at he
  · simp only [Bool.and_eq_true] at he
    exact PS.imp (ps_if ((good c).t g _ he.1.1) (ga.ss s _ he.1.2) (gb.ss s _ he.2)) fun D σ H q => s_if q
  · cases he
theorem gs_whl {c : E} {b : S} (gb : GoodS M Γ up b) : GoodS M Γ up (.whl c b) := by
  refine goodS_st (fun _ _ => rfl) fun {cf X W sc} s x he => ?_
  have g := s.g
  simp only [mtS] at he
  split at he
  · simp only [Bool.and_eq_true] at he
    exact PS.imp (ps_while s.pass ((good c).t g _ he.1) (gb.ss s _ he.2)) fun D σ H q => s_whl q
  · cases he
theorem gs_for {tg : Tg} {it : E} {b : S} (gb : GoodS M Γ up b) : GoodS M Γ up (.for tg it b) := by
  refine goodS_st (fun _ _ => rfl) fun {cf X W sc} s x he => ?_
  have g := s.g
  simp only [mtS] at he
  split at he
  · simp only [Bool.and_eq_true, List.isEmpty_iff] at he
    obtain ⟨⟨⟨⟨⟨⟨h0, h1⟩, h2⟩, h3⟩, h4⟩, h5⟩, h6⟩ := he
    exact PS.imp (ps_for s.pass (g.calm h0) ((good it).it g _ _ h5) ((pg_ok g tg).1 _ h4).1 (gb.ss s _ h6) (noSet_ok h3 _)) fun D σ H q => s_for (noZ_ok h1) h2 q
  · cases he
theorem gs_raise {c : String} {e : E} : GoodS M Γ up (.raise c e) := by
  refine goodS_st (fun _ _ => rfl) fun {cf X W sc} s x he => ?_
  have g := s.g
  simp only [mtS] at he
  split at he
  · simp only [Bool.and_eq_true, Bool.not_eq_true', decide_eq_true_eq] at he
    obtain ⟨⟨⟨⟨⟨⟨⟨h0, h1⟩, h2⟩, h3⟩, h4⟩, h5⟩, h6⟩, h7⟩ := he
    cases nameIs_eq h1
    obtain ⟨C, hC, mk⟩ := s.exs c h4
    have pe := (good e).v g _ h7
    rw [tO_eq h6] at pe
    exact PS.imp (ps_raise (g.calm h0) g.tk (mk (g.gl h2) (pa_cons pe pa_nil (star_cons h5)) (star1 h5))) fun D σ H q => s_raise hC q
  · cases he
theorem gs_try {c : String} {i : Nat} {b t : S} (gb : GoodS M Γ up b) (gt : GoodS M Γ up t) : GoodS M Γ up (.try b (.seq (.hnd c i t) .nil)) := by
  refine goodS_st (fun _ _ => rfl) fun {cf X W sc} s x he => ?_
  have g := s.g
  simp only [mtS] at he
  split at he
  · simp only [Bool.and_eq_true, decide_eq_true_eq] at he
    obtain ⟨⟨⟨⟨⟨⟨⟨⟨h1, h2⟩, h3⟩, h4⟩, h5⟩, h6⟩, h7⟩, h8⟩, h9⟩ := he
    cases nameIs_eq h1
    obtain ⟨Cc, hC, hm⟩ := g.cl c h4
    refine PS.imp (ps_try_tr (tb := fun W' => tS M W' cf.io (evS Γ up b)) (ts := tS M W0 cf.io (evS Γ up t)) s.stack s.frame s.noex (by rw [g.N]; exact g.nd) (by rw [g.N]; exact h5) (by show X.env.scope.names.lookup _ = _; rw [g.sc]; exact of_decide_eq_true h6) ⟨g.gl h2, okNm1 h3, .inl hm⟩ g.tk
      (fun W' pn xe tk ps => gb.ss (s.tr pn xe tk ps) _ h8) (fun a pn => gt.ss (s.su a pn) _ h9)) fun D σ H q => ?_
    have ex := s.exm
    rw [g.K] at ex ⊢
    exact s_try hC (noZ_ok h7) ex q
  · cases he
/-- with the clause in it -/
def Deep : S → (S → Prop) → Prop
  | .hnd _ _ s, P => P s
  | .seq (.hnd _ _ s) _, P => P s
  | _, _ => True
theorem goodS (s : S) : GoodS M Γ up s ∧ Deep s (GoodS M Γ up) := by
  induction s with
  | nil => exact ⟨⟨fun _ x h => (by cases h), fun {cf X W sc} s x h => by
      cases x with
      | nil => exact PSs.imp pss_nil fun D σ H q => s_nil q
      | cons _ _ => cases h⟩, trivial⟩
  | seq a b iha ihb =>
    refine ⟨⟨fun _ x h => (by cases h), fun {cf X W sc} s x h => ?_⟩, ?_⟩
    · cases x with
      | nil => cases h
      | cons y ys =>
        simp only [mtS, Bool.and_eq_true] at h
        exact PSs.imp (pss_cons (iha.1.st s _ h.1) (ihb.1.ss s _ h.2)) fun D σ H q => s_seq q
    · cases a <;> first | exact iha.2 | exact trivial
  | asg tg e => exact ⟨gs_asg, trivial⟩
  | par is es => exact ⟨gs_par, trivial⟩
  | seti i ix e => exact ⟨gs_seti, trivial⟩
  | app i e => exact ⟨gs_app, trivial⟩
  | ex e => exact ⟨gs_ex, trivial⟩
  | ifs c a b iha ihb => exact ⟨gs_ifs iha.1 ihb.1, trivial⟩
  | whl c b ih => exact ⟨gs_whl ih.1, trivial⟩
  | «for» tg it b ih => exact ⟨gs_for ih.1, trivial⟩
  | ret e => exact ⟨gs_ret, trivial⟩
  | retn => 
    refine ⟨goodS_st (fun _ _ => rfl) fun {cf X W sc} s x he => ?_, trivial⟩
    simp only [mtS] at he
    split at he
    · exact PS.imp ps_retN fun D σ H q => s_retn q
    · cases he
  | pass =>
    refine ⟨goodS_st (fun _ _ => rfl) fun {cf X W sc} s x he => ?_, trivial⟩
    simp only [mtS] at he
    split at he
    · exact PS.imp ps_pass fun D σ H q => s_nil q
    · cases he
  | brk =>
    refine ⟨goodS_st (fun _ _ => rfl) fun {cf X W sc} s x he => ?_, trivial⟩
    simp only [mtS] at he
    split at he
    · exact PS.imp ps_break fun D σ H q => s_brk q
    · cases he
  | cnt =>
    refine ⟨goodS_st (fun _ _ => rfl) fun {cf X W sc} s x he => ?_, trivial⟩
    simp only [mtS] at he
    split at he
    · exact PS.imp ps_continue fun D σ H q => s_cnt q
    · cases he
  | raise c e => exact ⟨gs_raise, trivial⟩
  | «try» b hs ihb ihh =>
    refine ⟨?_, trivial⟩
    by_cases hq : ∃ c i t, hs = .seq (.hnd c i t) .nil
    · obtain ⟨c, i, t, rfl⟩ := hq
      exact gs_try ihb.1 ihh.2
    · have e : ∀ cf sc, mtS (.try b hs) cf sc = (fun _ => false, fun _ => false) := fun cf sc => by
        cases hs with
        | seq a r => cases a <;> first | rfl | (cases r <;> first | rfl | exact absurd ⟨_, _, _, rfl⟩ hq)
        | _ => rfl
      exact ⟨fun {cf X W sc} _ x h => (by rw [e] at h; cases h), fun {cf X W sc} _ x h => (by rw [e] at h; cases h)⟩
  | dead => exact ⟨⟨fun _ x h => ⟨fun pins s σ H D I ⟨ρ, G, Fs, r, e, g, hr, fin⟩ => (nomatch hr)⟩, fun _ x h => ⟨fun pins s σ H D I ⟨ρ, G, Fs, r, e, g, hr, fin⟩ => (nomatch hr)⟩⟩, trivial⟩
  | hnd c i s ih => exact ⟨⟨fun _ x h => (by cases h), fun _ x h => (by cases h)⟩, ih.1⟩
end
end VI

set_option maxHeartbeats 2000000
set_option synthInstance.maxSize 128
set_option synthInstance.maxHeartbeats 20000
namespace VI
open PySem PySem.Spec L2
open PyProof.Rows hiding St
/-! ### a def by its body, where no repr runs around -/
theorem guards_deeper {A : Around} {env : PySem.Env} (h : A.guards = some []) : (A.deeper env).guards = some [] := h
theorem fnG_of {P : Program} {w : World} {K : PySem.W.Frag} {mg : Str → Option Value} {base : Heap} {x qual : Str} {params : Arguments} {body : List Stmt} {scope : Scope} {dvs : List V} {kws : List (Str × V)} {f : Addr} {fd : FuncData}
    {N ps : List Str} {k : Nat} {sp : Sp} (F : FunD K x qual params body scope dvs kws f fd) (S : FnScope N ps scope) (len : ∀ vs H Q E, sp vs H Q E → vs.length = ps.length)
    (hbody : ∀ (cdv : Value) (A : Around) (outer : List PySem.Env) (s : Shared) (H : Hp) (vs : List V) (Q : VK) (E : XK), Room k (A.deeper (envOfC qual scope s.heap.objs.size f cdv)) → A.guards = some [] → sp vs H Q E →
      ∃ t, PSs (cxOf (CX P w) P w K mg base N qual scope f cdv A outer s H E) body t ∧ t { nx := fun _ H' => Q .non H', rt := Q } (start N vs) H) : FnG P w K mg base (k + 1) f fd ps sp := by
  obtain ⟨oc, od, dV, kV, doc, pm, an, cdv, ct, osl, rfl, lk, hcd, _, _⟩ := F.ex
  refine ⟨len, fun A outer s H args us vs Q E room gd e0 bnd rel hyp => ?_⟩
  have lenV := len _ _ _ _ hyp
  have KX : K.In s.heap := e0.mod.kin.keeps fun b o e => (e0.bs b o e).1
  have noLim : s.heap.NoLimit := e0.mod.nolimit.keeps fun b o e => (e0.bs b o e).1
  have kinds : ∀ y ∈ ps.zip us, scope.names.lookup y.1 = some .local ∨ (scope.names.lookup y.1 = some .cell ∧ ((cellsFrom (s.heap.objs.size + 1) scope.names []).lookup y.1).isSome = true) := fun ⟨n, v⟩ hy =>
    (S.par n (List.of_mem_zip hy).1).imp id fun q => ⟨q, PySem.W.cellsFrom_some _ _ _ (.inl q)⟩
  refine codeAny_call_function room.depth (KX _ _ lk) rfl S.co S.gen rfl (PySem.W.codeRec_of KX hcd) (bnd _ _ _ _ ?_)
  refine wpAny_newFunctionEnv_cells S.kind kinds fun env he s1 entry => ?_
  subst he
  refine ⟨noLim.keeps entry.toInCall.keep, codeAny_func ?_⟩
  obtain ⟨t, ht, hq⟩ := hbody cdv A outer s H vs Q E (room.deeper _) gd hyp
  have I1 : Inv (cxOf (CX P w) P w K mg base N qual scope f cdv A outer s H E) [] (start N vs) H s1 := inv_start S room.hd e0 lenV rel entry
  refine wpAny_mono (ht.run [] s1 (start N vs) H _ I1 hq) (fun fl s' ends => ?_) fun e s' ends => ends
  cases fl with
  | ret u =>
    obtain ⟨v, σ', H', J, rv, q⟩ := ends
    exact ⟨v, H', J.os, J.bare, J.base, J.hok, rv, q⟩
  | next =>
    obtain ⟨σ', H', J, q⟩ := ends
    exact ⟨V.non, H', J.os, J.bare, J.base, J.hok, rfl, q⟩
  | brk => exact ends.elim fun _ z => z.elim fun _ z => z.2.elim
  | cont => exact ends.elim fun _ z => z.elim fun _ z => z.2.elim
/-! ### the law's own call -/
theorem lawG {P : Program} {w : World} {K : PySem.W.Frag} {mg mb : Str → Option Value} {k : Nat} {fa a : Addr} {fd : FuncData} {x : Str} {sp : Sp} {s₁ : Shared} {us : List Value} {ns : List Int}
    (KX : K.In s₁.heap) (glo : s₁.heap.Ns mainGlobals mg) (blt : s₁.heap.Ns builtinsNs mb) (boot : ∀ x : Str, x ≠ "__name__" → mb x = bootBuiltins x) (noLim : s₁.heap.NoLimit) (noGen : s₁.gens = #[])
    (ha : s₁.heap.get? a = some { cls := .type "list", data := .seq us.toArray }) (hi : IntsAre us ns) (hl : ns.length ≤ sizeLine) (room : Room k callerA)
    (F : ∀ base : Heap, K.In base → base.Ns mainGlobals mg → FnG P w K mg base k fa fd [x] sp) (bnd : Binds K fd [x] [])
    (hsp : ∀ H : Hp, Only H → ScrAt K H a ns → sp [.ref a] H (fun v _ => v = .bl true) fun _ _ _ => False) :
    codeAny (model P w) callerA (.call (.ref fa) ⟨[.ref a], []⟩) (fun r s' => r = .ok (.ret (.bool true)) ∧ OldK s₁.heap s'.heap ∧ s'.os = s₁.os ∧ AllBare s'.gens) s₁ := by
  have rel := vals_ints hi
  have lenU := hi.length
  let scr : Obj := { cls := .type "list", data := .seq us.toArray }
  have go : ∀ H : Hp, Only H → ScrAt K H a ns → HOk P w H s₁.heap → (∀ b, H b ≠ none → b = a) → (H a ≠ none → K.lookup a = none) →
      codeAny (model P w) callerA (.call (.ref fa) ⟨[.ref a], []⟩) (fun r s' => r = .ok (.ret (.bool true)) ∧ OldK s₁.heap s'.heap ∧ s'.os = s₁.os ∧ AllBare s'.gens) s₁ := by
    intro H only scrA hok justA hid
    have noDict : ∀ {b : Addr} {o : Obj} {es : Array DictEntry} {ep : Nat}, s₁.heap.get? b = some o → o.data = .dict es ep → H b = none := fun {b o es ep} e d => by
      cases q : H b with
      | none => rfl
      | some u =>
        have eb : b = a := justA b (by rw [q]; simp)
        rw [eb, ha] at e
        cases e
        cases d
    have nsIn : ∀ {b : Addr} {m : Str → Option Value}, s₁.heap.Ns b m → (hidT s₁.heap H).Ns b m := fun {b m} ⟨o, es, ep, e, d, r⟩ => ⟨o, es, ep, hidT_get e (noDict e d), d, r⟩
    have KIn : K.In (hidT s₁.heap H) := fun b o e => hidT_get (KX b o e) (by
      cases q : H b with
      | none => rfl
      | some u =>
        have eb : b = a := justA b (by rw [q]; simp)
        rw [eb, hid (by rw [← eb, q]; simp)] at e
        cases e)
    have hMod : Mod K mg (hidT s₁.heap H) := ⟨KIn, nsIn glo, ⟨mb, nsIn blt, boot⟩, let ⟨mc, h1, h2⟩ := noLim; ⟨mc, nsIn h1, h2⟩⟩
    have env0 : Env0 P w K mg (hidT s₁.heap H) callerA [] s₁ H := ⟨rfl, hMod, fun b o e => of_hidT e, Nat.le_of_eq (hidT_size _ _), trivial, fun b hb => (nomatch hb), hok, .of_eq noGen⟩
    refine codeAny_mono ((F _ KIn (nsIn glo)).run callerA [] s₁ H ⟨[.ref a], []⟩ [.ref a] [.ref a] _ _ room rfl env0 (bnd s₁ [.ref a] KX rfl) (.cons rfl .nil) (hsp H only scrA)) fun r s' h => ?_
    cases r with
    | error e =>
      obtain ⟨_, _, _, _, _, _, _, _, _, _, _, _, z⟩ := (show CX P w [] H s₁ (fun _ _ _ => False) e s' from h)
      exact z.elim
    | ok fl =>
      cases fl with
      | next => exact False.elim h
      | brk => exact False.elim h
      | cont => exact False.elim h
      | ret u =>
        obtain ⟨v, H', os', bare', un', hok', rv, q⟩ := h
        obtain rfl : v = .bl true := q
        obtain rfl : u = Value.bool true := rv
        refine ⟨rfl, OldK.of_keep fun b o e => ?_, os', bare'⟩
        rcases only b with none_ | ⟨ob, xs, some_⟩
        · exact un'.keep b o e none_ (fun z => nomatch z) (fun z => nomatch z)
        · have later := un'.frzs b ob _ some_
          have now_ := (hok b _ some_).1
          rw [e] at now_; cases now_
          exact (hok' b _ later).1
  cases hk : K.lookup a with
  | some o =>
    have e := KX a o hk
    rw [ha] at e; cases e
    exact go (fun _ => none) (fun _ => .inl rfl) (.inr fun _ => .inr ⟨_, us.toArray, _, hk, rfl, rfl, rfl, by rw [List.size_toArray, lenU]; exact hl, by simpa using rel⟩) (fun b u z => (nomatch z)) (fun b z => absurd rfl z) fun z => absurd rfl z
  | none =>
    refine go (fun b => if b = a then some (.frz scr (.lst (ns.map V.int))) else none) (fun b => ?_) (.inl ⟨scr, if_pos rfl⟩) (fun b u z => ?_) (fun b z => ?_) fun _ => hk
    · by_cases eb : b = a
      · exact .inr ⟨_, _, if_pos eb⟩
      · exact .inl (if_neg eb)
    · by_cases eb : b = a
      · have z2 := (if_pos eb).symm.trans z
        cases z2
        rw [eb]
        exact ⟨ha, by rw [List.length_map]; exact hl, us, _, rel, ha⟩
      · have z2 := (if_neg eb).symm.trans z
        cases z2
    · by_cases eb : b = a
      · exact eb
      · exact absurd (if_neg eb) z
theorem walkG {l : PySem.W.OpenLaw} {n k : Nat} {q : Program} {loose : List Str} {XP : (Str → Option Value) → Heap → Prop} {YP : World → Heap → Prop} {d : DefRec} {x : Str}
    (hn : l.most = some n) (hn2 : n ≤ sizeLine) (hdf : d.params.defaults = []) (hr : Room k callerA)
    (F : ∀ (w : World) (mg : Str → Option Value) (fa : Addr) (h : Heap), YP w h → h.Ns mainGlobals mg → mg d.name = some (.ref fa) →
      ∃ (K : PySem.W.Frag) (fd : FuncData) (sp : Sp), K.In h ∧ Binds K fd [x] [] ∧
        (∀ (H : Hp) (a : Addr) (ns : List Int), ns.length ≤ n → (∀ z ∈ ns, Builtin.Int.intBits z ≤ 1048576) → Only H → ScrAt K H a ns → sp [.ref a] H (fun v _ => v = .bl true) fun _ _ _ => False) ∧
        ∀ base : Heap, K.In base → base.Ns mainGlobals mg → FnG l.prog w K mg base k fa fd [x] sp) :
    PySem.W.WalkO q loose XP YP l.row.toRowW d [] (fun f vs => PySem.call f vs) := by
  refine Att.attach_callB hn hdf fun w s₀ s₁ mg mb fa o pm cd doc a vs ns G Y ho hd hcd hmg hobj hints hlen hbits hg => ?_
  obtain ⟨K, fd, sp, KX, hb, hsp, hF⟩ := F w mg fa _ Y G.T.g hmg
  exact lawG KX G.T.g G.T.b G.T.builtins G.T.nolimit hg hobj hints (Nat.le_trans hlen hn2) hr hF hb fun H only scrA => hsp H a ns hlen hbits only scrA
end VI

set_option maxHeartbeats 1000000
set_option synthInstance.maxSize 128
set_option synthInstance.maxHeartbeats 20000
namespace VI
open PySem L2
/-- what is known of an exception class's call, in every context of the program -/
def MkAll (P : Program) (w : World) (K : PySem.W.Frag) (mg : Str → Option Value) (base : Heap) (c : String) (C : Addr) : Prop :=
  ∀ (X : Cx), X.prog = P → X.w = w → X.K = K → X.mg = mg → X.base = base → Room 2 X.A → ∀ {e : Expr} {ta : TA} {p pos : Pos}, Gl X (Str.ofString c) → PA X [e] ta → starEach [e] X.env = [(false, eval e X.env)] → PMk X (.Call (.Name (Str.ofString c) p) [e] [] pos) (tMkV C ta)
def toS (l : List String) : List Str := l.map Str.ofString
/-- a def as it stands -/
structure DefOK (M : Nm) (K : PySem.W.Frag) (mg : Str → Option Value) (cf : Cf) (f : String) (g : Fn) (a : Addr) (fd : FuncData) (ps N : List Str) : Prop where
  fn : g.io = false → M.fn f = some a
  mg : mg (Str.ofString f) = some (.ref a)
  keep : PySem.W.keepIn K (.ref a) = true
  lenP : ps.length = g.ps.length
  lenN : N.length = g.N.length
  binds : Binds K fd ps []
  kb : ∀ ks np perm, (f, ks, np, perm) ∈ cf.kws → KB K fd ps (ks.map Str.ofString) np perm
  body : ∃ (x qual : Str) (params : Arguments) (bd : List Stmt) (scope : Scope) (dvs : List V) (kws : List (Str × V)), FunD K x qual params bd scope dvs kws a fd ∧ FnScope N ps scope ∧ (mtS g.body { cf with N := N, io := g.io } scope).2 bd = true
structure Prog (M : Nm) (T : Tab) (up : String → String → Bool) (cf : Cf) (P : Program) (w : World) (K : PySem.W.Frag) (mg : Str → Option Value) (base : Heap) : Prop where
  hK : K = M.K
  cm : cf.cm = true
  fns : ∀ f io, cf.fns.lookup f = some io → ∃ g, T f = some g ∧ g.io = io
  fnv : ∀ f a, M.fn f = some a → cf.fns.lookup f = some false
  defs : ∀ f g, T f = some g → ∃ a fd, DefOK M K mg cf f g a fd (toS g.ps) (toS g.N)
  gi : ∀ x i, cf.gi.lookup x = some i → ∃ t, mg (Str.ofString x) = some (.int i t)
  cl : ∀ c, c ∈ cf.cls → ∃ a, M.cl c = some a ∧ mg (Str.ofString c) = some (.ref a)
  bi : ∀ x ∈ biNames, mg x = none
  xf : ∀ c C, M.cl c = some C → XfC K C ∧ PySem.W.findIn K (.ref C) "value" = some none
  exs : ∀ c, c ∈ cf.exs → ∃ C, M.cl c = some C ∧ MkAll P w K mg base c C
  exm : ∀ c1 c2 C1 C2, M.cl c1 = some C1 → M.cl c2 = some C2 → PySem.W.exmOne K (.ref C1) (.ref C2) = some (up c1 c2)
section
variable {M : Nm} {G G' : Addr → Prop} {H H' : Hp}
/-- the footprints one by one -/
theorem RepL.parts : ∀ {vs : List V} {ds : List D} {F : List Addr}, RepL M G H vs ds F → F.Nodup → ∃ Fs : Nat → List Addr, (∀ i d, ds[i]? = some d → ∃ v, vs[i]? = some v ∧ Rep M G H v d (Fs i)) ∧ (∀ i, ds.length ≤ i → Fs i = []) ∧ (∀ i, (Fs i).Nodup) ∧ (∀ i j a, i ≠ j → a ∈ Fs i → a ∉ Fs j) ∧ ∀ a, (∃ i, a ∈ Fs i) ↔ a ∈ F
  | _, _, _, .nil, _ => ⟨fun _ => [], fun i d h => by simp at h, fun _ _ => rfl, fun _ => .nil, fun _ _ _ _ h => (nomatch h), fun a => ⟨fun ⟨_, h⟩ => (nomatch h), fun h => (nomatch h)⟩⟩
  | _, _, _, @RepL.cons _ _ _ v vs d ds F0 F1 r t, hn => by
    obtain ⟨n0, n1, nx⟩ := List.nodup_append.mp hn
    obtain ⟨Fs, h1, h2, h3, h4, h5⟩ := RepL.parts t n1
    refine ⟨fun i => match i with | 0 => F0 | i + 1 => Fs i, fun i d' h => ?_, fun i h => ?_, fun i => ?_, fun i j a hij h => ?_, fun a => ⟨fun ⟨i, h⟩ => ?_, fun h => ?_⟩⟩
    · cases i with
      | zero => simp at h; subst h; exact ⟨v, rfl, r⟩
      | succ i => exact h1 i d' (by simpa using h)
    · cases i with
      | zero => simp at h
      | succ i => exact h2 i (by simpa using h)
    · cases i with
      | zero => exact n0
      | succ i => exact h3 i
    · cases i with
      | zero => cases j with
        | zero => exact absurd rfl hij
        | succ j => exact fun z => nx a h a ((h5 a).mp ⟨j, z⟩) rfl
      | succ i => cases j with
        | zero => exact fun z => nx a z a ((h5 a).mp ⟨i, h⟩) rfl
        | succ j => exact h4 i j a (fun e => hij (by rw [e])) h
    · cases i with
      | zero => exact List.mem_append_left _ h
      | succ i => exact List.mem_append_right _ ((h5 a).mp ⟨i, h⟩)
    · rcases List.mem_append.mp h with h | h
      · exact ⟨0, h⟩
      · obtain ⟨i, h⟩ := (h5 a).mpr h
        exact ⟨i + 1, h⟩
theorem start_env {vs : List V} {ds : List D} {N : List Str} {n : Nat} {Fs : Nat → List Addr} (hN : N.length = n) (hl : vs.length = ds.length) (h1 : ∀ i d, ds[i]? = some d → ∃ v, vs[i]? = some v ∧ Rep M G H v d (Fs i)) (h2 : ∀ i, ds.length ≤ i → Fs i = []) (h3 : ∀ i, (Fs i).Nodup) (h4 : ∀ i j a, i ≠ j → a ∈ Fs i → a ∉ Fs j) :
    EnvOK M G H (L2.start N vs) (ds.map some ++ List.replicate (n - ds.length) none) Fs where
  len := by unfold L2.start; simp [hN, hl]
  at_ := fun i d h => by
    by_cases hi : i < ds.length
    · rw [List.getElem?_append_left (by simpa using hi), List.getElem?_map] at h
      cases q : ds[i]? with
      | none => rw [q] at h; cases h
      | some d' =>
        rw [q] at h; cases h
        obtain ⟨v, e, r⟩ := h1 i _ q
        refine ⟨v, ?_, r⟩
        unfold L2.start
        rw [List.getElem?_append_left (by simpa [hl] using hi), List.getElem?_map, e]; rfl
    · rw [List.getElem?_append_right (by simpa using hi), List.getElem?_replicate] at h
      split at h <;> cases h
  non := fun i h => by
    by_cases hi : i < ds.length
    · refine absurd ?_ (h ds[i])
      rw [List.getElem?_append_left (by simpa using hi), List.getElem?_map, List.getElem?_eq_getElem hi]; rfl
    · exact h2 i (Nat.le_of_not_lt hi)
  nd := h3
  dj := h4
theorem Stp.own_iff {O O' : Addr → Prop} (h : ∀ a, O a ↔ O' a) (s : Stp G H O G' H') : Stp G H O' G' H' := by
  have e : O = O' := funext fun a => propext (h a)
  subst e; exact s
end
section
variable {M : Nm} {T : Tab} {up : String → String → Bool} {cf : Cf} {P : Program} {w : World} {K : PySem.W.Frag} {mg : Str → Option Value} {base : Heap}
/-- every def keeps its promise at every level -/
theorem tabG (pr : Prog M T up cf P w K mg base) : ∀ n f g a fd ps N, T f = some g → DefOK M K mg cf f g a fd ps N → FnG P w K mg base (n + 3) a fd ps (spG M (callN T up n) f g)
  | 0, f, g, a, fd, ps, N, hT, d => by
    refine ⟨fun vs H Q E ⟨_, _, _, _, _, _, _, hl, _⟩ => by rw [hl, d.lenP], fun A outer s H args us vs Q E _ _ _ _ _ h => ?_⟩
    obtain ⟨_, _, _, _, _, _, _, _, h, _⟩ := h
    cases h
  | n + 1, f, g, a, fd, ps, N, hT, d => by
    obtain ⟨x, qual, params, bd, scope, dvs, kws, F, S, hm⟩ := d.body
    refine fnG_of F S (fun vs H Q E ⟨_, _, _, _, _, _, _, hl, _⟩ => by rw [hl, d.lenP]) fun cdv A outer s H vs Q E room gd h => ?_
    obtain ⟨G, ds, F0, r, g0, rl, nd, hl, hr, hq⟩ := h
    let W : WX := fun cls d _ H => E cls d H
    have gx : GX M (callN T up n) { cf with N := N, io := g.io } (cxOf (CX P w) P w K mg base N qual scope a cdv A outer s H E) W scope scope :=
      { K := pr.hK, sc := rfl, N := rfl, nd := S.nd, calm := fun _ => rfl
        units := by have := room.un; show (A.deeper (PyProof.Rows.envOfC qual scope s.heap.objs.size a cdv)).units + 66 < cLine; omega
        guards := guards_deeper gd
        tk := takes_of rfl rfl rfl rfl
        fnc := fun _ _ => rfl
        fn := fun f' io h => by
          obtain ⟨g', hT', hio⟩ := pr.fns f' io h
          obtain ⟨a', fd', d'⟩ := pr.defs f' g' hT'
          refine ⟨a', fd', g', toS g'.ps, n + 3, ⟨fun z => d'.fn (hio.trans z), d'.mg, d'.keep, room, hio, fun ds r h => ?_, tabG pr n f' g' a' fd' _ _ hT' d', d'.binds, d'.kb⟩⟩
          cases n with
          | zero => cases h
          | succ n =>
            have h' : ((T f').bind fun g => runFn (callN T up n) up g ds) = some r := h
            rw [hT'] at h'
            have h' : runFn (callN T up n) up g' ds = some r := h'
            unfold runFn at h'
            split at h'
            · assumption
            · cases h'
        fnv := fun _ => pr.fnv
        gi := pr.gi, cl := pr.cl, bi := pr.bi, xf := pr.xf }
    have gs : GS M (callN T up n) up { cf with N := N, io := g.io } (cxOf (CX P w) P w K mg base N qual scope a cdv A outer s H E) W scope :=
      { g := gx, pass := passes_of rfl, kind := S.kind, stack := rfl, frame := rfl, noex := rfl
        exs := fun c hc => by
          obtain ⟨C, h1, h2⟩ := pr.exs c hc
          exact ⟨C, h1, h2 _ rfl rfl rfl rfl rfl (room.mono (by omega))⟩
        exm := pr.exm }
    refine ⟨_, ((goodS g.body).1.ss gs bd hm), ?_⟩
    obtain ⟨Fs, f1, f2, f3, f4, f5⟩ := rl.parts nd
    have hr' : runFn (callN T up n) up g ds = some r := by
      have h' : ((T f).bind fun g => runFn (callN T up n) up g ds) = some r := hr
      rw [hT] at h'; exact h'
    unfold runFn at hr'
    split at hr'
    · rename_i hdl
      have e0 := start_env (N := N) d.lenN (rl.length) f1 f2 f3 f4
      have stp : ∀ {G' : Addr → Prop} {H' : Hp}, Stp G H (Own Fs) G' H' → Stp G H (· ∈ F0) G' H' := fun st => st.own_iff f5
      have own : ∀ {b : Addr}, Own Fs b ∨ H b = none → b ∈ F0 ∨ H b = none := fun h => h.imp (f5 _).mp id
      -- the end with a value
      have fin : ∀ {d : D} {v : V} {ρ' : Env} {σ' : St} {G' : Addr → Prop} {H' : Hp} {Fs' : Nat → List Addr} {F : List Addr}, runFn.fin g d ρ' = some r → PstS M g.io (L2.start N vs) G H (Own Fs) σ' ρ' d v G' H' Fs' F → Q v H' := fun {d0 v ρ' σ' G' H' Fs' F} hfin p => by
        have post : Post M G H F0 d0 v G' H' F := ⟨p.pen.gok, stp p.pen.stp, p.rep, fun b h => own (p.own b h), p.nd⟩
        unfold runFn.fin at hfin
        split at hfin
        · rename_i hio
          split at hfin
          · rename_i xs hs
            cases hfin
            refine hq v G' H' F post fun _ => ?_
            obtain ⟨v0, h1, h2⟩ := p.pen.env.at_ 0 _ (slot_some hs)
            have h3 := p.pen.fix hio
            rw [h1] at h3
            have hv : vs[0]? = some v0 := by
              unfold L2.start at h3
              cases vs with
              | nil =>
                simp only [List.map_nil, List.nil_append, List.length_nil] at h3
                rw [List.getElem?_replicate] at h3
                split at h3 <;> cases h3
              | cons v1 vs => simp at h3; simp [h3]
            exact ⟨_, v0, hv, h2, p.pen.env.nd 0, fun b h => own (p.pen.own b ⟨0, h⟩), fun b h z => p.dj b z ⟨0, h⟩⟩
          · cases hfin
        · rename_i hio
          cases hfin
          exact hq v G' H' F post fun z => absurd z hio
      cases q : evS (callN T up n) up g.body (ds.map some ++ List.replicate (g.N.length - ds.length) none) with
      | none => rw [q] at hr'; cases hr'
      | some r1 =>
        rw [q] at hr'
        refine ⟨_, G, Fs, r1, e0, g0, q, ?_⟩
        cases r1 with
        | nx ρ' => exact fun σ' G' H' Fs' p => fin (v := .non) (F := []) hr' ⟨p, .non, fun _ z => (nomatch z), .nil, fun _ z => (nomatch z)⟩
        | rt d0 ρ' => exact fun v σ' G' H' Fs' F p => fin hr' p
        | bk ρ' => cases hr'
        | ct ρ' => cases hr'
        | ex c d0 ρ' =>
          cases hr'
          exact fun C dd σ' G' H' Fs' p => hq C dd G' H' ⟨p.pen.gok, stp p.pen.stp, p.cl, p.fld⟩
    · cases hr'
/-- the law's promise -/
theorem law_sp {f : String} {g : Fn} {n : Nat} {H : Hp} {a : Addr} {ns : List Int} {io : D} (hp : g.ps.length = 1) (hs : ScrAt M.K H a ns) (hl : ns.length ≤ sizeLine) (hr : callN T up n f [.scr ns] = some (.ok (.bl true) io)) :
    spG M (callN T up n) f g [.ref a] H (fun v _ => v = .bl true) fun _ _ _ => False := by
  refine ⟨fun _ => False, [.scr ns], [], _, fun _ h => h.elim, .cons (F := []) (Fs := []) (.scr hs hl) .nil, .nil, hp.symm, hr, fun v G' H' F' p _ => ?_⟩
  have := p.rep
  cases this
  rfl
end
end VI

set_option maxHeartbeats 4000000
set_option synthInstance.maxSize 128
set_option synthInstance.maxHeartbeats 20000
namespace VI
open PySem PySem.Spec L2 PySem.W
open PyProof.Rows hiding St InstAt
/-! ### __init__(self, value=None): super().__init__(value); self.value = value -/
/-- the text of it -/
def initTx (p : Nat → Pos) (k : Nat) : List Stmt :=
  [.Expr (.Call (.Attribute (.Call (.Name "super" (p 0)) [] [] (p 1)) "__init__" (p 2)) [.Name "value" (p 3)] [] (p 4)) (p 5),
   .Assign [.Attribute (.Name "self" (p 6)) "value" (p 7)] (.Name "value" (p 8)) (p 9)]
structure InitF (P : Program) (K : PySem.W.Frag) (C D fI cc cda : Addr) (pos : Nat → Pos) : Prop where
  cls : ∃ nm q N bs bm sn sub ab col dd k0 k1 k2 k3 k5, K.lookup C = some (excClassObj nm q C N bs bm true sn sub ab col dd k0 k1 k2 k3 k5 "ValueError.__new__") ∧ PySem.HandSPX.refsVE bm = true
  ini : excInitIn K C He.veBase "ValueError.__new__" = true
  sa : findIn K (.ref C) "__setattr__" = some (some (.builtin "object.__setattr__"))
  exC : subIn K (.ref C) (.type "BaseException") = some true
  veC : subIn K (.ref C) (.type "ValueError") = some true
  tyC : typeIn K (.ref C) = some (.type "type")
  kC : keepIn K (.ref C) = true
  noV : findIn K (.ref C) "value" = some none
  iC : findIn K (.ref C) "__init__" = some (some (.ref fI))
  tI : typeIn K (.ref fI) = some (.type "function")
  sup : ks_superIn K C D "__init__" = some (some (.builtin "ValueError.__init__"))
  third : nsIn K cStatics "thirdparty.any" = some none
  fn : ∃ (oc : Value) (od : Option Addr) (osl : Array (Option Value)) (q : Str) (dl : List Expr) (scope : Scope) (T : Addr) (ot : Obj) (nt : Nat) (kV doc pm : Value) (an : Option Addr) (ct : Value) (ap aq : Pos),
    K.lookup fI = some ⟨oc, od, .func (ksFn "__init__" q ⟨[], [⟨"self", none, ap⟩, ⟨"value", none, aq⟩], none, [], [], none, dl⟩ (initTx pos 0) scope (.ref T) kV doc pm an (.ref cda) ct cc), osl⟩ ∧ codeIn K (.ref cda) q = true ∧ K.lookup T = some ot ∧ ot.data = .seq #[.none] nt ∧
    scope.kind = .function ∧ scope.isCoroutine = false ∧ scope.isGenerator = false ∧ (∀ x ∈ scope.names, x.2 ≠ .cell) ∧ scope.names.lookup ("self" : Str) = some .local ∧ scope.names.lookup ("value" : Str) = some .local ∧ scope.names.lookup ("__class__" : Str) = some .free ∧ scope.names.lookup ("super" : Str) = some .globalImplicit
  code : ∃ (oc : Value) (od : Option Addr) (osl : Array (Option Value)) (vs : Array Value) (file : Str) (tf : Tok), K.lookup cda = some ⟨oc, od, .fields vs, osl⟩ ∧ vs[2]? = some (.str file tf) ∧ ((P.main.file : Str) == file) = true
  cell : ∃ (oc : Value) (od : Option Addr) (osl : Array (Option Value)), K.lookup cc = some ⟨oc, od, .cell (some (.ref D)), osl⟩
  clsD : ∃ cd, clsIn K D = some cd
  sub : mroIn K C (.ref D) = some true
  noS : nsIn K mainGlobals "super" = some none
  top : (P.main.scope.names.lookup ("super" : Str)).isSome = false
  lines : (pos 2).endLine == (pos 4).line
theorem initBinds {s : Shared} {K : PySem.W.Frag} (X : K.In s.heap) {q : Str} {dl : List Expr} {body : List Stmt} {scope : Scope} {T : Addr} {ot : Obj} {nt : Nat} {kV doc pm cdv ct : Value} {an : Option Addr} {cc : Addr} {ap aq : Pos} {u v : Value}
    (lT : K.lookup T = some ot) (oT : ot.data = .seq #[.none] nt) :
    BindsTo s (ksFn "__init__" q ⟨[], [⟨"self", none, ap⟩, ⟨"value", none, aq⟩], none, [], [], none, dl⟩ body scope (.ref T) kV doc pm an cdv ct cc) ⟨[u, v], []⟩ [("self", u), ("value", v)] := by
  have h : ∃ k, bindArgs (ksFn "__init__" q ⟨[], [⟨"self", none, ap⟩, ⟨"value", none, aq⟩], none, [], [], none, dl⟩ body scope (.ref T) kV doc pm an cdv ct cc) ⟨[u, v], []⟩ = seqItems? (.ref T) >>= k ∧ k (some #[.none]) = pure [(("self" : Str), u), ("value", v)] := ⟨_, rfl, rfl⟩
  obtain ⟨k, e1, e2⟩ := h
  refine BindsTo.of_looks fun M => ?_
  rw [e1]
  exact looks_items X lT oT (.of_pure e2)
section
variable {P : Program} {w : World} {K : PySem.W.Frag} {C D fI cc cda : Addr} {pos : Nat → Pos} {A : Around} {R : Result → Shared → Prop}
theorem init_run (F : InitF P K C D fI cc cda pos) {h₀ hp : Heap} {g : Array GenState} {dr : Drawn} {tk : Tok} {os : OsState} {e t0 : Addr} {v : Value} {mg mb : Str → Option Value} (room : A.depth < recursionLimit) (X₀ : K.In h₀) (k0 : ∀ b o, h₀.get? b = some o → hp.get? b = some o) (sz : h₀.objs.size ≤ hp.objs.size)
    (lim : hp.NoLimit) (glo : h₀.Ns mainGlobals mg) (blt : h₀.Ns builtinsNs mb) (boot : ∀ x : Str, x ≠ "__name__" → mb x = bootBuiltins x)
    (he : hp.get? e = some (PySem.HandSPX.excO C t0)) (e0 : h₀.get? e = none)
    (hq : ∀ h' tk' t1 dx, (∀ b o, h₀.get? b = some o → h'.get? b = some o) → h₀.objs.size ≤ dx → dx ≠ e → h'.get? e = some { cls := .ref C, dict := some dx, data := .fields #[.ref t1, .none, .none, .none, .bool false, .none] } →
      h'.Ns1 dx (fun y => if y = ("value" : Str) then some v else none) → R (.ok (.ret .none)) ⟨h', g, dr, tk', os⟩) :
    codeAny (model P w) A (.call (.ref fI) ⟨[.ref e, v], []⟩) R ⟨hp, g, dr, tk, os⟩ := by
  obtain ⟨oc, od, osl, q, dl, scope, T, ot, nt, kV, doc, pm, an, ct, ap, aq, lk, hcd, lT, oT, sk, sco, sgen, scell, sself, sval, scls, ssup⟩ := F.fn
  have X : K.In hp := X₀.keeps k0
  have ne : ("value" : Str) ≠ "self" := by decide
  refine ks_codeAny_call_defAt (fd := ksFn "__init__" q ⟨[], [⟨"self", none, ap⟩, ⟨"value", none, aq⟩], none, [], [], none, dl⟩ (initTx pos 0) scope (.ref T) kV doc pm an (.ref cda) ct cc) (body := initTx pos 0) (binds := [("self", .ref e), ("value", v)]) room (X _ _ lk) rfl lim (codeRec_of X hcd) rfl (initBinds X lT oT) scell
    (fun x hx => by
      rcases List.mem_cons.mp hx with z | z
      · rw [z]; exact sself
      · rcases List.mem_cons.mp z with z | z
        · rw [z]; exact sval
        · cases z) (fun h1 ns1 k1 => ?_) sco sgen sk
  generalize hL : hp.objs.size = L at ns1 ⊢
  have eL : ∀ {b : Addr} {o : Obj}, hp.get? b = some o → b ≠ L := fun q => by rw [← hL]; exact Nat.ne_of_lt (Heap.lt_size q)
  generalize hm : (fun x => List.lookup x [(("self" : Str), Value.ref e), ("value", v)].reverse) = m at ns1
  have mself : m "self" = some (.ref e) := by subst hm; rfl
  have mval : m "value" = some v := by subst hm; rfl
  have F1 : Fr h₀ L h1 m := ⟨ns1, fun b o z => k1 b o (k0 b o z), by rw [← hL]; exact sz⟩
  have N1 : News h₀ L h1 [(e, excObj C t0 none .none)] := fun p hp' => by
    rcases List.mem_cons.mp hp' with z | z
    · rw [z]; exact ⟨k1 _ _ he, eL he, e0⟩
    · cases z
  obtain ⟨occ, odd, osc, vs, file, tf, lcode, hvs, hfile⟩ := F.code
  obtain ⟨ocl, odl, osll, lcell⟩ := F.cell
  obtain ⟨cdD, hD⟩ := F.clsD
  obtain ⟨nm, qn, NN, bs, bm, sn, sub', ab, col, dd, c0, c1, c2, c3, c5, hC, hbm⟩ := F.cls
  have X1 : K.In h1 := X.keeps k1
  obtain ⟨oD, lD1, lD2⟩ : ∃ oD, h1.get? D = some oD ∧ oD.data = .cls cdD := by
    unfold clsIn at hD
    split at hD
    · rename_i ho
      cases hD
      exact ⟨_, X1 _ _ ho, rfl⟩
    · cases hD
  have hen : interactive (ksEnv q scope L fI (.ref cda) cc) = false := by unfold interactive; simp [sk]
  have loc : ∀ {M : Model} {A : Around} {E : Value → Shared → Prop} {s : Shared} {x : Str} {u : Value} {p : Pos} {Q : Value → Shared → Prop}, s.heap.Ns L m → m x = some u → scope.names.lookup x = some .local → (x == ("__debug__" : Str)) = false → Q u s → wpAny M A (eval (.Name x p) (ksEnv q scope L fI (.ref cda) cc)) Q E s :=
    fun {M A E s x u p Q} hn hx hl hd h => wpAny_Name (wpAny_loadName_local (env := ksEnv q scope L fI (.ref cda) cc) sk hl hn hx h) hd
  show _root_.PySem.wpAt (model P w) (A.deeper (ksEnv q scope L fI (.ref cda) cc)) (.func (initTx pos 0) (ksEnv q scope L fI (.ref cda) cc)) (execs (initTx pos 0) (ksEnv q scope L fI (.ref cda) cc)) _ _ _
  have hev : eval (.Call (.Attribute (.Call (.Name "super" (pos 0)) [] [] (pos 1)) "__init__" (pos 2)) [.Name "value" (pos 3)] [] (pos 4)) (ksEnv q scope L fI (.ref cda) cc) = (do
      let ov ← attributeBase (.Call (.Name "super" (pos 0)) [] [] (pos 1)) "__init__" (ksEnv q scope L fI (.ref cda) cc) (eval (.Call (.Name "super" (pos 0)) [] [] (pos 1)) (ksEnv q scope L fI (.ref cda) cc))
      standAt (pos 2).atName
      let (f, first) ← holding [ov] (getMethod ov "__init__" (do return (← importBound (.Call (.Name "super" (pos 0)) [] [] (pos 1)) (ksEnv q scope L fI (.ref cda) cc)).getD true))
      callWith (pos 4) f first (backTo (pos 4) (starEach [.Name "value" (pos 3)] (ksEnv q scope L fI (.ref cda) cc))) []) := by
    have hpos : methodCallPos true (.Call (.Name "super" (pos 0)) [] [] (pos 1)) (ksEnv q scope L fI (.ref cda) cc) (pos 2) (pos 4) = pure (pos 4) := by unfold methodCallPos; simp [F.lines]
    show (do
      let ov ← attributeBase (.Call (.Name "super" (pos 0)) [] [] (pos 1)) "__init__" (ksEnv q scope L fI (.ref cda) cc) (eval (.Call (.Name "super" (pos 0)) [] [] (pos 1)) (ksEnv q scope L fI (.ref cda) cc))
      standAt (pos 2).atName
      let (f, first) ← holding [ov] (getMethod ov "__init__" (do return (← importBound (.Call (.Name "super" (pos 0)) [] [] (pos 1)) (ksEnv q scope L fI (.ref cda) cc)).getD true))
      let callPos ← methodCallPos true (.Call (.Name "super" (pos 0)) [] [] (pos 1)) (ksEnv q scope L fI (.ref cda) cc) (pos 2) (pos 4)
      callWith callPos f first (backTo (pos 4) (starEach [.Name "value" (pos 3)] (ksEnv q scope L fI (.ref cda) cc))) []) = _
    rw [hpos]
    simp only [pure_bind]
  refine ks_wpAt_execs_cons (ks_wpAt_Expr_any (ks_wpAt_MethodCall ?_ hev) hen)
  refine ks_wpAt_super_base (env := ksEnv q scope L fI (.ref cda) cc) ssup scls (by decide) rfl (k1 _ _ (X _ _ lk)) rfl rfl rfl (X1 _ _ lcode) rfl hvs hfile F.top ?_
  refine ks_loadName_global sk ssup (PySem.Calls.loadGlobal_builtin (env := ksEnv q scope L fI (.ref cda) cc) (glo.keeps F1.keep) (mg_none_of X₀ glo F.noS) (blt.keeps F1.keep) ((boot _ (by decide +kernel)).trans (by first | rfl | kernel_rfl)) ⟨rfl, ?_⟩)
  refine wpAny_loadName_free (env := ksEnv q scope L fI (.ref cda) cc) sk scls rfl ⟨_, X1 _ _ lcell, rfl⟩ ?_
  refine wpAny_loadName_local (env := ksEnv q scope L fI (.ref cda) cc) sk sself ns1 mself ?_
  refine ks_wpAny_isType_cls lD1 lD2 ⟨rfl, ?_⟩
  refine ks_wpAny_call_super lD1 lD2 (N1 _ List.mem_cons_self).1 rfl (fun c z => by cases z) (looks_mroIn X1 F.sub) (fun h2 e2 k2 => ?_)
  obtain ⟨F2, N2, l2⟩ := ks_newsPush (s := ⟨h1, g, dr, tk + 2, os⟩) F1 N1 rfl e2 k2
  refine kxs_method kxs_ValueError F2 X₀ N2 List.mem_cons_self (InstAt.of_exc0 N2 (List.mem_cons_of_mem _ List.mem_cons_self)) F.third F.sup F.veC (by decide) (fun u h3 F3 N3 l3 => ?_)
  refine kxs_callWith1 N3 List.mem_cons_self ?_
  show wpAny _ _ (spliced ((false, eval (.Name "value" (pos 3)) (ksEnv q scope L fI (.ref cda) cc)) :: backTo (pos 4) (starEach [] (ksEnv q scope L fI (.ref cda) cc)))) _ _ _
  refine Calls.spliced_cons (loc F3.ns mval sval (by decide) (Calls.spliced_nil ⟨(N3 _ List.mem_cons_self).1, ?_⟩))
  have se : h1.objs.size ≠ e := fun z => absurd (l2 _ List.mem_cons_self) (by rw [← z]; exact Nat.lt_irrefl _)
  have ue : u ≠ e := fun z => absurd (l3 _ (List.mem_cons_of_mem _ List.mem_cons_self)) (by rw [← z]; exact Nat.lt_irrefl _)
  refine kxs_call F3 X₀ N3 PySem.F.excBase_ValueError F.ini List.mem_cons_self (.tail ue (.tail se (.head fun p z => (nomatch z)))) (by rw [sizeLine_eq]; show 1 ≤ 16777216; decide) (fun t1 h4 F4 N4 l4 => ?_)
  -- self.value = value
  have X4 : K.In h4 := X₀.keeps F4.keep
  have he4 := (N4 (e, excObj C t1 none .none) (by simp)).1
  refine wpAt_of_wpAny (wpAny_execs_cons ?_)
  refine plainObj_wpAny_Assign_Attribute (loc F4.ns mval sval (by decide) (loc F4.ns mself sself (by decide) ?_)) rfl
  have hcl : clsIn K C = some { name := nm, bases := bs, mro := .ref C :: bm, ns := NN, qualname := qn, hasDict := true, slotNames := sn, subclasses := sub', abstract := ab, collection := col, hasDel := false } := by unfold clsIn; rw [hC] <;> rfl
  refine set_plain X4 (ox := { cls := .ref C, dict := none, data := .fields #[.ref t1, .none, .none, .none, .bool false, .none] }) (od := none) ⟨he4, rfl, rfl, trivial⟩ F.sa ?_
  refine PySem.HandSPX.exc_osa X4 he4 hcl (show PySem.HandSPX.refsVE (.ref C :: bm) = true from hbm) rfl F.noV (fun h' tk' dx k dn dne hx hn => ?_)
  refine wpAny_execs_nil ?_
  refine hq h' tk' t1 dx (fun b o z => k b o (fun y => by rw [y, e0] at z; cases z) (F4.keep b o z)) ?_ dne hx hn
  exact Nat.le_trans F4.above (Nat.le_trans (Nat.le_of_lt F4.ns.lt) dn)
theorem mk_exc {c : String} {mg : Str → Option Value} {base : Heap} (F : InitF P K C D fI cc cda pos) (hm : mg (Str.ofString c) = some (.ref C)) (hdb : ((Str.ofString c) == ("__debug__" : Str)) = false) : MkAll P w K mg base c C := by
  intro X hP hw hK hmg hb room e ta p p2 hg ha hs pins s σ H Q I h
  subst hP hw hK hmg hb
  obtain ⟨nm, q, N, bs, bm, sn, sub, ab, col, dd, k0, k1, k2, k3, k5, hC, hbm⟩ := F.cls
  refine wpAny_Call_Name_kw (ld_glob I hg hm ?_ hdb)
  refine PySem.W.callWith_K (h₀ := X.base) I.ok.mod.kin F.kC (thn (ha.run p2 pins s σ H _ I h) fun us s1 ⟨vs, H1, I1, r1, v, ev, q1⟩ => ⟨I1.kIn, ?_⟩) hs rfl
  subst ev
  obtain ⟨u, rfl, ru⟩ : ∃ u, us = [u] ∧ RelV v u := by
    cases r1 with
    | cons a b => cases b; exact ⟨_, rfl, a⟩
  show wpAny _ _ (call (.ref C) [u]) _ _ _
  obtain ⟨hp, g, dr, tk, os⟩ := s1
  obtain ⟨mb, b1, b2⟩ := I1.mod.blt
  have lim : hp.NoLimit := I1.nolimit
  have kk : ∀ b o, hp.get? b = some o → ((hp.push (PySem.W.kdv_tup [u])).push (PySem.HandSPX.excO C hp.objs.size)).get? b = some o := fun b o z => Heap.get?_push_of_some _ (Heap.get?_push_of_some _ z)
  have hget : ((hp.push (PySem.W.kdv_tup [u])).push (PySem.HandSPX.excO C hp.objs.size)).get? (hp.objs.size + 1) = some (PySem.HandSPX.excO C hp.objs.size) := by heap_get
  have fresh0 : ∀ {b : Addr}, hp.objs.size ≤ b → hp.get? b = none := fun {b} hle => by
    cases z : hp.get? b with
    | none => rfl
    | some o => exact absurd (Heap.lt_size z) (Nat.not_lt.mpr hle)
  have room1 := (room.make C [u] []).dp
  refine wpAny_call (PySem.HandSPX.call_own PySem.F.excBase_ValueError (fun Y => PySem.HandSPX.refsVE_contains Y bm hbm) (I1.kIn _ _ hC) (PySem.W.looks_findIn I1.kIn F.iC) (fun self => PySem.W.bind_fn I1.kIn self F.tI) (by rw [sizeLine_eq]; show 1 ≤ 16777216; decide)
    (init_run F (h₀ := hp) (mg := X.mg) (mb := mb) (by omega) I1.kIn kk (by rw [Heap.size_push, Heap.size_push]; omega) (lim.keeps kk) (I1.mod.glob.keeps I1.bk) (b1.keeps I1.bk) b2 hget (fresh0 (Nat.le_succ _)) fun h' tk' t1 dx kp hdx dne he hn => ⟨rfl, ?_⟩))
  -- the exception is let go, its dict is an exception's dict
  obtain ⟨G, g1, g2⟩ := restrict h' fun b => decide (b ≠ hp.objs.size + 1)
  have gk : ∀ b, b ≠ hp.objs.size + 1 → G.get? b = h'.get? b := fun b hb => g1 b (decide_eq_true hb)
  have ge : G.get? (hp.objs.size + 1) = none := g2 _ (by simp)
  have kG : ∀ b o, hp.get? b = some o → G.get? b = some o := fun b o z => by
    rw [gk b (fun y => by rw [y, fresh0 (Nat.le_succ _)] at z; cases z)]
    exact kp b o z
  have hn1 : H1 dx = none := I1.hok.fresh hdx
  have J : Inv X pins σ (upd H1 dx (.xd [(("value" : Str), v)])) ⟨G, g, dr, tk', os⟩ := I1.laidN (t' := tk') kG (fresh0 hdx) hn1 ⟨_, hn.at fun o y => (gk dx dne).trans y, fun f => by
    by_cases hf : f = ("value" : Str)
    · subst hf
      rw [if_pos rfl]
      exact ru
    · rw [if_neg hf]
      have : [(("value" : Str), v)].lookup f = none := by
        rw [List.lookup_cons]
        have : (f == ("value" : Str)) = false := by simp [hf]
        rw [this]; rfl
      rw [this]
      trivial⟩
  refine ⟨hp.objs.size + 1, _, _, ⟨G, g, dr, tk', os⟩, _, .ref C, some dx, rfl, J, fun b o z => ?_, ge, he, ⟨rfl, rfl⟩, rfl, rfl, ?_, rfl, I1.bare, raises_own F.exC F.tyC, q1 dx hn1⟩
  · by_cases hb : b = hp.objs.size + 1
    · rw [hb, ge] at z; cases z
    · exact (gk b hb).symm.trans z
  · rw [upd_ne (Ne.symm dne)]
    exact I1.hok.fresh (Nat.le_succ _)
end
end VI

set_option maxHeartbeats 4000000
set_option synthInstance.maxSize 128
set_option synthInstance.maxHeartbeats 20000
namespace VI
open PySem PySem.Spec L2 PySem.W
open PyProof.Rows hiding St InstAt
open He
/-! ### what the head tells -/
def asV (g : Addr → Option Obj) : Nat → List Addr
  | 0 => [mainGlobals, cStatics]
  | n + 1 => growD g (asV g n)
/-- __init__ of the exceptions' base -/
abbrev IniV : Type := Option (Str × Str × Arguments × FuncBody × Scope × Addr × Addr × List Str)
def iniW (K : PySem.W.Frag) (b : Str) : IniV := match K.lookup (ma K (ga K b) "__init__") with
  | some ⟨_, _, .func fd, _⟩ => some (fd.name, fd.qualname, fd.params, fd.body, fd.scope, fd.globals, fd.builtins, fd.closure.map (·.1))
  | _ => none
structure IniD where
  qual : Str
  params : Arguments
  body : List Stmt
  scope : Scope
def IniD.val (d : IniD) : IniV := some ("__init__", d.qual, d.params, .stmts d.body, d.scope, mainGlobals, builtinsNs, ["__class__"])
def clsV (K : PySem.W.Frag) (C : Addr) : Bool := match K.lookup C with
  | some ⟨.type "type", _, .cls cd, sl⟩ => (match cd.mro, sl.toList with
    | .ref C' :: bm, [_, _, _, _, some (.builtin n), _] => C' == C && n == "ValueError.__new__" && !cd.hasDel && cd.hasDict && PySem.HandSPX.refsVE bm
    | _, _ => false)
  | _ => false
theorem clsV_ok {K : PySem.W.Frag} {C : Addr} (h : clsV K C = true) : ∃ nm q N bs bm sn sub ab col dd k0 k1 k2 k3 k5, K.lookup C = some (excClassObj nm q C N bs bm true sn sub ab col dd k0 k1 k2 k3 k5 "ValueError.__new__") ∧ PySem.HandSPX.refsVE bm = true := by
  unfold clsV at h
  split at h
  · rename_i dd cd sl ho
    split at h
    · rename_i C' bm k0 k1 k2 k3 n k5 hm hs
      simp only [Bool.and_eq_true, beq_iff_eq, Bool.not_eq_true'] at h
      obtain ⟨⟨⟨⟨rfl, rfl⟩, noDel⟩, hasD⟩, tail⟩ := h
      obtain ⟨nm, bs, mro, ns, qn, hd, sn, sub, ab, col, del⟩ := cd
      dsimp only at hm noDel hasD
      subst hm noDel hasD
      have slE : sl = #[k0, k1, k2, k3, some (.builtin "ValueError.__new__"), k5] := by
        obtain ⟨l⟩ := sl
        simp only at hs
        rw [hs]
      subst slE
      exact ⟨nm, qn, ns, bs, bm, sn, sub, ab, col, dd, k0, k1, k2, k3, k5, ho, tail⟩
    · cases h
  · cases h
/-- what __init__'s function leans on: its cell, its code, its default -/
def iniB (K : PySem.W.Frag) (file : Str) (b : Str) : Bool := match K.lookup (ma K (ga K b) "__init__") with
  | some ⟨_, _, .func fd, _⟩ => (match fd.closure, fd.code, fd.defaults with
    | [(_, cc)], .ref cda, .ref T => codeIn K (.ref cda) fd.qualname && (match K.lookup cc with
        | some ⟨_, _, .cell (some (.ref D)), _⟩ => D == ga K b
        | _ => false) && (match K.lookup cda with
        | some ⟨_, _, .fields vs, _⟩ => (match (vs[2]? : Option Value) with
          | some (Value.str f _) => file == f
          | _ => false)
        | _ => false) && (match K.lookup T with
        | some ⟨_, _, .seq its _, _⟩ => (match its.toList with
          | [.none] => true
          | _ => false)
        | _ => false)
    | _, _, _ => false)
  | _ => false
def scopeB (sc : Scope) : Bool := decide (sc.kind = .function) && !sc.isCoroutine && !sc.isGenerator && sc.names.all (fun y => match y.2 with | .cell => false | _ => true) && decide (sc.names.lookup ("self" : Str) = some .local) &&
  decide (sc.names.lookup ("value" : Str) = some .local) && decide (sc.names.lookup ("__class__" : Str) = some .free) && decide (sc.names.lookup ("super" : Str) = some .globalImplicit)
/-- a class x above b (the exceptions' base) -/
def excB (K : PySem.W.Frag) (b x : Str) : Bool :=
  clsV K (ga K x) && excInitIn K (ga K x) veBase "ValueError.__new__" && decide (findIn K (.ref (ga K x)) "__setattr__" = some (some (.builtin "object.__setattr__"))) && decide (subIn K (.ref (ga K x)) (.type "BaseException") = some true) &&
  decide (subIn K (.ref (ga K x)) (.type "ValueError") = some true) && decide (typeIn K (.ref (ga K x)) = some (.type "type")) && keepIn K (.ref (ga K x)) && decide (findIn K (.ref (ga K x)) "value" = some none) &&
  decide (findIn K (.ref (ga K x)) "__init__" = some (some (.ref (ma K (ga K b) "__init__")))) && decide (typeIn K (.ref (ma K (ga K b) "__init__")) = some (.type "function")) &&
  decide (ks_superIn K (ga K x) (ga K b) "__init__" = some (some (.builtin "ValueError.__init__"))) && decide (nsIn K cStatics "thirdparty.any" = some none) && (clsIn K (ga K b)).isSome && decide (mroIn K (ga K x) (.ref (ga K b)) = some true) && decide (nsIn K mainGlobals "super" = some none) && xfB K (ga K x)
theorem ini_of {P : Program} {K : PySem.W.Frag} {b x : Str} {file : Str} {d : IniD} {pos : Nat → Pos} {dl : List Expr} {ap aq : Pos} (hv : iniW K b = d.val) (hb : iniB K file b = true) (hx : excB K b x = true) (hs : scopeB d.scope = true) (hp : d.params = ⟨[], [⟨"self", none, ap⟩, ⟨"value", none, aq⟩], none, [], [], none, dl⟩) (hbd : d.body = initTx pos 0)
    (hf : ((P.main.file : Str) == file) = true) (ht : (P.main.scope.names.lookup ("super" : Str)).isSome = false) (hl : ((pos 2).endLine == (pos 4).line) = true) : ∃ cc cda, InitF P K (ga K x) (ga K b) (ma K (ga K b) "__init__") cc cda pos := by
  simp only [excB, Bool.and_eq_true, decide_eq_true_eq] at hx
  obtain ⟨⟨⟨⟨⟨⟨⟨⟨⟨⟨⟨⟨⟨⟨⟨h1, h2⟩, h3⟩, h4⟩, h5⟩, h6⟩, h7⟩, h8⟩, h9⟩, h10⟩, h11⟩, h12⟩, h13⟩, h14⟩, h15⟩, h16⟩ := hx
  obtain ⟨cdD, h13⟩ := Option.isSome_iff_exists.mp h13
  simp only [scopeB, Bool.and_eq_true, decide_eq_true_eq, Bool.not_eq_true', List.all_eq_true] at hs
  obtain ⟨⟨⟨⟨⟨⟨⟨s1, s2⟩, s3⟩, s4⟩, s5⟩, s6⟩, s7⟩, s8⟩ := hs
  unfold iniW at hv
  unfold iniB at hb
  cases q : K.lookup (ma K (ga K b) "__init__") with
  | none => rw [q] at hb; cases hb
  | some o =>
    obtain ⟨oc, od, dt, osl⟩ := o
    rw [q] at hv hb
    cases dt with
    | func fd =>
      obtain ⟨n1, n2, n3, n4, n5, n6, n7, n8, n9, n10, n11, n12, n13, n14, n15⟩ := fd
      simp only at hv hb
      have e2 : (some (n1, n2, n3, n4, n5, n6, n15, n7.map (·.1)) : IniV) = (some (("__init__" : Str), d.qual, d.params, FuncBody.stmts d.body, d.scope, mainGlobals, builtinsNs, [("__class__" : Str)]) : IniV) := hv
      simp only [Option.some.injEq, Prod.mk.injEq] at e2
      obtain ⟨e1, e2, e3, e4, e5, e6, e7, e8⟩ := e2
      subst e1 e2 e3 e4 e5 e6 e7
      split at hb
      · rename_i nm cc cda T
        simp only [List.map_cons, List.map_nil, List.cons.injEq, and_true] at e8
        subst e8
        simp only [Bool.and_eq_true] at hb
        obtain ⟨⟨⟨b1, b2⟩, b3⟩, b4⟩ := hb
        refine ⟨cc, cda, clsV_ok h1, h2, h3, h4, h5, h6, h7, h8, h9, h10, h11, h12, ?_, ?_, ?_, ⟨cdD, h13⟩, h14, h15, ht, hl⟩
        · split at b4
          · rename_i hT
            split at b4
            · rename_i hits
              rename_i its nt _ _
              refine ⟨oc, od, osl, d.qual, dl, d.scope, T, _, nt, n9, n10, n11, n12, n14, ap, aq, ?_, b1, hT, ?_, s1, s2, s3, fun y hy z => ?_, s5, s6, s7, s8⟩
              · rw [q, hp, hbd]
              · obtain ⟨l⟩ := its
                simp only at hits
                rw [hits]
              · have := s4 y hy
                rw [z] at this; cases this
            · cases b4
          · cases b4
        · split at b3
          · rename_i hcode
            split at b3
            · rename_i hvs
              refine ⟨_, _, _, _, _, _, hcode, hvs, ?_⟩
              rw [← eq_of_beq b3]; exact hf
            · cases b3
          · cases b3
        · split at b2
          · rename_i hcell
            have := eq_of_beq b2
            subst this
            exact ⟨_, _, _, hcell⟩
          · cases b2
      · cases hb
    | _ => cases hb
/-! ### the hook -/
abbrev AlV : Type := Bool × List FnW × IniV
def obsV (chk : PySem.W.Frag → Bool) (fn : List DefD) (b : Str) (K : PySem.W.Frag) : AlV := (chk K && fn.all fun d => d.ok K, fn.map fun d => fnW K d.at_, iniW K b)
def valV (fn : List DefD) (i : IniV) : AlV := (true, fn.map DefD.val, i)
def obsVG (n : Nat) (chk : PySem.W.Frag → Bool) (fn : List DefD) (b : Str) (g : Addr → Option Obj) : AlV := obsV chk fn b (frG g (asV g n))
def hookV (n : Nat) (chk : PySem.W.Frag → Bool) (fn : List DefD) (b : Str) (i : IniV) : PySem.W.Hook where
  α := AlV
  obs := fun s => obsVG n chk fn b s.heap.get?
  val := fun _ => valV fn i
  says := fun _ h => ∃ K : PySem.W.Frag, K.In h ∧ obsV chk fn b K = valV fn i
  of := fun _ _ e => ⟨_, frG_in, e⟩
  keeps := fun _ _ _ ⟨K, hK, c⟩ k => ⟨K, PySem.W.Frag.In.keeps hK k, c⟩
theorem obsVG_eq {n : Nat} {chk : PySem.W.Frag → Bool} {fn : List DefD} {b : Str} {i : IniV} {g : Addr → Option Obj} {s : Shared} (h : ∀ a, g a = s.heap.get? a) : obsVG n chk fn b g = (hookV n chk fn b i).obs s := by
  have e : g = s.heap.get? := funext h
  rw [e] <;> rfl
theorem saysV_def {chk : PySem.W.Frag → Bool} {fn : List DefD} {b : Str} {i : IniV} {K : PySem.W.Frag} (c : obsV chk fn b K = valV fn i) (j : Nat) {d : DefD} (h : fn[j]? = some d) : ∃ fd, FunD K d.name d.qual d.params d.body d.scope (d.dvs K) (d.kws K) (fAd K d.at_) fd := by
  have c2 := (Bool.and_eq_true_iff.mp (show (chk K && fn.all fun d => d.ok K) = true from congrArg (fun z : AlV => z.1) c)).2
  have e : fn.map (fun d => fnW K d.at_) = fn.map DefD.val := congrArg (fun z : AlV => z.2.1) c
  have e2 : (fn.map fun d => fnW K d.at_)[j]? = (fn.map DefD.val)[j]? := by rw [e]
  rw [List.getElem?_map, List.getElem?_map, h] at e2
  exact DefD.funD (Option.some.inj e2) (List.all_eq_true.mp c2 d (List.mem_of_getElem? h))
theorem saysV_chk {chk : PySem.W.Frag → Bool} {fn : List DefD} {b : Str} {i : IniV} {K : PySem.W.Frag} (c : obsV chk fn b K = valV fn i) : chk K = true ∧ iniW K b = i :=
  ⟨(Bool.and_eq_true_iff.mp (show (chk K && fn.all fun d => d.ok K) = true from congrArg (fun z : AlV => z.1) c)).1, congrArg (fun z : AlV => z.2.2) c⟩
end VI

set_option maxHeartbeats 4000000
set_option synthInstance.maxSize 128
set_option synthInstance.maxHeartbeats 20000
namespace VI
open PySem PySem.Spec L2 PySem.W
open PyProof.Rows hiding St InstAt
open He
/-- a def of the program with its reading -/
structure Df where
  name : String
  d : DefD
  g : Fn
def fnScopeB (N ps : List Str) (sc : Scope) : Bool := decide (sc.kind = .function) && !sc.isCoroutine && !sc.isGenerator && decide N.Nodup && decide (N.take ps.length = ps) &&
  ps.all (fun x => match sc.names.lookup x with | some .local => true | some .cell => true | _ => false) && sc.names.all fun y => match y.2 with | .free => false | _ => true
theorem fnScope_of {N ps : List Str} {sc : Scope} (h : fnScopeB N ps sc = true) : FnScope N ps sc := by
  simp only [fnScopeB, Bool.and_eq_true, decide_eq_true_eq, Bool.not_eq_true', List.all_eq_true] at h
  obtain ⟨⟨⟨⟨⟨⟨h1, h2⟩, h3⟩, h4⟩, h5⟩, h6⟩, h7⟩ := h
  refine ⟨h1, h2, h3, h4, h5, fun x hx => ?_, fun y hy z => ?_⟩
  · have := h6 x hx
    split at this <;> first | exact .inl (by assumption) | exact .inr (by assumption) | cases this
  · have := h7 y hy
    rw [z] at this; cases this
def dfB (cf : Cf) (f : Df) : Bool := (mtS f.g.body { cf with N := toS f.g.N, io := f.g.io } f.d.scope).2 f.d.body && fnScopeB (toS f.g.N) (toS f.g.ps) f.d.scope && decide (f.d.at_ = (Str.ofString f.name, none))
/-- how its calls bind -/
def BindOK (cf : Cf) (f : Df) : Prop := ∀ (K : PySem.W.Frag) (a : Addr) (fd : FuncData), FunD K f.d.name f.d.qual f.d.params f.d.body f.d.scope (f.d.dvs K) (f.d.kws K) a fd →
  Binds K fd (toS f.g.ps) [] ∧ ∀ ks np perm, (f.name, ks, np, perm) ∈ cf.kws → KB K fd (toS f.g.ps) (ks.map Str.ofString) np perm
theorem kb_of {K : PySem.W.Frag} {x qual : Str} {params : Arguments} {body : List Stmt} {scope : Scope} {kws : List (Str × V)} {f : Addr} {fd : FuncData} {ps ks : List Str} {np : Nat} {perm : List Nat} (F : FunD K x qual params body scope [] kws f fd)
    (h : ∀ (kV doc pm : Value) (an : Option Addr) (cdv ct : Value) (us ws : List Value), us.length = np → ws.length = ks.length → bindArgs (PySem.W.fnOf x qual params body scope .none kV doc pm an cdv ct) ⟨us, ks.zip ws⟩ = pure (ps.zip (perm.filterMap fun i => (us ++ ws)[i]?))) : KB K fd ps ks np perm := by
  obtain ⟨oc, od, dV, kV, doc, pm, an, cdv, ct, osl, rfl, lk, hcd, hD, hK⟩ := F.ex
  rcases hD with ⟨_, rfl⟩ | ⟨e, _⟩
  · exact fun s us ws _ h1 h2 => BindsTo.of_eq (h kV doc pm an cdv ct us ws h1 h2)
  · exact absurd rfl e
def tabOf (fs : List Df) : Tab := fun f => (fs.find? fun d => d.name == f).map (·.g)
def nmOf (fs : List Df) (cls : List String) (K : PySem.W.Frag) : Nm where
  K := K
  fn := fun f => if fs.any (fun d => d.name == f && !d.g.io) then some (ga K (Str.ofString f)) else none
  cl := fun c => if c ∈ cls then some (ga K (Str.ofString c)) else none
def upOf (b : String) : String → String → Bool := fun c1 c2 => c1 == c2 || c2 == b
def chkV (cf : Cf) (fs : List Df) (file : Str) (b : String) (K : PySem.W.Frag) : Bool :=
  (fs.all fun f => (Fa.glo (Str.ofString f.name)).ok K) && (biNames.all fun x => (Fa.free x).ok K) && (cf.gi.all fun p => (Fa.int (Str.ofString p.1) p.2).ok K) && (cf.cls.all fun c => (Fa.glo (Str.ofString c)).ok K && excB K (Str.ofString b) (Str.ofString c)) && iniB K file (Str.ofString b) &&
  (cf.cls.all fun c1 => cf.cls.all fun c2 => (Fa.exm (Str.ofString c1) (Str.ofString c2) (upOf b c1 c2)).ok K)
def cfB (cf : Cf) (fs : List Df) : Bool := cf.cm && (cf.fns.all fun p => match fs.find? (fun d => d.name == p.1) with
    | some d => d.g.io == p.2
    | none => false) && (cf.exs.all fun c => decide (c ∈ cf.cls)) && (cf.cls.all fun c => ((Str.ofString c) == ("__debug__" : Str)) == false) && fs.all (dfB cf) && fs.all fun d => d.g.io || decide (cf.fns.lookup d.name = some false)
theorem lookup_mem {α : Type} : ∀ {l : List (String × α)} {x : String} {v : α}, l.lookup x = some v → (x, v) ∈ l
  | (y, w) :: r, x, v, h => by
    rw [List.lookup_cons] at h
    by_cases e : x == y
    · rw [e] at h; cases h; rw [eq_of_beq e]; exact List.mem_cons_self
    · have e' : (x == y) = false := by simpa using e
      rw [e'] at h
      exact List.mem_cons_of_mem _ (lookup_mem h)
theorem progV {cf : Cf} {fs : List Df} {file : Str} {b : String} {K : PySem.W.Frag} {P : Program} {w : World} {h base : Heap} {mg : Str → Option Value} {i : IniD} {pos : Nat → Pos} {dl : List Expr} {ap aq : Pos}
    (hc : cfB cf fs = true) (bd : ∀ f ∈ fs, BindOK cf f) (X : K.In h) (G : h.Ns mainGlobals mg) (c : obsV (chkV cf fs file b) (fs.map (·.d)) (Str.ofString b) K = valV (fs.map (·.d)) i.val)
    (hs : scopeB i.scope = true) (hp : i.params = ⟨[], [⟨"self", none, ap⟩, ⟨"value", none, aq⟩], none, [], [], none, dl⟩) (hbd : i.body = initTx pos 0) (hf : ((P.main.file : Str) == file) = true) (ht : (P.main.scope.names.lookup ("super" : Str)).isSome = false) (hl : ((pos 2).endLine == (pos 4).line) = true) :
    Prog (nmOf fs cf.cls K) (tabOf fs) (upOf b) cf P w K mg base := by
  obtain ⟨ck, ci⟩ := saysV_chk c
  simp only [chkV, Bool.and_eq_true, List.all_eq_true] at ck
  obtain ⟨⟨⟨⟨⟨c1, c2⟩, c3⟩, c4⟩, c5⟩, c6⟩ := ck
  simp only [cfB, Bool.and_eq_true, List.all_eq_true, decide_eq_true_eq] at hc
  obtain ⟨⟨⟨⟨⟨d1, d2⟩, d3⟩, d4⟩, d5⟩, d6⟩ := hc
  have cls : ∀ {c : String} {C : Addr}, (nmOf fs cf.cls K).cl c = some C → c ∈ cf.cls ∧ C = ga K (Str.ofString c) := fun {c C} z => by
    have z' : (if c ∈ cf.cls then some (ga K (Str.ofString c)) else none) = some C := z
    split at z'
    · cases z'; exact ⟨by assumption, rfl⟩
    · cases z'
  have clsOf : ∀ {c : String}, c ∈ cf.cls → (nmOf fs cf.cls K).cl c = some (ga K (Str.ofString c)) := fun {c} z => if_pos z
  have gloF : ∀ {f : Df}, f ∈ fs → mg (Str.ofString f.name) = some (.ref (ga K (Str.ofString f.name))) := fun {f} hf => glo_ok X G (c1 f hf)
  refine { hK := rfl, cm := d1, fns := fun f io z => ?_, fnv := fun f a z => ?_, defs := fun f g z => ?_, gi := fun x i z => int_ok X G (c3 _ (lookup_mem z)), cl := fun c hc => ⟨_, clsOf hc, glo_ok X G (c4 c hc).1⟩, bi := fun x hx => free_ok X G (c2 x hx), xf := fun c C z => ?_, exs := fun c hc => ?_, exm := fun a1 a2 C1 C2 z1 z2 => ?_ }
  · have := d2 _ (lookup_mem z)
    split at this
    · rename_i d hd
      refine ⟨d.g, ?_, eq_of_beq this⟩
      show (fs.find? fun d => d.name == f).map (·.g) = some d.g
      rw [hd]; rfl
    · cases this
  · have z' : (if fs.any (fun d => d.name == f && !d.g.io) then some (ga K (Str.ofString f)) else none) = some a := z
    split at z'
    · rename_i ha
      obtain ⟨d, hm, hd⟩ := List.any_eq_true.mp ha
      simp only [Bool.and_eq_true, Bool.not_eq_true'] at hd
      have := d6 d hm
      rw [hd.2] at this
      have := of_decide_eq_true (by simpa using this : decide (cf.fns.lookup d.name = some false) = true)
      rwa [eq_of_beq hd.1] at this
    · cases z'
  · have z' : (fs.find? fun d => d.name == f).map (·.g) = some g := z
    simp only [Option.map_eq_some_iff] at z'
    obtain ⟨d, hd, rfl⟩ := z'
    have hm := List.mem_of_find?_eq_some hd
    have hn : d.name = f := eq_of_beq (by have := List.find?_some hd; exact this)
    obtain ⟨j, hj⟩ := List.getElem?_of_mem hm
    obtain ⟨fd, F⟩ := saysV_def c j (d := d.d) (by rw [List.getElem?_map, hj]; rfl)
    have hb := d5 d hm
    simp only [dfB, Bool.and_eq_true, decide_eq_true_eq] at hb
    obtain ⟨⟨m1, m2⟩, m3⟩ := hb
    have ea : fAd K d.d.at_ = ga K (Str.ofString f) := by rw [m3, ← hn]; rfl
    obtain ⟨b1, b2⟩ := bd d hm K _ fd F
    have kp := F.kp
    rw [ea] at F kp
    subst hn
    exact ⟨_, fd, ⟨fun hio => if_pos (List.any_eq_true.mpr ⟨d, hm, by simp [hio]⟩), gloF hm, kp, List.length_map .., List.length_map .., b1, b2, ⟨_, _, _, _, _, _, _, F, fnScope_of m2, m1⟩⟩⟩
  · obtain ⟨z1, rfl⟩ := cls z
    have := (c4 c z1).2
    simp only [excB, Bool.and_eq_true, decide_eq_true_eq] at this
    exact ⟨xfB_ok this.2, this.1.1.1.1.1.1.1.1.2⟩
  · have hm := d3 c hc
    obtain ⟨cc, cda, F⟩ := ini_of ci c5 (c4 c hm).2 hs hp hbd hf ht hl
    exact ⟨_, clsOf hm, mk_exc F (glo_ok X G (c4 c hm).1) (eq_of_beq (d4 c hm))⟩
  · obtain ⟨h1, rfl⟩ := cls z1
    obtain ⟨h2, rfl⟩ := cls z2
    exact exm_ok (c6 _ h1 _ h2)
/-- the law's end: what its def does at the script is all that is left -/
theorem endV {l : PySem.W.OpenLaw} {q : Program} {loose : List Str} {XP : (Str → Option Value) → Heap → Prop} {d : DefRec} {cf : Cf} {fs : List Df} {file : Str} {b f : String} {g : Fn} {x : String} {i : IniD} {pos : Nat → Pos} {dl : List Expr} {ap aq : Pos} {m lv : Nat}
    (hn : l.most = some 63) (hdf : d.params.defaults = []) (hr : Room (lv + 3) callerA) (hd : d.name = Str.ofString f) (hT : tabOf fs f = some g) (hps : g.ps = [x])
    (hc : cfB cf fs = true) (bd : ∀ f ∈ fs, BindOK cf f)
    (hs : scopeB i.scope = true) (hp : i.params = ⟨[], [⟨"self", none, ap⟩, ⟨"value", none, aq⟩], none, [], [], none, dl⟩) (hbd : i.body = initTx pos 0) (hf : ((l.prog.main.file : Str) == file) = true) (ht : (l.prog.main.scope.names.lookup ("super" : Str)).isSome = false) (hl : ((pos 2).endLine == (pos 4).line) = true)
    (main : ∀ ns : List Int, ns.length ≤ 63 → (∀ z ∈ ns, Builtin.Int.intBits z ≤ 1048576) → ∃ io, callN (tabOf fs) (upOf b) lv f [.scr ns] = some (.ok (.bl true) io)) :
    PySem.W.WalkO q loose XP (hookV m (chkV cf fs file b) (fs.map (·.d)) (Str.ofString b) i.val).says l.row.toRowW d [] (fun f vs => PySem.call f vs) := by
  refine walkG (n := 63) (k := lv + 3) (x := Str.ofString x) hn (by rw [sizeLine_eq]; decide) hdf hr ?_
  intro w mg fa h Y G hm
  obtain ⟨K, X, c⟩ := Y
  have pr : ∀ base, Prog (nmOf fs cf.cls K) (tabOf fs) (upOf b) cf l.prog w K mg base := fun base => progV (base := base) hc bd X G c hs hp hbd hf ht hl
  obtain ⟨a, fd, df⟩ := (pr h).defs f g hT
  have ea : a = fa := by
    have z := df.mg
    rw [← hd, hm] at z
    cases z; rfl
  subst ea
  have hpl : g.ps.length = 1 := by rw [hps]; rfl
  have eps : toS g.ps = [Str.ofString x] := by rw [hps]; rfl
  refine ⟨K, fd, spG (nmOf fs cf.cls K) (callN (tabOf fs) (upOf b) lv) f g, X, ?_, fun H a ns h1 h2 h3 h4 => ?_, fun base X' G' => ?_⟩
  · have z := df.binds
    rw [eps] at z; exact z
  · obtain ⟨io, hio⟩ := main ns h1 h2
    exact law_sp hpl h4 (by rw [sizeLine_eq]; omega) hio
  · have z := tabG (pr base) lv f g a fd _ _ hT df
    rw [eps] at z; exact z
end VI

set_option maxHeartbeats 4000000
set_option synthInstance.maxSize 128
set_option synthInstance.maxHeartbeats 20000
namespace VI
open PySem L2
/-- a def without its names -/
structure FnB where
  np : Nat
  nN : Nat
  io : Bool
  body : S
def FnB.fn (g : FnB) (ps N : List String) : Fn := ⟨ps, N, g.io, g.body⟩
class Has (T : Tab) (f : String) (g : outParam FnB) : Prop where
  h : ∃ ps N, T f = some (g.fn ps N) ∧ ps.length = g.np ∧ N.length = g.nN
end VI

set_option maxHeartbeats 4000000
set_option synthInstance.maxSize 128
set_option synthInstance.maxHeartbeats 20000
namespace VI
open PySem L2
def f_law_cell : FnB where
  np := 2
  nN := 2
  io := false
  body :=
    .seq (.ifs (.cmp .Lt (.var 1) (.bi .len (.cons (.var 0) .nil))) (.seq (.ret (.idx (.var 0) (.var 1))) .nil) .nil) <|
    .seq (.ret (.bin .Mod (.bi .sum (.cons (.sl (.var 0) .nil (.int 1)) .nil)) (.int 1000003))) <|
    .nil

def f_law_generator : FnB where
  np := 2
  nN := 3
  io := false
  body :=
    .seq (.asg (.n 2) (.call "_law_cell" (.cons (.var 0) (.cons (.var 1) .nil)))) <|
    .seq (.ret (.lst (.cons (.bin .Mod (.bi .int (.cons (.bi .max2 (.cons (.bin .Sub (.var 2) (.bin .Pow (.int 10) (.int 18))) (.cons (.int 0) .nil))) .nil)) (.bin .Pow (.bin .Pow (.int 10) (.int 60)) (.int 10))) (.cons (.bin .Mod (.bi .int (.cons (.var 2) .nil)) (.int 2147483647)) (.cons (.frz (.bin .Mult (.int 1000) (.var 1))) .nil))))) <|
    .nil

def f_law_hash : FnB where
  np := 2
  nN := 3
  io := false
  body :=
    .seq (.asg (.n 2) (.bin .Mod (.bi .int (.cons (.bin .Add (.bin .Add (.bin .Add (.bin .Mult (.var 0) (.int 1140671)) (.bin .Mult (.bin .Mult (.int 27644437) (.var 1)) (.var 1))) (.bin .Mult (.int 131) (.var 1))) (.int 19)) .nil)) (.int 2147483629))) <|
    .seq (.asg (.n 2) (.bin .Mod (.bi .int (.cons (.bin .Add (.bin .Add (.bin .Mult (.var 2) (.var 2)) (.bin .Mult (.int 62089) (.var 1))) (.int 32416187)) .nil)) (.int 2147483587))) <|
    .seq (.ret (.bin .Mod (.bi .int (.cons (.bin .Mult (.var 2) (.int 48271)) .nil)) (.int 2147483647))) <|
    .nil

def f_law_random : FnB where
  np := 2
  nN := 4
  io := true
  body :=
    .seq (.ifs (.cmp .Gt (.idx (.bor 0) (.int 0)) (.int 0)) (.seq (.asg (.n 2) (.bin .Mod (.bi .int (.cons (.idx (.bor 0) (.int 0)) .nil)) (.var 1))) (.seq (.seti 0 (.int 0) (.bin .FloorDiv (.idx (.bor 0) (.int 0)) (.var 1))) (.seq (.ret (.var 2)) .nil))) .nil) <|
    .seq (.asg (.n 2) (.int 0)) <|
    .seq (.for (.n 3) (.rng (.bin .Add (.int 1) (.bin .FloorDiv (.bi .bitlen (.cons (.var 1) .nil)) (.int 30)))) (.seq (.seti 0 (.int 2) (.bin .Add (.idx (.bor 0) (.int 2)) (.int 1))) (.seq (.asg (.n 2) (.frz (.bin .Add (.bin .Mult (.var 2) (.int 2147483587)) (.call "_law_hash" (.cons (.idx (.bor 0) (.int 1)) (.cons (.idx (.bor 0) (.int 2)) .nil)))))) .nil))) <|
    .seq (.ret (.bin .Mod (.bi .int (.cons (.var 2) .nil)) (.var 1))) <|
    .nil

def f_law_drawn_order : FnB where
  np := 2
  nN := 4
  io := true
  body :=
    .seq (.par [2, 3] (.cons (.bi .list (.cons (.var 1) .nil)) (.cons (.lst .nil) .nil))) <|
    .seq (.whl (.cmp .NotEq (.bor 2) (.lst .nil)) (.seq (.app 3 (.pop 2 (.calli "_law_random" 0 (.cons (.bi .len (.cons (.bor 2) .nil)) .nil)))) .nil)) <|
    .seq (.ret (.fzs 3)) <|
    .nil

def f_law_some_places : FnB where
  np := 3
  nN := 3
  io := true
  body :=
    .seq (.ret (.frz (.bi .sorted (.cons (.sl (.calli "_law_drawn_order" 0 (.cons (.frz (.lrg (.var 1))) .nil)) .nil (.var 2)) .nil)))) <|
    .nil

def f_law_lowest : FnB where
  np := 2
  nN := 4
  io := false
  body :=
    .seq (.par [2, 3] (.cons (.bi .abs (.cons (.var 0) .nil)) (.cons (.bi .abs (.cons (.var 1) .nil)) .nil))) <|
    .seq (.whl (.cmp .Gt (.var 3) (.int 0)) (.seq (.par [2, 3] (.cons (.var 3) (.cons (.bin .Sub (.var 2) (.bin .Mult (.bin .FloorDiv (.var 2) (.var 3)) (.var 3))) .nil))) .nil)) <|
    .seq (.ret (.ite (.cmp .Gt (.var 1) (.int 0)) (.tup (.cons (.bin .FloorDiv (.var 0) (.var 2)) (.cons (.bin .FloorDiv (.var 1) (.var 2)) .nil))) (.tup (.cons (.bin .Sub (.int 0) (.bin .FloorDiv (.var 0) (.var 2))) (.cons (.bin .Sub (.int 0) (.bin .FloorDiv (.var 1) (.var 2))) .nil))))) <|
    .nil

def f_law_fraction : FnB where
  np := 2
  nN := 2
  io := true
  body :=
    .seq (.ret (.call "_law_lowest" (.cons (.bin .Sub (.calli "_law_random" 0 (.cons (.bin .Add (.bin .Mult (.int 2) (.var 1)) (.int 1)) .nil)) (.var 1)) (.cons (.bin .Add (.int 1) (.bin .Mult (.calli "_law_random" 0 (.cons (.int 3) .nil)) (.calli "_law_random" 0 (.cons (.int 2) .nil)))) .nil)))) <|
    .nil

def f_law_sum_node : FnB where
  np := 2
  nN := 5
  io := true
  body :=
    .seq (.asg (.n 2) (.frz (.lst .nil))) <|
    .seq (.for (.n 3) (.calli "_law_some_places" 0 (.cons (.var 1) (.cons (.bin .Add (.int 1) (.calli "_law_random" 0 (.cons (.bi .min2 (.cons (.int 3) (.cons (.var 1) .nil))) .nil))) .nil))) (.seq (.asg (.n 4) (.calli "_law_fraction" 0 (.cons (.int 3) .nil))) (.seq (.asg (.n 2) (.frz (.bin .Add (.var 2) (.bin .Mult (.lst (.cons (.tup (.cons (.var 3) (.cons (.var 4) .nil))) .nil)) (.bi .int (.cons (.cmp .NotEq (.idx (.var 4) (.int 0)) (.int 0)) .nil)))))) .nil))) <|
    .seq (.ret (.tup (.cons (.str "sum") (.cons (.var 2) (.cons (.calli "_law_fraction" 0 (.cons (.int 3) .nil)) .nil))))) <|
    .nil

def f_law_pick : FnB where
  np := 2
  nN := 2
  io := true
  body :=
    .seq (.ret (.idx (.var 1) (.calli "_law_random" 0 (.cons (.bi .len (.cons (.var 1) .nil)) .nil)))) <|
    .nil

def f_law_net : FnB where
  np := 4
  nN := 10
  io := true
  body :=
    .seq (.par [7, 8] (.cons (.lst .nil) (.cons (.var 3) .nil))) <|
    .seq (.for (.n 4) (.rng (.bin .Add (.int 1) (.calli "_law_random" 0 (.cons (.var 2) .nil)))) (.seq (.asg (.t (.cons (.n 5) (.cons (.n 9) .nil))) (.tup (.cons (.bin .Add (.var 1) (.bi .len (.cons (.bor 7) .nil))) (.cons (.calli "_law_random" 0 (.cons (.int 5) .nil)) .nil)))) (.seq (.ifs (.or (.cmp .Lt (.var 9) (.int 3)) (.or (.cmp .Eq (.var 8) (.int 0)) (.and (.cmp .Eq (.var 9) (.int 4)) (.cmp .Lt (.var 5) (.int 2))))) (.seq (.app 7 (.calli "_law_sum_node" 0 (.cons (.var 5) .nil))) .nil) (.seq (.ifs (.cmp .Eq (.var 9) (.int 3)) (.seq (.app 7 (.tup (.cons (.str "hinge") (.cons (.frz (.ite (.cmp .Gt (.calli "_law_random" 0 (.cons (.int 3) .nil)) (.int 0)) (.bin .Sub (.var 5) (.int 1)) (.calli "_law_random" 0 (.cons (.var 5) .nil)))) .nil)))) (.seq (.asg (.n 8) (.bin .Sub (.var 8) (.int 1))) .nil)) (.seq (.app 7 (.tup (.cons (.calli "_law_pick" 0 (.cons (.frz (.lst (.cons (.str "most") (.cons (.str "least") .nil)))) .nil)) (.cons (.calli "_law_some_places" 0 (.cons (.var 5) (.cons (.bin .Add (.int 2) (.calli "_law_random" 0 (.cons (.bi .min2 (.cons (.int 2) (.cons (.bin .Sub (.var 5) (.int 1)) .nil))) .nil))) .nil))) .nil)))) (.seq (.asg (.n 8) (.bin .Sub (.var 8) (.int 1))) .nil))) .nil)) .nil))) <|
    .seq (.asg (.n 5) (.bin .Add (.var 1) (.bi .len (.cons (.bor 7) .nil)))) <|
    .seq (.asg (.n 6) (.frz (.bin .Add (.lst (.cons (.bin .Sub (.var 5) (.int 1)) .nil)) (.comp [("turn", 4)] (.n 4) (.rng (.calli "_law_random" 0 (.cons (.int 3) .nil))) (.bl true) (.calli "_law_random" 0 (.cons (.var 5) .nil)))))) <|
    .seq (.ret (.tup (.cons (.str "net") (.cons (.var 1) (.cons (.fzs 7) (.cons (.var 6) .nil)))))) <|
    .nil

def f_law_point : FnB where
  np := 3
  nN := 4
  io := true
  body :=
    .seq (.ret (.frz (.comp [("at", 3)] (.n 3) (.rng (.var 1)) (.bl true) (.calli "_law_fraction" 0 (.cons (.var 2) .nil))))) <|
    .nil

def f_is_whole : FnB where
  np := 1
  nN := 1
  io := false
  body :=
    .seq (.ret (.and (.isi (.var 0) [.int]) (.not (.isi (.var 0) [.bool])))) <|
    .nil

def f_is_place : FnB where
  np := 2
  nN := 2
  io := false
  body :=
    .seq (.ret (.and (.call "is_whole" (.cons (.var 0) .nil)) (.cmp2 .LtE .Lt (.int 0) (.var 0) (.var 1)))) <|
    .nil

def f_are_outs : FnB where
  np := 2
  nN := 3
  io := false
  body :=
    .seq (.ret (.and (.isi (.var 0) [.list]) (.and (.cmp2 .LtE .LtE (.int 1) (.bi .len (.cons (.var 0) .nil)) (.gi "MOST_OUTS" 4)) (.bi .all (.cons (.comp [("one", 2)] (.n 2) (.var 0) (.bl true) (.call "is_place" (.cons (.var 2) (.cons (.var 1) .nil)))) .nil))))) <|
    .nil

def f_are_places : FnB where
  np := 2
  nN := 4
  io := false
  body :=
    .seq (.ifs (.or (.not (.isi (.var 0) [.list])) (.not (.cmp2 .LtE .LtE (.int 2) (.bi .len (.cons (.var 0) .nil)) (.gi "MOST_CHOICES" 4)))) (.seq (.ret (.bl false)) .nil) .nil) <|
    .seq (.ifs (.not (.bi .all (.cons (.comp [("one", 3)] (.n 3) (.var 0) (.bl true) (.call "is_place" (.cons (.var 3) (.cons (.var 1) .nil)))) .nil))) (.seq (.ret (.bl false)) .nil) .nil) <|
    .seq (.ret (.bi .all (.cons (.comp [("at", 2)] (.n 2) (.rng2 (.int 1) (.bi .len (.cons (.var 0) .nil))) (.bl true) (.cmp .Lt (.idx (.var 0) (.bin .Sub (.var 2) (.int 1))) (.idx (.var 0) (.var 2)))) .nil))) <|
    .nil

def f_common_divisor : FnB where
  np := 2
  nN := 2
  io := false
  body :=
    .seq (.par [0, 1] (.cons (.bi .abs (.cons (.var 0) .nil)) (.cons (.bi .abs (.cons (.var 1) .nil)) .nil))) <|
    .seq (.whl (.cmp .Gt (.var 1) (.int 0)) (.seq (.par [0, 1] (.cons (.var 1) (.cons (.bin .Mod (.var 0) (.var 1)) .nil))) .nil)) <|
    .seq (.ret (.var 0)) <|
    .nil

def f_is_fraction : FnB where
  np := 1
  nN := 1
  io := false
  body :=
    .seq (.ifs (.or (.not (.isi (.var 0) [.tuple])) (.or (.cmp .NotEq (.bi .len (.cons (.var 0) .nil)) (.int 2)) (.or (.not (.call "is_whole" (.cons (.idx (.var 0) (.int 0)) .nil))) (.not (.call "is_whole" (.cons (.idx (.var 0) (.int 1)) .nil)))))) (.seq (.ret (.bl false)) .nil) .nil) <|
    .seq (.ret (.and (.cmp .Gt (.idx (.var 0) (.int 1)) (.int 0)) (.cmp .Eq (.call "common_divisor" (.cons (.idx (.var 0) (.int 0)) (.cons (.idx (.var 0) (.int 1)) .nil))) (.int 1)))) <|
    .nil

def f_is_pair : FnB where
  np := 2
  nN := 2
  io := false
  body :=
    .seq (.ifs (.or (.not (.isi (.var 0) [.tuple])) (.or (.cmp .NotEq (.bi .len (.cons (.var 0) .nil)) (.int 2)) (.not (.call "is_place" (.cons (.idx (.var 0) (.int 0)) (.cons (.var 1) .nil)))))) (.seq (.ret (.bl false)) .nil) .nil) <|
    .seq (.ret (.and (.call "is_fraction" (.cons (.idx (.var 0) (.int 1)) .nil)) (.cmp .NotEq (.idx (.idx (.var 0) (.int 1)) (.int 0)) (.int 0)))) <|
    .nil

def f_are_pairs : FnB where
  np := 2
  nN := 4
  io := false
  body :=
    .seq (.ifs (.or (.not (.isi (.var 0) [.list])) (.not (.bi .all (.cons (.comp [("one", 3)] (.n 3) (.var 0) (.bl true) (.call "is_pair" (.cons (.var 3) (.cons (.var 1) .nil)))) .nil)))) (.seq (.ret (.bl false)) .nil) .nil) <|
    .seq (.ret (.bi .all (.cons (.comp [("at", 2)] (.n 2) (.rng2 (.int 1) (.bi .len (.cons (.var 0) .nil))) (.bl true) (.cmp .Lt (.idx (.idx (.var 0) (.bin .Sub (.var 2) (.int 1))) (.int 0)) (.idx (.idx (.var 0) (.var 2)) (.int 0)))) .nil))) <|
    .nil

def f_is_node : FnB where
  np := 2
  nN := 2
  io := false
  body :=
    .seq (.ifs (.or (.not (.isi (.var 0) [.tuple])) (.or (.cmp .NotIn (.bi .len (.cons (.var 0) .nil)) (.tup (.cons (.int 2) (.cons (.int 3) .nil)))) (.not (.isi (.idx (.var 0) (.int 0)) [.str])))) (.seq (.ret (.bl false)) .nil) .nil) <|
    .seq (.ifs (.cmp .Eq (.idx (.var 0) (.int 0)) (.str "sum")) (.seq (.ret (.and (.cmp .Eq (.bi .len (.cons (.var 0) .nil)) (.int 3)) (.and (.call "are_pairs" (.cons (.idx (.var 0) (.int 1)) (.cons (.var 1) .nil))) (.call "is_fraction" (.cons (.idx (.var 0) (.int 2)) .nil))))) .nil) .nil) <|
    .seq (.ifs (.cmp .Eq (.idx (.var 0) (.int 0)) (.str "hinge")) (.seq (.ret (.and (.cmp .Eq (.bi .len (.cons (.var 0) .nil)) (.int 2)) (.call "is_place" (.cons (.idx (.var 0) (.int 1)) (.cons (.var 1) .nil))))) .nil) .nil) <|
    .seq (.ret (.and (.cmp .In (.idx (.var 0) (.int 0)) (.tup (.cons (.str "most") (.cons (.str "least") .nil)))) (.and (.cmp .Eq (.bi .len (.cons (.var 0) .nil)) (.int 2)) (.call "are_places" (.cons (.idx (.var 0) (.int 1)) (.cons (.var 1) .nil)))))) <|
    .nil

def f_are_nodes : FnB where
  np := 2
  nN := 4
  io := false
  body :=
    .seq (.ifs (.or (.not (.isi (.var 0) [.list])) (.cmp .Gt (.bi .len (.cons (.var 0) .nil)) (.gi "MOST_NODES" 24))) (.seq (.ret (.bl false)) .nil) .nil) <|
    .seq (.ret (.bi .all (.cons (.comp [("at", 2), ("node", 3)] (.t (.cons (.n 2) (.cons (.n 3) .nil))) (.enum (.var 0)) (.bl true) (.call "is_node" (.cons (.var 3) (.cons (.frz (.bin .Add (.var 1) (.var 2))) .nil)))) .nil))) <|
    .nil

def f_is_net_by : FnB where
  np := 1
  nN := 1
  io := false
  body :=
    .seq (.ifs (.or (.not (.isi (.var 0) [.tuple])) (.or (.cmp .NotEq (.bi .len (.cons (.var 0) .nil)) (.int 4)) (.or (.not (.isi (.idx (.var 0) (.int 0)) [.str])) (.cmp .NotEq (.idx (.var 0) (.int 0)) (.str "net"))))) (.seq (.ret (.bl false)) .nil) .nil) <|
    .seq (.ifs (.or (.not (.call "is_whole" (.cons (.idx (.var 0) (.int 1)) .nil))) (.or (.not (.cmp2 .LtE .LtE (.int 1) (.idx (.var 0) (.int 1)) (.gi "MOST_INPUTS" 4))) (.not (.call "are_nodes" (.cons (.idx (.var 0) (.int 2)) (.cons (.idx (.var 0) (.int 1)) .nil)))))) (.seq (.ret (.bl false)) .nil) .nil) <|
    .seq (.ret (.call "are_outs" (.cons (.idx (.var 0) (.int 3)) (.cons (.bin .Add (.idx (.var 0) (.int 1)) (.bi .len (.cons (.idx (.var 0) (.int 2)) .nil))) .nil)))) <|
    .nil

def f_check_net : FnB where
  np := 1
  nN := 1
  io := false
  body :=
    .seq (.ifs (.not (.call "is_net_by" (.cons (.var 0) .nil))) (.seq (.raise "InvalidNet" (.var 0)) .nil) .nil) <|
    .nil

def f_are_fractions : FnB where
  np := 2
  nN := 3
  io := false
  body :=
    .seq (.ret (.and (.isi (.var 0) [.list]) (.and (.cmp .Eq (.bi .len (.cons (.var 0) .nil)) (.var 1)) (.bi .all (.cons (.comp [("one", 2)] (.n 2) (.var 0) (.bl true) (.call "is_fraction" (.cons (.var 2) .nil))) .nil))))) <|
    .nil

def f_is_point_by : FnB where
  np := 2
  nN := 2
  io := false
  body :=
    .seq (.ret (.call "are_fractions" (.cons (.var 1) (.cons (.var 0) .nil)))) <|
    .nil

def f_is_point : FnB where
  np := 2
  nN := 2
  io := false
  body :=
    .seq (.ex (.call "check_net" (.cons (.var 0) .nil))) <|
    .seq (.ret (.call "is_point_by" (.cons (.idx (.var 0) (.int 1)) (.cons (.var 1) .nil)))) <|
    .nil

def f_law_is_fraction : FnB where
  np := 1
  nN := 2
  io := false
  body :=
    .seq (.ifs (.or (.not (.isi (.var 0) [.tuple])) (.or (.cmp .NotEq (.bi .len (.cons (.var 0) .nil)) (.int 2)) (.cmp .NotEq (.comp [("one", 1)] (.n 1) (.var 0) (.or (.isi (.var 1) [.bool]) (.not (.isi (.var 1) [.int]))) (.int 1)) (.lst .nil)))) (.seq (.ret (.bl false)) .nil) .nil) <|
    .seq (.ret (.and (.cmp .Gt (.idx (.var 0) (.int 1)) (.int 0)) (.cmp .Eq (.call "_law_lowest" (.cons (.idx (.var 0) (.int 0)) (.cons (.idx (.var 0) (.int 1)) .nil))) (.var 0)))) <|
    .nil

def f_law_is_point : FnB where
  np := 2
  nN := 3
  io := false
  body :=
    .seq (.ret (.and (.isi (.var 1) [.list]) (.and (.cmp .Eq (.bi .len (.cons (.var 1) .nil)) (.var 0)) (.cmp .Eq (.comp [("one", 2)] (.n 2) (.var 1) (.not (.call "_law_is_fraction" (.cons (.var 2) .nil))) (.var 2)) (.lst .nil))))) <|
    .nil

def f_law_is_place : FnB where
  np := 2
  nN := 2
  io := false
  body :=
    .seq (.ret (.and (.not (.isi (.var 0) [.bool])) (.and (.isi (.var 0) [.int]) (.cmp2 .LtE .Lt (.int 0) (.var 0) (.var 1))))) <|
    .nil

def f_law_is_node : FnB where
  np := 2
  nN := 5
  io := false
  body :=
    .seq (.ifs (.or (.not (.isi (.var 0) [.tuple])) (.or (.cmp .NotIn (.bi .len (.cons (.var 0) .nil)) (.lst (.cons (.int 2) (.cons (.int 3) .nil)))) (.not (.isi (.idx (.var 0) (.int 0)) [.str])))) (.seq (.ret (.bl false)) .nil) .nil) <|
    .seq (.ifs (.cmp .Eq (.idx (.var 0) (.int 0)) (.str "sum")) (.seq (.ifs (.or (.cmp .NotEq (.bi .len (.cons (.var 0) .nil)) (.int 3)) (.or (.not (.isi (.idx (.var 0) (.int 1)) [.list])) (.not (.call "_law_is_fraction" (.cons (.idx (.var 0) (.int 2)) .nil))))) (.seq (.ret (.bl false)) .nil) .nil) (.seq (.for (.n 2) (.idx (.var 0) (.int 1)) (.seq (.ifs (.or (.not (.isi (.var 2) [.tuple])) (.or (.cmp .NotEq (.bi .len (.cons (.var 2) .nil)) (.int 2)) (.or (.not (.call "_law_is_place" (.cons (.idx (.var 2) (.int 0)) (.cons (.var 1) .nil)))) (.or (.not (.call "_law_is_fraction" (.cons (.idx (.var 2) (.int 1)) .nil))) (.cmp .Eq (.idx (.idx (.var 2) (.int 1)) (.int 0)) (.int 0)))))) (.seq (.ret (.bl false)) .nil) .nil) .nil)) (.seq (.ret (.cmp .Eq (.comp [("at", 3)] (.n 3) (.rng2 (.int 1) (.bi .len (.cons (.idx (.var 0) (.int 1)) .nil))) (.cmp .GtE (.idx (.idx (.idx (.var 0) (.int 1)) (.bin .Sub (.var 3) (.int 1))) (.int 0)) (.idx (.idx (.idx (.var 0) (.int 1)) (.var 3)) (.int 0))) (.var 3)) (.lst .nil))) .nil))) .nil) <|
    .seq (.ifs (.cmp .Eq (.idx (.var 0) (.int 0)) (.str "hinge")) (.seq (.ret (.and (.cmp .Eq (.bi .len (.cons (.var 0) .nil)) (.int 2)) (.call "_law_is_place" (.cons (.idx (.var 0) (.int 1)) (.cons (.var 1) .nil))))) .nil) .nil) <|
    .seq (.ifs (.or (.cmp .NotIn (.idx (.var 0) (.int 0)) (.lst (.cons (.str "most") (.cons (.str "least") .nil)))) (.or (.cmp .NotEq (.bi .len (.cons (.var 0) .nil)) (.int 2)) (.or (.not (.isi (.idx (.var 0) (.int 1)) [.list])) (.not (.cmp2 .LtE .LtE (.int 2) (.bi .len (.cons (.idx (.var 0) (.int 1)) .nil)) (.int 4)))))) (.seq (.ret (.bl false)) .nil) .nil) <|
    .seq (.ret (.and (.cmp .Eq (.comp [("one", 4)] (.n 4) (.idx (.var 0) (.int 1)) (.not (.call "_law_is_place" (.cons (.var 4) (.cons (.var 1) .nil)))) (.var 4)) (.lst .nil)) (.cmp .Eq (.comp [("at", 3)] (.n 3) (.rng2 (.int 1) (.bi .len (.cons (.idx (.var 0) (.int 1)) .nil))) (.cmp .GtE (.idx (.idx (.var 0) (.int 1)) (.bin .Sub (.var 3) (.int 1))) (.idx (.idx (.var 0) (.int 1)) (.var 3))) (.var 3)) (.lst .nil)))) <|
    .nil

def f_law_is_net : FnB where
  np := 1
  nN := 5
  io := false
  body :=
    .seq (.ifs (.or (.not (.isi (.var 0) [.tuple])) (.or (.cmp .NotEq (.bi .len (.cons (.var 0) .nil)) (.int 4)) (.or (.not (.isi (.idx (.var 0) (.int 0)) [.str])) (.or (.cmp .NotEq (.idx (.var 0) (.int 0)) (.str "net")) (.or (.not (.call "_law_is_place" (.cons (.idx (.var 0) (.int 1)) (.cons (.int 5) .nil)))) (.cmp .Eq (.idx (.var 0) (.int 1)) (.int 0))))))) (.seq (.ret (.bl false)) .nil) .nil) <|
    .seq (.ifs (.or (.not (.isi (.idx (.var 0) (.int 2)) [.list])) (.or (.cmp .Gt (.bi .len (.cons (.idx (.var 0) (.int 2)) .nil)) (.int 24)) (.cmp .NotEq (.comp [("at", 3), ("node", 4)] (.t (.cons (.n 3) (.cons (.n 4) .nil))) (.enum (.idx (.var 0) (.int 2))) (.not (.call "_law_is_node" (.cons (.var 4) (.cons (.frz (.bin .Add (.idx (.var 0) (.int 1)) (.var 3))) .nil)))) (.var 3)) (.lst .nil)))) (.seq (.ret (.bl false)) .nil) .nil) <|
    .seq (.asg (.n 1) (.bin .Add (.idx (.var 0) (.int 1)) (.bi .len (.cons (.idx (.var 0) (.int 2)) .nil)))) <|
    .seq (.ret (.and (.isi (.idx (.var 0) (.int 3)) [.list]) (.and (.cmp2 .Lt .Lt (.int 0) (.bi .len (.cons (.idx (.var 0) (.int 3)) .nil)) (.int 5)) (.cmp .Eq (.comp [("one", 2)] (.n 2) (.idx (.var 0) (.int 3)) (.not (.call "_law_is_place" (.cons (.var 2) (.cons (.var 1) .nil)))) (.var 2)) (.lst .nil))))) <|
    .nil

def f_is_net : FnB where
  np := 1
  nN := 1
  io := false
  body :=
    .seq (.ret (.call "is_net_by" (.cons (.var 0) .nil))) <|
    .nil

end VI

set_option maxHeartbeats 4000000
set_option synthInstance.maxSize 128
set_option synthInstance.maxHeartbeats 20000
namespace VI
open PySem L2
def f_law_bends : FnB where
  np := 1
  nN := 3
  io := false
  body :=
    .seq (.ret (.frz (.comp [("at", 1), ("node", 2)] (.t (.cons (.n 1) (.cons (.n 2) .nil))) (.enum (.idx (.var 0) (.int 2))) (.cmp .NotEq (.idx (.var 2) (.int 0)) (.str "sum")) (.var 1)))) <|
    .nil

def f_law_choices : FnB where
  np := 1
  nN := 2
  io := false
  body :=
    .seq (.ret (.frz (.comp [("at", 1)] (.n 1) (.call "_law_bends" (.cons (.var 0) .nil)) (.bl true) (.ite (.cmp .Eq (.idx (.idx (.idx (.var 0) (.int 2)) (.var 1)) (.int 0)) (.str "hinge")) (.int 2) (.bi .len (.cons (.idx (.idx (.idx (.var 0) (.int 2)) (.var 1)) (.int 1)) .nil)))))) <|
    .nil

def f_law_same : FnB where
  np := 2
  nN := 3
  io := false
  body :=
    .seq (.ifs (.or (.isi (.var 1) [.tuple]) (.isi (.var 1) [.list])) (.seq (.ifs (.or (.cmp .NotEq (.isi (.var 0) [.tuple]) (.isi (.var 1) [.tuple])) (.cmp .NotEq (.isi (.var 0) [.list]) (.isi (.var 1) [.list]))) (.seq (.ret (.bl false)) .nil) .nil) (.seq (.ret (.and (.cmp .Eq (.bi .len (.cons (.var 0) .nil)) (.bi .len (.cons (.var 1) .nil))) (.cmp .Eq (.comp [("at", 2)] (.n 2) (.rng (.bi .len (.cons (.var 1) .nil))) (.not (.call "_law_same" (.cons (.idx (.var 0) (.var 2)) (.cons (.idx (.var 1) (.var 2)) .nil)))) (.var 2)) (.lst .nil)))) .nil)) .nil) <|
    .seq (.ifs (.or (.isi (.var 1) [.bool]) (.isi (.var 0) [.bool])) (.seq (.ret (.ite (.cmp .Is (.var 1) (.bl true)) (.cmp .Is (.var 0) (.bl true)) (.ite (.cmp .Is (.var 1) (.bl false)) (.cmp .Is (.var 0) (.bl false)) (.bl false)))) .nil) .nil) <|
    .seq (.ifs (.isi (.var 1) [.int]) (.seq (.ret (.and (.isi (.var 0) [.int]) (.cmp .Eq (.var 0) (.var 1)))) .nil) .nil) <|
    .seq (.ifs (.isi (.var 1) [.str]) (.seq (.ret (.and (.isi (.var 0) [.str]) (.cmp .Eq (.var 0) (.var 1)))) .nil) .nil) <|
    .seq (.ret (.and (.cmp .Is (.var 1) .non) (.cmp .Is (.var 0) .non))) <|
    .nil

def f_check_point : FnB where
  np := 2
  nN := 2
  io := false
  body :=
    .seq (.ifs (.not (.call "is_point_by" (.cons (.idx (.var 0) (.int 1)) (.cons (.var 1) .nil)))) (.seq (.raise "InvalidPoint" (.var 1)) .nil) .nil) <|
    .nil

def f_is_less : FnB where
  np := 2
  nN := 2
  io := false
  body :=
    .seq (.ret (.cmp .Lt (.bin .Mult (.idx (.var 0) (.int 0)) (.idx (.var 1) (.int 1))) (.bin .Mult (.idx (.var 1) (.int 0)) (.idx (.var 0) (.int 1))))) <|
    .nil

def f_greater : FnB where
  np := 2
  nN := 2
  io := false
  body :=
    .seq (.ret (.ite (.call "is_less" (.cons (.var 0) (.cons (.var 1) .nil))) (.var 1) (.var 0))) <|
    .nil

def f_greatest_of : FnB where
  np := 1
  nN := 3
  io := false
  body :=
    .seq (.asg (.n 1) (.idx (.var 0) (.int 0))) <|
    .seq (.for (.n 2) (.sl (.var 0) (.int 1) .nil) (.seq (.asg (.n 1) (.call "greater" (.cons (.var 1) (.cons (.var 2) .nil)))) .nil)) <|
    .seq (.ret (.var 1)) <|
    .nil

def f_lesser : FnB where
  np := 2
  nN := 2
  io := false
  body :=
    .seq (.ret (.ite (.call "is_less" (.cons (.var 1) (.cons (.var 0) .nil))) (.var 1) (.var 0))) <|
    .nil

def f_least_of : FnB where
  np := 1
  nN := 3
  io := false
  body :=
    .seq (.asg (.n 1) (.idx (.var 0) (.int 0))) <|
    .seq (.for (.n 2) (.sl (.var 0) (.int 1) .nil) (.seq (.asg (.n 1) (.call "lesser" (.cons (.var 1) (.cons (.var 2) .nil)))) .nil)) <|
    .seq (.ret (.var 1)) <|
    .nil

def f_lowest : FnB where
  np := 2
  nN := 3
  io := false
  body :=
    .seq (.ifs (.cmp .Lt (.var 1) (.int 0)) (.seq (.par [0, 1] (.cons (.neg (.var 0)) (.cons (.neg (.var 1)) .nil))) .nil) .nil) <|
    .seq (.asg (.n 2) (.call "common_divisor" (.cons (.var 0) (.cons (.var 1) .nil)))) <|
    .seq (.ret (.tup (.cons (.bin .FloorDiv (.var 0) (.var 2)) (.cons (.bin .FloorDiv (.var 1) (.var 2)) .nil)))) <|
    .nil

def f_plus : FnB where
  np := 2
  nN := 2
  io := false
  body :=
    .seq (.ret (.call "lowest" (.cons (.frz (.bin .Add (.bin .Mult (.idx (.var 0) (.int 0)) (.idx (.var 1) (.int 1))) (.bin .Mult (.idx (.var 1) (.int 0)) (.idx (.var 0) (.int 1))))) (.cons (.frz (.bin .Mult (.idx (.var 0) (.int 1)) (.idx (.var 1) (.int 1)))) .nil)))) <|
    .nil

def f_times : FnB where
  np := 2
  nN := 2
  io := false
  body :=
    .seq (.ret (.call "lowest" (.cons (.frz (.bin .Mult (.idx (.var 0) (.int 0)) (.idx (.var 1) (.int 0)))) (.cons (.frz (.bin .Mult (.idx (.var 0) (.int 1)) (.idx (.var 1) (.int 1)))) .nil)))) <|
    .nil

def f_node_value : FnB where
  np := 2
  nN := 6
  io := false
  body :=
    .seq (.ifs (.cmp .Eq (.idx (.var 0) (.int 0)) (.str "sum")) (.seq (.asg (.n 3) (.idx (.var 0) (.int 2))) (.seq (.for (.t (.cons (.n 4) (.cons (.n 5) .nil))) (.idx (.var 0) (.int 1)) (.seq (.asg (.n 3) (.call "plus" (.cons (.var 3) (.cons (.call "times" (.cons (.var 5) (.cons (.idx (.var 1) (.var 4)) .nil))) .nil)))) .nil)) (.seq (.ret (.var 3)) .nil))) .nil) <|
    .seq (.ifs (.cmp .Eq (.idx (.var 0) (.int 0)) (.str "hinge")) (.seq (.ret (.call "greater" (.cons (.tup (.cons (.int 0) (.cons (.int 1) .nil))) (.cons (.idx (.var 1) (.idx (.var 0) (.int 1))) .nil)))) .nil) .nil) <|
    .seq (.asg (.n 2) (.frz (.comp [("place", 4)] (.n 4) (.idx (.var 0) (.int 1)) (.bl true) (.idx (.var 1) (.var 4))))) <|
    .seq (.ret (.ite (.cmp .Eq (.idx (.var 0) (.int 0)) (.str "most")) (.call "greatest_of" (.cons (.var 2) .nil)) (.call "least_of" (.cons (.var 2) .nil)))) <|
    .nil

def f_values_by : FnB where
  np := 2
  nN := 4
  io := false
  body :=
    .seq (.asg (.n 2) (.bi .list (.cons (.var 1) .nil))) <|
    .seq (.for (.n 3) (.idx (.var 0) (.int 2)) (.seq (.app 2 (.call "node_value" (.cons (.var 3) (.cons (.bor 2) .nil)))) .nil)) <|
    .seq (.ret (.mov 2)) <|
    .nil

def f_values_at : FnB where
  np := 2
  nN := 2
  io := false
  body :=
    .seq (.ex (.call "check_net" (.cons (.var 0) .nil))) <|
    .seq (.ex (.call "check_point" (.cons (.var 0) (.cons (.var 1) .nil)))) <|
    .seq (.ret (.call "values_by" (.cons (.var 0) (.cons (.var 1) .nil)))) <|
    .nil

def f_outs_by : FnB where
  np := 2
  nN := 4
  io := false
  body :=
    .seq (.asg (.n 2) (.frz (.call "values_by" (.cons (.var 0) (.cons (.var 1) .nil))))) <|
    .seq (.ret (.frz (.comp [("place", 3)] (.n 3) (.idx (.var 0) (.int 3)) (.bl true) (.idx (.var 2) (.var 3))))) <|
    .nil

def f_outs_at : FnB where
  np := 2
  nN := 2
  io := false
  body :=
    .seq (.ex (.call "check_net" (.cons (.var 0) .nil))) <|
    .seq (.ex (.call "check_point" (.cons (.var 0) (.cons (.var 1) .nil)))) <|
    .seq (.ret (.call "outs_by" (.cons (.var 0) (.cons (.var 1) .nil)))) <|
    .nil

def f_law_refused_right : FnB where
  np := 2
  nN := 6
  io := false
  body :=
    .seq (.for (.n 2) (.lst (.cons .non (.cons (.tup .nil) (.cons (.frz (.bi .list (.cons (.var 0) .nil))) (.cons (.frz (.sl (.var 0) .nil (.int 3))) (.cons (.tup (.cons (.str "net") (.cons (.int 0) (.cons (.frz (.lst .nil)) (.cons (.frz (.lst (.cons (.int 0) .nil))) .nil))))) (.cons (.tup (.cons (.str "net") (.cons (.int 1) (.cons (.frz (.lst (.cons (.tup (.cons (.str "hinge") (.cons (.int 1) .nil))) .nil))) (.cons (.frz (.lst (.cons (.int 0) .nil))) .nil))))) (.cons (.str "net") .nil)))))))) (.seq (.for (.n 3) (.lst (.cons (.fn "values_at") (.cons (.fn "outs_at") .nil))) (.seq (.asg (.n 4) .non) (.seq (.try (.seq (.ex (.callv 3 (.cons (.var 2) (.cons .non .nil)))) .nil) (.seq (.hnd "InvalidNet" 5 (.seq (.asg (.n 4) (.var 5)) .nil)) .nil)) (.seq (.ifs (.or (.cmp .Is (.var 4) .non) (.cmp .NotEq (.bi .repr (.cons (.fld (.var 4)) .nil)) (.bi .repr (.cons (.var 2) .nil)))) (.seq (.ret (.bl false)) .nil) .nil) .nil)))) .nil)) <|
    .seq (.for (.n 2) (.lst (.cons .non (.cons (.bi .tuple (.cons (.var 1) .nil)) (.cons (.frz (.sl (.var 1) (.int 1) .nil)) (.cons (.frz (.bin .Add (.var 1) (.lst (.cons (.tup (.cons (.int 0) (.cons (.int 1) .nil))) .nil)))) (.cons (.frz (.bin .Mult (.lst (.cons (.int 1) .nil)) (.bi .len (.cons (.var 1) .nil)))) (.cons (.frz (.bin .Mult (.lst (.cons (.tup (.cons (.int 2) (.cons (.int 4) .nil))) .nil)) (.bi .len (.cons (.var 1) .nil)))) (.cons (.frz .edic) .nil)))))))) (.seq (.for (.n 3) (.lst (.cons (.fn "values_at") (.cons (.fn "outs_at") .nil))) (.seq (.asg (.n 4) .non) (.seq (.try (.seq (.ex (.callv 3 (.cons (.var 0) (.cons (.var 2) .nil)))) .nil) (.seq (.hnd "InvalidPoint" 5 (.seq (.asg (.n 4) (.var 5)) .nil)) .nil)) (.seq (.ifs (.or (.cmp .Is (.var 4) .non) (.cmp .NotEq (.bi .repr (.cons (.fld (.var 4)) .nil)) (.bi .repr (.cons (.var 2) .nil)))) (.seq (.ret (.bl false)) .nil) .nil) .nil)))) .nil)) <|
    .seq (.ret (.bl true)) <|
    .nil

def f_law_plus : FnB where
  np := 2
  nN := 2
  io := false
  body :=
    .seq (.ret (.call "_law_lowest" (.cons (.frz (.bin .Add (.bin .Mult (.idx (.var 0) (.int 0)) (.idx (.var 1) (.int 1))) (.bin .Mult (.idx (.var 1) (.int 0)) (.idx (.var 0) (.int 1))))) (.cons (.frz (.bin .Mult (.idx (.var 0) (.int 1)) (.idx (.var 1) (.int 1)))) .nil)))) <|
    .nil

def f_law_summed : FnB where
  np := 1
  nN := 3
  io := false
  body :=
    .seq (.asg (.n 1) (.tup (.cons (.int 0) (.cons (.int 1) .nil)))) <|
    .seq (.for (.n 2) (.var 0) (.seq (.asg (.n 1) (.call "_law_plus" (.cons (.var 1) (.cons (.var 2) .nil)))) .nil)) <|
    .seq (.ret (.var 1)) <|
    .nil

def f_law_below : FnB where
  np := 2
  nN := 2
  io := false
  body :=
    .seq (.ret (.cmp .Lt (.bin .Mult (.idx (.var 0) (.int 0)) (.idx (.var 1) (.int 1))) (.bin .Mult (.idx (.var 1) (.int 0)) (.idx (.var 0) (.int 1))))) <|
    .nil

def f_law_greater : FnB where
  np := 2
  nN := 2
  io := false
  body :=
    .seq (.ret (.ite (.call "_law_below" (.cons (.var 0) (.cons (.var 1) .nil))) (.var 1) (.var 0))) <|
    .nil

def f_law_lesser : FnB where
  np := 2
  nN := 2
  io := false
  body :=
    .seq (.ret (.ite (.call "_law_below" (.cons (.var 1) (.cons (.var 0) .nil))) (.var 1) (.var 0))) <|
    .nil

def f_law_times : FnB where
  np := 2
  nN := 2
  io := false
  body :=
    .seq (.ret (.call "_law_lowest" (.cons (.frz (.bin .Mult (.idx (.var 0) (.int 0)) (.idx (.var 1) (.int 0)))) (.cons (.frz (.bin .Mult (.idx (.var 0) (.int 1)) (.idx (.var 1) (.int 1)))) .nil)))) <|
    .nil

def f_law_values : FnB where
  np := 2
  nN := 7
  io := false
  body :=
    .seq (.asg (.n 2) (.bi .list (.cons (.var 1) .nil))) <|
    .seq (.for (.n 3) (.idx (.var 0) (.int 2)) (.seq (.ifs (.cmp .Eq (.idx (.var 3) (.int 0)) (.str "sum")) (.seq (.app 2 (.call "_law_plus" (.cons (.idx (.var 3) (.int 2)) (.cons (.call "_law_summed" (.cons (.frz (.comp [("place", 5), ("weight", 6)] (.t (.cons (.n 5) (.cons (.n 6) .nil))) (.idx (.var 3) (.int 1)) (.bl true) (.call "_law_times" (.cons (.var 6) (.cons (.idx (.bor 2) (.var 5)) .nil))))) .nil)) .nil)))) .nil) (.seq (.ifs (.cmp .Eq (.idx (.var 3) (.int 0)) (.str "hinge")) (.seq (.app 2 (.call "_law_greater" (.cons (.tup (.cons (.int 0) (.cons (.int 1) .nil))) (.cons (.idx (.bor 2) (.idx (.var 3) (.int 1))) .nil)))) .nil) (.seq (.asg (.n 4) (.idx (.bor 2) (.idx (.idx (.var 3) (.int 1)) (.int 0)))) (.seq (.for (.n 5) (.idx (.var 3) (.int 1)) (.seq (.asg (.n 4) (.ite (.cmp .Eq (.idx (.var 3) (.int 0)) (.str "most")) (.call "_law_greater" (.cons (.var 4) (.cons (.idx (.bor 2) (.var 5)) .nil))) (.call "_law_lesser" (.cons (.var 4) (.cons (.idx (.bor 2) (.var 5)) .nil))))) .nil)) (.seq (.app 2 (.var 4)) .nil)))) .nil)) .nil)) <|
    .seq (.ret (.fzs 2)) <|
    .nil

def f_law_outs : FnB where
  np := 2
  nN := 4
  io := false
  body :=
    .seq (.asg (.n 2) (.call "_law_values" (.cons (.var 0) (.cons (.var 1) .nil)))) <|
    .seq (.ret (.frz (.comp [("place", 3)] (.n 3) (.idx (.var 0) (.int 3)) (.bl true) (.idx (.var 2) (.var 3))))) <|
    .nil

def f_bends_of : FnB where
  np := 1
  nN := 3
  io := false
  body :=
    .seq (.ret (.frz (.comp [("at", 1), ("node", 2)] (.t (.cons (.n 1) (.cons (.n 2) .nil))) (.enum (.idx (.var 0) (.int 2))) (.cmp .NotEq (.idx (.var 2) (.int 0)) (.str "sum")) (.var 1)))) <|
    .nil

def f_bends : FnB where
  np := 1
  nN := 2
  io := false
  body :=
    .seq (.ex (.call "check_net" (.cons (.var 0) .nil))) <|
    .seq (.ret (.frz (.comp [("at", 1)] (.n 1) (.call "bends_of" (.cons (.var 0) .nil)) (.bl true) (.frz (.bin .Add (.idx (.var 0) (.int 1)) (.var 1)))))) <|
    .nil

def f_choices_of : FnB where
  np := 2
  nN := 3
  io := false
  body :=
    .seq (.asg (.n 2) (.idx (.idx (.var 0) (.int 2)) (.var 1))) <|
    .seq (.ret (.ite (.cmp .Eq (.idx (.var 2) (.int 0)) (.str "hinge")) (.int 2) (.bi .len (.cons (.idx (.var 2) (.int 1)) .nil)))) <|
    .nil

def f_choices : FnB where
  np := 1
  nN := 2
  io := false
  body :=
    .seq (.ex (.call "check_net" (.cons (.var 0) .nil))) <|
    .seq (.ret (.frz (.comp [("at", 1)] (.n 1) (.call "bends_of" (.cons (.var 0) .nil)) (.bl true) (.call "choices_of" (.cons (.var 0) (.cons (.var 1) .nil)))))) <|
    .nil

def f_law_2 : FnB where
  np := 1
  nN := 14
  io := false
  body :=
    .seq (.for (.n 1) (.rng (.int 6)) (.seq (.asg (.n 2) (.call "_law_generator" (.cons (.var 0) (.cons (.var 1) .nil)))) (.seq (.asg (.n 3) (.calli "_law_net" 2 (.cons (.bin .Add (.int 1) (.calli "_law_random" 2 (.cons (.int 3) .nil))) (.cons (.int 10) (.cons (.int 6) .nil))))) (.seq (.par [5, 6, 7] (.cons (.bi .repr (.cons (.var 3) .nil)) (.cons (.frz (.comp [("at", 13)] (.n 13) (.call "_law_bends" (.cons (.var 3) .nil)) (.bl true) (.frz (.bin .Add (.idx (.var 3) (.int 1)) (.var 13))))) (.cons (.call "_law_choices" (.cons (.var 3) .nil)) .nil)))) (.seq (.ifs (.not (.call "_law_same" (.cons (.frz (.lst (.cons (.call "bends" (.cons (.var 3) .nil)) (.cons (.callk "bends" ["net"] [0] .nil (.cons (.var 3) .nil)) (.cons (.call "choices" (.cons (.var 3) .nil)) (.cons (.callk "choices" ["net"] [0] .nil (.cons (.var 3) .nil)) .nil)))))) (.cons (.frz (.lst (.cons (.var 6) (.cons (.var 6) (.cons (.var 7) (.cons (.var 7) .nil)))))) .nil)))) (.seq (.ret (.bl false)) .nil) .nil) (.seq (.for (.n 4) (.rng (.int 6)) (.seq (.asg (.n 8) (.frz (.ite (.cmp .Gt (.var 4) (.int 3)) (.comp [("at", 13)] (.n 13) (.rng (.idx (.var 3) (.int 1))) (.bl true) (.tup (.cons (.bin .Sub (.calli "_law_random" 2 (.cons (.int 3) .nil)) (.int 1)) (.cons (.int 1) .nil)))) (.calli "_law_point" 2 (.cons (.idx (.var 3) (.int 1)) (.cons (.int 4) .nil)))))) (.seq (.par [10, 11, 12] (.cons (.call "_law_values" (.cons (.var 3) (.cons (.var 8) .nil))) (.cons (.call "_law_outs" (.cons (.var 3) (.cons (.var 8) .nil))) (.cons (.bi .repr (.cons (.var 8) .nil)) .nil)))) (.seq (.asg (.n 9) (.call "values_at" (.cons (.var 3) (.cons (.var 8) .nil)))) (.seq (.ifs (.or (.not (.callb "_law_same" 9 (.frz (.callk "values_at" ["point", "net"] [1, 0] .nil (.cons (.var 8) (.cons (.var 3) .nil)))) (.cons (.frz (.lst (.cons (.var 10) (.cons (.var 10) .nil)))) .nil))) (.not (.call "_law_same" (.cons (.frz (.lst (.cons (.call "outs_at" (.cons (.var 3) (.cons (.var 8) .nil))) (.cons (.callk "outs_at" ["point", "net"] [1, 0] .nil (.cons (.var 8) (.cons (.var 3) .nil))) .nil)))) (.cons (.frz (.lst (.cons (.var 11) (.cons (.var 11) .nil)))) .nil))))) (.seq (.ret (.bl false)) .nil) .nil) (.seq (.app 9 (.str "spoilt")) (.seq (.ifs (.or (.not (.call "_law_same" (.cons (.frz (.call "values_at" (.cons (.var 3) (.cons (.var 8) .nil)))) (.cons (.var 10) .nil)))) (.or (.cmp .NotEq (.bi .repr (.cons (.var 8) .nil)) (.var 12)) (.cmp .NotEq (.bi .repr (.cons (.var 3) .nil)) (.var 5)))) (.seq (.ret (.bl false)) .nil) .nil) .nil))))))) (.seq (.ifs (.not (.call "_law_refused_right" (.cons (.var 3) (.cons (.var 8) .nil)))) (.seq (.ret (.bl false)) .nil) .nil) .nil))))))) <|
    .seq (.ret (.bl true)) <|
    .nil

end VI

set_option maxHeartbeats 4000000
set_option synthInstance.maxSize 128
set_option synthInstance.maxHeartbeats 20000
namespace K
open PySem L2 VI He
abbrev PG : Program := PySem.Challenge.pw_wishkept_k02_whole_values_of_nets
def tp (i : Nat) : Stmt := PG.main.body.getD i (.Pass ⟨0, 0, 0, 0⟩)
def cf : Cf where
  N := []
  gi := [("MOST_INPUTS", 4), ("MOST_NODES", 24), ("MOST_OUTS", 4), ("MOST_CHOICES", 4)]
  cls := ["NetError", "InvalidNet", "InvalidPoint"]
  fns := [("_law_cell", false), ("_law_generator", false), ("_law_hash", false), ("_law_random", true), ("_law_drawn_order", true), ("_law_some_places", true), ("_law_lowest", false), ("_law_fraction", true), ("_law_sum_node", true), ("_law_pick", true), ("_law_net", true), ("_law_bends", false), ("_law_choices", false), ("_law_same", false), ("is_whole", false), ("is_place", false), ("are_outs", false), ("are_places", false), ("common_divisor", false), ("is_fraction", false), ("is_pair", false), ("are_pairs", false), ("is_node", false), ("are_nodes", false), ("is_net_by", false), ("check_net", false), ("are_fractions", false), ("is_point_by", false), ("check_point", false), ("is_less", false), ("greater", false), ("greatest_of", false), ("lesser", false), ("least_of", false), ("lowest", false), ("plus", false), ("times", false), ("node_value", false), ("values_by", false), ("values_at", false), ("outs_by", false), ("outs_at", false), ("_law_refused_right", false), ("_law_point", true), ("_law_plus", false), ("_law_summed", false), ("_law_below", false), ("_law_greater", false), ("_law_lesser", false), ("_law_times", false), ("_law_values", false), ("_law_outs", false), ("bends_of", false), ("bends", false), ("choices_of", false), ("choices", false), ("law", false)]
  kws := [("bends", ["net"], 0, [0]), ("choices", ["net"], 0, [0]), ("values_at", ["point", "net"], 0, [1, 0]), ("outs_at", ["point", "net"], 0, [1, 0])]
  exs := ["InvalidNet", "InvalidPoint"]
def d_law_cell : Df := ⟨"_law_cell", ⟨("_law_cell", none), "_law_cell", "_law_cell", defArgs (tp 45), defBody (tp 45), defScope (tp 45), [], []⟩, f_law_cell.fn ["script", "index"] ["script", "index"]⟩
def d_law_generator : Df := ⟨"_law_generator", ⟨("_law_generator", none), "_law_generator", "_law_generator", defArgs (tp 46), defBody (tp 46), defScope (tp 46), [], []⟩, f_law_generator.fn ["script", "index"] ["script", "index", "seed"]⟩
def d_law_hash : Df := ⟨"_law_hash", ⟨("_law_hash", none), "_law_hash", "_law_hash", defArgs (tp 43), defBody (tp 43), defScope (tp 43), [], []⟩, f_law_hash.fn ["seed", "index"] ["seed", "index", "mixed"]⟩
def d_law_random : Df := ⟨"_law_random", ⟨("_law_random", none), "_law_random", "_law_random", defArgs (tp 44), defBody (tp 44), defScope (tp 44), [], []⟩, f_law_random.fn ["generator", "bound"] ["generator", "bound", "drawn", "turn"]⟩
def d_law_drawn_order : Df := ⟨"_law_drawn_order", ⟨("_law_drawn_order", none), "_law_drawn_order", "_law_drawn_order", defArgs (tp 48), defBody (tp 48), defScope (tp 48), [], []⟩, f_law_drawn_order.fn ["generator", "row"] ["generator", "row", "left", "found"]⟩
def d_law_some_places : Df := ⟨"_law_some_places", ⟨("_law_some_places", none), "_law_some_places", "_law_some_places", defArgs (tp 58), defBody (tp 58), defScope (tp 58), [], []⟩, f_law_some_places.fn ["generator", "many", "count"] ["generator", "many", "count"]⟩
def d_law_lowest : Df := ⟨"_law_lowest", ⟨("_law_lowest", none), "_law_lowest", "_law_lowest", defArgs (tp 50), defBody (tp 50), defScope (tp 50), [], []⟩, f_law_lowest.fn ["top", "under"] ["top", "under", "one", "other"]⟩
def d_law_fraction : Df := ⟨"_law_fraction", ⟨("_law_fraction", none), "_law_fraction", "_law_fraction", defArgs (tp 57), defBody (tp 57), defScope (tp 57), [], []⟩, f_law_fraction.fn ["generator", "most"] ["generator", "most"]⟩
def d_law_sum_node : Df := ⟨"_law_sum_node", ⟨("_law_sum_node", none), "_law_sum_node", "_law_sum_node", defArgs (tp 59), defBody (tp 59), defScope (tp 59), [], []⟩, f_law_sum_node.fn ["generator", "many"] ["generator", "many", "pairs", "place", "weight"]⟩
def d_law_pick : Df := ⟨"_law_pick", ⟨("_law_pick", none), "_law_pick", "_law_pick", defArgs (tp 47), defBody (tp 47), defScope (tp 47), [], []⟩, f_law_pick.fn ["generator", "row"] ["generator", "row"]⟩
def d_law_net : Df := ⟨"_law_net", ⟨("_law_net", none), "_law_net", "_law_net", defArgs (tp 60), defBody (tp 60), defScope (tp 60), [], []⟩, f_law_net.fn ["generator", "inputs", "most", "bends_v"] ["generator", "inputs", "most", "bends_v", "turn", "many", "outs", "nodes", "left", "way"]⟩
def d_law_bends : Df := ⟨"_law_bends", ⟨("_law_bends", none), "_law_bends", "_law_bends", defArgs (tp 64), defBody (tp 64), defScope (tp 64), [], []⟩, f_law_bends.fn ["net"] ["net", "at", "node"]⟩
def d_law_choices : Df := ⟨"_law_choices", ⟨("_law_choices", none), "_law_choices", "_law_choices", defArgs (tp 65), defBody (tp 65), defScope (tp 65), [], []⟩, f_law_choices.fn ["net"] ["net", "at"]⟩
def d_law_same : Df := ⟨"_law_same", ⟨("_law_same", none), "_law_same", "_law_same", defArgs (tp 49), defBody (tp 49), defScope (tp 49), [], []⟩, f_law_same.fn ["told", "due"] ["told", "due", "at"]⟩
def d_is_whole : Df := ⟨"is_whole", ⟨("is_whole", none), "is_whole", "is_whole", defArgs (tp 5), defBody (tp 5), defScope (tp 5), [], []⟩, f_is_whole.fn ["value"] ["value"]⟩
def d_is_place : Df := ⟨"is_place", ⟨("is_place", none), "is_place", "is_place", defArgs (tp 20), defBody (tp 20), defScope (tp 20), [], []⟩, f_is_place.fn ["value", "many"] ["value", "many"]⟩
def d_are_outs : Df := ⟨"are_outs", ⟨("are_outs", none), "are_outs", "are_outs", defArgs (tp 26), defBody (tp 26), defScope (tp 26), [], []⟩, f_are_outs.fn ["value", "many"] ["value", "many", "one"]⟩
def d_are_places : Df := ⟨"are_places", ⟨("are_places", none), "are_places", "are_places", defArgs (tp 21), defBody (tp 21), defScope (tp 21), [], []⟩, f_are_places.fn ["value", "many"] ["value", "many", "at", "one"]⟩
def d_common_divisor : Df := ⟨"common_divisor", ⟨("common_divisor", none), "common_divisor", "common_divisor", defArgs (tp 6), defBody (tp 6), defScope (tp 6), [], []⟩, f_common_divisor.fn ["one", "other"] ["one", "other"]⟩
def d_is_fraction : Df := ⟨"is_fraction", ⟨("is_fraction", none), "is_fraction", "is_fraction", defArgs (tp 8), defBody (tp 8), defScope (tp 8), [], []⟩, f_is_fraction.fn ["value"] ["value"]⟩
def d_is_pair : Df := ⟨"is_pair", ⟨("is_pair", none), "is_pair", "is_pair", defArgs (tp 22), defBody (tp 22), defScope (tp 22), [], []⟩, f_is_pair.fn ["value", "many"] ["value", "many"]⟩
def d_are_pairs : Df := ⟨"are_pairs", ⟨("are_pairs", none), "are_pairs", "are_pairs", defArgs (tp 23), defBody (tp 23), defScope (tp 23), [], []⟩, f_are_pairs.fn ["value", "many"] ["value", "many", "at", "one"]⟩
def d_is_node : Df := ⟨"is_node", ⟨("is_node", none), "is_node", "is_node", defArgs (tp 24), defBody (tp 24), defScope (tp 24), [], []⟩, f_is_node.fn ["value", "many"] ["value", "many"]⟩
def d_are_nodes : Df := ⟨"are_nodes", ⟨("are_nodes", none), "are_nodes", "are_nodes", defArgs (tp 25), defBody (tp 25), defScope (tp 25), [], []⟩, f_are_nodes.fn ["value", "inputs"] ["value", "inputs", "at", "node"]⟩
def d_is_net_by : Df := ⟨"is_net_by", ⟨("is_net_by", none), "is_net_by", "is_net_by", defArgs (tp 27), defBody (tp 27), defScope (tp 27), [], []⟩, f_is_net_by.fn ["value"] ["value"]⟩
def d_check_net : Df := ⟨"check_net", ⟨("check_net", none), "check_net", "check_net", defArgs (tp 28), defBody (tp 28), defScope (tp 28), [], []⟩, f_check_net.fn ["net"] ["net"]⟩
def d_are_fractions : Df := ⟨"are_fractions", ⟨("are_fractions", none), "are_fractions", "are_fractions", defArgs (tp 9), defBody (tp 9), defScope (tp 9), [], []⟩, f_are_fractions.fn ["value", "many"] ["value", "many", "one"]⟩
def d_is_point_by : Df := ⟨"is_point_by", ⟨("is_point_by", none), "is_point_by", "is_point_by", defArgs (tp 29), defBody (tp 29), defScope (tp 29), [], []⟩, f_is_point_by.fn ["many", "value"] ["many", "value"]⟩
def d_check_point : Df := ⟨"check_point", ⟨("check_point", none), "check_point", "check_point", defArgs (tp 30), defBody (tp 30), defScope (tp 30), [], []⟩, f_check_point.fn ["net", "point"] ["net", "point"]⟩
def d_is_less : Df := ⟨"is_less", ⟨("is_less", none), "is_less", "is_less", defArgs (tp 12), defBody (tp 12), defScope (tp 12), [], []⟩, f_is_less.fn ["one", "other"] ["one", "other"]⟩
def d_greater : Df := ⟨"greater", ⟨("greater", none), "greater", "greater", defArgs (tp 13), defBody (tp 13), defScope (tp 13), [], []⟩, f_greater.fn ["one", "other"] ["one", "other"]⟩
def d_greatest_of : Df := ⟨"greatest_of", ⟨("greatest_of", none), "greatest_of", "greatest_of", defArgs (tp 31), defBody (tp 31), defScope (tp 31), [], []⟩, f_greatest_of.fn ["numbers"] ["numbers", "found", "number"]⟩
def d_lesser : Df := ⟨"lesser", ⟨("lesser", none), "lesser", "lesser", defArgs (tp 14), defBody (tp 14), defScope (tp 14), [], []⟩, f_lesser.fn ["one", "other"] ["one", "other"]⟩
def d_least_of : Df := ⟨"least_of", ⟨("least_of", none), "least_of", "least_of", defArgs (tp 32), defBody (tp 32), defScope (tp 32), [], []⟩, f_least_of.fn ["numbers"] ["numbers", "found", "number"]⟩
def d_lowest : Df := ⟨"lowest", ⟨("lowest", none), "lowest", "lowest", defArgs (tp 7), defBody (tp 7), defScope (tp 7), [], []⟩, f_lowest.fn ["top", "under"] ["top", "under", "common"]⟩
def d_plus : Df := ⟨"plus", ⟨("plus", none), "plus", "plus", defArgs (tp 10), defBody (tp 10), defScope (tp 10), [], []⟩, f_plus.fn ["one", "other"] ["one", "other"]⟩
def d_times : Df := ⟨"times", ⟨("times", none), "times", "times", defArgs (tp 11), defBody (tp 11), defScope (tp 11), [], []⟩, f_times.fn ["one", "other"] ["one", "other"]⟩
def d_node_value : Df := ⟨"node_value", ⟨("node_value", none), "node_value", "node_value", defArgs (tp 33), defBody (tp 33), defScope (tp 33), [], []⟩, f_node_value.fn ["node", "values"] ["node", "values", "numbers", "found", "place", "weight"]⟩
def d_values_by : Df := ⟨"values_by", ⟨("values_by", none), "values_by", "values_by", defArgs (tp 34), defBody (tp 34), defScope (tp 34), [], []⟩, f_values_by.fn ["net", "point"] ["net", "point", "found", "node"]⟩
def d_values_at : Df := ⟨"values_at", ⟨("values_at", none), "values_at", "values_at", defArgs (tp 38), defBody (tp 38), defScope (tp 38), [], []⟩, f_values_at.fn ["net", "point"] ["net", "point"]⟩
def d_outs_by : Df := ⟨"outs_by", ⟨("outs_by", none), "outs_by", "outs_by", defArgs (tp 35), defBody (tp 35), defScope (tp 35), [], []⟩, f_outs_by.fn ["net", "point"] ["net", "point", "values", "place"]⟩
def d_outs_at : Df := ⟨"outs_at", ⟨("outs_at", none), "outs_at", "outs_at", defArgs (tp 39), defBody (tp 39), defScope (tp 39), [], []⟩, f_outs_at.fn ["net", "point"] ["net", "point"]⟩
def d_law_refused_right : Df := ⟨"_law_refused_right", ⟨("_law_refused_right", none), "_law_refused_right", "_law_refused_right", defArgs (tp 66), defBody (tp 66), defScope (tp 66), [], []⟩, f_law_refused_right.fn ["net", "point"] ["net", "point", "wrong", "call", "caught", "e"]⟩
def d_law_point : Df := ⟨"_law_point", ⟨("_law_point", none), "_law_point", "_law_point", defArgs (tp 61), defBody (tp 61), defScope (tp 61), [], []⟩, f_law_point.fn ["generator", "many", "most"] ["generator", "many", "most", "at"]⟩
def d_law_plus : Df := ⟨"_law_plus", ⟨("_law_plus", none), "_law_plus", "_law_plus", defArgs (tp 51), defBody (tp 51), defScope (tp 51), [], []⟩, f_law_plus.fn ["one", "other"] ["one", "other"]⟩
def d_law_summed : Df := ⟨"_law_summed", ⟨("_law_summed", none), "_law_summed", "_law_summed", defArgs (tp 54), defBody (tp 54), defScope (tp 54), [], []⟩, f_law_summed.fn ["some"] ["some", "found", "one"]⟩
def d_law_below : Df := ⟨"_law_below", ⟨("_law_below", none), "_law_below", "_law_below", defArgs (tp 53), defBody (tp 53), defScope (tp 53), [], []⟩, f_law_below.fn ["one", "other"] ["one", "other"]⟩
def d_law_greater : Df := ⟨"_law_greater", ⟨("_law_greater", none), "_law_greater", "_law_greater", defArgs (tp 55), defBody (tp 55), defScope (tp 55), [], []⟩, f_law_greater.fn ["one", "other"] ["one", "other"]⟩
def d_law_lesser : Df := ⟨"_law_lesser", ⟨("_law_lesser", none), "_law_lesser", "_law_lesser", defArgs (tp 56), defBody (tp 56), defScope (tp 56), [], []⟩, f_law_lesser.fn ["one", "other"] ["one", "other"]⟩
def d_law_times : Df := ⟨"_law_times", ⟨("_law_times", none), "_law_times", "_law_times", defArgs (tp 52), defBody (tp 52), defScope (tp 52), [], []⟩, f_law_times.fn ["one", "other"] ["one", "other"]⟩
def d_law_values : Df := ⟨"_law_values", ⟨("_law_values", none), "_law_values", "_law_values", defArgs (tp 62), defBody (tp 62), defScope (tp 62), [], []⟩, f_law_values.fn ["net", "point"] ["net", "point", "found", "node", "best", "place", "weight"]⟩
def d_law_outs : Df := ⟨"_law_outs", ⟨("_law_outs", none), "_law_outs", "_law_outs", defArgs (tp 63), defBody (tp 63), defScope (tp 63), [], []⟩, f_law_outs.fn ["net", "point"] ["net", "point", "values", "place"]⟩
def d_bends_of : Df := ⟨"bends_of", ⟨("bends_of", none), "bends_of", "bends_of", defArgs (tp 36), defBody (tp 36), defScope (tp 36), [], []⟩, f_bends_of.fn ["net"] ["net", "at", "node"]⟩
def d_bends : Df := ⟨"bends", ⟨("bends", none), "bends", "bends", defArgs (tp 40), defBody (tp 40), defScope (tp 40), [], []⟩, f_bends.fn ["net"] ["net", "at"]⟩
def d_choices_of : Df := ⟨"choices_of", ⟨("choices_of", none), "choices_of", "choices_of", defArgs (tp 37), defBody (tp 37), defScope (tp 37), [], []⟩, f_choices_of.fn ["net", "at"] ["net", "at", "node"]⟩
def d_choices : Df := ⟨"choices", ⟨("choices", none), "choices", "choices", defArgs (tp 41), defBody (tp 41), defScope (tp 41), [], []⟩, f_choices.fn ["net"] ["net", "at"]⟩
def d_law : Df := ⟨"law", ⟨("law", none), "law", "law", defArgs (tp 67), defBody (tp 67), defScope (tp 67), [], []⟩, f_law_2.fn ["script"] ["script", "index", "generator", "net", "turn", "kept", "places", "counts", "point", "told", "values", "outs", "shown", "at"]⟩
def fs : List Df := [d_law_cell, d_law_generator, d_law_hash, d_law_random, d_law_drawn_order, d_law_some_places, d_law_lowest, d_law_fraction, d_law_sum_node, d_law_pick, d_law_net, d_law_bends, d_law_choices, d_law_same, d_is_whole, d_is_place, d_are_outs, d_are_places, d_common_divisor, d_is_fraction, d_is_pair, d_are_pairs, d_is_node, d_are_nodes, d_is_net_by, d_check_net, d_are_fractions, d_is_point_by, d_check_point, d_is_less, d_greater, d_greatest_of, d_lesser, d_least_of, d_lowest, d_plus, d_times, d_node_value, d_values_by, d_values_at, d_outs_by, d_outs_at, d_law_refused_right, d_law_point, d_law_plus, d_law_summed, d_law_below, d_law_greater, d_law_lesser, d_law_times, d_law_values, d_law_outs, d_bends_of, d_bends, d_choices_of, d_choices, d_law]
def ini : IniD := match tp 1 with
  | .ClassDef _ _ _ (st :: _) .. => ⟨"NetError.__init__", defArgs st, defBody st, defScope st⟩
  | _ => ⟨"", ⟨[], [], none, [], [], none, []⟩, [], ⟨.function, [], false, false, []⟩⟩
instance : Has (tabOf fs) "_law_cell" f_law_cell := ⟨_, _, rfl, rfl, rfl⟩
instance : Has (tabOf fs) "_law_generator" f_law_generator := ⟨_, _, rfl, rfl, rfl⟩
instance : Has (tabOf fs) "_law_hash" f_law_hash := ⟨_, _, rfl, rfl, rfl⟩
instance : Has (tabOf fs) "_law_random" f_law_random := ⟨_, _, rfl, rfl, rfl⟩
instance : Has (tabOf fs) "_law_drawn_order" f_law_drawn_order := ⟨_, _, rfl, rfl, rfl⟩
instance : Has (tabOf fs) "_law_some_places" f_law_some_places := ⟨_, _, rfl, rfl, rfl⟩
instance : Has (tabOf fs) "_law_lowest" f_law_lowest := ⟨_, _, rfl, rfl, rfl⟩
instance : Has (tabOf fs) "_law_fraction" f_law_fraction := ⟨_, _, rfl, rfl, rfl⟩
instance : Has (tabOf fs) "_law_sum_node" f_law_sum_node := ⟨_, _, rfl, rfl, rfl⟩
instance : Has (tabOf fs) "_law_pick" f_law_pick := ⟨_, _, rfl, rfl, rfl⟩
instance : Has (tabOf fs) "_law_net" f_law_net := ⟨_, _, rfl, rfl, rfl⟩
instance : Has (tabOf fs) "_law_bends" f_law_bends := ⟨_, _, rfl, rfl, rfl⟩
instance : Has (tabOf fs) "_law_choices" f_law_choices := ⟨_, _, rfl, rfl, rfl⟩
instance : Has (tabOf fs) "_law_same" f_law_same := ⟨_, _, rfl, rfl, rfl⟩
instance : Has (tabOf fs) "is_whole" f_is_whole := ⟨_, _, rfl, rfl, rfl⟩
instance : Has (tabOf fs) "is_place" f_is_place := ⟨_, _, rfl, rfl, rfl⟩
instance : Has (tabOf fs) "are_outs" f_are_outs := ⟨_, _, rfl, rfl, rfl⟩
instance : Has (tabOf fs) "are_places" f_are_places := ⟨_, _, rfl, rfl, rfl⟩
instance : Has (tabOf fs) "common_divisor" f_common_divisor := ⟨_, _, rfl, rfl, rfl⟩
instance : Has (tabOf fs) "is_fraction" f_is_fraction := ⟨_, _, rfl, rfl, rfl⟩
instance : Has (tabOf fs) "is_pair" f_is_pair := ⟨_, _, rfl, rfl, rfl⟩
instance : Has (tabOf fs) "are_pairs" f_are_pairs := ⟨_, _, rfl, rfl, rfl⟩
instance : Has (tabOf fs) "is_node" f_is_node := ⟨_, _, rfl, rfl, rfl⟩
instance : Has (tabOf fs) "are_nodes" f_are_nodes := ⟨_, _, rfl, rfl, rfl⟩
instance : Has (tabOf fs) "is_net_by" f_is_net_by := ⟨_, _, rfl, rfl, rfl⟩
instance : Has (tabOf fs) "check_net" f_check_net := ⟨_, _, rfl, rfl, rfl⟩
instance : Has (tabOf fs) "are_fractions" f_are_fractions := ⟨_, _, rfl, rfl, rfl⟩
instance : Has (tabOf fs) "is_point_by" f_is_point_by := ⟨_, _, rfl, rfl, rfl⟩
instance : Has (tabOf fs) "check_point" f_check_point := ⟨_, _, rfl, rfl, rfl⟩
instance : Has (tabOf fs) "is_less" f_is_less := ⟨_, _, rfl, rfl, rfl⟩
instance : Has (tabOf fs) "greater" f_greater := ⟨_, _, rfl, rfl, rfl⟩
instance : Has (tabOf fs) "greatest_of" f_greatest_of := ⟨_, _, rfl, rfl, rfl⟩
instance : Has (tabOf fs) "lesser" f_lesser := ⟨_, _, rfl, rfl, rfl⟩
instance : Has (tabOf fs) "least_of" f_least_of := ⟨_, _, rfl, rfl, rfl⟩
instance : Has (tabOf fs) "lowest" f_lowest := ⟨_, _, rfl, rfl, rfl⟩
instance : Has (tabOf fs) "plus" f_plus := ⟨_, _, rfl, rfl, rfl⟩
instance : Has (tabOf fs) "times" f_times := ⟨_, _, rfl, rfl, rfl⟩
instance : Has (tabOf fs) "node_value" f_node_value := ⟨_, _, rfl, rfl, rfl⟩
instance : Has (tabOf fs) "values_by" f_values_by := ⟨_, _, rfl, rfl, rfl⟩
instance : Has (tabOf fs) "values_at" f_values_at := ⟨_, _, rfl, rfl, rfl⟩
instance : Has (tabOf fs) "outs_by" f_outs_by := ⟨_, _, rfl, rfl, rfl⟩
instance : Has (tabOf fs) "outs_at" f_outs_at := ⟨_, _, rfl, rfl, rfl⟩
instance : Has (tabOf fs) "_law_refused_right" f_law_refused_right := ⟨_, _, rfl, rfl, rfl⟩
instance : Has (tabOf fs) "_law_point" f_law_point := ⟨_, _, rfl, rfl, rfl⟩
instance : Has (tabOf fs) "_law_plus" f_law_plus := ⟨_, _, rfl, rfl, rfl⟩
instance : Has (tabOf fs) "_law_summed" f_law_summed := ⟨_, _, rfl, rfl, rfl⟩
instance : Has (tabOf fs) "_law_below" f_law_below := ⟨_, _, rfl, rfl, rfl⟩
instance : Has (tabOf fs) "_law_greater" f_law_greater := ⟨_, _, rfl, rfl, rfl⟩
instance : Has (tabOf fs) "_law_lesser" f_law_lesser := ⟨_, _, rfl, rfl, rfl⟩
instance : Has (tabOf fs) "_law_times" f_law_times := ⟨_, _, rfl, rfl, rfl⟩
instance : Has (tabOf fs) "_law_values" f_law_values := ⟨_, _, rfl, rfl, rfl⟩
instance : Has (tabOf fs) "_law_outs" f_law_outs := ⟨_, _, rfl, rfl, rfl⟩
instance : Has (tabOf fs) "bends_of" f_bends_of := ⟨_, _, rfl, rfl, rfl⟩
instance : Has (tabOf fs) "bends" f_bends := ⟨_, _, rfl, rfl, rfl⟩
instance : Has (tabOf fs) "choices_of" f_choices_of := ⟨_, _, rfl, rfl, rfl⟩
instance : Has (tabOf fs) "choices" f_choices := ⟨_, _, rfl, rfl, rfl⟩
instance : Has (tabOf fs) "law" f_law_2 := ⟨_, _, rfl, rfl, rfl⟩
theorem b_law_cell : BindOK cf d_law_cell := by
  intro K a fd F
  refine ⟨FunD.bindsN F fun _ _ _ _ _ _ us hl => match us, hl with | [_, _], _ => rfl, fun ks np perm h => ?_⟩
  exact absurd h (by simp [cf, d_law_cell])
theorem b_law_generator : BindOK cf d_law_generator := by
  intro K a fd F
  refine ⟨FunD.bindsN F fun _ _ _ _ _ _ us hl => match us, hl with | [_, _], _ => rfl, fun ks np perm h => ?_⟩
  exact absurd h (by simp [cf, d_law_generator])
theorem b_law_hash : BindOK cf d_law_hash := by
  intro K a fd F
  refine ⟨FunD.bindsN F fun _ _ _ _ _ _ us hl => match us, hl with | [_, _], _ => rfl, fun ks np perm h => ?_⟩
  exact absurd h (by simp [cf, d_law_hash])
theorem b_law_random : BindOK cf d_law_random := by
  intro K a fd F
  refine ⟨FunD.bindsN F fun _ _ _ _ _ _ us hl => match us, hl with | [_, _], _ => rfl, fun ks np perm h => ?_⟩
  exact absurd h (by simp [cf, d_law_random])
theorem b_law_drawn_order : BindOK cf d_law_drawn_order := by
  intro K a fd F
  refine ⟨FunD.bindsN F fun _ _ _ _ _ _ us hl => match us, hl with | [_, _], _ => rfl, fun ks np perm h => ?_⟩
  exact absurd h (by simp [cf, d_law_drawn_order])
theorem b_law_some_places : BindOK cf d_law_some_places := by
  intro K a fd F
  refine ⟨FunD.bindsN F fun _ _ _ _ _ _ us hl => match us, hl with | [_, _, _], _ => rfl, fun ks np perm h => ?_⟩
  exact absurd h (by simp [cf, d_law_some_places])
theorem b_law_lowest : BindOK cf d_law_lowest := by
  intro K a fd F
  refine ⟨FunD.bindsN F fun _ _ _ _ _ _ us hl => match us, hl with | [_, _], _ => rfl, fun ks np perm h => ?_⟩
  exact absurd h (by simp [cf, d_law_lowest])
theorem b_law_fraction : BindOK cf d_law_fraction := by
  intro K a fd F
  refine ⟨FunD.bindsN F fun _ _ _ _ _ _ us hl => match us, hl with | [_, _], _ => rfl, fun ks np perm h => ?_⟩
  exact absurd h (by simp [cf, d_law_fraction])
theorem b_law_sum_node : BindOK cf d_law_sum_node := by
  intro K a fd F
  refine ⟨FunD.bindsN F fun _ _ _ _ _ _ us hl => match us, hl with | [_, _], _ => rfl, fun ks np perm h => ?_⟩
  exact absurd h (by simp [cf, d_law_sum_node])
theorem b_law_pick : BindOK cf d_law_pick := by
  intro K a fd F
  refine ⟨FunD.bindsN F fun _ _ _ _ _ _ us hl => match us, hl with | [_, _], _ => rfl, fun ks np perm h => ?_⟩
  exact absurd h (by simp [cf, d_law_pick])
theorem b_law_net : BindOK cf d_law_net := by
  intro K a fd F
  refine ⟨FunD.bindsN F fun _ _ _ _ _ _ us hl => match us, hl with | [_, _, _, _], _ => rfl, fun ks np perm h => ?_⟩
  exact absurd h (by simp [cf, d_law_net])
theorem b_law_bends : BindOK cf d_law_bends := by
  intro K a fd F
  refine ⟨FunD.bindsN F fun _ _ _ _ _ _ us hl => match us, hl with | [_], _ => rfl, fun ks np perm h => ?_⟩
  exact absurd h (by simp [cf, d_law_bends])
theorem b_law_choices : BindOK cf d_law_choices := by
  intro K a fd F
  refine ⟨FunD.bindsN F fun _ _ _ _ _ _ us hl => match us, hl with | [_], _ => rfl, fun ks np perm h => ?_⟩
  exact absurd h (by simp [cf, d_law_choices])
theorem b_law_same : BindOK cf d_law_same := by
  intro K a fd F
  refine ⟨FunD.bindsN F fun _ _ _ _ _ _ us hl => match us, hl with | [_, _], _ => rfl, fun ks np perm h => ?_⟩
  exact absurd h (by simp [cf, d_law_same])
theorem b_is_whole : BindOK cf d_is_whole := by
  intro K a fd F
  refine ⟨FunD.bindsN F fun _ _ _ _ _ _ us hl => match us, hl with | [_], _ => rfl, fun ks np perm h => ?_⟩
  exact absurd h (by simp [cf, d_is_whole])
theorem b_is_place : BindOK cf d_is_place := by
  intro K a fd F
  refine ⟨FunD.bindsN F fun _ _ _ _ _ _ us hl => match us, hl with | [_, _], _ => rfl, fun ks np perm h => ?_⟩
  exact absurd h (by simp [cf, d_is_place])
theorem b_are_outs : BindOK cf d_are_outs := by
  intro K a fd F
  refine ⟨FunD.bindsN F fun _ _ _ _ _ _ us hl => match us, hl with | [_, _], _ => rfl, fun ks np perm h => ?_⟩
  exact absurd h (by simp [cf, d_are_outs])
theorem b_are_places : BindOK cf d_are_places := by
  intro K a fd F
  refine ⟨FunD.bindsN F fun _ _ _ _ _ _ us hl => match us, hl with | [_, _], _ => rfl, fun ks np perm h => ?_⟩
  exact absurd h (by simp [cf, d_are_places])
theorem b_common_divisor : BindOK cf d_common_divisor := by
  intro K a fd F
  refine ⟨FunD.bindsN F fun _ _ _ _ _ _ us hl => match us, hl with | [_, _], _ => rfl, fun ks np perm h => ?_⟩
  exact absurd h (by simp [cf, d_common_divisor])
theorem b_is_fraction : BindOK cf d_is_fraction := by
  intro K a fd F
  refine ⟨FunD.bindsN F fun _ _ _ _ _ _ us hl => match us, hl with | [_], _ => rfl, fun ks np perm h => ?_⟩
  exact absurd h (by simp [cf, d_is_fraction])
theorem b_is_pair : BindOK cf d_is_pair := by
  intro K a fd F
  refine ⟨FunD.bindsN F fun _ _ _ _ _ _ us hl => match us, hl with | [_, _], _ => rfl, fun ks np perm h => ?_⟩
  exact absurd h (by simp [cf, d_is_pair])
theorem b_are_pairs : BindOK cf d_are_pairs := by
  intro K a fd F
  refine ⟨FunD.bindsN F fun _ _ _ _ _ _ us hl => match us, hl with | [_, _], _ => rfl, fun ks np perm h => ?_⟩
  exact absurd h (by simp [cf, d_are_pairs])
theorem b_is_node : BindOK cf d_is_node := by
  intro K a fd F
  refine ⟨FunD.bindsN F fun _ _ _ _ _ _ us hl => match us, hl with | [_, _], _ => rfl, fun ks np perm h => ?_⟩
  exact absurd h (by simp [cf, d_is_node])
theorem b_are_nodes : BindOK cf d_are_nodes := by
  intro K a fd F
  refine ⟨FunD.bindsN F fun _ _ _ _ _ _ us hl => match us, hl with | [_, _], _ => rfl, fun ks np perm h => ?_⟩
  exact absurd h (by simp [cf, d_are_nodes])
theorem b_is_net_by : BindOK cf d_is_net_by := by
  intro K a fd F
  refine ⟨FunD.bindsN F fun _ _ _ _ _ _ us hl => match us, hl with | [_], _ => rfl, fun ks np perm h => ?_⟩
  exact absurd h (by simp [cf, d_is_net_by])
theorem b_check_net : BindOK cf d_check_net := by
  intro K a fd F
  refine ⟨FunD.bindsN F fun _ _ _ _ _ _ us hl => match us, hl with | [_], _ => rfl, fun ks np perm h => ?_⟩
  exact absurd h (by simp [cf, d_check_net])
theorem b_are_fractions : BindOK cf d_are_fractions := by
  intro K a fd F
  refine ⟨FunD.bindsN F fun _ _ _ _ _ _ us hl => match us, hl with | [_, _], _ => rfl, fun ks np perm h => ?_⟩
  exact absurd h (by simp [cf, d_are_fractions])
theorem b_is_point_by : BindOK cf d_is_point_by := by
  intro K a fd F
  refine ⟨FunD.bindsN F fun _ _ _ _ _ _ us hl => match us, hl with | [_, _], _ => rfl, fun ks np perm h => ?_⟩
  exact absurd h (by simp [cf, d_is_point_by])
theorem b_check_point : BindOK cf d_check_point := by
  intro K a fd F
  refine ⟨FunD.bindsN F fun _ _ _ _ _ _ us hl => match us, hl with | [_, _], _ => rfl, fun ks np perm h => ?_⟩
  exact absurd h (by simp [cf, d_check_point])
theorem b_is_less : BindOK cf d_is_less := by
  intro K a fd F
  refine ⟨FunD.bindsN F fun _ _ _ _ _ _ us hl => match us, hl with | [_, _], _ => rfl, fun ks np perm h => ?_⟩
  exact absurd h (by simp [cf, d_is_less])
theorem b_greater : BindOK cf d_greater := by
  intro K a fd F
  refine ⟨FunD.bindsN F fun _ _ _ _ _ _ us hl => match us, hl with | [_, _], _ => rfl, fun ks np perm h => ?_⟩
  exact absurd h (by simp [cf, d_greater])
theorem b_greatest_of : BindOK cf d_greatest_of := by
  intro K a fd F
  refine ⟨FunD.bindsN F fun _ _ _ _ _ _ us hl => match us, hl with | [_], _ => rfl, fun ks np perm h => ?_⟩
  exact absurd h (by simp [cf, d_greatest_of])
theorem b_lesser : BindOK cf d_lesser := by
  intro K a fd F
  refine ⟨FunD.bindsN F fun _ _ _ _ _ _ us hl => match us, hl with | [_, _], _ => rfl, fun ks np perm h => ?_⟩
  exact absurd h (by simp [cf, d_lesser])
theorem b_least_of : BindOK cf d_least_of := by
  intro K a fd F
  refine ⟨FunD.bindsN F fun _ _ _ _ _ _ us hl => match us, hl with | [_], _ => rfl, fun ks np perm h => ?_⟩
  exact absurd h (by simp [cf, d_least_of])
theorem b_lowest : BindOK cf d_lowest := by
  intro K a fd F
  refine ⟨FunD.bindsN F fun _ _ _ _ _ _ us hl => match us, hl with | [_, _], _ => rfl, fun ks np perm h => ?_⟩
  exact absurd h (by simp [cf, d_lowest])
theorem b_plus : BindOK cf d_plus := by
  intro K a fd F
  refine ⟨FunD.bindsN F fun _ _ _ _ _ _ us hl => match us, hl with | [_, _], _ => rfl, fun ks np perm h => ?_⟩
  exact absurd h (by simp [cf, d_plus])
theorem b_times : BindOK cf d_times := by
  intro K a fd F
  refine ⟨FunD.bindsN F fun _ _ _ _ _ _ us hl => match us, hl with | [_, _], _ => rfl, fun ks np perm h => ?_⟩
  exact absurd h (by simp [cf, d_times])
theorem b_node_value : BindOK cf d_node_value := by
  intro K a fd F
  refine ⟨FunD.bindsN F fun _ _ _ _ _ _ us hl => match us, hl with | [_, _], _ => rfl, fun ks np perm h => ?_⟩
  exact absurd h (by simp [cf, d_node_value])
theorem b_values_by : BindOK cf d_values_by := by
  intro K a fd F
  refine ⟨FunD.bindsN F fun _ _ _ _ _ _ us hl => match us, hl with | [_, _], _ => rfl, fun ks np perm h => ?_⟩
  exact absurd h (by simp [cf, d_values_by])
theorem b_values_at : BindOK cf d_values_at := by
  intro K a fd F
  refine ⟨FunD.bindsN F fun _ _ _ _ _ _ us hl => match us, hl with | [_, _], _ => rfl, fun ks np perm h => ?_⟩
  simp [cf, d_values_at] at h
  rcases h with ⟨rfl, rfl, rfl⟩
  · exact kb_of F fun _ _ _ _ _ _ us ws h1 h2 => match us, h1, ws, h2 with | [], _, [_, _], _ => rfl
theorem b_outs_by : BindOK cf d_outs_by := by
  intro K a fd F
  refine ⟨FunD.bindsN F fun _ _ _ _ _ _ us hl => match us, hl with | [_, _], _ => rfl, fun ks np perm h => ?_⟩
  exact absurd h (by simp [cf, d_outs_by])
theorem b_outs_at : BindOK cf d_outs_at := by
  intro K a fd F
  refine ⟨FunD.bindsN F fun _ _ _ _ _ _ us hl => match us, hl with | [_, _], _ => rfl, fun ks np perm h => ?_⟩
  simp [cf, d_outs_at] at h
  rcases h with ⟨rfl, rfl, rfl⟩
  · exact kb_of F fun _ _ _ _ _ _ us ws h1 h2 => match us, h1, ws, h2 with | [], _, [_, _], _ => rfl
theorem b_law_refused_right : BindOK cf d_law_refused_right := by
  intro K a fd F
  refine ⟨FunD.bindsN F fun _ _ _ _ _ _ us hl => match us, hl with | [_, _], _ => rfl, fun ks np perm h => ?_⟩
  exact absurd h (by simp [cf, d_law_refused_right])
theorem b_law_point : BindOK cf d_law_point := by
  intro K a fd F
  refine ⟨FunD.bindsN F fun _ _ _ _ _ _ us hl => match us, hl with | [_, _, _], _ => rfl, fun ks np perm h => ?_⟩
  exact absurd h (by simp [cf, d_law_point])
theorem b_law_plus : BindOK cf d_law_plus := by
  intro K a fd F
  refine ⟨FunD.bindsN F fun _ _ _ _ _ _ us hl => match us, hl with | [_, _], _ => rfl, fun ks np perm h => ?_⟩
  exact absurd h (by simp [cf, d_law_plus])
theorem b_law_summed : BindOK cf d_law_summed := by
  intro K a fd F
  refine ⟨FunD.bindsN F fun _ _ _ _ _ _ us hl => match us, hl with | [_], _ => rfl, fun ks np perm h => ?_⟩
  exact absurd h (by simp [cf, d_law_summed])
theorem b_law_below : BindOK cf d_law_below := by
  intro K a fd F
  refine ⟨FunD.bindsN F fun _ _ _ _ _ _ us hl => match us, hl with | [_, _], _ => rfl, fun ks np perm h => ?_⟩
  exact absurd h (by simp [cf, d_law_below])
theorem b_law_greater : BindOK cf d_law_greater := by
  intro K a fd F
  refine ⟨FunD.bindsN F fun _ _ _ _ _ _ us hl => match us, hl with | [_, _], _ => rfl, fun ks np perm h => ?_⟩
  exact absurd h (by simp [cf, d_law_greater])
theorem b_law_lesser : BindOK cf d_law_lesser := by
  intro K a fd F
  refine ⟨FunD.bindsN F fun _ _ _ _ _ _ us hl => match us, hl with | [_, _], _ => rfl, fun ks np perm h => ?_⟩
  exact absurd h (by simp [cf, d_law_lesser])
theorem b_law_times : BindOK cf d_law_times := by
  intro K a fd F
  refine ⟨FunD.bindsN F fun _ _ _ _ _ _ us hl => match us, hl with | [_, _], _ => rfl, fun ks np perm h => ?_⟩
  exact absurd h (by simp [cf, d_law_times])
theorem b_law_values : BindOK cf d_law_values := by
  intro K a fd F
  refine ⟨FunD.bindsN F fun _ _ _ _ _ _ us hl => match us, hl with | [_, _], _ => rfl, fun ks np perm h => ?_⟩
  exact absurd h (by simp [cf, d_law_values])
theorem b_law_outs : BindOK cf d_law_outs := by
  intro K a fd F
  refine ⟨FunD.bindsN F fun _ _ _ _ _ _ us hl => match us, hl with | [_, _], _ => rfl, fun ks np perm h => ?_⟩
  exact absurd h (by simp [cf, d_law_outs])
theorem b_bends_of : BindOK cf d_bends_of := by
  intro K a fd F
  refine ⟨FunD.bindsN F fun _ _ _ _ _ _ us hl => match us, hl with | [_], _ => rfl, fun ks np perm h => ?_⟩
  exact absurd h (by simp [cf, d_bends_of])
theorem b_bends : BindOK cf d_bends := by
  intro K a fd F
  refine ⟨FunD.bindsN F fun _ _ _ _ _ _ us hl => match us, hl with | [_], _ => rfl, fun ks np perm h => ?_⟩
  simp [cf, d_bends] at h
  rcases h with ⟨rfl, rfl, rfl⟩
  · exact kb_of F fun _ _ _ _ _ _ us ws h1 h2 => match us, h1, ws, h2 with | [], _, [_], _ => rfl
theorem b_choices_of : BindOK cf d_choices_of := by
  intro K a fd F
  refine ⟨FunD.bindsN F fun _ _ _ _ _ _ us hl => match us, hl with | [_, _], _ => rfl, fun ks np perm h => ?_⟩
  exact absurd h (by simp [cf, d_choices_of])
theorem b_choices : BindOK cf d_choices := by
  intro K a fd F
  refine ⟨FunD.bindsN F fun _ _ _ _ _ _ us hl => match us, hl with | [_], _ => rfl, fun ks np perm h => ?_⟩
  simp [cf, d_choices] at h
  rcases h with ⟨rfl, rfl, rfl⟩
  · exact kb_of F fun _ _ _ _ _ _ us ws h1 h2 => match us, h1, ws, h2 with | [], _, [_], _ => rfl
theorem b_law : BindOK cf d_law := by
  intro K a fd F
  refine ⟨FunD.bindsN F fun _ _ _ _ _ _ us hl => match us, hl with | [_], _ => rfl, fun ks np perm h => ?_⟩
  exact absurd h (by simp [cf, d_law])
theorem b_all : ∀ f ∈ fs, BindOK cf f := by
  intro f hf
  simp only [fs, List.mem_cons, List.not_mem_nil, or_false] at hf
  rcases hf with rfl | rfl | rfl | rfl | rfl | rfl | rfl | rfl | rfl | rfl | rfl | rfl | rfl | rfl | rfl | rfl | rfl | rfl | rfl | rfl | rfl | rfl | rfl | rfl | rfl | rfl | rfl | rfl | rfl | rfl | rfl | rfl | rfl | rfl | rfl | rfl | rfl | rfl | rfl | rfl | rfl | rfl | rfl | rfl | rfl | rfl | rfl | rfl | rfl | rfl | rfl | rfl | rfl | rfl | rfl | rfl | rfl
  · exact b_law_cell
  · exact b_law_generator
  · exact b_law_hash
  · exact b_law_random
  · exact b_law_drawn_order
  · exact b_law_some_places
  · exact b_law_lowest
  · exact b_law_fraction
  · exact b_law_sum_node
  · exact b_law_pick
  · exact b_law_net
  · exact b_law_bends
  · exact b_law_choices
  · exact b_law_same
  · exact b_is_whole
  · exact b_is_place
  · exact b_are_outs
  · exact b_are_places
  · exact b_common_divisor
  · exact b_is_fraction
  · exact b_is_pair
  · exact b_are_pairs
  · exact b_is_node
  · exact b_are_nodes
  · exact b_is_net_by
  · exact b_check_net
  · exact b_are_fractions
  · exact b_is_point_by
  · exact b_check_point
  · exact b_is_less
  · exact b_greater
  · exact b_greatest_of
  · exact b_lesser
  · exact b_least_of
  · exact b_lowest
  · exact b_plus
  · exact b_times
  · exact b_node_value
  · exact b_values_by
  · exact b_values_at
  · exact b_outs_by
  · exact b_outs_at
  · exact b_law_refused_right
  · exact b_law_point
  · exact b_law_plus
  · exact b_law_summed
  · exact b_law_below
  · exact b_law_greater
  · exact b_law_lesser
  · exact b_law_times
  · exact b_law_values
  · exact b_law_outs
  · exact b_bends_of
  · exact b_bends
  · exact b_choices_of
  · exact b_choices
  · exact b_law
theorem cf_ok : cfB cf fs = true := by decide +kernel
end K

set_option maxHeartbeats 0
set_option synthInstance.maxSize 128
set_option synthInstance.maxHeartbeats 20000
namespace K
open PySem PySem.Spec PyProof.Rows L2 VI He
abbrev LW : PySem.W.OpenLaw := PySem.Challenge.rw_wishkept_k02_whole_values_of_nets
abbrev RW0 : PySem.W.OpenRow := PySem.W.OpenLaw.row LW
def ns0 : List PySem.Str := ["NetError", "InvalidNet", "InvalidPoint", "is_whole", "common_divisor", "lowest", "is_fraction", "are_fractions", "plus", "times", "is_less", "greater", "lesser", "MOST_INPUTS", "MOST_NODES", "MOST_OUTS", "MOST_CHOICES", "is_place", "are_places", "is_pair", "are_pairs", "is_node", "are_nodes", "are_outs", "is_net_by", "check_net", "is_point_by", "check_point", "greatest_of", "least_of"]
def ns1 : List PySem.Str := ["node_value", "values_by", "outs_by", "bends_of", "choices_of", "values_at", "outs_at", "bends", "choices", "_law_hash", "_law_random", "_law_cell", "_law_generator", "_law_pick", "_law_drawn_order", "_law_same", "_law_lowest", "_law_plus", "_law_times", "_law_below", "_law_summed", "_law_greater", "_law_lesser", "_law_fraction", "_law_some_places", "_law_sum_node", "_law_net", "_law_point", "_law_values", "_law_outs"]
def ns2 : List PySem.Str := ["_law_bends", "_law_choices", "_law_refused_right"]
def loose : List PySem.Str := ns0 ++ ns1 ++ ns2
def chk : PySem.W.Frag → Bool := chkV cf fs "/claim/cut.py" "NetError"
abbrev hk : PySem.W.Hook := hookV 5 chk (fs.map (·.d)) "NetError" ini.val
def ob (s : PySem.W.SharedT) : AlV := obsVG 5 chk (fs.map (·.d)) "NetError" (HandSHeadRun.getT s)
theorem ob_eq (s : PySem.W.SharedT) : ob s = hk.obs s.abs := obsVG_eq (HandSHeadRun.getT_eq s)
theorem run (w : World) : HandSHeadRun.RunEq RW0 (PySem.W.view RW0.prog [67]) hk ob 20000 loose w := by
  intro os
  kernel_rfl
end K

namespace VI
open PySem L2
set_option maxHeartbeats 4000000
set_option synthInstance.maxSize 128
set_option synthInstance.maxHeartbeats 20000
section
variable {Γ : Gam} {up : String → String → Bool} {ρ : VI.Env}
/-! ### evaluation by equations -/
theorem bindR_congr {x x' : Option R} {k : D → VI.Env → Option R} (h : x = x') : bindR x k = bindR x' k := by rw [h]
theorem bindS_congr {x x' : Option R} {k : D → VI.Env → Option SR} (h : x = x') : bindS x k = bindS x' k := by rw [h]
theorem obind_congr {α β : Type} {x x' : Option α} {k : α → Option β} (h : x = x') : x.bind k = x'.bind k := by rw [h]
theorem omap_congr {α β : Type} {x x' : Option α} {k : α → β} (h : x = x') : x.map k = x'.map k := by rw [h]
theorem after_congr {b b' : Bool} {x x' : Option CR'} {k : D → D → Option R} {ρ : VI.Env} (h : b = b') (h2 : x = x') : afterCall b x k ρ = afterCall b' x' k ρ := by rw [h, h2]
theorem bindR_ok (d : D) (ρ : VI.Env) (k : D → VI.Env → Option R) : bindR (some (.ok d ρ)) k = k d ρ := rfl
theorem bindR_ex (c : String) (d : D) (ρ : VI.Env) (k : D → VI.Env → Option R) : bindR (some (.ex c d ρ)) k = some (.ex c d ρ) := rfl
theorem bindS_ok (d : D) (ρ : VI.Env) (k : D → VI.Env → Option SR) : bindS (some (.ok d ρ)) k = k d ρ := rfl
theorem bindS_ex (c : String) (d : D) (ρ : VI.Env) (k : D → VI.Env → Option SR) : bindS (some (.ex c d ρ)) k = some (.ex c d ρ) := rfl
theorem afterCall_ok (imp : Bool) (d io : D) (k : D → D → Option R) (ρ : VI.Env) : afterCall imp (some (.ok d io)) k ρ = if imp && !(d.nosh && io.nosh) then none else k d io := rfl
theorem afterCall_ex (imp : Bool) (c : String) (d : D) (k : D → D → Option R) (ρ : VI.Env) : afterCall imp (some (.ex c d)) k ρ = if imp && !d.nosh then none else some (.ex c d ρ) := rfl

theorem slot_0 (a : Option D) (q : VI.Env) : slot (a :: q) 0 = a := by cases a <;> rfl
theorem slot_1 (a b : Option D) (q : VI.Env) : slot (a :: b :: q) 1 = b := by cases b <;> rfl
theorem slot_2 (a b c : Option D) (q : VI.Env) : slot (a :: b :: c :: q) 2 = c := by cases c <;> rfl
theorem slot_3 (a b c d : Option D) (q : VI.Env) : slot (a :: b :: c :: d :: q) 3 = d := by cases d <;> rfl
theorem slot_4 (a b c d e : Option D) (q : VI.Env) : slot (a :: b :: c :: d :: e :: q) 4 = e := by cases e <;> rfl
theorem slot_5 (a b c d e f : Option D) (q : VI.Env) : slot (a :: b :: c :: d :: e :: f :: q) 5 = f := by cases f <;> rfl
theorem slot_6 (a b c d e f g : Option D) (q : VI.Env) : slot (a :: b :: c :: d :: e :: f :: g :: q) 6 = g := by cases g <;> rfl
theorem slot_7 (a b c d e f g h : Option D) (q : VI.Env) : slot (a :: b :: c :: d :: e :: f :: g :: h :: q) 7 = h := by cases h <;> rfl
theorem slot_8 (a b c d e f g h i : Option D) (q : VI.Env) : slot (a :: b :: c :: d :: e :: f :: g :: h :: i :: q) 8 = i := by cases i <;> rfl
theorem slot_9 (a b c d e f g h i j : Option D) (q : VI.Env) : slot (a :: b :: c :: d :: e :: f :: g :: h :: i :: j :: q) 9 = j := by cases j <;> rfl
theorem slot_10 (a b c d e f g h i j k : Option D) (q : VI.Env) : slot (a :: b :: c :: d :: e :: f :: g :: h :: i :: j :: k :: q) 10 = k := by cases k <;> rfl
theorem slot_11 (a b c d e f g h i j k l : Option D) (q : VI.Env) : slot (a :: b :: c :: d :: e :: f :: g :: h :: i :: j :: k :: l :: q) 11 = l := by cases l <;> rfl
theorem set_0 (a z : Option D) (q : VI.Env) : List.set (a :: q) 0 z = z :: q := rfl
theorem set_1 (a b z : Option D) (q : VI.Env) : List.set (a :: b :: q) 1 z = a :: z :: q := rfl
theorem set_2 (a b c z : Option D) (q : VI.Env) : List.set (a :: b :: c :: q) 2 z = a :: b :: z :: q := rfl
theorem set_3 (a b c d z : Option D) (q : VI.Env) : List.set (a :: b :: c :: d :: q) 3 z = a :: b :: c :: z :: q := rfl
theorem set_4 (a b c d e z : Option D) (q : VI.Env) : List.set (a :: b :: c :: d :: e :: q) 4 z = a :: b :: c :: d :: z :: q := rfl
theorem set_5 (a b c d e f z : Option D) (q : VI.Env) : List.set (a :: b :: c :: d :: e :: f :: q) 5 z = a :: b :: c :: d :: e :: z :: q := rfl
theorem set_6 (a b c d e f g z : Option D) (q : VI.Env) : List.set (a :: b :: c :: d :: e :: f :: g :: q) 6 z = a :: b :: c :: d :: e :: f :: z :: q := rfl
theorem set_7 (a b c d e f g h z : Option D) (q : VI.Env) : List.set (a :: b :: c :: d :: e :: f :: g :: h :: q) 7 z = a :: b :: c :: d :: e :: f :: g :: z :: q := rfl
theorem set_8 (a b c d e f g h i z : Option D) (q : VI.Env) : List.set (a :: b :: c :: d :: e :: f :: g :: h :: i :: q) 8 z = a :: b :: c :: d :: e :: f :: g :: h :: z :: q := rfl
theorem set_9 (a b c d e f g h i j z : Option D) (q : VI.Env) : List.set (a :: b :: c :: d :: e :: f :: g :: h :: i :: j :: q) 9 z = a :: b :: c :: d :: e :: f :: g :: h :: i :: z :: q := rfl
theorem set_10 (a b c d e f g h i j k z : Option D) (q : VI.Env) : List.set (a :: b :: c :: d :: e :: f :: g :: h :: i :: j :: k :: q) 10 z = a :: b :: c :: d :: e :: f :: g :: h :: i :: j :: z :: q := rfl
theorem set_11 (a b c d e f g h i j k l z : Option D) (q : VI.Env) : List.set (a :: b :: c :: d :: e :: f :: g :: h :: i :: j :: k :: l :: q) 11 z = a :: b :: c :: d :: e :: f :: g :: h :: i :: j :: k :: z :: q := rfl
def finO (io : Bool) (d : D) (ρ : VI.Env) : Option CR' := if io then (match slot ρ 0 with
    | some (.lst true xs) => some (.ok d (.lst true xs))
    | _ => none) else some (.ok d .non)
def outR (io : Bool) (x : Option SR) : Option CR' := match x with
  | some (.nx ρ) => finO io .non ρ
  | some (.rt d ρ) => finO io d ρ
  | some (.ex c d _) => some (.ex c d)
  | _ => none
theorem runFn_out (f : Fn) (ds : List D) (h : ds.length = f.ps.length) : runFn Γ up f ds = outR f.io (evS Γ up f.body (ds.map some ++ List.replicate (f.N.length - ds.length) none)) := by
  unfold runFn
  rw [if_pos h]; rfl
theorem outR_rt (io : Bool) (d : D) (ρ : VI.Env) : outR io (some (.rt d ρ)) = finO io d ρ := rfl
theorem outR_nx (io : Bool) (ρ : VI.Env) : outR io (some (.nx ρ)) = finO io .non ρ := rfl
theorem outR_ex (io : Bool) (c : String) (d : D) (ρ : VI.Env) : outR io (some (.ex c d ρ)) = some (.ex c d) := rfl
theorem finO_f (d : D) (ρ : VI.Env) : finO false d ρ = some (.ok d .non) := rfl
theorem finO_t (d : D) (xs : List D) (ρ : VI.Env) : finO true d (some (.lst true xs) :: ρ) = some (.ok d (.lst true xs)) := rfl
theorem truth_bl (b : Bool) : truth (.bl b) = some b := rfl
theorem truth_int (i : Int) : truth (.int i) = some (i != 0) := rfl
theorem truth_tup (xs : List D) : truth (.tup xs) = some (!xs.isEmpty) := rfl
theorem truth_lst (b : Bool) (xs : List D) : truth (.lst b xs) = some (!xs.isEmpty) := rfl
theorem truth_non : truth .non = some false := rfl
theorem cmp_lt (i j : Int) : cmpD .Lt (.int i) (.int j) = some (decide (i < j)) := rfl
theorem cmp_le (i j : Int) : cmpD .LtE (.int i) (.int j) = some (decide (i ≤ j)) := rfl
theorem cmp_gt (i j : Int) : cmpD .Gt (.int i) (.int j) = some (decide (j < i)) := rfl
theorem cmp_ge (i j : Int) : cmpD .GtE (.int i) (.int j) = some (decide (j ≤ i)) := rfl
theorem cmp_eq (x y : D) : cmpD .Eq x y = eqD x y := rfl
theorem cmp_ne (x y : D) : cmpD .NotEq x y = (eqD x y).map (!·) := rfl
theorem cmp_in (x y : D) : cmpD .In x y = inD x y := rfl
theorem cmp_notin (x y : D) : cmpD .NotIn x y = (inD x y).map (!·) := rfl
theorem cmp_is (x y : D) : cmpD .Is x y = isD x y := rfl
theorem cmp_isnot (x y : D) : cmpD .IsNot x y = (isD x y).map (!·) := rfl
theorem bin_add (i j : Int) : binD .Add (.int i) (.int j) = some (.int (i + j)) := rfl
theorem bin_sub (i j : Int) : binD .Sub (.int i) (.int j) = some (.int (i - j)) := rfl
theorem bi_len_t (xs : List D) : biD .len [.tup xs] = some (.int xs.length) := rfl
theorem bi_len_l (b : Bool) (xs : List D) : biD .len [.lst b xs] = some (.int xs.length) := rfl
theorem bi_len_s (ns : List Int) : biD .len [.scr ns] = some (.int ns.length) := rfl
theorem bi_int_i (i : Int) : biD .int [.int i] = some (.int i) := rfl
theorem bi_int_b (b : Bool) : biD .int [.bl b] = some (.int (if b then 1 else 0)) := rfl
theorem bi_abs (i : Int) : biD .abs [.int i] = some (.int (if i < 0 then -i else i)) := rfl
theorem bi_max2 (i j : Int) : biD .max2 [.int i, .int j] = some (.int (if j > i then j else i)) := rfl
theorem bi_min2 (i j : Int) : biD .min2 [.int i, .int j] = some (.int (if j < i then j else i)) := rfl
theorem bin_mul {i j : Int} (h : i.natAbs.log2 + j.natAbs.log2 < 1000000) : binD .Mult (.int i) (.int j) = some (.int (i * j)) := if_pos h
theorem bin_fdiv {i j : Int} (h : 0 < j) (h2 : j.natAbs.log2 < 9000) : binD .FloorDiv (.int i) (.int j) = some (.int (i / j)) := if_pos ⟨h, h2⟩
theorem bin_mod {i j : Int} (h : 0 < j) : binD .Mod (.int i) (.int j) = some (.int (i % j)) := if_pos h
theorem le_0  : ([] : List D).length ≤ sizeLine := by rw [sizeLine_eq]; show 0 ≤ 16777216; decide
theorem le_1 (x0 : D) : ([x0] : List D).length ≤ sizeLine := by rw [sizeLine_eq]; show 1 ≤ 16777216; decide
theorem le_2 (x0 x1 : D) : ([x0, x1] : List D).length ≤ sizeLine := by rw [sizeLine_eq]; show 2 ≤ 16777216; decide
theorem le_3 (x0 x1 x2 : D) : ([x0, x1, x2] : List D).length ≤ sizeLine := by rw [sizeLine_eq]; show 3 ≤ 16777216; decide
theorem le_4 (x0 x1 x2 x3 : D) : ([x0, x1, x2, x3] : List D).length ≤ sizeLine := by rw [sizeLine_eq]; show 4 ≤ 16777216; decide
theorem le_5 (x0 x1 x2 x3 x4 : D) : ([x0, x1, x2, x3, x4] : List D).length ≤ sizeLine := by rw [sizeLine_eq]; show 5 ≤ 16777216; decide
theorem le_6 (x0 x1 x2 x3 x4 x5 : D) : ([x0, x1, x2, x3, x4, x5] : List D).length ≤ sizeLine := by rw [sizeLine_eq]; show 6 ≤ 16777216; decide
theorem le_7 (x0 x1 x2 x3 x4 x5 x6 : D) : ([x0, x1, x2, x3, x4, x5, x6] : List D).length ≤ sizeLine := by rw [sizeLine_eq]; show 7 ≤ 16777216; decide
theorem le_8 (x0 x1 x2 x3 x4 x5 x6 x7 : D) : ([x0, x1, x2, x3, x4, x5, x6, x7] : List D).length ≤ sizeLine := by rw [sizeLine_eq]; show 8 ≤ 16777216; decide
theorem le_9 (x0 x1 x2 x3 x4 x5 x6 x7 x8 : D) : ([x0, x1, x2, x3, x4, x5, x6, x7, x8] : List D).length ≤ sizeLine := by rw [sizeLine_eq]; show 9 ≤ 16777216; decide
theorem le_10 (x0 x1 x2 x3 x4 x5 x6 x7 x8 x9 : D) : ([x0, x1, x2, x3, x4, x5, x6, x7, x8, x9] : List D).length ≤ sizeLine := by rw [sizeLine_eq]; show 10 ≤ 16777216; decide
theorem le_11 (x0 x1 x2 x3 x4 x5 x6 x7 x8 x9 x10 : D) : ([x0, x1, x2, x3, x4, x5, x6, x7, x8, x9, x10] : List D).length ≤ sizeLine := by rw [sizeLine_eq]; show 11 ≤ 16777216; decide
theorem le_12 (x0 x1 x2 x3 x4 x5 x6 x7 x8 x9 x10 x11 : D) : ([x0, x1, x2, x3, x4, x5, x6, x7, x8, x9, x10, x11] : List D).length ≤ sizeLine := by rw [sizeLine_eq]; show 12 ≤ 16777216; decide
theorem le_13 (x0 x1 x2 x3 x4 x5 x6 x7 x8 x9 x10 x11 x12 : D) : ([x0, x1, x2, x3, x4, x5, x6, x7, x8, x9, x10, x11, x12] : List D).length ≤ sizeLine := by rw [sizeLine_eq]; show 13 ≤ 16777216; decide
theorem le_14 (x0 x1 x2 x3 x4 x5 x6 x7 x8 x9 x10 x11 x12 x13 : D) : ([x0, x1, x2, x3, x4, x5, x6, x7, x8, x9, x10, x11, x12, x13] : List D).length ≤ sizeLine := by rw [sizeLine_eq]; show 14 ≤ 16777216; decide
theorem le_15 (x0 x1 x2 x3 x4 x5 x6 x7 x8 x9 x10 x11 x12 x13 x14 : D) : ([x0, x1, x2, x3, x4, x5, x6, x7, x8, x9, x10, x11, x12, x13, x14] : List D).length ≤ sizeLine := by rw [sizeLine_eq]; show 15 ≤ 16777216; decide
theorem le_16 (x0 x1 x2 x3 x4 x5 x6 x7 x8 x9 x10 x11 x12 x13 x14 x15 : D) : ([x0, x1, x2, x3, x4, x5, x6, x7, x8, x9, x10, x11, x12, x13, x14, x15] : List D).length ≤ sizeLine := by rw [sizeLine_eq]; show 16 ≤ 16777216; decide
theorem ev_non  : (ev Γ .non).v ρ = some (.ok .non ρ) := rfl
theorem et_non  : (ev Γ .non).t ρ = bindR ((ev Γ .non).v ρ) fun d ρ => (truth d).map fun b => .ok (.bl b) ρ := rfl
theorem ei_non  : (ev Γ .non).it ρ = bindR ((ev Γ .non).v ρ) fun d ρ => (itemsOf d).map fun ds => .ok (.tup ds) ρ := rfl
theorem ev_bl (b : Bool) : (ev Γ (.bl b)).v ρ = some (.ok (.bl b) ρ) := rfl
theorem et_bl (b : Bool) : (ev Γ (.bl b)).t ρ = bindR ((ev Γ (.bl b)).v ρ) fun d ρ => (truth d).map fun b => .ok (.bl b) ρ := rfl
theorem ei_bl (b : Bool) : (ev Γ (.bl b)).it ρ = bindR ((ev Γ (.bl b)).v ρ) fun d ρ => (itemsOf d).map fun ds => .ok (.tup ds) ρ := rfl
theorem ev_int (i : Int) : (ev Γ (.int i)).v ρ = some (.ok (.int i) ρ) := rfl
theorem et_int (i : Int) : (ev Γ (.int i)).t ρ = bindR ((ev Γ (.int i)).v ρ) fun d ρ => (truth d).map fun b => .ok (.bl b) ρ := rfl
theorem ei_int (i : Int) : (ev Γ (.int i)).it ρ = bindR ((ev Γ (.int i)).v ρ) fun d ρ => (itemsOf d).map fun ds => .ok (.tup ds) ρ := rfl
theorem ev_str (x : String) : (ev Γ (.str x)).v ρ = some (.ok (.str x) ρ) := rfl
theorem et_str (x : String) : (ev Γ (.str x)).t ρ = bindR ((ev Γ (.str x)).v ρ) fun d ρ => (truth d).map fun b => .ok (.bl b) ρ := rfl
theorem ei_str (x : String) : (ev Γ (.str x)).it ρ = bindR ((ev Γ (.str x)).v ρ) fun d ρ => (itemsOf d).map fun ds => .ok (.tup ds) ρ := rfl
theorem ev_var (i : Nat) : (ev Γ (.var i)).v ρ = (slot ρ i).bind fun d => if d.pure then some (.ok d ρ) else none := rfl
theorem et_var (i : Nat) : (ev Γ (.var i)).t ρ = bindR ((ev Γ (.var i)).v ρ) fun d ρ => (truth d).map fun b => .ok (.bl b) ρ := rfl
theorem ei_var (i : Nat) : (ev Γ (.var i)).it ρ = bindR ((ev Γ (.var i)).v ρ) fun d ρ => (itemsOf d).map fun ds => .ok (.tup ds) ρ := rfl
theorem ev_mov (i : Nat) : (ev Γ (.mov i)).v ρ = (slot ρ i).map fun d => .ok d (ρ.set i none) := rfl
theorem et_mov (i : Nat) : (ev Γ (.mov i)).t ρ = bindR ((ev Γ (.mov i)).v ρ) fun d ρ => (truth d).map fun b => .ok (.bl b) ρ := rfl
theorem ei_mov (i : Nat) : (ev Γ (.mov i)).it ρ = bindR ((ev Γ (.mov i)).v ρ) fun d ρ => (itemsOf d).map fun ds => .ok (.tup ds) ρ := rfl
theorem ev_bor (i : Nat) : (ev Γ (.bor i)).v ρ = (slot ρ i).map fun d => .ok d ρ := rfl
theorem et_bor (i : Nat) : (ev Γ (.bor i)).t ρ = bindR ((ev Γ (.bor i)).v ρ) fun d ρ => (truth d).map fun b => .ok (.bl b) ρ := rfl
theorem ei_bor (i : Nat) : (ev Γ (.bor i)).it ρ = bindR ((ev Γ (.bor i)).v ρ) fun d ρ => (itemsOf d).map fun ds => .ok (.tup ds) ρ := rfl
theorem ev_fzs (i : Nat) : (ev Γ (.fzs i)).v ρ = (slot ρ i).map fun d => .ok d.frz (ρ.set i (some d.frz)) := rfl
theorem et_fzs (i : Nat) : (ev Γ (.fzs i)).t ρ = bindR ((ev Γ (.fzs i)).v ρ) fun d ρ => (truth d).map fun b => .ok (.bl b) ρ := rfl
theorem ei_fzs (i : Nat) : (ev Γ (.fzs i)).it ρ = bindR ((ev Γ (.fzs i)).v ρ) fun d ρ => (itemsOf d).map fun ds => .ok (.tup ds) ρ := rfl
theorem ev_gi (u0 : String) (i : Int) : (ev Γ (.gi u0 i)).v ρ = some (.ok (.int i) ρ) := rfl
theorem et_gi (u0 : String) (i : Int) : (ev Γ (.gi u0 i)).t ρ = bindR ((ev Γ (.gi u0 i)).v ρ) fun d ρ => (truth d).map fun b => .ok (.bl b) ρ := rfl
theorem ei_gi (u0 : String) (i : Int) : (ev Γ (.gi u0 i)).it ρ = bindR ((ev Γ (.gi u0 i)).v ρ) fun d ρ => (itemsOf d).map fun ds => .ok (.tup ds) ρ := rfl
theorem ev_fn (f : String) : (ev Γ (.fn f)).v ρ = some (.ok (.fn f) ρ) := rfl
theorem et_fn (f : String) : (ev Γ (.fn f)).t ρ = bindR ((ev Γ (.fn f)).v ρ) fun d ρ => (truth d).map fun b => .ok (.bl b) ρ := rfl
theorem ei_fn (f : String) : (ev Γ (.fn f)).it ρ = bindR ((ev Γ (.fn f)).v ρ) fun d ρ => (itemsOf d).map fun ds => .ok (.tup ds) ρ := rfl
theorem ev_cls (c : String) : (ev Γ (.cls c)).v ρ = some (.ok (.cls c) ρ) := rfl
theorem et_cls (c : String) : (ev Γ (.cls c)).t ρ = bindR ((ev Γ (.cls c)).v ρ) fun d ρ => (truth d).map fun b => .ok (.bl b) ρ := rfl
theorem ei_cls (c : String) : (ev Γ (.cls c)).it ρ = bindR ((ev Γ (.cls c)).v ρ) fun d ρ => (itemsOf d).map fun ds => .ok (.tup ds) ρ := rfl
theorem ev_frz (e : E) : (ev Γ (.frz e)).v ρ = bindR ((ev Γ e).v ρ) fun d ρ => some (.ok d.frz ρ) := rfl
theorem et_frz (e : E) : (ev Γ (.frz e)).t ρ = bindR ((ev Γ (.frz e)).v ρ) fun d ρ => (truth d).map fun b => .ok (.bl b) ρ := rfl
theorem ei_frz (e : E) : (ev Γ (.frz e)).it ρ = bindR ((ev Γ (.frz e)).v ρ) fun d ρ => (itemsOf d).map fun ds => .ok (.tup ds) ρ := rfl
theorem ev_frzi (e : E) : (ev Γ (.frzi e)).v ρ = bindR ((ev Γ e).v ρ) fun d ρ => match d with
    | .lst true xs => some (.ok (.lst true (D.frzs xs)) ρ)
    | _ => none := rfl
theorem et_frzi (e : E) : (ev Γ (.frzi e)).t ρ = bindR ((ev Γ (.frzi e)).v ρ) fun d ρ => (truth d).map fun b => .ok (.bl b) ρ := rfl
theorem ei_frzi (e : E) : (ev Γ (.frzi e)).it ρ = bindR ((ev Γ (.frzi e)).v ρ) fun d ρ => (itemsOf d).map fun ds => .ok (.tup ds) ρ := rfl
theorem ev_nil  : (ev Γ .nil).v ρ = some (.ok .non ρ) := rfl
theorem ea_nil  : (ev Γ .nil).as ρ = some (.ok (.tup []) ρ) := rfl
theorem ea_cons (h : E) (r : E) : (ev Γ (.cons h r)).as ρ = bindR ((ev Γ h).v ρ) fun d ρ1 => bindR ((ev Γ r).as ρ1) fun ds ρ2 =>
      (late h d ρ2).map fun d' => .ok (.tup (d' :: tupOf ds)) ρ2 := rfl
theorem ev_tup (es : E) : (ev Γ (.tup es)).v ρ = bindR ((ev Γ es).as ρ) fun ds ρ => if (tupOf ds).length ≤ sizeLine then some (.ok (.tup (tupOf ds)) ρ) else none := rfl
theorem et_tup (es : E) : (ev Γ (.tup es)).t ρ = bindR ((ev Γ (.tup es)).v ρ) fun d ρ => (truth d).map fun b => .ok (.bl b) ρ := rfl
theorem ei_tup (es : E) : (ev Γ (.tup es)).it ρ = bindR ((ev Γ (.tup es)).v ρ) fun d ρ => (itemsOf d).map fun ds => .ok (.tup ds) ρ := rfl
theorem ev_lst (es : E) : (ev Γ (.lst es)).v ρ = bindR ((ev Γ es).as ρ) fun ds ρ => if (tupOf ds).length ≤ sizeLine then some (.ok (.lst true (tupOf ds)) ρ) else none := rfl
theorem et_lst (es : E) : (ev Γ (.lst es)).t ρ = bindR ((ev Γ (.lst es)).v ρ) fun d ρ => (truth d).map fun b => .ok (.bl b) ρ := rfl
theorem ei_lst (es : E) : (ev Γ (.lst es)).it ρ = bindR ((ev Γ (.lst es)).v ρ) fun d ρ => (itemsOf d).map fun ds => .ok (.tup ds) ρ := rfl
theorem ev_edic  : (ev Γ .edic).v ρ = some (.ok .edic ρ) := rfl
theorem et_edic  : (ev Γ .edic).t ρ = bindR ((ev Γ .edic).v ρ) fun d ρ => (truth d).map fun b => .ok (.bl b) ρ := rfl
theorem ei_edic  : (ev Γ .edic).it ρ = bindR ((ev Γ .edic).v ρ) fun d ρ => (itemsOf d).map fun ds => .ok (.tup ds) ρ := rfl
theorem ev_bin (op : Operator) (a : E) (b : E) : (ev Γ (.bin op a b)).v ρ = bindR ((ev Γ a).v ρ) fun x ρ1 => bindR ((ev Γ b).v ρ1) fun y ρ2 =>
      (late a x ρ2).bind fun x => (binD op x y).map fun d => .ok d ρ2 := rfl
theorem et_bin (op : Operator) (a : E) (b : E) : (ev Γ (.bin op a b)).t ρ = bindR ((ev Γ (.bin op a b)).v ρ) fun d ρ => (truth d).map fun b => .ok (.bl b) ρ := rfl
theorem ei_bin (op : Operator) (a : E) (b : E) : (ev Γ (.bin op a b)).it ρ = bindR ((ev Γ (.bin op a b)).v ρ) fun d ρ => (itemsOf d).map fun ds => .ok (.tup ds) ρ := rfl
theorem ev_neg (a : E) : (ev Γ (.neg a)).v ρ = bindR ((ev Γ a).v ρ) fun x ρ => match x with
    | .int i => some (.ok (.int (-i)) ρ)
    | _ => none := rfl
theorem et_neg (a : E) : (ev Γ (.neg a)).t ρ = bindR ((ev Γ (.neg a)).v ρ) fun d ρ => (truth d).map fun b => .ok (.bl b) ρ := rfl
theorem ei_neg (a : E) : (ev Γ (.neg a)).it ρ = bindR ((ev Γ (.neg a)).v ρ) fun d ρ => (itemsOf d).map fun ds => .ok (.tup ds) ρ := rfl
theorem ev_not (a : E) : (ev Γ (.not a)).v ρ = bindR ((ev Γ a).v ρ) fun x ρ => (truth x).map fun k => .ok (.bl (!k)) ρ := rfl
theorem et_not (a : E) : (ev Γ (.not a)).t ρ = bindR ((ev Γ a).t ρ) fun x ρ => match x with
        | .bl k => some (.ok (.bl (!k)) ρ)
        | _ => none := rfl
theorem ei_not (a : E) : (ev Γ (.not a)).it ρ = bindR ((ev Γ (.not a)).v ρ) fun d ρ => (itemsOf d).map fun ds => .ok (.tup ds) ρ := rfl
theorem ev_cmp (op : CmpOp) (a : E) (b : E) : (ev Γ (.cmp op a b)).v ρ = bindR ((ev Γ a).v ρ) fun x ρ1 => bindR ((ev Γ b).v ρ1) fun y ρ2 =>
      (late a x ρ2).bind fun x => (cmpD op x y).map fun k => .ok (.bl k) ρ2 := rfl
theorem et_cmp (op : CmpOp) (a : E) (b : E) : (ev Γ (.cmp op a b)).t ρ = bindR ((ev Γ (.cmp op a b)).v ρ) fun d ρ => (truth d).map fun b => .ok (.bl b) ρ := rfl
theorem ei_cmp (op : CmpOp) (a : E) (b : E) : (ev Γ (.cmp op a b)).it ρ = bindR ((ev Γ (.cmp op a b)).v ρ) fun d ρ => (itemsOf d).map fun ds => .ok (.tup ds) ρ := rfl
theorem ev_cmp2 (o1 : CmpOp) (o2 : CmpOp) (a : E) (b : E) (c : E) : (ev Γ (.cmp2 o1 o2 a b c)).v ρ = bindR ((ev Γ a).v ρ) fun x ρ1 => bindR ((ev Γ b).v ρ1) fun y ρ2 =>
      (cmpD o1 x y).bind fun k => if k then bindR ((ev Γ c).v ρ2) fun z ρ3 => (cmpD o2 y z).map fun k => .ok (.bl k) ρ3 else some (.ok (.bl false) ρ2) := rfl
theorem et_cmp2 (o1 : CmpOp) (o2 : CmpOp) (a : E) (b : E) (c : E) : (ev Γ (.cmp2 o1 o2 a b c)).t ρ = bindR ((ev Γ (.cmp2 o1 o2 a b c)).v ρ) fun d ρ => (truth d).map fun b => .ok (.bl b) ρ := rfl
theorem ei_cmp2 (o1 : CmpOp) (o2 : CmpOp) (a : E) (b : E) (c : E) : (ev Γ (.cmp2 o1 o2 a b c)).it ρ = bindR ((ev Γ (.cmp2 o1 o2 a b c)).v ρ) fun d ρ => (itemsOf d).map fun ds => .ok (.tup ds) ρ := rfl
theorem ev_and (a : E) (b : E) : (ev Γ (.and a b)).v ρ = bindR ((ev Γ a).v ρ) fun x ρ1 => (truth x).bind fun k => if k then (ev Γ b).v ρ1 else some (.ok x ρ1) := rfl
theorem et_and (a : E) (b : E) : (ev Γ (.and a b)).t ρ = bindR ((ev Γ a).t ρ) fun x ρ1 => match x with
        | .bl true => (ev Γ b).t ρ1
        | .bl false => some (.ok (.bl false) ρ1)
        | _ => none := rfl
theorem ei_and (a : E) (b : E) : (ev Γ (.and a b)).it ρ = bindR ((ev Γ (.and a b)).v ρ) fun d ρ => (itemsOf d).map fun ds => .ok (.tup ds) ρ := rfl
theorem ev_or (a : E) (b : E) : (ev Γ (.or a b)).v ρ = bindR ((ev Γ a).v ρ) fun x ρ1 => (truth x).bind fun k => if k then some (.ok x ρ1) else (ev Γ b).v ρ1 := rfl
theorem et_or (a : E) (b : E) : (ev Γ (.or a b)).t ρ = bindR ((ev Γ a).t ρ) fun x ρ1 => match x with
        | .bl true => some (.ok (.bl true) ρ1)
        | .bl false => (ev Γ b).t ρ1
        | _ => none := rfl
theorem ei_or (a : E) (b : E) : (ev Γ (.or a b)).it ρ = bindR ((ev Γ (.or a b)).v ρ) fun d ρ => (itemsOf d).map fun ds => .ok (.tup ds) ρ := rfl
theorem ev_ite (c : E) (a : E) (b : E) : (ev Γ (.ite c a b)).v ρ = bindR ((ev Γ c).t ρ) fun x ρ1 => match x with
    | .bl true => (ev Γ a).v ρ1
    | .bl false => (ev Γ b).v ρ1
    | _ => none := rfl
theorem et_ite (c : E) (a : E) (b : E) : (ev Γ (.ite c a b)).t ρ = bindR ((ev Γ (.ite c a b)).v ρ) fun d ρ => (truth d).map fun b => .ok (.bl b) ρ := rfl
theorem ei_ite (c : E) (a : E) (b : E) : (ev Γ (.ite c a b)).it ρ = bindR ((ev Γ (.ite c a b)).v ρ) fun d ρ => (itemsOf d).map fun ds => .ok (.tup ds) ρ := rfl
theorem ev_idx (a : E) (i : E) : (ev Γ (.idx a i)).v ρ = bindR ((ev Γ a).v ρ) fun x ρ1 => bindR ((ev Γ i).v ρ1) fun y ρ2 =>
      (late a x ρ2).bind fun x => (idxD x y).map fun d => .ok d ρ2 := rfl
theorem et_idx (a : E) (i : E) : (ev Γ (.idx a i)).t ρ = bindR ((ev Γ (.idx a i)).v ρ) fun d ρ => (truth d).map fun b => .ok (.bl b) ρ := rfl
theorem ei_idx (a : E) (i : E) : (ev Γ (.idx a i)).it ρ = bindR ((ev Γ (.idx a i)).v ρ) fun d ρ => (itemsOf d).map fun ds => .ok (.tup ds) ρ := rfl
theorem ev_sl (a : E) (lo : E) (hi : E) : (ev Γ (.sl a lo hi)).v ρ = bindR ((ev Γ a).v ρ) fun x ρ1 => bindR ((ev Γ lo).v ρ1) fun y ρ2 => (partD lo y).bind fun l => bindR ((ev Γ hi).v ρ2) fun z ρ3 =>
      (late a x ρ3).bind fun x => (partD hi z).bind fun h => (slD x l h).map fun d => .ok d ρ3 := rfl
theorem et_sl (a : E) (lo : E) (hi : E) : (ev Γ (.sl a lo hi)).t ρ = bindR ((ev Γ (.sl a lo hi)).v ρ) fun d ρ => (truth d).map fun b => .ok (.bl b) ρ := rfl
theorem ei_sl (a : E) (lo : E) (hi : E) : (ev Γ (.sl a lo hi)).it ρ = bindR ((ev Γ (.sl a lo hi)).v ρ) fun d ρ => (itemsOf d).map fun ds => .ok (.tup ds) ρ := rfl
theorem ev_call (f : String) (as : E) : (ev Γ (.call f as)).v ρ = bindR ((ev Γ as).as ρ) fun ds ρ => afterCall (anyImp as (tupOf ds)) (Γ f (seens as (tupOf ds))) (fun d _ => some (.ok d ρ)) ρ := rfl
theorem et_call (f : String) (as : E) : (ev Γ (.call f as)).t ρ = bindR ((ev Γ (.call f as)).v ρ) fun d ρ => (truth d).map fun b => .ok (.bl b) ρ := rfl
theorem ei_call (f : String) (as : E) : (ev Γ (.call f as)).it ρ = bindR ((ev Γ (.call f as)).v ρ) fun d ρ => (itemsOf d).map fun ds => .ok (.tup ds) ρ := rfl
theorem ev_callk (f : String) (u1 : List String) (perm : List Nat) (as : E) (ks : E) : (ev Γ (.callk f u1 perm as ks)).v ρ = bindR ((ev Γ as).as ρ) fun ds ρ => bindR ((ev Γ ks).as ρ) fun es ρ =>
      if D.pures (tupOf ds) && D.pures (tupOf es) then (permD (tupOf ds ++ tupOf es) perm).bind fun vs => afterCall false (Γ f vs) (fun d _ => some (.ok d ρ)) ρ else none := rfl
theorem et_callk (f : String) (u1 : List String) (perm : List Nat) (as : E) (ks : E) : (ev Γ (.callk f u1 perm as ks)).t ρ = bindR ((ev Γ (.callk f u1 perm as ks)).v ρ) fun d ρ => (truth d).map fun b => .ok (.bl b) ρ := rfl
theorem ei_callk (f : String) (u1 : List String) (perm : List Nat) (as : E) (ks : E) : (ev Γ (.callk f u1 perm as ks)).it ρ = bindR ((ev Γ (.callk f u1 perm as ks)).v ρ) fun d ρ => (itemsOf d).map fun ds => .ok (.tup ds) ρ := rfl
theorem ev_callv (i : Nat) (as : E) : (ev Γ (.callv i as)).v ρ = match slot ρ i with
    | some (.fn f) => bindR ((ev Γ as).as ρ) fun ds ρ => afterCall (anyImp as (tupOf ds)) (Γ f (seens as (tupOf ds))) (fun d _ => some (.ok d ρ)) ρ
    | _ => none := rfl
theorem et_callv (i : Nat) (as : E) : (ev Γ (.callv i as)).t ρ = bindR ((ev Γ (.callv i as)).v ρ) fun d ρ => (truth d).map fun b => .ok (.bl b) ρ := rfl
theorem ei_callv (i : Nat) (as : E) : (ev Γ (.callv i as)).it ρ = bindR ((ev Γ (.callv i as)).v ρ) fun d ρ => (itemsOf d).map fun ds => .ok (.tup ds) ρ := rfl
theorem ev_calli (f : String) (i : Nat) (as : E) : (ev Γ (.calli f i as)).v ρ = (slot ρ i).bind fun _ => bindR ((ev Γ as).as ρ) fun ds ρ => (slot ρ i).bind fun x =>
      afterCall (anyImp as (tupOf ds)) (Γ f (x :: seens as (tupOf ds))) (fun d io => some (.ok d (ρ.set i (some io)))) (ρ.set i none) := rfl
theorem et_calli (f : String) (i : Nat) (as : E) : (ev Γ (.calli f i as)).t ρ = bindR ((ev Γ (.calli f i as)).v ρ) fun d ρ => (truth d).map fun b => .ok (.bl b) ρ := rfl
theorem ei_calli (f : String) (i : Nat) (as : E) : (ev Γ (.calli f i as)).it ρ = bindR ((ev Γ (.calli f i as)).v ρ) fun d ρ => (itemsOf d).map fun ds => .ok (.tup ds) ρ := rfl
theorem ev_callb (f : String) (i : Nat) (e : E) (as : E) : (ev Γ (.callb f i e as)).v ρ = (slot ρ i).bind fun _ => bindR ((ev Γ e).v ρ) fun d ρ1 => bindR ((ev Γ as).as ρ1) fun ds ρ2 => (slot ρ2 i).bind fun x =>
      if d.pure then afterCall (!x.pure) (Γ f (.lst false [x.frz, d] :: tupOf ds)) (fun d _ => some (.ok d ρ2)) ρ2 else none := rfl
theorem et_callb (f : String) (i : Nat) (e : E) (as : E) : (ev Γ (.callb f i e as)).t ρ = bindR ((ev Γ (.callb f i e as)).v ρ) fun d ρ => (truth d).map fun b => .ok (.bl b) ρ := rfl
theorem ei_callb (f : String) (i : Nat) (e : E) (as : E) : (ev Γ (.callb f i e as)).it ρ = bindR ((ev Γ (.callb f i e as)).v ρ) fun d ρ => (itemsOf d).map fun ds => .ok (.tup ds) ρ := rfl
theorem ev_bi (b : BI) (as : E) : (ev Γ (.bi b as)).v ρ = bindR ((ev Γ as).as ρ) fun ds ρ => (biD b (tupOf ds)).map fun d => .ok d ρ := rfl
theorem et_bi (b : BI) (as : E) : (ev Γ (.bi b as)).t ρ = bindR ((ev Γ (.bi b as)).v ρ) fun d ρ => (truth d).map fun b => .ok (.bl b) ρ := rfl
theorem ei_bi (b : BI) (as : E) : (ev Γ (.bi b as)).it ρ = bindR ((ev Γ (.bi b as)).v ρ) fun d ρ => (itemsOf d).map fun ds => .ok (.tup ds) ρ := rfl
theorem ev_isi (a : E) (ts : List Ty) : (ev Γ (.isi a ts)).v ρ = bindR ((ev Γ a).v ρ) fun x ρ => (isiD x ts).map fun d => .ok d ρ := rfl
theorem et_isi (a : E) (ts : List Ty) : (ev Γ (.isi a ts)).t ρ = bindR ((ev Γ (.isi a ts)).v ρ) fun d ρ => (truth d).map fun b => .ok (.bl b) ρ := rfl
theorem ei_isi (a : E) (ts : List Ty) : (ev Γ (.isi a ts)).it ρ = bindR ((ev Γ (.isi a ts)).v ρ) fun d ρ => (itemsOf d).map fun ds => .ok (.tup ds) ρ := rfl
theorem ev_lrg (a : E) : (ev Γ (.lrg a)).v ρ = bindR ((ev Γ a).v ρ) fun x ρ => match x with
    | .int j => if decide (-(2 ^ 62) ≤ j) && decide (j ≤ (sizeLine : Nat)) then some (.ok (.lst true (rangeD 0 j)) ρ) else none
    | _ => none := rfl
theorem et_lrg (a : E) : (ev Γ (.lrg a)).t ρ = bindR ((ev Γ (.lrg a)).v ρ) fun d ρ => (truth d).map fun b => .ok (.bl b) ρ := rfl
theorem ei_lrg (a : E) : (ev Γ (.lrg a)).it ρ = bindR ((ev Γ (.lrg a)).v ρ) fun d ρ => (itemsOf d).map fun ds => .ok (.tup ds) ρ := rfl
theorem ev_comp (own : List (String × Nat)) (tg : Tg) (it : E) (c : E) (elt : E) : (ev Γ (.comp own tg it c elt)).v ρ = bindR ((ev Γ it).it ρ) fun ds ρ1 =>
      if D.pures (tupOf ds) then
        bindR (compLoop (own.map (·.2)) tg (ev Γ c).t (ev Γ elt).v (tupOf ds) [] (wipeE ρ1 (locks it ++ own.map (·.2)))) fun d ρ2 =>
          some (.ok d (restore ρ1 ρ2 (locks it ++ own.map (·.2))))
      else none := rfl
theorem et_comp (own : List (String × Nat)) (tg : Tg) (it : E) (c : E) (elt : E) : (ev Γ (.comp own tg it c elt)).t ρ = bindR ((ev Γ (.comp own tg it c elt)).v ρ) fun d ρ => (truth d).map fun b => .ok (.bl b) ρ := rfl
theorem ei_comp (own : List (String × Nat)) (tg : Tg) (it : E) (c : E) (elt : E) : (ev Γ (.comp own tg it c elt)).it ρ = bindR ((ev Γ (.comp own tg it c elt)).v ρ) fun d ρ => (itemsOf d).map fun ds => .ok (.tup ds) ρ := rfl
theorem ei_rng (a : E) : (ev Γ (.rng a)).it ρ = bindR ((ev Γ a).v ρ) fun x ρ => match x with
    | .int j => if small j then some (.ok (.tup (rangeD 0 j)) ρ) else none
    | _ => none := rfl
theorem ei_rng2 (a : E) (b : E) : (ev Γ (.rng2 a b)).it ρ = bindR ((ev Γ a).v ρ) fun x ρ1 => bindR ((ev Γ b).v ρ1) fun y ρ2 => match x, y with
    | .int i, .int j => if small i && small j then some (.ok (.tup (rangeD i j)) ρ2) else none
    | _, _ => none := rfl
theorem ei_enum (a : E) : (ev Γ (.enum a)).it ρ = bindR ((ev Γ a).v ρ) fun x ρ =>
      (lstOf x).map fun xs => .ok (.tup (enumD 0 xs)) ρ := rfl
theorem ei_zip (a : E) (b : E) (st : Bool) : (ev Γ (.zip a b st)).it ρ = bindR ((ev Γ a).v ρ) fun x ρ1 => bindR ((ev Γ b).v ρ1) fun y ρ2 =>
      (late a x ρ2).bind fun x => (lstOf x).bind fun xs => (lstOf y).bind fun ys => if st && xs.length != ys.length then none else some (.ok (.tup (zipD xs ys)) ρ2) := rfl
theorem ev_pop (i : Nat) (a : E) : (ev Γ (.pop i a)).v ρ = match slot ρ i with
    | some (.lst true _) => bindR ((ev Γ a).v ρ) fun y ρ => (match slot ρ i, y with
      | some (.lst true xs), .int k => if D.pures xs && small k then
          (seqIndex? k xs.length).bind fun j => (xs[j]?).map fun d => .ok d (ρ.set i (some (.lst true (xs.eraseIdx j))))
        else none
      | _, _ => none)
    | _ => none := rfl
theorem et_pop (i : Nat) (a : E) : (ev Γ (.pop i a)).t ρ = bindR ((ev Γ (.pop i a)).v ρ) fun d ρ => (truth d).map fun b => .ok (.bl b) ρ := rfl
theorem ei_pop (i : Nat) (a : E) : (ev Γ (.pop i a)).it ρ = bindR ((ev Γ (.pop i a)).v ρ) fun d ρ => (itemsOf d).map fun ds => .ok (.tup ds) ρ := rfl
theorem ev_pop0 (i : Nat) : (ev Γ (.pop0 i)).v ρ = match slot ρ i with
    | some (.lst true xs) => if D.pures xs then (xs[xs.length - 1]?).map fun d => .ok d (ρ.set i (some (.lst true xs.dropLast))) else none
    | _ => none := rfl
theorem et_pop0 (i : Nat) : (ev Γ (.pop0 i)).t ρ = bindR ((ev Γ (.pop0 i)).v ρ) fun d ρ => (truth d).map fun b => .ok (.bl b) ρ := rfl
theorem ei_pop0 (i : Nat) : (ev Γ (.pop0 i)).it ρ = bindR ((ev Γ (.pop0 i)).v ρ) fun d ρ => (itemsOf d).map fun ds => .ok (.tup ds) ρ := rfl
theorem ev_fld (a : E) : (ev Γ (.fld a)).v ρ = bindR ((ev Γ a).v ρ) fun x ρ => match x with
    | .exc _ v => some (.ok v ρ)
    | _ => none := rfl
theorem et_fld (a : E) : (ev Γ (.fld a)).t ρ = bindR ((ev Γ (.fld a)).v ρ) fun d ρ => (truth d).map fun b => .ok (.bl b) ρ := rfl
theorem ei_fld (a : E) : (ev Γ (.fld a)).it ρ = bindR ((ev Γ (.fld a)).v ρ) fun d ρ => (itemsOf d).map fun ds => .ok (.tup ds) ρ := rfl
theorem es_nil  : evS Γ up .nil ρ = some (.nx ρ) := rfl
def thenS (x : Option SR) (k : VI.Env → Option SR) : Option SR := match x with
    | some (.nx ρ1) => k ρ1
    | r => r
theorem thenS_congr {x y : Option SR} {k : VI.Env → Option SR} (h : x = y) : thenS x k = thenS y k := by rw [h]
theorem thenS_nx (ρ : VI.Env) (k : VI.Env → Option SR) : thenS (some (.nx ρ)) k = k ρ := rfl
theorem thenS_rt (d : D) (ρ : VI.Env) (k : VI.Env → Option SR) : thenS (some (.rt d ρ)) k = some (.rt d ρ) := rfl
theorem thenS_bk (ρ : VI.Env) (k : VI.Env → Option SR) : thenS (some (.bk ρ)) k = some (.bk ρ) := rfl
theorem thenS_ct (ρ : VI.Env) (k : VI.Env → Option SR) : thenS (some (.ct ρ)) k = some (.ct ρ) := rfl
theorem thenS_ex (c : String) (d : D) (ρ : VI.Env) (k : VI.Env → Option SR) : thenS (some (.ex c d ρ)) k = some (.ex c d ρ) := rfl
theorem es_seq (s : S) (t : S) : evS Γ up (.seq s t) ρ = thenS (evS Γ up s ρ) (evS Γ up t) := rfl
theorem es_asg (tg : Tg) (e : E) : evS Γ up (.asg tg e) ρ = bindS ((ev Γ e).v ρ) fun d ρ => (assignT tg d ρ).map .nx := rfl
theorem es_par (is : List Nat) (es : E) : evS Γ up (.par is es) ρ = bindS ((ev Γ es).as ρ) fun ds ρ => if (tupOf ds).length = is.length then some (.nx (setAll is (tupOf ds) ρ)) else none := rfl
theorem es_seti (i : Nat) (ix : E) (e : E) : evS Γ up (.seti i ix e) ρ = bindS ((ev Γ e).v ρ) fun d ρ => match slot ρ i with
    | some (.lst true _) => bindS ((ev Γ ix).v ρ) fun k ρ => (match slot ρ i, k with
      | some (.lst true xs), .int k => if D.pures xs && d.pure then (ixN xs.length k).map fun j => .nx (ρ.set i (some (.lst true (xs.set j d)))) else none
      | _, _ => none)
    | _ => none := rfl
theorem es_app (i : Nat) (e : E) : evS Γ up (.app i e) ρ = match slot ρ i with
    | some (.lst true _) => bindS ((ev Γ e).v ρ) fun d ρ => (match slot ρ i with
      | some (.lst true xs) => if xs.length < sizeLine then some (.nx (ρ.set i (some (.lst true (xs ++ [d]))))) else none
      | _ => none)
    | _ => none := rfl
theorem es_ex (e : E) : evS Γ up (.ex e) ρ = bindS ((ev Γ e).v ρ) fun _ ρ => some (.nx ρ) := rfl
theorem es_ifs (c : E) (a : S) (b : S) : evS Γ up (.ifs c a b) ρ = bindS ((ev Γ c).t ρ) fun x ρ => match x with
    | .bl true => evS Γ up a ρ
    | .bl false => evS Γ up b ρ
    | _ => none := rfl
theorem es_whl (c : E) (b : S) : evS Γ up (.whl c b) ρ = whileLoop (ev Γ c).t (evS Γ up b) fuel0 ρ := rfl
theorem es_for (tg : Tg) (it : E) (b : S) : evS Γ up (.for tg it b) ρ = bindS ((ev Γ it).it ρ) fun ds ρ1 =>
      if D.pures (tupOf ds) then forLoop tg (evS Γ up b) (tupOf ds) ρ1 else none := rfl
theorem es_ret (e : E) : evS Γ up (.ret e) ρ = bindS ((ev Γ e).v ρ) fun d ρ => some (.rt d ρ) := rfl
theorem es_retn  : evS Γ up .retn ρ = some (.rt .non ρ) := rfl
theorem es_pass  : evS Γ up .pass ρ = some (.nx ρ) := rfl
theorem es_brk  : evS Γ up .brk ρ = some (.bk ρ) := rfl
theorem es_cnt  : evS Γ up .cnt ρ = some (.ct ρ) := rfl
theorem es_raise (c : String) (e : E) : evS Γ up (.raise c e) ρ = bindS ((ev Γ e).v ρ) fun d ρ => if d.pure then some (.ex c d ρ) else none := rfl
theorem es_try (b : S) (hs : S) : evS Γ up (.try b hs) ρ = match evS Γ up b ρ with
    | some (.ex c d ρ1) => evS.handle Γ up c d ρ1 hs
    | r => r := rfl
theorem es_hnd (u0 : String) (u1 : Nat) (u2 : S) : evS Γ up (.hnd u0 u1 u2) ρ = none := rfl
theorem es_dead  : evS Γ up .dead ρ = none := rfl
end
def isPy : D → Bool
  | .fn _ | .cls _ | .exc _ _ | .scr _ => false
  | _ => true
theorem isiD_py {v : D} (h : isPy v = true) (ts : List Ty) : isiD v ts = some (.bl (ts.any fun t => isiT (tyD v) t)) := by
  cases v <;> first | (cases h; done) | rfl | skip
  unfold isiD tyD
  have e : (ts.any fun t => isiT none t) = false := List.any_eq_false.mpr fun _ _ => Bool.false_ne_true
  rw [e]

local macro_rules
  | `(tactic| simp!) => `(tactic| simp only [le_0, le_1, le_2, le_3, le_4, le_5, le_6, le_7, le_8, le_9, le_10, le_11, le_12, le_13, le_14, le_15, le_16, bindR_ok, bindR_ex, bindS_ok, bindS_ex, afterCall_ok, afterCall_ex, slot_0, slot_1, slot_2, slot_3, slot_4, slot_5, slot_6, slot_7, slot_8, slot_9, slot_10, slot_11, set_0, set_1, set_2, set_3, set_4, set_5, set_6, set_7, set_8, set_9, set_10, set_11, outR_rt, outR_nx, outR_ex, finO_f, finO_t, Option.bind_some, Option.map_some, Option.bind_none, Option.map_none, List.map_cons, List.map_nil, List.cons_append, List.nil_append, tupOf, late, D.frz, D.frzs, if_true, if_false, Bool.false_eq_true, assignT, assignTs, ite_true, ite_false, setAll, wipeE, restore, locks, Bool.false_and, Bool.or_false, Bool.false_or, Bool.true_and, Bool.and_true, Bool.true_or, Bool.or_true, Bool.not_true, Bool.not_false, Bool.and_false, anyImp, impure, seens, seen, D.pure, D.pures, D.nosh, D.noshs, truth_bl, truth_int, truth_tup, truth_lst, truth_non, cmp_lt, cmp_le, cmp_gt, cmp_ge, cmp_ne, cmp_notin, cmp_isnot, cmp_eq, cmp_in, cmp_is, bin_add, bin_sub, bi_len_t, bi_len_l, bi_len_s, bi_int_i, bi_int_b, bi_abs, bi_max2, bi_min2, ev_non, et_non, ei_non, ev_bl, et_bl, ei_bl, ev_int, et_int, ei_int, ev_str, et_str, ei_str, ev_var, et_var, ei_var, ev_mov, et_mov, ei_mov, ev_bor, et_bor, ei_bor, ev_fzs, et_fzs, ei_fzs, ev_gi, et_gi, ei_gi, ev_fn, et_fn, ei_fn, ev_cls, et_cls, ei_cls, ev_frz, et_frz, ei_frz, ev_frzi, et_frzi, ei_frzi, ev_nil, ea_nil, ea_cons, ev_tup, et_tup, ei_tup, ev_lst, et_lst, ei_lst, ev_edic, et_edic, ei_edic, ev_bin, et_bin, ei_bin, ev_neg, et_neg, ei_neg, ev_not, et_not, ei_not, ev_cmp, et_cmp, ei_cmp, ev_cmp2, et_cmp2, ei_cmp2, ev_and, et_and, ei_and, ev_or, et_or, ei_or, ev_ite, et_ite, ei_ite, ev_idx, et_idx, ei_idx, ev_sl, et_sl, ei_sl, ev_call, et_call, ei_call, ev_callk, et_callk, ei_callk, ev_callv, et_callv, ei_callv, ev_calli, et_calli, ei_calli, ev_callb, et_callb, ei_callb, ev_bi, et_bi, ei_bi, ev_isi, et_isi, ei_isi, ev_lrg, et_lrg, ei_lrg, et_comp, ei_comp, ei_enum, ei_zip, ev_pop, et_pop, ei_pop, ev_pop0, et_pop0, ei_pop0, ev_fld, et_fld, ei_fld, es_nil, thenS_nx, thenS_rt, thenS_bk, thenS_ct, thenS_ex, es_seq, es_asg, es_par, es_seti, es_app, es_ex, es_ifs, es_whl, es_for, es_ret, es_retn, es_pass, es_brk, es_cnt, es_raise, es_try, es_hnd, es_dead])
  | `(tactic| simp! [$ts,*]) => `(tactic| simp only [le_0, le_1, le_2, le_3, le_4, le_5, le_6, le_7, le_8, le_9, le_10, le_11, le_12, le_13, le_14, le_15, le_16, bindR_ok, bindR_ex, bindS_ok, bindS_ex, afterCall_ok, afterCall_ex, slot_0, slot_1, slot_2, slot_3, slot_4, slot_5, slot_6, slot_7, slot_8, slot_9, slot_10, slot_11, set_0, set_1, set_2, set_3, set_4, set_5, set_6, set_7, set_8, set_9, set_10, set_11, outR_rt, outR_nx, outR_ex, finO_f, finO_t, Option.bind_some, Option.map_some, Option.bind_none, Option.map_none, List.map_cons, List.map_nil, List.cons_append, List.nil_append, tupOf, late, D.frz, D.frzs, if_true, if_false, Bool.false_eq_true, assignT, assignTs, ite_true, ite_false, setAll, wipeE, restore, locks, Bool.false_and, Bool.or_false, Bool.false_or, Bool.true_and, Bool.and_true, Bool.true_or, Bool.or_true, Bool.not_true, Bool.not_false, Bool.and_false, anyImp, impure, seens, seen, D.pure, D.pures, D.nosh, D.noshs, truth_bl, truth_int, truth_tup, truth_lst, truth_non, cmp_lt, cmp_le, cmp_gt, cmp_ge, cmp_ne, cmp_notin, cmp_isnot, cmp_eq, cmp_in, cmp_is, bin_add, bin_sub, bi_len_t, bi_len_l, bi_len_s, bi_int_i, bi_int_b, bi_abs, bi_max2, bi_min2, ev_non, et_non, ei_non, ev_bl, et_bl, ei_bl, ev_int, et_int, ei_int, ev_str, et_str, ei_str, ev_var, et_var, ei_var, ev_mov, et_mov, ei_mov, ev_bor, et_bor, ei_bor, ev_fzs, et_fzs, ei_fzs, ev_gi, et_gi, ei_gi, ev_fn, et_fn, ei_fn, ev_cls, et_cls, ei_cls, ev_frz, et_frz, ei_frz, ev_frzi, et_frzi, ei_frzi, ev_nil, ea_nil, ea_cons, ev_tup, et_tup, ei_tup, ev_lst, et_lst, ei_lst, ev_edic, et_edic, ei_edic, ev_bin, et_bin, ei_bin, ev_neg, et_neg, ei_neg, ev_not, et_not, ei_not, ev_cmp, et_cmp, ei_cmp, ev_cmp2, et_cmp2, ei_cmp2, ev_and, et_and, ei_and, ev_or, et_or, ei_or, ev_ite, et_ite, ei_ite, ev_idx, et_idx, ei_idx, ev_sl, et_sl, ei_sl, ev_call, et_call, ei_call, ev_callk, et_callk, ei_callk, ev_callv, et_callv, ei_callv, ev_calli, et_calli, ei_calli, ev_callb, et_callb, ei_callb, ev_bi, et_bi, ei_bi, ev_isi, et_isi, ei_isi, ev_lrg, et_lrg, ei_lrg, et_comp, ei_comp, ei_enum, ei_zip, ev_pop, et_pop, ei_pop, ev_pop0, et_pop0, ei_pop0, ev_fld, et_fld, ei_fld, es_nil, thenS_nx, thenS_rt, thenS_bk, thenS_ct, thenS_ex, es_seq, es_asg, es_par, es_seti, es_app, es_ex, es_ifs, es_whl, es_for, es_ret, es_retn, es_pass, es_brk, es_cnt, es_raise, es_try, es_hnd, es_dead, $ts,*])

set_option maxHeartbeats 4000000
set_option synthInstance.maxSize 128
set_option synthInstance.maxHeartbeats 20000
section
variable {Γ : Gam} {up : String → String → Bool}
theorem set_back {ρ ρ' : VI.Env} {i : Nat} (h : ρ'.set i none = ρ.set i none) : ρ'.set i (slot ρ i) = ρ := by
  have e : ρ'.set i (slot ρ i) = (ρ'.set i none).set i (slot ρ i) := by rw [List.set_set]
  rw [e, h, List.set_set]
  by_cases hi : i < ρ.length
  · refine List.set_getElem?_eq ?_
    unfold slot
    rw [List.getElem?_eq_getElem hi]
    rfl
  · exact List.set_eq_of_length_le (Nat.le_of_not_lt hi)
/-- a comprehension whose parts change nothing -/
theorem compLoop_pure {i : Nat} {c elt : VI.Env → Option R} {p : D → Bool} {g : D → D} {ρ0 : VI.Env} : ∀ (ds acc : List D) (ρ : VI.Env), (∀ d ∈ ds, c (ρ0.set i (some d)) = some (.ok (.bl (p d)) (ρ0.set i (some d)))) →
    (∀ d ∈ ds, p d = true → elt (ρ0.set i (some d)) = some (.ok (g d) (ρ0.set i (some d)))) → acc.length + ds.length ≤ sizeLine → ρ.set i none = ρ0.set i none →
    ∃ ρ', compLoop [i] (.n i) c elt ds acc ρ = some (.ok (.lst true (acc ++ (ds.filter p).map g)) ρ') ∧ ρ'.set i none = ρ0.set i none
  | [], acc, ρ, _, _, _, hρ => ⟨ρ, by simp [compLoop], hρ⟩
  | d :: ds, acc, ρ, hc, he, hz, hρ => by
    have e1 : assignT (.n i) d (wipeE ρ [i]) = some (ρ0.set i (some d)) := by
      show some ((ρ.set i none).set i (some d)) = _
      rw [hρ, List.set_set]
    have h1 := hc d List.mem_cons_self
    have e2 : (ρ0.set i (some d)).set i none = ρ0.set i none := by rw [List.set_set]
    rw [List.length_cons] at hz
    cases hp : p d with
    | true =>
      have h2 := he d List.mem_cons_self hp
      obtain ⟨ρ', h3, h4⟩ := compLoop_pure ds (acc ++ [g d]) (ρ0.set i (some d)) (fun d hd => hc d (List.mem_cons_of_mem _ hd)) (fun d hd => he d (List.mem_cons_of_mem _ hd)) (by rw [List.length_append, List.length_singleton]; omega) e2
      refine ⟨ρ', ?_, h4⟩
      unfold compLoop
      rw [hp] at h1
      simp only [e1, Option.bind_some, h1, h2]
      rw [if_pos (by omega), h3, List.filter_cons_of_pos hp, List.map_cons, List.append_assoc]; rfl
    | false =>
      obtain ⟨ρ', h3, h4⟩ := compLoop_pure ds acc (ρ0.set i (some d)) (fun d hd => hc d (List.mem_cons_of_mem _ hd)) (fun d hd => he d (List.mem_cons_of_mem _ hd)) (by omega) e2
      refine ⟨ρ', ?_, h4⟩
      unfold compLoop
      rw [hp] at h1
      simp only [e1, Option.bind_some, h1]
      rw [h3, List.filter_cons_of_neg (by rw [hp]; exact Bool.false_ne_true)]
theorem comp_eq {nm : String} {i : Nat} {it c elt : E} {ρ : VI.Env} {ds : List D} {p : D → Bool} {g : D → D} (hit : (ev Γ it).it ρ = some (.ok (.tup ds) ρ)) (hp : D.pures ds = true) (hl : locks it = []) (hz : ds.length ≤ sizeLine)
    (hc : ∀ d ∈ ds, (ev Γ c).t (ρ.set i (some d)) = some (.ok (.bl (p d)) (ρ.set i (some d)))) (he : ∀ d ∈ ds, p d = true → (ev Γ elt).v (ρ.set i (some d)) = some (.ok (g d) (ρ.set i (some d)))) :
    (ev Γ (.comp [(nm, i)] (.n i) it c elt)).v ρ = some (.ok (.lst true ((ds.filter p).map g)) ρ) := by
  rw [ev_comp, hit, bindR_ok]
  have e0 : ∀ d, (ρ.set i none).set i (some d) = ρ.set i (some d) := fun d => by rw [List.set_set]
  obtain ⟨ρ', h3, h4⟩ := compLoop_pure (i := i) (c := (ev Γ c).t) (elt := (ev Γ elt).v) (p := p) (g := g) (ρ0 := ρ) ds [] (ρ.set i none) hc he (by simpa using hz) (by rw [List.set_set])
  show (if D.pures ds = true then bindR (compLoop [i] (.n i) (ev Γ c).t (ev Γ elt).v ds [] (wipeE ρ (locks it ++ [i]))) _ else none) = _
  rw [if_pos hp, hl]
  show bindR (compLoop [i] (.n i) (ev Γ c).t (ev Γ elt).v ds [] (ρ.set i none)) _ = _
  rw [h3, bindR_ok, List.nil_append]
  show some (R.ok _ (restore ρ ρ' ([] ++ [i]))) = _
  have e5 : restore ρ ρ' ([] ++ [i]) = ρ'.set i (slot ρ i) := rfl
  rw [e5, set_back h4]
/-- all(..) of such a list -/
theorem boolsOf_map {α : Type} (f : α → Bool) (xs : List α) : boolsOf (xs.map fun x => .bl (f x)) = some (xs.map f) := by
  induction xs with
  | nil => rfl
  | cons x xs ih =>
    show (boolsOf (xs.map fun x => .bl (f x))).map (f x :: ·) = _
    rw [ih]; rfl
theorem bi_all {o : Bool} {α : Type} (f : α → Bool) (xs : List α) : biD .all [.lst o (xs.map fun x => .bl (f x))] = some (.bl (xs.all f)) := by
  show (boolsOf (xs.map fun x => .bl (f x))).map (fun bs => D.bl (bs.all id)) = _
  rw [boolsOf_map]
  show some (D.bl ((xs.map f).all id)) = _
  rw [List.all_map]; rfl
theorem eq_ii (i j : Int) : eqD (.int i) (.int j) = some (i == j) := rfl
theorem eq_ss (i j : Str) : eqD (.str i) (.str j) = some (i == j) := rfl
theorem idx_t0 {x : D} {xs : List D} (h : x.pure = true) : idxD (.tup (x :: xs)) (.int 0) = some x := by
  show ((atI (x :: xs) 0).bind fun d => if d.pure then some d else none) = _
  have e : atI (x :: xs) 0 = some x := by unfold atI ixN; simp
  rw [e]; show (if x.pure = true then some x else none) = _; rw [if_pos h]
theorem idx_t1 {x y : D} {xs : List D} (h : y.pure = true) : idxD (.tup (x :: y :: xs)) (.int 1) = some y := by
  show ((atI (x :: y :: xs) 1).bind fun d => if d.pure then some d else none) = _
  have e : atI (x :: y :: xs) 1 = some y := by
    unfold atI ixN
    rw [if_pos (by decide), if_pos (by rw [List.length_cons, List.length_cons]; omega)]; rfl
  rw [e]; show (if y.pure = true then some y else none) = _; rw [if_pos h]
theorem idx_t2 {x y z : D} {xs : List D} (h : z.pure = true) : idxD (.tup (x :: y :: z :: xs)) (.int 2) = some z := by
  show ((atI (x :: y :: z :: xs) 2).bind fun d => if d.pure then some d else none) = _
  have e : atI (x :: y :: z :: xs) 2 = some z := by
    unfold atI ixN
    rw [if_pos (by decide), if_pos (by rw [List.length_cons, List.length_cons, List.length_cons]; omega)]; rfl
  rw [e]; show (if z.pure = true then some z else none) = _; rw [if_pos h]
theorem idx_t3 {x y z u : D} {xs : List D} (h : u.pure = true) : idxD (.tup (x :: y :: z :: u :: xs)) (.int 3) = some u := by
  show ((atI (x :: y :: z :: u :: xs) 3).bind fun d => if d.pure then some d else none) = _
  have e : atI (x :: y :: z :: u :: xs) 3 = some u := by
    unfold atI ixN
    rw [if_pos (by decide), if_pos (by rw [List.length_cons, List.length_cons, List.length_cons, List.length_cons]; omega)]; rfl
  rw [e]; show (if u.pure = true then some u else none) = _; rw [if_pos h]
theorem isi_tt (xs : List D) : isiD (.tup xs) [.tuple] = some (.bl true) := rfl
theorem isi_tl (xs : List D) : isiD (.tup xs) [.list] = some (.bl false) := rfl
theorem isi_ts (xs : List D) : isiD (.tup xs) [.str] = some (.bl false) := rfl
theorem isi_ll (o : Bool) (xs : List D) : isiD (.lst o xs) [.list] = some (.bl true) := rfl
theorem isi_lt (o : Bool) (xs : List D) : isiD (.lst o xs) [.tuple] = some (.bl false) := rfl
theorem isi_ls (o : Bool) (xs : List D) : isiD (.lst o xs) [.str] = some (.bl false) := rfl
theorem isi_ss (x : Str) : isiD (.str x) [.str] = some (.bl true) := rfl
theorem isi_st (x : Str) : isiD (.str x) [.tuple] = some (.bl false) := rfl
theorem isi_sl (x : Str) : isiD (.str x) [.list] = some (.bl false) := rfl
theorem isi_n (T : Ty) : isiD .non [T] = some (.bl false) := rfl
theorem small_if {α : Type} {b c : Bool} {x y : α} (h1 : b = true) (h2 : c = true) : (if (b && c) = true then x else y) = x := by subst h1 h2; rfl
theorem rng2_eq {a b : E} {ρ ρ1 ρ2 : VI.Env} {i j : Int} (h1 : (ev Γ a).v ρ = some (.ok (.int i) ρ1)) (h2 : (ev Γ b).v ρ1 = some (.ok (.int j) ρ2)) (s1 : small i = true) (s2 : small j = true) : (ev Γ (.rng2 a b)).it ρ = some (.ok (.tup (rangeD i j)) ρ2) := by
  rw [ei_rng2, h1, bindR_ok, h2, bindR_ok]
  exact small_if s1 s2
theorem rng_eq {a : E} {ρ ρ1 : VI.Env} {j : Int} (h1 : (ev Γ a).v ρ = some (.ok (.int j) ρ1)) (s1 : small j = true) : (ev Γ (.rng a)).it ρ = some (.ok (.tup (rangeD 0 j)) ρ1) := by
  rw [ei_rng, h1, bindR_ok]
  exact if_pos s1
theorem small_of {i : Int} (h1 : -4611686018427387904 ≤ i) (h2 : i < 4611686018427387904) : small i = true := by
  unfold small
  have e : (2 : Int) ^ 62 = 4611686018427387904 := by decide
  rw [e, Bool.and_eq_true, decide_eq_true_eq, decide_eq_true_eq]
  exact ⟨h1, h2⟩
/-- [f(one, ..) for one in value], truths -/
theorem comp_bools {nm : String} {i : Nat} {it elt : E} {ρ : VI.Env} {ds : List D} {g : D → Bool} (hit : (ev Γ it).it ρ = some (.ok (.tup ds) ρ)) (hp : D.pures ds = true) (hl : locks it = []) (hz : ds.length ≤ sizeLine)
    (he : ∀ d ∈ ds, (ev Γ elt).v (ρ.set i (some d)) = some (.ok (.bl (g d)) (ρ.set i (some d)))) :
    (ev Γ (.comp [(nm, i)] (.n i) it (.bl true) elt)).v ρ = some (.ok (.lst true (ds.map fun d => .bl (g d))) ρ) := by
  have h := comp_eq (Γ := Γ) (nm := nm) (i := i) (it := it) (c := .bl true) (elt := elt) (ρ := ρ) (ds := ds) (p := fun _ => true) (g := fun d => .bl (g d)) hit hp hl hz (fun d _ => rfl) fun d hd _ => he d hd
  have e : ds.filter (fun _ => true) = ds := by simp
  rw [e] at h
  exact h
end

set_option maxHeartbeats 4000000
set_option synthInstance.maxSize 128
set_option synthInstance.maxHeartbeats 20000
section
variable {Γ : Gam} {up : String → String → Bool}
theorem compLoop_gen {own : List Nat} {tg : Tg} {c elt : VI.Env → Option R} {p : D → Bool} {g : D → D} {w0 : VI.Env} {A : D → VI.Env} : ∀ (ds acc : List D) (ρ : VI.Env), (∀ d ∈ ds, assignT tg d w0 = some (A d) ∧ wipeE (A d) own = w0 ∧ c (A d) = some (.ok (.bl (p d)) (A d)) ∧ (p d = true → elt (A d) = some (.ok (g d) (A d)))) →
    acc.length + ds.length ≤ sizeLine → wipeE ρ own = w0 → ∃ ρ', compLoop own tg c elt ds acc ρ = some (.ok (.lst true (acc ++ (ds.filter p).map g)) ρ') ∧ wipeE ρ' own = w0
  | [], acc, ρ, _, _, hρ => ⟨ρ, by simp [compLoop], hρ⟩
  | d :: ds, acc, ρ, hd, hz, hρ => by
    obtain ⟨a1, a2, a3, a4⟩ := hd d List.mem_cons_self
    rw [List.length_cons] at hz
    cases hp : p d with
    | true =>
      obtain ⟨ρ', h3, h4⟩ := compLoop_gen ds (acc ++ [g d]) (A d) (fun d hd' => hd d (List.mem_cons_of_mem _ hd')) (by rw [List.length_append, List.length_singleton]; omega) a2
      refine ⟨ρ', ?_, h4⟩
      unfold compLoop
      rw [hp] at a3
      simp only [hρ, a1, Option.bind_some, a3, a4 hp]
      rw [if_pos (by omega), h3, List.filter_cons_of_pos hp, List.map_cons, List.append_assoc]; rfl
    | false =>
      obtain ⟨ρ', h3, h4⟩ := compLoop_gen ds acc (A d) (fun d hd' => hd d (List.mem_cons_of_mem _ hd')) (by omega) a2
      refine ⟨ρ', ?_, h4⟩
      unfold compLoop
      rw [hp] at a3
      simp only [hρ, a1, Option.bind_some, a3]
      rw [h3, List.filter_cons_of_neg (by rw [hp]; exact Bool.false_ne_true)]
theorem get_set {ρ : VI.Env} {i k : Nat} {o : Option D} : (ρ.set i o)[k]? = if i = k then (if i < ρ.length then some o else none) else ρ[k]? := by
  rw [List.getElem?_set]
theorem restore2 {ρ ρ' : VI.Env} {i j : Nat} (h : wipeE ρ' [i, j] = wipeE ρ [i, j]) : restore ρ ρ' [i, j] = ρ := by
  have hl : ρ'.length = ρ.length := by
    have := congrArg List.length h
    simpa [wipeE] using this
  apply List.ext_getElem?
  intro k
  have hk := congrArg (fun l : VI.Env => l[k]?) h
  simp only [wipeE, get_set, List.length_set] at hk
  simp only [restore, get_set, List.length_set]
  by_cases e1 : i = k
  · subst e1
    rw [if_pos rfl]
    by_cases hi : i < ρ.length
    · rw [if_pos (by omega), List.getElem?_eq_getElem hi]
      unfold slot
      rw [List.getElem?_eq_getElem hi]; rfl
    · rw [if_neg (by omega), List.getElem?_eq_none (by omega)]
  · rw [if_neg e1]
    by_cases e2 : j = k
    · subst e2
      rw [if_pos rfl]
      by_cases hi : j < ρ.length
      · rw [if_pos (by omega), List.getElem?_eq_getElem hi]
        unfold slot
        rw [List.getElem?_eq_getElem hi]; rfl
      · rw [if_neg (by omega), List.getElem?_eq_none (by omega)]
    · rw [if_neg e2]
      rw [if_neg e1, if_neg e1, if_neg e2, if_neg e2] at hk
      exact hk
theorem wipe_set2 {ρ : VI.Env} {i j : Nat} {a b : Option D} : wipeE (((wipeE ρ [i, j]).set i a).set j b) [i, j] = wipeE ρ [i, j] := by
  apply List.ext_getElem?
  intro k
  simp only [wipeE, get_set, List.length_set]
  by_cases e1 : i = k <;> by_cases e2 : j = k <;> simp [e1, e2]
/-- [elt for i, j in pairs if ..] -/
theorem comp2_eq {n1 n2 : String} {i j : Nat} {it c elt : E} {ρ : VI.Env} {ds : List D} {p : D → Bool} {g : D → D} (hit : (ev Γ it).it ρ = some (.ok (.tup ds) ρ)) (hp : D.pures ds = true) (hl : locks it = []) (hz : ds.length ≤ sizeLine)
    (he : ∀ d ∈ ds, ∃ a b, d = .tup [a, b] ∧ (ev Γ c).t (((wipeE ρ [i, j]).set i (some a)).set j (some b)) = some (.ok (.bl (p d)) (((wipeE ρ [i, j]).set i (some a)).set j (some b))) ∧
      (p d = true → (ev Γ elt).v (((wipeE ρ [i, j]).set i (some a)).set j (some b)) = some (.ok (g d) (((wipeE ρ [i, j]).set i (some a)).set j (some b))))) :
    (ev Γ (.comp [(n1, i), (n2, j)] (.t (.cons (.n i) (.cons (.n j) .nil))) it c elt)).v ρ = some (.ok (.lst true ((ds.filter p).map g)) ρ) := by
  rw [ev_comp, hit, bindR_ok]
  let A : D → VI.Env := fun d => match d with
    | .tup [a, b] => ((wipeE ρ [i, j]).set i (some a)).set j (some b)
    | _ => ρ
  obtain ⟨ρ', h3, h4⟩ := compLoop_gen (own := [i, j]) (tg := .t (.cons (.n i) (.cons (.n j) .nil))) (c := (ev Γ c).t) (elt := (ev Γ elt).v) (p := p) (g := g) (w0 := wipeE ρ [i, j]) (A := A) ds [] (wipeE ρ [i, j])
    (fun d hd => by
      obtain ⟨a, b, rfl, e1, e2⟩ := he d hd
      exact ⟨rfl, wipe_set2, e1, e2⟩) (by simpa using hz) (by
      apply List.ext_getElem?
      intro k
      simp only [wipeE, get_set, List.length_set]
      by_cases e1 : i = k <;> by_cases e2 : j = k <;> simp [e1, e2])
  show (if D.pures ds = true then bindR (compLoop [i, j] (.t (.cons (.n i) (.cons (.n j) .nil))) (ev Γ c).t (ev Γ elt).v ds [] (wipeE ρ (locks it ++ [i, j]))) _ else none) = _
  rw [if_pos hp, hl]
  show bindR (compLoop [i, j] (.t (.cons (.n i) (.cons (.n j) .nil))) (ev Γ c).t (ev Γ elt).v ds [] (wipeE ρ [i, j])) _ = _
  rw [h3, bindR_ok, List.nil_append]
  show some (R.ok _ (restore ρ ρ' [i, j])) = _
  rw [restore2 h4]
theorem enumD_mem {k : Nat} {xs : List D} {d : D} (h : d ∈ enumD k xs) : ∃ i x, d = .tup [.int ((i : Nat) : Int), x] ∧ x ∈ xs ∧ i < k + xs.length := by
  induction xs generalizing k with
  | nil => cases h
  | cons a xs ih =>
    rcases List.mem_cons.mp h with e | e
    · exact ⟨k, a, e, List.mem_cons_self, by rw [List.length_cons]; omega⟩
    · obtain ⟨i, x, e1, e2, e3⟩ := ih e
      exact ⟨i, x, e1, List.mem_cons_of_mem _ e2, by rw [List.length_cons]; omega⟩
theorem enumD_pures {k : Nat} {xs : List D} (h : D.pures xs = true) : D.pures (enumD k xs) = true := by
  induction xs generalizing k with
  | nil => rfl
  | cons a xs ih =>
    have h' := Bool.and_eq_true_iff.mp (by simpa [D.pures] using h)
    simp only [enumD, D.pures, D.pure, h'.1, ih h'.2]; rfl
end

set_option maxHeartbeats 4000000
set_option synthInstance.maxSize 128
set_option synthInstance.maxHeartbeats 20000
/-! ### what holds behind an evaluation -/
def W (x : Option R) (k : D → VI.Env → Prop) (X : String → D → VI.Env → Prop) : Prop := match x with
  | some (.ok d ρ) => k d ρ
  | some (.ex c d ρ) => X c d ρ
  | none => False
def WC (x : Option CR') (k : D → D → Prop) (X : String → D → Prop) : Prop := match x with
  | some (.ok d io) => k d io
  | some (.ex c d) => X c d
  | none => False
def WS (x : Option SR) (Q : SR → Prop) : Prop := match x with
  | some r => Q r
  | none => False
def WO {α : Type} (x : Option α) (k : α → Prop) : Prop := match x with
  | some a => k a
  | none => False
abbrev XS (Q : SR → Prop) : String → D → VI.Env → Prop := fun c d ρ => Q (.ex c d ρ)
/-- behind the first of two statements -/
def sK (k : VI.Env → Prop) (Q : SR → Prop) : SR → Prop
  | .nx ρ => k ρ
  | r => Q r
/-- behind a loop's body -/
def lK (k b : VI.Env → Prop) (Q : SR → Prop) : SR → Prop
  | .nx ρ => k ρ
  | .ct ρ => k ρ
  | .bk ρ => b ρ
  | r => Q r
/-- behind a def's body -/
def fK (io : Bool) (k : D → D → Prop) (X : String → D → Prop) : SR → Prop
  | .nx ρ => WC (finO io .non ρ) k X
  | .rt d ρ => WC (finO io d ρ) k X
  | .ex c d _ => X c d
  | _ => False
section
variable {Γ : Gam} {up : String → String → Bool} {ρ : VI.Env} {k : D → VI.Env → Prop} {X : String → D → VI.Env → Prop} {Q : SR → Prop}
theorem W.ok {d : D} (h : k d ρ) : W (some (.ok d ρ)) k X := h
theorem W.eq {x : Option R} {d : D} (e : x = some (.ok d ρ)) (h : k d ρ) : W x k X := by rw [e]; exact h
theorem W.bind {x : Option R} {f : D → VI.Env → Option R} (h : W x (fun d ρ => W (f d ρ) k X) X) : W (bindR x f) k X := by
  rcases x with _ | ⟨d, ρ⟩ | ⟨c, d, ρ⟩ <;> exact h
theorem WS.bind {x : Option R} {f : D → VI.Env → Option SR} (h : W x (fun d ρ => WS (f d ρ) Q) (XS Q)) : WS (bindS x f) Q := by
  rcases x with _ | ⟨d, ρ⟩ | ⟨c, d, ρ⟩ <;> exact h
theorem W.obind {α : Type} {x : Option α} {f : α → Option R} (h : WO x fun a => W (f a) k X) : W (x.bind f) k X := by
  rcases x with _ | a <;> exact h
theorem WS.obind {α : Type} {x : Option α} {f : α → Option SR} (h : WO x fun a => WS (f a) Q) : WS (x.bind f) Q := by
  rcases x with _ | a <;> exact h
theorem W.omap {α : Type} {x : Option α} {f : α → R} (h : WO x fun a => W (some (f a)) k X) : W (x.map f) k X := by
  rcases x with _ | a <;> exact h
theorem WS.omap {α : Type} {x : Option α} {f : α → SR} (h : WO x fun a => Q (f a)) : WS (x.map f) Q := by
  rcases x with _ | a <;> exact h
theorem WO.mk {α : Type} {x : Option α} {a : α} {k : α → Prop} (e : x = some a) (h : k a) : WO x k := by rw [e]; exact h
theorem WO.mono {α : Type} {x : Option α} {k k' : α → Prop} (h : WO x k') (h1 : ∀ a, k' a → k a) : WO x k := by
  rcases x with _ | a
  · exact h
  · exact h1 _ h
theorem W.mono {x : Option R} {k' : D → VI.Env → Prop} {X' : String → D → VI.Env → Prop} (h : W x k' X') (h1 : ∀ d ρ, k' d ρ → k d ρ) (h2 : ∀ c d ρ, X' c d ρ → X c d ρ) : W x k X := by
  rcases x with _ | ⟨d, ρ⟩ | ⟨c, d, ρ⟩
  · exact h
  · exact h1 _ _ h
  · exact h2 _ _ _ h
theorem WS.mono {x : Option SR} {Q' : SR → Prop} (h : WS x Q') (h1 : ∀ r, Q' r → Q r) : WS x Q := by
  rcases x with _ | r
  · exact h
  · exact h1 _ h
theorem WC.mono {x : Option CR'} {k k' : D → D → Prop} {X X' : String → D → Prop} (h : WC x k' X') (h1 : ∀ d ρ, k' d ρ → k d ρ) (h2 : ∀ c d, X' c d → X c d) : WC x k X := by
  rcases x with _ | ⟨d, ρ⟩ | ⟨c, d⟩
  · exact h
  · exact h1 _ _ h
  · exact h2 _ _ h
theorem WC.ok {x : Option CR'} {k : D → D → Prop} {X : String → D → Prop} {d io : D} (e : x = some (.ok d io)) (h : k d io) : WC x k X := by rw [e]; exact h
theorem WC.ex {x : Option CR'} {k : D → D → Prop} {X : String → D → Prop} {c : String} {d : D} (e : x = some (.ex c d)) (h : X c d) : WC x k X := by rw [e]; exact h
/-- a call that ends well -/
theorem WC.use {x : Option CR'} {k k' : D → D → Prop} {X : String → D → Prop} (h : WC x k' (fun _ _ => False)) (h1 : ∀ d io, k' d io → k d io) : WC x k X := h.mono h1 (fun _ _ z => z.elim)
theorem WC.eq {x : Option CR'} {d io : D} (h : WC x (fun d' io' => d' = d ∧ io' = io) (fun _ _ => False)) : x = some (.ok d io) := by
  rcases x with _ | ⟨d, ρ⟩ | ⟨c, d⟩
  · exact h.elim
  · rw [h.1, h.2]
  · exact h.elim
theorem WC.eqx {x : Option CR'} {c : String} {d : D} (h : WC x (fun _ _ => False) (fun c' d' => c' = c ∧ d' = d)) : x = some (.ex c d) := by
  rcases x with _ | ⟨d, ρ⟩ | ⟨c, d⟩
  · exact h.elim
  · exact h.elim
  · rw [h.1, h.2]

/-! expressions -/
theorem wv_non (h : k .non ρ) : W ((ev Γ .non).v ρ) k X := h
theorem wv_bl {b : Bool} (h : k (.bl b) ρ) : W ((ev Γ (.bl b)).v ρ) k X := h
theorem wv_int {i : Int} (h : k (.int i) ρ) : W ((ev Γ (.int i)).v ρ) k X := h
theorem wv_str {x : String} (h : k (.str x) ρ) : W ((ev Γ (.str x)).v ρ) k X := h
theorem wv_gi {x : String} {i : Int} (h : k (.int i) ρ) : W ((ev Γ (.gi x i)).v ρ) k X := h
theorem wv_fn {x : String} (h : k (.fn x) ρ) : W ((ev Γ (.fn x)).v ρ) k X := h
theorem wv_cls {x : String} (h : k (.cls x) ρ) : W ((ev Γ (.cls x)).v ρ) k X := h
theorem wv_edic (h : k .edic ρ) : W ((ev Γ .edic).v ρ) k X := h
theorem wv_nil (h : k .non ρ) : W ((ev Γ .nil).v ρ) k X := h
theorem wv_var {i : Nat} {d : D} (e : slot ρ i = some d) (p : d.pure = true) (h : k d ρ) : W ((ev Γ (.var i)).v ρ) k X := by
  show W ((slot ρ i).bind _) k X
  rw [e]; show W (if d.pure = true then _ else _) k X; rw [if_pos p]; exact h
theorem wv_mov {i : Nat} {d : D} (e : slot ρ i = some d) (h : k d (ρ.set i none)) : W ((ev Γ (.mov i)).v ρ) k X := by
  show W ((slot ρ i).map _) k X
  rw [e]; exact h
theorem wv_bor {i : Nat} {d : D} (e : slot ρ i = some d) (h : k d ρ) : W ((ev Γ (.bor i)).v ρ) k X := by
  show W ((slot ρ i).map _) k X
  rw [e]; exact h
theorem wv_fzs {i : Nat} {d : D} (e : slot ρ i = some d) (h : k d.frz (ρ.set i (some d.frz))) : W ((ev Γ (.fzs i)).v ρ) k X := by
  show W ((slot ρ i).map _) k X
  rw [e]; exact h
theorem wv_frz {e : E} (h : W ((ev Γ e).v ρ) (fun d ρ => k d.frz ρ) X) : W ((ev Γ (.frz e)).v ρ) k X := W.bind (f := fun d ρ => some (.ok d.frz ρ)) h
theorem wv_frzi {e : E} (h : W ((ev Γ e).v ρ) (fun d ρ => ∃ xs, d = .lst true xs ∧ k (.lst true (D.frzs xs)) ρ) X) : W ((ev Γ (.frzi e)).v ρ) k X :=
  W.bind (f := fun d ρ => match d with | .lst true xs => some (.ok (.lst true (D.frzs xs)) ρ) | _ => none) (h.mono (fun d ρ ⟨xs, e, h⟩ => by subst e; exact h) fun _ _ _ h => h)
theorem wa_nil (h : k (.tup []) ρ) : W ((ev Γ .nil).as ρ) k X := h
theorem wa_cons {a r : E} (h : W ((ev Γ a).v ρ) (fun d ρ1 => W ((ev Γ r).as ρ1) (fun ds ρ2 => WO (late a d ρ2) fun d' => k (.tup (d' :: tupOf ds)) ρ2) X) X) : W ((ev Γ (.cons a r)).as ρ) k X := by
  rw [ea_cons]
  refine W.bind (h.mono (fun d ρ h => W.bind (h.mono (fun d ρ h => W.omap h) fun _ _ _ h => h)) fun _ _ _ h => h)
theorem wv_tup {es : E} (h : W ((ev Γ es).as ρ) (fun ds ρ => (tupOf ds).length ≤ sizeLine ∧ k (.tup (tupOf ds)) ρ) X) : W ((ev Γ (.tup es)).v ρ) k X := by
  rw [ev_tup]
  exact W.bind (h.mono (fun d ρ h => by rw [if_pos h.1]; exact h.2) fun _ _ _ h => h)
theorem wv_lst {es : E} (h : W ((ev Γ es).as ρ) (fun ds ρ => (tupOf ds).length ≤ sizeLine ∧ k (.lst true (tupOf ds)) ρ) X) : W ((ev Γ (.lst es)).v ρ) k X := by
  rw [ev_lst]
  exact W.bind (h.mono (fun d ρ h => by rw [if_pos h.1]; exact h.2) fun _ _ _ h => h)
theorem wv_bin {op : Operator} {a b : E} (h : W ((ev Γ a).v ρ) (fun x ρ1 => W ((ev Γ b).v ρ1) (fun y ρ2 => WO (late a x ρ2) fun x => WO (binD op x y) fun d => k d ρ2) X) X) : W ((ev Γ (.bin op a b)).v ρ) k X := by
  rw [ev_bin]
  exact W.bind (h.mono (fun d ρ h => W.bind (h.mono (fun d ρ h => W.obind (by revert h; cases late a _ _ with | none => exact fun z => z | some x => exact fun h => W.omap h)) fun _ _ _ h => h)) fun _ _ _ h => h)
theorem wv_cmp {op : CmpOp} {a b : E} (h : W ((ev Γ a).v ρ) (fun x ρ1 => W ((ev Γ b).v ρ1) (fun y ρ2 => WO (late a x ρ2) fun x => WO (cmpD op x y) fun d => k (.bl d) ρ2) X) X) : W ((ev Γ (.cmp op a b)).v ρ) k X := by
  rw [ev_cmp]
  exact W.bind (h.mono (fun d ρ h => W.bind (h.mono (fun d ρ h => W.obind (by revert h; cases late a _ _ with | none => exact fun z => z | some x => exact fun h => W.omap h)) fun _ _ _ h => h)) fun _ _ _ h => h)
theorem wv_idx {a i : E} (h : W ((ev Γ a).v ρ) (fun x ρ1 => W ((ev Γ i).v ρ1) (fun y ρ2 => WO (late a x ρ2) fun x => WO (idxD x y) fun d => k d ρ2) X) X) : W ((ev Γ (.idx a i)).v ρ) k X := by
  rw [ev_idx]
  exact W.bind (h.mono (fun d ρ h => W.bind (h.mono (fun d ρ h => W.obind (by revert h; cases late a _ _ with | none => exact fun z => z | some x => exact fun h => W.omap h)) fun _ _ _ h => h)) fun _ _ _ h => h)
theorem wv_sl {a lo hi : E} (h : W ((ev Γ a).v ρ) (fun x ρ1 => W ((ev Γ lo).v ρ1) (fun y ρ2 => WO (partD lo y) fun l => W ((ev Γ hi).v ρ2) (fun z ρ3 => WO (late a x ρ3) fun x => WO (partD hi z) fun h => WO (slD x l h) fun d => k d ρ3) X) X) X) : W ((ev Γ (.sl a lo hi)).v ρ) k X := by
  rw [ev_sl]
  refine W.bind (h.mono (fun d ρ h => W.bind (h.mono (fun y ρ h => W.obind (WO.mono h fun l h => ?_)) fun _ _ _ h => h)) fun _ _ _ h => h)
  exact W.bind (h.mono (fun z ρ h => W.obind (WO.mono h fun x h => W.obind (WO.mono h fun u h => W.omap h))) fun _ _ _ h => h)
theorem wv_neg {a : E} (h : W ((ev Γ a).v ρ) (fun x ρ => ∃ i, x = .int i ∧ k (.int (-i)) ρ) X) : W ((ev Γ (.neg a)).v ρ) k X := by
  rw [ev_neg]
  exact W.bind (h.mono (fun d ρ ⟨i, e, h⟩ => by subst e; exact h) fun _ _ _ h => h)
theorem wv_not {a : E} (h : W ((ev Γ a).v ρ) (fun x ρ => WO (truth x) fun b => k (.bl (!b)) ρ) X) : W ((ev Γ (.not a)).v ρ) k X := by
  rw [ev_not]
  exact W.bind (h.mono (fun d ρ h => W.omap h) fun _ _ _ h => h)
/-- what holds of a truth -/
def wB (d : D) (ρ : VI.Env) (k : Bool → VI.Env → Prop) : Prop := ∃ b, d = .bl b ∧ k b ρ
theorem wB.mk {b : Bool} {k : Bool → VI.Env → Prop} (h : k b ρ) : wB (.bl b) ρ k := ⟨b, rfl, h⟩
/-- either way -/
def wI (b : Bool) (p q : Prop) : Prop := match b with | true => p | false => q
theorem wI.t {p q : Prop} (h : p) : wI true p q := h
theorem wI.f {p q : Prop} (h : q) : wI false p q := h
theorem wI.both {b : Bool} {p q : Prop} (h1 : b = true → p) (h2 : b = false → q) : wI b p q := by
  cases b with
  | false => exact h2 rfl
  | true => exact h1 rfl
theorem wt_not {a : E} (h : W ((ev Γ a).t ρ) (fun x ρ => wB x ρ fun b ρ => k (.bl (!b)) ρ) X) : W ((ev Γ (.not a)).t ρ) k X := by
  rw [et_not]
  exact W.bind (h.mono (fun d ρ ⟨b, e, h⟩ => by subst e; exact h) fun _ _ _ h => h)
theorem wt_and {a b : E} (h : W ((ev Γ a).t ρ) (fun x ρ => wB x ρ fun c ρ => wI c (W ((ev Γ b).t ρ) k X) (k (.bl false) ρ)) X) : W ((ev Γ (.and a b)).t ρ) k X := by
  rw [et_and]
  exact W.bind (h.mono (fun d ρ ⟨b, e, h⟩ => by subst e; cases b <;> exact h) fun _ _ _ h => h)
theorem wt_or {a b : E} (h : W ((ev Γ a).t ρ) (fun x ρ => wB x ρ fun c ρ => wI c (k (.bl true) ρ) (W ((ev Γ b).t ρ) k X)) X) : W ((ev Γ (.or a b)).t ρ) k X := by
  rw [et_or]
  exact W.bind (h.mono (fun d ρ ⟨b, e, h⟩ => by subst e; cases b <;> exact h) fun _ _ _ h => h)
theorem wv_and {a b : E} (h : W ((ev Γ a).v ρ) (fun x ρ => WO (truth x) fun c => wI c (W ((ev Γ b).v ρ) k X) (k x ρ)) X) : W ((ev Γ (.and a b)).v ρ) k X := by
  rw [ev_and]
  refine W.bind (h.mono (fun d ρ h => W.obind ?_) fun _ _ _ h => h)
  revert h; cases truth d with
  | none => exact fun z => z
  | some c => cases c <;> exact fun h => h
theorem wv_or {a b : E} (h : W ((ev Γ a).v ρ) (fun x ρ => WO (truth x) fun c => wI c (k x ρ) (W ((ev Γ b).v ρ) k X)) X) : W ((ev Γ (.or a b)).v ρ) k X := by
  rw [ev_or]
  refine W.bind (h.mono (fun d ρ h => W.obind ?_) fun _ _ _ h => h)
  revert h; cases truth d with
  | none => exact fun z => z
  | some c => cases c <;> exact fun h => h
theorem wv_ite {c a b : E} (h : W ((ev Γ c).t ρ) (fun x ρ => wB x ρ fun c ρ => wI c (W ((ev Γ a).v ρ) k X) (W ((ev Γ b).v ρ) k X)) X) : W ((ev Γ (.ite c a b)).v ρ) k X := by
  rw [ev_ite]
  exact W.bind (h.mono (fun d ρ ⟨b, e, h⟩ => by subst e; cases b <;> exact h) fun _ _ _ h => h)
theorem wv_cmp2 {o1 o2 : CmpOp} {a b c : E} (h : W ((ev Γ a).v ρ) (fun x ρ1 => W ((ev Γ b).v ρ1) (fun y ρ2 => WO (cmpD o1 x y) fun r => wI r (W ((ev Γ c).v ρ2) (fun z ρ3 => WO (cmpD o2 y z) fun r => k (.bl r) ρ3) X) (k (.bl false) ρ2)) X) X) : W ((ev Γ (.cmp2 o1 o2 a b c)).v ρ) k X := by
  rw [ev_cmp2]
  refine W.bind (h.mono (fun d ρ h => W.bind (h.mono (fun y ρ h => W.obind (WO.mono h fun r h => ?_)) fun _ _ _ h => h)) fun _ _ _ h => h)
  cases r with
  | false => exact h
  | true => exact W.bind (W.mono h (fun d ρ h => W.omap h) fun _ _ _ h => h)
theorem wt_of {a : E} (e : (ev Γ a).t ρ = bindR ((ev Γ a).v ρ) fun d ρ => (truth d).map fun b => .ok (.bl b) ρ) (h : W ((ev Γ a).v ρ) (fun x ρ => WO (truth x) fun b => k (.bl b) ρ) X) : W ((ev Γ a).t ρ) k X := by
  rw [e]
  exact W.bind (h.mono (fun d ρ h => W.omap h) fun _ _ _ h => h)
theorem wi_of {a : E} (e : (ev Γ a).it ρ = bindR ((ev Γ a).v ρ) fun d ρ => (itemsOf d).map fun ds => .ok (.tup ds) ρ) (h : W ((ev Γ a).v ρ) (fun x ρ => WO (itemsOf x) fun ds => k (.tup ds) ρ) X) : W ((ev Γ a).it ρ) k X := by
  rw [e]
  exact W.bind (h.mono (fun d ρ h => W.omap h) fun _ _ _ h => h)
theorem wv_bi {b : BI} {as : E} (h : W ((ev Γ as).as ρ) (fun ds ρ => WO (biD b (tupOf ds)) fun d => k d ρ) X) : W ((ev Γ (.bi b as)).v ρ) k X := by
  rw [ev_bi]
  exact W.bind (h.mono (fun d ρ h => W.omap h) fun _ _ _ h => h)
theorem wv_isi {a : E} {ts : List Ty} (h : W ((ev Γ a).v ρ) (fun x ρ => WO (isiD x ts) fun d => k d ρ) X) : W ((ev Γ (.isi a ts)).v ρ) k X := by
  rw [ev_isi]
  exact W.bind (h.mono (fun d ρ h => W.omap h) fun _ _ _ h => h)
theorem wv_fld {a : E} (h : W ((ev Γ a).v ρ) (fun x ρ => ∃ c v, x = .exc c v ∧ k v ρ) X) : W ((ev Γ (.fld a)).v ρ) k X :=
  W.bind (f := fun x ρ => match x with | .exc _ v => some (.ok v ρ) | _ => none) (h.mono (fun d ρ ⟨c, v, e, h⟩ => by subst e; exact h) fun _ _ _ h => h)
theorem wv_lrg {a : E} (h : W ((ev Γ a).v ρ) (fun x ρ => ∃ j, x = .int j ∧ (-(2 ^ 62) ≤ j ∧ j ≤ (sizeLine : Nat)) ∧ k (.lst true (rangeD 0 j)) ρ) X) : W ((ev Γ (.lrg a)).v ρ) k X := by
  rw [ev_lrg]
  exact W.bind (h.mono (fun d ρ ⟨j, e, h1, h⟩ => by subst e; show W (if _ then _ else _) k X; rw [if_pos (by rw [Bool.and_eq_true, decide_eq_true_eq, decide_eq_true_eq]; exact h1)]; exact h) fun _ _ _ h => h)
theorem wi_rng {a : E} (h : W ((ev Γ a).v ρ) (fun x ρ => ∃ j, x = .int j ∧ small j = true ∧ k (.tup (rangeD 0 j)) ρ) X) : W ((ev Γ (.rng a)).it ρ) k X := by
  rw [ei_rng]
  exact W.bind (h.mono (fun d ρ ⟨j, e, h1, h⟩ => by subst e; show W (if _ then _ else _) k X; rw [if_pos h1]; exact h) fun _ _ _ h => h)
theorem wi_rng2 {a b : E} (h : W ((ev Γ a).v ρ) (fun x ρ => W ((ev Γ b).v ρ) (fun y ρ => ∃ i j, x = .int i ∧ y = .int j ∧ small i = true ∧ small j = true ∧ k (.tup (rangeD i j)) ρ) X) X) : W ((ev Γ (.rng2 a b)).it ρ) k X := by
  rw [ei_rng2]
  exact W.bind (h.mono (fun d ρ h => W.bind (h.mono (fun y ρ ⟨i, j, e1, e2, h1, h2, h3⟩ => by subst e1; subst e2; show W (if _ then _ else _) k X; rw [small_if h1 h2]; exact h3) fun _ _ _ h => h)) fun _ _ _ h => h)
theorem wi_enum {a : E} (h : W ((ev Γ a).v ρ) (fun x ρ => WO (lstOf x) fun xs => k (.tup (enumD 0 xs)) ρ) X) : W ((ev Γ (.enum a)).it ρ) k X := by
  show W (bindR _ _) k X
  exact W.bind (h.mono (fun d ρ h => W.omap h) fun _ _ _ h => h)
theorem wi_zip {a b : E} {st : Bool} (h : W ((ev Γ a).v ρ) (fun x ρ1 => W ((ev Γ b).v ρ1) (fun y ρ2 => WO (late a x ρ2) fun x => WO (lstOf x) fun xs => WO (lstOf y) fun ys => (st = true → xs.length = ys.length) ∧ k (.tup (zipD xs ys)) ρ2) X) X) : W ((ev Γ (.zip a b st)).it ρ) k X := by
  show W (bindR _ _) k X
  refine W.bind (h.mono (fun d ρ h => W.bind (h.mono (fun y ρ h => W.obind ?_) fun _ _ _ h => h)) fun _ _ _ h => h)
  refine WO.mono h fun x h => W.obind (WO.mono h fun xs h => W.obind (WO.mono h fun ys h => ?_))
  obtain ⟨h1, h2⟩ := h
  show W (if _ then _ else _) k X
  cases st with
  | false => exact h2
  | true => rw [h1 rfl, bne_self_eq_false, Bool.and_false, if_neg Bool.false_ne_true]; exact h2
theorem wv_call {f : String} {as : E} (h : W ((ev Γ as).as ρ) (fun ds ρ => WC (Γ f (seens as (tupOf ds))) (fun d io => (anyImp as (tupOf ds) && !(d.nosh && io.nosh)) = false ∧ k d ρ) (fun c d => (anyImp as (tupOf ds) && !d.nosh) = false ∧ X c d ρ)) X) : W ((ev Γ (.call f as)).v ρ) k X := by
  rw [ev_call]
  refine W.bind (h.mono (fun ds ρ h => ?_) fun _ _ _ h => h)
  revert h; rcases Γ f (seens as (tupOf ds)) with _ | ⟨d, io⟩ | ⟨c, d⟩
  · exact fun z => z
  · rintro ⟨h1, h2⟩; show W (if _ then _ else _) k X; rw [h1]; exact h2
  · rintro ⟨h1, h2⟩; show W (if _ then _ else _) k X; rw [h1]; exact h2
theorem wv_callk {f : String} {ns : List String} {perm : List Nat} {as ks : E} (h : W ((ev Γ as).as ρ) (fun ds ρ => W ((ev Γ ks).as ρ) (fun es ρ => D.pures (tupOf ds) = true ∧ D.pures (tupOf es) = true ∧ WO (permD (tupOf ds ++ tupOf es) perm) fun vs => WC (Γ f vs) (fun d _ => k d ρ) (fun c d => X c d ρ)) X) X) : W ((ev Γ (.callk f ns perm as ks)).v ρ) k X := by
  rw [ev_callk]
  refine W.bind (h.mono (fun ds ρ h => W.bind (h.mono (fun es ρ h => ?_) fun _ _ _ h => h)) fun _ _ _ h => h)
  obtain ⟨h1, h2, h⟩ := h
  rw [h1, h2, Bool.and_true, if_pos rfl]
  refine W.obind ?_
  revert h; cases permD _ perm with
  | none => exact fun z => z
  | some vs =>
    show WC (Γ f vs) _ _ → W (afterCall false (Γ f vs) _ _) k X
    rcases Γ f vs with _ | ⟨d, io⟩ | ⟨c, d⟩ <;> exact fun z => z
theorem wv_callv {i : Nat} {as : E} {f : String} (e : slot ρ i = some (.fn f)) (h : W ((ev Γ as).as ρ) (fun ds ρ => WC (Γ f (seens as (tupOf ds))) (fun d io => (anyImp as (tupOf ds) && !(d.nosh && io.nosh)) = false ∧ k d ρ) (fun c d => (anyImp as (tupOf ds) && !d.nosh) = false ∧ X c d ρ)) X) : W ((ev Γ (.callv i as)).v ρ) k X := by
  rw [ev_callv, e]
  refine W.bind (h.mono (fun ds ρ h => ?_) fun _ _ _ h => h)
  revert h; show _ → W (afterCall _ (Γ f (seens as (tupOf ds))) _ _) k X
  rcases Γ f (seens as (tupOf ds)) with _ | ⟨d, io⟩ | ⟨c, d⟩
  · exact fun z => z
  · rintro ⟨h1, h2⟩; show W (if _ then _ else _) k X; rw [h1]; exact h2
  · rintro ⟨h1, h2⟩; show W (if _ then _ else _) k X; rw [h1]; exact h2
theorem wv_callb {f : String} {i : Nat} {a as : E} {x0 : D} (e0 : slot ρ i = some x0) (h : W ((ev Γ a).v ρ) (fun d ρ1 => W ((ev Γ as).as ρ1) (fun ds ρ2 => ∃ x, slot ρ2 i = some x ∧ d.pure = true ∧
    WC (Γ f (.lst false [x.frz, d] :: tupOf ds)) (fun d2 io => ((!x.pure) && !(d2.nosh && io.nosh)) = false ∧ k d2 ρ2) (fun c d2 => ((!x.pure) && !d2.nosh) = false ∧ X c d2 ρ2)) X) X) : W ((ev Γ (.callb f i a as)).v ρ) k X := by
  show W ((slot ρ i).bind _) k X
  rw [e0]
  refine W.bind (h.mono (fun d ρ1 h => W.bind (h.mono (fun ds ρ2 h => ?_) fun _ _ _ h => h)) fun _ _ _ h => h)
  obtain ⟨x, e, hp, h⟩ := h
  show W ((slot ρ2 i).bind _) k X
  rw [e]
  show W (if d.pure = true then _ else _) k X
  rw [if_pos hp]
  revert h; show _ → W (afterCall _ (Γ f (.lst false [x.frz, d] :: tupOf ds)) _ _) k X
  rcases Γ f (.lst false [x.frz, d] :: tupOf ds) with _ | ⟨d, io⟩ | ⟨c, d⟩
  · exact fun z => z
  · rintro ⟨h1, h2⟩; show W (if _ then _ else _) k X; rw [h1]; exact h2
  · rintro ⟨h1, h2⟩; show W (if _ then _ else _) k X; rw [h1]; exact h2
theorem wv_calli {f : String} {i : Nat} {as : E} {x0 : D} (e0 : slot ρ i = some x0) (h : W ((ev Γ as).as ρ) (fun ds ρ => ∃ x, slot ρ i = some x ∧ WC (Γ f (x :: seens as (tupOf ds))) (fun d io => (anyImp as (tupOf ds) && !(d.nosh && io.nosh)) = false ∧ k d (ρ.set i (some io))) (fun c d => (anyImp as (tupOf ds) && !d.nosh) = false ∧ X c d (ρ.set i none))) X) : W ((ev Γ (.calli f i as)).v ρ) k X := by
  rw [ev_calli, e0]
  show W (bindR _ _) k X
  refine W.bind (h.mono (fun ds ρ h => ?_) fun _ _ _ h => h)
  obtain ⟨x, e, h⟩ := h
  rw [e]
  revert h; show _ → W (afterCall _ (Γ f (x :: seens as (tupOf ds))) _ _) k X
  rcases Γ f (x :: seens as (tupOf ds)) with _ | ⟨d, io⟩ | ⟨c, d⟩
  · exact fun z => z
  · rintro ⟨h1, h2⟩; show W (if _ then _ else _) k X; rw [h1]; exact h2
  · rintro ⟨h1, h2⟩; show W (if _ then _ else _) k X; rw [h1]; exact h2
theorem wv_pop {i : Nat} {a : E} {xs0 : List D} (e0 : slot ρ i = some (.lst true xs0)) (h : W ((ev Γ a).v ρ) (fun y ρ => ∃ xs n j d, slot ρ i = some (.lst true xs) ∧ y = .int n ∧ D.pures xs = true ∧ small n = true ∧ seqIndex? n xs.length = some j ∧ xs[j]? = some d ∧ k d (ρ.set i (some (.lst true (xs.eraseIdx j))))) X) : W ((ev Γ (.pop i a)).v ρ) k X := by
  show W (match slot ρ i with | some (.lst true _) => _ | _ => none) k X
  rw [e0]
  refine W.bind (h.mono (fun y ρ h => ?_) fun _ _ _ h => h)
  obtain ⟨xs, n, j, d, e1, rfl, h1, h2, h3, h4, h5⟩ := h
  rw [e1]
  show W (if (D.pures xs && small n) = true then _ else _) k X
  rw [h1, h2, Bool.and_true, if_pos rfl, h3]
  show W (Option.map _ xs[j]?) k X
  rw [h4]; exact h5
theorem wv_pop0 {i : Nat} {xs : List D} {d : D} (e0 : slot ρ i = some (.lst true xs)) (hp : D.pures xs = true) (hd : xs[xs.length - 1]? = some d) (h : k d (ρ.set i (some (.lst true xs.dropLast)))) : W ((ev Γ (.pop0 i)).v ρ) k X := by
  show W (match slot ρ i with | some (.lst true xs) => _ | _ => none) k X
  rw [e0]
  show W (if D.pures xs = true then _ else _) k X
  rw [if_pos hp, hd]; exact h

/-! statements -/
theorem ws_nil (h : Q (.nx ρ)) : WS (evS Γ up .nil ρ) Q := h
theorem ws_seq {s t : S} (h : WS (evS Γ up s ρ) (sK (fun ρ => WS (evS Γ up t ρ) Q) Q)) : WS (evS Γ up (.seq s t) ρ) Q := by
  show WS (match evS Γ up s ρ with | some (.nx ρ1) => evS Γ up t ρ1 | r => r) Q
  revert h; rcases evS Γ up s ρ with _ | (ρ | ⟨d, ρ⟩ | ρ | ρ | ⟨c, d, ρ⟩) <;> exact fun h => h
theorem sK_nx {k : VI.Env → Prop} (h : k ρ) : sK k Q (.nx ρ) := h
theorem sK_rt {k : VI.Env → Prop} {d : D} (h : Q (.rt d ρ)) : sK k Q (.rt d ρ) := h
theorem sK_ex {k : VI.Env → Prop} {c : String} {d : D} (h : Q (.ex c d ρ)) : sK k Q (.ex c d ρ) := h
theorem sK_bk {k : VI.Env → Prop} (h : Q (.bk ρ)) : sK k Q (.bk ρ) := h
theorem sK_ct {k : VI.Env → Prop} (h : Q (.ct ρ)) : sK k Q (.ct ρ) := h
theorem lK_nx {k b : VI.Env → Prop} (h : k ρ) : lK k b Q (.nx ρ) := h
theorem lK_ct {k b : VI.Env → Prop} (h : k ρ) : lK k b Q (.ct ρ) := h
theorem lK_bk {k b : VI.Env → Prop} (h : b ρ) : lK k b Q (.bk ρ) := h
theorem lK_rt {k b : VI.Env → Prop} {d : D} (h : Q (.rt d ρ)) : lK k b Q (.rt d ρ) := h
theorem lK_ex {k b : VI.Env → Prop} {c : String} {d : D} (h : Q (.ex c d ρ)) : lK k b Q (.ex c d ρ) := h
theorem fK_rt {k : D → D → Prop} {X : String → D → Prop} {d : D} (h : k d .non) : fK false k X (.rt d ρ) := h
theorem fK_nx {k : D → D → Prop} {X : String → D → Prop} (h : k .non .non) : fK false k X (.nx ρ) := h
theorem fK_ex {io : Bool} {k : D → D → Prop} {X : String → D → Prop} {c : String} {d : D} (h : X c d) : fK io k X (.ex c d ρ) := h
theorem fK_rti {k : D → D → Prop} {X : String → D → Prop} {d : D} {xs : List D} (e : slot ρ 0 = some (.lst true xs)) (h : k d (.lst true xs)) : fK true k X (.rt d ρ) := by
  show WC (match slot ρ 0 with | some (.lst true xs) => some (.ok d (.lst true xs)) | _ => none) k X
  rw [e]; exact h
theorem fK_nxi {k : D → D → Prop} {X : String → D → Prop} {xs : List D} (e : slot ρ 0 = some (.lst true xs)) (h : k .non (.lst true xs)) : fK true k X (.nx ρ) := by
  show WC (match slot ρ 0 with | some (.lst true xs) => some (.ok .non (.lst true xs)) | _ => none) k X
  rw [e]; exact h
theorem ws_asg {tg : Tg} {e : E} (h : W ((ev Γ e).v ρ) (fun d ρ => WO (assignT tg d ρ) fun ρ => Q (.nx ρ)) (XS Q)) : WS (evS Γ up (.asg tg e) ρ) Q := WS.bind (f := fun d ρ => (assignT tg d ρ).map .nx) (h.mono (fun d ρ h => WS.omap h) fun _ _ _ h => h)
theorem ws_par {is : List Nat} {es : E} (h : W ((ev Γ es).as ρ) (fun ds ρ => (tupOf ds).length = is.length ∧ Q (.nx (setAll is (tupOf ds) ρ))) (XS Q)) : WS (evS Γ up (.par is es) ρ) Q := by
  refine WS.bind (f := fun ds ρ => if (tupOf ds).length = is.length then some (.nx (setAll is (tupOf ds) ρ)) else none) (h.mono (fun d ρ h => ?_) fun _ _ _ h => h)
  rw [if_pos h.1]; exact h.2
theorem ws_ex {e : E} (h : W ((ev Γ e).v ρ) (fun _ ρ => Q (.nx ρ)) (XS Q)) : WS (evS Γ up (.ex e) ρ) Q := WS.bind (f := fun _ ρ => some (.nx ρ)) h
theorem ws_ifs {c : E} {a b : S} (h : W ((ev Γ c).t ρ) (fun x ρ => wB x ρ fun c ρ => wI c (WS (evS Γ up a ρ) Q) (WS (evS Γ up b ρ) Q)) (XS Q)) : WS (evS Γ up (.ifs c a b) ρ) Q :=
  WS.bind (f := fun x ρ => match x with | .bl true => evS Γ up a ρ | .bl false => evS Γ up b ρ | _ => none) (h.mono (fun d ρ ⟨b, e, h⟩ => by subst e; cases b <;> exact h) fun _ _ _ h => h)
theorem ws_ret {e : E} (h : W ((ev Γ e).v ρ) (fun d ρ => Q (.rt d ρ)) (XS Q)) : WS (evS Γ up (.ret e) ρ) Q := WS.bind (f := fun d ρ => some (.rt d ρ)) h
theorem ws_retn (h : Q (.rt .non ρ)) : WS (evS Γ up .retn ρ) Q := h
theorem ws_pass (h : Q (.nx ρ)) : WS (evS Γ up .pass ρ) Q := h
theorem ws_brk (h : Q (.bk ρ)) : WS (evS Γ up .brk ρ) Q := h
theorem ws_cnt (h : Q (.ct ρ)) : WS (evS Γ up .cnt ρ) Q := h
theorem ws_raise {c : String} {e : E} (h : W ((ev Γ e).v ρ) (fun d ρ => d.pure = true ∧ Q (.ex c d ρ)) (XS Q)) : WS (evS Γ up (.raise c e) ρ) Q := by
  refine WS.bind (f := fun d ρ => if d.pure then some (.ex c d ρ) else none) (h.mono (fun d ρ h => ?_) fun _ _ _ h => h)
  rw [if_pos h.1]; exact h.2
theorem ws_seti {i : Nat} {ix e : E} (h : W ((ev Γ e).v ρ) (fun d ρ => ∃ xs0, slot ρ i = some (.lst true xs0) ∧ W ((ev Γ ix).v ρ) (fun y ρ => ∃ xs n j, slot ρ i = some (.lst true xs) ∧ y = .int n ∧ D.pures xs = true ∧ d.pure = true ∧ ixN xs.length n = some j ∧ Q (.nx (ρ.set i (some (.lst true (xs.set j d)))))) (XS Q)) (XS Q)) : WS (evS Γ up (.seti i ix e) ρ) Q := by
  show WS (bindS _ _) Q
  refine WS.bind (h.mono (fun d ρ h => ?_) fun _ _ _ h => h)
  obtain ⟨xs0, e0, h⟩ := h
  rw [e0]
  refine WS.bind (h.mono (fun y ρ h => ?_) fun _ _ _ h => h)
  obtain ⟨xs, n, j, e1, rfl, h1, h2, h3, h4⟩ := h
  rw [e1]
  show WS (if (D.pures xs && d.pure) = true then _ else _) Q
  rw [h1, h2, Bool.and_true, if_pos rfl, h3]; exact h4
theorem ws_app {i : Nat} {e : E} {xs0 : List D} (e0 : slot ρ i = some (.lst true xs0)) (h : W ((ev Γ e).v ρ) (fun d ρ => ∃ xs, slot ρ i = some (.lst true xs) ∧ xs.length < sizeLine ∧ Q (.nx (ρ.set i (some (.lst true (xs ++ [d])))))) (XS Q)) : WS (evS Γ up (.app i e) ρ) Q := by
  show WS (match slot ρ i with | some (.lst true _) => _ | _ => none) Q
  rw [e0]
  refine WS.bind (h.mono (fun d ρ h => ?_) fun _ _ _ h => h)
  obtain ⟨xs, e1, h1, h2⟩ := h
  rw [e1]
  show WS (if xs.length < sizeLine then _ else _) Q
  rw [if_pos h1]; exact h2
theorem ws_whl {c : E} {b : S} (h : WS (whileLoop (ev Γ c).t (evS Γ up b) fuel0 ρ) Q) : WS (evS Γ up (.whl c b) ρ) Q := h
theorem ws_for {tg : Tg} {it : E} {b : S} (h : W ((ev Γ it).it ρ) (fun ds ρ => D.pures (tupOf ds) = true ∧ WS (forLoop tg (evS Γ up b) (tupOf ds) ρ) Q) (XS Q)) : WS (evS Γ up (.for tg it b) ρ) Q := by
  rw [es_for]
  refine WS.bind (h.mono (fun d ρ h => ?_) fun _ _ _ h => h)
  rw [if_pos h.1]; exact h.2
/-- behind a try's suite -/
def tK (Γ : Gam) (up : String → String → Bool) (hs : S) (Q : SR → Prop) : SR → Prop
  | .ex c d ρ => WS (evS.handle Γ up c d ρ hs) Q
  | r => Q r
theorem ws_try {b hs : S} (h : WS (evS Γ up b ρ) (tK Γ up hs Q)) : WS (evS Γ up (.try b hs) ρ) Q := by
  rw [es_try]
  revert h; rcases evS Γ up b ρ with _ | (ρ | ⟨d, ρ⟩ | ρ | ρ | ⟨c, d, ρ⟩) <;> exact fun h => h
theorem tK_nx {hs : S} (h : Q (.nx ρ)) : tK Γ up hs Q (.nx ρ) := h
theorem tK_rt {hs : S} {d : D} (h : Q (.rt d ρ)) : tK Γ up hs Q (.rt d ρ) := h
theorem tK_ex {hs : S} {c : String} {d : D} (h : WS (evS.handle Γ up c d ρ hs) Q) : tK Γ up hs Q (.ex c d ρ) := h
/-- behind a clause's suite -/
def hK (i : Nat) (Q : SR → Prop) : SR → Prop
  | .nx ρ => Q (.nx (ρ.set i none))
  | .rt d ρ => Q (.rt d (ρ.set i none))
  | _ => False
theorem hK_nx {i : Nat} (h : Q (.nx (ρ.set i none))) : hK i Q (.nx ρ) := h
theorem hK_rt {i : Nat} {d : D} (h : Q (.rt d (ρ.set i none))) : hK i Q (.rt d ρ) := h
theorem wh_yes {c c' : String} {d : D} {i : Nat} {s r : S} (e : up c c' = true) (h : WS (evS Γ up s (ρ.set i (some (.exc c d)))) (hK i Q)) : WS (evS.handle Γ up c d ρ (.seq (.hnd c' i s) r)) Q := by
  show WS (if up c c' = true then _ else _) Q
  rw [if_pos e]
  revert h; rcases evS Γ up s (ρ.set i (some (.exc c d))) with _ | (ρ | ⟨d, ρ⟩ | ρ | ρ | ⟨c, d, ρ⟩) <;> exact fun h => h
theorem wh_no {c c' : String} {d : D} {i : Nat} {s r : S} (e : up c c' = false) (h : WS (evS.handle Γ up c d ρ r) Q) : WS (evS.handle Γ up c d ρ (.seq (.hnd c' i s) r)) Q := by
  show WS (if up c c' = true then _ else _) Q
  rw [e]; exact h
theorem wh_nil {c : String} {d : D} (h : Q (.ex c d ρ)) : WS (evS.handle Γ up c d ρ .nil) Q := h

/-! loops -/
theorem w_for {tg : Tg} {f : VI.Env → Option SR} {B : VI.Env → Prop} (I : List D → VI.Env → Prop) {ds : List D} {ρ : VI.Env} (h0 : I ds ρ)
    (step : ∀ d r ρ, I (d :: r) ρ → WO (assignT tg d ρ) fun ρ => WS (f ρ) (lK (I r) (fun ρ => Q (.nx ρ)) Q)) (fin : ∀ ρ, I [] ρ → Q (.nx ρ)) : WS (forLoop tg f ds ρ) Q := by
  induction ds generalizing ρ with
  | nil => exact fin ρ h0
  | cons d ds ih =>
    have h := step d ds ρ h0
    show WS ((assignT tg d ρ).bind _) Q
    refine WS.obind ?_
    revert h; cases assignT tg d ρ with
    | none => exact fun z => z
    | some ρ1 =>
      show WS (f ρ1) _ → WS (match f ρ1 with | some (.nx ρ2) => forLoop tg f ds ρ2 | some (.ct ρ2) => forLoop tg f ds ρ2 | some (.bk ρ2) => some (.nx ρ2) | r => r) Q
      rcases f ρ1 with _ | (ρ | ⟨d, ρ⟩ | ρ | ρ | ⟨c, d, ρ⟩)
      · exact fun z => z
      · exact fun h => ih h
      · exact fun h => h
      · exact fun h => h
      · exact fun h => ih h
      · exact fun h => h
/-- over a list of things told by d -/
theorem w_forl {α : Type} {en : α → D} {tg : Tg} {f : VI.Env → Option SR} (I : List α → List α → VI.Env → Prop) {xs : List α} {ρ : VI.Env} (h0 : I [] xs ρ)
    (step : ∀ a x r ρ, xs = a ++ x :: r → I a (x :: r) ρ → WO (assignT tg (en x) ρ) fun ρ => WS (f ρ) (lK (I (a ++ [x]) r) (fun ρ => Q (.nx ρ)) Q)) (fin : ∀ ρ, I xs [] ρ → Q (.nx ρ)) : WS (forLoop tg f (xs.map en) ρ) Q := by
  refine w_for (B := fun _ => True) (fun ds ρ => ∃ a r, xs = a ++ r ∧ ds = r.map en ∧ I a r ρ) ⟨[], xs, rfl, rfl, h0⟩ ?_ ?_
  · rintro d r ρ ⟨a, r', e, e2, h⟩
    cases r' with
    | nil => cases e2
    | cons x r' =>
      rw [List.map_cons] at e2; injection e2 with e2 e3; subst e2 e3
      have h := step a x r' ρ e h
      revert h; cases assignT tg (en x) ρ with
      | none => exact fun z => z
      | some ρ1 =>
        refine fun h => WS.mono h fun q => ?_
        cases q with
        | nx ρ => exact fun h => ⟨a ++ [x], r', by rw [e, List.append_assoc]; rfl, rfl, h⟩
        | ct ρ => exact fun h => ⟨a ++ [x], r', by rw [e, List.append_assoc]; rfl, rfl, h⟩
        | rt d ρ => exact fun h => h
        | bk ρ => exact fun h => h
        | ex c d ρ => exact fun h => h
  · rintro ρ ⟨a, r, e, e2, h⟩
    cases r with
    | nil => rw [List.append_nil] at e; subst e; exact fin ρ h
    | cons x r => cases e2
theorem rangeD_nil {i j : Int} (h : j ≤ i) : rangeD i j = [] := by
  unfold rangeD; rw [show (j - i).toNat = 0 by omega]; rfl
theorem rangeD_cons {i j : Int} (h : i < j) : rangeD i j = .int i :: rangeD (i + 1) j := by
  unfold rangeD
  obtain ⟨m, hm⟩ : ∃ m, (j - i).toNat = m + 1 := ⟨(j - i).toNat - 1, by omega⟩
  rw [hm, show (j - (i + 1)).toNat = m by omega, List.range_succ_eq_map, List.map_cons, List.map_map]
  refine List.cons_eq_cons.mpr ⟨by simp, List.map_congr_left fun k _ => ?_⟩
  show D.int (i + ((k + 1 : Nat) : Int)) = D.int (i + 1 + (k : Int))
  congr 1; omega
/-- over a range -/
theorem w_forr {tg : Tg} {f : VI.Env → Option SR} (I : Int → VI.Env → Prop) {i j : Int} {ρ : VI.Env} (hij : i ≤ j) (h0 : I i ρ)
    (step : ∀ t ρ, i ≤ t → t < j → I t ρ → WO (assignT tg (.int t) ρ) fun ρ => WS (f ρ) (lK (I (t + 1)) (fun ρ => Q (.nx ρ)) Q)) (fin : ∀ ρ, I j ρ → Q (.nx ρ)) : WS (forLoop tg f (rangeD i j) ρ) Q := by
  refine w_for (B := fun _ => True) (fun ds ρ => ∃ t, i ≤ t ∧ t ≤ j ∧ ds = rangeD t j ∧ I t ρ) ⟨i, Int.le_refl _, hij, rfl, h0⟩ ?_ ?_
  · rintro d r ρ ⟨t, h1, h2, e, h⟩
    by_cases ht : t < j
    · rw [rangeD_cons ht] at e; injection e with e1 e2; subst e1
      have h := step t ρ h1 ht h
      revert h; cases assignT tg (.int t) ρ with
      | none => exact fun z => z
      | some ρ1 =>
        refine fun h => WS.mono h fun q => ?_
        cases q with
        | nx ρ => exact fun h => ⟨t + 1, by omega, by omega, e2, h⟩
        | ct ρ => exact fun h => ⟨t + 1, by omega, by omega, e2, h⟩
        | rt d ρ => exact fun h => h
        | bk ρ => exact fun h => h
        | ex c d ρ => exact fun h => h
    · rw [rangeD_nil (by omega)] at e; cases e
  · rintro ρ ⟨t, h1, h2, e, h⟩
    by_cases ht : t < j
    · rw [rangeD_cons ht] at e; cases e
    · rw [show t = j by omega] at h; exact fin ρ h
/-- a while with a measure -/
theorem w_while {c : VI.Env → Option R} {f : VI.Env → Option SR} (I : Nat → VI.Env → Prop) {n m : Nat} {ρ : VI.Env} (hm : m < n) (h0 : I m ρ)
    (step : ∀ m ρ, I m ρ → W (c ρ) (fun x ρ => wB x ρ fun b ρ => wI b (WS (f ρ) (lK (fun ρ => ∃ m', m' < m ∧ I m' ρ) (fun ρ => Q (.nx ρ)) Q)) (Q (.nx ρ))) (XS Q)) : WS (whileLoop c f n ρ) Q := by
  induction n generalizing m ρ with
  | zero => omega
  | succ n ih =>
    have h := step m ρ h0
    show WS (bindS (c ρ) _) Q
    refine WS.bind (h.mono (fun x ρ ⟨b, e, h⟩ => ?_) fun _ _ _ h => h)
    subst e
    cases b with
    | false => exact h
    | true =>
      revert h
      show WS (f ρ) _ → WS (match f ρ with | some (.nx ρ2) => whileLoop c f n ρ2 | some (.ct ρ2) => whileLoop c f n ρ2 | some (.bk ρ2) => some (.nx ρ2) | r => r) Q
      rcases f ρ with _ | (ρ | ⟨d, ρ⟩ | ρ | ρ | ⟨c, d, ρ⟩)
      · exact fun z => z
      · rintro ⟨m', h1, h2⟩; exact ih (by omega) h2
      · exact fun h => h
      · exact fun h => h
      · rintro ⟨m', h1, h2⟩; exact ih (by omega) h2
      · exact fun h => h
/-- a def -/
theorem w_fn {T : Tab} {n : Nat} {f : String} {g : FnB} [hf : Has T f g] {ds : List D} {k : D → D → Prop} {X : String → D → Prop} (hn : 0 < n) (hl : ds.length = g.np)
    (h : WS (evS (callN T up (n - 1)) up g.body (ds.map some ++ List.replicate (g.nN - ds.length) none)) (fK g.io k X)) : WC (callN T up n f ds) k X := by
  obtain ⟨m, rfl⟩ : ∃ m, n = m + 1 := ⟨n - 1, by omega⟩
  show WC ((T f).bind fun g => runFn (callN T up m) up g ds) k X
  obtain ⟨ps, N, e, e1, e2⟩ := hf.h
  rw [e]
  show WC (runFn (callN T up m) up (g.fn ps N) ds) k X
  rw [runFn_out _ _ (hl.trans e1.symm)]
  revert h
  show WS (evS (callN T up m) up g.body _) _ → WC (outR g.io (evS (callN T up m) up g.body (ds.map some ++ List.replicate (N.length - ds.length) none))) k X
  rw [e2]
  rcases evS (callN T up m) up g.body _ with _ | (ρ | ⟨d, ρ⟩ | ρ | ρ | ⟨c, d, ρ⟩) <;> exact fun h => h
end

set_option maxHeartbeats 4000000
set_option synthInstance.maxSize 128
set_option synthInstance.maxHeartbeats 20000
class Pu (d : D) : Prop where
  pu : d.pure = true
class Pus (ds : List D) : Prop where
  pus : D.pures ds = true
instance : Pu .non := ⟨rfl⟩
instance (b : Bool) : Pu (.bl b) := ⟨rfl⟩
instance (i : Int) : Pu (.int i) := ⟨rfl⟩
instance (x : Str) : Pu (.str x) := ⟨rfl⟩
instance : Pu .edic := ⟨rfl⟩
instance (f : String) : Pu (.fn f) := ⟨rfl⟩
instance (f : String) : Pu (.cls f) := ⟨rfl⟩
instance (c : String) (v : D) [h : Pu v] : Pu (.exc c v) := ⟨by rw [D.pure]; exact h.pu⟩
instance (ns : List Int) : Pu (.scr ns) := ⟨rfl⟩
instance : Pus [] := ⟨rfl⟩
instance (d : D) (ds : List D) [h : Pu d] [h2 : Pus ds] : Pus (d :: ds) := ⟨by rw [D.pures, h.pu, h2.pus]; rfl⟩
instance (ds : List D) [h : Pus ds] : Pu (.tup ds) := ⟨by rw [D.pure]; exact h.pus⟩
instance (ds : List D) [h : Pus ds] : Pu (.lst false ds) := ⟨by rw [D.pure]; exact h.pus⟩
theorem pures_append {a b : List D} : D.pures (a ++ b) = (D.pures a && D.pures b) := by
  induction a with
  | nil => rfl
  | cons x a ih => rw [List.cons_append, D.pures, D.pures, ih, Bool.and_assoc]
instance (a b : List D) [h : Pus a] [h2 : Pus b] : Pus (a ++ b) := ⟨by rw [pures_append, h.pus, h2.pus]; rfl⟩
theorem pures_map {α : Type} {f : α → D} {xs : List α} (h : ∀ x ∈ xs, (f x).pure = true) : D.pures (xs.map f) = true := by
  induction xs with
  | nil => rfl
  | cons x xs ih => rw [List.map_cons, D.pures, h x List.mem_cons_self, ih fun y hy => h y (List.mem_cons_of_mem _ hy)]; rfl
instance {α : Type} (f : α → D) (xs : List α) [h : ∀ x, Pu (f x)] : Pus (xs.map f) := ⟨pures_map fun x _ => (h x).pu⟩
theorem pures_rangeD (i j : Int) : D.pures (rangeD i j) = true := pures_map fun _ _ => rfl
instance (i j : Int) : Pus (rangeD i j) := ⟨pures_rangeD i j⟩
theorem frzs_length (ds : List D) : (D.frzs ds).length = ds.length := by
  induction ds with
  | nil => rfl
  | cons d ds ih => rw [D.frzs, List.length_cons, List.length_cons, ih]
mutual
theorem frz_id : ∀ d : D, d.pure = true → d.frz = d
  | .tup xs, h => by rw [D.frz, frzs_id xs (by rw [D.pure] at h; exact h)]
  | .lst true xs, h => by rw [D.pure] at h; cases h
  | .lst false xs, h => by rw [D.frz, frzs_id xs (by rw [D.pure] at h; exact h)]
  | .exc c v, h => rfl
  | .non, _ | .bl _, _ | .int _, _ | .str _, _ | .edic, _ | .fn _, _ | .cls _, _ | .scr _, _ => rfl
theorem frzs_id : ∀ ds : List D, D.pures ds = true → D.frzs ds = ds
  | [], _ => rfl
  | d :: ds, h => by
    rw [D.pures, Bool.and_eq_true] at h
    rw [D.frzs, frz_id d h.1, frzs_id ds h.2]
end
/-- freezing, told -/
class Fz (d : D) (e : outParam D) : Prop where
  fz : d.frz = e
class Fzs (d : List D) (e : outParam (List D)) : Prop where
  fzs : D.frzs d = e
instance fz_lst (o : Bool) (ds e : List D) [h : Fzs ds e] : Fz (.lst o ds) (.lst false e) := ⟨by rw [D.frz, h.fzs]⟩
instance fz_tup (ds e : List D) [h : Fzs ds e] : Fz (.tup ds) (.tup e) := ⟨by rw [D.frz, h.fzs]⟩
instance (priority := low) fz_pu (d : D) [h : Pu d] : Fz d d := ⟨frz_id d h.pu⟩
instance fzs_nil : Fzs [] [] := ⟨rfl⟩
instance fzs_cons (d e : D) (ds es : List D) [h : Fz d e] [h2 : Fzs ds es] : Fzs (d :: ds) (e :: es) := ⟨by rw [D.frzs, h.fz, h2.fzs]⟩
instance (priority := low) fzs_pu (ds : List D) [h : Pus ds] : Fzs ds ds := ⟨frzs_id ds h.pus⟩
section
variable {Γ : Gam} {up : String → String → Bool} {ρ : VI.Env} {k : D → VI.Env → Prop} {X : String → D → VI.Env → Prop} {Q : SR → Prop}
def wSlot (ρ : VI.Env) (i : Nat) (k : D → Prop) : Prop := ∃ x, slot ρ i = some x ∧ k x
theorem wSlot.mk {i : Nat} {k : D → Prop} {x : D} (e : slot ρ i = some x) (h : k x) : wSlot ρ i k := ⟨x, e, h⟩
def wSloL (ρ : VI.Env) (i : Nat) (k : List D → Prop) : Prop := ∃ x, slot ρ i = some (.lst true x) ∧ k x
theorem wSloL.mk {i : Nat} {k : List D → Prop} {x : List D} (e : slot ρ i = some (.lst true x)) (h : k x) : wSloL ρ i k := ⟨x, e, h⟩
def wInt (x : D) (k : Int → Prop) : Prop := ∃ i, x = .int i ∧ k i
theorem wInt.mk {k : Int → Prop} {i : Int} (h : k i) : wInt (.int i) k := ⟨i, rfl, h⟩
def wSm (i : Int) (p : Prop) : Prop := small i = true ∧ p
theorem wSm.mk {i : Int} {p : Prop} (h1 : -4611686018427387904 ≤ i) (h2 : i < 4611686018427387904) (h : p) : wSm i p := ⟨small_of h1 h2, h⟩
def wLt (xs : List D) (p : Prop) : Prop := xs.length < sizeLine ∧ p
theorem wLt.mk {xs : List D} {p : Prop} (h1 : xs.length < 16777216) (h : p) : wLt xs p := ⟨by rw [sizeLine_eq]; exact h1, h⟩
def wSeti (xs : List D) (n : Int) (d : D) (k : List D → Prop) : Prop := D.pures xs = true ∧ d.pure = true ∧ ∃ j, ixN xs.length n = some j ∧ k (xs.set j d)
theorem wSeti.mk {xs : List D} {n : Int} {d : D} {k : List D → Prop} {j : Nat} [h1 : Pus xs] [h2 : Pu d] (e : ixN xs.length n = some j) (h : k (xs.set j d)) : wSeti xs n d k := ⟨h1.pus, h2.pu, j, e, h⟩
theorem wSeti0 {a d : D} {q : List D} {k : List D → Prop} [h1 : Pus (a :: q)] [h2 : Pu d] (h : k (d :: q)) : wSeti (a :: q) 0 d k := ⟨h1.pus, h2.pu, 0, by unfold ixN; rw [List.length_cons, if_pos (by decide), if_pos (by omega)]; rfl, h⟩
theorem wSeti1 {a b d : D} {q : List D} {k : List D → Prop} [h1 : Pus (a :: b :: q)] [h2 : Pu d] (h : k (a :: d :: q)) : wSeti (a :: b :: q) 1 d k := ⟨h1.pus, h2.pu, 1, by unfold ixN; rw [List.length_cons, List.length_cons, if_pos (by decide), if_pos (by omega)]; rfl, h⟩
theorem wSeti2 {a b c d : D} {q : List D} {k : List D → Prop} [h1 : Pus (a :: b :: c :: q)] [h2 : Pu d] (h : k (a :: b :: d :: q)) : wSeti (a :: b :: c :: q) 2 d k := ⟨h1.pus, h2.pu, 2, by unfold ixN; rw [List.length_cons, List.length_cons, List.length_cons, if_pos (by decide), if_pos (by omega)]; rfl, h⟩
def wPerm (ds es : List D) (perm : List Nat) (k : List D → Prop) : Prop := D.pures ds = true ∧ D.pures es = true ∧ WO (permD (ds ++ es) perm) k
theorem wPerm_0 {a : D} {k : List D → Prop} [h1 : Pu a] (h : k [a]) : wPerm [] [a] [0] k := ⟨rfl, (inferInstance : Pus [a]).pus, h⟩
theorem wPerm_01 {a b : D} {k : List D → Prop} [h1 : Pus [a, b]] (h : k [a, b]) : wPerm [] [a, b] [0, 1] k := ⟨rfl, h1.pus, h⟩
theorem wPerm_10 {a b : D} {k : List D → Prop} [h1 : Pus [a, b]] (h : k [b, a]) : wPerm [] [a, b] [1, 0] k := ⟨rfl, h1.pus, h⟩
theorem wPerm_3 {a b c : D} {vs : List D} {perm : List Nat} {k : List D → Prop} [h1 : Pus [a, b, c]] (e : permD [a, b, c] perm = some vs) (h : k vs) : wPerm [] [a, b, c] perm k := ⟨rfl, h1.pus, by show WO (permD [a, b, c] perm) k; rw [e]; exact h⟩
def wFn (ρ : VI.Env) (i : Nat) (k : String → Prop) : Prop := ∃ f, slot ρ i = some (.fn f) ∧ k f
theorem wFn.mk {i : Nat} {k : String → Prop} {f : String} (e : slot ρ i = some (.fn f)) (h : k f) : wFn ρ i k := ⟨f, e, h⟩
def wPop (xs : List D) (n : Int) (k : D → List D → Prop) : Prop := D.pures xs = true ∧ ∃ j d, small n = true ∧ seqIndex? n xs.length = some j ∧ xs[j]? = some d ∧ k d (xs.eraseIdx j)
def wSet (ρ : VI.Env) (i : Nat) (z : Option D) (k : VI.Env → Prop) : Prop := k (ρ.set i z)
theorem wSet_0 {x0 z : Option D} {q : VI.Env} {k : VI.Env → Prop} (h : k (z :: q)) : wSet (x0 :: q) 0 z k := h
theorem wSet_1 {x0 x1 z : Option D} {q : VI.Env} {k : VI.Env → Prop} (h : k (x0 :: z :: q)) : wSet (x0 :: x1 :: q) 1 z k := h
theorem wSet_2 {x0 x1 x2 z : Option D} {q : VI.Env} {k : VI.Env → Prop} (h : k (x0 :: x1 :: z :: q)) : wSet (x0 :: x1 :: x2 :: q) 2 z k := h
theorem wSet_3 {x0 x1 x2 x3 z : Option D} {q : VI.Env} {k : VI.Env → Prop} (h : k (x0 :: x1 :: x2 :: z :: q)) : wSet (x0 :: x1 :: x2 :: x3 :: q) 3 z k := h
theorem wSet_4 {x0 x1 x2 x3 x4 z : Option D} {q : VI.Env} {k : VI.Env → Prop} (h : k (x0 :: x1 :: x2 :: x3 :: z :: q)) : wSet (x0 :: x1 :: x2 :: x3 :: x4 :: q) 4 z k := h
theorem wSet_5 {x0 x1 x2 x3 x4 x5 z : Option D} {q : VI.Env} {k : VI.Env → Prop} (h : k (x0 :: x1 :: x2 :: x3 :: x4 :: z :: q)) : wSet (x0 :: x1 :: x2 :: x3 :: x4 :: x5 :: q) 5 z k := h
theorem wSet_6 {x0 x1 x2 x3 x4 x5 x6 z : Option D} {q : VI.Env} {k : VI.Env → Prop} (h : k (x0 :: x1 :: x2 :: x3 :: x4 :: x5 :: z :: q)) : wSet (x0 :: x1 :: x2 :: x3 :: x4 :: x5 :: x6 :: q) 6 z k := h
theorem wSet_7 {x0 x1 x2 x3 x4 x5 x6 x7 z : Option D} {q : VI.Env} {k : VI.Env → Prop} (h : k (x0 :: x1 :: x2 :: x3 :: x4 :: x5 :: x6 :: z :: q)) : wSet (x0 :: x1 :: x2 :: x3 :: x4 :: x5 :: x6 :: x7 :: q) 7 z k := h
theorem wSet_8 {x0 x1 x2 x3 x4 x5 x6 x7 x8 z : Option D} {q : VI.Env} {k : VI.Env → Prop} (h : k (x0 :: x1 :: x2 :: x3 :: x4 :: x5 :: x6 :: x7 :: z :: q)) : wSet (x0 :: x1 :: x2 :: x3 :: x4 :: x5 :: x6 :: x7 :: x8 :: q) 8 z k := h
theorem wSet_9 {x0 x1 x2 x3 x4 x5 x6 x7 x8 x9 z : Option D} {q : VI.Env} {k : VI.Env → Prop} (h : k (x0 :: x1 :: x2 :: x3 :: x4 :: x5 :: x6 :: x7 :: x8 :: z :: q)) : wSet (x0 :: x1 :: x2 :: x3 :: x4 :: x5 :: x6 :: x7 :: x8 :: x9 :: q) 9 z k := h
theorem wSet_10 {x0 x1 x2 x3 x4 x5 x6 x7 x8 x9 x10 z : Option D} {q : VI.Env} {k : VI.Env → Prop} (h : k (x0 :: x1 :: x2 :: x3 :: x4 :: x5 :: x6 :: x7 :: x8 :: x9 :: z :: q)) : wSet (x0 :: x1 :: x2 :: x3 :: x4 :: x5 :: x6 :: x7 :: x8 :: x9 :: x10 :: q) 10 z k := h
theorem wSet_11 {x0 x1 x2 x3 x4 x5 x6 x7 x8 x9 x10 x11 z : Option D} {q : VI.Env} {k : VI.Env → Prop} (h : k (x0 :: x1 :: x2 :: x3 :: x4 :: x5 :: x6 :: x7 :: x8 :: x9 :: x10 :: z :: q)) : wSet (x0 :: x1 :: x2 :: x3 :: x4 :: x5 :: x6 :: x7 :: x8 :: x9 :: x10 :: x11 :: q) 11 z k := h
theorem wSet_12 {x0 x1 x2 x3 x4 x5 x6 x7 x8 x9 x10 x11 x12 z : Option D} {q : VI.Env} {k : VI.Env → Prop} (h : k (x0 :: x1 :: x2 :: x3 :: x4 :: x5 :: x6 :: x7 :: x8 :: x9 :: x10 :: x11 :: z :: q)) : wSet (x0 :: x1 :: x2 :: x3 :: x4 :: x5 :: x6 :: x7 :: x8 :: x9 :: x10 :: x11 :: x12 :: q) 12 z k := h
theorem wSet_13 {x0 x1 x2 x3 x4 x5 x6 x7 x8 x9 x10 x11 x12 x13 z : Option D} {q : VI.Env} {k : VI.Env → Prop} (h : k (x0 :: x1 :: x2 :: x3 :: x4 :: x5 :: x6 :: x7 :: x8 :: x9 :: x10 :: x11 :: x12 :: z :: q)) : wSet (x0 :: x1 :: x2 :: x3 :: x4 :: x5 :: x6 :: x7 :: x8 :: x9 :: x10 :: x11 :: x12 :: x13 :: q) 13 z k := h
theorem wSet_14 {x0 x1 x2 x3 x4 x5 x6 x7 x8 x9 x10 x11 x12 x13 x14 z : Option D} {q : VI.Env} {k : VI.Env → Prop} (h : k (x0 :: x1 :: x2 :: x3 :: x4 :: x5 :: x6 :: x7 :: x8 :: x9 :: x10 :: x11 :: x12 :: x13 :: z :: q)) : wSet (x0 :: x1 :: x2 :: x3 :: x4 :: x5 :: x6 :: x7 :: x8 :: x9 :: x10 :: x11 :: x12 :: x13 :: x14 :: q) 14 z k := h
theorem wSet_15 {x0 x1 x2 x3 x4 x5 x6 x7 x8 x9 x10 x11 x12 x13 x14 x15 z : Option D} {q : VI.Env} {k : VI.Env → Prop} (h : k (x0 :: x1 :: x2 :: x3 :: x4 :: x5 :: x6 :: x7 :: x8 :: x9 :: x10 :: x11 :: x12 :: x13 :: x14 :: z :: q)) : wSet (x0 :: x1 :: x2 :: x3 :: x4 :: x5 :: x6 :: x7 :: x8 :: x9 :: x10 :: x11 :: x12 :: x13 :: x14 :: x15 :: q) 15 z k := h
theorem wSet_16 {x0 x1 x2 x3 x4 x5 x6 x7 x8 x9 x10 x11 x12 x13 x14 x15 x16 z : Option D} {q : VI.Env} {k : VI.Env → Prop} (h : k (x0 :: x1 :: x2 :: x3 :: x4 :: x5 :: x6 :: x7 :: x8 :: x9 :: x10 :: x11 :: x12 :: x13 :: x14 :: x15 :: z :: q)) : wSet (x0 :: x1 :: x2 :: x3 :: x4 :: x5 :: x6 :: x7 :: x8 :: x9 :: x10 :: x11 :: x12 :: x13 :: x14 :: x15 :: x16 :: q) 16 z k := h
theorem wSet_17 {x0 x1 x2 x3 x4 x5 x6 x7 x8 x9 x10 x11 x12 x13 x14 x15 x16 x17 z : Option D} {q : VI.Env} {k : VI.Env → Prop} (h : k (x0 :: x1 :: x2 :: x3 :: x4 :: x5 :: x6 :: x7 :: x8 :: x9 :: x10 :: x11 :: x12 :: x13 :: x14 :: x15 :: x16 :: z :: q)) : wSet (x0 :: x1 :: x2 :: x3 :: x4 :: x5 :: x6 :: x7 :: x8 :: x9 :: x10 :: x11 :: x12 :: x13 :: x14 :: x15 :: x16 :: x17 :: q) 17 z k := h
theorem wSet_18 {x0 x1 x2 x3 x4 x5 x6 x7 x8 x9 x10 x11 x12 x13 x14 x15 x16 x17 x18 z : Option D} {q : VI.Env} {k : VI.Env → Prop} (h : k (x0 :: x1 :: x2 :: x3 :: x4 :: x5 :: x6 :: x7 :: x8 :: x9 :: x10 :: x11 :: x12 :: x13 :: x14 :: x15 :: x16 :: x17 :: z :: q)) : wSet (x0 :: x1 :: x2 :: x3 :: x4 :: x5 :: x6 :: x7 :: x8 :: x9 :: x10 :: x11 :: x12 :: x13 :: x14 :: x15 :: x16 :: x17 :: x18 :: q) 18 z k := h
theorem wSet_19 {x0 x1 x2 x3 x4 x5 x6 x7 x8 x9 x10 x11 x12 x13 x14 x15 x16 x17 x18 x19 z : Option D} {q : VI.Env} {k : VI.Env → Prop} (h : k (x0 :: x1 :: x2 :: x3 :: x4 :: x5 :: x6 :: x7 :: x8 :: x9 :: x10 :: x11 :: x12 :: x13 :: x14 :: x15 :: x16 :: x17 :: x18 :: z :: q)) : wSet (x0 :: x1 :: x2 :: x3 :: x4 :: x5 :: x6 :: x7 :: x8 :: x9 :: x10 :: x11 :: x12 :: x13 :: x14 :: x15 :: x16 :: x17 :: x18 :: x19 :: q) 19 z k := h

theorem wv_var' {i : Nat} {d : D} (e : slot ρ i = some d) [p : Pu d] (h : k d ρ) : W ((ev Γ (.var i)).v ρ) k X := wv_var e p.pu h
theorem wv_mov' {i : Nat} {d : D} (e : slot ρ i = some d) (h : wSet ρ i none fun ρ => k d ρ) : W ((ev Γ (.mov i)).v ρ) k X := wv_mov e h
theorem wv_fzs' {i : Nat} {d d' : D} (e : slot ρ i = some d) [f : Fz d d'] (h : wSet ρ i (some d') fun ρ => k d' ρ) : W ((ev Γ (.fzs i)).v ρ) k X := wv_fzs e (by rw [f.fz]; exact h)
def wFz (d : D) (k : D → Prop) : Prop := k d.frz
theorem wFz.mk {d d' : D} {k : D → Prop} [f : Fz d d'] (h : k d') : wFz d k := by show k d.frz; rw [f.fz]; exact h
theorem wv_frz' {e : E} (h : W ((ev Γ e).v ρ) (fun d ρ => wFz d fun d => k d ρ) X) : W ((ev Γ (.frz e)).v ρ) k X := wv_frz h
/-- an operand that is no borrowed slot -/
def nb : E → Bool
  | .bor _ => false
  | _ => true
theorem late_nb {a : E} (h : nb a = true) (d : D) (ρ : VI.Env) : late a d ρ = some d := by cases a <;> first | rfl | cases h
theorem seen_nb {a : E} (h : nb a = true) (d : D) : seen a d = d := by cases a <;> first | rfl | cases h
theorem imp_nb {a : E} (h : nb a = true) (d : D) : impure a d = false := by cases a <;> first | rfl | cases h
theorem wl_nb {a : E} {d : D} {k : D → Prop} (h : nb a = true) (h2 : k d) : WO (late a d ρ) k := by rw [late_nb h]; exact h2
theorem wl_bor {i : Nat} {d d' : D} {k : D → Prop} (h : slot ρ i = some d') (h2 : k d') : WO (late (.bor i) d ρ) k := by
  show WO (slot ρ i) k
  rw [h]; exact h2
/-- arguments, none of them borrowed -/
def wAs (Γ : Gam) : E → VI.Env → (List D → VI.Env → Prop) → (String → D → VI.Env → Prop) → Prop
  | .nil, ρ, k, _ => k [] ρ
  | .cons a r, ρ, k, X => W ((ev Γ a).v ρ) (fun d ρ => wAs Γ r ρ (fun ds ρ => k (d :: ds) ρ) X) X
  | _, _, _, _ => False
def nbs : E → Bool
  | .nil => true
  | .cons a r => nb a && nbs r
  | _ => false
theorem wAs_ok {es : E} {ρ : VI.Env} {k : D → VI.Env → Prop} (hb : nbs es = true) (h : wAs Γ es ρ (fun ds ρ => k (.tup ds) ρ) X) : W ((ev Γ es).as ρ) k X := by
  induction es generalizing ρ k with
  | nil => exact h
  | cons a r _ ih =>
    rw [nbs, Bool.and_eq_true] at hb
    refine wa_cons (W.mono h (fun d ρ h => ih hb.2 ?_) fun _ _ _ h => h)
    have e : ∀ ρ, late a d ρ = some d := late_nb hb.1 d
    have h' : wAs Γ r ρ (fun ds ρ => k (.tup (d :: ds)) ρ) X := h
    simp only [e]
    exact h'
  | _ => cases hb
theorem seens_nb {es : E} (hb : nbs es = true) (ds : List D) : seens es ds = ds := by
  induction es generalizing ds with
  | nil => cases ds <;> rfl
  | cons a r _ ih =>
    rw [nbs, Bool.and_eq_true] at hb
    cases ds with
    | nil => rfl
    | cons d ds => rw [seens, seen_nb hb.1, ih hb.2]
  | _ => cases hb
theorem anyImp_nb {es : E} (hb : nbs es = true) (ds : List D) : anyImp es ds = false := by
  induction es generalizing ds with
  | nil => cases ds <;> rfl
  | cons a r _ ih =>
    rw [nbs, Bool.and_eq_true] at hb
    cases ds with
    | nil => rfl
    | cons d ds => rw [anyImp, imp_nb hb.1, ih hb.2]; rfl
  | _ => cases hb
theorem wAs_mono {es : E} {ρ : VI.Env} {k k' : List D → VI.Env → Prop} {X' : String → D → VI.Env → Prop} (h : wAs Γ es ρ k' X') (h1 : ∀ d ρ, k' d ρ → k d ρ) (h2 : ∀ c d ρ, X' c d ρ → X c d ρ) : wAs Γ es ρ k X := by
  induction es generalizing ρ k k' with
  | nil => exact h1 _ _ h
  | cons a r _ ih => exact W.mono h (fun d ρ h => ih h fun ds ρ h => h1 _ _ h) h2
  | _ => exact h
theorem wv_call' {f : String} {as : E} (hb : nbs as = true) (h : wAs Γ as ρ (fun ds ρ => WC (Γ f ds) (fun d _ => k d ρ) (fun c d => X c d ρ)) X) : W ((ev Γ (.call f as)).v ρ) k X := by
  refine wv_call (wAs_ok hb (wAs_mono h (fun ds ρ h => ?_) fun _ _ _ h => h))
  show WC (Γ f (seens as ds)) _ _
  rw [seens_nb hb, show tupOf (.tup ds) = ds from rfl, anyImp_nb hb]
  exact h.mono (fun _ _ h => ⟨rfl, h⟩) fun _ _ h => ⟨rfl, h⟩
theorem wv_calli' {f : String} {i : Nat} {as : E} {x0 : D} (e0 : slot ρ i = some x0) (hb : nbs as = true) (h : wAs Γ as ρ (fun ds ρ => wSlot ρ i fun x => WC (Γ f (x :: ds)) (fun d io => wSet ρ i (some io) fun ρ => k d ρ) (fun c d => wSet ρ i none fun ρ => X c d ρ)) X) : W ((ev Γ (.calli f i as)).v ρ) k X := by
  refine wv_calli e0 (wAs_ok hb (wAs_mono h (fun ds ρ h => ?_) fun _ _ _ h => h))
  obtain ⟨x, e, h⟩ := h
  refine ⟨x, e, ?_⟩
  show WC (Γ f (x :: seens as ds)) _ _
  rw [seens_nb hb, show tupOf (.tup ds) = ds from rfl, anyImp_nb hb]
  exact h.mono (fun _ _ h => ⟨rfl, h⟩) fun _ _ h => ⟨rfl, h⟩
def wTup (d : D) (k : List D → Prop) : Prop := k (tupOf d)
theorem wTup.mk {ds : List D} {k : List D → Prop} (h : k ds) : wTup (.tup ds) k := h
def wSeen (as : E) (ds : List D) (k : List D → Prop) : Prop := k (seens as ds)
theorem wSeen_nil {k : List D → Prop} (h : k []) : wSeen .nil [] k := h
theorem wSeen_nb {a r : E} {d : D} {ds : List D} {k : List D → Prop} (hb : nb a = true) (h : wSeen r ds fun vs => k (d :: vs)) : wSeen (.cons a r) (d :: ds) k := by
  show k (seen a d :: seens r ds)
  rw [seen_nb hb]; exact h
theorem wSeen_bor {i : Nat} {r : E} {d d' : D} {ds : List D} {k : List D → Prop} [f : Fz d d'] (h : wSeen r ds fun vs => k (d' :: vs)) : wSeen (.cons (.bor i) r) (d :: ds) k := by
  show k (d.frz :: seens r ds)
  rw [f.fz]; exact h
theorem wv_callB {f : String} {as : E} (h : W ((ev Γ as).as ρ) (fun ds ρ => wSeen as (tupOf ds) fun vs => WC (Γ f vs) (fun d io => (d.nosh = true ∧ io.nosh = true) ∧ k d ρ) (fun c d => d.nosh = true ∧ X c d ρ)) X) : W ((ev Γ (.call f as)).v ρ) k X :=
  wv_call (h.mono (fun ds ρ h => h.mono (fun d io h => ⟨by rw [h.1.1, h.1.2]; simp, h.2⟩) fun c d h => ⟨by rw [h.1]; simp, h.2⟩) fun _ _ _ h => h)
theorem wa_nil' (h : k (.tup []) ρ) : W ((ev Γ .nil).as ρ) k X := h
theorem wSeen_t {as : E} {ds : List D} {k : List D → Prop} (h : wSeen as ds k) : wSeen as (tupOf (.tup ds)) k := h
theorem wa_consT {a r : E} (h : W ((ev Γ a).v ρ) (fun d ρ1 => W ((ev Γ r).as ρ1) (fun ds ρ2 => WO (late a d ρ2) fun d' => wTup ds fun ds => k (.tup (d' :: ds)) ρ2) X) X) : W ((ev Γ (.cons a r)).as ρ) k X :=
  wa_cons (h.mono (fun d ρ h => h.mono (fun ds ρ h => WO.mono h fun d' h => h) fun _ _ _ h => h) fun _ _ _ h => h)
class Nosh (d : D) : Prop where
  nosh : d.nosh = true
instance (b : Bool) : Nosh (.bl b) := ⟨rfl⟩
instance (b : Int) : Nosh (.int b) := ⟨rfl⟩
instance (b : Str) : Nosh (.str b) := ⟨rfl⟩
instance : Nosh .non := ⟨rfl⟩
/-- f([x, e], ..): a result without lists -/
theorem wv_callb' {f : String} {i : Nat} {a as : E} {x0 : D} (e0 : slot ρ i = some x0) (hb : nbs as = true) (h : W ((ev Γ a).v ρ) (fun d ρ1 => wAs Γ as ρ1 (fun ds ρ2 => wSlot ρ2 i fun x => wFz x fun x => d.pure = true ∧ WC (Γ f (.lst false [x, d] :: ds)) (fun d2 io => (d2.nosh = true ∧ io.nosh = true) ∧ k d2 ρ2) (fun c d2 => d2.nosh = true ∧ X c d2 ρ2)) X) X) : W ((ev Γ (.callb f i a as)).v ρ) k X := by
  refine wv_callb e0 (h.mono (fun d ρ1 h => wAs_ok hb (wAs_mono h (fun ds ρ2 h => ?_) fun _ _ _ h => h)) fun _ _ _ h => h)
  obtain ⟨x, e, hp, h⟩ := h
  exact ⟨x, e, hp, h.mono (fun d2 io h => ⟨by rw [h.1.1, h.1.2]; simp, h.2⟩) fun c d2 h => ⟨by rw [h.1]; simp, h.2⟩⟩
theorem wv_callk' {f : String} {ns : List String} {perm : List Nat} {as ks : E} (ha : nbs as = true) (hb : nbs ks = true) (h : wAs Γ as ρ (fun ds ρ => wAs Γ ks ρ (fun es ρ => wPerm ds es perm fun vs => WC (Γ f vs) (fun d _ => k d ρ) (fun c d => X c d ρ)) X) X) : W ((ev Γ (.callk f ns perm as ks)).v ρ) k X :=
  wv_callk (wAs_ok ha (wAs_mono h (fun ds ρ h => wAs_ok hb (wAs_mono h (fun es ρ h => h) fun _ _ _ h => h)) fun _ _ _ h => h))
theorem wv_callv' {i : Nat} {as : E} {f : String} (e : slot ρ i = some (.fn f)) (hb : nbs as = true) (h : wAs Γ as ρ (fun ds ρ => WC (Γ f ds) (fun d _ => k d ρ) (fun c d => X c d ρ)) X) : W ((ev Γ (.callv i as)).v ρ) k X := by
  refine wv_callv e (wAs_ok hb (wAs_mono h (fun ds ρ h => ?_) fun _ _ _ h => h))
  show WC (Γ f (seens as ds)) _ _
  rw [seens_nb hb, show tupOf (.tup ds) = ds from rfl, anyImp_nb hb]
  exact h.mono (fun _ _ h => ⟨rfl, h⟩) fun _ _ h => ⟨rfl, h⟩
theorem wv_bi' {b : BI} {as : E} (hb : nbs as = true) (h : wAs Γ as ρ (fun ds ρ => WO (biD b ds) fun d => k d ρ) X) : W ((ev Γ (.bi b as)).v ρ) k X := wv_bi (wAs_ok hb (wAs_mono h (fun _ _ h => h) fun _ _ _ h => h))
def wExc (d : D) (k : D → Prop) : Prop := ∃ c v, d = .exc c v ∧ k v
theorem wExc.mk {c : String} {v : D} {k : D → Prop} (h : k v) : wExc (.exc c v) k := ⟨c, v, rfl, h⟩
theorem wv_fld' {a : E} (h : W ((ev Γ a).v ρ) (fun x ρ => wExc x fun v => k v ρ) X) : W ((ev Γ (.fld a)).v ρ) k X := wv_fld h
theorem wv_bi1 {b : BI} {i : Nat} {d : D} (e : slot ρ i = some d) (h : WO (biD b [d]) fun d => k d ρ) : W ((ev Γ (.bi b (.cons (.bor i) .nil))).v ρ) k X := wv_bi (wa_cons (wv_bor e (wa_nil (wl_bor e h))))
def wLe (ds : List D) (p : Prop) : Prop := ds.length ≤ sizeLine ∧ p
theorem wLe.mk {ds : List D} {p : Prop} (h1 : ds.length ≤ sizeLine) (h : p) : wLe ds p := ⟨h1, h⟩
theorem wLe_0 {p : Prop} (h : p) : wLe [] p := ⟨le_0 , h⟩
theorem wLe_1 {x0 : D} {p : Prop} (h : p) : wLe [x0] p := ⟨le_1 _, h⟩
theorem wLe_2 {x0 x1 : D} {p : Prop} (h : p) : wLe [x0, x1] p := ⟨le_2 _ _, h⟩
theorem wLe_3 {x0 x1 x2 : D} {p : Prop} (h : p) : wLe [x0, x1, x2] p := ⟨le_3 _ _ _, h⟩
theorem wLe_4 {x0 x1 x2 x3 : D} {p : Prop} (h : p) : wLe [x0, x1, x2, x3] p := ⟨le_4 _ _ _ _, h⟩
theorem wLe_5 {x0 x1 x2 x3 x4 : D} {p : Prop} (h : p) : wLe [x0, x1, x2, x3, x4] p := ⟨le_5 _ _ _ _ _, h⟩
theorem wLe_6 {x0 x1 x2 x3 x4 x5 : D} {p : Prop} (h : p) : wLe [x0, x1, x2, x3, x4, x5] p := ⟨le_6 _ _ _ _ _ _, h⟩
theorem wLe_7 {x0 x1 x2 x3 x4 x5 x6 : D} {p : Prop} (h : p) : wLe [x0, x1, x2, x3, x4, x5, x6] p := ⟨le_7 _ _ _ _ _ _ _, h⟩
theorem wLe_8 {x0 x1 x2 x3 x4 x5 x6 x7 : D} {p : Prop} (h : p) : wLe [x0, x1, x2, x3, x4, x5, x6, x7] p := ⟨le_8 _ _ _ _ _ _ _ _, h⟩
theorem wLe_9 {x0 x1 x2 x3 x4 x5 x6 x7 x8 : D} {p : Prop} (h : p) : wLe [x0, x1, x2, x3, x4, x5, x6, x7, x8] p := ⟨le_9 _ _ _ _ _ _ _ _ _, h⟩
theorem wLe_10 {x0 x1 x2 x3 x4 x5 x6 x7 x8 x9 : D} {p : Prop} (h : p) : wLe [x0, x1, x2, x3, x4, x5, x6, x7, x8, x9] p := ⟨le_10 _ _ _ _ _ _ _ _ _ _, h⟩
theorem wLe_11 {x0 x1 x2 x3 x4 x5 x6 x7 x8 x9 x10 : D} {p : Prop} (h : p) : wLe [x0, x1, x2, x3, x4, x5, x6, x7, x8, x9, x10] p := ⟨le_11 _ _ _ _ _ _ _ _ _ _ _, h⟩
theorem wLe_12 {x0 x1 x2 x3 x4 x5 x6 x7 x8 x9 x10 x11 : D} {p : Prop} (h : p) : wLe [x0, x1, x2, x3, x4, x5, x6, x7, x8, x9, x10, x11] p := ⟨le_12 _ _ _ _ _ _ _ _ _ _ _ _, h⟩
theorem wLe_13 {x0 x1 x2 x3 x4 x5 x6 x7 x8 x9 x10 x11 x12 : D} {p : Prop} (h : p) : wLe [x0, x1, x2, x3, x4, x5, x6, x7, x8, x9, x10, x11, x12] p := ⟨le_13 _ _ _ _ _ _ _ _ _ _ _ _ _, h⟩
theorem wLe_14 {x0 x1 x2 x3 x4 x5 x6 x7 x8 x9 x10 x11 x12 x13 : D} {p : Prop} (h : p) : wLe [x0, x1, x2, x3, x4, x5, x6, x7, x8, x9, x10, x11, x12, x13] p := ⟨le_14 _ _ _ _ _ _ _ _ _ _ _ _ _ _, h⟩
theorem wLe_15 {x0 x1 x2 x3 x4 x5 x6 x7 x8 x9 x10 x11 x12 x13 x14 : D} {p : Prop} (h : p) : wLe [x0, x1, x2, x3, x4, x5, x6, x7, x8, x9, x10, x11, x12, x13, x14] p := ⟨le_15 _ _ _ _ _ _ _ _ _ _ _ _ _ _ _, h⟩
theorem wLe_16 {x0 x1 x2 x3 x4 x5 x6 x7 x8 x9 x10 x11 x12 x13 x14 x15 : D} {p : Prop} (h : p) : wLe [x0, x1, x2, x3, x4, x5, x6, x7, x8, x9, x10, x11, x12, x13, x14, x15] p := ⟨le_16 _ _ _ _ _ _ _ _ _ _ _ _ _ _ _ _, h⟩
theorem wv_tup' {es : E} (hb : nbs es = true) (h : wAs Γ es ρ (fun ds ρ => wLe ds (k (.tup ds) ρ)) X) : W ((ev Γ (.tup es)).v ρ) k X := wv_tup (wAs_ok hb (wAs_mono h (fun _ _ h => h) fun _ _ _ h => h))
theorem wv_lst' {es : E} (hb : nbs es = true) (h : wAs Γ es ρ (fun ds ρ => wLe ds (k (.lst true ds) ρ)) X) : W ((ev Γ (.lst es)).v ρ) k X := wv_lst (wAs_ok hb (wAs_mono h (fun _ _ h => h) fun _ _ _ h => h))
theorem wAs_nil {k : List D → VI.Env → Prop} (h : k [] ρ) : wAs Γ .nil ρ k X := h
theorem wAs_cons {a r : E} {k : List D → VI.Env → Prop} (h : W ((ev Γ a).v ρ) (fun d ρ => wAs Γ r ρ (fun ds ρ => k (d :: ds) ρ) X) X) : wAs Γ (.cons a r) ρ k X := h
theorem ws_asgn {i : Nat} {e : E} (h : W ((ev Γ e).v ρ) (fun d ρ => wSet ρ i (some d) fun ρ => Q (.nx ρ)) (XS Q)) : WS (evS Γ up (.asg (.n i) e) ρ) Q := ws_asg h
theorem wT_n {i : Nat} {d : D} {k : VI.Env → Prop} (h : wSet ρ i (some d) k) : WO (assignT (.n i) d ρ) k := h
theorem wT_t {ts : Tg} {ds : List D} {k : VI.Env → Prop} (h : WO (assignTs ts ds ρ) k) : WO (assignT (.t ts) (.tup ds) ρ) k := h
theorem wT_nil {k : VI.Env → Prop} (h : k ρ) : WO (assignTs .nil [] ρ) k := h
theorem wT_cons {t r : Tg} {d : D} {ds : List D} {k : VI.Env → Prop} (h : WO (assignT t d ρ) fun ρ => WO (assignTs r ds ρ) k) : WO (assignTs (.cons t r) (d :: ds) ρ) k := by
  show WO ((assignT t d ρ).bind _) k
  revert h; cases assignT t d ρ <;> exact fun h => h
def wSets : List Nat → List D → VI.Env → (VI.Env → Prop) → Prop
  | i :: is, d :: ds, ρ, k => wSet ρ i (some d) fun ρ => wSets is ds ρ k
  | _, _, ρ, k => k ρ
theorem wSets_nil {k : VI.Env → Prop} (h : k ρ) : wSets [] [] ρ k := h
theorem wSets_cons {i : Nat} {is : List Nat} {d : D} {ds : List D} {k : VI.Env → Prop} (h : wSet ρ i (some d) fun ρ => wSets is ds ρ k) : wSets (i :: is) (d :: ds) ρ k := h
theorem wSets_ok {is : List Nat} {ds : List D} {k : VI.Env → Prop} (h : wSets is ds ρ k) : k (setAll is ds ρ) := by
  induction is generalizing ds ρ with
  | nil => exact h
  | cons i is ih => cases ds with
    | nil => exact h
    | cons d ds => exact ih (ρ := ρ.set i (some d)) h
def cntE : E → Nat
  | .cons _ r => cntE r + 1
  | _ => 0
theorem wAs_cnt {es : E} {ρ : VI.Env} {k : List D → VI.Env → Prop} (h : wAs Γ es ρ k X) : wAs Γ es ρ (fun ds ρ => ds.length = cntE es ∧ k ds ρ) X := by
  induction es generalizing ρ k with
  | nil => exact ⟨rfl, h⟩
  | cons a r _ ih => exact W.mono h (fun d ρ h => wAs_mono (ih h) (fun ds ρ h => ⟨by rw [List.length_cons, h.1]; rfl, h.2⟩) fun _ _ _ h => h) fun _ _ _ h => h
  | _ => exact h
theorem ws_par' {is : List Nat} {es : E} (hb : nbs es = true) (hc : cntE es = is.length) (h : wAs Γ es ρ (fun ds ρ => wSets is ds ρ fun ρ => Q (.nx ρ)) (XS Q)) : WS (evS Γ up (.par is es) ρ) Q :=
  ws_par (wAs_ok hb (wAs_mono (wAs_cnt h) (fun ds ρ h => ⟨h.1.trans hc, wSets_ok h.2⟩) fun _ _ _ h => h))
theorem ws_app' {i : Nat} {e : E} {xs0 : List D} (e0 : slot ρ i = some (.lst true xs0)) (h : W ((ev Γ e).v ρ) (fun d ρ => wSloL ρ i fun xs => wLt xs (wSet ρ i (some (.lst true (xs ++ [d]))) fun ρ => Q (.nx ρ))) (XS Q)) : WS (evS Γ up (.app i e) ρ) Q := ws_app e0 (h.mono (fun d ρ ⟨x, e, h1, h2⟩ => ⟨x, e, h1, h2⟩) fun _ _ _ h => h)
theorem ws_seti' {i : Nat} {ix e : E} (h : W ((ev Γ e).v ρ) (fun d ρ => wSloL ρ i fun _ => W ((ev Γ ix).v ρ) (fun y ρ => wInt y fun n => wSloL ρ i fun xs => wSeti xs n d fun ys => wSet ρ i (some (.lst true ys)) fun ρ => Q (.nx ρ)) (XS Q)) (XS Q)) : WS (evS Γ up (.seti i ix e) ρ) Q :=
  ws_seti (h.mono (fun d ρ ⟨x, e, h⟩ => ⟨x, e, h.mono (fun y ρ ⟨n, e1, xs, e2, h1, h2, j, e3, h3⟩ => ⟨xs, n, j, e2, e1, h1, h2, e3, h3⟩) fun _ _ _ h => h⟩) fun _ _ _ h => h)
theorem wv_pop' {i : Nat} {a : E} {xs0 : List D} (e0 : slot ρ i = some (.lst true xs0)) (h : W ((ev Γ a).v ρ) (fun y ρ => wInt y fun n => wSloL ρ i fun xs => wPop xs n fun d ys => wSet ρ i (some (.lst true ys)) fun ρ => k d ρ) X) : W ((ev Γ (.pop i a)).v ρ) k X :=
  wv_pop e0 (h.mono (fun y ρ ⟨n, e1, xs, e2, h1, j, d, h2, h3, h4, h5⟩ => ⟨xs, n, j, d, e2, e1, h1, h2, h3, h4, h5⟩) fun _ _ _ h => h)
theorem wv_neg' {a : E} (h : W ((ev Γ a).v ρ) (fun x ρ => wInt x fun i => k (.int (-i)) ρ) X) : W ((ev Γ (.neg a)).v ρ) k X := wv_neg h
theorem wi_rng' {a : E} (h : W ((ev Γ a).v ρ) (fun x ρ => wInt x fun j => wSm j (k (.tup (rangeD 0 j)) ρ)) X) : W ((ev Γ (.rng a)).it ρ) k X := wi_rng h
theorem wi_rng2' {a b : E} (h : W ((ev Γ a).v ρ) (fun x ρ => W ((ev Γ b).v ρ) (fun y ρ => wInt x fun i => wInt y fun j => wSm i (wSm j (k (.tup (rangeD i j)) ρ))) X) X) : W ((ev Γ (.rng2 a b)).it ρ) k X :=
  wi_rng2 (h.mono (fun x ρ h => W.mono h (fun y ρ ⟨i, e1, j, e2, h1, h2, h3⟩ => ⟨i, j, e1, e2, h1, h2, h3⟩) fun _ _ _ h => h) fun _ _ _ h => h)
def wLr (j : Int) (p : Prop) : Prop := (-(2 ^ 62) ≤ j ∧ j ≤ (sizeLine : Nat)) ∧ p
theorem wLr.mk {j : Int} {p : Prop} (h0 : 0 ≤ j) (h1 : j ≤ 1000000) (h : p) : wLr j p := ⟨⟨by omega, by rw [sizeLine_eq]; omega⟩, h⟩
theorem wv_lrg' {a : E} (h : W ((ev Γ a).v ρ) (fun x ρ => wInt x fun j => wLr j (k (.lst true (rangeD 0 j)) ρ)) X) : W ((ev Γ (.lrg a)).v ρ) k X := wv_lrg h
theorem wa_cons' {a r : E} (h : W ((ev Γ a).v ρ) (fun d ρ1 => W ((ev Γ r).as ρ1) (fun ds ρ2 => WO (late a d ρ2) fun d' => k (.tup (d' :: tupOf ds)) ρ2) X) X) : W ((ev Γ (.cons a r)).as ρ) k X := wa_cons h
theorem wv_pop0' {i : Nat} {xs : List D} {d : D} (e0 : slot ρ i = some (.lst true xs)) (hp : D.pures xs = true) (hd : xs[xs.length - 1]? = some d) (h : wSet ρ i (some (.lst true xs.dropLast)) fun ρ => k d ρ) : W ((ev Γ (.pop0 i)).v ρ) k X := wv_pop0 e0 hp hd h
theorem wh_yes' {c c' : String} {d : D} {i : Nat} {s r : S} (e : up c c' = true) (h : wSet ρ i (some (.exc c d)) fun ρ => WS (evS Γ up s ρ) (hK i Q)) : WS (evS.handle Γ up c d ρ (.seq (.hnd c' i s) r)) Q := wh_yes e h
theorem hK_nx' {i : Nat} (h : wSet ρ i none fun ρ => Q (.nx ρ)) : hK i Q (.nx ρ) := h
theorem hK_rt' {i : Nat} {d : D} (h : wSet ρ i none fun ρ => Q (.rt d ρ)) : hK i Q (.rt d ρ) := h
theorem wI_not {b : Bool} {p q : Prop} (h : wI b q p) : wI (!b) p q := by cases b <;> exact h
theorem wI_nil {p q : Prop} (h : p) : wI ([] : List D).isEmpty p q := h
theorem wI_cons {x : D} {xs : List D} {p q : Prop} (h : q) : wI (x :: xs).isEmpty p q := h
theorem wI.t' {b : Bool} {p q : Prop} (e : b = true) (h : p) : wI b p q := by rw [e]; exact h
theorem wI.f' {b : Bool} {p q : Prop} (e : b = false) (h : q) : wI b p q := by rw [e]; exact h
theorem wI.dec {c : Prop} [Decidable c] {p q : Prop} (h1 : c → p) (h2 : ¬ c → q) : wI (decide c) p q := wI.both (fun h => h1 (of_decide_eq_true h)) fun h => h2 (of_decide_eq_false h)
theorem wI.beq {α : Type} [BEq α] [LawfulBEq α] {a b : α} {p q : Prop} (h1 : a = b → p) (h2 : a ≠ b → q) : wI (a == b) p q := wI.both (fun h => h1 (eq_of_beq h)) fun h => h2 (ne_of_beq_false h)
theorem wI.iteq {b : Bool} {p q : Prop} (h : if b = true then p else q) : wI b p q := by cases b <;> exact h
/-- operators -/
theorem wo_add {i j : Int} {k : D → Prop} (h : k (.int (i + j))) : WO (binD .Add (.int i) (.int j)) k := h
theorem wo_sub {i j : Int} {k : D → Prop} (h : k (.int (i - j))) : WO (binD .Sub (.int i) (.int j)) k := h
theorem wo_mod {i j : Int} {k : D → Prop} (e : 0 < j) (h : k (.int (i % j))) : WO (binD .Mod (.int i) (.int j)) k := WO.mk (bin_mod e) h
theorem wo_mul {i j : Int} {k : D → Prop} (e : i.natAbs.log2 + j.natAbs.log2 < 1000000) (h : k (.int (i * j))) : WO (binD .Mult (.int i) (.int j)) k := WO.mk (bin_mul e) h
theorem wo_fdiv {i j : Int} {k : D → Prop} (e1 : 0 < j) (e2 : j.natAbs.log2 < 9000) (h : k (.int (i / j))) : WO (binD .FloorDiv (.int i) (.int j)) k := WO.mk (bin_fdiv e1 e2) h
theorem wo_addl {o1 o2 : Bool} {xs ys : List D} {k : D → Prop} [h1 : Pus xs] [h2 : Pus ys] (e : xs.length + ys.length ≤ sizeLine) (h : k (.lst true (xs ++ ys))) : WO (binD .Add (.lst o1 xs) (.lst o2 ys)) k := by
  refine WO.mk (a := .lst true (xs ++ ys)) ?_ h
  show (if _ then _ else _) = _
  rw [h1.pus, h2.pus, decide_eq_true e]; rfl
theorem wo_addt {xs ys : List D} {k : D → Prop} [h1 : Pus xs] [h2 : Pus ys] (e : xs.length + ys.length ≤ sizeLine) (h : k (.tup (xs ++ ys))) : WO (binD .Add (.tup xs) (.tup ys)) k := by
  refine WO.mk (a := .tup (xs ++ ys)) ?_ h
  show (if _ then _ else _) = _
  rw [h1.pus, h2.pus, decide_eq_true e]; rfl
theorem wo_mull {o1 : Bool} {xs : List D} {n : Int} {k : D → Prop} [h1 : Pus xs] (e : small n = true) (e2 : xs.length * n.toNat ≤ sizeLine) (h : k (.lst true (List.replicate n.toNat xs).flatten)) : WO (binD .Mult (.lst o1 xs) (.int n)) k := by
  refine WO.mk (a := .lst true (List.replicate n.toNat xs).flatten) ?_ h
  show (if _ then _ else _) = _
  rw [h1.pus, e, decide_eq_true e2]; rfl
theorem wo_lt {i j : Int} {k : Bool → Prop} (h : k (decide (i < j))) : WO (cmpD .Lt (.int i) (.int j)) k := h
theorem wo_le {i j : Int} {k : Bool → Prop} (h : k (decide (i ≤ j))) : WO (cmpD .LtE (.int i) (.int j)) k := h
theorem wo_gt {i j : Int} {k : Bool → Prop} (h : k (decide (j < i))) : WO (cmpD .Gt (.int i) (.int j)) k := h
theorem wo_ge {i j : Int} {k : Bool → Prop} (h : k (decide (j ≤ i))) : WO (cmpD .GtE (.int i) (.int j)) k := h
theorem wo_eqi {i j : Int} {k : Bool → Prop} (h : k (i == j)) : WO (cmpD .Eq (.int i) (.int j)) k := h
theorem wo_nei {i j : Int} {k : Bool → Prop} (h : k (!(i == j))) : WO (cmpD .NotEq (.int i) (.int j)) k := h
theorem wo_eqs {i j : Str} {k : Bool → Prop} (h : k (i == j)) : WO (cmpD .Eq (.str i) (.str j)) k := h
theorem wo_nes {i j : Str} {k : Bool → Prop} (h : k (!(i == j))) : WO (cmpD .NotEq (.str i) (.str j)) k := h
theorem wo_eqb {i j : Bool} {k : Bool → Prop} (h : k (i == j)) : WO (cmpD .Eq (.bl i) (.bl j)) k := h
theorem wo_neb {i j : Bool} {k : Bool → Prop} (h : k (!(i == j))) : WO (cmpD .NotEq (.bl i) (.bl j)) k := h
theorem wo_isn {k : Bool → Prop} (h : k true) : WO (cmpD .Is .non .non) k := h
theorem wo_isnn {k : Bool → Prop} (h : k false) : WO (cmpD .IsNot .non .non) k := h
theorem wo_is0 {x y : D} {b : Bool} {k : Bool → Prop} (e : isD x y = some b) (h : k b) : WO (cmpD .Is x y) k := WO.mk e h
theorem wo_isnot0 {x y : D} {b : Bool} {k : Bool → Prop} (e : isD x y = some b) (h : k (!b)) : WO (cmpD .IsNot x y) k := WO.mk (show (isD x y).map (!·) = _ by rw [e]; rfl) h
theorem wt_bl {b : Bool} {k : Bool → Prop} (h : k b) : WO (truth (.bl b)) k := h
theorem wt_int {i : Int} {k : Bool → Prop} (h : k (i != 0)) : WO (truth (.int i)) k := h
theorem wt_tup {xs : List D} {k : Bool → Prop} (h : k (!xs.isEmpty)) : WO (truth (.tup xs)) k := h
theorem wt_lst {o : Bool} {xs : List D} {k : Bool → Prop} (h : k (!xs.isEmpty)) : WO (truth (.lst o xs)) k := h
theorem wt_non {k : Bool → Prop} (h : k false) : WO (truth .non) k := h
theorem wit_tup {xs : List D} {k : List D → Prop} (h : k xs) : WO (itemsOf (.tup xs)) k := h
theorem wit_lst {o : Bool} {xs : List D} {k : List D → Prop} (h : k xs) : WO (itemsOf (.lst o xs)) k := h
theorem wlo_lst {o : Bool} {xs : List D} {k : List D → Prop} [p : Pus xs] (h : k xs) : WO (lstOf (.lst o xs)) k := WO.mk (show (if _ then _ else _) = _ by rw [if_pos p.pus]) h
theorem wb_len_t {xs : List D} {k : D → Prop} (h : k (.int xs.length)) : WO (biD .len [.tup xs]) k := h
theorem wb_len_l {o : Bool} {xs : List D} {k : D → Prop} (h : k (.int xs.length)) : WO (biD .len [.lst o xs]) k := h
theorem wb_len_s {ns : List Int} {k : D → Prop} (h : k (.int ns.length)) : WO (biD .len [.scr ns]) k := h
theorem wb_int {i : Int} {k : D → Prop} (h : k (.int i)) : WO (biD .int [.int i]) k := h
theorem wb_intb {i : Bool} {k : D → Prop} (h : k (.int (if i then 1 else 0))) : WO (biD .int [.bl i]) k := h
theorem wb_abs {i : Int} {k : D → Prop} (h : k (.int (if i < 0 then -i else i))) : WO (biD .abs [.int i]) k := h
theorem wb_max {i j : Int} {k : D → Prop} (h : k (.int (if j > i then j else i))) : WO (biD .max2 [.int i, .int j]) k := h
theorem wb_min {i j : Int} {k : D → Prop} (h : k (.int (if j < i then j else i))) : WO (biD .min2 [.int i, .int j]) k := h
theorem wb_bitlen {i : Int} {k : D → Prop} (h : k (.int (bitLen i))) : WO (biD .bitlen [.int i]) k := h
theorem wb_list_l {o : Bool} {xs : List D} {k : D → Prop} [p : Pus xs] (h : k (.lst true xs)) : WO (biD .list [.lst o xs]) k := WO.mk (show (if _ then _ else _) = _ by rw [if_pos p.pus]) h
theorem wb_list_t {xs : List D} {k : D → Prop} [p : Pus xs] (h : k (.lst true xs)) : WO (biD .list [.tup xs]) k := WO.mk (show (if _ then _ else _) = _ by rw [if_pos p.pus]) h
theorem wb_tuple_l {o : Bool} {xs : List D} {k : D → Prop} [p : Pus xs] (h : k (.tup xs)) : WO (biD .tuple [.lst o xs]) k := WO.mk (show (if _ then _ else _) = _ by rw [if_pos p.pus]) h
theorem wb_tuple_t {xs : List D} {k : D → Prop} [p : Pus xs] (h : k (.tup xs)) : WO (biD .tuple [.tup xs]) k := WO.mk (show (if _ then _ else _) = _ by rw [if_pos p.pus]) h
theorem wx_t0 {x : D} {xs : List D} {k : D → Prop} [p : Pu x] (h : k x) : WO (idxD (.tup (x :: xs)) (.int 0)) k := WO.mk (idx_t0 p.pu) h
theorem wx_t1 {x y : D} {xs : List D} {k : D → Prop} [p : Pu y] (h : k y) : WO (idxD (.tup (x :: y :: xs)) (.int 1)) k := WO.mk (idx_t1 p.pu) h
theorem wx_t2 {x y z : D} {xs : List D} {k : D → Prop} [p : Pu z] (h : k z) : WO (idxD (.tup (x :: y :: z :: xs)) (.int 2)) k := WO.mk (idx_t2 p.pu) h
theorem wx_t3 {x y z u : D} {xs : List D} {k : D → Prop} [p : Pu u] (h : k u) : WO (idxD (.tup (x :: y :: z :: u :: xs)) (.int 3)) k := WO.mk (idx_t3 p.pu) h
theorem wx_l0 {o : Bool} {x : D} {xs : List D} {k : D → Prop} [p : Pu x] (h : k x) : WO (idxD (.lst o (x :: xs)) (.int 0)) k := WO.mk (idx_t0 p.pu) h
theorem wx_l1 {o : Bool} {x y : D} {xs : List D} {k : D → Prop} [p : Pu y] (h : k y) : WO (idxD (.lst o (x :: y :: xs)) (.int 1)) k := WO.mk (idx_t1 p.pu) h
theorem wx_l2 {o : Bool} {x y z : D} {xs : List D} {k : D → Prop} [p : Pu z] (h : k z) : WO (idxD (.lst o (x :: y :: z :: xs)) (.int 2)) k := WO.mk (idx_t2 p.pu) h
theorem wp_n {k : Option Int → Prop} {d : D} (h : k none) : WO (partD .nil d) k := h
theorem wp_s {e : E} {i : Int} {k : Option Int → Prop} (he : (match e with | .nil => false | _ => true) = true) (h : k (some i)) : WO (partD e (.int i)) k := by
  cases e <;> first | (cases he; done) | exact h
theorem wsl_l {o : Bool} {xs : List D} {l u : Option Int} {k : D → Prop} [p : Pus xs] (h : k (.lst true (cut xs l u))) : WO (slD (.lst o xs) l u) k := WO.mk (show (if _ then _ else _) = _ by rw [if_pos p.pus]) h
theorem wsl_t {xs : List D} {l u : Option Int} {k : D → Prop} [p : Pus xs] (h : k (.tup (cut xs l u))) : WO (slD (.tup xs) l u) k := WO.mk (show (if _ then _ else _) = _ by rw [if_pos p.pus]) h
theorem wsl_s {xs : List Int} {l u : Option Int} {k : D → Prop} (h : k (.lst true ((cut xs l u).map .int))) : WO (slD (.scr xs) l u) k := h
def isTy (v : D) (ts : List Ty) : Bool := ts.any fun t => isiT (tyD v) t
theorem wy_py {v : D} {ts : List Ty} {k : D → Prop} (e : isPy v = true) (h : k (.bl (isTy v ts))) : WO (isiD v ts) k := WO.mk (isiD_py e ts) h
theorem wo_is_bl {b : Bool} {k : Bool → Prop} (h : k false) : WO (cmpD .Is (.bl b) .non) k := h
theorem wo_isnot_bl {b : Bool} {k : Bool → Prop} (h : k true) : WO (cmpD .IsNot (.bl b) .non) k := h
theorem wo_is_int {i : Int} {k : Bool → Prop} (h : k false) : WO (cmpD .Is (.int i) .non) k := h
theorem wo_isnot_int {i : Int} {k : Bool → Prop} (h : k true) : WO (cmpD .IsNot (.int i) .non) k := h
theorem wo_is_str {x : Str} {k : Bool → Prop} (h : k false) : WO (cmpD .Is (.str x) .non) k := h
theorem wo_isnot_str {x : Str} {k : Bool → Prop} (h : k true) : WO (cmpD .IsNot (.str x) .non) k := h
theorem wo_is_tup {xs : List D} {k : Bool → Prop} (h : k false) : WO (cmpD .Is (.tup xs) .non) k := h
theorem wo_isnot_tup {xs : List D} {k : Bool → Prop} (h : k true) : WO (cmpD .IsNot (.tup xs) .non) k := h
theorem wo_is_lst {o : Bool} {xs : List D} {k : Bool → Prop} (h : k false) : WO (cmpD .Is (.lst o xs) .non) k := h
theorem wo_isnot_lst {o : Bool} {xs : List D} {k : Bool → Prop} (h : k true) : WO (cmpD .IsNot (.lst o xs) .non) k := h
theorem wo_is_edic {k : Bool → Prop} (h : k false) : WO (cmpD .Is .edic .non) k := h
theorem wo_isnot_edic {k : Bool → Prop} (h : k true) : WO (cmpD .IsNot .edic .non) k := h
theorem wo_is_exc {c : String} {v : D} {k : Bool → Prop} (h : k false) : WO (cmpD .Is (.exc c v) .non) k := h
theorem wo_isnot_exc {c : String} {v : D} {k : Bool → Prop} (h : k true) : WO (cmpD .IsNot (.exc c v) .non) k := h
theorem wo_is_fn {f : String} {k : Bool → Prop} (h : k false) : WO (cmpD .Is (.fn f) .non) k := h
theorem wo_isnot_fn {f : String} {k : Bool → Prop} (h : k true) : WO (cmpD .IsNot (.fn f) .non) k := h
theorem wo_is_cls {f : String} {k : Bool → Prop} (h : k false) : WO (cmpD .Is (.cls f) .non) k := h
theorem wo_isnot_cls {f : String} {k : Bool → Prop} (h : k true) : WO (cmpD .IsNot (.cls f) .non) k := h
theorem wo_isb_non {z : Bool} {k : Bool → Prop} (h : k false) : WO (cmpD .Is .non (.bl z)) k := h
theorem wo_isb_int {i : Int} {z : Bool} {k : Bool → Prop} (h : k false) : WO (cmpD .Is (.int i) (.bl z)) k := h
theorem wo_isb_str {x : Str} {z : Bool} {k : Bool → Prop} (h : k false) : WO (cmpD .Is (.str x) (.bl z)) k := h
theorem wo_isb_tup {xs : List D} {z : Bool} {k : Bool → Prop} (h : k false) : WO (cmpD .Is (.tup xs) (.bl z)) k := h
theorem wo_isb_lst {o : Bool} {xs : List D} {z : Bool} {k : Bool → Prop} (h : k false) : WO (cmpD .Is (.lst o xs) (.bl z)) k := h
theorem wo_isb_edic {z : Bool} {k : Bool → Prop} (h : k false) : WO (cmpD .Is .edic (.bl z)) k := h
theorem wo_isb_bl {b z : Bool} {k : Bool → Prop} (h : k (decide (b = z))) : WO (cmpD .Is (.bl b) (.bl z)) k := h
theorem wy_non_int {k : D → Prop} (h : k (.bl false)) : WO (isiD .non [.int]) k := h
theorem wy_non_bool {k : D → Prop} (h : k (.bl false)) : WO (isiD .non [.bool]) k := h
theorem wy_non_str {k : D → Prop} (h : k (.bl false)) : WO (isiD .non [.str]) k := h
theorem wy_non_tuple {k : D → Prop} (h : k (.bl false)) : WO (isiD .non [.tuple]) k := h
theorem wy_non_list {k : D → Prop} (h : k (.bl false)) : WO (isiD .non [.list]) k := h
theorem wy_non_dict {k : D → Prop} (h : k (.bl false)) : WO (isiD .non [.dict]) k := h
theorem wy_bl_int {b : Bool} {k : D → Prop} (h : k (.bl true)) : WO (isiD (.bl b) [.int]) k := h
theorem wy_bl_bool {b : Bool} {k : D → Prop} (h : k (.bl true)) : WO (isiD (.bl b) [.bool]) k := h
theorem wy_bl_str {b : Bool} {k : D → Prop} (h : k (.bl false)) : WO (isiD (.bl b) [.str]) k := h
theorem wy_bl_tuple {b : Bool} {k : D → Prop} (h : k (.bl false)) : WO (isiD (.bl b) [.tuple]) k := h
theorem wy_bl_list {b : Bool} {k : D → Prop} (h : k (.bl false)) : WO (isiD (.bl b) [.list]) k := h
theorem wy_bl_dict {b : Bool} {k : D → Prop} (h : k (.bl false)) : WO (isiD (.bl b) [.dict]) k := h
theorem wy_int_int {i : Int} {k : D → Prop} (h : k (.bl true)) : WO (isiD (.int i) [.int]) k := h
theorem wy_int_bool {i : Int} {k : D → Prop} (h : k (.bl false)) : WO (isiD (.int i) [.bool]) k := h
theorem wy_int_str {i : Int} {k : D → Prop} (h : k (.bl false)) : WO (isiD (.int i) [.str]) k := h
theorem wy_int_tuple {i : Int} {k : D → Prop} (h : k (.bl false)) : WO (isiD (.int i) [.tuple]) k := h
theorem wy_int_list {i : Int} {k : D → Prop} (h : k (.bl false)) : WO (isiD (.int i) [.list]) k := h
theorem wy_int_dict {i : Int} {k : D → Prop} (h : k (.bl false)) : WO (isiD (.int i) [.dict]) k := h
theorem wy_str_int {x : Str} {k : D → Prop} (h : k (.bl false)) : WO (isiD (.str x) [.int]) k := h
theorem wy_str_bool {x : Str} {k : D → Prop} (h : k (.bl false)) : WO (isiD (.str x) [.bool]) k := h
theorem wy_str_str {x : Str} {k : D → Prop} (h : k (.bl true)) : WO (isiD (.str x) [.str]) k := h
theorem wy_str_tuple {x : Str} {k : D → Prop} (h : k (.bl false)) : WO (isiD (.str x) [.tuple]) k := h
theorem wy_str_list {x : Str} {k : D → Prop} (h : k (.bl false)) : WO (isiD (.str x) [.list]) k := h
theorem wy_str_dict {x : Str} {k : D → Prop} (h : k (.bl false)) : WO (isiD (.str x) [.dict]) k := h
theorem wy_tup_int {xs : List D} {k : D → Prop} (h : k (.bl false)) : WO (isiD (.tup xs) [.int]) k := h
theorem wy_tup_bool {xs : List D} {k : D → Prop} (h : k (.bl false)) : WO (isiD (.tup xs) [.bool]) k := h
theorem wy_tup_str {xs : List D} {k : D → Prop} (h : k (.bl false)) : WO (isiD (.tup xs) [.str]) k := h
theorem wy_tup_tuple {xs : List D} {k : D → Prop} (h : k (.bl true)) : WO (isiD (.tup xs) [.tuple]) k := h
theorem wy_tup_list {xs : List D} {k : D → Prop} (h : k (.bl false)) : WO (isiD (.tup xs) [.list]) k := h
theorem wy_tup_dict {xs : List D} {k : D → Prop} (h : k (.bl false)) : WO (isiD (.tup xs) [.dict]) k := h
theorem wy_lst_int {o : Bool} {xs : List D} {k : D → Prop} (h : k (.bl false)) : WO (isiD (.lst o xs) [.int]) k := h
theorem wy_lst_bool {o : Bool} {xs : List D} {k : D → Prop} (h : k (.bl false)) : WO (isiD (.lst o xs) [.bool]) k := h
theorem wy_lst_str {o : Bool} {xs : List D} {k : D → Prop} (h : k (.bl false)) : WO (isiD (.lst o xs) [.str]) k := h
theorem wy_lst_tuple {o : Bool} {xs : List D} {k : D → Prop} (h : k (.bl false)) : WO (isiD (.lst o xs) [.tuple]) k := h
theorem wy_lst_list {o : Bool} {xs : List D} {k : D → Prop} (h : k (.bl true)) : WO (isiD (.lst o xs) [.list]) k := h
theorem wy_lst_dict {o : Bool} {xs : List D} {k : D → Prop} (h : k (.bl false)) : WO (isiD (.lst o xs) [.dict]) k := h
theorem wy_edic_int {k : D → Prop} (h : k (.bl false)) : WO (isiD .edic [.int]) k := h
theorem wy_edic_bool {k : D → Prop} (h : k (.bl false)) : WO (isiD .edic [.bool]) k := h
theorem wy_edic_str {k : D → Prop} (h : k (.bl false)) : WO (isiD .edic [.str]) k := h
theorem wy_edic_tuple {k : D → Prop} (h : k (.bl false)) : WO (isiD .edic [.tuple]) k := h
theorem wy_edic_list {k : D → Prop} (h : k (.bl false)) : WO (isiD .edic [.list]) k := h
theorem wy_edic_dict {k : D → Prop} (h : k (.bl true)) : WO (isiD .edic [.dict]) k := h
end
section
variable {Γ : Gam} {up : String → String → Bool} {ρ : VI.Env}
theorem tag_V {e : E} {k : D → VI.Env → Prop} {X : String → D → VI.Env → Prop} (h : W ((ev Γ e).v ρ) k X) : W ((ev Γ e).v ρ) k X := h
theorem tag_T {e : E} {k : D → VI.Env → Prop} {X : String → D → VI.Env → Prop} (h : W ((ev Γ e).t ρ) k X) : W ((ev Γ e).t ρ) k X := h
theorem tag_I {e : E} {k : D → VI.Env → Prop} {X : String → D → VI.Env → Prop} (h : W ((ev Γ e).it ρ) k X) : W ((ev Γ e).it ρ) k X := h
theorem tag_A {e : E} {k : D → VI.Env → Prop} {X : String → D → VI.Env → Prop} (h : W ((ev Γ e).as ρ) k X) : W ((ev Γ e).as ρ) k X := h
theorem tag_wSeen {e : E} {ds : List D} {k : List D → Prop} (h : wSeen e ds k) : wSeen e ds k := h
theorem tag_AS {e : E} {k : List D → VI.Env → Prop} {X : String → D → VI.Env → Prop} (h : wAs Γ e ρ k X) : wAs Γ e ρ k X := h
theorem tag_S {s : S} {Q : SR → Prop} (h : WS (evS Γ up s ρ) Q) : WS (evS Γ up s ρ) Q := h
theorem tag_H {s : S} {c : String} {d : D} {Q : SR → Prop} (h : WS (evS.handle Γ up c d ρ s) Q) : WS (evS.handle Γ up c d ρ s) Q := h
theorem tag_sK {k : VI.Env → Prop} {Q : SR → Prop} {r : SR} (h : sK k Q r) : sK k Q r := h
theorem tag_lK {k b : VI.Env → Prop} {Q : SR → Prop} {r : SR} (h : lK k b Q r) : lK k b Q r := h
theorem tag_tK {hs : S} {Q : SR → Prop} {r : SR} (h : tK Γ up hs Q r) : tK Γ up hs Q r := h
theorem tag_hK {i : Nat} {Q : SR → Prop} {r : SR} (h : hK i Q r) : hK i Q r := h
theorem tag_fK {i : Bool} {k : D → D → Prop} {X : String → D → Prop} {r : SR} (h : fK i k X r) : fK i k X r := h
theorem tag_wI {b : Bool} {p q : Prop} (h : wI b p q) : wI b p q := h
theorem tag_wSet {i : Nat} {z : Option D} {k : VI.Env → Prop} (h : wSet ρ i z k) : wSet ρ i z k := h
theorem tag_wLe {ds : List D} {p : Prop} (h : wLe ds p) : wLe ds p := h
theorem tag_wSets {is : List Nat} {ds : List D} {k : VI.Env → Prop} (h : wSets is ds ρ k) : wSets is ds ρ k := h
theorem tag_wSeti {n : Int} {ds : List D} {d : D} {k : List D → Prop} (h : wSeti ds n d k) : wSeti ds n d k := h
theorem tag_wPerm {n : List Nat} {ds es : List D} {k : List D → Prop} (h : wPerm ds es n k) : wPerm ds es n k := h
theorem tag_bin {o : Operator} {x y : D} {k : D → Prop} (h : WO (binD o x y) k) : WO (binD o x y) k := h
theorem tag_cmp {o : CmpOp} {x y : D} {k : Bool → Prop} (h : WO (cmpD o x y) k) : WO (cmpD o x y) k := h
theorem tag_idx {x y : D} {k : D → Prop} (h : WO (idxD x y) k) : WO (idxD x y) k := h
theorem tag_bi {b : BI} {x : List D} {k : D → Prop} (h : WO (biD b x) k) : WO (biD b x) k := h
theorem tag_isi {t : List Ty} {x : D} {k : D → Prop} (h : WO (isiD x t) k) : WO (isiD x t) k := h
theorem tag_tru {x : D} {k : Bool → Prop} (h : WO (truth x) k) : WO (truth x) k := h
theorem tag_itm {x : D} {k : List D → Prop} (h : WO (itemsOf x) k) : WO (itemsOf x) k := h
theorem tag_lof {x : D} {k : List D → Prop} (h : WO (lstOf x) k) : WO (lstOf x) k := h
theorem tag_lat {e : E} {x : D} {k : D → Prop} (h : WO (late e x ρ) k) : WO (late e x ρ) k := h
theorem tag_ast {t : Tg} {x : D} {k : VI.Env → Prop} (h : WO (assignT t x ρ) k) : WO (assignT t x ρ) k := h
theorem tag_asts {t : Tg} {x : List D} {k : VI.Env → Prop} (h : WO (assignTs t x ρ) k) : WO (assignTs t x ρ) k := h
theorem tag_prt {e : E} {x : D} {k : Option Int → Prop} (h : WO (partD e x) k) : WO (partD e x) k := h
theorem tag_sld {x : D} {l u : Option Int} {k : D → Prop} (h : WO (slD x l u) k) : WO (slD x l u) k := h
end

local macro_rules
  | `(tactic| fail) => `(tactic| first | (with_reducible refine tag_V ?_; first | with_reducible refine wv_int ?_ | with_reducible refine wv_str ?_ | with_reducible refine wv_bl ?_ | with_reducible refine wv_non ?_ | with_reducible refine wv_gi ?_ | with_reducible refine wv_fn ?_ | with_reducible refine wv_cls ?_ | with_reducible refine wv_edic ?_ | with_reducible refine wv_nil ?_ | with_reducible refine wv_var' (by with_unfolding_all rfl) ?_ | with_reducible refine wv_bor (by with_unfolding_all rfl) ?_ | with_reducible refine wv_mov' (by with_unfolding_all rfl) ?_ | with_reducible refine wv_fzs' (by with_unfolding_all rfl) ?_ | with_reducible refine wv_frz' ?_ | with_reducible refine wv_idx ?_ | with_reducible refine wv_bin ?_ | with_reducible refine wv_cmp ?_ | with_reducible refine wv_not ?_ | with_reducible refine wv_and ?_ | with_reducible refine wv_or ?_ | with_reducible refine wv_ite ?_ | with_reducible refine wv_cmp2 ?_ | with_reducible refine wv_isi ?_ | with_reducible refine wv_sl ?_ | with_reducible refine wv_call' (by with_unfolding_all rfl) ?_ | with_reducible refine wv_callB ?_ | with_reducible refine wv_calli' (by with_unfolding_all rfl) (by with_unfolding_all rfl) ?_ | with_reducible refine wv_callk' (by with_unfolding_all rfl) (by with_unfolding_all rfl) ?_ | with_reducible refine wv_callb' (by with_unfolding_all rfl) (by with_unfolding_all rfl) ?_ | with_reducible refine wv_callv' (by with_unfolding_all rfl) (by with_unfolding_all rfl) ?_ | with_reducible refine wv_bi' (by with_unfolding_all rfl) ?_ | with_reducible refine wv_bi1 (by with_unfolding_all rfl) ?_ | with_reducible refine wv_tup' (by with_unfolding_all rfl) ?_ | with_reducible refine wv_lst' (by with_unfolding_all rfl) ?_ | with_reducible refine wv_neg' ?_ | with_reducible refine wv_fld' ?_ | with_reducible refine wv_lrg' ?_ | with_reducible refine wv_pop' (by with_unfolding_all rfl) ?_) | (with_reducible refine tag_AS ?_; first | with_reducible refine wAs_cons ?_ | with_reducible refine wAs_nil ?_) | (with_reducible refine tag_A ?_; first | with_reducible refine wa_nil' ?_ | with_reducible refine wa_consT ?_) | (with_reducible refine tag_wSeen ?_; first | with_reducible refine wSeen_t ?_ | with_reducible refine wSeen_nil ?_ | with_reducible refine wSeen_nb (by with_unfolding_all rfl) ?_ | with_reducible refine wSeen_bor ?_) | (with_reducible refine tag_sK ?_; first | with_reducible refine sK_nx ?_ | with_reducible refine sK_rt ?_ | with_reducible refine sK_ex ?_ | with_reducible refine sK_bk ?_ | with_reducible refine sK_ct ?_) | (with_reducible refine tag_wSet ?_; first | with_reducible refine wSet_0 ?_ | with_reducible refine wSet_1 ?_ | with_reducible refine wSet_2 ?_ | with_reducible refine wSet_3 ?_ | with_reducible refine wSet_4 ?_ | with_reducible refine wSet_5 ?_ | with_reducible refine wSet_6 ?_ | with_reducible refine wSet_7 ?_ | with_reducible refine wSet_8 ?_ | with_reducible refine wSet_9 ?_ | with_reducible refine wSet_10 ?_ | with_reducible refine wSet_11 ?_ | with_reducible refine wSet_12 ?_ | with_reducible refine wSet_13 ?_ | with_reducible refine wSet_14 ?_ | with_reducible refine wSet_15 ?_ | with_reducible refine wSet_16 ?_ | with_reducible refine wSet_17 ?_ | with_reducible refine wSet_18 ?_ | with_reducible refine wSet_19 ?_) | (with_reducible refine tag_S ?_; first | with_reducible refine ws_seq ?_ | with_reducible refine ws_nil ?_ | with_reducible refine ws_asgn ?_ | with_reducible refine ws_asg ?_ | with_reducible refine ws_par' (by with_unfolding_all rfl) (by with_unfolding_all rfl) ?_ | with_reducible refine ws_ifs ?_ | with_reducible refine ws_ret ?_ | with_reducible refine ws_retn ?_ | with_reducible refine ws_pass ?_ | with_reducible refine ws_brk ?_ | with_reducible refine ws_cnt ?_ | with_reducible refine ws_raise ?_ | with_reducible refine ws_seti' ?_ | with_reducible refine ws_app' (by with_unfolding_all rfl) ?_ | with_reducible refine ws_for ?_ | with_reducible refine ws_try ?_ | with_reducible refine ws_ex ?_) | (with_reducible refine tag_wI ?_; first | with_reducible refine wI.t ?_ | with_reducible refine wI.f ?_ | with_reducible refine wI_not ?_ | with_reducible refine wI_nil ?_ | with_reducible refine wI_cons ?_) | (with_reducible refine tag_bin ?_; first | with_reducible refine wo_add ?_ | with_reducible refine wo_sub ?_) | (with_reducible refine tag_lat ?_; first | with_reducible refine wl_nb (by with_unfolding_all rfl) ?_ | with_reducible refine wl_bor (by with_unfolding_all rfl) ?_) | (with_reducible refine tag_idx ?_; first | with_reducible refine wx_t0 ?_ | with_reducible refine wx_t1 ?_ | with_reducible refine wx_t2 ?_ | with_reducible refine wx_t3 ?_ | with_reducible refine wx_l0 ?_ | with_reducible refine wx_l1 ?_ | with_reducible refine wx_l2 ?_) | (with_reducible refine tag_cmp ?_; first | with_reducible refine wo_lt ?_ | with_reducible refine wo_le ?_ | with_reducible refine wo_gt ?_ | with_reducible refine wo_ge ?_ | with_reducible refine wo_eqi ?_ | with_reducible refine wo_nei ?_ | with_reducible refine wo_eqs ?_ | with_reducible refine wo_nes ?_ | with_reducible refine wo_eqb ?_ | with_reducible refine wo_neb ?_ | with_reducible refine wo_isn ?_ | with_reducible refine wo_isnn ?_ | with_reducible refine wo_is_bl ?_ | with_reducible refine wo_isnot_bl ?_ | with_reducible refine wo_is_int ?_ | with_reducible refine wo_isnot_int ?_ | with_reducible refine wo_is_str ?_ | with_reducible refine wo_isnot_str ?_ | with_reducible refine wo_is_tup ?_ | with_reducible refine wo_isnot_tup ?_ | with_reducible refine wo_is_lst ?_ | with_reducible refine wo_isnot_lst ?_ | with_reducible refine wo_is_edic ?_ | with_reducible refine wo_isnot_edic ?_ | with_reducible refine wo_is_exc ?_ | with_reducible refine wo_isnot_exc ?_ | with_reducible refine wo_is_fn ?_ | with_reducible refine wo_isnot_fn ?_ | with_reducible refine wo_is_cls ?_ | with_reducible refine wo_isnot_cls ?_ | with_reducible refine wo_isb_non ?_ | with_reducible refine wo_isb_int ?_ | with_reducible refine wo_isb_str ?_ | with_reducible refine wo_isb_tup ?_ | with_reducible refine wo_isb_lst ?_ | with_reducible refine wo_isb_edic ?_ | with_reducible refine wo_isb_bl ?_) | (with_reducible refine tag_bi ?_; first | with_reducible refine wb_len_t ?_ | with_reducible refine wb_len_l ?_ | with_reducible refine wb_len_s ?_ | with_reducible refine wb_int ?_ | with_reducible refine wb_intb ?_ | with_reducible refine wb_abs ?_ | with_reducible refine wb_max ?_ | with_reducible refine wb_min ?_ | with_reducible refine wb_bitlen ?_ | with_reducible refine wb_list_l ?_ | with_reducible refine wb_list_t ?_ | with_reducible refine wb_tuple_l ?_ | with_reducible refine wb_tuple_t ?_) | (with_reducible refine tag_wLe ?_; first | with_reducible refine wLe_0 ?_ | with_reducible refine wLe_1 ?_ | with_reducible refine wLe_2 ?_ | with_reducible refine wLe_3 ?_ | with_reducible refine wLe_4 ?_ | with_reducible refine wLe_5 ?_ | with_reducible refine wLe_6 ?_ | with_reducible refine wLe_7 ?_ | with_reducible refine wLe_8 ?_ | with_reducible refine wLe_9 ?_ | with_reducible refine wLe_10 ?_ | with_reducible refine wLe_11 ?_ | with_reducible refine wLe_12 ?_ | with_reducible refine wLe_13 ?_ | with_reducible refine wLe_14 ?_ | with_reducible refine wLe_15 ?_ | with_reducible refine wLe_16 ?_) | (with_reducible refine tag_T ?_; first | with_reducible refine wt_not ?_ | with_reducible refine wt_and ?_ | with_reducible refine wt_or ?_ | with_reducible refine wt_of (by with_unfolding_all rfl) ?_) | (with_reducible refine tag_tru ?_; first | with_reducible refine wt_bl ?_ | with_reducible refine wt_int ?_ | with_reducible refine wt_tup ?_ | with_reducible refine wt_lst ?_ | with_reducible refine wt_non ?_) | (with_reducible refine tag_I ?_; first | with_reducible refine wi_rng' ?_ | with_reducible refine wi_rng2' ?_ | with_reducible refine wi_enum ?_ | with_reducible refine wi_zip ?_ | with_reducible refine wi_of (by with_unfolding_all rfl) ?_) | (with_reducible refine tag_lK ?_; first | with_reducible refine lK_nx ?_ | with_reducible refine lK_ct ?_ | with_reducible refine lK_bk ?_ | with_reducible refine lK_rt ?_ | with_reducible refine lK_ex ?_) | (with_reducible refine tag_fK ?_; first | with_reducible refine fK_rt ?_ | with_reducible refine fK_nx ?_ | with_reducible refine fK_ex ?_ | with_reducible refine fK_rti (by with_unfolding_all rfl) ?_ | with_reducible refine fK_nxi (by with_unfolding_all rfl) ?_) | (with_reducible refine tag_ast ?_; first | with_reducible refine wT_n ?_ | with_reducible refine wT_t ?_) | (with_reducible refine tag_asts ?_; first | with_reducible refine wT_cons ?_ | with_reducible refine wT_nil ?_) | (with_reducible refine tag_isi ?_; first | with_reducible refine wy_non_int ?_ | with_reducible refine wy_non_bool ?_ | with_reducible refine wy_non_str ?_ | with_reducible refine wy_non_tuple ?_ | with_reducible refine wy_non_list ?_ | with_reducible refine wy_non_dict ?_ | with_reducible refine wy_bl_int ?_ | with_reducible refine wy_bl_bool ?_ | with_reducible refine wy_bl_str ?_ | with_reducible refine wy_bl_tuple ?_ | with_reducible refine wy_bl_list ?_ | with_reducible refine wy_bl_dict ?_ | with_reducible refine wy_int_int ?_ | with_reducible refine wy_int_bool ?_ | with_reducible refine wy_int_str ?_ | with_reducible refine wy_int_tuple ?_ | with_reducible refine wy_int_list ?_ | with_reducible refine wy_int_dict ?_ | with_reducible refine wy_str_int ?_ | with_reducible refine wy_str_bool ?_ | with_reducible refine wy_str_str ?_ | with_reducible refine wy_str_tuple ?_ | with_reducible refine wy_str_list ?_ | with_reducible refine wy_str_dict ?_ | with_reducible refine wy_tup_int ?_ | with_reducible refine wy_tup_bool ?_ | with_reducible refine wy_tup_str ?_ | with_reducible refine wy_tup_tuple ?_ | with_reducible refine wy_tup_list ?_ | with_reducible refine wy_tup_dict ?_ | with_reducible refine wy_lst_int ?_ | with_reducible refine wy_lst_bool ?_ | with_reducible refine wy_lst_str ?_ | with_reducible refine wy_lst_tuple ?_ | with_reducible refine wy_lst_list ?_ | with_reducible refine wy_lst_dict ?_ | with_reducible refine wy_edic_int ?_ | with_reducible refine wy_edic_bool ?_ | with_reducible refine wy_edic_str ?_ | with_reducible refine wy_edic_tuple ?_ | with_reducible refine wy_edic_list ?_ | with_reducible refine wy_edic_dict ?_ | with_reducible refine wy_py (by assumption) ?_) | (with_reducible refine tag_H ?_; first | with_reducible refine wh_yes' (by with_unfolding_all rfl) ?_ | with_reducible refine wh_no (by with_unfolding_all rfl) ?_ | with_reducible refine wh_nil ?_) | (with_reducible refine tag_tK ?_; first | with_reducible refine tK_nx ?_ | with_reducible refine tK_rt ?_ | with_reducible refine tK_ex ?_) | (with_reducible refine tag_hK ?_; first | with_reducible refine hK_nx' ?_ | with_reducible refine hK_rt' ?_) | (with_reducible refine tag_wSets ?_; first | with_reducible refine wSets_cons ?_ | with_reducible refine wSets_nil ?_) | (with_reducible refine tag_wSeti ?_; first | with_reducible refine wSeti0 ?_ | with_reducible refine wSeti1 ?_ | with_reducible refine wSeti2 ?_) | (with_reducible refine tag_wPerm ?_; first | with_reducible refine wPerm_0 ?_ | with_reducible refine wPerm_01 ?_ | with_reducible refine wPerm_10 ?_ | with_reducible refine wPerm_3 (by with_unfolding_all rfl) ?_) | (with_reducible refine tag_itm ?_; first | with_reducible refine wit_tup ?_ | with_reducible refine wit_lst ?_) | (with_reducible refine tag_lof ?_; first | with_reducible refine wlo_lst ?_) | (with_reducible refine tag_prt ?_; first | with_reducible refine wp_n ?_ | with_reducible refine wp_s (by with_unfolding_all rfl) ?_) | (with_reducible refine tag_sld ?_; first | with_reducible refine wsl_l ?_ | with_reducible refine wsl_t ?_ | with_reducible refine wsl_s ?_) | with_reducible refine wTup.mk ?_ | with_reducible refine wExc.mk ?_ | with_reducible refine wB.mk ?_ | with_reducible refine wFz.mk ?_ | with_reducible refine wSlot.mk (by with_unfolding_all rfl) ?_ | with_reducible refine wSloL.mk (by with_unfolding_all rfl) ?_ | with_reducible refine wInt.mk ?_ | with_reducible refine wFn.mk (by with_unfolding_all rfl) ?_ | with_reducible refine wSm.mk (by omega) (by omega) ?_ | with_reducible refine wLr.mk (by omega) (by omega) ?_)
local macro_rules
  | `(tactic| bv_omega) => `(tactic| repeat fail)

set_option maxHeartbeats 4000000
set_option synthInstance.maxSize 128
set_option synthInstance.maxHeartbeats 20000
abbrev XF : String → D → VI.Env → Prop := fun _ _ _ => False
section
variable {Γ : Gam} {up : String → String → Bool} {ρ : VI.Env} {k : D → VI.Env → Prop} {X : String → D → VI.Env → Prop} {Q : SR → Prop}
theorem W.toEq {x : Option R} {v : D} {ρ1 : VI.Env} (h : W x (fun d ρ2 => d = v ∧ ρ2 = ρ1) XF) : x = some (.ok v ρ1) := by
  rcases x with _ | ⟨d, ρ⟩ | ⟨c, d, ρ⟩
  · exact h.elim
  · rw [h.1, h.2]
  · exact h.elim
theorem W.wk {x : Option R} (h : W x k XF) : W x k X := h.mono (fun _ _ h => h) fun _ _ _ h => h.elim
theorem w_compL {own : List Nat} {tg : Tg} {c elt : VI.Env → Option R} (I : List D → List D → VI.Env → Prop) {ds acc : List D} {ρ : VI.Env} (h0 : I ds acc ρ)
    (step : ∀ d r acc ρ, I (d :: r) acc ρ → WO (assignT tg d (wipeE ρ own)) fun ρ => W (c ρ) (fun x ρ => wB x ρ fun b ρ => wI b (W (elt ρ) (fun y ρ => wLt acc (I r (acc ++ [y]) ρ)) XF) (I r acc ρ)) XF)
    (fin : ∀ acc ρ, I [] acc ρ → k (.lst true acc) ρ) : W (compLoop own tg c elt ds acc ρ) k X := by
  induction ds generalizing acc ρ with
  | nil => exact fin acc ρ h0
  | cons d ds ih =>
    have h := step d ds acc ρ h0
    unfold compLoop
    refine W.obind (WO.mono h fun ρ1 h => ?_)
    show W (match c ρ1 with | some (.ok (.bl true) ρ2) => _ | some (.ok (.bl false) ρ2) => _ | _ => none) k X
    rcases hc : c ρ1 with _ | ⟨x, ρ2⟩ | ⟨x, y, ρ2⟩
    · rw [hc] at h; exact h.elim
    · rw [hc] at h
      obtain ⟨b, e, h⟩ := h
      subst e
      cases b with
      | false => exact ih h
      | true =>
        have h : W (elt ρ2) _ XF := h
        show W (match elt ρ2 with | some (.ok y ρ3) => _ | _ => none) k X
        rcases he : elt ρ2 with _ | ⟨y, ρ3⟩ | ⟨x, y, ρ3⟩
        · rw [he] at h; exact h.elim
        · rw [he] at h
          obtain ⟨h1, h2⟩ := h
          show W (if acc.length < sizeLine then _ else none) k X
          rw [if_pos h1]; exact ih h2
        · rw [he] at h; exact h.elim
    · rw [hc] at h; exact h.elim
theorem wv_comp {own : List (String × Nat)} {tg : Tg} {it c elt : E} (h : W ((ev Γ it).it ρ) (fun ds ρ1 => D.pures (tupOf ds) = true ∧ W (compLoop (own.map (·.2)) tg (ev Γ c).t (ev Γ elt).v (tupOf ds) [] (wipeE ρ1 (locks it ++ own.map (·.2)))) (fun d ρ2 => k d (restore ρ1 ρ2 (locks it ++ own.map (·.2)))) X) X) :
    W ((ev Γ (.comp own tg it c elt)).v ρ) k X := by
  rw [ev_comp]
  refine W.bind (h.mono (fun ds ρ1 h => ?_) fun _ _ _ h => h)
  rw [if_pos h.1]
  exact W.bind (h.2.mono (fun d ρ2 h => h) fun _ _ _ h => h)
/-- over things told by en, all parts plain -/
theorem wv_compm {α : Type} (en : α → D) (xs : List α) (p : α → Bool) (g : α → D) {nm : String} {i : Nat} {it c elt : E} (hl : locks it = []) (hit : W ((ev Γ it).it ρ) (fun ds ρ1 => ds = .tup (xs.map en) ∧ ρ1 = ρ) XF) (hp : D.pures (xs.map en) = true) (hz : xs.length < 16777216)
    (hc : ∀ x ∈ xs, wSet ρ i (some (en x)) fun ρ1 => W ((ev Γ c).t ρ1) (fun d ρ2 => d = .bl (p x) ∧ ρ2 = ρ1) XF)
    (he : ∀ x ∈ xs, p x = true → wSet ρ i (some (en x)) fun ρ1 => W ((ev Γ elt).v ρ1) (fun d ρ2 => d = g x ∧ ρ2 = ρ1) XF)
    (h : k (.lst true ((xs.filter p).map g)) ρ) : W ((ev Γ (.comp [(nm, i)] (.n i) it c elt)).v ρ) k X := by
  refine wv_comp (W.wk (hit.mono (fun ds ρ1 h0 => ?_) fun _ _ _ h => h))
  rw [h0.1, h0.2]
  refine ⟨hp, ?_⟩
  rw [hl]
  show W (compLoop [i] (.n i) (ev Γ c).t (ev Γ elt).v (xs.map en) [] (ρ.set i none)) (fun d ρ2 => k d (ρ2.set i (slot ρ i))) X
  refine w_compL (fun ds acc ρ1 => ∃ a r, xs = a ++ r ∧ ds = r.map en ∧ acc = (a.filter p).map g ∧ ρ1.set i none = ρ.set i none) ⟨[], xs, rfl, rfl, rfl, by rw [List.set_set]⟩ ?_ ?_
  · rintro d r acc ρ1 ⟨a, r', e, e2, e3, e4⟩
    cases r' with
    | nil => cases e2
    | cons x r' =>
      rw [List.map_cons] at e2; injection e2 with e2 e5; subst e2 e5
      have hx : x ∈ xs := by rw [e]; simp
      have ea : assignT (.n i) (en x) (wipeE ρ1 [i]) = some (ρ.set i (some (en x))) := by
        show some ((ρ1.set i none).set i (some (en x))) = _
        rw [e4, List.set_set]
      have en' : (ρ.set i (some (en x))).set i none = ρ.set i none := by rw [List.set_set]
      rw [ea]
      show W ((ev Γ c).t (ρ.set i (some (en x)))) _ XF
      rw [W.toEq (hc x hx)]
      refine ⟨p x, rfl, ?_⟩
      have hla : ((a.filter p).map g).length ≤ a.length := by rw [List.length_map]; exact List.length_filter_le _ _
      have hlx : a.length + (r'.length + 1) = xs.length := by rw [e, List.length_append, List.length_cons]
      cases hpx : p x with
      | false => exact ⟨a ++ [x], r', by rw [e, List.append_assoc]; rfl, rfl, by rw [e3, List.filter_append]; simp [hpx], en'⟩
      | true =>
        show W ((ev Γ elt).v (ρ.set i (some (en x)))) _ XF
        rw [W.toEq (he x hx hpx)]
        exact wLt.mk (by subst e3; omega) ⟨a ++ [x], r', by rw [e, List.append_assoc]; rfl, rfl, by rw [e3, List.filter_append]; simp [hpx], en'⟩
  · rintro acc ρ2 ⟨a, r, e, e2, e3, e4⟩
    cases r with
    | cons _ _ => cases e2
    | nil =>
      rw [List.append_nil] at e; subst e e3
      rw [set_back e4]; exact h
theorem wv_compt {α : Type} (en : α → D) (xs : List α) (g : α → D) {nm : String} {i : Nat} {it elt : E} (hl : locks it = []) (hit : W ((ev Γ it).it ρ) (fun ds ρ1 => ds = .tup (xs.map en) ∧ ρ1 = ρ) XF) (hp : D.pures (xs.map en) = true) (hz : xs.length < 16777216)
    (he : ∀ x ∈ xs, wSet ρ i (some (en x)) fun ρ1 => W ((ev Γ elt).v ρ1) (fun d ρ2 => d = g x ∧ ρ2 = ρ1) XF)
    (h : k (.lst true (xs.map g)) ρ) : W ((ev Γ (.comp [(nm, i)] (.n i) it (.bl true) elt)).v ρ) k X := by
  refine wv_compm en xs (fun _ => true) g hl hit hp hz (fun x _ => ⟨rfl, rfl⟩) (fun x hx _ => he x hx) ?_
  have e : xs.filter (fun _ => true) = xs := by simp
  rw [e]; exact h
/-- a comprehension with one name, behind what it goes over -/
def wCo (Γ : Gam) (i : Nat) (c elt : E) (ds : D) (ρ1 : VI.Env) (k : D → VI.Env → Prop) (X : String → D → VI.Env → Prop) : Prop :=
  D.pures (tupOf ds) = true ∧ W (compLoop [i] (.n i) (ev Γ c).t (ev Γ elt).v (tupOf ds) [] (ρ1.set i none)) (fun d ρ2 => k d (ρ2.set i (slot ρ1 i))) X
theorem wv_comp0 {nm : String} {i : Nat} {it c elt : E} (hl : locks it = []) (h : W ((ev Γ it).it ρ) (fun ds ρ1 => wCo Γ i c elt ds ρ1 k X) X) : W ((ev Γ (.comp [(nm, i)] (.n i) it c elt)).v ρ) k X := by
  refine wv_comp ?_
  rw [hl]
  exact h
theorem wCo_pm {α : Type} (en : α → D) (xs : List α) (p : α → Bool) (g : α → D) {i : Nat} {c elt : E} (hp : D.pures (xs.map en) = true) (hz : xs.length < 16777216)
    (hc : ∀ x ∈ xs, wSet ρ i (some (en x)) fun ρ1 => W ((ev Γ c).t ρ1) (fun d ρ2 => d = .bl (p x) ∧ ρ2 = ρ1) XF)
    (he : ∀ x ∈ xs, p x = true → wSet ρ i (some (en x)) fun ρ1 => W ((ev Γ elt).v ρ1) (fun d ρ2 => d = g x ∧ ρ2 = ρ1) XF)
    (h : k (.lst true ((xs.filter p).map g)) ρ) : wCo Γ i c elt (.tup (xs.map en)) ρ k X := by
  refine ⟨hp, ?_⟩
  show W (compLoop [i] (.n i) (ev Γ c).t (ev Γ elt).v (xs.map en) [] (ρ.set i none)) (fun d ρ2 => k d (ρ2.set i (slot ρ i))) X
  refine w_compL (fun ds acc ρ1 => ∃ a r, xs = a ++ r ∧ ds = r.map en ∧ acc = (a.filter p).map g ∧ ρ1.set i none = ρ.set i none) ⟨[], xs, rfl, rfl, rfl, by rw [List.set_set]⟩ ?_ ?_
  · rintro d r acc ρ1 ⟨a, r', e, e2, e3, e4⟩
    cases r' with
    | nil => cases e2
    | cons x r' =>
      rw [List.map_cons] at e2; injection e2 with e2 e5; subst e2 e5
      have hx : x ∈ xs := by rw [e]; simp
      have ea : assignT (.n i) (en x) (wipeE ρ1 [i]) = some (ρ.set i (some (en x))) := by
        show some ((ρ1.set i none).set i (some (en x))) = _
        rw [e4, List.set_set]
      have en' : (ρ.set i (some (en x))).set i none = ρ.set i none := by rw [List.set_set]
      rw [ea]
      show W ((ev Γ c).t (ρ.set i (some (en x)))) _ XF
      rw [W.toEq (hc x hx)]
      refine ⟨p x, rfl, ?_⟩
      have hla : ((a.filter p).map g).length ≤ a.length := by rw [List.length_map]; exact List.length_filter_le _ _
      have hlx : a.length + (r'.length + 1) = xs.length := by rw [e, List.length_append, List.length_cons]
      cases hpx : p x with
      | false => exact ⟨a ++ [x], r', by rw [e, List.append_assoc]; rfl, rfl, by rw [e3, List.filter_append]; simp [hpx], en'⟩
      | true =>
        show W ((ev Γ elt).v (ρ.set i (some (en x)))) _ XF
        rw [W.toEq (he x hx hpx)]
        exact wLt.mk (by subst e3; omega) ⟨a ++ [x], r', by rw [e, List.append_assoc]; rfl, rfl, by rw [e3, List.filter_append]; simp [hpx], en'⟩
  · rintro acc ρ2 ⟨a, r, e, e2, e3, e4⟩
    cases r with
    | cons _ _ => cases e2
    | nil =>
      rw [List.append_nil] at e; subst e e3
      rw [set_back e4]; exact h
theorem wCo_m {α : Type} (en : α → D) (xs : List α) (g : α → D) {i : Nat} {elt : E} (hp : D.pures (xs.map en) = true) (hz : xs.length < 16777216)
    (he : ∀ x ∈ xs, wSet ρ i (some (en x)) fun ρ1 => W ((ev Γ elt).v ρ1) (fun d ρ2 => d = g x ∧ ρ2 = ρ1) XF)
    (h : k (.lst true (xs.map g)) ρ) : wCo Γ i (.bl true) elt (.tup (xs.map en)) ρ k X := by
  refine wCo_pm en xs (fun _ => true) g hp hz (fun x _ => ⟨rfl, rfl⟩) (fun x hx _ => he x hx) ?_
  have e : xs.filter (fun _ => true) = xs := by simp
  rw [e]; exact h
/-- over a range, the parts may change what is not the comprehension's own -/
theorem wCo_r {i : Nat} {c elt : E} {j : Int} {ρ1 : VI.Env} (I : Int → List D → VI.Env → Prop) (hj : 0 ≤ j) (h0 : wSet ρ1 i none fun ρ => I 0 [] ρ)
    (step : ∀ t acc ρ, 0 ≤ t → t < j → I t acc ρ → wSet ρ i none fun ρ => wSet ρ i (some (.int t)) fun ρ => W ((ev Γ c).t ρ) (fun x ρ => wB x ρ fun b ρ => wI b (W ((ev Γ elt).v ρ) (fun y ρ => wLt acc (I (t + 1) (acc ++ [y]) ρ)) XF) (I (t + 1) acc ρ)) XF)
    (fin : ∀ acc ρ2, I j acc ρ2 → wSet ρ2 i (slot ρ1 i) fun ρ => k (.lst true acc) ρ) : wCo Γ i c elt (.tup (rangeD 0 j)) ρ1 k X := by
  refine ⟨pures_rangeD 0 j, ?_⟩
  show W (compLoop [i] (.n i) (ev Γ c).t (ev Γ elt).v (rangeD 0 j) [] (ρ1.set i none)) (fun d ρ2 => k d (ρ2.set i (slot ρ1 i))) X
  refine w_compL (fun ds acc ρ => ∃ t, 0 ≤ t ∧ t ≤ j ∧ ds = rangeD t j ∧ I t acc ρ) ⟨0, Int.le_refl _, hj, rfl, h0⟩ ?_ ?_
  · rintro d r acc ρ2 ⟨t, h1, h2, e, h⟩
    by_cases ht : t < j
    · rw [rangeD_cons ht] at e; injection e with e1 e2; subst e1 e2
      refine W.mono (step t acc ρ2 h1 ht h) (fun x ρ hb => ?_) fun _ _ _ h => h
      obtain ⟨b, eb, hb⟩ := hb
      refine ⟨b, eb, ?_⟩
      cases b with
      | false => exact ⟨t + 1, by omega, by omega, rfl, hb⟩
      | true => exact W.mono hb (fun y ρ h => ⟨h.1, t + 1, by omega, by omega, rfl, h.2⟩) fun _ _ _ h => h
    · rw [rangeD_nil (by omega)] at e; cases e
  · rintro acc ρ2 ⟨t, h1, h2, e, h⟩
    by_cases ht : t < j
    · rw [rangeD_cons ht] at e; cases e
    · rw [show t = j by omega] at h; exact fin acc ρ2 h
/-- over things told by en -/
theorem wCo_l {α : Type} (en : α → D) (xs : List α) {i : Nat} {c elt : E} {ρ1 : VI.Env} (I : List α → List α → List D → VI.Env → Prop) (hp : D.pures (xs.map en) = true) (h0 : wSet ρ1 i none fun ρ => I [] xs [] ρ)
    (step : ∀ a x r acc ρ, xs = a ++ x :: r → I a (x :: r) acc ρ → wSet ρ i none fun ρ => wSet ρ i (some (en x)) fun ρ => W ((ev Γ c).t ρ) (fun x' ρ => wB x' ρ fun b ρ => wI b (W ((ev Γ elt).v ρ) (fun y ρ => wLt acc (I (a ++ [x]) r (acc ++ [y]) ρ)) XF) (I (a ++ [x]) r acc ρ)) XF)
    (fin : ∀ acc ρ2, I xs [] acc ρ2 → wSet ρ2 i (slot ρ1 i) fun ρ => k (.lst true acc) ρ) : wCo Γ i c elt (.tup (xs.map en)) ρ1 k X := by
  refine ⟨hp, ?_⟩
  show W (compLoop [i] (.n i) (ev Γ c).t (ev Γ elt).v (xs.map en) [] (ρ1.set i none)) (fun d ρ2 => k d (ρ2.set i (slot ρ1 i))) X
  refine w_compL (fun ds acc ρ => ∃ a r, xs = a ++ r ∧ ds = r.map en ∧ I a r acc ρ) ⟨[], xs, rfl, rfl, h0⟩ ?_ ?_
  · rintro d r acc ρ2 ⟨a, r', e, e2, h⟩
    cases r' with
    | nil => cases e2
    | cons x r' =>
      rw [List.map_cons] at e2; injection e2 with e2 e3; subst e2 e3
      refine W.mono (step a x r' acc ρ2 e h) (fun x' ρ hb => ?_) fun _ _ _ h => h
      obtain ⟨b, eb, hb⟩ := hb
      refine ⟨b, eb, ?_⟩
      cases b with
      | false => exact ⟨a ++ [x], r', by rw [e, List.append_assoc]; rfl, rfl, hb⟩
      | true => exact W.mono hb (fun y ρ h => ⟨h.1, a ++ [x], r', by rw [e, List.append_assoc]; rfl, rfl, h.2⟩) fun _ _ _ h => h
  · rintro acc ρ2 ⟨a, r, e, e2, h⟩
    cases r with
    | cons _ _ => cases e2
    | nil => rw [List.append_nil] at e; subst e; exact fin acc ρ2 h
/-- a comprehension with two names, all parts plain -/
theorem wv_comp2 {α : Type} (e1 e2 : α → D) (xs : List α) (p : α → Bool) (g : α → D) {n1 n2 : String} {i j : Nat} {it c elt : E} (hl : locks it = []) (hij : i ≠ j) (hit : W ((ev Γ it).it ρ) (fun ds ρ1 => ds = .tup (xs.map fun x => .tup [e1 x, e2 x]) ∧ ρ1 = ρ) XF) (hp : D.pures (xs.map fun x => D.tup [e1 x, e2 x]) = true) (hz : xs.length < 16777216)
    (hc : ∀ x ∈ xs, wSet ρ i (some (e1 x)) fun ρ => wSet ρ j (some (e2 x)) fun ρ1 => W ((ev Γ c).t ρ1) (fun d ρ2 => d = .bl (p x) ∧ ρ2 = ρ1) XF)
    (he : ∀ x ∈ xs, p x = true → wSet ρ i (some (e1 x)) fun ρ => wSet ρ j (some (e2 x)) fun ρ1 => W ((ev Γ elt).v ρ1) (fun d ρ2 => d = g x ∧ ρ2 = ρ1) XF)
    (h : k (.lst true ((xs.filter p).map g)) ρ) : W ((ev Γ (.comp [(n1, i), (n2, j)] (.t (.cons (.n i) (.cons (.n j) .nil))) it c elt)).v ρ) k X := by
  refine wv_comp (W.wk (hit.mono (fun ds ρ1 h0 => ?_) fun _ _ _ h => h))
  rw [h0.1, h0.2]
  refine ⟨hp, ?_⟩
  rw [hl]
  have hw : ∀ (σ : VI.Env) (a b : Option D), wipeE ((σ.set i a).set j b) [i, j] = wipeE σ [i, j] := fun σ a b => by
    show (((σ.set i a).set j b).set j none).set i none = (σ.set j none).set i none
    rw [List.set_set, List.set_comm _ _ hij, List.set_set, List.set_comm _ _ hij.symm]
  show W (compLoop [i, j] (.t (.cons (.n i) (.cons (.n j) .nil))) (ev Γ c).t (ev Γ elt).v (xs.map fun x => D.tup [e1 x, e2 x]) [] (wipeE ρ [i, j])) (fun d ρ2 => k d (restore ρ ρ2 [i, j])) X
  have ww : wipeE (wipeE ρ [i, j]) [i, j] = wipeE ρ [i, j] := by
    have := hw (ρ.set j none) none none
    show wipeE ((ρ.set j none).set i none) [i, j] = _
    rw [List.set_comm _ _ hij.symm]
    exact hw ρ none none
  refine w_compL (fun ds acc ρ1 => ∃ a r, xs = a ++ r ∧ ds = r.map (fun x => D.tup [e1 x, e2 x]) ∧ acc = (a.filter p).map g ∧ wipeE ρ1 [i, j] = wipeE ρ [i, j]) ⟨[], xs, rfl, rfl, rfl, ww⟩ ?_ ?_
  · rintro d r acc ρ1 ⟨a, r', e, f2, f3, f4⟩
    cases r' with
    | nil => cases f2
    | cons x r' =>
      rw [List.map_cons] at f2; injection f2 with f2 f5; subst f2 f5
      have hx : x ∈ xs := by rw [e]; simp
      have ea : assignT (.t (.cons (.n i) (.cons (.n j) .nil))) (.tup [e1 x, e2 x]) (wipeE ρ1 [i, j]) = some ((ρ.set i (some (e1 x))).set j (some (e2 x))) := by
        show some (((wipeE ρ1 [i, j]).set i (some (e1 x))).set j (some (e2 x))) = _
        rw [f4]
        show some (((((ρ.set j none).set i none)).set i (some (e1 x))).set j (some (e2 x))) = _
        rw [List.set_set, List.set_comm _ _ hij, List.set_set, List.set_comm _ _ hij.symm]
      rw [ea]
      show W ((ev Γ c).t ((ρ.set i (some (e1 x))).set j (some (e2 x)))) _ XF
      rw [W.toEq (hc x hx)]
      refine ⟨p x, rfl, ?_⟩
      have hla : ((a.filter p).map g).length ≤ a.length := by rw [List.length_map]; exact List.length_filter_le _ _
      have hlx : a.length + (r'.length + 1) = xs.length := by rw [e, List.length_append, List.length_cons]
      cases hpx : p x with
      | false => exact ⟨a ++ [x], r', by rw [e, List.append_assoc]; rfl, rfl, by rw [f3, List.filter_append]; simp [hpx], hw _ _ _⟩
      | true =>
        show W ((ev Γ elt).v ((ρ.set i (some (e1 x))).set j (some (e2 x)))) _ XF
        rw [W.toEq (he x hx hpx)]
        exact wLt.mk (by subst f3; omega) ⟨a ++ [x], r', by rw [e, List.append_assoc]; rfl, rfl, by rw [f3, List.filter_append]; simp [hpx], hw _ _ _⟩
  · rintro acc ρ2 ⟨a, r, e, f2, f3, f4⟩
    cases r with
    | cons _ _ => cases f2
    | nil =>
      rw [List.append_nil] at e; subst e f3
      show k _ (restore ρ ρ2 [i, j])
      rw [restore2 f4]; exact h
theorem wo_mul0 {o : Bool} {xs : List D} {k : D → Prop} [h1 : Pus xs] (h : k (.lst true [])) : WO (binD .Mult (.lst o xs) (.int 0)) k :=
  wo_mull (by decide) (by show xs.length * 0 ≤ _; rw [Nat.mul_zero]; exact Nat.zero_le _) h
theorem wo_mul1 {o : Bool} {xs : List D} {k : D → Prop} [h1 : Pus xs] (h2 : xs.length ≤ 1000000) (h : k (.lst true xs)) : WO (binD .Mult (.lst o xs) (.int 1)) k := by
  refine wo_mull (by decide) (by show xs.length * 1 ≤ _; rw [sizeLine_eq]; omega) ?_
  have e : (List.replicate (1 : Int).toNat xs).flatten = xs := by show ([xs] : List (List D)).flatten = xs; simp
  rw [e]; exact h
theorem wo_mulr {o : Bool} {x : D} {n : Int} {k : D → Prop} [h1 : Pu x] (h0 : 0 ≤ n) (h2 : n ≤ 1000000) (h : k (.lst true (List.replicate n.toNat x))) : WO (binD .Mult (.lst o [x]) (.int n)) k := by
  refine wo_mull (small_of (by omega) (by omega)) (by show 1 * n.toNat ≤ _; rw [sizeLine_eq]; omega) ?_
  have e : (List.replicate n.toNat [x]).flatten = List.replicate n.toNat x := by rw [List.flatten_replicate_singleton]
  rw [e]; exact h
end

set_option maxHeartbeats 4000000
set_option synthInstance.maxSize 128
set_option synthInstance.maxHeartbeats 20000
abbrev up0 : String → String → Bool := upOf "NetError"
abbrev cl (T : Tab) (n : Nat) : Gam := callN T up0 n
theorem has_run {T : Tab} {up : String → String → Bool} {n : Nat} {f : String} {g : FnB} [hf : Has T f g] {ds : List D} (hl : ds.length = g.np) : callN T up (n + 1) f ds = outR g.io (evS (callN T up n) up g.body (ds.map some ++ List.replicate (g.nN - ds.length) none)) := by
  obtain ⟨ps, N, e, e1, e2⟩ := hf.h
  show ((T f).bind fun g => runFn (callN T up n) up g ds) = _
  rw [e]
  show runFn (callN T up n) up (g.fn ps N) ds = _
  rw [runFn_out _ _ (hl.trans e1.symm)]
  show outR g.io (evS (callN T up n) up g.body (ds.map some ++ List.replicate (N.length - ds.length) none)) = _
  rw [e2]
/-- a number of less than so many bits -/
def Bd (b : Nat) (i : Int) : Prop := i.natAbs < 2 ^ b
theorem log2_lt' {x b : Nat} (h : x < 2 ^ b) : x.log2 ≤ b := by
  by_cases h0 : x = 0
  · subst h0; exact Nat.le_trans (by decide) (Nat.zero_le b)
  · exact Nat.le_of_lt ((Nat.log2_lt h0).mpr h)
theorem Bd.mul_ok {a b : Nat} {i j : Int} (h1 : Bd a i) (h2 : Bd b j) (h : a + b < 1000000) : i.natAbs.log2 + j.natAbs.log2 < 1000000 := by
  have := log2_lt' h1
  have := log2_lt' h2
  omega
theorem Bd.div_ok {a : Nat} {i : Int} (h1 : Bd a i) (h : a < 9000) : i.natAbs.log2 < 9000 := by
  have := log2_lt' h1
  omega
theorem Bd.mono {a b : Nat} {i : Int} (h : Bd a i) (e : a ≤ b) : Bd b i := Nat.lt_of_lt_of_le h (Nat.pow_le_pow_right (by decide) e)
theorem Bd.mul {a b : Nat} {i j : Int} (h1 : Bd a i) (h2 : Bd b j) : Bd (a + b) (i * j) := by
  unfold Bd at *
  rw [Int.natAbs_mul, Nat.pow_add]
  exact Nat.mul_lt_mul'' h1 h2
theorem Bd.add {a : Nat} {i j : Int} (h1 : Bd a i) (h2 : Bd a j) : Bd (a + 1) (i + j) := by
  unfold Bd at *
  rw [Nat.pow_succ]
  have := Int.natAbs_add_le i j
  omega
theorem Bd.neg {a : Nat} {i : Int} (h1 : Bd a i) : Bd a (-i) := by unfold Bd at *; rw [Int.natAbs_neg]; exact h1
theorem Bd.sub {a : Nat} {i j : Int} (h1 : Bd a i) (h2 : Bd a j) : Bd (a + 1) (i - j) := by rw [Int.sub_eq_add_neg]; exact h1.add h2.neg
theorem Bd.of_lt {a : Nat} {i : Int} {m : Nat} (h : i.natAbs ≤ m) (hm : m < 2 ^ a) : Bd a i := Nat.lt_of_le_of_lt h hm
theorem abs_nat (a : Int) : (if a < 0 then -a else a) = ((a.natAbs : Nat) : Int) := by split <;> omega
/-- Euclid's loop, as a measure -/
def gcdI (g : Nat) (m x y : Nat) : Prop := Nat.gcd x y = g ∧ (y = 0 ∨ (y ≤ x ∧ x * y < 2 ^ m) ∨ (x < y ∧ 1 ≤ m ∧ x * y < 2 ^ (m - 1)))
theorem gcdI.step {g m x y : Nat} (h : gcdI g m x y) (hy : 0 < y) : ∃ m', m' < m ∧ gcdI g m' y (x % y) := by
  obtain ⟨h1, h2⟩ := h
  have hg : Nat.gcd y (x % y) = g := by rw [← h1, Nat.gcd_comm x y, Nat.gcd_rec y x, Nat.gcd_comm (x % y) y]
  have hr := Nat.mod_lt x hy
  rcases h2 with h2 | ⟨h2, h3⟩ | ⟨h2, h3, h4⟩
  · omega
  · have hm : 1 ≤ m := by
      rcases m with _ | m
      · have : 1 * 1 ≤ x * y := Nat.mul_le_mul (by omega) hy
        simp at h3; omega
      · omega
    refine ⟨m - 1, by omega, hg, .inr (.inl ⟨by omega, ?_⟩)⟩
    have e : x % y * 2 ≤ x := by
      have h5 := Nat.div_add_mod x y
      have h6 : 1 ≤ x / y := Nat.div_pos h2 hy
      have h7 : y * 1 ≤ y * (x / y) := Nat.mul_le_mul_left y h6
      omega
    have e2 : y * (x % y) * 2 ≤ x * y := by
      rw [Nat.mul_assoc, Nat.mul_comm x y]
      exact Nat.mul_le_mul_left y e
    have e3 : 2 ^ m = 2 ^ (m - 1) * 2 := by rw [← Nat.pow_succ]; congr 1; omega
    omega
  · have e : x % y = x := Nat.mod_eq_of_lt h2
    refine ⟨m - 1, by omega, hg, ?_⟩
    rw [e, Nat.mul_comm]
    exact .inr (.inl ⟨by omega, h4⟩)
theorem gcdI.start {a b x y : Nat} (h1 : x < 2 ^ a) (h2 : y < 2 ^ b) : gcdI (Nat.gcd x y) (a + b + 1) x y := by
  refine ⟨rfl, ?_⟩
  have e : x * y < 2 ^ (a + b) := by rw [Nat.pow_add]; exact Nat.mul_lt_mul'' h1 h2
  by_cases h : y ≤ x
  · exact .inr (.inl ⟨h, Nat.lt_of_lt_of_le e (Nat.pow_le_pow_right (by decide) (by omega))⟩)
  · exact .inr (.inr ⟨by omega, by omega, e⟩)
abbrev fr (q : Rat) : D := .tup [.int q.num, .int (q.den : Nat)]
section
variable {T : Tab}
/-- what the law mixes -/
def hash (a b : Int) : Int :=
  let m := (a * 1140671 + 27644437 * b * b + 131 * b + 19) % 2147483629
  ((m * m + 62089 * b + 32416187) % 2147483587 * 48271) % 2147483647
theorem hash_lo (a b : Int) : 0 ≤ hash a b := Int.emod_nonneg _ (by decide)
theorem hash_hi (a b : Int) : hash a b < 2147483647 := Int.emod_lt_of_pos _ (by decide)
theorem c_hash [Has T "_law_hash" f_law_hash] {n : Nat} (hn : 1 ≤ n) {a b : Int} (h1 : 0 ≤ a) (h2 : a < 2147483648) (h3 : 0 ≤ b) (h4 : b < 1000000000) : callN T up0 n "_law_hash" [.int a, .int b] = some (.ok (.int (hash a b)) .non) := by
  refine WC.eq ?_
  (refine w_fn (by omega) rfl ?_; simp only [f_law_hash, List.map_cons, List.map_nil, List.length_cons, List.length_nil, Nat.reduceAdd, Nat.reduceSub, List.reduceReplicate, List.cons_append, List.nil_append, List.append_nil, List.replicate_zero])
  have ha : Bd 32 a := by unfold Bd; omega
  have hb : Bd 32 b := by unfold Bd; omega
  have k1 : Bd 32 1140671 := by unfold Bd; decide
  have k2 : Bd 32 27644437 := by unfold Bd; decide
  have k3 : Bd 32 131 := by unfold Bd; decide
  have k4 : Bd 32 62089 := by unfold Bd; decide
  have k5 : Bd 32 48271 := by unfold Bd; decide
  have g0 : Bd 32 ((a * 1140671 + 27644437 * b * b + 131 * b + 19) % 2147483629) := by
    have g0 := Int.emod_nonneg (a * 1140671 + 27644437 * b * b + 131 * b + 19) (show (2147483629 : Int) ≠ 0 by decide)
    have g1 := Int.emod_lt_of_pos (a * 1140671 + 27644437 * b * b + 131 * b + 19) (show (0 : Int) < 2147483629 by decide)
    revert g0 g1; generalize (a * 1140671 + 27644437 * b * b + 131 * b + 19) % 2147483629 = m; intro g0 g1
    unfold Bd; omega
  have g2 : ∀ x : Int, Bd 32 (x % 2147483587) := fun x => by unfold Bd; omega
  bv_omega
  refine wo_mul (ha.mul_ok k1 (by decide)) ?_; bv_omega
  refine wo_mul (k2.mul_ok hb (by decide)) ?_; bv_omega
  refine wo_mul ((k2.mul hb).mul_ok hb (by decide)) ?_; bv_omega
  refine wo_mul (k3.mul_ok hb (by decide)) ?_; bv_omega
  refine wo_mod (by decide) ?_; bv_omega
  refine wo_mul (g0.mul_ok g0 (by decide)) ?_; bv_omega
  refine wo_mul (k4.mul_ok hb (by decide)) ?_; bv_omega
  refine wo_mod (by decide) ?_; bv_omega
  refine wo_mul ((g2 _).mul_ok k5 (by decide)) ?_; bv_omega
  refine wo_mod (by decide) ?_; bv_omega
  exact ⟨rfl, rfl⟩
/-- the draws' state -/
structure Gn where
  a : Int
  b : Int
  c : Int
abbrev Gn.d (g : Gn) : D := .lst true [.int g.a, .int g.b, .int g.c]
/-- so many draws are left -/
structure Gn.ok (m : Nat) (g : Gn) : Prop where
  a0 : 0 ≤ g.a
  b0 : 0 ≤ g.b
  b1 : g.b < 2147483647
  c0 : 0 ≤ g.c
  c1 : g.c + m < 1000000000
theorem Gn.ok.mono {m k : Nat} {g : Gn} (h : g.ok m) (e : k ≤ m) : g.ok k := ⟨h.a0, h.b0, h.b1, h.c0, by have := h.c1; omega⟩
/-- a call that draws: its result, and how many draws it takes -/
def Draws (x : Option CR') (m : Nat) (P : D → Prop) : Prop := WC x (fun d io => P d ∧ ∃ g : Gn, io = g.d ∧ g.ok m) (fun _ _ => False)
theorem Draws.use {x : Option CR'} {m : Nat} {P : D → Prop} {k : D → D → Prop} {X : String → D → Prop} (h : Draws x m P) (h1 : ∀ d g, P d → Gn.ok m g → k d g.d) : WC x k X :=
  WC.use h (fun d io ⟨p, g, e, hg⟩ => by subst e; exact h1 d g p hg)
theorem bitLen_lo {i : Int} (h2 : i.natAbs < 536870912) : bitLen i / 30 = 0 := by
  unfold bitLen Builtin.Int.intBits
  have : bitLen i < 30 := by
    unfold bitLen Builtin.Int.intBits
    split
    · decide
    · have := (Nat.log2_lt (n := i.natAbs) (k := 29) (by simp_all)).mpr (by omega)
      omega
  unfold bitLen Builtin.Int.intBits at this
  omega
theorem c_random [Has T "_law_hash" f_law_hash] [Has T "_law_random" f_law_random] {n : Nat} (hn : 2 ≤ n) {m : Nat} {g : Gn} (hg : g.ok (m + 1)) {k : Int} (h0 : 0 < k) (h1 : k < 536870912) :
    Draws (callN T up0 n "_law_random" [g.d, .int k]) m (fun d => ∃ r, d = .int r ∧ 0 ≤ r ∧ r < k) := by
  obtain ⟨a, b, c⟩ := g
  obtain ⟨a0, b0, b1, c0, c1⟩ := hg
  simp only at a0 b0 b1 c0 c1
  (refine w_fn (by omega) rfl ?_; simp only [f_law_random, List.map_cons, List.map_nil, List.length_cons, List.length_nil, Nat.reduceAdd, Nat.reduceSub, List.reduceReplicate, List.cons_append, List.nil_append, List.append_nil, List.replicate_zero])
  have lk : Bd 30 k := by unfold Bd; omega
  bv_omega
  refine wI.dec (fun ha => ?_) (fun ha => ?_)
  · bv_omega
    refine wo_mod h0 ?_; bv_omega
    refine wo_fdiv h0 (lk.div_ok (by decide)) ?_; bv_omega
    exact ⟨⟨_, rfl, Int.emod_nonneg _ (by omega), Int.emod_lt_of_pos _ h0⟩, ⟨a / k, b, c⟩, rfl, ⟨Int.ediv_nonneg a0 (by omega), b0, b1, c0, by show c + m < _; omega⟩⟩
  · bv_omega
    refine wo_fdiv (by decide) (by decide) ?_; bv_omega
    have eb : ((bitLen k : Nat) : Int) / 30 = 0 := by have := bitLen_lo (i := k) (by omega); omega
    rw [eb]
    bv_omega
    refine ⟨pures_rangeD _ _, ?_⟩
    rw [rangeD_cons (by decide), rangeD_nil (by decide)]
    refine w_for (B := fun _ => True) (fun ds ρ => match ds with
      | [] => ∃ r t, ρ = [some (.lst true [.int a, .int b, .int (c + 1)]), some (.int k), some (.int r), t]
      | d :: ds => ds = [] ∧ d = .int 0 ∧ ρ = [some (.lst true [.int a, .int b, .int c]), some (.int k), some (.int 0), none]) ⟨rfl, rfl, rfl⟩ ?_ ?_
    · rintro d r ρ ⟨rfl, rfl, rfl⟩
      bv_omega
      refine wo_mul (by decide) ?_; bv_omega
      refine WC.ok (c_hash (T := T) (by omega) b0 (by omega) (by omega) (by omega)) ?_; bv_omega
      exact ⟨_, _, rfl⟩
    · rintro ρ ⟨r, t, rfl⟩
      bv_omega
      refine wo_mod h0 ?_; bv_omega
      exact ⟨⟨_, rfl, Int.emod_nonneg _ (by omega), Int.emod_lt_of_pos _ h0⟩, ⟨a, b, c + 1⟩, rfl, ⟨a0, b0, b1, by show 0 ≤ c + 1; omega, by show c + 1 + m < _; omega⟩⟩
end

set_option maxHeartbeats 4000000
set_option synthInstance.maxSize 128
set_option synthInstance.maxHeartbeats 20000
section
variable {T : Tab}

def isInt : D → Bool
  | .int _ => true
  | _ => false
theorem int_is (v : D) : ([Ty.int].any fun t => isiT (tyD v) t) = (isInt v || [Ty.bool].any fun t => isiT (tyD v) t) := by cases v <;> rfl
theorem c_is_whole [Has T "is_whole" f_is_whole] (n : Nat) (v : D) (h : isPy v = true) (hp : v.pure = true) : callN T up0 (n + 1) "is_whole" [v] = some (.ok (.bl (isInt v)) .non) := by
  rw [has_run (n := n) (g := f_is_whole) rfl]
  show outR false (evS (callN T up0 n) up0 f_is_whole.body [some v]) = _
  unfold f_is_whole
  simp! [hp, isiD_py h]
  cases v <;> first | (cases h; done) | rfl
/-- 0 ≤ v < many -/
def isPlace (v : D) (m : Int) : Bool := match v with
  | .int i => decide (0 ≤ i) && decide (i < m)
  | _ => false
theorem c_is_place [Has T "is_place" f_is_place] [Has T "is_whole" f_is_whole] (n : Nat) (v : D) (m : Int) (h : isPy v = true) (hp : v.pure = true) : callN T up0 (n + 2) "is_place" [v, .int m] = some (.ok (.bl (isPlace v m)) .non) := by
  rw [has_run (n := (n + 1)) (g := f_is_place) rfl]
  show outR false (evS (callN T up0 (n + 1)) up0 f_is_place.body [some v, some (.int m)]) = _
  unfold f_is_place
  simp! [hp, c_is_whole (T := T) n v h hp]
  cases v <;> first | (cases h; done) | rfl | skip
  rename_i i
  simp! [isInt]
  by_cases h1 : 0 ≤ i
  · simp! [isPlace, h1, decide_true]
  · simp! [isPlace, h1, decide_false]

mutual
/-- plain data of small numbers -/
def okD : D → Bool
  | .int i => decide (i.natAbs < 100000000)
  | .tup xs => okDs xs
  | .lst o xs => !o && decide (xs.length ≤ 1000) && okDs xs
  | .non | .bl _ | .edic => true
  | .str x => decide (x.length ≤ 1000)
  | _ => false
def okDs : List D → Bool
  | [] => true
  | d :: ds => okD d && okDs ds
end
mutual
theorem okD_pure : ∀ d : D, okD d = true → d.pure = true
  | .int i, _ => rfl
  | .tup xs, h => by rw [D.pure]; exact okDs_pure xs (by simpa [okD] using h)
  | .lst o xs, h => by
    have h' : (o = false ∧ xs.length ≤ 1000) ∧ okDs xs = true := by simpa [okD] using h
    rw [D.pure, h'.1.1, okDs_pure xs h'.2]; rfl
  | .non, _ => rfl
  | .bl _, _ => rfl
  | .edic, _ => rfl
  | .str _, _ => rfl
  | .fn _, h => by simp [okD] at h
  | .cls _, h => by simp [okD] at h
  | .exc _ _, h => by simp [okD] at h
  | .scr _, h => by simp [okD] at h
theorem okDs_pure : ∀ ds : List D, okDs ds = true → D.pures ds = true
  | [], _ => rfl
  | d :: ds, h => by
    have h' := Bool.and_eq_true_iff.mp (by simpa [okDs] using h)
    rw [D.pures, okD_pure d h'.1, okDs_pure ds h'.2]; rfl
end
theorem okD_py (d : D) (h : okD d = true) : isPy d = true := by
  cases d <;> first | rfl | simp [okD] at h
theorem okDs_mem {ds : List D} (h : okDs ds = true) {d : D} (hd : d ∈ ds) : okD d = true := by
  induction ds with
  | nil => cases hd
  | cons a ds ih =>
    have h' := Bool.and_eq_true_iff.mp (by simpa [okDs] using h)
    rcases List.mem_cons.mp hd with e | e
    · rw [e]; exact h'.1
    · exact ih h'.2 e
/-- Euclid's loop -/
theorem while_gcd  (k : Nat) : ∀ (y x n : Nat), y < n → whileLoop (ev (callN T up0 k) (.cmp .Gt (.var 1) (.int 0))).t (evS (callN T up0 k) up0 (.seq (.par [0, 1] (.cons (.var 1) (.cons (.bin .Mod (.var 0) (.var 1)) .nil))) .nil)) n [some (.int (x : Nat)), some (.int (y : Nat))] = some (.nx [some (.int (Nat.gcd x y : Nat)), some (.int 0)]) := by
  intro y
  induction y using Nat.strongRecOn with
  | ind y ih =>
    intro x n hn
    cases n with
    | zero => omega
    | succ n =>
      show bindS ((ev (callN T up0 k) (.cmp .Gt (.var 1) (.int 0))).t [some (.int (x : Nat)), some (.int (y : Nat))]) _ = _
      by_cases hy : y = 0
      · subst hy
        simp!
        simp
      · have h0 : (0 : Int) < (y : Nat) := by omega
        simp! [h0, decide_true, bin_mod h0, List.length_cons, List.length_nil]
        have e : ((x : Int) % (y : Nat)) = ((x % y : Nat) : Int) := by omega
        rw [e, ih (x % y) (Nat.mod_lt _ (by omega)) y n (by have := Nat.mod_lt x (show y > 0 by omega); omega)]
        rw [Nat.gcd_comm x y, Nat.gcd_rec y x, Nat.gcd_comm (x % y) y]
theorem c_gcd [Has T "common_divisor" f_common_divisor] (k : Nat) (a b : Int) (hb : b.natAbs < 1000000000) : callN T up0 (k + 1) "common_divisor" [.int a, .int b] = some (.ok (.int (Nat.gcd a.natAbs b.natAbs : Nat)) .non) := by
  rw [has_run (n := k) (g := f_common_divisor) rfl]
  show outR false (evS (callN T up0 k) up0 f_common_divisor.body [some (.int a), some (.int b)]) = _
  unfold f_common_divisor
  simp! [abs_nat, List.length_cons, List.length_nil, while_gcd (T := T) k b.natAbs a.natAbs fuel0 hb]

/-- a fraction in lowest terms -/
def isFrac : D → Bool
  | .tup [.int a, .int b] => decide (0 < b) && (Nat.gcd a.natAbs b.natAbs == 1)
  | _ => false
theorem isFrac1 (a : D) : isFrac (.tup [a]) = false := by cases a <;> rfl
theorem isFrac3 (a b c : D) (xs : List D) : isFrac (.tup (a :: b :: c :: xs)) = false := by cases a <;> cases b <;> rfl
theorem tup_or (v : D) : (∃ xs, v = .tup xs) ∨ (([Ty.tuple].any fun t => isiT (tyD v) t) = false ∧ isFrac v = false) := by
  cases v <;> first | exact .inl ⟨_, rfl⟩ | exact .inr ⟨rfl, rfl⟩
theorem c_is_fraction [Has T "common_divisor" f_common_divisor] [Has T "is_fraction" f_is_fraction] [Has T "is_whole" f_is_whole] (n : Nat) (v : D) (h : okD v = true) : callN T up0 (n + 2) "is_fraction" [v] = some (.ok (.bl (isFrac v)) .non) := by
  rw [has_run (n := (n + 1)) (g := f_is_fraction) rfl]
  show outR false (evS (callN T up0 (n + 1)) up0 f_is_fraction.body [some v]) = _
  unfold f_is_fraction
  have hp := okD_pure v h
  have hpy := okD_py v h
  rcases tup_or v with ⟨xs, rfl⟩ | ⟨t1, t2⟩
  · have hx : okDs xs = true := by simpa [okD] using h
    match xs, hx with
    | [], _ =>
      have e : ((([] : List D).length : Int) == 2) = false := rfl
      simp! [isi_tt, eq_ii, e]; rfl
    | [a], hx =>
      simp only [okDs, Bool.and_eq_true, Bool.and_true] at hx
      have pa := okD_pure a hx
      have e : ((([a] : List D).length : Int) == 2) = false := rfl
      simp! [isi_tt, eq_ii, pa, e, isFrac1]
    | [a, b], hx =>
      simp only [okDs, Bool.and_eq_true, Bool.and_true] at hx
      have pa := okD_pure a hx.1
      have pb := okD_pure b hx.2
      have wa := c_is_whole (T := T) n a (okD_py a hx.1) pa
      have wb := c_is_whole (T := T) n b (okD_py b hx.2) pb
      have e2 : ((([a, b] : List D).length : Int) == 2) = true := rfl
      simp! [isi_tt, eq_ii, idx_t0 pa, idx_t1 pb, wa, wb, pa, pb, e2]
      cases a <;> cases b <;> first | rfl | skip
      rename_i a b
      have g := c_gcd (T := T) n a b (by have := hx.2; simp only [okD, decide_eq_true_eq] at this; omega)
      simp! [isInt, g, isFrac]
      by_cases h1 : 0 < b
      · simp! [h1, decide_true, g, idx_t0 pa, idx_t1 pb, eq_ii]
        congr 3
        rw [Bool.eq_iff_iff]; simp
        omega
      · simp! [h1, decide_false, idx_t1 pb]
    | a :: b :: c :: xs, hx =>
      have e : (((a :: b :: c :: xs).length : Int) == 2) = false := by simp only [List.length_cons, beq_eq_false_iff_ne]; omega
      have hps := okDs_pure _ hx
      simp only [D.pures, Bool.and_eq_true] at hps
      simp! [isi_tt, eq_ii, hps.1, hps.2.1, hps.2.2.1, hps.2.2.2, e, isFrac3]
  · simp! [hp, isiD_py hpy, t1, t2]

/-- the item at a place is below that at the next -/
def keyOf (f : D → Option Int) (xs : List D) (k : Int) : Option Int := (atI xs k).bind f
def ltAt (f : D → Option Int) (xs : List D) (d : D) : Bool := match d with
  | .int k => (match keyOf f xs (k - 1), keyOf f xs k with
    | some a, some b => decide (a < b)
    | _, _ => false)
  | _ => false
def intOf : D → Option Int
  | .int i => some i
  | _ => none
def asc (f : D → Option Int) (xs : List D) : Bool := (rangeD 1 (xs.length : Nat)).all (ltAt f xs)
def arePlaces (v : D) (m : Int) : Bool := match v with
  | .lst _ xs => decide (2 ≤ xs.length) && decide (xs.length ≤ 4) && xs.all (isPlace · m) && asc intOf xs
  | _ => false
theorem lst_or (v : D) : (∃ o xs, v = .lst o xs) ∨ (([Ty.list].any fun t => isiT (tyD v) t) = false ∧ ∀ o xs, v ≠ .lst o xs) := by
  cases v <;> first | exact .inl ⟨_, _, rfl⟩ | exact .inr ⟨rfl, fun _ _ h => by cases h⟩
theorem okD_lst {o : Bool} {xs : List D} (h : okD (.lst o xs) = true) : o = false ∧ okDs xs = true := by
  have h' : (o = false ∧ xs.length ≤ 1000) ∧ okDs xs = true := by simpa [okD] using h
  exact ⟨h'.1.1, h'.2⟩
theorem okD_len {o : Bool} {xs : List D} (h : okD (.lst o xs) = true) : xs.length ≤ 1000 := by
  have h' : (o = false ∧ xs.length ≤ 1000) ∧ okDs xs = true := by simpa [okD] using h
  exact h'.1.2
theorem mem_rangeD {i j : Int} {d : D} (h : d ∈ rangeD i j) : ∃ k, d = .int k ∧ i ≤ k ∧ k < j := by
  unfold rangeD at h
  obtain ⟨k, hk, rfl⟩ := List.mem_map.mp h
  have := List.mem_range.mp hk
  exact ⟨_, rfl, by omega, by omega⟩
theorem atI_some {α : Type} {xs : List α} {k : Int} (h0 : 0 ≤ k) (h1 : k < xs.length) : ∃ x, atI xs k = some x ∧ x ∈ xs := by
  unfold atI ixN
  rw [if_pos h0, if_pos h1]
  have hl : k.toNat < xs.length := by omega
  exact ⟨xs[k.toNat], by simp [hl], List.getElem_mem hl⟩
theorem idx_l {o : Bool} {xs : List D} {k : Int} {x : D} (h : atI xs k = some x) (hp : x.pure = true) : idxD (.lst o xs) (.int k) = some x := by
  show ((atI xs k).bind fun d => if d.pure then some d else none) = _
  rw [h]; show (if x.pure = true then some x else none) = _; rw [if_pos hp]
theorem pures_range (i j : Int) : D.pures (rangeD i j) = true := by
  unfold rangeD
  generalize List.range (j - i).toNat = l
  induction l with
  | nil => rfl
  | cons a l ih => simp only [List.map_cons, D.pures, D.pure, ih]; rfl
theorem range_len (i j : Int) : (rangeD i j).length = (j - i).toNat := rangeD_len i j
theorem small_len {xs : List D} {n : Nat} (h : xs.length ≤ n) (hn : n ≤ 16777216) : xs.length ≤ sizeLine := by rw [sizeLine_eq]; omega
theorem places_1 [Has T "is_place" f_is_place] [Has T "is_whole" f_is_whole] (n : Nat) (xs : List D) (m : Int) (hx : okDs xs = true) (h2 : xs.length ≤ 4) : (ev (callN T up0 (n + 2)) (.comp [("one", 3)] (.n 3) (.var 0) (.bl true) (.call "is_place" (.cons (.var 3) (.cons (.var 1) .nil))))).v [some (.lst false xs), some (.int m), none, none] = some (.ok (.lst true (xs.map fun d => .bl (isPlace d m))) [some (.lst false xs), some (.int m), none, none]) := by
  have hps := okDs_pure xs hx
  refine comp_bools (ds := xs) (by simp! [hps, itemsOf]) hps rfl (small_len h2 (by decide)) fun d hd => ?_
  have hd' := okDs_mem hx hd
  simp! [okD_pure d hd', c_is_place (T := T) n d m (okD_py d hd') (okD_pure d hd')]
theorem places_2  (n : Nat) (xs : List D) (m : Int) (hx : okDs xs = true) (h2 : xs.length ≤ 4) (ha : (xs.all fun d => isPlace d m) = true) : (ev (callN T up0 (n + 2)) (.comp [("at", 2)] (.n 2) (.rng2 (.int 1) (.bi .len (.cons (.var 0) .nil))) (.bl true) (.cmp .Lt (.idx (.var 0) (.bin .Sub (.var 2) (.int 1))) (.idx (.var 0) (.var 2))))).v [some (.lst false xs), some (.int m), none, none] = some (.ok (.lst true ((rangeD 1 (xs.length : Nat)).map fun d => .bl (ltAt intOf xs d))) [some (.lst false xs), some (.int m), none, none]) := by
  have hps := okDs_pure xs hx
  refine comp_bools (ds := rangeD 1 (xs.length : Nat)) (rng2_eq (ev_int 1) (by simp! [hps]) (small_of (by decide) (by decide)) (small_of (by omega) (by omega))) (pures_range _ _) rfl (by rw [range_len, sizeLine_eq]; omega) fun d hd => ?_
  obtain ⟨k, rfl, k1, k2⟩ := mem_rangeD hd
  obtain ⟨x, e1, m1⟩ := atI_some (xs := xs) (k := k - 1) (by omega) (by omega)
  obtain ⟨y, e2, m2⟩ := atI_some (xs := xs) (k := k) (by omega) (by omega)
  have px := List.all_eq_true.mp ha x m1
  have py := List.all_eq_true.mp ha y m2
  cases x <;> first | (cases px; done) | skip
  cases y <;> first | (cases py; done) | skip
  simp! [hps, idx_l e1 rfl, idx_l e2 rfl]
  simp [ltAt, keyOf, e1, e2, intOf]
theorem c_are_places [Has T "are_places" f_are_places] [Has T "is_place" f_is_place] [Has T "is_whole" f_is_whole] (n : Nat) (v : D) (m : Int) (h : okD v = true) : callN T up0 (n + 3) "are_places" [v, .int m] = some (.ok (.bl (arePlaces v m)) .non) := by
  rw [has_run (n := (n + 2)) (g := f_are_places) rfl]
  show outR false (evS (callN T up0 (n + 2)) up0 f_are_places.body [some v, some (.int m), none, none]) = _
  unfold f_are_places
  have hp := okD_pure v h
  have hpy := okD_py v h
  rcases lst_or v with ⟨o, xs, rfl⟩ | ⟨t1, t2⟩
  · obtain ⟨rfl, hx⟩ := okD_lst h
    have hps := okDs_pure xs hx
    by_cases h1 : 2 ≤ xs.length
    · have c1 : decide ((2 : Int) ≤ (xs.length : Nat)) = true := by simp; omega
      by_cases h2 : xs.length ≤ 4
      · have c2 : decide (((xs.length : Nat) : Int) ≤ 4) = true := by simp; omega
        have a1 := places_1 (T := T) n xs m hx h2
        cases ha : xs.all fun d => isPlace d m with
        | false =>
          simp! [hps, isi_ll, c1, c2, a1, bi_all, ha]
          simp [arePlaces, ha]
        | true =>
          have a2 := places_2 (T := T) n xs m hx h2 ha
          simp! [hps, isi_ll, c1, c2, a1, a2, bi_all, ha]
          simp [arePlaces, ha, h1, h2, asc]
      · have c2 : decide (((xs.length : Nat) : Int) ≤ 4) = false := by simp; omega
        simp! [hps, isi_ll, c1, c2]
        simp [arePlaces, h2]
    · have c1 : decide ((2 : Int) ≤ (xs.length : Nat)) = false := by simp; omega
      simp! [hps, isi_ll, c1]
      simp [arePlaces, h1]
  · have e : arePlaces v m = false := by cases v <;> first | rfl | exact absurd rfl (t2 _ _)
    simp! [hp, isiD_py hpy, t1, e]

def nz : D → Bool
  | .tup (.int a :: _) => a != 0
  | _ => false
def isPair (v : D) (m : Int) : Bool := match v with
  | .tup [p, q] => isPlace p m && (isFrac q && nz q)
  | _ => false
theorem tup_or' (v : D) : (∃ xs, v = .tup xs) ∨ (([Ty.tuple].any fun t => isiT (tyD v) t) = false ∧ ∀ xs, v ≠ .tup xs) := by
  cases v <;> first | exact .inl ⟨_, rfl⟩ | exact .inr ⟨rfl, fun _ h => by cases h⟩
theorem frac_cases {q : D} (h : isFrac q = true) : ∃ a b : Int, q = .tup [.int a, .int b] := by
  unfold isFrac at h
  split at h
  · exact ⟨_, _, rfl⟩
  · cases h
theorem c_is_pair [Has T "common_divisor" f_common_divisor] [Has T "is_fraction" f_is_fraction] [Has T "is_pair" f_is_pair] [Has T "is_place" f_is_place] [Has T "is_whole" f_is_whole] (n : Nat) (v : D) (m : Int) (h : okD v = true) : callN T up0 (n + 3) "is_pair" [v, .int m] = some (.ok (.bl (isPair v m)) .non) := by
  rw [has_run (n := (n + 2)) (g := f_is_pair) rfl]
  show outR false (evS (callN T up0 (n + 2)) up0 f_is_pair.body [some v, some (.int m)]) = _
  unfold f_is_pair
  have hp := okD_pure v h
  have hpy := okD_py v h
  rcases tup_or' v with ⟨xs, rfl⟩ | ⟨t1, t2⟩
  · have hx : okDs xs = true := by simpa [okD] using h
    match xs, hx with
    | [], _ =>
      have e : ((([] : List D).length : Int) == 2) = false := rfl
      simp! [isi_tt, eq_ii, e]; rfl
    | [a], hx =>
      simp only [okDs, Bool.and_eq_true, Bool.and_true] at hx
      have pa := okD_pure a hx
      have e : ((([a] : List D).length : Int) == 2) = false := rfl
      simp! [isi_tt, eq_ii, pa, e]; rfl
    | [a, b], hx =>
      simp only [okDs, Bool.and_eq_true, Bool.and_true] at hx
      have pa := okD_pure a hx.1
      have pb := okD_pure b hx.2
      have wa := c_is_place (T := T) n a m (okD_py a hx.1) pa
      have wb := c_is_fraction (T := T) n b hx.2
      have e2 : ((([a, b] : List D).length : Int) == 2) = true := rfl
      simp! [isi_tt, eq_ii, idx_t0 pa, idx_t1 pb, wa, pa, pb, e2]
      cases h1 : isPlace a m with
      | false => simp! [isPair, h1]
      | true =>
        simp! [idx_t1 pb, wb, pb, pa]
        cases h2 : isFrac b with
        | false => simp! [isPair, h1, h2]
        | true =>
          obtain ⟨c, d, rfl⟩ := frac_cases h2
          simp! [idx_t1 pb, idx_t0, eq_ii, isPair, h1, h2, nz]
          rfl
    | a :: b :: c :: xs, hx =>
      have e : (((a :: b :: c :: xs).length : Int) == 2) = false := by simp only [List.length_cons, beq_eq_false_iff_ne]; omega
      have hps := okDs_pure _ hx
      simp only [D.pures, Bool.and_eq_true] at hps
      simp! [isi_tt, eq_ii, hps.1, hps.2.1, hps.2.2.1, hps.2.2.2, e]; rfl
  · have e : isPair v m = false := by cases v <;> first | rfl | exact absurd rfl (t2 _)
    simp! [hp, isiD_py hpy, t1, e]

theorem idx_ti (a : Int) (xs : List D) : idxD (.tup (.int a :: xs)) (.int 0) = some (.int a) := idx_t0 rfl
def fstOf : D → Option Int
  | .tup (.int a :: _) => some a
  | _ => none
def arePairs (v : D) (m : Int) : Bool := match v with
  | .lst _ xs => xs.all (isPair · m) && asc fstOf xs
  | _ => false
theorem pair_cases {v : D} {m : Int} (h : isPair v m = true) : ∃ (a b c : Int), v = .tup [.int a, .tup [.int b, .int c]] := by
  unfold isPair at h
  split at h
  · rename_i p q
    simp only [Bool.and_eq_true] at h
    obtain ⟨b, c, rfl⟩ := frac_cases h.2.1
    cases p <;> first | (exact ⟨_, _, _, rfl⟩) | (cases h.1)
  · cases h
theorem sz1000 {xs : List D} (h : xs.length ≤ 1000) : xs.length ≤ sizeLine := small_len h (by decide)
theorem pairs_1 [Has T "common_divisor" f_common_divisor] [Has T "is_fraction" f_is_fraction] [Has T "is_pair" f_is_pair] [Has T "is_place" f_is_place] [Has T "is_whole" f_is_whole] (n : Nat) (xs : List D) (m : Int) (hx : okDs xs = true) (h2 : xs.length ≤ 1000) : (ev (callN T up0 (n + 3)) (.comp [("one", 3)] (.n 3) (.var 0) (.bl true) (.call "is_pair" (.cons (.var 3) (.cons (.var 1) .nil))))).v [some (.lst false xs), some (.int m), none, none] = some (.ok (.lst true (xs.map fun d => .bl (isPair d m))) [some (.lst false xs), some (.int m), none, none]) := by
  have hps := okDs_pure xs hx
  refine comp_bools (ds := xs) (by simp! [hps, itemsOf]) hps rfl (sz1000 h2) fun d hd => ?_
  have hd' := okDs_mem hx hd
  simp! [okD_pure d hd', c_is_pair (T := T) n d m hd']
theorem pairs_2  (n : Nat) (xs : List D) (m : Int) (hx : okDs xs = true) (h2 : xs.length ≤ 1000) (ha : (xs.all fun d => isPair d m) = true) : (ev (callN T up0 (n + 3)) (.comp [("at", 2)] (.n 2) (.rng2 (.int 1) (.bi .len (.cons (.var 0) .nil))) (.bl true) (.cmp .Lt (.idx (.idx (.var 0) (.bin .Sub (.var 2) (.int 1))) (.int 0)) (.idx (.idx (.var 0) (.var 2)) (.int 0))))).v [some (.lst false xs), some (.int m), none, none] = some (.ok (.lst true ((rangeD 1 (xs.length : Nat)).map fun d => .bl (ltAt fstOf xs d))) [some (.lst false xs), some (.int m), none, none]) := by
  have hps := okDs_pure xs hx
  refine comp_bools (ds := rangeD 1 (xs.length : Nat)) (rng2_eq (ev_int 1) (by simp! [hps]) (small_of (by decide) (by decide)) (small_of (by omega) (by omega))) (pures_range _ _) rfl (by rw [range_len, sizeLine_eq]; omega) fun d hd => ?_
  obtain ⟨k, rfl, k1, k2⟩ := mem_rangeD hd
  obtain ⟨x, e1, m1⟩ := atI_some (xs := xs) (k := k - 1) (by omega) (by omega)
  obtain ⟨y, e2, m2⟩ := atI_some (xs := xs) (k := k) (by omega) (by omega)
  obtain ⟨a, b, c, rfl⟩ := pair_cases (List.all_eq_true.mp ha x m1)
  obtain ⟨a', b', c', rfl⟩ := pair_cases (List.all_eq_true.mp ha y m2)
  simp! [hps, idx_l e1 rfl, idx_l e2 rfl, idx_ti]
  simp [ltAt, keyOf, e1, e2, fstOf]
theorem c_are_pairs [Has T "are_pairs" f_are_pairs] [Has T "common_divisor" f_common_divisor] [Has T "is_fraction" f_is_fraction] [Has T "is_pair" f_is_pair] [Has T "is_place" f_is_place] [Has T "is_whole" f_is_whole] (n : Nat) (v : D) (m : Int) (h : okD v = true) : callN T up0 (n + 4) "are_pairs" [v, .int m] = some (.ok (.bl (arePairs v m)) .non) := by
  rw [has_run (n := (n + 3)) (g := f_are_pairs) rfl]
  show outR false (evS (callN T up0 (n + 3)) up0 f_are_pairs.body [some v, some (.int m), none, none]) = _
  unfold f_are_pairs
  have hp := okD_pure v h
  have hpy := okD_py v h
  rcases lst_or v with ⟨o, xs, rfl⟩ | ⟨t1, t2⟩
  · obtain ⟨rfl, hx⟩ := okD_lst h
    have h2 := okD_len h
    have hps := okDs_pure xs hx
    have a1 := pairs_1 (T := T) n xs m hx h2
    cases ha : xs.all fun d => isPair d m with
    | false =>
      simp! [hps, isi_ll, a1, bi_all, ha]
      simp [arePairs, ha]
    | true =>
      have a2 := pairs_2 (T := T) n xs m hx h2 ha
      simp! [hps, isi_ll, a1, a2, bi_all, ha]
      simp [arePairs, ha, asc]
  · have e : arePairs v m = false := by cases v <;> first | rfl | exact absurd rfl (t2 _ _)
    simp! [hp, isiD_py hpy, t1, e]
/-! ### outs -/
def areOuts (v : D) (m : Int) : Bool := match v with
  | .lst _ xs => decide (1 ≤ xs.length) && decide (xs.length ≤ 4) && xs.all (isPlace · m)
  | _ => false
theorem outs_1 [Has T "is_place" f_is_place] [Has T "is_whole" f_is_whole] (n : Nat) (xs : List D) (m : Int) (hx : okDs xs = true) (h2 : xs.length ≤ 1000) : (ev (callN T up0 (n + 2)) (.comp [("one", 2)] (.n 2) (.var 0) (.bl true) (.call "is_place" (.cons (.var 2) (.cons (.var 1) .nil))))).v [some (.lst false xs), some (.int m), none] = some (.ok (.lst true (xs.map fun d => .bl (isPlace d m))) [some (.lst false xs), some (.int m), none]) := by
  have hps := okDs_pure xs hx
  refine comp_bools (ds := xs) (by simp! [hps, itemsOf]) hps rfl (sz1000 h2) fun d hd => ?_
  have hd' := okDs_mem hx hd
  simp! [okD_pure d hd', c_is_place (T := T) n d m (okD_py d hd') (okD_pure d hd')]
theorem c_are_outs [Has T "are_outs" f_are_outs] [Has T "is_place" f_is_place] [Has T "is_whole" f_is_whole] (n : Nat) (v : D) (m : Int) (h : okD v = true) : callN T up0 (n + 3) "are_outs" [v, .int m] = some (.ok (.bl (areOuts v m)) .non) := by
  rw [has_run (n := (n + 2)) (g := f_are_outs) rfl]
  show outR false (evS (callN T up0 (n + 2)) up0 f_are_outs.body [some v, some (.int m), none]) = _
  unfold f_are_outs
  have hp := okD_pure v h
  have hpy := okD_py v h
  rcases lst_or v with ⟨o, xs, rfl⟩ | ⟨t1, t2⟩
  · obtain ⟨rfl, hx⟩ := okD_lst h
    have h2 := okD_len h
    have hps := okDs_pure xs hx
    have a1 := outs_1 (T := T) n xs m hx h2
    by_cases l1 : 1 ≤ xs.length
    · have c1 : decide ((1 : Int) ≤ (xs.length : Nat)) = true := by simp; omega
      by_cases l2 : xs.length ≤ 4
      · have c2 : decide (((xs.length : Nat) : Int) ≤ 4) = true := by simp; omega
        simp! [hps, isi_ll, c1, c2, a1, bi_all]
        simp [areOuts, l1, l2]
      · have c2 : decide (((xs.length : Nat) : Int) ≤ 4) = false := by simp; omega
        simp! [hps, isi_ll, c1, c2]
        simp [areOuts, l2]
    · have c1 : decide ((1 : Int) ≤ (xs.length : Nat)) = false := by simp; omega
      simp! [hps, isi_ll, c1]
      simp [areOuts, l1]
  · have e : areOuts v m = false := by cases v <;> first | rfl | exact absurd rfl (t2 _ _)
    simp! [hp, isiD_py hpy, t1, e]

def isNode (v : D) (m : Int) : Bool := match v with
  | .tup [.str s, x] => if s == Str.ofString "sum" then false else if s == Str.ofString "hinge" then isPlace x m else (s == Str.ofString "most" || s == Str.ofString "least") && arePlaces x m
  | .tup [.str s, x, y] => s == Str.ofString "sum" && (arePairs x m && isFrac y)
  | _ => false
theorem in_23 (k : Int) : inD (.int k) (.tup [.int 2, .int 3]) = some ((2 == k) || ((3 == k) || false)) := rfl
theorem in_ss (s a b : Str) : inD (.str s) (.tup [.str a, .str b]) = some ((a == s) || ((b == s) || false)) := rfl
theorem str_or (v : D) : (∃ s, v = .str s) ∨ (([Ty.str].any fun t => isiT (tyD v) t) = false ∧ ∀ s, v ≠ .str s) := by
  cases v <;> first | exact .inl ⟨_, rfl⟩ | exact .inr ⟨rfl, fun _ h => by cases h⟩
theorem isNode_ns (a : D) (xs : List D) (m : Int) (h : ∀ s, a ≠ .str s) : isNode (.tup (a :: xs)) m = false := by
  cases a <;> first | exact absurd rfl (h _) | (cases xs <;> first | rfl | skip)
  all_goals (rename_i t; cases t <;> first | rfl | (rename_i u; cases u <;> rfl))
theorem str_comm (a b : Str) : (a == b) = (b == a) := by
  rw [Bool.eq_iff_iff]; simp only [beq_iff_eq]; exact eq_comm
theorem c_is_node [Has T "are_pairs" f_are_pairs] [Has T "are_places" f_are_places] [Has T "common_divisor" f_common_divisor] [Has T "is_fraction" f_is_fraction] [Has T "is_node" f_is_node] [Has T "is_pair" f_is_pair] [Has T "is_place" f_is_place] [Has T "is_whole" f_is_whole] (n : Nat) (v : D) (m : Int) (h : okD v = true) : callN T up0 (n + 5) "is_node" [v, .int m] = some (.ok (.bl (isNode v m)) .non) := by
  rw [has_run (n := (n + 4)) (g := f_is_node) rfl]
  show outR false (evS (callN T up0 (n + 4)) up0 f_is_node.body [some v, some (.int m)]) = _
  unfold f_is_node
  have hp := okD_pure v h
  have hpy := okD_py v h
  rcases tup_or' v with ⟨xs, rfl⟩ | ⟨t1, t2⟩
  · have hx : okDs xs = true := by simpa [okD] using h
    match xs, hx with
    | [], _ =>
      have e : (((2 : Int) == (([] : List D).length : Nat)) || ((3 : Int) == (([] : List D).length : Nat))) = false := rfl
      simp! [isi_tt, in_23, e]; rfl
    | [a], hx =>
      simp only [okDs, Bool.and_eq_true, Bool.and_true] at hx
      have pa := okD_pure a hx
      have e : (((2 : Int) == (([a] : List D).length : Nat)) || ((3 : Int) == (([a] : List D).length : Nat))) = false := rfl
      simp! [isi_tt, in_23, e, pa]
      cases a <;> rfl
    | [a, b], hx =>
      simp only [okDs, Bool.and_eq_true, Bool.and_true] at hx
      have pa := okD_pure a hx.1
      have pb := okD_pure b hx.2
      have e : (((2 : Int) == (([a, b] : List D).length : Nat)) || ((3 : Int) == (([a, b] : List D).length : Nat))) = true := rfl
      have e2 : ((([a, b] : List D).length : Int) == 2) = true := rfl
      have e3 : ((([a, b] : List D).length : Int) == 3) = false := rfl
      rcases str_or a with ⟨s, rfl⟩ | ⟨s1, s2⟩
      · have c1 := c_is_place (T := T) (n + 2) b m (okD_py b hx.2) pb
        have c2 := c_are_places (T := T) (n + 1) b m hx.2
        simp! [isi_tt, in_23, e, pb, idx_t0 pa, isi_ss, eq_ss]
        cases k1 : s == Str.ofString "sum" with
        | true => simp! [eq_ii, e3, isNode, k1, pb]
        | false =>
          simp! [idx_t0 pa, eq_ss, pb]
          cases k2 : s == Str.ofString "hinge" with
          | true => simp! [eq_ii, e2, idx_t1 pb, pb, c1, isNode, k1, k2]
          | false =>
            simp! [idx_t0 pa, eq_ss, pb, in_ss]
            rw [str_comm (Str.ofString "most") s, str_comm (Str.ofString "least") s]
            cases k3 : s == Str.ofString "most" <;> cases k4 : s == Str.ofString "least" <;> simp! [eq_ii, e2, idx_t1 pb, pb, c2, isNode, k1, k2, k3, k4]
      · simp! [isi_tt, in_23, e, pa, pb, idx_t0 pa, isiD_py (okD_py a hx.1), s1, isNode_ns a [b] m s2]
    | [a, b, c], hx =>
      simp only [okDs, Bool.and_eq_true, Bool.and_true] at hx
      have pa := okD_pure a hx.1
      have pb := okD_pure b hx.2.1
      have pc := okD_pure c hx.2.2
      have e : (((2 : Int) == (([a, b, c] : List D).length : Nat)) || ((3 : Int) == (([a, b, c] : List D).length : Nat))) = true := rfl
      have e2 : ((([a, b, c] : List D).length : Int) == 2) = false := rfl
      have e3 : ((([a, b, c] : List D).length : Int) == 3) = true := rfl
      rcases str_or a with ⟨s, rfl⟩ | ⟨s1, s2⟩
      · have c1 := c_are_pairs (T := T) n b m hx.2.1
        have c2 := c_is_fraction (T := T) (n + 2) c hx.2.2
        simp! [isi_tt, in_23, e, pb, pc, idx_t0 pa, isi_ss, eq_ss]
        cases k1 : s == Str.ofString "sum" with
        | true =>
          simp! [eq_ii, e3, idx_t1 pb, pb, pc, c1]
          cases k2 : arePairs b m with
          | true => simp! [idx_t2 pc, pb, pc, c2, isNode, k1, k2]
          | false => simp! [isNode, k1, k2]
        | false =>
          simp! [idx_t0 pa, eq_ss, pb, pc]
          cases k2 : s == Str.ofString "hinge" with
          | true => simp! [eq_ii, e2, isNode, k1, k2, pb, pc]
          | false =>
            simp! [idx_t0 pa, eq_ss, pb, pc, in_ss]
            cases k3 : ((Str.ofString "most" == s) || (Str.ofString "least" == s)) <;> simp! [eq_ii, e2, isNode, k1, pb, pc]
      · simp! [isi_tt, in_23, e, pa, pb, pc, idx_t0 pa, isiD_py (okD_py a hx.1), s1, isNode_ns a [b, c] m s2]
    | a :: b :: c :: d :: xs, hx =>
      have e : (((2 : Int) == ((a :: b :: c :: d :: xs).length : Nat)) || ((3 : Int) == ((a :: b :: c :: d :: xs).length : Nat))) = false := by
        simp only [List.length_cons, Bool.or_eq_false_iff, beq_eq_false_iff_ne]; omega
      have hps := okDs_pure _ hx
      simp only [D.pures, Bool.and_eq_true] at hps
      have z : isNode (.tup (a :: b :: c :: d :: xs)) m = false := by cases a <;> rfl
      simp! [isi_tt, in_23, hps.1, hps.2.1, hps.2.2.1, hps.2.2.2.1, hps.2.2.2.2, e, z]
  · have e : isNode v m = false := by cases v <;> first | rfl | exact absurd rfl (t2 _)
    simp! [hp, isiD_py hpy, t1, e]

def nodeAt (m : Int) : D → Bool
  | .tup [.int i, x] => isNode x (m + i)
  | _ => false
def areNodes (v : D) (m : Int) : Bool := match v with
  | .lst _ xs => decide (xs.length ≤ 24) && (enumD 0 xs).all (nodeAt m)
  | _ => false
theorem nodes_1 [Has T "are_pairs" f_are_pairs] [Has T "are_places" f_are_places] [Has T "common_divisor" f_common_divisor] [Has T "is_fraction" f_is_fraction] [Has T "is_node" f_is_node] [Has T "is_pair" f_is_pair] [Has T "is_place" f_is_place] [Has T "is_whole" f_is_whole] (n : Nat) (xs : List D) (m : Int) (hx : okDs xs = true) (h2 : xs.length ≤ 1000) : (ev (callN T up0 (n + 5)) (.comp [("at", 2), ("node", 3)] (.t (.cons (.n 2) (.cons (.n 3) .nil))) (.enum (.var 0)) (.bl true) (.call "is_node" (.cons (.var 3) (.cons (.frz (.bin .Add (.var 1) (.var 2))) .nil))))).v [some (.lst false xs), some (.int m), none, none] = some (.ok (.lst true ((enumD 0 xs).map fun d => .bl (nodeAt m d))) [some (.lst false xs), some (.int m), none, none]) := by
  have hps := okDs_pure xs hx
  have h := comp2_eq (Γ := callN T up0 (n + 5)) (n1 := "at") (n2 := "node") (i := 2) (j := 3) (it := .enum (.var 0)) (c := .bl true) (elt := .call "is_node" (.cons (.var 3) (.cons (.frz (.bin .Add (.var 1) (.var 2))) .nil))) (ρ := [some (.lst false xs), some (.int m), none, none]) (ds := enumD 0 xs) (p := fun _ => true) (g := fun d => .bl (nodeAt m d))
    (by simp! [hps, lstOf]) (enumD_pures hps) rfl (by rw [enumD_len]; exact sz1000 h2) fun d hd => by
      obtain ⟨i, x, rfl, hm, hi⟩ := enumD_mem hd
      have hx' := okDs_mem hx hm
      refine ⟨_, _, rfl, rfl, fun _ => ?_⟩
      simp! [okD_pure x hx', c_is_node (T := T) n x (m + (i : Nat)) hx', nodeAt]
  have e : (enumD 0 xs).filter (fun _ => true) = enumD 0 xs := by simp
  rw [e] at h
  exact h
theorem c_are_nodes [Has T "are_nodes" f_are_nodes] [Has T "are_pairs" f_are_pairs] [Has T "are_places" f_are_places] [Has T "common_divisor" f_common_divisor] [Has T "is_fraction" f_is_fraction] [Has T "is_node" f_is_node] [Has T "is_pair" f_is_pair] [Has T "is_place" f_is_place] [Has T "is_whole" f_is_whole] (n : Nat) (v : D) (m : Int) (h : okD v = true) : callN T up0 (n + 6) "are_nodes" [v, .int m] = some (.ok (.bl (areNodes v m)) .non) := by
  rw [has_run (n := (n + 5)) (g := f_are_nodes) rfl]
  show outR false (evS (callN T up0 (n + 5)) up0 f_are_nodes.body [some v, some (.int m), none, none]) = _
  unfold f_are_nodes
  have hp := okD_pure v h
  have hpy := okD_py v h
  rcases lst_or v with ⟨o, xs, rfl⟩ | ⟨t1, t2⟩
  · obtain ⟨rfl, hx⟩ := okD_lst h
    have h2 := okD_len h
    have hps := okDs_pure xs hx
    have a1 := nodes_1 (T := T) n xs m hx h2
    by_cases l1 : xs.length ≤ 24
    · have c1 : decide ((24 : Int) < (xs.length : Nat)) = false := by simp; omega
      simp! [hps, isi_ll, c1, a1, bi_all]
      simp [areNodes, l1]
    · have c1 : decide ((24 : Int) < (xs.length : Nat)) = true := by simp; omega
      simp! [hps, isi_ll, c1]
      simp [areNodes, l1]
  · have e : areNodes v m = false := by cases v <;> first | rfl | exact absurd rfl (t2 _ _)
    simp! [hp, isiD_py hpy, t1, e]
def lenL : D → Int
  | .lst _ xs => xs.length
  | _ => 0
def isNet (v : D) : Bool := match v with
  | .tup [.str s, .int i, nodes, outs] => s == Str.ofString "net" && (decide (1 ≤ i) && decide (i ≤ 4)) && areNodes nodes i && areOuts outs (i + lenL nodes)
  | _ => false
theorem isNet_ns (a : D) (xs : List D) (h : ∀ s, a ≠ .str s) : isNet (.tup (a :: xs)) = false := by
  cases a <;> first | exact absurd rfl (h _) | rfl
theorem isNet_ni (a b c d : D) (h : isInt b = false) : isNet (.tup [a, b, c, d]) = false := by
  cases a <;> first | rfl | (cases b <;> first | rfl | cases h)
theorem c_is_net_by [Has T "are_nodes" f_are_nodes] [Has T "are_outs" f_are_outs] [Has T "are_pairs" f_are_pairs] [Has T "are_places" f_are_places] [Has T "common_divisor" f_common_divisor] [Has T "is_fraction" f_is_fraction] [Has T "is_net_by" f_is_net_by] [Has T "is_node" f_is_node] [Has T "is_pair" f_is_pair] [Has T "is_place" f_is_place] [Has T "is_whole" f_is_whole] (n : Nat) (v : D) (h : okD v = true) : callN T up0 (n + 7) "is_net_by" [v] = some (.ok (.bl (isNet v)) .non) := by
  rw [has_run (n := (n + 6)) (g := f_is_net_by) rfl]
  show outR false (evS (callN T up0 (n + 6)) up0 f_is_net_by.body [some v]) = _
  unfold f_is_net_by
  have hp := okD_pure v h
  have hpy := okD_py v h
  rcases tup_or' v with ⟨xs, rfl⟩ | ⟨t1, t2⟩
  · have hx : okDs xs = true := by simpa [okD] using h
    by_cases hl : xs.length = 4
    · match xs, hl, hx with
      | [a, b, c, d], _, hx =>
        simp only [okDs, Bool.and_eq_true, Bool.and_true] at hx
        have pa := okD_pure a hx.1
        have pb := okD_pure b hx.2.1
        have pc := okD_pure c hx.2.2.1
        have pd := okD_pure d hx.2.2.2
        have e : ((([a, b, c, d] : List D).length : Int) == 4) = true := rfl
        rcases str_or a with ⟨s, rfl⟩ | ⟨s1, s2⟩
        · have w := c_is_whole (T := T) (n + 5) b (okD_py b hx.2.1) pb
          simp! [isi_tt, eq_ii, e, pb, pc, pd, idx_t0 pa, isi_ss, eq_ss]
          cases k1 : s == Str.ofString "net" with
          | false =>
            have z : isNet (.tup [.str s, b, c, d]) = false := by cases b <;> first | rfl | simp [isNet, k1]
            simp! [z]
          | true =>
            simp! [pb, pc, pd, idx_t1 pb, w]
            cases hb : isInt b with
            | false => simp! [isNet_ni (.str s) b c d hb]
            | true =>
              obtain ⟨i, rfl⟩ : ∃ i, b = .int i := by cases b <;> first | exact ⟨_, rfl⟩ | cases hb
              have nb := c_are_nodes (T := T) n c i hx.2.2.1
              simp! [pc, pd, idx_t1 pb]
              by_cases i1 : 1 ≤ i
              · by_cases i2 : i ≤ 4
                · simp! [i1, i2, decide_true, pc, pd, idx_t1 pb, idx_t2 pc, nb]
                  cases hn : areNodes c i with
                  | false => simp! [isNet, hn, k1, i1, i2, decide_true]
                  | true =>
                    have hc : ∃ o ys, c = .lst o ys := by cases c <;> first | exact ⟨_, _, rfl⟩ | cases hn
                    obtain ⟨o, ys, rfl⟩ := hc
                    have no := c_are_outs (T := T) (n + 3) d (i + (ys.length : Nat)) hx.2.2.2
                    obtain ⟨rfl, hy⟩ := okD_lst hx.2.2.1
                    have py := okDs_pure ys hy
                    simp! [pd, idx_t1 pb, idx_t2 pc, idx_t3 pd, py, no, isNet, hn, k1, i1, i2, decide_true, lenL]
                · simp! [i1, i2, decide_true, decide_false, isNet, k1]
              · simp! [i1, decide_false, isNet, k1]
        · simp! [isi_tt, eq_ii, e, pa, pb, pc, pd, idx_t0 pa, isiD_py (okD_py a hx.1), s1, isNet_ns a [b, c, d] s2]
    · have e : (((xs.length : Nat) : Int) == 4) = false := by simp only [beq_eq_false_iff_ne]; omega
      have z : isNet (.tup xs) = false := by
        match xs, hl with
        | [], _ => rfl
        | [a], _ => cases a <;> rfl
        | [a, b], _ => cases a <;> first | rfl | (cases b <;> rfl)
        | [a, b, c], _ => cases a <;> first | rfl | (cases b <;> rfl)
        | [a, b, c, d], hl => exact absurd rfl hl
        | a :: b :: c :: d :: f :: r, _ => cases a <;> first | rfl | (cases b <;> rfl)
      have hps := okDs_pure xs hx
      simp! [isi_tt, eq_ii, hps, e, z]
  · have e : isNet v = false := by cases v <;> first | rfl | exact absurd rfl (t2 _)
    simp! [hp, isiD_py hpy, t1, e]

theorem c_check_net [Has T "are_nodes" f_are_nodes] [Has T "are_outs" f_are_outs] [Has T "are_pairs" f_are_pairs] [Has T "are_places" f_are_places] [Has T "check_net" f_check_net] [Has T "common_divisor" f_common_divisor] [Has T "is_fraction" f_is_fraction] [Has T "is_net_by" f_is_net_by] [Has T "is_node" f_is_node] [Has T "is_pair" f_is_pair] [Has T "is_place" f_is_place] [Has T "is_whole" f_is_whole] (n : Nat) (v : D) (h : okD v = true) : callN T up0 (n + 8) "check_net" [v] = if isNet v then some (.ok .non .non) else some (.ex "InvalidNet" v) := by
  rw [has_run (n := (n + 7)) (g := f_check_net) rfl]
  show outR false (evS (callN T up0 (n + 7)) up0 f_check_net.body [some v]) = _
  unfold f_check_net
  have hp := okD_pure v h
  have c1 := c_is_net_by (T := T) n v h
  cases hn : isNet v with
  | true => simp! [hp, c1, hn]
  | false => simp! [hp, c1, hn]
theorem c_is_net [Has T "are_nodes" f_are_nodes] [Has T "are_outs" f_are_outs] [Has T "are_pairs" f_are_pairs] [Has T "are_places" f_are_places] [Has T "common_divisor" f_common_divisor] [Has T "is_fraction" f_is_fraction] [Has T "is_net" f_is_net] [Has T "is_net_by" f_is_net_by] [Has T "is_node" f_is_node] [Has T "is_pair" f_is_pair] [Has T "is_place" f_is_place] [Has T "is_whole" f_is_whole] (n : Nat) (v : D) (h : okD v = true) : callN T up0 (n + 8) "is_net" [v] = some (.ok (.bl (isNet v)) .non) := by
  rw [has_run (n := (n + 7)) (g := f_is_net) rfl]
  show outR false (evS (callN T up0 (n + 7)) up0 f_is_net.body [some v]) = _
  unfold f_is_net
  simp! [okD_pure v h, c_is_net_by (T := T) n v h]
def isPoint (m : Int) (v : D) : Bool := match v with
  | .lst _ xs => (((xs.length : Nat) : Int) == m) && xs.all isFrac
  | _ => false
theorem c_are_fractions [Has T "are_fractions" f_are_fractions] [Has T "common_divisor" f_common_divisor] [Has T "is_fraction" f_is_fraction] [Has T "is_whole" f_is_whole] (n : Nat) (v : D) (m : Int) (h : okD v = true) : callN T up0 (n + 3) "are_fractions" [v, .int m] = some (.ok (.bl (isPoint m v)) .non) := by
  rw [has_run (n := (n + 2)) (g := f_are_fractions) rfl]
  show outR false (evS (callN T up0 (n + 2)) up0 f_are_fractions.body [some v, some (.int m), none]) = _
  unfold f_are_fractions
  have hp := okD_pure v h
  have hpy := okD_py v h
  rcases lst_or v with ⟨o, xs, rfl⟩ | ⟨t1, t2⟩
  · obtain ⟨rfl, hx⟩ := okD_lst h
    have hps := okDs_pure xs hx
    have a1 := comp_bools (Γ := callN T up0 (n + 2)) (nm := "one") (i := 2) (it := .var 0) (elt := .call "is_fraction" (.cons (.var 2) .nil)) (ρ := [some (.lst false xs), some (.int m), none]) (ds := xs) (g := isFrac)
      (by simp! [hps, itemsOf]) hps rfl (sz1000 (okD_len h)) (fun d hd => by
        have hd' := okDs_mem hx hd
        simp! [okD_pure d hd', c_is_fraction (T := T) n d hd'])
    cases hl : (((xs.length : Nat) : Int) == m) with
    | true => simp! [hps, isi_ll, eq_ii, hl, a1, bi_all, isPoint]
    | false => simp! [hps, isi_ll, eq_ii, hl, isPoint]
  · have e : isPoint m v = false := by cases v <;> first | rfl | exact absurd rfl (t2 _ _)
    simp! [hp, isiD_py hpy, t1, e]
theorem c_is_point_by [Has T "are_fractions" f_are_fractions] [Has T "common_divisor" f_common_divisor] [Has T "is_fraction" f_is_fraction] [Has T "is_point_by" f_is_point_by] [Has T "is_whole" f_is_whole] (n : Nat) (v : D) (m : Int) (h : okD v = true) : callN T up0 (n + 4) "is_point_by" [.int m, v] = some (.ok (.bl (isPoint m v)) .non) := by
  rw [has_run (n := (n + 3)) (g := f_is_point_by) rfl]
  show outR false (evS (callN T up0 (n + 3)) up0 f_is_point_by.body [some (.int m), some v]) = _
  unfold f_is_point_by
  simp! [okD_pure v h, c_are_fractions (T := T) n v m h]
/-- is_point of a net -/
theorem c_is_point [Has T "are_fractions" f_are_fractions] [Has T "are_nodes" f_are_nodes] [Has T "are_outs" f_are_outs] [Has T "are_pairs" f_are_pairs] [Has T "are_places" f_are_places] [Has T "check_net" f_check_net] [Has T "common_divisor" f_common_divisor] [Has T "is_fraction" f_is_fraction] [Has T "is_net_by" f_is_net_by] [Has T "is_node" f_is_node] [Has T "is_pair" f_is_pair] [Has T "is_place" f_is_place] [Has T "is_point" f_is_point] [Has T "is_point_by" f_is_point_by] [Has T "is_whole" f_is_whole] (n : Nat) (s : Str) (i : Int) (c d v : D) (hn : isNet (.tup [.str s, .int i, c, d]) = true) (hk : okD (.tup [.str s, .int i, c, d]) = true) (h : okD v = true) : callN T up0 (n + 9) "is_point" [.tup [.str s, .int i, c, d], v] = some (.ok (.bl (isPoint i v)) .non) := by
  rw [has_run (n := (n + 8)) (g := f_is_point) rfl]
  show outR false (evS (callN T up0 (n + 8)) up0 f_is_point.body [some (.tup [.str s, .int i, c, d]), some v]) = _
  unfold f_is_point
  have hx : okDs [.str s, .int i, c, d] = true := by simpa [okD] using hk
  simp only [okDs, Bool.and_eq_true, Bool.and_true] at hx
  have c1 := c_check_net (T := T) n _ hk
  rw [hn] at c1
  have c2 := c_is_point_by (T := T) (n + 4) v i h
  simp! [okD_pure v h, okD_pure c hx.2.2.1, okD_pure d hx.2.2.2, c1, idx_t1 (okD_pure _ hx.2.1), c2]
theorem c_is_point_none [Has T "are_nodes" f_are_nodes] [Has T "are_outs" f_are_outs] [Has T "are_pairs" f_are_pairs] [Has T "are_places" f_are_places] [Has T "check_net" f_check_net] [Has T "common_divisor" f_common_divisor] [Has T "is_fraction" f_is_fraction] [Has T "is_net_by" f_is_net_by] [Has T "is_node" f_is_node] [Has T "is_pair" f_is_pair] [Has T "is_place" f_is_place] [Has T "is_point" f_is_point] [Has T "is_whole" f_is_whole] (n : Nat) (v : D) (h : okD v = true) : callN T up0 (n + 9) "is_point" [.non, v] = some (.ex "InvalidNet" .non) := by
  rw [has_run (n := (n + 8)) (g := f_is_point) rfl]
  show outR false (evS (callN T up0 (n + 8)) up0 f_is_point.body [some .non, some v]) = _
  unfold f_is_point
  have c1 := c_check_net (T := T) n .non rfl
  have z : isNet .non = false := rfl
  rw [z] at c1
  simp! [okD_pure v h, c1]

end

set_option maxHeartbeats 4000000
set_option synthInstance.maxSize 128
set_option synthInstance.maxHeartbeats 20000
section
variable {T : Tab}

theorem log_small {x : Nat} (h : x < 1000000000000) : x.log2 < 100 := by
  by_cases h0 : x = 0
  · subst h0; decide
  · exact (Nat.log2_lt h0).mpr (Nat.lt_trans h (by decide))
theorem while_low  (k : Nat) (t u : Option D) : ∀ (y x n : Nat), x < 1000000000000 → y < 1000000000000 → y < n → whileLoop (ev (callN T up0 k) (.cmp .Gt (.var 3) (.int 0))).t (evS (callN T up0 k) up0 (.seq (.par [2, 3] (.cons (.var 3) (.cons (.bin .Sub (.var 2) (.bin .Mult (.bin .FloorDiv (.var 2) (.var 3)) (.var 3))) .nil))) .nil)) n [t, u, some (.int (x : Nat)), some (.int (y : Nat))] = some (.nx [t, u, some (.int (Nat.gcd x y : Nat)), some (.int 0)]) := by
  intro y
  induction y using Nat.strongRecOn with
  | ind y ih =>
    intro x n hx hY hn
    cases n with
    | zero => omega
    | succ n =>
      show bindS ((ev (callN T up0 k) (.cmp .Gt (.var 3) (.int 0))).t [t, u, some (.int (x : Nat)), some (.int (y : Nat))]) _ = _
      by_cases hy : y = 0
      · subst hy
        simp!
        simp
      · have h0 : (0 : Int) < (y : Nat) := by omega
        have l1 : ((y : Nat) : Int).natAbs.log2 < 9000 := by have := log_small hY; simp only [Int.natAbs_natCast]; omega
        have e0 : ((x : Nat) : Int) / (y : Nat) = ((x / y : Nat) : Int) := rfl
        have l2 : ((((x / y : Nat) : Nat) : Int)).natAbs.log2 + ((y : Nat) : Int).natAbs.log2 < 1000000 := by
          have a := log_small hY
          have b : (x / y).log2 < 100 := log_small (Nat.lt_of_le_of_lt (Nat.div_le_self x y) hx)
          simp only [Int.natAbs_natCast]; omega
        simp! [h0, decide_true, bin_fdiv h0 l1, e0, bin_mul l2, List.length_cons, List.length_nil]
        have e : ((x : Nat) : Int) - ((x / y : Nat) : Int) * (y : Nat) = ((x % y : Nat) : Int) := by
          have := Nat.div_add_mod x y
          have h2 : ((x / y : Nat) : Int) * (y : Nat) = ((y * (x / y) : Nat) : Int) := by rw [Int.natCast_mul, Int.mul_comm]
          rw [h2]; omega
        rw [e, ih (x % y) (Nat.mod_lt _ (by omega)) y n hY (Nat.lt_of_le_of_lt (Nat.mod_le x y) hx) (by have := Nat.mod_lt x (show y > 0 by omega); omega)]
        rw [Nat.gcd_comm x y, Nat.gcd_rec y x, Nat.gcd_comm (x % y) y]
/-- in lowest terms, the lower one above 0 -/
theorem c_lowest [Has T "_law_lowest" f_law_lowest] (k : Nat) (a b : Int) (ha : a.natAbs < 1000000000) (hb : b.natAbs < 1000000000) (h0 : 0 < b) : callN T up0 (k + 1) "_law_lowest" [.int a, .int b] = some (.ok (.tup [.int (a / (Nat.gcd a.natAbs b.natAbs : Nat)), .int (b / (Nat.gcd a.natAbs b.natAbs : Nat))]) .non) := by
  rw [has_run (n := k) (g := f_law_lowest) rfl]
  show outR false (evS (callN T up0 k) up0 f_law_lowest.body [some (.int a), some (.int b), none, none]) = _
  unfold f_law_lowest
  have w := while_low (T := T) k (some (.int a)) (some (.int b)) b.natAbs a.natAbs fuel0 (by omega) (by omega) hb
  have g0 : 0 < Nat.gcd a.natAbs b.natAbs := Nat.gcd_pos_of_pos_right _ (by omega)
  have gp : (0 : Int) < (Nat.gcd a.natAbs b.natAbs : Nat) := by omega
  have gl : ((Nat.gcd a.natAbs b.natAbs : Nat) : Int).natAbs.log2 < 9000 := by
    have h1 : Nat.gcd a.natAbs b.natAbs ≤ b.natAbs := Nat.gcd_le_right _ (by omega)
    have := log_small (x := Nat.gcd a.natAbs b.natAbs) (by omega)
    simp only [Int.natAbs_natCast]; omega
  simp! [abs_nat, List.length_cons, List.length_nil, w, h0, decide_true, bin_fdiv gp gl]
  have z : 0 + 1 + 1 ≤ sizeLine := by have := le_2; first | exact le_2 | decide
  erw [if_pos z]
  rfl

mutual
/-- data that the model compares by its shape -/
def layD : D → Bool
  | .int _ | .non | .bl _ => true
  | .str x => PyData.strOk x
  | .tup xs | .lst _ xs => layDs xs
  | _ => false
def layDs : List D → Bool
  | [] => true
  | d :: ds => layD d && layDs ds
end
mutual
def dep : D → Nat
  | .tup xs | .lst _ xs => deps xs + 1
  | _ => 0
def deps : List D → Nat
  | [] => 0
  | d :: ds => max (dep d) (deps ds)
end
mutual
theorem py_lay : ∀ d : D, layD d = true → ∃ p, d.py = some p ∧ p.canLay0 = true ∧ p.depth = dep d
  | .int i, _ => ⟨.int i, by simp [D.py], by simp [PyData.canLay0], by simp [PyData.depth, dep]⟩
  | .non, _ => ⟨.none, by simp [D.py], by simp [PyData.canLay0], by simp [PyData.depth, dep]⟩
  | .bl b, _ => ⟨.bool b, by simp [D.py], by simp [PyData.canLay0], by simp [PyData.depth, dep]⟩
  | .str x, h => ⟨.str x, by simp [D.py], by simpa [PyData.canLay0, layD] using h, by simp [PyData.depth, dep]⟩
  | .tup xs, h => by
    obtain ⟨ps, h1, h2, h3⟩ := pys_lay xs (by simpa [layD] using h)
    exact ⟨.tuple ps, by simp [D.py, h1], by simpa [PyData.canLay0] using h2, by simp [PyData.depth, dep, h3]⟩
  | .lst o xs, h => by
    obtain ⟨ps, h1, h2, h3⟩ := pys_lay xs (by simpa [layD] using h)
    exact ⟨.list ps, by simp [D.py, h1], by simpa [PyData.canLay0] using h2, by simp [PyData.depth, dep, h3]⟩
  | .edic, h => by simp [layD] at h
  | .fn _, h => by simp [layD] at h
  | .cls _, h => by simp [layD] at h
  | .exc _ _, h => by simp [layD] at h
  | .scr _, h => by simp [layD] at h
theorem pys_lay : ∀ ds : List D, layDs ds = true → ∃ ps, D.py.pys ds = some ps ∧ PyData.canLayAll0 ps = true ∧ PyData.depthAll ps = deps ds
  | [], _ => ⟨[], by simp [D.py.pys], by simp [PyData.canLayAll0], by simp [PyData.depthAll, deps]⟩
  | d :: ds, h => by
    have h' := Bool.and_eq_true_iff.mp (by simpa [layDs] using h)
    obtain ⟨p, h1, h2, h3⟩ := py_lay d h'.1
    obtain ⟨ps, g1, g2, g3⟩ := pys_lay ds h'.2
    exact ⟨p :: ps, by simp [D.py.pys, h1, g1], by simp [PyData.canLayAll0, h2, g2], by simp [PyData.depthAll, deps, h3, g3]⟩
end
def shpD (d : D) : Bool := layD d && decide (dep d ≤ 40)
def shpDs (ds : List D) : Bool := layDs ds && decide (deps ds ≤ 40)
theorem eqD_nil {o o' : Bool} {ds : List D} (h : shpDs ds = true) : eqD (.lst o ds) (.lst o' []) = some ds.isEmpty := by
  have h' := Bool.and_eq_true_iff.mp h
  obtain ⟨ps, h1, h2, h3⟩ := pys_lay ds h'.1
  have hd := of_decide_eq_true h'.2
  have e1 : (D.lst o ds).py = some (.list ps) := by simp [D.py, h1]
  have e2 : (D.lst o' []).py = some (.list []) := by simp [D.py, D.py.pys]
  have s1 : SeqAt.shaped (.list ps) = true := by
    simp only [SeqAt.shaped, PyData.canLay0, h2, PyData.depth, h3, Bool.true_and, decide_eq_true_eq]; omega
  have s2 : SeqAt.shaped (.list []) = true := by simp [SeqAt.shaped, PyData.canLay0, PyData.canLayAll0, PyData.depth, PyData.depthAll]
  unfold eqD
  rw [e1, e2]
  simp only [flatD, Bool.false_and, Bool.false_eq_true, if_false, s1, s2, Bool.true_and, if_true]
  cases ds with
  | nil => simp [D.py.pys] at h1; subst h1; simp [PyData.eqv, PyData.eqvAll]
  | cons d ds =>
    cases ps with
    | nil => cases hq : d.py <;> cases hr : D.py.pys ds <;> simp [D.py.pys, hq, hr] at h1
    | cons p ps => simp [PyData.eqv, PyData.eqvAll]
theorem eqD_tii (a b c d : Int) : eqD (.tup [.int a, .int b]) (.tup [.int c, .int d]) = some (a == c && b == d) := by
  simp [eqD, flatD, D.py, D.py.pys, SeqAt.shaped, PyData.canLay0, PyData.canLayAll0, PyData.depth, PyData.depthAll, PyData.eqv, PyData.eqvAll]
theorem c_law_place [Has T "_law_is_place" f_law_is_place] (n : Nat) (v : D) (m : Int) (h : isPy v = true) (hp : v.pure = true) : callN T up0 (n + 1) "_law_is_place" [v, .int m] = some (.ok (.bl (isPlace v m)) .non) := by
  rw [has_run (n := n) (g := f_law_is_place) rfl]
  show outR false (evS (callN T up0 n) up0 f_law_is_place.body [some v, some (.int m)]) = _
  unfold f_law_is_place
  have t1 := isiD_py h [Ty.bool]
  have t2 := isiD_py h [Ty.int]
  cases hv : isInt v with
  | true =>
    cases v <;> first | (cases hv; done) | skip
    rename_i i
    by_cases h1 : 0 ≤ i
    · simp! [t1, t2, hp, isPlace, h1, decide_true, show ([Ty.bool].any fun t => isiT (tyD (.int i)) t) = false from rfl, show ([Ty.int].any fun t => isiT (tyD (.int i)) t) = true from rfl]
    · simp! [t1, t2, hp, isPlace, h1, decide_false, show ([Ty.bool].any fun t => isiT (tyD (.int i)) t) = false from rfl, show ([Ty.int].any fun t => isiT (tyD (.int i)) t) = true from rfl]
  | false =>
    have e : isPlace v m = false := by cases v <;> first | rfl | cases hv
    have t3 := int_is v
    rw [hv, Bool.false_or] at t3
    rw [t3] at t2
    cases hb : ([Ty.bool].any fun t => isiT (tyD v) t) with
    | true => rw [hb] at t1; simp! [t1, hp, e]
    | false => rw [hb] at t1 t2; simp! [t1, t2, hp, e]

theorem shp_ones (ds : List D) : shpDs (ds.map fun _ => D.int 1) = true := by
  have h2 : deps (ds.map fun _ => D.int 1) = 0 := by induction ds with
    | nil => rfl
    | cons a l ih => simp only [List.map_cons, deps, dep, ih]; rfl
  have h1 : layDs (ds.map fun _ => D.int 1) = true := by
    clear h2
    induction ds with
    | nil => rfl
    | cons a l ih => simp only [List.map_cons, layDs, layD, ih]; rfl
  simp only [shpDs, h1, h2]; rfl
theorem it_t {Γ : Gam} {i : Nat} {ρ : VI.Env} {xs : List D} (hp : D.pures xs = true) (hs : slot ρ i = some (.tup xs)) : (ev Γ (.var i)).it ρ = some (.ok (.tup xs) ρ) := by
  simp! [hs, hp, itemsOf]
theorem it_l {Γ : Gam} {i : Nat} {ρ : VI.Env} {xs : List D} (hp : D.pures xs = true) (hs : slot ρ i = some (.lst false xs)) : (ev Γ (.var i)).it ρ = some (.ok (.tup xs) ρ) := by
  simp! [hs, hp, itemsOf]
theorem int_of {d : D} (h : isInt d = true) : ∃ i, d = .int i := by cases d <;> first | (cases h; done) | exact ⟨_, rfl⟩
/-- what the law holds for no whole number -/
theorem not_whole  (n : Nat) (v : D) (ρ : VI.Env) (i : Nat) (h : isPy v = true) (hp : v.pure = true) (hs : slot ρ i = some v) : (ev (callN T up0 n) (.or (.isi (.var i) [.bool]) (.not (.isi (.var i) [.int])))).t ρ = some (.ok (.bl (!isInt v)) ρ) := by
  have t1 := isiD_py h [Ty.bool]
  have t2 := isiD_py h [Ty.int]
  have t3 := int_is v
  have t4 : ([Ty.bool].any fun t => isiT (tyD v) t) = true → isInt v = false := by cases v <;> intro h <;> first | rfl | cases h
  cases hb : ([Ty.bool].any fun t => isiT (tyD v) t) with
  | true => rw [hb] at t1; simp! [hs, t1, hp, t4 hb]
  | false => rw [hb] at t1 t3; rw [Bool.or_false] at t3; rw [t3] at t2; simp! [hs, t1, t2, hp]
theorem low_iff (a b : Int) (h : 0 < b) : (a / ((Nat.gcd a.natAbs b.natAbs : Nat) : Int) = a ∧ b / ((Nat.gcd a.natAbs b.natAbs : Nat) : Int) = b) ↔ Nat.gcd a.natAbs b.natAbs = 1 := by
  constructor
  · rintro ⟨_, h2⟩
    generalize Nat.gcd a.natAbs b.natAbs = g at h2
    by_cases h1 : g ≤ 1
    · have : g ≠ 0 := by intro e; subst e; simp at h2; omega
      omega
    · exfalso
      have := Int.ediv_lt_self_of_pos_of_ne_one (x := b) (y := (g : Int)) h (by omega) 
      omega
  · intro e
    rw [e]; simp
theorem c_law_fraction [Has T "_law_is_fraction" f_law_is_fraction] [Has T "_law_lowest" f_law_lowest] (n : Nat) (v : D) (h : okD v = true) : callN T up0 (n + 2) "_law_is_fraction" [v] = some (.ok (.bl (isFrac v)) .non) := by
  rw [has_run (n := (n + 1)) (g := f_law_is_fraction) rfl]
  show outR false (evS (callN T up0 (n + 1)) up0 f_law_is_fraction.body [some v, none]) = _
  unfold f_law_is_fraction
  have hp := okD_pure v h
  have hpy := okD_py v h
  rcases tup_or v with ⟨xs, rfl⟩ | ⟨t1, t2⟩
  · have hx : okDs xs = true := by simpa [okD] using h
    have hps := okDs_pure xs hx
    by_cases hl : xs.length = 2
    · match xs, hx, hl, hp, hps with
      | [a, b], hx, _, hp, hps =>
        have w := comp_eq (Γ := callN T up0 (n + 1)) (nm := "one") (i := 1) (it := .var 0) (c := .or (.isi (.var 1) [.bool]) (.not (.isi (.var 1) [.int]))) (elt := .int 1) (ρ := [some (.tup [a, b]), none]) (ds := [a, b]) (p := fun d => !isInt d) (g := fun _ => .int 1)
          (it_t hps rfl) hps rfl (small_len (n := 2) (Nat.le_refl _) (by decide))
          (fun d hd => not_whole (T := T) (n + 1) d _ 1 (okD_py d (okDs_mem hx hd)) (okD_pure d (okDs_mem hx hd)) rfl) (fun d hd _ => rfl)
        have e2 : ((([a, b] : List D).length : Int) == 2) = true := rfl
        simp only [okDs, Bool.and_eq_true, Bool.and_true] at hx
        have pa := okD_pure a hx.1
        have pb := okD_pure b hx.2
        have q := eqD_nil (o := true) (o' := true) (shp_ones (List.filter (fun d => !isInt d) [a, b]))
        simp! [isi_tt, eq_ii, pa, pb, e2, w, q]
        cases ha : isInt a with
        | false =>
          have e : isFrac (.tup [a, b]) = false := by cases a <;> first | (cases ha; done) | (cases b <;> rfl)
          have e0 : (List.map (fun _ => D.int 1) (List.filter (fun d => !isInt d) [a, b])).isEmpty = false := by simp [ha]
          simp! [e0, e]
        | true =>
          cases hb : isInt b with
          | false =>
            have e : isFrac (.tup [a, b]) = false := by cases b <;> first | (cases hb; done) | (cases a <;> rfl)
            have e0 : (List.map (fun _ => D.int 1) (List.filter (fun d => !isInt d) [a, b])).isEmpty = false := by simp [ha, hb]
            simp! [e0, e]
          | true =>
            obtain ⟨a, rfl⟩ := int_of ha
            obtain ⟨b, rfl⟩ := int_of hb
            have ba : a.natAbs < 1000000000 := by have := hx.1; simp only [okD, decide_eq_true_eq] at this; omega
            have bb : b.natAbs < 1000000000 := by have := hx.2; simp only [okD, decide_eq_true_eq] at this; omega
            have e0 : (List.map (fun _ => D.int 1) (List.filter (fun d => !isInt d) [D.int a, D.int b])).isEmpty = true := rfl
            simp! [e0, idx_t1 pb, idx_t0 pa]
            by_cases h1 : 0 < b
            · have w := c_lowest (T := T) n a b ba bb h1
              simp! [h1, decide_true, w, eqD_tii, isFrac, D.pure, idx_t1 pb, idx_t0 pa]
              congr 3
              rw [Bool.eq_iff_iff]
              simp only [Bool.and_eq_true, beq_iff_eq]
              exact low_iff a b h1
            · simp! [h1, decide_false, isFrac, idx_t1 pb, idx_t0 pa]
    · have e : (((xs.length : Nat) : Int) == 2) = false := by simp only [beq_eq_false_iff_ne]; omega
      have e3 : isFrac (.tup xs) = false := by
        match xs with
        | [] => rfl
        | [a] => exact isFrac1 a
        | [a, b] => exact absurd rfl hl
        | a :: b :: c :: xs => exact isFrac3 a b c xs
      simp! [isi_tt, eq_ii, hps, e, e3]
  · simp! [hp, isiD_py hpy, t1, t2]

theorem layDs_mem {ds : List D} (h : layDs ds = true) {d : D} (hd : d ∈ ds) : layD d = true := by
  induction ds with
  | nil => cases hd
  | cons a ds ih =>
    have h' := Bool.and_eq_true_iff.mp (by simpa [layDs] using h)
    rcases List.mem_cons.mp hd with e | e
    · rw [e]; exact h'.1
    · exact ih h'.2 e
theorem layDs_of {ds : List D} (h : ∀ d ∈ ds, layD d = true) : layDs ds = true := by
  induction ds with
  | nil => rfl
  | cons a ds ih => rw [layDs, h a (by simp), ih fun d hd => h d (by simp [hd])]; rfl
theorem deps_mem {ds : List D} {d : D} (hd : d ∈ ds) : dep d ≤ deps ds := by
  induction ds with
  | nil => cases hd
  | cons a ds ih =>
    rw [deps]
    rcases List.mem_cons.mp hd with e | e
    · rw [e]; omega
    · have := ih e; omega
theorem deps_of {ds : List D} {n : Nat} (h : ∀ d ∈ ds, dep d ≤ n) : deps ds ≤ n := by
  induction ds with
  | nil => rw [deps]; omega
  | cons a ds ih => rw [deps]; have := h a (by simp); have := ih fun d hd => h d (by simp [hd]); omega
theorem shpDs_filter {ds : List D} (h : shpDs ds = true) (p : D → Bool) : shpDs (ds.filter p) = true := by
  have h' := Bool.and_eq_true_iff.mp h
  have hd := of_decide_eq_true h'.2
  have h1 : layDs (ds.filter p) = true := layDs_of fun d hd => layDs_mem h'.1 (List.mem_filter.mp hd).1
  have h2 : deps (ds.filter p) ≤ 40 := deps_of fun d hm => Nat.le_trans (deps_mem (List.mem_filter.mp hm).1) hd
  simp only [shpDs, h1, h2, decide_true, Bool.and_self]
theorem shpD_lst {o : Bool} {xs : List D} (h : shpD (.lst o xs) = true) : shpDs xs = true := by
  have h' := Bool.and_eq_true_iff.mp h
  have h1 : layDs xs = true := by simpa [layD] using h'.1
  have h2 := of_decide_eq_true h'.2
  rw [dep] at h2
  have h3 : deps xs ≤ 40 := by omega
  simp only [shpDs, h1, h3, decide_true, Bool.and_self]
theorem filter_none {α : Type} (xs : List α) (p : α → Bool) : (xs.filter fun d => !p d).isEmpty = xs.all p := by
  induction xs with
  | nil => rfl
  | cons a l ih => cases h : p a <;> simp [h, ← ih]
theorem c_law_point [Has T "_law_is_fraction" f_law_is_fraction] [Has T "_law_is_point" f_law_is_point] [Has T "_law_lowest" f_law_lowest] (n : Nat) (v : D) (m : Int) (h : okD v = true) (hs : shpD v = true) : callN T up0 (n + 3) "_law_is_point" [.int m, v] = some (.ok (.bl (isPoint m v)) .non) := by
  rw [has_run (n := (n + 2)) (g := f_law_is_point) rfl]
  show outR false (evS (callN T up0 (n + 2)) up0 f_law_is_point.body [some (.int m), some v, none]) = _
  unfold f_law_is_point
  have hp := okD_pure v h
  have hpy := okD_py v h
  rcases lst_or v with ⟨o, xs, rfl⟩ | ⟨t1, t2⟩
  · obtain ⟨rfl, hx⟩ := okD_lst h
    have hps := okDs_pure xs hx
    cases hl : (((xs.length : Nat) : Int) == m) with
    | false => simp! [hp, isi_ll, hps, eq_ii, hl, isPoint]
    | true =>
      have w := comp_eq (Γ := callN T up0 (n + 2)) (nm := "one") (i := 2) (it := .var 1) (c := .not (.call "_law_is_fraction" (.cons (.var 2) .nil))) (elt := .var 2) (ρ := [some (.int m), some (.lst false xs), none]) (ds := xs) (p := fun d => !isFrac d) (g := fun d => d)
        (it_l hps rfl) hps rfl (sz1000 (okD_len h))
        (fun d hd => by simp! [okD_pure d (okDs_mem hx hd), c_law_fraction (T := T) n d (okDs_mem hx hd)]) (fun d hd _ => by simp! [okD_pure d (okDs_mem hx hd)])
      rw [List.map_id'] at w
      have q := eqD_nil (o := true) (o' := true) (shpDs_filter (shpD_lst hs) (fun d => !isFrac d))
      rw [filter_none] at q
      simp! [hp, isi_ll, hps, eq_ii, hl, isPoint, w, q]
  · have e : isPoint m v = false := by cases v <;> first | rfl | exact absurd rfl (t2 _ _)
    simp! [hp, isiD_py hpy, t1, e]

def lawPair : E := .or (.not (.isi (.var 2) [.tuple])) (.or (.cmp .NotEq (.bi .len (.cons (.var 2) .nil)) (.int 2)) (.or (.not (.call "_law_is_place" (.cons (.idx (.var 2) (.int 0)) (.cons (.var 1) .nil)))) (.or (.not (.call "_law_is_fraction" (.cons (.idx (.var 2) (.int 1)) .nil))) (.cmp .Eq (.idx (.idx (.var 2) (.int 1)) (.int 0)) (.int 0)))))
theorem law_pair [Has T "_law_is_fraction" f_law_is_fraction] [Has T "_law_is_place" f_law_is_place] [Has T "_law_lowest" f_law_lowest] (n : Nat) (w v : D) (m : Int) (h : okD v = true) : (ev (callN T up0 (n + 2)) lawPair).t [some w, some (.int m), some v, none, none] = some (.ok (.bl (!isPair v m)) [some w, some (.int m), some v, none, none]) := by
  unfold lawPair
  have hp := okD_pure v h
  have hpy := okD_py v h
  rcases tup_or' v with ⟨xs, rfl⟩ | ⟨t1, t2⟩
  · have hx : okDs xs = true := by simpa [okD] using h
    have hps := okDs_pure xs hx
    by_cases hl : xs.length = 2
    · match xs, hx, hl, hp, hps with
      | [p, q], hx, _, hp, hps =>
        simp only [okDs, Bool.and_eq_true, Bool.and_true] at hx
        have pp := okD_pure p hx.1
        have pq := okD_pure q hx.2
        have e2 : ((([p, q] : List D).length : Int) == 2) = true := rfl
        have c1 := c_law_place (T := T) (n + 1) p m (okD_py p hx.1) pp
        have c2 := c_law_fraction (T := T) n q hx.2
        cases h1 : isPlace p m with
        | false => simp! [isi_tt, eq_ii, pp, pq, e2, idx_t0 pp, idx_t1 pq, c1, h1, isPair]
        | true =>
          cases h2 : isFrac q with
          | false => simp! [isi_tt, eq_ii, pp, pq, e2, idx_t0 pp, idx_t1 pq, c1, h1, isPair, c2, h2]
          | true =>
            obtain ⟨a, b, rfl⟩ := frac_cases h2
            simp! [isi_tt, eq_ii, pp, pq, e2, idx_t0 pp, idx_t1 pq, c1, h1, isPair, c2, h2, nz, idx_t0, D.pure, D.pures]
            have i0 : idxD (.tup [.int a, .int b]) (.int 0) = some (.int a) := rfl
            simp! [i0, eq_ii]
            simp [bne]
    · have e : (((xs.length : Nat) : Int) == 2) = false := by simp only [beq_eq_false_iff_ne]; omega
      have e3 : isPair (.tup xs) m = false := by
        match xs with
        | [] => rfl
        | [a] => rfl
        | [a, b] => exact absurd rfl hl
        | a :: b :: c :: xs => rfl
      simp! [isi_tt, eq_ii, hps, e, e3]
  · have e : isPair v m = false := by cases v <;> first | rfl | exact absurd rfl (t2 _)
    simp! [hp, isiD_py hpy, t1, e]

theorem for_pairs [Has T "_law_is_fraction" f_law_is_fraction] [Has T "_law_is_place" f_law_is_place] [Has T "_law_lowest" f_law_lowest] (n : Nat) (w : D) (m : Int) : ∀ (xs : List D) (x : Option D), okDs xs = true →
    ∃ x', forLoop (.n 2) (evS (callN T up0 (n + 2)) up0 (.seq (.ifs lawPair (.seq (.ret (.bl false)) .nil) .nil) .nil)) xs [some w, some (.int m), x, none, none] =
      if xs.all (isPair · m) then some (.nx [some w, some (.int m), x', none, none]) else some (.rt (.bl false) [some w, some (.int m), x', none, none]) := by
  intro xs
  induction xs with
  | nil => intro x _; exact ⟨x, rfl⟩
  | cons d ds ih =>
    intro x h
    have h' := Bool.and_eq_true_iff.mp (by simpa [okDs] using h)
    have c := law_pair (T := T) n w d m h'.1
    cases hd : isPair d m with
    | true =>
      obtain ⟨x', e⟩ := ih (some d) h'.2
      refine ⟨x', ?_⟩
      rw [forLoop]
      simp! [c, hd, List.all_cons, e]
    | false =>
      refine ⟨some d, ?_⟩
      rw [forLoop]
      simp! [c, hd, List.all_cons]

theorem not_lt_dec (a b : Int) : decide (b ≤ a) = !decide (a < b) := by
  by_cases h : a < b
  · have : ¬ b ≤ a := by omega
    simp [h, this]
  · have : b ≤ a := by omega
    simp [h, this]
theorem shpDs_ints (i j : Int) (p : D → Bool) : shpDs ((rangeD i j).filter p) = true := by
  have h1 : layDs ((rangeD i j).filter p) = true := layDs_of fun d hd => by
    obtain ⟨k, rfl, _, _⟩ := mem_rangeD (List.mem_filter.mp hd).1; rfl
  have h2 : deps ((rangeD i j).filter p) ≤ 40 := deps_of fun d hm => by
    obtain ⟨k, rfl, _, _⟩ := mem_rangeD (List.mem_filter.mp hm).1; rw [dep]; omega; all_goals (intros; contradiction)
  simp only [shpDs, h1, h2, decide_true, Bool.and_self]
theorem law_asc_pairs  (n : Nat) (v : D) (x : Option D) (xs : List D) (m : Int) (hv : v.pure = true) (hi : idxD v (.int 1) = some (.lst false xs)) (hx : okDs xs = true) (h2 : xs.length ≤ 1000) (ha : (xs.all fun d => isPair d m) = true) :
    (ev (callN T up0 n) (.cmp .Eq (.comp [("at", 3)] (.n 3) (.rng2 (.int 1) (.bi .len (.cons (.idx (.var 0) (.int 1)) .nil))) (.cmp .GtE (.idx (.idx (.idx (.var 0) (.int 1)) (.bin .Sub (.var 3) (.int 1))) (.int 0)) (.idx (.idx (.idx (.var 0) (.int 1)) (.var 3)) (.int 0))) (.var 3)) (.lst .nil))).v [some v, some (.int m), x, none, none] = some (.ok (.bl (asc fstOf xs)) [some v, some (.int m), x, none, none]) := by
  have hps := okDs_pure xs hx
  have w := comp_eq (Γ := callN T up0 n) (nm := "at") (i := 3) (it := .rng2 (.int 1) (.bi .len (.cons (.idx (.var 0) (.int 1)) .nil))) (c := .cmp .GtE (.idx (.idx (.idx (.var 0) (.int 1)) (.bin .Sub (.var 3) (.int 1))) (.int 0)) (.idx (.idx (.idx (.var 0) (.int 1)) (.var 3)) (.int 0))) (elt := .var 3) (ρ := [some v, some (.int m), x, none, none]) (ds := rangeD 1 (xs.length : Nat)) (p := fun d => !ltAt fstOf xs d) (g := fun d => d)
    (rng2_eq (ev_int 1) (by simp! [hv, hi, hps]) (small_of (by decide) (by decide)) (small_of (by omega) (by omega))) (pures_range _ _) rfl (by rw [range_len, sizeLine_eq]; omega)
    (fun d hd => by
      obtain ⟨k, rfl, k1, k2⟩ := mem_rangeD hd
      obtain ⟨x, e1, m1⟩ := atI_some (xs := xs) (k := k - 1) (by omega) (by omega)
      obtain ⟨y, e2, m2⟩ := atI_some (xs := xs) (k := k) (by omega) (by omega)
      obtain ⟨a, b, c, rfl⟩ := pair_cases (List.all_eq_true.mp ha x m1)
      obtain ⟨a', b', c', rfl⟩ := pair_cases (List.all_eq_true.mp ha y m2)
      simp! [hv, hi, hps, idx_l e1 rfl, idx_l e2 rfl, idx_ti]
      simp [ltAt, keyOf, e1, e2, fstOf, truth]
      exact not_lt_dec _ _)
    (fun d hd _ => by obtain ⟨k, rfl, k1, k2⟩ := mem_rangeD hd; simp! [])
  rw [List.map_id'] at w
  have q := eqD_nil (o := true) (o' := true) (shpDs_ints 1 (xs.length : Nat) (fun d => !ltAt fstOf xs d))
  rw [filter_none] at q
  simp! [w, q]
  rfl
theorem law_asc_places  (n : Nat) (v : D) (x : Option D) (xs : List D) (m : Int) (hv : v.pure = true) (hi : idxD v (.int 1) = some (.lst false xs)) (hx : okDs xs = true) (h2 : xs.length ≤ 1000) (ha : (xs.all fun d => isPlace d m) = true) :
    (ev (callN T up0 n) (.cmp .Eq (.comp [("at", 3)] (.n 3) (.rng2 (.int 1) (.bi .len (.cons (.idx (.var 0) (.int 1)) .nil))) (.cmp .GtE (.idx (.idx (.var 0) (.int 1)) (.bin .Sub (.var 3) (.int 1))) (.idx (.idx (.var 0) (.int 1)) (.var 3))) (.var 3)) (.lst .nil))).v [some v, some (.int m), x, none, none] = some (.ok (.bl (asc intOf xs)) [some v, some (.int m), x, none, none]) := by
  have hps := okDs_pure xs hx
  have w := comp_eq (Γ := callN T up0 n) (nm := "at") (i := 3) (it := .rng2 (.int 1) (.bi .len (.cons (.idx (.var 0) (.int 1)) .nil))) (c := .cmp .GtE (.idx (.idx (.var 0) (.int 1)) (.bin .Sub (.var 3) (.int 1))) (.idx (.idx (.var 0) (.int 1)) (.var 3))) (elt := .var 3) (ρ := [some v, some (.int m), x, none, none]) (ds := rangeD 1 (xs.length : Nat)) (p := fun d => !ltAt intOf xs d) (g := fun d => d)
    (rng2_eq (ev_int 1) (by simp! [hv, hi, hps]) (small_of (by decide) (by decide)) (small_of (by omega) (by omega))) (pures_range _ _) rfl (by rw [range_len, sizeLine_eq]; omega)
    (fun d hd => by
      obtain ⟨k, rfl, k1, k2⟩ := mem_rangeD hd
      obtain ⟨x, e1, m1⟩ := atI_some (xs := xs) (k := k - 1) (by omega) (by omega)
      obtain ⟨y, e2, m2⟩ := atI_some (xs := xs) (k := k) (by omega) (by omega)
      have px := List.all_eq_true.mp ha x m1
      have py := List.all_eq_true.mp ha y m2
      cases x <;> first | (cases px; done) | skip
      cases y <;> first | (cases py; done) | skip
      simp! [hv, hi, hps, idx_l e1 rfl, idx_l e2 rfl]
      simp [ltAt, keyOf, e1, e2, intOf, truth]
      exact not_lt_dec _ _)
    (fun d hd _ => by obtain ⟨k, rfl, k1, k2⟩ := mem_rangeD hd; simp! [])
  rw [List.map_id'] at w
  have q := eqD_nil (o := true) (o' := true) (shpDs_ints 1 (xs.length : Nat) (fun d => !ltAt intOf xs d))
  rw [filter_none] at q
  simp! [w, q]
  rfl

theorem inl_23 (o : Bool) (k : Int) : inD (.int k) (.lst o [.int 2, .int 3]) = some ((2 == k) || ((3 == k) || false)) := rfl
theorem inl_ss (o : Bool) (s a b : Str) : inD (.str s) (.lst o [.str a, .str b]) = some ((a == s) || ((b == s) || false)) := rfl
/-- places of a list, for the law's node -/
theorem law_places [Has T "_law_is_place" f_law_is_place] (n : Nat) (v : D) (x : Option D) (xs : List D) (m : Int) (hv : v.pure = true) (hi : idxD v (.int 1) = some (.lst false xs)) (hx : okDs xs = true) (hs : shpDs xs = true) (h2 : xs.length ≤ 1000) :
    (ev (callN T up0 (n + 1)) (.cmp .Eq (.comp [("one", 4)] (.n 4) (.idx (.var 0) (.int 1)) (.not (.call "_law_is_place" (.cons (.var 4) (.cons (.var 1) .nil)))) (.var 4)) (.lst .nil))).v [some v, some (.int m), x, none, none] = some (.ok (.bl (xs.all (isPlace · m))) [some v, some (.int m), x, none, none]) := by
  have hps := okDs_pure xs hx
  have w := comp_eq (Γ := callN T up0 (n + 1)) (nm := "one") (i := 4) (it := .idx (.var 0) (.int 1)) (c := .not (.call "_law_is_place" (.cons (.var 4) (.cons (.var 1) .nil)))) (elt := .var 4) (ρ := [some v, some (.int m), x, none, none]) (ds := xs) (p := fun d => !isPlace d m) (g := fun d => d)
    (by simp! [hv, hi, hps, itemsOf]) hps rfl (sz1000 h2)
    (fun d hd => by simp! [okD_pure d (okDs_mem hx hd), c_law_place (T := T) n d m (okD_py d (okDs_mem hx hd)) (okD_pure d (okDs_mem hx hd))]) (fun d hd _ => by simp! [okD_pure d (okDs_mem hx hd)])
  rw [List.map_id'] at w
  have q := eqD_nil (o := true) (o' := true) (shpDs_filter hs (fun d => !isPlace d m))
  rw [filter_none] at q
  simp! [w, q]

theorem shpD_tup {xs : List D} (h : shpD (.tup xs) = true) {d : D} (hd : d ∈ xs) : shpD d = true := by
  have h' := Bool.and_eq_true_iff.mp h
  have h1 : layDs xs = true := by simpa [layD] using h'.1
  have h2 := of_decide_eq_true h'.2
  rw [dep] at h2
  have h3 := deps_mem hd
  have h4 : dep d ≤ 40 := by omega
  simp only [shpD, layDs_mem h1 hd, h4, decide_true, Bool.and_self]
def eP1 : E := (.cmp .Eq (.comp [("one", 4)] (.n 4) (.idx (.var 0) (.int 1)) (.not (.call "_law_is_place" (.cons (.var 4) (.cons (.var 1) .nil)))) (.var 4)) (.lst .nil))
def eP2 : E := (.cmp .Eq (.comp [("at", 3)] (.n 3) (.rng2 (.int 1) (.bi .len (.cons (.idx (.var 0) (.int 1)) .nil))) (.cmp .GtE (.idx (.idx (.var 0) (.int 1)) (.bin .Sub (.var 3) (.int 1))) (.idx (.idx (.var 0) (.int 1)) (.var 3))) (.var 3)) (.lst .nil))
def eP3 : E := (.cmp .Eq (.comp [("at", 3)] (.n 3) (.rng2 (.int 1) (.bi .len (.cons (.idx (.var 0) (.int 1)) .nil))) (.cmp .GtE (.idx (.idx (.idx (.var 0) (.int 1)) (.bin .Sub (.var 3) (.int 1))) (.int 0)) (.idx (.idx (.idx (.var 0) (.int 1)) (.var 3)) (.int 0))) (.var 3)) (.lst .nil))
theorem c_law_node [Has T "_law_is_fraction" f_law_is_fraction] [Has T "_law_is_node" f_law_is_node] [Has T "_law_is_place" f_law_is_place] [Has T "_law_lowest" f_law_lowest] (n : Nat) (v : D) (m : Int) (h : okD v = true) (hs : shpD v = true) : callN T up0 (n + 3) "_law_is_node" [v, .int m] = some (.ok (.bl (isNode v m)) .non) := by
  rw [has_run (n := (n + 2)) (g := f_law_is_node) rfl]
  show outR false (evS (callN T up0 (n + 2)) up0 f_law_is_node.body [some v, some (.int m), none, none, none]) = _
  unfold f_law_is_node
  rw [show (E.cmp .Eq (.comp [("one", 4)] (.n 4) (.idx (.var 0) (.int 1)) (.not (.call "_law_is_place" (.cons (.var 4) (.cons (.var 1) .nil)))) (.var 4)) (.lst .nil)) = eP1 from rfl, show (E.cmp .Eq (.comp [("at", 3)] (.n 3) (.rng2 (.int 1) (.bi .len (.cons (.idx (.var 0) (.int 1)) .nil))) (.cmp .GtE (.idx (.idx (.var 0) (.int 1)) (.bin .Sub (.var 3) (.int 1))) (.idx (.idx (.var 0) (.int 1)) (.var 3))) (.var 3)) (.lst .nil)) = eP2 from rfl, show (E.cmp .Eq (.comp [("at", 3)] (.n 3) (.rng2 (.int 1) (.bi .len (.cons (.idx (.var 0) (.int 1)) .nil))) (.cmp .GtE (.idx (.idx (.idx (.var 0) (.int 1)) (.bin .Sub (.var 3) (.int 1))) (.int 0)) (.idx (.idx (.idx (.var 0) (.int 1)) (.var 3)) (.int 0))) (.var 3)) (.lst .nil)) = eP3 from rfl]
  have hp := okD_pure v h
  have hpy := okD_py v h
  rcases tup_or' v with ⟨xs, rfl⟩ | ⟨t1, t2⟩
  · have hx : okDs xs = true := by simpa [okD] using h
    match xs, hx, hs, hp with
    | [], _, _, _ =>
      have e : (((2 : Int) == (([] : List D).length : Nat)) || ((3 : Int) == (([] : List D).length : Nat))) = false := rfl
      simp! [isi_tt, inl_23, e]; rfl
    | [a], hx, _, _ =>
      simp only [okDs, Bool.and_eq_true, Bool.and_true] at hx
      have pa := okD_pure a hx
      have e : (((2 : Int) == (([a] : List D).length : Nat)) || ((3 : Int) == (([a] : List D).length : Nat))) = false := rfl
      simp! [isi_tt, inl_23, e, pa]
      cases a <;> rfl
    | [a, b], hx, hs, hp =>
      simp only [okDs, Bool.and_eq_true, Bool.and_true] at hx
      have pa := okD_pure a hx.1
      have pb := okD_pure b hx.2
      have sb := shpD_tup hs (d := b) (by simp)
      have e : (((2 : Int) == (([a, b] : List D).length : Nat)) || ((3 : Int) == (([a, b] : List D).length : Nat))) = true := rfl
      have e2 : ((([a, b] : List D).length : Int) == 2) = true := rfl
      have e3 : ((([a, b] : List D).length : Int) == 3) = false := rfl
      rcases str_or a with ⟨s, rfl⟩ | ⟨s1, s2⟩
      · have c1 := c_law_place (T := T) (n + 1) b m (okD_py b hx.2) pb
        simp! [isi_tt, inl_23, e, pb, idx_t0 pa, isi_ss, eq_ss]
        cases k1 : s == Str.ofString "sum" with
        | true => simp! [eq_ii, e3, isNode, k1, pb]
        | false =>
          simp! [idx_t0 pa, eq_ss, pb]
          cases k2 : s == Str.ofString "hinge" with
          | true => simp! [eq_ii, e2, idx_t1 pb, pb, c1, isNode, k1, k2]
          | false =>
            simp! [idx_t0 pa, eq_ss, pb, inl_ss]
            rw [str_comm (Str.ofString "most") s, str_comm (Str.ofString "least") s]
            cases k3 : (s == Str.ofString "most" || s == Str.ofString "least") with
            | false => simp! [isNode, k1, k2, k3]
            | true =>
              rcases lst_or b with ⟨o, xs, rfl⟩ | ⟨u1, u2⟩
              · obtain ⟨rfl, hx2⟩ := okD_lst hx.2
                have i1 : idxD (.tup [.str s, .lst false xs]) (.int 1) = some (.lst false xs) := idx_t1 pb
                have w1 := law_places (T := T) (n + 1) _ none xs m hp i1 hx2 (shpD_lst sb) (okD_len hx.2)
                have w2 := law_asc_places (T := T) (n + 2) _ none xs m hp i1 hx2 (okD_len hx.2)
                rw [show (E.cmp .Eq (.comp [("one", 4)] (.n 4) (.idx (.var 0) (.int 1)) (.not (.call "_law_is_place" (.cons (.var 4) (.cons (.var 1) .nil)))) (.var 4)) (.lst .nil)) = eP1 from rfl] at w1
                rw [show (E.cmp .Eq (.comp [("at", 3)] (.n 3) (.rng2 (.int 1) (.bi .len (.cons (.idx (.var 0) (.int 1)) .nil))) (.cmp .GtE (.idx (.idx (.var 0) (.int 1)) (.bin .Sub (.var 3) (.int 1))) (.idx (.idx (.var 0) (.int 1)) (.var 3))) (.var 3)) (.lst .nil)) = eP2 from rfl] at w2
                have ps2 := okDs_pure xs hx2
                by_cases g1 : 2 ≤ xs.length
                · by_cases g2 : xs.length ≤ 4
                  · cases g3 : xs.all (isPlace · m) with
                    | false => rw [g3] at w1; simp! [eq_ii, e2, i1, pb, ps2, isi_ll, w1, isNode, k1, k2, k3, arePlaces, g1, g2, g3, show (2 : Int) ≤ (xs.length : Nat) from by omega, show ((xs.length : Nat) : Int) ≤ 4 from by omega, decide_true]
                    | true => rw [g3] at w1; simp! [eq_ii, e2, i1, pb, ps2, isi_ll, w1, w2 g3, isNode, k1, k2, k3, arePlaces, g1, g2, g3, show (2 : Int) ≤ (xs.length : Nat) from by omega, show ((xs.length : Nat) : Int) ≤ 4 from by omega, decide_true]
                  · simp! [eq_ii, e2, i1, pb, ps2, isi_ll, isNode, k1, k2, k3, arePlaces, g1, g2, show (2 : Int) ≤ (xs.length : Nat) from by omega, show ¬ ((xs.length : Nat) : Int) ≤ 4 from by omega, decide_true, decide_false]
                · simp! [eq_ii, e2, i1, pb, ps2, isi_ll, isNode, k1, k2, k3, arePlaces, g1, show ¬ (2 : Int) ≤ (xs.length : Nat) from by omega, decide_true, decide_false]
              · have z : arePlaces b m = false := by cases b <;> first | rfl | exact absurd rfl (u2 _ _)
                simp! [eq_ii, e2, idx_t1 pb, pb, isiD_py (okD_py b hx.2), u1, isNode, k1, k2, k3, z]
      · simp! [isi_tt, inl_23, e, pa, pb, idx_t0 pa, isiD_py (okD_py a hx.1), s1, isNode_ns a [b] m s2]
    | [a, b, c], hx, hs, hp =>
      simp only [okDs, Bool.and_eq_true, Bool.and_true] at hx
      have pa := okD_pure a hx.1
      have pb := okD_pure b hx.2.1
      have pc := okD_pure c hx.2.2
      have sb := shpD_tup hs (d := b) (by simp)
      have e : (((2 : Int) == (([a, b, c] : List D).length : Nat)) || ((3 : Int) == (([a, b, c] : List D).length : Nat))) = true := rfl
      have e2 : ((([a, b, c] : List D).length : Int) == 2) = false := rfl
      have e3 : ((([a, b, c] : List D).length : Int) == 3) = true := rfl
      rcases str_or a with ⟨s, rfl⟩ | ⟨s1, s2⟩
      · have c2 := c_law_fraction (T := T) n c hx.2.2
        simp! [isi_tt, inl_23, e, pb, pc, idx_t0 pa, isi_ss, eq_ss]
        cases k1 : s == Str.ofString "sum" with
        | true =>
          rcases lst_or b with ⟨o, xs, rfl⟩ | ⟨u1, u2⟩
          · obtain ⟨rfl, hx2⟩ := okD_lst hx.2.1
            have i1 : idxD (.tup [.str s, .lst false xs, c]) (.int 1) = some (.lst false xs) := idx_t1 pb
            have i2 : idxD (.tup [.str s, .lst false xs, c]) (.int 2) = some c := idx_t2 pc
            have ps2 := okDs_pure xs hx2
            obtain ⟨x', w1⟩ := for_pairs (T := T) n (.tup [.str s, .lst false xs, c]) m xs none hx2
            have w2 := law_asc_pairs (T := T) (n + 2) _ x' xs m hp i1 hx2 (okD_len hx.2.1)
            rw [show (E.cmp .Eq (.comp [("at", 3)] (.n 3) (.rng2 (.int 1) (.bi .len (.cons (.idx (.var 0) (.int 1)) .nil))) (.cmp .GtE (.idx (.idx (.idx (.var 0) (.int 1)) (.bin .Sub (.var 3) (.int 1))) (.int 0)) (.idx (.idx (.idx (.var 0) (.int 1)) (.var 3)) (.int 0))) (.var 3)) (.lst .nil)) = eP3 from rfl] at w2
            unfold lawPair at w1
            cases g2 : isFrac c with
            | false => rw [g2] at c2; simp! [eq_ii, e3, i1, i2, pb, pc, ps2, isi_ll, c2, isNode, k1, g2]
            | true =>
              rw [g2] at c2
              cases g3 : xs.all (isPair · m) with
              | false => rw [g3] at w1; simp! [eq_ii, e3, i1, i2, pb, pc, ps2, isi_ll, c2, isNode, k1, g2, itemsOf, w1, arePairs, g3]
              | true => rw [g3] at w1; simp! [eq_ii, e3, i1, i2, pb, pc, ps2, isi_ll, c2, isNode, k1, g2, itemsOf, w1, w2 g3, arePairs, g3]
          · have z : arePairs b m = false := by cases b <;> first | rfl | exact absurd rfl (u2 _ _)
            simp! [eq_ii, e3, idx_t1 pb, pb, pc, isiD_py (okD_py b hx.2.1), u1, isNode, k1, z]
        | false =>
          simp! [idx_t0 pa, eq_ss, pb, pc]
          cases k2 : s == Str.ofString "hinge" with
          | true => simp! [eq_ii, e2, isNode, k1, k2, pb, pc]
          | false =>
            simp! [idx_t0 pa, eq_ss, pb, pc, inl_ss]
            cases k3 : ((Str.ofString "most" == s) || (Str.ofString "least" == s)) <;> simp! [eq_ii, e2, isNode, k1, pb, pc]
      · simp! [isi_tt, inl_23, e, pa, pb, pc, idx_t0 pa, isiD_py (okD_py a hx.1), s1, isNode_ns a [b, c] m s2]
    | a :: b :: c :: d :: xs, hx, _, _ =>
      have e : (((2 : Int) == ((a :: b :: c :: d :: xs).length : Nat)) || ((3 : Int) == ((a :: b :: c :: d :: xs).length : Nat))) = false := by
        simp only [List.length_cons, Bool.or_eq_false_iff, beq_eq_false_iff_ne]; omega
      have hps := okDs_pure _ hx
      simp only [D.pures, Bool.and_eq_true] at hps
      have z : isNode (.tup (a :: b :: c :: d :: xs)) m = false := by cases a <;> rfl
      simp! [isi_tt, inl_23, hps.1, hps.2.1, hps.2.2.1, hps.2.2.2.1, hps.2.2.2.2, e, z]
  · have e : isNode v m = false := by cases v <;> first | rfl | exact absurd rfl (t2 _)
    simp! [hp, isiD_py hpy, t1, e]

def hdD : D → D
  | .tup (a :: _) => a
  | _ => .non
theorem shpDs_hd (xs : List D) (p : D → Bool) : shpDs (((enumD 0 xs).filter p).map hdD) = true := by
  have h0 : ∀ d ∈ ((enumD 0 xs).filter p).map hdD, ∃ i : Int, d = .int i := fun d hd => by
    obtain ⟨e, he, rfl⟩ := List.mem_map.mp hd
    obtain ⟨i, x, rfl, _, _⟩ := enumD_mem (List.mem_filter.mp he).1
    exact ⟨_, rfl⟩
  have h1 : layDs (((enumD 0 xs).filter p).map hdD) = true := layDs_of fun d hd => by obtain ⟨i, rfl⟩ := h0 d hd; rfl
  have h2 : deps (((enumD 0 xs).filter p).map hdD) ≤ 40 := deps_of fun d hd => by
    obtain ⟨i, rfl⟩ := h0 d hd; rw [dep]; omega; all_goals (intros; contradiction)
  simp only [shpDs, h1, h2, decide_true, Bool.and_self]
theorem law_nodes [Has T "_law_is_fraction" f_law_is_fraction] [Has T "_law_is_node" f_law_is_node] [Has T "_law_is_place" f_law_is_place] [Has T "_law_lowest" f_law_lowest] (n : Nat) (v : D) (xs : List D) (m : Int) (hv : v.pure = true) (i1 : idxD v (.int 1) = some (.int m)) (i2 : idxD v (.int 2) = some (.lst false xs)) (hx : okDs xs = true) (hs : shpDs xs = true) (h2 : xs.length ≤ 1000) :
    (ev (callN T up0 (n + 3)) (.comp [("at", 3), ("node", 4)] (.t (.cons (.n 3) (.cons (.n 4) .nil))) (.enum (.idx (.var 0) (.int 2))) (.not (.call "_law_is_node" (.cons (.var 4) (.cons (.frz (.bin .Add (.idx (.var 0) (.int 1)) (.var 3))) .nil)))) (.var 3))).v [some v, none, none, none, none] = some (.ok (.lst true (((enumD 0 xs).filter fun d => !nodeAt m d).map hdD)) [some v, none, none, none, none]) := by
  have hps := okDs_pure xs hx
  have hs' := Bool.and_eq_true_iff.mp hs
  exact comp2_eq (Γ := callN T up0 (n + 3)) (n1 := "at") (n2 := "node") (i := 3) (j := 4) (ρ := [some v, none, none, none, none]) (ds := enumD 0 xs) (p := fun d => !nodeAt m d) (g := hdD)
    (by simp! [hv, i2, hps, lstOf]) (enumD_pures hps) rfl (by rw [enumD_len]; exact sz1000 h2) fun d hd => by
      obtain ⟨i, x, rfl, hm, hi⟩ := enumD_mem hd
      have hx' := okDs_mem hx hm
      have hd' := of_decide_eq_true hs'.2
      have hdx : dep x ≤ 40 := Nat.le_trans (deps_mem hm) hd'
      have sx : shpD x = true := by simp only [shpD, layDs_mem hs'.1 hm, hdx, decide_true, Bool.and_self]
      refine ⟨_, _, rfl, ?_, fun _ => ?_⟩
      · simp! [hv, i1, okD_pure x hx', c_law_node (T := T) n x (m + (i : Nat)) hx' sx, nodeAt]
      · simp! [hdD]
theorem law_outs [Has T "_law_is_place" f_law_is_place] (n : Nat) (v : D) (x : Option D) (xs : List D) (m : Int) (hv : v.pure = true) (i3 : idxD v (.int 3) = some (.lst false xs)) (hx : okDs xs = true) (h2 : xs.length ≤ 1000) :
    (ev (callN T up0 (n + 1)) (.comp [("one", 2)] (.n 2) (.idx (.var 0) (.int 3)) (.not (.call "_law_is_place" (.cons (.var 2) (.cons (.var 1) .nil)))) (.var 2))).v [some v, some (.int m), none, none, none] = some (.ok (.lst true (xs.filter fun d => !isPlace d m)) [some v, some (.int m), none, none, none]) := by
  have hps := okDs_pure xs hx
  have w := comp_eq (Γ := callN T up0 (n + 1)) (nm := "one") (i := 2) (it := .idx (.var 0) (.int 3)) (c := .not (.call "_law_is_place" (.cons (.var 2) (.cons (.var 1) .nil)))) (elt := .var 2) (ρ := [some v, some (.int m), none, none, none]) (ds := xs) (p := fun d => !isPlace d m) (g := fun d => d)
    (by simp! [hv, i3, hps, itemsOf]) hps rfl (sz1000 h2)
    (fun d hd => by simp! [okD_pure d (okDs_mem hx hd), c_law_place (T := T) n d m (okD_py d (okDs_mem hx hd)) (okD_pure d (okDs_mem hx hd))]) (fun d hd _ => by simp! [okD_pure d (okDs_mem hx hd)])
  rw [List.map_id'] at w
  exact w

theorem isPlace_ni (v : D) (m : Int) (h : isInt v = false) : isPlace v m = false := by cases v <;> first | rfl | cases h
theorem c_law_net [Has T "_law_is_fraction" f_law_is_fraction] [Has T "_law_is_net" f_law_is_net] [Has T "_law_is_node" f_law_is_node] [Has T "_law_is_place" f_law_is_place] [Has T "_law_lowest" f_law_lowest] (n : Nat) (v : D) (h : okD v = true) (hs : shpD v = true) : callN T up0 (n + 4) "_law_is_net" [v] = some (.ok (.bl (isNet v)) .non) := by
  rw [has_run (n := (n + 3)) (g := f_law_is_net) rfl]
  show outR false (evS (callN T up0 (n + 3)) up0 f_law_is_net.body [some v, none, none, none, none]) = _
  unfold f_law_is_net
  have hp := okD_pure v h
  have hpy := okD_py v h
  rcases tup_or' v with ⟨xs, rfl⟩ | ⟨t1, t2⟩
  · have hx : okDs xs = true := by simpa [okD] using h
    by_cases hl : xs.length = 4
    · match xs, hl, hx, hs, hp with
      | [a, b, c, d], _, hx, hs, hp =>
        simp only [okDs, Bool.and_eq_true, Bool.and_true] at hx
        have pa := okD_pure a hx.1
        have pb := okD_pure b hx.2.1
        have pc := okD_pure c hx.2.2.1
        have pd := okD_pure d hx.2.2.2
        have sc := shpD_tup hs (d := c) (by simp)
        have sd := shpD_tup hs (d := d) (by simp)
        have e : ((([a, b, c, d] : List D).length : Int) == 4) = true := rfl
        rcases str_or a with ⟨s, rfl⟩ | ⟨s1, s2⟩
        · have w := c_law_place (T := T) (n + 2) b 5 (okD_py b hx.2.1) pb
          simp! [isi_tt, eq_ii, e, pb, pc, pd, idx_t0 pa, isi_ss, eq_ss]
          cases k1 : s == Str.ofString "net" with
          | false =>
            have z : isNet (.tup [.str s, b, c, d]) = false := by cases b <;> first | rfl | simp [isNet, k1]
            simp! [z]
          | true =>
            simp! [pb, pc, pd, idx_t1 pb, w]
            cases hb : isInt b with
            | false => simp! [isNet_ni (.str s) b c d hb, isPlace_ni b 5 hb]
            | true =>
              obtain ⟨i, rfl⟩ := int_of hb
              have lt5 : isPlace (.int i) 5 = (decide (0 ≤ i) && decide (i < 5)) := rfl
              by_cases j1 : 1 ≤ i
              · by_cases j2 : i ≤ 4
                · have z0 : (i == 0) = false := by simp only [beq_eq_false_iff_ne]; omega
                  simp! [pb, pc, pd, idx_t1 pb, lt5, show (0 : Int) ≤ i from by omega, show i < 5 from by omega, decide_true, eq_ii, z0, idx_t2 pc]
                  rcases lst_or c with ⟨o, ys, rfl⟩ | ⟨u1, u2⟩
                  · obtain ⟨rfl, hy⟩ := okD_lst hx.2.2.1
                    have py := okDs_pure ys hy
                    have w1 := law_nodes (T := T) n _ ys i hp (idx_t1 pb) (idx_t2 pc) hy (shpD_lst sc) (okD_len hx.2.2.1)
                    have q1 := eqD_nil (o := true) (o' := true) (shpDs_hd ys (fun d => !nodeAt i d))
                    have f1 : ((((enumD 0 ys).filter fun d => !nodeAt i d).map hdD).isEmpty) = (enumD 0 ys).all (nodeAt i) := by
                      rw [← filter_none]; cases (List.filter (fun d => !nodeAt i d) (enumD 0 ys)) <;> rfl
                    rw [f1] at q1
                    by_cases l1 : ys.length ≤ 24
                    · have c1 : decide ((24 : Int) < (ys.length : Nat)) = false := by simp; omega
                      simp! [isi_ll, py, c1, w1, q1, pb, pc, pd, idx_t2 pc]
                      cases g1 : (enumD 0 ys).all (nodeAt i) with
                      | false => simp! [isNet, k1, j1, j2, decide_true, areNodes, g1]
                      | true =>
                        simp! [pb, pc, pd, py, idx_t1 pb, idx_t2 pc, idx_t3 pd]
                        rcases lst_or d with ⟨o, zs, rfl⟩ | ⟨u1, u2⟩
                        · obtain ⟨rfl, hz⟩ := okD_lst hx.2.2.2
                          have pz := okDs_pure zs hz
                          have w2 := law_outs (T := T) (n + 2) _ none zs (i + (ys.length : Nat)) hp (idx_t3 pd) hz (okD_len hx.2.2.2)
                          have q2 := eqD_nil (o := true) (o' := true) (shpDs_filter (shpD_lst sd) (fun d => !isPlace d (i + (ys.length : Nat))))
                          rw [filter_none] at q2
                          by_cases g2 : 1 ≤ zs.length
                          · by_cases g3 : zs.length ≤ 4
                            · simp! [isi_ll, pb, pc, py, pd, pz, idx_t3 pd, show (0 : Int) < (zs.length : Nat) from by omega, show ((zs.length : Nat) : Int) < 5 from by omega, decide_true, w2, q2, isNet, k1, j1, j2, areNodes, l1, g1, areOuts, g2, g3, lenL]
                            · simp! [isi_ll, pb, pc, py, pd, pz, idx_t3 pd, show (0 : Int) < (zs.length : Nat) from by omega, show ¬ ((zs.length : Nat) : Int) < 5 from by omega, decide_true, decide_false, isNet, k1, j1, j2, areNodes, l1, g1, areOuts, g2, g3, lenL]
                          · simp! [isi_ll, pb, pc, py, pd, pz, idx_t3 pd, show ¬ (0 : Int) < (zs.length : Nat) from by omega, decide_true, decide_false, isNet, k1, j1, j2, areNodes, l1, g1, areOuts, g2, lenL]
                        · have z : areOuts d (i + lenL (.lst false ys)) = false := by cases d <;> first | rfl | exact absurd rfl (u2 _ _)
                          simp! [isiD_py (okD_py d hx.2.2.2), u1, pb, pc, py, pd, idx_t3 pd, isNet, z]
                    · have c1 : decide ((24 : Int) < (ys.length : Nat)) = true := by simp; omega
                      simp! [isi_ll, py, c1, pb, pc, pd, idx_t2 pc, isNet, k1, j1, j2, decide_true, areNodes, l1, decide_false]
                  · have z : areNodes c i = false := by cases c <;> first | rfl | exact absurd rfl (u2 _ _)
                    simp! [pc, isiD_py (okD_py c hx.2.2.1), u1, isNet, k1, z]
                · simp! [lt5, show ¬ i < 5 from by omega, decide_false, isNet, k1, j2]
              · by_cases j0 : 0 ≤ i
                · have z0 : (i == 0) = true := by simp only [beq_iff_eq]; omega
                  simp! [pb, pc, pd, idx_t1 pb, lt5, j0, show i < 5 from by omega, decide_true, eq_ii, z0, isNet, j1, decide_false]
                · simp! [lt5, j0, decide_false, isNet, j1]
        · simp! [isi_tt, eq_ii, e, pa, pb, pc, pd, idx_t0 pa, isiD_py (okD_py a hx.1), s1, isNet_ns a [b, c, d] s2]
    · have e : (((xs.length : Nat) : Int) == 4) = false := by simp only [beq_eq_false_iff_ne]; omega
      have z : isNet (.tup xs) = false := by
        match xs, hl with
        | [], _ => rfl
        | [a], _ => cases a <;> rfl
        | [a, b], _ => cases a <;> first | rfl | (cases b <;> rfl)
        | [a, b, c], _ => cases a <;> first | rfl | (cases b <;> rfl)
        | [a, b, c, d], hl => exact absurd rfl hl
        | a :: b :: c :: d :: f :: r, _ => cases a <;> first | rfl | (cases b <;> rfl)
      have hps := okDs_pure xs hx
      simp! [isi_tt, eq_ii, hps, e, z]
  · have e : isNet v = false := by cases v <;> first | rfl | exact absurd rfl (t2 _)
    simp! [hp, isiD_py hpy, t1, e]

end

set_option maxHeartbeats 4000000
set_option synthInstance.maxSize 128
set_option synthInstance.maxHeartbeats 20000
section
variable {T : Tab}
theorem fr_lowest {a b : Int} (hb : 0 < b) : fr (Rat.divInt a b) = .tup [.int (a / ((Nat.gcd a.natAbs b.natAbs : Nat) : Int)), .int (b / ((Nat.gcd a.natAbs b.natAbs : Nat) : Int))] := by
  have e1 : (Rat.divInt a b).num = a / ((Nat.gcd a.natAbs b.natAbs : Nat) : Int) := by
    rw [Rat.num_divInt, Int.sign_eq_one_of_pos hb, Int.one_mul, Int.gcd_comm]; rfl
  have e2 : (((Rat.divInt a b).den : Nat) : Int) = b / ((Nat.gcd a.natAbs b.natAbs : Nat) : Int) := by
    rw [Rat.den_divInt, if_neg (by omega), Int.gcd_comm]
    show ((b.natAbs / Nat.gcd a.natAbs b.natAbs : Nat) : Int) = _
    rw [Int.natCast_ediv, Int.natAbs_of_nonneg (by omega)]
  unfold fr
  rw [e1, e2]
theorem fr_lowest' {a b : Int} (hb : b < 0) : fr (Rat.divInt a b) = .tup [.int (0 - a / ((Nat.gcd a.natAbs b.natAbs : Nat) : Int)), .int (0 - b / ((Nat.gcd a.natAbs b.natAbs : Nat) : Int))] := by
  have h := fr_lowest (a := -a) (b := -b) (by omega)
  rw [Rat.neg_divInt_neg, Int.natAbs_neg, Int.natAbs_neg] at h
  rw [h]
  have d1 : ((Nat.gcd a.natAbs b.natAbs : Nat) : Int) ∣ a := Int.ofNat_dvd_left.mpr (Nat.gcd_dvd_left _ _)
  have d2 : ((Nat.gcd a.natAbs b.natAbs : Nat) : Int) ∣ b := Int.ofNat_dvd_left.mpr (Nat.gcd_dvd_right _ _)
  rw [Int.neg_ediv_of_dvd d1, Int.neg_ediv_of_dvd d2, Int.zero_sub, Int.zero_sub]
theorem mod_nat (x y : Nat) : ((x : Int) - (x : Int) / (y : Int) * (y : Int)) = ((x % y : Nat) : Int) := by
  rw [Int.mul_comm, Int.natCast_emod, Int.emod_def]
theorem c_llowest [Has T "_law_lowest" f_law_lowest] {n : Nat} (hn : 1 ≤ n) {a b : Int} (ha : Bd 8000 a) (hb : Bd 8000 b) (h0 : b ≠ 0) : callN T up0 n "_law_lowest" [.int a, .int b] = some (.ok (fr (Rat.divInt a b)) .non) := by
  refine WC.eq ?_
  (refine w_fn (by omega) rfl ?_; simp only [f_law_lowest, List.map_cons, List.map_nil, List.length_cons, List.length_nil, Nat.reduceAdd, Nat.reduceSub, List.reduceReplicate, List.cons_append, List.nil_append, List.append_nil, List.replicate_zero])
  bv_omega
  rw [abs_nat, abs_nat]
  refine ws_whl (w_while (m := 16001) (fun m ρ => ∃ x y : Nat, ρ = [some (.int a), some (.int b), some (.int x), some (.int y)] ∧ gcdI (Nat.gcd a.natAbs b.natAbs) m x y ∧ x < 2 ^ 8000 ∧ y < 2 ^ 8000) (by decide) ⟨_, _, rfl, gcdI.start ha hb, ha, hb⟩ ?_)
  rintro m ρ ⟨x, y, rfl, hg, hx, hy⟩
  bv_omega
  refine wI.dec (fun h => ?_) (fun h => ?_)
  · have h' : 0 < y := by omega
    have bx : Bd 8000 (x : Int) := hx
    have by' : Bd 8000 (y : Int) := hy
    bv_omega
    refine wo_fdiv h (by'.div_ok (by decide)) ?_; bv_omega
    have bq : Bd 8000 ((x : Int) / (y : Int)) := by
      unfold Bd
      rw [← Int.natCast_ediv, Int.natAbs_natCast]
      exact Nat.lt_of_le_of_lt (Nat.div_le_self _ _) hx
    refine wo_mul (bq.mul_ok by' (by decide)) ?_; bv_omega
    obtain ⟨m', h1, h2⟩ := hg.step h'
    refine ⟨m', h1, y, x % y, by rw [mod_nat], h2, hy, Nat.lt_of_le_of_lt (Nat.mod_le _ _) hx⟩
  · have h' : y = 0 := by omega
    subst h'
    have e : x = Nat.gcd a.natAbs b.natAbs := by rw [← hg.1, Nat.gcd_zero_right]
    have x0 : 0 < x := by
      rw [e]; exact Nat.gcd_pos_of_pos_right _ (by omega)
    have bx : Bd 8000 (x : Int) := hx
    bv_omega
    refine wI.dec (fun h1 => ?_) (fun h1 => ?_)
    · bv_omega
      refine wo_fdiv (by omega) (bx.div_ok (by decide)) ?_; bv_omega
      refine wo_fdiv (by omega) (bx.div_ok (by decide)) ?_; bv_omega
      exact ⟨by rw [fr_lowest h1, e], rfl⟩
    · bv_omega
      refine wo_fdiv (by omega) (bx.div_ok (by decide)) ?_; bv_omega
      refine wo_fdiv (by omega) (bx.div_ok (by decide)) ?_; bv_omega
      exact ⟨by rw [fr_lowest' (by omega), e], rfl⟩
theorem pures_mem {xs : List D} (h : D.pures xs = true) {d : D} (hd : d ∈ xs) : d.pure = true := by
  induction xs with
  | nil => cases hd
  | cons a xs ih =>
    rw [D.pures, Bool.and_eq_true] at h
    rcases List.mem_cons.mp hd with e | e
    · rw [e]; exact h.1
    · exact ih h.2 e
theorem pures_of {xs : List D} (h : ∀ d ∈ xs, d.pure = true) : D.pures xs = true := by
  induction xs with
  | nil => rfl
  | cons a xs ih => rw [D.pures, h a List.mem_cons_self, ih fun d hd => h d (List.mem_cons_of_mem _ hd)]; rfl
theorem shpDs_of {xs : List D} (h : ∀ d ∈ xs, shpD d = true) : shpDs xs = true := by
  have h1 : layDs xs = true := by
    induction xs with
    | nil => rfl
    | cons a xs ih =>
      have := Bool.and_eq_true_iff.mp (h a List.mem_cons_self)
      rw [layDs, this.1, ih fun d hd => h d (List.mem_cons_of_mem _ hd)]; rfl
  have h2 : deps xs ≤ 40 := by
    clear h1
    induction xs with
    | nil => exact Nat.zero_le _
    | cons a xs ih =>
      have := of_decide_eq_true (Bool.and_eq_true_iff.mp (h a List.mem_cons_self)).2
      have := ih fun d hd => h d (List.mem_cons_of_mem _ hd)
      rw [deps]; omega
  unfold shpDs
  rw [h1, decide_eq_true h2]; rfl
theorem wo_ne_nil {o o' : Bool} {ds : List D} {k : Bool → Prop} (h : shpDs ds = true) (h2 : k (!ds.isEmpty)) : WO (cmpD .NotEq (.lst o ds) (.lst o' [])) k :=
  WO.mk (show (eqD _ _).map (!·) = _ by rw [eqD_nil h]; rfl) h2
theorem wo_eq_nil {o o' : Bool} {ds : List D} {k : Bool → Prop} (h : shpDs ds = true) (h2 : k ds.isEmpty) : WO (cmpD .Eq (.lst o ds) (.lst o' [])) k :=
  WO.mk (show (eqD _ _) = _ by rw [eqD_nil h]) h2
theorem perm_erase {α : Type} {xs : List α} {i : Nat} (h : i < xs.length) : (xs[i] :: xs.eraseIdx i).Perm xs := by
  induction xs generalizing i with
  | nil => simp at h
  | cons a xs ih =>
    cases i with
    | zero => exact .refl _
    | succ i =>
      rw [List.eraseIdx_cons_succ, List.getElem_cons_succ]
      exact (List.Perm.swap _ _ _).trans ((ih (by simpa using h)).cons a)
theorem wPop.mk {xs : List D} {n : Int} {k : D → List D → Prop} [hp : Pus xs] (h0 : 0 ≤ n) (h1 : n < xs.length) (h2 : xs.length ≤ 1000000) (h : ∀ d ys, (d :: ys).Perm xs → k d ys) : wPop xs n k := by
  have hl : n.toNat < xs.length := by omega
  refine ⟨hp.pus, n.toNat, xs[n.toNat], small_of (by omega) (by omega), ?_, by simp [hl], h _ _ (perm_erase hl)⟩
  unfold seqIndex?
  simp only [show ¬ n < 0 by omega, if_false]
  rw [if_pos (by simp; omega)]
/-- a list drawn from -/
theorem c_pick [Has T "_law_hash" f_law_hash] [Has T "_law_pick" f_law_pick] [Has T "_law_random" f_law_random] {n : Nat} (hn : 3 ≤ n) {m : Nat} {g : Gn} (hg : g.ok (m + 1)) {xs : List D} (hx : D.pures xs = true) (h0 : 0 < xs.length) (h1 : xs.length < 536870912) :
    Draws (callN T up0 n "_law_pick" [g.d, .lst false xs]) m (fun d => d ∈ xs) := by
  haveI : Pus xs := ⟨hx⟩
  (refine w_fn (by omega) rfl ?_; simp only [f_law_pick, List.map_cons, List.map_nil, List.length_cons, List.length_nil, Nat.reduceAdd, Nat.reduceSub, List.reduceReplicate, List.cons_append, List.nil_append, List.append_nil, List.replicate_zero])
  bv_omega
  refine (c_random (T := T) (by omega) hg (by omega) (by omega)).use ?_
  rintro _ g1 ⟨r, rfl, r0, r1⟩ hg1
  bv_omega
  obtain ⟨x, e, hm⟩ := atI_some (xs := xs) (k := r) r0 r1
  refine WO.mk (idx_l e (pures_mem hx hm)) ?_
  bv_omega
  exact ⟨hm, g1, rfl, hg1⟩
theorem c_order [Has T "_law_drawn_order" f_law_drawn_order] [Has T "_law_hash" f_law_hash] [Has T "_law_random" f_law_random] {n : Nat} (hn : 3 ≤ n) {m : Nat} {g : Gn} {ds : List D} (hg : g.ok (m + ds.length)) (hp : D.pures ds = true) (hs : ∀ d ∈ ds, shpD d = true) (hl : ds.length ≤ 1000000) :
    Draws (callN T up0 n "_law_drawn_order" [g.d, .lst false ds]) m (fun d => ∃ xs, d = .lst false xs ∧ xs.Perm ds) := by
  haveI : Pus ds := ⟨hp⟩
  (refine w_fn (by omega) rfl ?_; simp only [f_law_drawn_order, List.map_cons, List.map_nil, List.length_cons, List.length_nil, Nat.reduceAdd, Nat.reduceSub, List.reduceReplicate, List.cons_append, List.nil_append, List.append_nil, List.replicate_zero])
  bv_omega
  refine ws_whl (w_while (m := ds.length) (fun j ρ => ∃ left found, ∃ g1 : Gn, ρ = [some g1.d, some (.lst false ds), some (.lst true left), some (.lst true found)] ∧ (found ++ left).Perm ds ∧ left.length = j ∧ g1.ok (m + j)) (by unfold fuel0; omega) ⟨ds, [], g, rfl, .refl _, rfl, hg⟩ ?_)
  rintro j ρ ⟨left, found, g1, rfl, hq, hj, hg1⟩
  have hmem : ∀ d ∈ found ++ left, d ∈ ds := fun d hd => hq.mem_iff.mp hd
  have hll : found.length + left.length = ds.length := by rw [← hq.length_eq, List.length_append]
  haveI : Pus left := ⟨pures_of fun d hd => pures_mem hp (hmem d (List.mem_append_right _ hd))⟩
  haveI : Pus found := ⟨pures_of fun d hd => pures_mem hp (hmem d (List.mem_append_left _ hd))⟩
  bv_omega
  refine wo_ne_nil (shpDs_of fun d hd => hs d (hmem d (List.mem_append_right _ hd))) ?_
  bv_omega
  cases left with
  | nil =>
    bv_omega
    exact ⟨⟨found, rfl, by simpa using hq⟩, g1, rfl, hg1.mono (by omega)⟩
  | cons x0 left =>
    bv_omega
    simp only [List.length_cons] at hj hll
    refine (c_random (T := T) (by omega) (m := m + left.length) (by subst hj; exact hg1) (k := ((x0 :: left).length : Nat)) (by rw [List.length_cons]; omega) (by rw [List.length_cons]; omega)).use ?_
    rintro _ g2 ⟨r, rfl, r0, r1⟩ hg2
    bv_omega
    refine wPop.mk r0 r1 (by simp; omega) fun d ys hd => ?_
    have hdp : d.pure = true := pures_mem hp (hmem d (List.mem_append_right _ (hd.mem_iff.mp List.mem_cons_self)))
    bv_omega
    have hy : ys.length = left.length := by have := hd.length_eq; simpa using this
    refine wLt.mk (by omega) ?_
    bv_omega
    refine ⟨left.length, by omega, ys, found ++ [d], g2, rfl, ?_, hy, hg2⟩
    rw [List.append_assoc]
    exact (hd.append_left found).trans hq

/-! places, nodes, nets -/
theorem cut_take {α : Type} (xs : List α) {c : Int} (h : 0 ≤ c) : cut xs none (some c) = xs.take c.toNat := by
  show (xs.drop 0).take (HT.sIx xs.length xs.length (some c) - 0) = _
  show (xs.drop 0).take ((if c < 0 then (c + (xs.length : Nat)).toNat else min c.toNat xs.length) - 0) = _
  rw [if_neg (by omega), List.drop_zero, Nat.sub_zero]
  by_cases h2 : c.toNat ≤ xs.length
  · rw [Nat.min_eq_left h2]
  · rw [Nat.min_eq_right (by omega), List.take_of_length_le (by omega), List.take_of_length_le (by omega)]
theorem sortI_strict {xs : List Int} (h : xs.Nodup) : (sortI xs).Pairwise (· < ·) := by
  have h1 := sortI_sorted xs
  have h2 : (sortI xs).Nodup := (sortI_perm xs).nodup_iff.mpr h
  exact (h1.and h2).imp fun ⟨a, b⟩ => by omega
theorem intsOf_map (xs : List Int) : intsOf (xs.map .int) = some xs := by
  induction xs with
  | nil => rfl
  | cons i r ih => show (intsOf (r.map .int)).map (i :: ·) = _; rw [ih]; rfl
abbrev pl (p : Nat) : D := .int (p : Nat)
instance (p : Nat) : Pu (pl p) := ⟨rfl⟩
theorem rangeD_pl (j : Int) : rangeD 0 j = (List.range j.toNat).map pl := by
  unfold rangeD
  rw [Int.sub_zero]
  exact List.map_congr_left fun k _ => by show D.int (0 + (k : Nat)) = D.int (k : Nat); rw [Int.zero_add]
def unpl : D → Nat
  | .int i => i.toNat
  | _ => 0
theorem unpl_map (ps : List Nat) : (ps.map pl).map unpl = ps := by
  rw [List.map_map]
  have : (unpl ∘ pl) = id := by funext p; show (p : Int).toNat = p; omega
  rw [this, List.map_id]
theorem perm_pl {xs : List D} {ps : List Nat} (h : xs.Perm (ps.map pl)) : ∃ qs : List Nat, xs = qs.map pl ∧ qs.Perm ps := by
  refine ⟨xs.map unpl, ?_, ?_⟩
  · rw [List.map_map]
    have e : xs.map (pl ∘ unpl) = xs.map id := List.map_congr_left fun x hx => by
      obtain ⟨p, _, rfl⟩ := List.mem_map.mp (h.mem_iff.mp hx)
      show pl ((p : Int).toNat) = pl p
      rw [Int.toNat_natCast]
    rw [e, List.map_id]
  · have := h.map unpl
    rw [unpl_map] at this
    exact this
theorem sorted_pl (qs : List Nat) (hn : qs.Nodup) : ∃ ps : List Nat, (sortI (qs.map fun (p : Nat) => (p : Int))).map D.int = ps.map pl ∧ ps.Perm qs ∧ ps.Pairwise (· < ·) := by
  have hp := sortI_perm (qs.map fun (p : Nat) => (p : Int))
  have hs : (sortI (qs.map fun (p : Nat) => (p : Int))).Pairwise (· < ·) := by
    refine sortI_strict ?_
    rw [List.nodup_iff_pairwise_ne, List.pairwise_map]
    exact (List.nodup_iff_pairwise_ne.mp hn).imp fun h => by omega
  have hq : (sortI (qs.map fun (p : Nat) => (p : Int))).map Int.toNat |>.Perm qs := by
    have := hp.map Int.toNat
    rw [List.map_map] at this
    have e : (Int.toNat ∘ fun (p : Nat) => (p : Int)) = id := by funext p; show ((p : Int)).toNat = p; omega
    rwa [e, List.map_id] at this
  have hm : ∀ i ∈ sortI (qs.map fun (p : Nat) => (p : Int)), 0 ≤ i := fun i hi => by
    obtain ⟨p, _, rfl⟩ := List.mem_map.mp (hp.mem_iff.mp hi)
    omega
  refine ⟨(sortI (qs.map fun (p : Nat) => (p : Int))).map Int.toNat, ?_, hq, ?_⟩
  · rw [List.map_map]
    exact List.map_congr_left fun i hi => by show D.int i = D.int ((i.toNat : Nat) : Int); rw [Int.toNat_of_nonneg (hm i hi)]
  · rw [List.pairwise_map]
    refine hs.imp_of_mem fun {a b} ha hb h => ?_
    have := hm a ha
    have := hm b hb
    omega
theorem wb_sorted {o : Bool} {ns : List Int} {k : D → Prop} (h : k (.lst true ((sortI ns).map .int))) : WO (biD .sorted [.lst o (ns.map .int)]) k := by
  show WO ((intsOf (ns.map .int)).map _) k
  rw [intsOf_map]; exact h
theorem c_places [Has T "_law_drawn_order" f_law_drawn_order] [Has T "_law_hash" f_law_hash] [Has T "_law_random" f_law_random] [Has T "_law_some_places" f_law_some_places] {n : Nat} (hn : 4 ≤ n) {m : Nat} {g : Gn} {many count : Nat} (hg : g.ok (m + many)) (hl : many ≤ 1000) (hc : count ≤ 1000000) :
    Draws (callN T up0 n "_law_some_places" [g.d, .int (many : Nat), .int (count : Nat)]) m (fun d => ∃ ps : List Nat, d = .lst false (ps.map pl) ∧ ps.Pairwise (· < ·) ∧ (∀ p ∈ ps, p < many) ∧ ps.length = min count many) := by
  (refine w_fn (by omega) rfl ?_; simp only [f_law_some_places, List.map_cons, List.map_nil, List.length_cons, List.length_nil, Nat.reduceAdd, Nat.reduceSub, List.reduceReplicate, List.cons_append, List.nil_append, List.append_nil, List.replicate_zero])
  bv_omega
  refine (c_order (T := T) (by omega) (m := m) (by rw [rangeD_len]; simpa using hg) (pures_rangeD _ _) (fun d hd => ?_) (by rw [rangeD_len]; omega)).use ?_
  · obtain ⟨k, rfl, _⟩ := mem_rangeD hd; rfl
  rintro _ g1 ⟨xs, rfl, hx⟩ hg1
  rw [rangeD_pl, Int.toNat_natCast] at hx
  obtain ⟨qs, rfl, hq⟩ := perm_pl hx
  bv_omega
  rw [cut_take _ (by omega), Int.toNat_natCast, ← List.map_take]
  have e : (qs.take count).map pl = ((qs.take count).map fun (p : Nat) => (p : Int)).map .int := by rw [List.map_map]; rfl
  rw [e]
  refine wb_sorted ?_
  have hnd : (qs.take count).Nodup := (hq.nodup_iff.mpr List.nodup_range).sublist (List.take_sublist _ _)
  obtain ⟨ps, e1, e2, e3⟩ := sorted_pl _ hnd
  rw [e1]
  bv_omega
  refine ⟨⟨ps, rfl, e3, fun p hp => ?_, ?_⟩, g1, rfl, hg1⟩
  · exact List.mem_range.mp (hq.mem_iff.mp (List.mem_of_mem_take (e2.mem_iff.mp hp)))
  · rw [e2.length_eq, List.length_take, hq.length_eq, List.length_range]
end

set_option maxHeartbeats 4000000
set_option synthInstance.maxSize 128
set_option synthInstance.maxHeartbeats 20000
/-! nets, told by places and weights -/
abbrev pr (x : Nat × Rat) : D := .tup [pl x.1, fr x.2]
inductive Nd where
  | sum (ps : List (Nat × Rat)) (c : Rat)
  | hinge (p : Nat)
  | ext (g : Bool) (ps : List Nat)
abbrev wMost (g : Bool) : Str := if g then Str.ofString "most" else Str.ofString "least"
@[reducible] def Nd.enc : Nd → D
  | .sum ps c => .tup [.str (Str.ofString "sum"), .lst false (ps.map pr), fr c]
  | .hinge p => .tup [.str (Str.ofString "hinge"), pl p]
  | .ext g ps => .tup [.str (wMost g), .lst false (ps.map pl)]
structure Net where
  ins : Nat
  nodes : List Nd
  outs : List Nat
abbrev Net.enc (N : Net) : D := .tup [.str (Str.ofString "net"), .int (N.ins : Nat), .lst false (N.nodes.map Nd.enc), .lst false (N.outs.map pl)]
instance (q : Rat) : Pu (fr q) := inferInstance
instance (x : Nat × Rat) : Pu (pr x) := inferInstance
instance (n : Nd) : Pu n.enc := by cases n <;> (unfold Nd.enc; infer_instance)
instance (N : Net) : Pu N.enc := inferInstance
def Nd.wf (many : Nat) : Nd → Prop
  | .sum ps _ => ps.Pairwise (fun x y => x.1 < y.1) ∧ ∀ x ∈ ps, x.1 < many ∧ x.2 ≠ 0
  | .hinge p => p < many
  | .ext _ ps => 2 ≤ ps.length ∧ ps.length ≤ 4 ∧ ps.Pairwise (· < ·) ∧ ∀ p ∈ ps, p < many
structure Net.wf (N : Net) : Prop where
  i1 : 1 ≤ N.ins
  i4 : N.ins ≤ 4
  n24 : N.nodes.length ≤ 24
  node : ∀ (i : Nat) (n : Nd), N.nodes[i]? = some n → n.wf (N.ins + i)
  o1 : 1 ≤ N.outs.length
  o4 : N.outs.length ≤ 4
  out : ∀ o ∈ N.outs, o < N.ins + N.nodes.length
/-- small fractions -/
def Fs (b : Nat) (q : Rat) : Prop := q.num.natAbs ≤ b ∧ q.den ≤ 3
def Nd.sm (b : Nat) : Nd → Prop
  | .sum ps c => ps.length ≤ 3 ∧ (∀ x ∈ ps, Fs b x.2) ∧ Fs b c
  | _ => True
def Nd.bend : Nd → Bool
  | .sum _ _ => false
  | _ => true
theorem divInt_num {a b : Int} (hb : 0 < b) : (Rat.divInt a b).num.natAbs ≤ a.natAbs ∧ (Rat.divInt a b).den ≤ b.natAbs := by
  rw [Rat.num_divInt, Rat.den_divInt, if_neg (by omega), Int.sign_eq_one_of_pos hb, Int.one_mul]
  have hg : 0 < b.gcd a := Int.gcd_pos_of_ne_zero_left _ (by omega)
  refine ⟨?_, Nat.div_le_self _ _⟩
  rw [Int.natAbs_ediv_of_dvd (Int.gcd_dvd_right _ _)]
  exact Nat.div_le_self _ _
section
variable {T : Tab}
theorem c_frac [Has T "_law_fraction" f_law_fraction] [Has T "_law_hash" f_law_hash] [Has T "_law_lowest" f_law_lowest] [Has T "_law_random" f_law_random] {n : Nat} (hn : 3 ≤ n) {m : Nat} {g : Gn} (hg : g.ok (m + 3)) {most : Nat} (hm : most ≤ 100000) :
    Draws (callN T up0 n "_law_fraction" [g.d, .int (most : Nat)]) m (fun d => ∃ q : Rat, d = fr q ∧ Fs most q) := by
  (refine w_fn (by omega) rfl ?_; simp only [f_law_fraction, List.map_cons, List.map_nil, List.length_cons, List.length_nil, Nat.reduceAdd, Nat.reduceSub, List.reduceReplicate, List.cons_append, List.nil_append, List.append_nil, List.replicate_zero])
  bv_omega
  refine wo_mul (by have := log2_lt' (b := 20) (x := ((most : Nat) : Int).natAbs) (by omega); have : (2 : Int).natAbs.log2 = 1 := by decide
                    omega) ?_
  bv_omega
  refine (c_random (T := T) (by omega) (m := m + 2) hg (by omega) (by omega)).use ?_
  rintro _ g1 ⟨r, rfl, r0, r1⟩ hg1
  bv_omega
  refine (c_random (T := T) (by omega) (m := m + 1) hg1 (by omega) (by omega)).use ?_
  rintro _ g2 ⟨r2, rfl, r20, r21⟩ hg2
  bv_omega
  refine (c_random (T := T) (by omega) (m := m) hg2 (by omega) (by omega)).use ?_
  rintro _ g3 ⟨r3, rfl, r30, r31⟩ hg3
  bv_omega
  have h2 : r2 = 0 ∨ r2 = 1 ∨ r2 = 2 := by omega
  have h3 : r3 = 0 ∨ r3 = 1 := by omega
  have b1 : 1 ≤ 1 + r2 * r3 ∧ 1 + r2 * r3 ≤ 3 := by rcases h2 with h | h | h <;> rcases h3 with h' | h' <;> subst h h' <;> decide
  refine wo_mul (by rcases h2 with h | h | h <;> rcases h3 with h' | h' <;> subst h h' <;> decide) ?_
  bv_omega
  refine WC.ok (c_llowest (T := T) (by omega) (Bd.of_lt (m := 2 ^ 20) (by omega) (Nat.pow_lt_pow_right (by decide) (by decide))) (Bd.of_lt (m := 2 ^ 20) (by omega) (Nat.pow_lt_pow_right (by decide) (by decide))) (by omega)) ?_
  bv_omega
  obtain ⟨z1, z2⟩ := divInt_num (a := r - (most : Nat)) (b := 1 + r2 * r3) (by omega)
  exact ⟨⟨_, rfl, by omega, by omega⟩, g3, rfl, hg3⟩

theorem c_sum_node [Has T "_law_drawn_order" f_law_drawn_order] [Has T "_law_fraction" f_law_fraction] [Has T "_law_hash" f_law_hash] [Has T "_law_lowest" f_law_lowest] [Has T "_law_random" f_law_random] [Has T "_law_some_places" f_law_some_places] [Has T "_law_sum_node" f_law_sum_node] {n : Nat} (hn : 5 ≤ n) {m : Nat} {g : Gn} {many : Nat} (h0 : 1 ≤ many) (h1 : many ≤ 50) (hg : g.ok (m + many + 20)) :
    Draws (callN T up0 n "_law_sum_node" [g.d, .int (many : Nat)]) m (fun d => ∃ nd : Nd, d = nd.enc ∧ nd.wf many ∧ nd.sm 3 ∧ nd.bend = false) := by
  (refine w_fn (by omega) rfl ?_; simp only [f_law_sum_node, List.map_cons, List.map_nil, List.length_cons, List.length_nil, Nat.reduceAdd, Nat.reduceSub, List.reduceReplicate, List.cons_append, List.nil_append, List.append_nil, List.replicate_zero])
  bv_omega
  refine (c_random (T := T) (by omega) (m := m + many + 19) hg (by split <;> omega) (by split <;> omega)).use ?_
  rintro _ g1 ⟨r, rfl, r0, r1⟩ hg1
  bv_omega
  obtain ⟨r, rfl⟩ : ∃ r' : Nat, r = r' := ⟨r.toNat, by omega⟩
  rw [show (1 : Int) + (r : Nat) = ((1 + r : Nat) : Int) by omega]
  refine (c_places (T := T) (by omega) (m := m + 19) (hg1.mono (by omega)) (by omega) (by split at r1 <;> omega)).use ?_
  rintro _ g2 ⟨ps, rfl, q1, q2, q3⟩ hg2
  have q4 : ps.length ≤ 3 := by rw [q3]; split at r1 <;> omega
  bv_omega
  refine ⟨pures_map fun _ _ => rfl, ?_⟩
  refine w_forl (fun a r ρ => ∃ prs : List (Nat × Rat), ∃ g3 : Gn, ∃ t3 t4, ρ = [some g3.d, some (.int (many : Nat)), some (.lst false (prs.map pr)), t3, t4] ∧ g3.ok (m + 3 + 3 * r.length) ∧ prs.Pairwise (fun x y => x.1 < y.1) ∧ (∀ x ∈ prs, x.1 ∈ a ∧ x.2 ≠ 0 ∧ Fs 3 x.2) ∧ prs.length ≤ a.length)
    ⟨[], g2, none, none, rfl, hg2.mono (by omega), .nil, fun _ h => absurd h (List.not_mem_nil), Nat.le_refl _⟩ ?_ ?_
  · rintro a p r2 ρ e ⟨prs, g3, t3, t4, rfl, hg3, w1, w2, w3⟩
    bv_omega
    refine (c_frac (T := T) (most := 3) (by omega) (m := m + 3 + 3 * r2.length) (hg3.mono (by rw [List.length_cons]; omega)) (by decide)).use ?_
    rintro _ g4 ⟨q, rfl, hq⟩ hg4
    bv_omega
    have hlen : a.length + (r2.length + 1) = ps.length := by rw [e, List.length_append, List.length_cons]
    by_cases hz : q.num = 0
    · rw [show (if (!q.num == 0) = true then (1 : Int) else 0) = 0 by simp [hz]]
      refine wo_mul0 ?_
      bv_omega
      refine wo_addl (by rw [List.length_map, sizeLine_eq]; simp; omega) ?_
      bv_omega
      rw [List.append_nil]
      exact ⟨prs, g4, _, _, rfl, hg4, w1, fun x hx => ⟨List.mem_append_left _ (w2 x hx).1, (w2 x hx).2⟩, by rw [List.length_append]; omega⟩
    · rw [show (if (!q.num == 0) = true then (1 : Int) else 0) = 1 by simp [hz]]
      refine wo_mul1 (by simp) ?_
      bv_omega
      refine wo_addl (by rw [List.length_map, sizeLine_eq]; simp; omega) ?_
      bv_omega
      have hq0 : q ≠ 0 := fun h => hz (by rw [h]; rfl)
      refine ⟨prs ++ [(p, q)], g4, some (pl p), some (fr q), ?_, hg4, ?_, ?_, ?_⟩
      · rw [List.map_append]; rfl
      · rw [List.pairwise_append]
        refine ⟨w1, List.pairwise_singleton _ _, fun x hx y hy => ?_⟩
        rw [List.mem_singleton] at hy
        subst hy
        have := (w2 x hx).1
        rw [e, List.pairwise_append] at q1
        exact q1.2.2 _ this _ List.mem_cons_self
      · intro x hx
        rcases List.mem_append.mp hx with h | h
        · exact ⟨List.mem_append_left _ (w2 x h).1, (w2 x h).2⟩
        · rw [List.mem_singleton] at h; subst h
          exact ⟨by simp, hq0, hq⟩
      · rw [List.length_append, List.length_append]; simp; omega
  · rintro ρ ⟨prs, g3, t3, t4, rfl, hg3, w1, w2, w3⟩
    bv_omega
    refine (c_frac (T := T) (most := 3) (by omega) (m := m) (hg3.mono (by simp)) (by decide)).use ?_
    rintro _ g4 ⟨q, rfl, hq⟩ hg4
    bv_omega
    exact ⟨⟨.sum prs q, rfl, ⟨w1, fun x hx => ⟨q2 _ (w2 x hx).1, (w2 x hx).2.1⟩⟩, ⟨by omega, fun x hx => (w2 x hx).2.2, hq⟩, rfl⟩, g4, rfl, hg4⟩

theorem c_point [Has T "_law_fraction" f_law_fraction] [Has T "_law_hash" f_law_hash] [Has T "_law_lowest" f_law_lowest] [Has T "_law_point" f_law_point] [Has T "_law_random" f_law_random] {n : Nat} (hn : 4 ≤ n) {m : Nat} {g : Gn} {many : Nat} (h1 : many ≤ 50) (hg : g.ok (m + 3 * many)) {most : Nat} (hm : most ≤ 100000) :
    Draws (callN T up0 n "_law_point" [g.d, .int (many : Nat), .int (most : Nat)]) m (fun d => ∃ qs : List Rat, d = .lst false (qs.map fr) ∧ qs.length = many ∧ ∀ q ∈ qs, Fs most q) := by
  (refine w_fn (by omega) rfl ?_; simp only [f_law_point, List.map_cons, List.map_nil, List.length_cons, List.length_nil, Nat.reduceAdd, Nat.reduceSub, List.reduceReplicate, List.cons_append, List.nil_append, List.append_nil, List.replicate_zero])
  bv_omega
  (with_reducible refine wv_comp0 (by with_unfolding_all rfl) ?_)
  bv_omega
  refine wCo_r (fun t acc ρ => ∃ qs : List Rat, ∃ g1 : Gn, ∃ t3, ρ = [some g1.d, some (.int (many : Nat)), some (.int (most : Nat)), t3] ∧ acc = qs.map fr ∧ qs.length = t.toNat ∧ (∀ q ∈ qs, Fs most q) ∧ g1.ok (m + 3 * (many - t.toNat))) (by omega) ?_ ?_ ?_
  · bv_omega
    exact ⟨[], g, none, rfl, rfl, rfl, fun _ h => absurd h List.not_mem_nil, hg.mono (by simp)⟩
  · rintro t acc ρ t0 t1 ⟨qs, g1, t3, rfl, rfl, q1, q2, hg1⟩
    bv_omega
    refine (c_frac (T := T) (by omega) (m := m + 3 * (many - (t + 1).toNat)) (hg1.mono (by omega)) hm).use ?_
    rintro _ g2 ⟨q, rfl, hq⟩ hg2
    bv_omega
    refine wLt.mk (by rw [List.length_map]; omega) ?_
    exact ⟨qs ++ [q], g2, _, rfl, by rw [List.map_append]; rfl, by rw [List.length_append, q1]; simp; omega, fun x hx => by
      rcases List.mem_append.mp hx with h | h
      · exact q2 x h
      · rw [List.mem_singleton] at h; subst h; exact hq, hg2⟩
  · rintro acc ρ ⟨qs, g1, t3, rfl, rfl, q1, q2, hg1⟩
    bv_omega
    exact ⟨⟨qs, rfl, by omega, q2⟩, g1, rfl, hg1.mono (by omega)⟩
theorem c_net [Has T "_law_drawn_order" f_law_drawn_order] [Has T "_law_fraction" f_law_fraction] [Has T "_law_hash" f_law_hash] [Has T "_law_lowest" f_law_lowest] [Has T "_law_net" f_law_net] [Has T "_law_pick" f_law_pick] [Has T "_law_random" f_law_random] [Has T "_law_some_places" f_law_some_places] [Has T "_law_sum_node" f_law_sum_node] {n : Nat} (hn : 6 ≤ n) {m : Nat} {g : Gn} {ins most bends : Nat} (hi : 1 ≤ ins) (hi2 : ins ≤ 3) (hm : 1 ≤ most) (hm2 : most ≤ 10) (hb : bends ≤ 100) (hg : g.ok (m + 2000)) :
    Draws (callN T up0 n "_law_net" [g.d, .int (ins : Nat), .int (most : Nat), .int (bends : Nat)]) m (fun d => ∃ N : Net, d = N.enc ∧ N.wf ∧ N.ins = ins ∧ 1 ≤ N.nodes.length ∧ N.nodes.length ≤ most ∧ (∀ nd ∈ N.nodes, nd.sm 3) ∧ (N.nodes.filter Nd.bend).length ≤ bends ∧ N.outs.length ≤ 3) := by
  (refine w_fn (by omega) rfl ?_; simp only [f_law_net, List.map_cons, List.map_nil, List.length_cons, List.length_nil, Nat.reduceAdd, Nat.reduceSub, List.reduceReplicate, List.cons_append, List.nil_append, List.append_nil, List.replicate_zero])
  bv_omega
  refine (c_random (T := T) (by omega) (m := m + 1999) hg (by omega) (by omega)).use ?_
  rintro _ g1 ⟨r, rfl, r0, r1⟩ hg1
  bv_omega
  refine ⟨pures_rangeD _ _, ?_⟩
  refine w_forr (fun t ρ => ∃ nds : List Nd, ∃ g2 : Gn, ∃ left : Nat, ∃ t4 t5 t9, ρ = [some g2.d, some (.int (ins : Nat)), some (.int (most : Nat)), some (.int (bends : Nat)), t4, t5, none, some (.lst true (nds.map Nd.enc)), some (.int (left : Nat)), t9] ∧
      nds.length = t.toNat ∧ (∀ (i : Nat) (x : Nd), nds[i]? = some x → x.wf (ins + i) ∧ x.sm 3) ∧ (nds.filter Nd.bend).length + left = bends ∧ g2.ok (m + 100 + 100 * (most - t.toNat))) (by omega) ?_ ?_ ?_
  · exact ⟨[], g1, bends, none, none, none, rfl, rfl, fun i x h => by simp at h, by simp, hg1.mono (by simp; omega)⟩
  · rintro t ρ t0 t1 ⟨nds, g2, left, t4, t5, t9, rfl, q1, q2, q3, hg2⟩
    have hout : ∀ (x : Nd), x.wf (ins + t.toNat) → x.sm 3 → ∀ (i : Nat) (y : Nd), (nds ++ [x])[i]? = some y → y.wf (ins + i) ∧ y.sm 3 := fun x hx hx2 i y hy => by
      by_cases hi' : i < nds.length
      · rw [List.getElem?_append_left hi'] at hy; exact q2 i y hy
      · rw [List.getElem?_append_right (by omega)] at hy
        rcases hk : i - nds.length with _ | k
        · rw [hk] at hy; cases hy
          have : i = t.toNat := by omega
          subst this; exact ⟨hx, hx2⟩
        · rw [hk] at hy; cases hy
    bv_omega
    refine (c_random (T := T) (by omega) (m := m + 99 + 100 * (most - t.toNat)) (hg2.mono (by omega)) (by omega) (by omega)).use ?_
    rintro _ g3 ⟨w, rfl, w0, w1⟩ hg3
    rw [List.length_map, show (ins : Int) + (nds.length : Nat) = ((ins + nds.length : Nat) : Int) by omega]
    bv_omega
    refine wI.dec (fun c1 => ?s1) (fun c1 => ?r1)
    case' r1 => bv_omega; refine wI.beq (fun c2 => ?s2) (fun c2 => ?r2)
    case' r2 => bv_omega; refine wI.beq (fun c3 => ?r3) (fun c3 => ?t1)
    case' r3 => bv_omega; refine wI.dec (fun c4 => ?s3) (fun c4 => ?t2)
    case s1 | s2 | s3 =>
      bv_omega
      refine (c_sum_node (T := T) (by omega) (by omega) (by omega) (m := m + 100 + 100 * (most - (t + 1).toNat)) (hg3.mono (by omega))).use ?_
      rintro _ g4 ⟨x, rfl, x1, x2, x3⟩ hg4
      bv_omega
      refine wLt.mk (by rw [List.length_map]; omega) ?_
      bv_omega
      refine ⟨nds ++ [x], g4, left, _, _, _, by rw [List.map_append]; rfl, by rw [List.length_append]; simp; omega, hout x (by rw [← q1]; exact x1) x2, ?_, hg4⟩
      rw [List.filter_append, List.length_append]
      simp [x3]; omega
    case t1 =>
      bv_omega
      refine wI.beq (fun c5 => ?_) (fun c5 => absurd c5 (by omega))
      bv_omega
      refine (c_random (T := T) (by omega) (m := m + 98 + 100 * (most - t.toNat)) (hg3.mono (by omega)) (by omega) (by omega)).use ?_
      rintro _ g4 ⟨r3, rfl, r30, r31⟩ hg4
      bv_omega
      refine wI.dec (fun c6 => ?_) (fun c6 => ?_)
      · bv_omega
        refine wLt.mk (by rw [List.length_map]; omega) ?_
        bv_omega
        rw [show ((ins + nds.length : Nat) : Int) - 1 = ((ins + nds.length - 1 : Nat) : Int) by omega, show (left : Int) - 1 = ((left - 1 : Nat) : Int) by omega]
        refine ⟨nds ++ [.hinge (ins + nds.length - 1)], g4, left - 1, _, _, _, by rw [List.map_append]; rfl, by rw [List.length_append]; simp; omega, hout (.hinge (ins + nds.length - 1)) (by show ins + nds.length - 1 < _; omega) trivial, ?_, hg4.mono (by omega)⟩
        rw [List.filter_append, List.length_append]
        show (nds.filter Nd.bend).length + 1 + (left - 1) = bends; omega
      · bv_omega
        refine (c_random (T := T) (by omega) (m := m + 97 + 100 * (most - t.toNat)) (hg4.mono (by omega)) (by omega) (by omega)).use ?_
        rintro _ g5 ⟨r4, rfl, r40, r41⟩ hg5
        obtain ⟨r4, rfl⟩ : ∃ r' : Nat, r4 = r' := ⟨r4.toNat, by omega⟩
        bv_omega
        refine wLt.mk (by rw [List.length_map]; omega) ?_
        bv_omega
        rw [show (left : Int) - 1 = ((left - 1 : Nat) : Int) by omega]
        refine ⟨nds ++ [.hinge r4], g5, left - 1, _, _, _, by rw [List.map_append]; rfl, by rw [List.length_append]; simp; omega, hout (.hinge r4) (by show r4 < _; omega) trivial, ?_, hg5.mono (by omega)⟩
        rw [List.filter_append, List.length_append]
        show (nds.filter Nd.bend).length + 1 + (left - 1) = bends; omega
    case t2 =>
      bv_omega
      refine wI.beq (fun c5 => absurd c5 (by omega)) (fun c5 => ?_)
      bv_omega
      refine (c_pick (T := T) (by omega) (m := m + 98 + 100 * (most - t.toNat)) (hg3.mono (by omega)) rfl (by simp) (by simp)).use ?_
      rintro d g4 hd hg4
      obtain ⟨gb, rfl⟩ : ∃ gb : Bool, d = .str (wMost gb) := by
        simp only [List.mem_cons, List.not_mem_nil, or_false] at hd
        rcases hd with h | h
        · exact ⟨true, h⟩
        · exact ⟨false, h⟩
      bv_omega
      refine (c_random (T := T) (by omega) (m := m + 97 + 100 * (most - t.toNat)) (hg4.mono (by omega)) (by split <;> omega) (by split <;> omega)).use ?_
      rintro _ g5 ⟨r3, rfl, r30, r31⟩ hg5
      obtain ⟨r3, rfl⟩ : ∃ r' : Nat, r3 = r' := ⟨r3.toNat, by omega⟩
      bv_omega
      rw [show (2 : Int) + (r3 : Nat) = ((2 + r3 : Nat) : Int) by omega]
      refine (c_places (T := T) (by omega) (m := m + 70 + 100 * (most - t.toNat)) (hg5.mono (by omega)) (by omega) (by split at r31 <;> omega)).use ?_
      rintro _ g6 ⟨ps, rfl, p1, p2, p3⟩ hg6
      bv_omega
      refine wLt.mk (by rw [List.length_map]; omega) ?_
      bv_omega
      rw [show (left : Int) - 1 = ((left - 1 : Nat) : Int) by omega]
      refine ⟨nds ++ [.ext gb ps], g6, left - 1, _, _, _, by rw [List.map_append]; rfl, by rw [List.length_append]; simp; omega, hout (.ext gb ps) ⟨by rw [p3]; split at r31 <;> omega, by rw [p3]; split at r31 <;> omega, p1, fun p hp => by have := p2 p hp; omega⟩ trivial, ?_, hg6.mono (by omega)⟩
      rw [List.filter_append, List.length_append]
      show (nds.filter Nd.bend).length + 1 + (left - 1) = bends; omega
  · rintro ρ ⟨nds, g2, left, t4, t5, t9, rfl, q1, q2, q3, hg2⟩
    bv_omega
    rw [List.length_map, show (ins : Int) + (nds.length : Nat) = ((ins + nds.length : Nat) : Int) by omega]
    (with_reducible refine wv_comp0 (by with_unfolding_all rfl) ?_)
    bv_omega
    refine (c_random (T := T) (by omega) (m := m + 10) (hg2.mono (by omega)) (by omega) (by omega)).use ?_
    rintro _ g3 ⟨r2, rfl, r20, r21⟩ hg3
    bv_omega
    refine wCo_r (fun t acc ρ => ∃ os : List Nat, ∃ g4 : Gn, ∃ t4, ρ = [some g4.d, some (.int (ins : Nat)), some (.int (most : Nat)), some (.int (bends : Nat)), t4, some (.int ((ins + nds.length : Nat) : Int)), none, some (.lst true (nds.map Nd.enc)), some (.int (left : Nat)), t9] ∧ acc = os.map pl ∧ os.length = t.toNat ∧ (∀ o ∈ os, o < ins + nds.length) ∧ g4.ok (m + (10 - t.toNat))) (by omega) ?_ ?_ ?_
    · bv_omega
      exact ⟨[], g3, none, rfl, rfl, rfl, fun _ h => absurd h List.not_mem_nil, hg3⟩
    · rintro t acc ρ t0 t1 ⟨os, g4, t4, rfl, rfl, o1, o2, hg4⟩
      bv_omega
      refine (c_random (T := T) (by omega) (m := m + (10 - (t + 1).toNat)) (hg4.mono (by omega)) (by omega) (by omega)).use ?_
      rintro _ g5 ⟨o, rfl, z0, z1⟩ hg5
      obtain ⟨o, rfl⟩ : ∃ r' : Nat, o = r' := ⟨o.toNat, by omega⟩
      bv_omega
      refine wLt.mk (by rw [List.length_map]; omega) ?_
      exact ⟨os ++ [o], g5, _, rfl, by rw [List.map_append]; rfl, by rw [List.length_append, o1]; simp; omega, fun x hx => by
        rcases List.mem_append.mp hx with h | h
        · exact o2 x h
        · rw [List.mem_singleton] at h; subst h; omega, hg5⟩
    · rintro acc ρ ⟨os, g4, t4, rfl, rfl, o1, o2, hg4⟩
      bv_omega
      refine wo_addl (by rw [List.length_map, sizeLine_eq]; simp; omega) ?_
      bv_omega
      refine ⟨⟨⟨ins, nds, (ins + nds.length - 1) :: os⟩, ?_, ⟨hi, by show ins ≤ 4; omega, by show nds.length ≤ 24; omega, fun i x h => (q2 i x h).1, by simp, by simp; omega, ?_⟩, rfl, by show 1 ≤ nds.length; omega, by show nds.length ≤ most; omega, ?_, by show (nds.filter Nd.bend).length ≤ bends; omega, by simp; omega⟩, g4, rfl, hg4.mono (by omega)⟩
      · rw [show ((ins + nds.length : Nat) : Int) - 1 = ((ins + nds.length - 1 : Nat) : Int) by omega]; rfl
      · intro o ho
        show o < ins + nds.length
        rcases List.mem_cons.mp ho with h | h
        · omega
        · exact o2 o h
      · intro x hx
        obtain ⟨i, hi'⟩ := List.mem_iff_getElem?.mp hx
        exact (q2 i x hi').2
end

set_option maxHeartbeats 4000000
set_option synthInstance.maxSize 128
set_option synthInstance.maxHeartbeats 20000
/-! texts of values -/
mutual
/-- at most so long is its text -/
def zD : D → Nat
  | .int i => i.natAbs.log2 + 3
  | .str x => 10 * x.length + 2
  | .tup xs | .lst _ xs => zDs xs + 3
  | _ => 8
def zDs : List D → Nat
  | [] => 0
  | d :: ds => zD d + 2 + zDs ds
end
mutual
/-- its numbers have texts -/
def inD' : D → Bool
  | .int i => decide (i.natAbs.log2 < 1920)
  | .tup xs | .lst _ xs => inDs' xs
  | _ => true
def inDs' : List D → Bool
  | [] => true
  | d :: ds => inD' d && inDs' ds
end
mutual
theorem shown_z : ∀ d : D, layD d = true → inD' d = true → ∃ p, d.py = some p ∧ p.canLay0 = true ∧ p.depth = dep d ∧ p.showable = true ∧ p.shown.length ≤ zD d
  | .int i, _, h => by
    have h : i.natAbs.log2 < 1920 := by simpa [inD'] using h
    refine ⟨.int i, by simp [D.py], by simp [PyData.canLay0], by simp [PyData.depth, dep], by simpa [PyData.showable] using h, ?_⟩
    have := int_text_length_le (a := i) (k := i.natAbs.log2 + 1) (by omega) (by omega)
    simp only [PyData.shown, zD]
    have e : (Str.ofString (toString i)).length = (toString i).length := ofString_length _
    show (Str.ofString (toString i)).length ≤ _
    rw [e]; omega
  | .non, _, _ => ⟨.none, by simp [D.py], by simp [PyData.canLay0], by simp [PyData.depth, dep], by simp [PyData.showable], by simp only [PyData.shown, zD]; decide⟩
  | .bl b, _, _ => ⟨.bool b, by simp [D.py], by simp [PyData.canLay0], by simp [PyData.depth, dep], by simp [PyData.showable], by simp only [PyData.shown, zD]; cases b <;> decide⟩
  | .str x, h, _ => by
    have h : PyData.strOk x = true := by simpa [layD] using h
    refine ⟨.str x, by simp [D.py], by simpa [PyData.canLay0] using h, by simp [PyData.depth, dep], by simp [PyData.showable], ?_⟩
    have hx : ∀ c ∈ x.cps.toList, c < 16 ^ 8 := fun c hc => by
      have h := (Array.all_eq_true'.mp h) c (Array.mem_def.mpr hc)
      have := of_decide_eq_true h
      omega
    have := StrLaws.reprText_len x hx
    simp only [PyData.shown, zD]
    exact this
  | .tup xs, h, h2 => by
    obtain ⟨ps, h1, h2, h3, h4, h5, h6⟩ := showns_z xs (by simpa [layD] using h) (by simpa [inD'] using h2)
    refine ⟨.tuple ps, by simp [D.py, h1], by simpa [PyData.canLay0] using h2, by simp [PyData.depth, dep, h3], by simpa [PyData.showable] using h4, ?_⟩
    have := tupleText_len_le (PyData.shownAll ps)
    have := PyData.shownAll_length ps
    simp only [PyData.shown, zD]
    omega
  | .lst o xs, h, h2 => by
    obtain ⟨ps, h1, h2, h3, h4, h5, h6⟩ := showns_z xs (by simpa [layD] using h) (by simpa [inD'] using h2)
    refine ⟨.list ps, by simp [D.py, h1], by simpa [PyData.canLay0] using h2, by simp [PyData.depth, dep, h3], by simpa [PyData.showable] using h4, ?_⟩
    have := listText_len_le (PyData.shownAll ps)
    have := PyData.shownAll_length ps
    simp only [PyData.shown, zD]
    omega
  | .edic, h, _ => by simp [layD] at h
  | .fn _, h, _ => by simp [layD] at h
  | .cls _, h, _ => by simp [layD] at h
  | .exc _ _, h, _ => by simp [layD] at h
  | .scr _, h, _ => by simp [layD] at h
theorem showns_z : ∀ ds : List D, layDs ds = true → inDs' ds = true → ∃ ps, D.py.pys ds = some ps ∧ PyData.canLayAll0 ps = true ∧ PyData.depthAll ps = deps ds ∧ PyData.showableAll ps = true ∧ ps.length = ds.length ∧ ((PyData.shownAll ps).map (·.length)).sum + 2 * ps.length ≤ zDs ds
  | [], _, _ => ⟨[], by simp [D.py.pys], by simp [PyData.canLayAll0], by simp [PyData.depthAll, deps], by simp [PyData.showableAll], rfl, by simp [PyData.shownAll, zDs]⟩
  | d :: ds, h, h2 => by
    have h' := Bool.and_eq_true_iff.mp (by simpa [layDs] using h)
    have h2' := Bool.and_eq_true_iff.mp (by simpa [inDs'] using h2)
    obtain ⟨p, a1, a2, a3, a4, a5⟩ := shown_z d h'.1 h2'.1
    obtain ⟨ps, b1, b2, b3, b4, b5, b6⟩ := showns_z ds h'.2 h2'.2
    refine ⟨p :: ps, by simp [D.py.pys, a1, b1], by simp [PyData.canLayAll0, a2, b2], by simp [PyData.depthAll, deps, a3, b3], by simp [PyData.showableAll, a4, b4], by simp [b5], ?_⟩
    simp only [PyData.shownAll, List.map_cons, List.sum_cons, List.length_cons, zDs]
    omega
end
/-- what repr gives -/
def rp : D → Str
  | .edic => "{}"
  | d => match d.py with
    | some p => p.shown
    | none => ""
def rpOK (d : D) : Prop := d = .edic ∨ (layD d = true ∧ dep d ≤ 40 ∧ inD' d = true ∧ zD d ≤ 16000000)
theorem wb_repr {d : D} {k : D → Prop} (h : rpOK d) (hk : k (.str (rp d))) : WO (biD .repr [d]) k := by
  rcases h with rfl | ⟨h1, h2, h3, h4⟩
  · exact hk
  · obtain ⟨p, a1, a2, a3, a4, a5⟩ := shown_z d h1 h3
    have e : biD .repr [d] = d.py.bind fun p => if p.showable && SeqAt.shaped p && decide (p.shown.length ≤ sizeLine) then some (.str p.shown) else none := by
      cases d <;> first | rfl | (simp [layD] at h1)
    have e2 : rp d = p.shown := by cases d <;> first | (simp [layD] at h1; done) | exact congrArg (fun o => match o with | some p => PyData.shown p | none => ("" : Str)) a1
    have s1 : SeqAt.shaped p = true := by simp only [SeqAt.shaped, a2, a3, Bool.true_and, decide_eq_true_eq]; omega
    rw [e, a1]
    show WO (if _ then _ else _) k
    rw [a4, s1, decide_eq_true (show p.shown.length ≤ sizeLine by rw [sizeLine_eq]; omega), ← e2]
    exact hk

/-! a net's value is a net -/
theorem isPlace_pl {p m : Nat} (h : p < m) : isPlace (pl p) (m : Int) = true := by
  show (decide (0 ≤ (p : Int)) && decide ((p : Int) < (m : Int))) = true
  simp; omega
theorem isFrac_fr (q : Rat) : isFrac (fr q) = true := by
  show (decide (0 < ((q.den : Nat) : Int)) && (Nat.gcd q.num.natAbs ((q.den : Nat) : Int).natAbs == 1)) = true
  have := q.den_pos
  have h : Nat.gcd q.num.natAbs q.den = 1 := q.reduced
  simp [h]; omega
theorem num_ne {q : Rat} (h : q ≠ 0) : q.num ≠ 0 := fun e => h (Rat.num_eq_zero.mp e)
theorem isPair_pr {x : Nat × Rat} {m : Nat} (h : x.1 < m) (h2 : x.2 ≠ 0) : isPair (pr x) (m : Int) = true := by
  show (isPlace (pl x.1) m && (isFrac (fr x.2) && (x.2.num != 0))) = true
  rw [isPlace_pl h, isFrac_fr]
  simp [num_ne h2]
theorem atI_en {α : Type} (en : α → D) (xs : List α) {k : Int} (h0 : 0 ≤ k) (h1 : k < xs.length) : atI (xs.map en) k = some (en (xs[k.toNat]'(by omega))) := by
  unfold atI ixN
  rw [List.length_map, if_pos h0, if_pos h1]
  have hl : k.toNat < xs.length := by omega
  show (xs.map en)[k.toNat]? = _
  rw [List.getElem?_map, List.getElem?_eq_getElem hl]; rfl
theorem asc_map {α : Type} (f : D → Option Int) (en : α → D) (key : α → Int) (hk : ∀ x, f (en x) = some (key x)) {xs : List α} (h : xs.Pairwise fun x y => key x < key y) : asc f (xs.map en) = true := by
  unfold asc
  rw [List.all_eq_true]
  intro d hd
  obtain ⟨k, rfl, k1, k2⟩ := mem_rangeD hd
  rw [List.length_map] at k2
  have e1 := atI_en en xs (k := k - 1) (by omega) (by omega)
  have e2 := atI_en en xs (k := k) (by omega) (by omega)
  show (match keyOf f (xs.map en) (k - 1), keyOf f (xs.map en) k with | some a, some b => decide (a < b) | _, _ => false) = true
  unfold keyOf
  rw [e1, e2]
  show (match f _, f _ with | some a, some b => decide (a < b) | _, _ => false) = true
  rw [hk, hk]
  simp only [decide_eq_true_eq]
  exact List.pairwise_iff_getElem.mp h (k - 1).toNat k.toNat (by omega) (by omega) (by omega)
theorem arePlaces_pl {ps : List Nat} {m : Nat} (h1 : 2 ≤ ps.length) (h2 : ps.length ≤ 4) (h3 : ps.Pairwise (· < ·)) (h4 : ∀ p ∈ ps, p < m) : arePlaces (.lst false (ps.map pl)) (m : Int) = true := by
  show (decide (2 ≤ (ps.map pl).length) && decide ((ps.map pl).length ≤ 4) && (ps.map pl).all (isPlace · m) && asc intOf (ps.map pl)) = true
  rw [asc_map intOf pl (fun p => (p : Int)) (fun _ => rfl) (h3.imp fun h => by omega)]
  have e : (ps.map pl).all (isPlace · m) = true := by
    rw [List.all_eq_true]
    intro d hd
    obtain ⟨p, hp, rfl⟩ := List.mem_map.mp hd
    exact isPlace_pl (h4 p hp)
  rw [e]; simp [h1, h2]
theorem isNode_enc {nd : Nd} {m : Nat} (h : nd.wf m) : isNode nd.enc (m : Int) = true := by
  cases nd with
  | sum ps c =>
    show ((Str.ofString "sum" == Str.ofString "sum") && (((ps.map pr).all (isPair · m) && asc fstOf (ps.map pr)) && isFrac (fr c))) = true
    rw [asc_map fstOf pr (fun x => (x.1 : Int)) (fun _ => rfl) (h.1.imp fun h => by omega), isFrac_fr]
    have e : (ps.map pr).all (isPair · m) = true := by
      rw [List.all_eq_true]
      intro d hd
      obtain ⟨x, hx, rfl⟩ := List.mem_map.mp hd
      exact isPair_pr (h.2 x hx).1 (h.2 x hx).2
    rw [e]; decide
  | hinge p =>
    show (if (Str.ofString "hinge" == Str.ofString "sum") = true then false else if (Str.ofString "hinge" == Str.ofString "hinge") = true then isPlace (pl p) m else (Str.ofString "hinge" == Str.ofString "most" || Str.ofString "hinge" == Str.ofString "least") && arePlaces (pl p) m) = true
    rw [if_neg (by decide), if_pos (by decide)]
    exact isPlace_pl h
  | ext g ps =>
    show (if (wMost g == Str.ofString "sum") = true then false else if (wMost g == Str.ofString "hinge") = true then isPlace (.lst false (ps.map pl)) m else (wMost g == Str.ofString "most" || wMost g == Str.ofString "least") && arePlaces (.lst false (ps.map pl)) m) = true
    rw [arePlaces_pl h.1 h.2.1 h.2.2.1 h.2.2.2, if_neg (by cases g <;> decide), if_neg (by cases g <;> decide)]
    cases g <;> decide
theorem enumD_mem' {k : Nat} {xs : List D} {d : D} (h : d ∈ enumD k xs) : ∃ (i : Nat) (x : D), xs[i]? = some x ∧ d = .tup [.int ((k + i : Nat) : Int), x] := by
  induction xs generalizing k with
  | nil => cases h
  | cons a xs ih =>
    rcases List.mem_cons.mp h with e | e
    · exact ⟨0, a, rfl, e⟩
    · obtain ⟨i, x, h1, h2⟩ := ih e
      exact ⟨i + 1, x, h1, by rw [h2]; congr 4; omega⟩
theorem areNodes_enc {nds : List Nd} {m : Nat} (hl : nds.length ≤ 24) (h : ∀ (i : Nat) (n : Nd), nds[i]? = some n → n.wf (m + i)) : areNodes (.lst false (nds.map Nd.enc)) (m : Int) = true := by
  show (decide ((nds.map Nd.enc).length ≤ 24) && (enumD 0 (nds.map Nd.enc)).all (nodeAt m)) = true
  rw [List.length_map, decide_eq_true hl, Bool.true_and, List.all_eq_true]
  intro d hd
  obtain ⟨i, x, h1, rfl⟩ := enumD_mem' hd
  rw [List.getElem?_map, Option.map_eq_some_iff] at h1
  obtain ⟨n, h2, rfl⟩ := h1
  show isNode n.enc ((m : Int) + ((0 + i : Nat) : Int)) = true
  rw [show (m : Int) + ((0 + i : Nat) : Int) = ((m + i : Nat) : Int) by omega]
  exact isNode_enc (h i n h2)
theorem areOuts_pl {os : List Nat} {m : Nat} (h1 : 1 ≤ os.length) (h2 : os.length ≤ 4) (h : ∀ o ∈ os, o < m) : areOuts (.lst false (os.map pl)) (m : Int) = true := by
  show (decide (1 ≤ (os.map pl).length) && decide ((os.map pl).length ≤ 4) && (os.map pl).all (isPlace · m)) = true
  have e : (os.map pl).all (isPlace · m) = true := by
    rw [List.all_eq_true]
    intro d hd
    obtain ⟨p, hp, rfl⟩ := List.mem_map.mp hd
    exact isPlace_pl (h p hp)
  rw [e, List.length_map]; simp [h1, h2]
theorem isNet_enc {N : Net} (h : N.wf) : isNet N.enc = true := by
  show (Str.ofString "net" == Str.ofString "net" && (decide (1 ≤ (N.ins : Int)) && decide ((N.ins : Int) ≤ 4)) && areNodes (.lst false (N.nodes.map Nd.enc)) N.ins && areOuts (.lst false (N.outs.map pl)) ((N.ins : Int) + lenL (.lst false (N.nodes.map Nd.enc)))) = true
  have e : (N.ins : Int) + lenL (.lst false (N.nodes.map Nd.enc)) = ((N.ins + N.nodes.length : Nat) : Int) := by
    show (N.ins : Int) + (((N.nodes.map Nd.enc).length : Nat) : Int) = _
    rw [List.length_map]; omega
  rw [e, areNodes_enc h.n24 h.node, areOuts_pl h.o1 h.o4 h.out, decide_eq_true (by have := h.i1; omega), decide_eq_true (by have := h.i4; omega)]
  decide
/-! small nets are small values -/
/-- okD, of a shape, short -/
structure Ok (z : Nat) (dp : Nat) (d : D) : Prop where
  ok : okD d = true
  lay : layD d = true
  dep : dep d ≤ dp
  z : zD d ≤ z
structure Oks (z : Nat) (dp : Nat) (ds : List D) : Prop where
  ok : okDs ds = true
  lay : layDs ds = true
  dep : deps ds ≤ dp
  z : zDs ds ≤ z
theorem Ok.mono {z z' dp dp' : Nat} {d : D} (h : Ok z dp d) (h1 : z ≤ z') (h2 : dp ≤ dp') : Ok z' dp' d := ⟨h.ok, h.lay, Nat.le_trans h.dep h2, Nat.le_trans h.z h1⟩
theorem Oks.nil {dp : Nat} : Oks 0 dp [] := ⟨rfl, rfl, Nat.zero_le _, Nat.le_refl _⟩
theorem Oks.cons {z1 z2 dp : Nat} {d : D} {ds : List D} (h1 : Ok z1 dp d) (h2 : Oks z2 dp ds) : Oks (z1 + 2 + z2) dp (d :: ds) :=
  ⟨by rw [okDs, h1.ok, h2.ok]; rfl, by rw [layDs, h1.lay, h2.lay]; rfl, by rw [deps]; exact Nat.max_le.mpr ⟨h1.dep, h2.dep⟩, by rw [zDs]; have := h1.z; have := h2.z; omega⟩
theorem Oks.tup {z dp : Nat} {ds : List D} (h : Oks z dp ds) : Ok (z + 3) (dp + 1) (.tup ds) := ⟨by rw [okD]; exact h.ok, by rw [layD]; exact h.lay, by rw [VI.dep]; have := h.dep; omega, by rw [zD]; have := h.z; omega⟩
theorem Oks.lst {z dp : Nat} {ds : List D} (h : Oks z dp ds) (hl : ds.length ≤ 1000) : Ok (z + 3) (dp + 1) (.lst false ds) := ⟨by rw [okD, h.ok, decide_eq_true hl]; rfl, by rw [layD]; exact h.lay, by rw [VI.dep]; have := h.dep; omega, by rw [zD]; have := h.z; omega⟩
theorem Oks.map {α : Type} {en : α → D} {xs : List α} {z dp : Nat} (h : ∀ x ∈ xs, Ok z dp (en x)) : Oks (xs.length * (z + 2)) dp (xs.map en) := by
  induction xs with
  | nil => exact ⟨rfl, rfl, Nat.zero_le _, Nat.zero_le _⟩
  | cons a xs ih =>
    have := (h a List.mem_cons_self).z
    have q := Oks.cons (h a List.mem_cons_self) (ih fun x hx => h x (List.mem_cons_of_mem _ hx))
    refine ⟨q.ok, q.lay, q.dep, Nat.le_trans q.z ?_⟩
    rw [List.length_cons, Nat.succ_mul]; omega
theorem Oks.mono {z z' dp dp' : Nat} {d : List D} (h : Oks z dp d) (h1 : z ≤ z') (h2 : dp ≤ dp') : Oks z' dp' d := ⟨h.ok, h.lay, Nat.le_trans h.dep h2, Nat.le_trans h.z h1⟩
theorem Oks.append {z1 z2 dp : Nat} {a b : List D} (h1 : Oks z1 dp a) (h2 : Oks z2 dp b) : Oks (z1 + z2) dp (a ++ b) := by
  induction a generalizing z1 with
  | nil => exact h2.mono (by omega) (Nat.le_refl _)
  | cons x a ih =>
    have i1 := h1.ok; have i2 := h1.lay; have i3 := h1.dep; have i4 := h1.z
    rw [okDs, Bool.and_eq_true] at i1
    rw [layDs, Bool.and_eq_true] at i2
    rw [deps] at i3
    rw [zDs] at i4
    have q := ih (z1 := z1 - (zD x + 2)) ⟨i1.2, i2.2, by omega, by omega⟩
    exact ((Oks.cons ⟨i1.1, i2.1, by omega, Nat.le_refl _⟩ q)).mono (by omega) (Nat.le_refl _)
theorem Ok.int {i : Int} (h : i.natAbs < 100000000) {dp : Nat} : Ok 30 dp (.int i) := by
  refine ⟨by rw [okD]; exact decide_eq_true h, rfl, Nat.zero_le _, ?_⟩
  rw [zD]
  have := log2_lt' (x := i.natAbs) (b := 27) (by omega)
  omega
theorem Ok.pl {p dp : Nat} (h : p < 100000000) : Ok 30 dp (pl p) := Ok.int (by omega)
theorem Ok.fr {q : Rat} {dp : Nat} (h1 : q.num.natAbs < 100000000) (h2 : q.den < 100000000) : Ok 67 (dp + 1) (VI.fr q) := (Oks.cons (Ok.int h1) (Oks.cons (Ok.int (by omega)) Oks.nil)).tup
theorem Ok.pr {x : Nat × Rat} {dp : Nat} (h : x.1 < 100000000) (h1 : x.2.num.natAbs < 100000000) (h2 : x.2.den < 100000000) : Ok 104 (dp + 2) (VI.pr x) := (Oks.cons (Ok.pl h) (Oks.cons (Ok.fr h1 h2) Oks.nil)).tup
theorem Ok.str {x : Str} (h : x.length ≤ 1000) (h2 : PyData.strOk x = true) {dp : Nat} : Ok (10 * x.length + 2) dp (.str x) := ⟨by rw [okD]; exact decide_eq_true h, h2, Nat.zero_le _, Nat.le_refl _⟩
theorem Ok.nd {nd : Nd} {m b : Nat} (h : nd.wf m) (h2 : nd.sm b) (hm : m < 100000000) (hb : b < 100000000) : Ok 600 5 nd.enc := by
  cases nd with
  | sum ps c =>
    have q : Oks (ps.length * (104 + 2)) 2 (ps.map VI.pr) := Oks.map fun x hx => Ok.pr (dp := 0) (by have := (h.2 x hx).1; omega) (by have := (h2.2.1 x hx).1; omega) (by have := (h2.2.1 x hx).2; omega)
    have hl := h2.1
    have q1 := q.lst (by rw [List.length_map]; omega)
    have q2 := (Oks.cons (Ok.str (x := Str.ofString "sum") (by decide +kernel) (by decide +kernel)) (Oks.cons (q1.mono (Nat.le_refl _) (show 3 ≤ 4 by decide)) (Oks.cons (Ok.fr (q := c) (dp := 3) (by have := h2.2.2.1; omega) (by have := h2.2.2.2; omega)) Oks.nil))).tup
    refine q2.mono ?_ (by decide)
    have e : (Str.ofString "sum").length = 3 := by decide
    rw [e]; omega
  | hinge p =>
    have q2 := (Oks.cons (Ok.str (x := Str.ofString "hinge") (dp := 4) (by decide +kernel) (by decide +kernel)) (Oks.cons (Ok.pl (p := p) (by have : p < m := h; omega)) Oks.nil)).tup
    refine q2.mono ?_ (by decide)
    have e : (Str.ofString "hinge").length = 5 := by decide
    rw [e]; omega
  | ext g ps =>
    have q : Oks (ps.length * (30 + 2)) 3 (ps.map VI.pl) := Oks.map fun x hx => Ok.pl (by have := h.2.2.2 x hx; omega)
    have hl := h.2.1
    have q1 := q.lst (by rw [List.length_map]; omega)
    have q2 := (Oks.cons (Ok.str (x := wMost g) (by cases g <;> decide +kernel) (by cases g <;> decide +kernel)) (Oks.cons q1 Oks.nil)).tup
    refine q2.mono ?_ (by decide)
    have e : (wMost g).length ≤ 5 := by cases g <;> decide
    omega
theorem Ok.net {N : Net} {b : Nat} (h : N.wf) (h2 : ∀ nd ∈ N.nodes, nd.sm b) (hb : b < 100000000) : Ok 20000 7 N.enc := by
  have q : Oks (N.nodes.length * (600 + 2)) 5 (N.nodes.map Nd.enc) := Oks.map fun x hx => by
    obtain ⟨i, hi⟩ := List.mem_iff_getElem?.mp hx
    have hl := (List.getElem?_eq_some_iff.mp hi).1
    exact Ok.nd (h.node i x hi) (h2 x hx) (by have := h.i4; have := h.n24; omega) hb
  have q1 := q.lst (by rw [List.length_map]; have := h.n24; omega)
  have o : Oks (N.outs.length * (30 + 2)) 5 (N.outs.map VI.pl) := Oks.map fun x hx => Ok.pl (by have := h.out x hx; have := h.i4; have := h.n24; omega)
  have o1 := o.lst (by rw [List.length_map]; have := h.o4; omega)
  have q2 := (Oks.cons (Ok.str (x := Str.ofString "net") (by decide +kernel) (by decide +kernel)) (Oks.cons (Ok.int (i := (N.ins : Nat)) (by have := h.i4; omega)) (Oks.cons q1 (Oks.cons o1 Oks.nil)))).tup
  refine q2.mono ?_ (by decide)
  have e : (Str.ofString "net").length = 3 := by decide
  have := h.n24
  have := h.o4
  rw [e]; omega
mutual
theorem okD_in : ∀ d : D, okD d = true → inD' d = true
  | .int i, h => by
    have h : i.natAbs < 100000000 := by simpa [okD] using h
    have := log2_lt' (x := i.natAbs) (b := 27) (by omega)
    rw [inD']; exact decide_eq_true (by omega)
  | .tup xs, h => by rw [inD']; exact okDs_in xs (by simpa [okD] using h)
  | .lst o xs, h => by
    have h' : (o = false ∧ xs.length ≤ 1000) ∧ okDs xs = true := by simpa [okD] using h
    rw [inD']; exact okDs_in xs h'.2
  | .non, _ | .bl _, _ | .edic, _ | .str _, _ | .fn _, _ | .cls _, _ | .exc _ _, _ | .scr _, _ => rfl
theorem okDs_in : ∀ ds : List D, okDs ds = true → inDs' ds = true
  | [], _ => rfl
  | d :: ds, h => by
    have h' := Bool.and_eq_true_iff.mp (by simpa [okDs] using h)
    rw [inDs', okD_in d h'.1, okDs_in ds h'.2]; rfl
end
theorem Ok.rp {z : Nat} {d : D} (h : Ok z 40 d) (hz : z ≤ 16000000) : rpOK d := .inr ⟨h.lay, h.dep, okD_in d h.ok, Nat.le_trans h.z hz⟩
theorem Ok.shp {z : Nat} {d : D} (h : Ok z 40 d) : shpD d = true := by unfold shpD; rw [h.lay, decide_eq_true h.dep]; rfl
theorem cut_drop {α : Type} (xs : List α) {c : Int} (h : 0 ≤ c) : cut xs (some c) none = xs.drop c.toNat := by
  show (xs.drop (HT.sIx xs.length 0 (some c))).take (xs.length - HT.sIx xs.length 0 (some c)) = _
  have e : HT.sIx xs.length 0 (some c) = min c.toNat xs.length := by
    show (if c < 0 then (c + (xs.length : Nat)).toNat else min c.toNat xs.length) = _
    rw [if_neg (by omega)]
  rw [e]
  by_cases h2 : c.toNat ≤ xs.length
  · rw [Nat.min_eq_left h2, List.take_of_length_le (by rw [List.length_drop]; omega)]
  · rw [Nat.min_eq_right (by omega), List.drop_of_length_le (Nat.le_refl _), List.drop_of_length_le (by omega), List.take_nil]
theorem idx_tI {xs : List D} {k : Int} {x : D} (h : atI xs k = some x) (hp : x.pure = true) : idxD (.tup xs) (.int k) = some x := by
  show ((atI xs k).bind fun d => if d.pure then some d else none) = _
  rw [h]; show (if x.pure = true then some x else none) = _; rw [if_pos hp]

set_option maxHeartbeats 4000000
set_option synthInstance.maxSize 128
set_option synthInstance.maxHeartbeats 20000
/-! fractions: sizes, and what the defs give -/
structure Rs (b : Nat) (q : Rat) : Prop where
  n : Bd b q.num
  d : Bd b (q.den : Int)
theorem Rs.mono {a b : Nat} {q : Rat} (h : Rs a q) (e : a ≤ b) : Rs b q := ⟨h.n.mono e, h.d.mono e⟩
/-- q is a whole number of N-ths, of at most M -/
structure Bq (N M : Nat) (q : Rat) : Prop where
  i : ∃ a : Int, q * (N : Rat) = (a : Rat)
  lo : -(M : Rat) ≤ q
  hi : q ≤ (M : Rat)
theorem Bq.rs {N M b : Nat} {q : Rat} (h : Bq N M q) (h0 : 0 < N) (h1 : M * N < 2 ^ b) (h2 : N < 2 ^ b) : Rs b q := by
  obtain ⟨a, ha⟩ := h.i
  have hN : (N : Rat) ≠ 0 := fun z => by have := Rat.natCast_eq_zero_iff.mp z; omega
  have e : q = mkRat a N := by
    rw [Rat.mkRat_eq_div, ← ha]
    have : ((N : Int) : Rat) = (N : Rat) := Rat.intCast_natCast N
    rw [Rat.mul_div_cancel hN]
  have hNp : (0 : Rat) < (N : Rat) := Rat.natCast_pos.mpr h0
  have a1 : a ≤ (M * N : Nat) := by
    have : q * (N : Rat) ≤ (M : Rat) * (N : Rat) := Rat.mul_le_mul_of_nonneg_right h.hi (Rat.le_of_lt hNp)
    rw [ha, ← Rat.natCast_mul, ← Rat.intCast_natCast] at this
    exact Rat.intCast_le_intCast.mp this
  have a2 : -((M * N : Nat) : Int) ≤ a := by
    have : -(M : Rat) * (N : Rat) ≤ q * (N : Rat) := Rat.mul_le_mul_of_nonneg_right h.lo (Rat.le_of_lt hNp)
    rw [ha, Rat.neg_mul, ← Rat.natCast_mul, ← Rat.intCast_natCast, ← Rat.intCast_neg] at this
    exact Rat.intCast_le_intCast.mp this
  have h3 : a.natAbs ≤ M * N := by omega
  refine ⟨?_, ?_⟩
  · unfold Bd
    rw [e, Rat.num_mkRat, if_neg (by omega), Int.natAbs_ediv_of_dvd (Int.ofNat_dvd_left.mpr (Nat.gcd_dvd_right _ _))]
    exact Nat.lt_of_le_of_lt (Nat.le_trans (Nat.div_le_self _ _) h3) h1
  · unfold Bd
    rw [e, Rat.den_mkRat, if_neg (by omega), Int.natAbs_natCast]
    exact Nat.lt_of_le_of_lt (Nat.div_le_self _ _) h2
theorem Bq.add {N M M' : Nat} {p q : Rat} (h1 : Bq N M p) (h2 : Bq N M' q) : Bq N (M + M') (p + q) := by
  obtain ⟨a, ha⟩ := h1.i
  obtain ⟨b, hb⟩ := h2.i
  have l1 := h1.lo; have l2 := h2.lo; have u1 := h1.hi; have u2 := h2.hi
  have e : ((M + M' : Nat) : Rat) = (M : Rat) + (M' : Rat) := Rat.natCast_add M M'
  refine ⟨⟨a + b, by rw [Rat.intCast_add, ← ha, ← hb, Rat.add_mul]⟩, ?_, ?_⟩
  · rw [e]; grind
  · rw [e]; grind
theorem Bq.neg {N M : Nat} {p : Rat} (h1 : Bq N M p) : Bq N M (-p) := by
  obtain ⟨a, ha⟩ := h1.i
  have l1 := h1.lo; have u1 := h1.hi
  exact ⟨⟨-a, by rw [Rat.intCast_neg, ← ha, Rat.neg_mul]⟩, by grind, by grind⟩
theorem abs_mul_le {x y : Rat} {m n : Rat} (hx1 : -m ≤ x) (hx2 : x ≤ m) (hy1 : -n ≤ y) (hy2 : y ≤ n) : -(m * n) ≤ x * y ∧ x * y ≤ m * n := by
  have p1 := Rat.mul_nonneg (show 0 ≤ m - x by grind) (show 0 ≤ n - y by grind)
  have p2 := Rat.mul_nonneg (show 0 ≤ m + x by grind) (show 0 ≤ n + y by grind)
  have p3 := Rat.mul_nonneg (show 0 ≤ m - x by grind) (show 0 ≤ n + y by grind)
  have p4 := Rat.mul_nonneg (show 0 ≤ m + x by grind) (show 0 ≤ n - y by grind)
  constructor <;> grind
theorem Bq.mul {N N' M M' : Nat} {p q : Rat} (h1 : Bq N M p) (h2 : Bq N' M' q) : Bq (N * N') (M * M') (p * q) := by
  obtain ⟨a, ha⟩ := h1.i
  obtain ⟨b, hb⟩ := h2.i
  obtain ⟨z1, z2⟩ := abs_mul_le h1.lo h1.hi h2.lo h2.hi
  refine ⟨⟨a * b, ?_⟩, by rw [Rat.natCast_mul]; exact z1, by rw [Rat.natCast_mul]; exact z2⟩
  rw [Rat.intCast_mul, ← ha, ← hb, Rat.natCast_mul]; grind
theorem Bq.mono {N N' M M' : Nat} {q : Rat} (h : Bq N M q) (h1 : N ∣ N') (h2 : M ≤ M') : Bq N' M' q := by
  obtain ⟨a, ha⟩ := h.i
  obtain ⟨c, rfl⟩ := h1
  have : (M : Rat) ≤ (M' : Rat) := Rat.natCast_le_natCast.mpr h2
  have l := h.lo; have u := h.hi
  exact ⟨⟨a * c, by rw [Rat.natCast_mul, ← Rat.mul_assoc, ha, Rat.intCast_mul, Rat.intCast_natCast]⟩, by grind, by grind⟩
/-- small fractions -/
theorem Fs.bq {b : Nat} {q : Rat} (h : Fs b q) : Bq 6 b q := by
  obtain ⟨h1, h2⟩ := h
  have hd := q.den_pos
  have e : q * (q.den : Rat) = (q.num : Rat) := by
    have := Rat.mkRat_self q
    rw [Rat.mkRat_eq_div] at this
    have hN : ((q.den : Nat) : Rat) ≠ 0 := fun z => by have := Rat.natCast_eq_zero_iff.mp z; omega
    have e2 := Rat.div_mul_cancel (a := (q.num : Rat)) hN
    have e3 : ((q.den : Nat) : Rat) = (q.den : Rat) := rfl
    rw [this] at e2; exact e2
  have hp : (1 : Rat) ≤ (q.den : Rat) := by
    have := Rat.natCast_le_natCast (a := 1) (b := q.den)
    exact this.mpr hd
  have n1 : (q.num : Rat) ≤ (b : Rat) := by rw [← Rat.intCast_natCast]; exact Rat.intCast_le_intCast.mpr (by omega)
  have n2 : -(b : Rat) ≤ (q.num : Rat) := by rw [← Rat.intCast_natCast, ← Rat.intCast_neg]; exact Rat.intCast_le_intCast.mpr (by omega)
  have b0 : (0 : Rat) ≤ (b : Rat) := Rat.natCast_nonneg
  refine ⟨?_, ?_, ?_⟩
  · rcases (show q.den = 1 ∨ q.den = 2 ∨ q.den = 3 by omega) with d | d | d <;> rw [d] at e
    · exact ⟨q.num * 6, by rw [Rat.intCast_mul, ← e]; show q * 6 = q * 1 * 6; grind⟩
    · exact ⟨q.num * 3, by rw [Rat.intCast_mul, ← e]; show q * 6 = q * 2 * 3; grind⟩
    · exact ⟨q.num * 2, by rw [Rat.intCast_mul, ← e]; show q * 6 = q * 3 * 2; grind⟩
  · refine Rat.not_lt.mp fun z => ?_
    have := Rat.mul_pos (show 0 < -(b : Rat) - q by grind) (show 0 < (q.den : Rat) by grind)
    have := Rat.mul_nonneg b0 (show 0 ≤ (q.den : Rat) - 1 by grind)
    grind
  · refine Rat.not_lt.mp fun z => ?_
    have := Rat.mul_pos (show 0 < q - (b : Rat) by grind) (show 0 < (q.den : Rat) by grind)
    have := Rat.mul_nonneg b0 (show 0 ≤ (q.den : Rat) - 1 by grind)
    grind
theorem divInt_mk (a : Int) (b : Nat) : Rat.divInt a (b : Int) = mkRat a b := Rat.divInt_ofNat a b
theorem fr_zero : fr 0 = .tup [.int 0, .int 1] := rfl
def mxQ (a b : Rat) : Rat := if a < b then b else a
def mnQ (a b : Rat) : Rat := if b < a then b else a
section
variable {T : Tab}
theorem c_gcdB [Has T "common_divisor" f_common_divisor] {n : Nat} (hn : 1 ≤ n) {a b : Int} (ha : Bd 8000 a) (hb : Bd 8000 b) : callN T up0 n "common_divisor" [.int a, .int b] = some (.ok (.int (Nat.gcd a.natAbs b.natAbs : Nat)) .non) := by
  refine WC.eq ?_
  (refine w_fn (by omega) rfl ?_; simp only [f_common_divisor, List.map_cons, List.map_nil, List.length_cons, List.length_nil, Nat.reduceAdd, Nat.reduceSub, List.reduceReplicate, List.cons_append, List.nil_append, List.append_nil, List.replicate_zero])
  bv_omega
  rw [abs_nat, abs_nat]
  refine ws_whl (w_while (m := 16001) (fun m ρ => ∃ x y : Nat, ρ = [some (.int x), some (.int y)] ∧ gcdI (Nat.gcd a.natAbs b.natAbs) m x y) (by decide) ⟨_, _, rfl, gcdI.start ha hb⟩ ?_)
  rintro m ρ ⟨x, y, rfl, hg⟩
  bv_omega
  refine wI.dec (fun h => ?_) (fun h => ?_)
  · bv_omega
    refine wo_mod h ?_; bv_omega
    obtain ⟨m', h1, h2⟩ := hg.step (by omega)
    exact ⟨m', h1, y, x % y, by rw [Int.natCast_emod], h2⟩
  · have h' : y = 0 := by omega
    subst h'
    bv_omega
    exact ⟨by rw [← hg.1, Nat.gcd_zero_right], rfl⟩
theorem c_lowestP [Has T "common_divisor" f_common_divisor] [Has T "lowest" f_lowest] {n : Nat} (hn : 2 ≤ n) {a b : Int} (ha : Bd 8000 a) (hb : Bd 8000 b) (h0 : b ≠ 0) : callN T up0 n "lowest" [.int a, .int b] = some (.ok (fr (Rat.divInt a b)) .non) := by
  have key : ∀ a b : Int, Bd 8000 a → Bd 8000 b → 0 < b → 0 < ((Nat.gcd a.natAbs b.natAbs : Nat) : Int) ∧ ((Nat.gcd a.natAbs b.natAbs : Nat) : Int).natAbs.log2 < 9000 := fun a b ha hb h0 => by
    have h1 : 0 < Nat.gcd a.natAbs b.natAbs := Nat.gcd_pos_of_pos_right _ (by omega)
    have h2 : Nat.gcd a.natAbs b.natAbs ≤ b.natAbs := Nat.le_of_dvd (by omega) (Nat.gcd_dvd_right _ _)
    exact ⟨by omega, Bd.div_ok (a := 8000) (show Nat.gcd a.natAbs b.natAbs < 2 ^ 8000 from Nat.lt_of_le_of_lt h2 hb) (by decide)⟩
  refine WC.eq ?_
  (refine w_fn (by omega) rfl ?_; simp only [f_lowest, List.map_cons, List.map_nil, List.length_cons, List.length_nil, Nat.reduceAdd, Nat.reduceSub, List.reduceReplicate, List.cons_append, List.nil_append, List.append_nil, List.replicate_zero])
  bv_omega
  refine wI.dec (fun h => ?_) (fun h => ?_)
  · bv_omega
    refine WC.ok (c_gcdB (T := T) (by omega) ha.neg hb.neg) ?_
    obtain ⟨k1, k2⟩ := key (-a) (-b) ha.neg hb.neg (by omega)
    bv_omega
    refine wo_fdiv k1 k2 ?_; bv_omega
    refine wo_fdiv k1 k2 ?_; bv_omega
    rw [← fr_lowest (by omega), Rat.neg_divInt_neg]
    exact ⟨rfl, rfl⟩
  · bv_omega
    refine WC.ok (c_gcdB (T := T) (by omega) ha hb) ?_
    obtain ⟨k1, k2⟩ := key a b ha hb (by omega)
    bv_omega
    refine wo_fdiv k1 k2 ?_; bv_omega
    refine wo_fdiv k1 k2 ?_; bv_omega
    rw [← fr_lowest (by omega)]
    exact ⟨rfl, rfl⟩
theorem Rs.m {b c : Nat} {p q : Rat} (h : Rs b p) (h2 : Rs c q) (hb : b + c < 1000000) : p.num.natAbs.log2 + ((q.den : Nat) : Int).natAbs.log2 < 1000000 := h.n.mul_ok h2.d hb
theorem dd_ne (p q : Rat) : ((p.den : Nat) : Int) * ((q.den : Nat) : Int) ≠ 0 := by
  have := p.den_pos; have := q.den_pos
  exact Int.mul_ne_zero (by omega) (by omega)
theorem add_di (p q : Rat) : Rat.divInt (p.num * q.den + q.num * p.den) ((p.den : Int) * (q.den : Int)) = p + q := by
  rw [Rat.add_def', ← Int.natCast_mul, divInt_mk]
theorem mul_di (p q : Rat) : Rat.divInt (p.num * q.num) ((p.den : Int) * (q.den : Int)) = p * q := by
  rw [Rat.mul_def', ← Int.natCast_mul, divInt_mk]
theorem c_plus [Has T "common_divisor" f_common_divisor] [Has T "lowest" f_lowest] [Has T "plus" f_plus] {n : Nat} (hn : 3 ≤ n) {p q : Rat} (hp : Rs 3000 p) (hq : Rs 3000 q) : callN T up0 n "plus" [fr p, fr q] = some (.ok (fr (p + q)) .non) := by
  refine WC.eq ?_
  (refine w_fn (by omega) rfl ?_; simp only [f_plus, List.map_cons, List.map_nil, List.length_cons, List.length_nil, Nat.reduceAdd, Nat.reduceSub, List.reduceReplicate, List.cons_append, List.nil_append, List.append_nil, List.replicate_zero])
  bv_omega
  refine wo_mul (hp.n.mul_ok hq.d (by decide)) ?_; bv_omega
  refine wo_mul (hq.n.mul_ok hp.d (by decide)) ?_; bv_omega
  refine wo_mul (hp.d.mul_ok hq.d (by decide)) ?_; bv_omega
  refine WC.ok (c_lowestP (T := T) (by omega) (((hp.n.mul hq.d).add (hq.n.mul hp.d)).mono (by decide)) ((hp.d.mul hq.d).mono (by decide)) (dd_ne p q)) ?_
  bv_omega
  exact ⟨by rw [add_di], rfl⟩
theorem c_times [Has T "common_divisor" f_common_divisor] [Has T "lowest" f_lowest] [Has T "times" f_times] {n : Nat} (hn : 3 ≤ n) {p q : Rat} (hp : Rs 3000 p) (hq : Rs 3000 q) : callN T up0 n "times" [fr p, fr q] = some (.ok (fr (p * q)) .non) := by
  refine WC.eq ?_
  (refine w_fn (by omega) rfl ?_; simp only [f_times, List.map_cons, List.map_nil, List.length_cons, List.length_nil, Nat.reduceAdd, Nat.reduceSub, List.reduceReplicate, List.cons_append, List.nil_append, List.append_nil, List.replicate_zero])
  bv_omega
  refine wo_mul (hp.n.mul_ok hq.n (by decide)) ?_; bv_omega
  refine wo_mul (hp.d.mul_ok hq.d (by decide)) ?_; bv_omega
  refine WC.ok (c_lowestP (T := T) (by omega) ((hp.n.mul hq.n).mono (by decide)) ((hp.d.mul hq.d).mono (by decide)) (dd_ne p q)) ?_
  bv_omega
  exact ⟨by rw [mul_di], rfl⟩
theorem c_lplus [Has T "_law_lowest" f_law_lowest] [Has T "_law_plus" f_law_plus] {n : Nat} (hn : 3 ≤ n) {p q : Rat} (hp : Rs 3000 p) (hq : Rs 3000 q) : callN T up0 n "_law_plus" [fr p, fr q] = some (.ok (fr (p + q)) .non) := by
  refine WC.eq ?_
  (refine w_fn (by omega) rfl ?_; simp only [f_law_plus, List.map_cons, List.map_nil, List.length_cons, List.length_nil, Nat.reduceAdd, Nat.reduceSub, List.reduceReplicate, List.cons_append, List.nil_append, List.append_nil, List.replicate_zero])
  bv_omega
  refine wo_mul (hp.n.mul_ok hq.d (by decide)) ?_; bv_omega
  refine wo_mul (hq.n.mul_ok hp.d (by decide)) ?_; bv_omega
  refine wo_mul (hp.d.mul_ok hq.d (by decide)) ?_; bv_omega
  refine WC.ok (c_llowest (T := T) (by omega) (((hp.n.mul hq.d).add (hq.n.mul hp.d)).mono (by decide)) ((hp.d.mul hq.d).mono (by decide)) (dd_ne p q)) ?_
  bv_omega
  exact ⟨by rw [add_di], rfl⟩
theorem c_ltimes [Has T "_law_lowest" f_law_lowest] [Has T "_law_times" f_law_times] {n : Nat} (hn : 3 ≤ n) {p q : Rat} (hp : Rs 3000 p) (hq : Rs 3000 q) : callN T up0 n "_law_times" [fr p, fr q] = some (.ok (fr (p * q)) .non) := by
  refine WC.eq ?_
  (refine w_fn (by omega) rfl ?_; simp only [f_law_times, List.map_cons, List.map_nil, List.length_cons, List.length_nil, Nat.reduceAdd, Nat.reduceSub, List.reduceReplicate, List.cons_append, List.nil_append, List.append_nil, List.replicate_zero])
  bv_omega
  refine wo_mul (hp.n.mul_ok hq.n (by decide)) ?_; bv_omega
  refine wo_mul (hp.d.mul_ok hq.d (by decide)) ?_; bv_omega
  refine WC.ok (c_llowest (T := T) (by omega) ((hp.n.mul hq.n).mono (by decide)) ((hp.d.mul hq.d).mono (by decide)) (dd_ne p q)) ?_
  bv_omega
  exact ⟨by rw [mul_di], rfl⟩
theorem lt_di (p q : Rat) : decide (p.num * (q.den : Int) < q.num * (p.den : Int)) = decide (p < q) := by simp only [Rat.lt_iff]
theorem c_is_less [Has T "is_less" f_is_less] {n : Nat} (hn : 1 ≤ n) {p q : Rat} (hp : Rs 3000 p) (hq : Rs 3000 q) : callN T up0 n "is_less" [fr p, fr q] = some (.ok (.bl (decide (p < q))) .non) := by
  refine WC.eq ?_
  (refine w_fn (by omega) rfl ?_; simp only [f_is_less, List.map_cons, List.map_nil, List.length_cons, List.length_nil, Nat.reduceAdd, Nat.reduceSub, List.reduceReplicate, List.cons_append, List.nil_append, List.append_nil, List.replicate_zero])
  bv_omega
  refine wo_mul (hp.n.mul_ok hq.d (by decide)) ?_; bv_omega
  refine wo_mul (hq.n.mul_ok hp.d (by decide)) ?_; bv_omega
  exact ⟨by rw [lt_di], rfl⟩
theorem c_lbelow [Has T "_law_below" f_law_below] {n : Nat} (hn : 1 ≤ n) {p q : Rat} (hp : Rs 3000 p) (hq : Rs 3000 q) : callN T up0 n "_law_below" [fr p, fr q] = some (.ok (.bl (decide (p < q))) .non) := by
  refine WC.eq ?_
  (refine w_fn (by omega) rfl ?_; simp only [f_law_below, List.map_cons, List.map_nil, List.length_cons, List.length_nil, Nat.reduceAdd, Nat.reduceSub, List.reduceReplicate, List.cons_append, List.nil_append, List.append_nil, List.replicate_zero])
  bv_omega
  refine wo_mul (hp.n.mul_ok hq.d (by decide)) ?_; bv_omega
  refine wo_mul (hq.n.mul_ok hp.d (by decide)) ?_; bv_omega
  exact ⟨by rw [lt_di], rfl⟩
theorem c_greater [Has T "greater" f_greater] [Has T "is_less" f_is_less] {n : Nat} (hn : 2 ≤ n) {p q : Rat} (hp : Rs 3000 p) (hq : Rs 3000 q) : callN T up0 n "greater" [fr p, fr q] = some (.ok (fr (mxQ p q)) .non) := by
  refine WC.eq ?_
  (refine w_fn (by omega) rfl ?_; simp only [f_greater, List.map_cons, List.map_nil, List.length_cons, List.length_nil, Nat.reduceAdd, Nat.reduceSub, List.reduceReplicate, List.cons_append, List.nil_append, List.append_nil, List.replicate_zero])
  bv_omega
  refine WC.ok (c_is_less (T := T) (by omega) hp hq) ?_
  bv_omega
  refine wI.dec (fun h => ?_) (fun h => ?_)
  · bv_omega; exact ⟨by unfold mxQ; rw [if_pos h], rfl⟩
  · bv_omega; exact ⟨by unfold mxQ; rw [if_neg h], rfl⟩
theorem c_lesser [Has T "is_less" f_is_less] [Has T "lesser" f_lesser] {n : Nat} (hn : 2 ≤ n) {p q : Rat} (hp : Rs 3000 p) (hq : Rs 3000 q) : callN T up0 n "lesser" [fr p, fr q] = some (.ok (fr (mnQ p q)) .non) := by
  refine WC.eq ?_
  (refine w_fn (by omega) rfl ?_; simp only [f_lesser, List.map_cons, List.map_nil, List.length_cons, List.length_nil, Nat.reduceAdd, Nat.reduceSub, List.reduceReplicate, List.cons_append, List.nil_append, List.append_nil, List.replicate_zero])
  bv_omega
  refine WC.ok (c_is_less (T := T) (by omega) hq hp) ?_
  bv_omega
  refine wI.dec (fun h => ?_) (fun h => ?_)
  · bv_omega; exact ⟨by unfold mnQ; rw [if_pos h], rfl⟩
  · bv_omega; exact ⟨by unfold mnQ; rw [if_neg h], rfl⟩
theorem c_lgreater [Has T "_law_below" f_law_below] [Has T "_law_greater" f_law_greater] {n : Nat} (hn : 2 ≤ n) {p q : Rat} (hp : Rs 3000 p) (hq : Rs 3000 q) : callN T up0 n "_law_greater" [fr p, fr q] = some (.ok (fr (mxQ p q)) .non) := by
  refine WC.eq ?_
  (refine w_fn (by omega) rfl ?_; simp only [f_law_greater, List.map_cons, List.map_nil, List.length_cons, List.length_nil, Nat.reduceAdd, Nat.reduceSub, List.reduceReplicate, List.cons_append, List.nil_append, List.append_nil, List.replicate_zero])
  bv_omega
  refine WC.ok (c_lbelow (T := T) (by omega) hp hq) ?_
  bv_omega
  refine wI.dec (fun h => ?_) (fun h => ?_)
  · bv_omega; exact ⟨by unfold mxQ; rw [if_pos h], rfl⟩
  · bv_omega; exact ⟨by unfold mxQ; rw [if_neg h], rfl⟩
theorem c_llesser [Has T "_law_below" f_law_below] [Has T "_law_lesser" f_law_lesser] {n : Nat} (hn : 2 ≤ n) {p q : Rat} (hp : Rs 3000 p) (hq : Rs 3000 q) : callN T up0 n "_law_lesser" [fr p, fr q] = some (.ok (fr (mnQ p q)) .non) := by
  refine WC.eq ?_
  (refine w_fn (by omega) rfl ?_; simp only [f_law_lesser, List.map_cons, List.map_nil, List.length_cons, List.length_nil, Nat.reduceAdd, Nat.reduceSub, List.reduceReplicate, List.cons_append, List.nil_append, List.append_nil, List.replicate_zero])
  bv_omega
  refine WC.ok (c_lbelow (T := T) (by omega) hq hp) ?_
  bv_omega
  refine wI.dec (fun h => ?_) (fun h => ?_)
  · bv_omega; exact ⟨by unfold mnQ; rw [if_pos h], rfl⟩
  · bv_omega; exact ⟨by unfold mnQ; rw [if_neg h], rfl⟩
end

set_option maxHeartbeats 4000000
set_option synthInstance.maxSize 128
set_option synthInstance.maxHeartbeats 20000
/-! what nets come to -/
def gv (vs : List Rat) (p : Nat) : Rat := vs.getD p 0
def mxL : List Rat → Rat
  | [] => 0
  | a :: r => r.foldl mxQ a
def mnL : List Rat → Rat
  | [] => 0
  | a :: r => r.foldl mnQ a
def sumL (vs : List Rat) (ps : List (Nat × Rat)) (c : Rat) : Rat := ps.foldl (fun s x => s + x.2 * gv vs x.1) c
def valNd (vs : List Rat) : Nd → Rat
  | .sum ps c => sumL vs ps c
  | .hinge p => mxQ 0 (gv vs p)
  | .ext g ps => if g then mxL (ps.map (gv vs)) else mnL (ps.map (gv vs))
def valsF (nds : List Nd) (vs : List Rat) : List Rat := nds.foldl (fun vs nd => vs ++ [valNd vs nd]) vs
def Net.vals (N : Net) (pt : List Rat) : List Rat := valsF N.nodes pt
def Net.outv (N : Net) (pt : List Rat) : List Rat := N.outs.map (gv (N.vals pt))
theorem valsF_len (nds : List Nd) (vs : List Rat) : (valsF nds vs).length = vs.length + nds.length := by
  induction nds generalizing vs with
  | nil => rfl
  | cons n r ih => show (valsF r (vs ++ [valNd vs n])).length = _; rw [ih]; simp only [List.length_append, List.length_cons, List.length_nil]; omega
theorem sumL_add (vs : List Rat) (ps : List (Nat × Rat)) (c : Rat) : sumL vs ps c = c + sumL vs ps 0 := by
  unfold sumL
  induction ps generalizing c with
  | nil => show c = c + 0; rw [Rat.add_zero]
  | cons x r ih =>
    rw [List.foldl_cons, List.foldl_cons, ih, ih (0 + _)]
    grind
theorem sumL_snoc (vs : List Rat) (a : List (Nat × Rat)) (x : Nat × Rat) (c : Rat) : sumL vs (a ++ [x]) c = sumL vs a c + x.2 * gv vs x.1 := by
  unfold sumL; rw [List.foldl_append]; rfl
/-- sizes of values: k nodes deep -/
abbrev Vb (k : Nat) (q : Rat) : Prop := Bq (6 ^ k) (10 ^ k) q
theorem Vb.rs {k : Nat} {q : Rat} (h : Vb k q) (hk : k ≤ 100) : Rs 3000 q := by
  have e1 : 10 ^ k * 6 ^ k ≤ 2 ^ (6 * k) := by
    rw [← Nat.mul_pow, Nat.pow_mul]; exact Nat.pow_le_pow_left (by decide) _
  have e2 : 6 ^ k ≤ 2 ^ (6 * k) := by rw [Nat.pow_mul]; exact Nat.pow_le_pow_left (by decide) _
  have e3 : 2 ^ (6 * k) < 2 ^ 3000 := Nat.pow_lt_pow_right (by decide) (by omega)
  exact Bq.rs h (Nat.pow_pos (by decide)) (by omega) (by omega)
theorem Vb.mono {k l : Nat} {q : Rat} (h : Vb k q) (e : k ≤ l) : Vb l q := Bq.mono h (Nat.pow_dvd_pow 6 e) (Nat.pow_le_pow_right (by decide) e)
theorem gv_get {vs : List Rat} {p : Nat} (h : p < vs.length) : gv vs p = vs[p] := by
  unfold gv; simp [h]
theorem gv_mem {vs : List Rat} {p : Nat} (h : p < vs.length) : gv vs p ∈ vs := by
  rw [gv_get h]; exact List.getElem_mem h
theorem zero_vb {k : Nat} : Bq (6 ^ k) 0 0 := by
  refine ⟨⟨0, by rw [Rat.zero_mul]; rfl⟩, ?_, ?_⟩ <;> (show _ ≤ _; decide)
/-- a sum's parts -/
theorem sum_bq {vs : List Rat} {k : Nat} (hv : ∀ v ∈ vs, Vb k v) {ps : List (Nat × Rat)} (hp : ∀ x ∈ ps, x.1 < vs.length ∧ Fs 3 x.2) {c : Rat} {mc : Nat} (hc : Bq (6 ^ (k + 1)) mc c) : Bq (6 ^ (k + 1)) (mc + ps.length * (3 * 10 ^ k)) (sumL vs ps c) := by
  induction ps generalizing c mc with
  | nil => exact hc.mono (Nat.dvd_refl _) (by simp)
  | cons x r ih =>
    have h1 := hp x List.mem_cons_self
    have hm : Bq (6 ^ (k + 1)) (3 * 10 ^ k) (x.2 * gv vs x.1) := (h1.2.bq.mul (hv _ (gv_mem h1.1))).mono (by rw [Nat.pow_succ, Nat.mul_comm]; exact Nat.dvd_refl _) (Nat.le_refl _)
    have q := ih (fun y hy => hp y (List.mem_cons_of_mem _ hy)) (hc.add hm)
    refine q.mono (Nat.dvd_refl _) ?_
    rw [List.length_cons]
    generalize 3 * 10 ^ k = X
    rw [Nat.add_mul]; omega
theorem sum_vb {vs : List Rat} {k : Nat} (hv : ∀ v ∈ vs, Vb k v) {ps : List (Nat × Rat)} (hp : ∀ x ∈ ps, x.1 < vs.length ∧ Fs 3 x.2) (hl : ps.length ≤ 3) {c : Rat} (hc : Bq (6 ^ (k + 1)) 3 c) (hk : 1 ≤ k) : Vb (k + 1) (sumL vs ps c) := by
  refine (sum_bq hv hp hc).mono (Nat.dvd_refl _) ?_
  have : 10 ^ 1 ≤ 10 ^ k := Nat.pow_le_pow_right (by decide) hk
  have e : ps.length * (3 * 10 ^ k) ≤ 3 * (3 * 10 ^ k) := Nat.mul_le_mul_right _ hl
  rw [Nat.pow_succ]; omega
theorem fs_bq {k b : Nat} {q : Rat} (h : Fs b q) : Bq (6 ^ (k + 1)) b q := h.bq.mono (by rw [Nat.pow_succ, Nat.mul_comm]; exact Nat.dvd_mul_right _ _) (Nat.le_refl _)
theorem mxQ_or (a b : Rat) : mxQ a b = a ∨ mxQ a b = b := by unfold mxQ; split <;> simp
theorem mnQ_or (a b : Rat) : mnQ a b = a ∨ mnQ a b = b := by unfold mnQ; split <;> simp
theorem mxF_mem (r : List Rat) (a : Rat) : r.foldl mxQ a ∈ a :: r := by
  induction r generalizing a with
  | nil => simp
  | cons b r ih =>
    rw [List.foldl_cons]
    have := ih (mxQ a b)
    rcases List.mem_cons.mp this with h | h
    · rw [h]; rcases mxQ_or a b with e | e <;> rw [e] <;> simp
    · simp [h]
theorem mnF_mem (r : List Rat) (a : Rat) : r.foldl mnQ a ∈ a :: r := by
  induction r generalizing a with
  | nil => simp
  | cons b r ih =>
    rw [List.foldl_cons]
    have := ih (mnQ a b)
    rcases List.mem_cons.mp this with h | h
    · rw [h]; rcases mnQ_or a b with e | e <;> rw [e] <;> simp
    · simp [h]
theorem mxQ_self (a : Rat) : mxQ a a = a := by unfold mxQ; split <;> rfl
theorem mnQ_self (a : Rat) : mnQ a a = a := by unfold mnQ; split <;> rfl
/-- what is known of a node behind values -/
structure NdOk (vs : List Rat) (nd : Nd) : Prop where
  wf : nd.wf vs.length
  sm : nd.sm 3
theorem val_vb {vs : List Rat} {k : Nat} (hk : 1 ≤ k) (hv : ∀ v ∈ vs, Vb k v) {nd : Nd} (h : NdOk vs nd) : Vb (k + 1) (valNd vs nd) := by
  obtain ⟨hw, hs⟩ := h
  cases nd with
  | sum ps c => exact sum_vb hv (fun x hx => ⟨(hw.2 x hx).1, hs.2.1 x hx⟩) hs.1 (fs_bq hs.2.2) hk
  | hinge p =>
    show Vb (k + 1) (mxQ 0 (gv vs p))
    rcases mxQ_or 0 (gv vs p) with e | e <;> rw [e]
    · exact zero_vb.mono (Nat.dvd_refl _) (Nat.zero_le _)
    · exact (hv _ (gv_mem hw)).mono (Nat.le_succ _)
  | ext g ps =>
    have hm : ∀ x ∈ ps.map (gv vs), Vb (k + 1) x := fun x hx => by
      obtain ⟨p, hp, rfl⟩ := List.mem_map.mp hx
      exact (hv _ (gv_mem (hw.2.2.2 p hp))).mono (Nat.le_succ _)
    have hl := hw.1
    cases ps with
    | nil => simp at hl
    | cons p r =>
      cases g
      · exact hm _ (mnF_mem _ _)
      · exact hm _ (mxF_mem _ _)
theorem wx_en {α : Type} {en : α → D} {o : Bool} {xs : List α} {p : Nat} {k : D → Prop} [h1 : ∀ x, Pu (en x)] (h : p < xs.length) (hk : k (en xs[p])) : WO (idxD (.lst o (xs.map en)) (.int (p : Nat))) k := by
  refine WO.mk (idx_l (atI_en en xs (k := (p : Nat)) (by omega) (by omega)) Pu.pu) ?_
  simpa using hk
theorem wx_gv {o : Bool} {vs : List Rat} {p : Nat} {k : D → Prop} (h : p < vs.length) (hk : k (fr (gv vs p))) : WO (idxD (.lst o (vs.map fr)) (.int (p : Nat))) k := by
  refine wx_en h ?_
  have e : gv vs p = vs[p] := gv_get h
  rw [← e]; exact hk
section
variable {T : Tab}
theorem c_greatest [Has T "greater" f_greater] [Has T "greatest_of" f_greatest_of] [Has T "is_less" f_is_less] {n : Nat} (hn : 4 ≤ n) {xs : List Rat} (h0 : 0 < xs.length) (hl : xs.length ≤ 100) (hx : ∀ x ∈ xs, Rs 3000 x) : callN T up0 n "greatest_of" [.lst false (xs.map fr)] = some (.ok (fr (mxL xs)) .non) := by
  cases xs with
  | nil => simp at h0
  | cons a r =>
    refine WC.eq ?_
    (refine w_fn (by omega) rfl ?_; simp only [f_greatest_of, List.map_cons, List.map_nil, List.length_cons, List.length_nil, Nat.reduceAdd, Nat.reduceSub, List.reduceReplicate, List.cons_append, List.nil_append, List.append_nil, List.replicate_zero])
    bv_omega
    rw [cut_drop _ (by decide)]
    bv_omega
    refine ⟨pures_map fun _ _ => rfl, ?_⟩
    refine w_forl (xs := r) (fun a1 r1 ρ => ∃ t, ρ = [some (.lst false (fr a :: r.map fr)), some (fr (a1.foldl mxQ a)), t]) ⟨none, rfl⟩ ?_ ?_
    · rintro a1 x r1 ρ e ⟨t, rfl⟩
      have hxm : x ∈ a :: r := by rw [e]; simp
      have hfm : a1.foldl mxQ a ∈ a :: r := by
        rcases List.mem_cons.mp (mxF_mem a1 a) with h | h
        · rw [h]; simp
        · rw [e]; simp [h]
      bv_omega
      refine WC.ok (c_greater (T := T) (by omega) (hx _ hfm) (hx _ hxm)) ?_
      bv_omega
      exact ⟨_, by rw [List.foldl_append]; rfl⟩
    · rintro ρ ⟨t, rfl⟩
      bv_omega
      exact ⟨rfl, rfl⟩
theorem c_least [Has T "is_less" f_is_less] [Has T "least_of" f_least_of] [Has T "lesser" f_lesser] {n : Nat} (hn : 4 ≤ n) {xs : List Rat} (h0 : 0 < xs.length) (hl : xs.length ≤ 100) (hx : ∀ x ∈ xs, Rs 3000 x) : callN T up0 n "least_of" [.lst false (xs.map fr)] = some (.ok (fr (mnL xs)) .non) := by
  cases xs with
  | nil => simp at h0
  | cons a r =>
    refine WC.eq ?_
    (refine w_fn (by omega) rfl ?_; simp only [f_least_of, List.map_cons, List.map_nil, List.length_cons, List.length_nil, Nat.reduceAdd, Nat.reduceSub, List.reduceReplicate, List.cons_append, List.nil_append, List.append_nil, List.replicate_zero])
    bv_omega
    rw [cut_drop _ (by decide)]
    bv_omega
    refine ⟨pures_map fun _ _ => rfl, ?_⟩
    refine w_forl (xs := r) (fun a1 r1 ρ => ∃ t, ρ = [some (.lst false (fr a :: r.map fr)), some (fr (a1.foldl mnQ a)), t]) ⟨none, rfl⟩ ?_ ?_
    · rintro a1 x r1 ρ e ⟨t, rfl⟩
      have hxm : x ∈ a :: r := by rw [e]; simp
      have hfm : a1.foldl mnQ a ∈ a :: r := by
        rcases List.mem_cons.mp (mnF_mem a1 a) with h | h
        · rw [h]; simp
        · rw [e]; simp [h]
      bv_omega
      refine WC.ok (c_lesser (T := T) (by omega) (hx _ hfm) (hx _ hxm)) ?_
      bv_omega
      exact ⟨_, by rw [List.foldl_append]; rfl⟩
    · rintro ρ ⟨t, rfl⟩
      bv_omega
      exact ⟨rfl, rfl⟩
theorem c_node_value [Has T "common_divisor" f_common_divisor] [Has T "greater" f_greater] [Has T "greatest_of" f_greatest_of] [Has T "is_less" f_is_less] [Has T "least_of" f_least_of] [Has T "lesser" f_lesser] [Has T "lowest" f_lowest] [Has T "node_value" f_node_value] [Has T "plus" f_plus] [Has T "times" f_times] {n : Nat} (hn : 6 ≤ n) {vs : List Rat} {k : Nat} (hk : 1 ≤ k) (hk2 : k ≤ 90) (hv : ∀ v ∈ vs, Vb k v) {nd : Nd} (h : NdOk vs nd) : callN T up0 n "node_value" [nd.enc, .lst false (vs.map fr)] = some (.ok (fr (valNd vs nd)) .non) := by
  obtain ⟨hw, hs⟩ := h
  have hvr : ∀ p, p < vs.length → Rs 3000 (gv vs p) := fun p hp => (hv _ (gv_mem hp)).rs (by omega)
  refine WC.eq ?_
  (refine w_fn (by omega) rfl ?_; simp only [f_node_value, List.map_cons, List.map_nil, List.length_cons, List.length_nil, Nat.reduceAdd, Nat.reduceSub, List.reduceReplicate, List.cons_append, List.nil_append, List.append_nil, List.replicate_zero])
  cases nd with
  | sum ps c =>
    show WS (evS _ _ _ [some (.tup [.str (Str.ofString "sum"), .lst false (ps.map pr), fr c]), _, _, _, _, _]) _
    bv_omega
    refine wI.t' (by decide) ?_
    bv_omega
    refine ⟨pures_map fun _ _ => rfl, ?_⟩
    refine w_forl (xs := ps) (fun a r ρ => ∃ t4 t5, ρ = [some (.tup [.str (Str.ofString "sum"), .lst false (ps.map pr), fr c]), some (.lst false (vs.map fr)), none, some (fr (sumL vs a c)), t4, t5]) ⟨none, none, rfl⟩ ?_ ?_
    · rintro a x r ρ e ⟨t4, t5, rfl⟩
      have hx := (hw.2 x (by rw [e]; simp)).1
      have hx2 := hs.2.1 x (by rw [e]; simp)
      have hpa : Vb (k + 1) (sumL vs a c) := sum_vb hv (fun y hy => ⟨(hw.2 y (by rw [e]; simp [hy])).1, hs.2.1 y (by rw [e]; simp [hy])⟩) (by have := hs.1; rw [e, List.length_append] at this; omega) (fs_bq hs.2.2) hk
      bv_omega
      refine wx_gv hx ?_
      bv_omega
      have hm : Vb (k + 1) (x.2 * gv vs x.1) := ((hx2.bq.mul (hv _ (gv_mem hx))).mono (by rw [Nat.pow_succ, Nat.mul_comm]; exact Nat.dvd_refl _) (by rw [Nat.pow_succ]; omega))
      refine WC.ok (c_times (T := T) (by omega) (Vb.rs (k := 1) (hx2.bq.mono (N' := 6 ^ 1) (M' := 10 ^ 1) (by decide) (by decide)) (by decide)) (hvr _ hx)) ?_
      bv_omega
      refine WC.ok (c_plus (T := T) (by omega) (hpa.rs (by omega)) (hm.rs (by omega))) ?_
      bv_omega
      exact ⟨_, _, by rw [sumL_snoc]⟩
    · rintro ρ ⟨t4, t5, rfl⟩
      bv_omega
      exact ⟨rfl, rfl⟩
  | hinge p =>
    show WS (evS _ _ _ [some (.tup [.str (Str.ofString "hinge"), pl p]), _, _, _, _, _]) _
    bv_omega
    refine wI.f' (by decide) ?_
    bv_omega
    refine wI.t' (by decide) ?_
    bv_omega
    refine wx_gv hw ?_
    bv_omega
    rw [← fr_zero]
    refine WC.ok (c_greater (T := T) (by omega) (Vb.rs (k := 1) (zero_vb.mono (Nat.dvd_refl _) (Nat.zero_le _)) (by decide)) (hvr _ hw)) ?_
    bv_omega
    exact ⟨rfl, rfl⟩
  | ext g ps =>
    show WS (evS _ _ _ [some (.tup [.str (wMost g), .lst false (ps.map pl)]), _, _, _, _, _]) _
    bv_omega
    refine wI.f' (by cases g <;> decide) ?_
    bv_omega
    refine wI.f' (by cases g <;> decide) ?_
    bv_omega
    have hl1 := hw.1; have hl2 := hw.2.1
    refine wv_compt pl ps (fun p => fr (gv vs p)) rfl ?_ (pures_map fun _ _ => rfl) (by omega) (fun p hp => ?_) ?_
    · bv_omega; exact ⟨rfl, rfl⟩
    · bv_omega
      refine wx_gv (hw.2.2.2 p hp) ?_
      bv_omega
      exact ⟨rfl, rfl⟩
    · have e : ps.map (fun p => fr (gv vs p)) = (ps.map (gv vs)).map fr := by rw [List.map_map]; rfl
      rw [e]
      have hr : ∀ x ∈ ps.map (gv vs), Rs 3000 x := fun x hx => by
        obtain ⟨p, hp, rfl⟩ := List.mem_map.mp hx
        exact hvr p (hw.2.2.2 p hp)
      bv_omega
      cases g with
      | true =>
        refine wI.t' (by decide) ?_
        bv_omega
        refine WC.ok (c_greatest (T := T) (by omega) (by rw [List.length_map]; omega) (by rw [List.length_map]; omega) hr) ?_
        bv_omega
        exact ⟨rfl, rfl⟩
      | false =>
        refine wI.f' (by decide) ?_
        bv_omega
        refine WC.ok (c_least (T := T) (by omega) (by rw [List.length_map]; omega) (by rw [List.length_map]; omega) hr) ?_
        bv_omega
        exact ⟨rfl, rfl⟩
end

set_option maxHeartbeats 4000000
set_option synthInstance.maxSize 128
set_option synthInstance.maxHeartbeats 20000
/-- a drawn net -/
structure Net.dr (N : Net) : Prop where
  wf : N.wf
  sm : ∀ nd ∈ N.nodes, nd.sm 3
/-- a point with small values -/
structure PtOk (N : Net) (pt : List Rat) : Prop where
  len : pt.length = N.ins
  vb : ∀ v ∈ pt, Vb 1 v
theorem Net.dr.at {N : Net} (h : N.dr) {pt : List Rat} (hp : PtOk N pt) {a : List Nd} {x : Nd} {r : List Nd} (e : N.nodes = a ++ x :: r) : NdOk (valsF a pt) x := by
  refine ⟨?_, h.sm x (by rw [e]; simp)⟩
  rw [valsF_len, hp.len]
  exact h.wf.node a.length x (by rw [e, List.getElem?_append_right (Nat.le_refl _), Nat.sub_self]; rfl)
theorem valsF_snoc (a : List Nd) (x : Nd) (vs : List Rat) : valsF (a ++ [x]) vs = valsF a vs ++ [valNd (valsF a vs) x] := by
  unfold valsF; rw [List.foldl_append]; rfl
theorem vals_step {N : Net} (h : N.dr) {pt : List Rat} (hp : PtOk N pt) {a : List Nd} {x : Nd} {r : List Nd} (e : N.nodes = a ++ x :: r) (hv : ∀ v ∈ valsF a pt, Vb (1 + a.length) v) : ∀ v ∈ valsF (a ++ [x]) pt, Vb (1 + (a ++ [x]).length) v := by
  intro v hm
  rw [valsF_snoc] at hm
  rw [List.length_append]
  rcases List.mem_append.mp hm with q | q
  · exact (hv v q).mono (by simp)
  · rw [List.mem_singleton] at q; subst q
    exact val_vb (by omega) hv (h.at hp e)
theorem vals_all {N : Net} (h : N.dr) {pt : List Rat} (hp : PtOk N pt) (a r : List Nd) (e : N.nodes = a ++ r) : ∀ v ∈ valsF a pt, Vb (1 + a.length) v := by
  obtain ⟨n, hn⟩ : ∃ n, a.length = n := ⟨_, rfl⟩
  induction n generalizing a r with
  | zero => rw [List.length_eq_zero_iff] at hn; subst hn; exact hp.vb
  | succ n ih =>
    rcases List.eq_nil_or_concat a with h0 | ⟨a', x, rfl⟩
    · rw [h0] at hn; cases hn
    · have e' : N.nodes = a' ++ x :: r := by rw [e, List.concat_eq_append, List.append_assoc]; rfl
      rw [List.concat_eq_append]
      exact vals_step h hp e' (ih _ _ e' (by simpa using hn))
section
variable {T : Tab}
theorem c_values_by [Has T "common_divisor" f_common_divisor] [Has T "greater" f_greater] [Has T "greatest_of" f_greatest_of] [Has T "is_less" f_is_less] [Has T "least_of" f_least_of] [Has T "lesser" f_lesser] [Has T "lowest" f_lowest] [Has T "node_value" f_node_value] [Has T "plus" f_plus] [Has T "times" f_times] [Has T "values_by" f_values_by] {n : Nat} (hn : 8 ≤ n) {N : Net} (h : N.dr) {pt : List Rat} (hp : PtOk N pt) : callN T up0 n "values_by" [N.enc, .lst false (pt.map fr)] = some (.ok (.lst true ((N.vals pt).map fr)) .non) := by
  have n24 := h.wf.n24
  refine WC.eq ?_
  (refine w_fn (by omega) rfl ?_; simp only [f_values_by, List.map_cons, List.map_nil, List.length_cons, List.length_nil, Nat.reduceAdd, Nat.reduceSub, List.reduceReplicate, List.cons_append, List.nil_append, List.append_nil, List.replicate_zero])
  bv_omega
  refine ⟨pures_map fun _ _ => Pu.pu, ?_⟩
  refine w_forl (xs := N.nodes) (fun a r ρ => ∃ t, ρ = [some N.enc, some (.lst false (pt.map fr)), some (.lst true ((valsF a pt).map fr)), t] ∧ ∀ v ∈ valsF a pt, Vb (1 + a.length) v) ⟨none, rfl, hp.vb⟩ ?_ ?_
  · rintro a x r ρ e ⟨t, rfl, hv⟩
    have hl : a.length + (r.length + 1) = N.nodes.length := by rw [e, List.length_append, List.length_cons]
    have hpl := hp.len; have i4 := h.wf.i4
    bv_omega
    refine WC.ok (c_node_value (T := T) (k := 1 + a.length) (by omega) (by omega) (by omega) hv (h.at hp e)) ⟨⟨rfl, rfl⟩, ?_⟩
    bv_omega
    refine wLt.mk (by rw [List.length_map, valsF_len]; omega) ?_
    bv_omega
    refine ⟨some x.enc, ?_, vals_step h hp e hv⟩
    rw [valsF_snoc, List.map_append]; rfl
  · rintro ρ ⟨t, rfl, hv⟩
    bv_omega
    exact ⟨rfl, rfl⟩
theorem c_outs_by [Has T "common_divisor" f_common_divisor] [Has T "greater" f_greater] [Has T "greatest_of" f_greatest_of] [Has T "is_less" f_is_less] [Has T "least_of" f_least_of] [Has T "lesser" f_lesser] [Has T "lowest" f_lowest] [Has T "node_value" f_node_value] [Has T "outs_by" f_outs_by] [Has T "plus" f_plus] [Has T "times" f_times] [Has T "values_by" f_values_by] {n : Nat} (hn : 9 ≤ n) {N : Net} (h : N.dr) {pt : List Rat} (hp : PtOk N pt) : callN T up0 n "outs_by" [N.enc, .lst false (pt.map fr)] = some (.ok (.lst false ((N.outv pt).map fr)) .non) := by
  have o4 := h.wf.o4
  refine WC.eq ?_
  (refine w_fn (by omega) rfl ?_; simp only [f_outs_by, List.map_cons, List.map_nil, List.length_cons, List.length_nil, Nat.reduceAdd, Nat.reduceSub, List.reduceReplicate, List.cons_append, List.nil_append, List.append_nil, List.replicate_zero])
  bv_omega
  refine WC.ok (c_values_by (T := T) (by omega) h hp) ?_
  bv_omega
  refine wv_compt pl N.outs (fun p => fr (gv (N.vals pt) p)) rfl ?_ (pures_map fun _ _ => rfl) (by omega) (fun p hq => ?_) ?_
  · bv_omega; exact ⟨rfl, rfl⟩
  · bv_omega
    refine wx_gv (by show p < (valsF N.nodes pt).length; rw [valsF_len, hp.len]; exact h.wf.out p hq) ?_
    bv_omega
    exact ⟨rfl, rfl⟩
  · have e : N.outs.map (fun p => fr (gv (N.vals pt) p)) = (N.outv pt).map fr := by unfold Net.outv; rw [List.map_map]; rfl
    rw [e]
    bv_omega
    exact ⟨rfl, rfl⟩
theorem c_summed [Has T "_law_lowest" f_law_lowest] [Has T "_law_plus" f_law_plus] [Has T "_law_summed" f_law_summed] {n : Nat} (hn : 4 ≤ n) {xs : List Rat} (hl : xs.length ≤ 1000) (hx : ∀ x ∈ xs, Rs 3000 x) (hs : ∀ a r, xs = a ++ r → Rs 3000 (a.foldl (· + ·) 0)) : callN T up0 n "_law_summed" [.lst false (xs.map fr)] = some (.ok (fr (xs.foldl (· + ·) 0)) .non) := by
  refine WC.eq ?_
  (refine w_fn (by omega) rfl ?_; simp only [f_law_summed, List.map_cons, List.map_nil, List.length_cons, List.length_nil, Nat.reduceAdd, Nat.reduceSub, List.reduceReplicate, List.cons_append, List.nil_append, List.append_nil, List.replicate_zero])
  bv_omega
  refine ⟨pures_map fun _ _ => rfl, ?_⟩
  refine w_forl (xs := xs) (fun a r ρ => ∃ t, ρ = [some (.lst false (xs.map fr)), some (fr (a.foldl (· + ·) 0)), t]) ⟨none, rfl⟩ ?_ ?_
  · rintro a x r ρ e ⟨t, rfl⟩
    bv_omega
    refine WC.ok (c_lplus (T := T) (by omega) (hs a (x :: r) e) (hx x (by rw [e]; simp))) ?_
    bv_omega
    exact ⟨_, by rw [List.foldl_append]; rfl⟩
  · rintro ρ ⟨t, rfl⟩
    bv_omega
    exact ⟨rfl, rfl⟩
theorem sumL_fold (vs : List Rat) (ps : List (Nat × Rat)) (c : Rat) : (ps.map fun x => x.2 * gv vs x.1).foldl (· + ·) c = sumL vs ps c := by
  unfold sumL; rw [List.foldl_map]
theorem c_law_values [Has T "_law_below" f_law_below] [Has T "_law_greater" f_law_greater] [Has T "_law_lesser" f_law_lesser] [Has T "_law_lowest" f_law_lowest] [Has T "_law_plus" f_law_plus] [Has T "_law_summed" f_law_summed] [Has T "_law_times" f_law_times] [Has T "_law_values" f_law_values] {n : Nat} (hn : 8 ≤ n) {N : Net} (h : N.dr) {pt : List Rat} (hp : PtOk N pt) : callN T up0 n "_law_values" [N.enc, .lst false (pt.map fr)] = some (.ok (.lst false ((N.vals pt).map fr)) .non) := by
  have n24 := h.wf.n24
  refine WC.eq ?_
  (refine w_fn (by omega) rfl ?_; simp only [f_law_values, List.map_cons, List.map_nil, List.length_cons, List.length_nil, Nat.reduceAdd, Nat.reduceSub, List.reduceReplicate, List.cons_append, List.nil_append, List.append_nil, List.replicate_zero])
  bv_omega
  refine ⟨pures_map fun _ _ => Pu.pu, ?_⟩
  refine w_forl (xs := N.nodes) (fun a r ρ => ∃ t3 t4 t5, ρ = [some N.enc, some (.lst false (pt.map fr)), some (.lst true ((valsF a pt).map fr)), t3, t4, t5, none] ∧ ∀ v ∈ valsF a pt, Vb (1 + a.length) v) ⟨none, none, none, rfl, hp.vb⟩ ?_ ?_
  · rintro a x r ρ e ⟨t3, t4, t5, rfl, hv⟩
    have hl : a.length + (r.length + 1) = N.nodes.length := by rw [e, List.length_append, List.length_cons]
    have hpl := hp.len; have i4 := h.wf.i4
    obtain ⟨hw, hs⟩ := h.at hp e
    have hval := valsF_snoc a x pt
    have hstep := vals_step h hp e hv
    have hlen : (valsF a pt).length ≤ 100 := by rw [valsF_len]; omega
    revert hv hw hval hlen
    generalize valsF a pt = vs
    intro hv hw hval hlen
    have hvr : ∀ p, p < vs.length → Rs 3000 (gv vs p) := fun p hp => (hv _ (gv_mem hp)).rs (by omega)
    cases x with
    | sum ps c =>
      show WO (assignT _ (.tup [.str (Str.ofString "sum"), .lst false (ps.map pr), fr c]) _) _
      have hm : ∀ y ∈ ps, Vb (1 + a.length + 1) (y.2 * gv vs y.1) := fun y hy => ((hs.2.1 y hy).bq.mul (hv _ (gv_mem (hw.2 y hy).1))).mono (by rw [Nat.pow_succ, Nat.mul_comm]; exact Nat.dvd_refl _) (by rw [Nat.pow_succ]; omega)
      have hsum : ∀ b q, ps = b ++ q → Vb (1 + a.length + 1) (sumL vs b 0) := fun b q e => sum_vb hv (fun y hy => ⟨(hw.2 y (by rw [e]; simp [hy])).1, hs.2.1 y (by rw [e]; simp [hy])⟩) (by have := hs.1; rw [e, List.length_append] at this; omega) (zero_vb.mono (Nat.dvd_refl _) (Nat.zero_le _)) (by omega)
      bv_omega
      refine wI.t' (by decide) ?_
      bv_omega
      refine wv_comp2 (fun y => pl y.1) (fun y => fr y.2) ps (fun _ => true) (fun y => fr (y.2 * gv vs y.1)) rfl (by decide) ?_ (pures_map fun _ _ => rfl) (by have := hs.1; omega) (fun y hy => ?_) (fun y hy _ => ?_) ?_
      · bv_omega; exact ⟨rfl, rfl⟩
      · bv_omega; exact ⟨rfl, rfl⟩
      · bv_omega
        refine wx_gv (hw.2 y hy).1 ?_
        bv_omega
        refine WC.ok (c_ltimes (T := T) (by omega) (Vb.rs (k := 1) ((hs.2.1 y hy).bq.mono (N' := 6 ^ 1) (M' := 10 ^ 1) (by decide) (by decide)) (by decide)) (hvr _ (hw.2 y hy).1)) ?_
        bv_omega
        exact ⟨rfl, rfl⟩
      · have e1 : ((ps.filter fun _ => true).map fun y => fr (y.2 * gv vs y.1)) = (ps.map fun y => y.2 * gv vs y.1).map fr := by rw [List.filter_eq_self.mpr (fun _ _ => rfl), List.map_map]; rfl
        rw [e1]
        bv_omega
        refine WC.ok (c_summed (T := T) (by omega) (by rw [List.length_map]; have := hs.1; omega) (fun z hz => ?_) (fun b q e2 => ?_)) ?_
        · obtain ⟨y, hy, rfl⟩ := List.mem_map.mp hz
          exact (hm y hy).rs (by omega)
        · obtain ⟨b', q', e3, e4, _⟩ := List.map_eq_append_iff.mp e2
          rw [← e4, sumL_fold]
          exact (hsum b' q' e3).rs (by omega)
        rw [sumL_fold]
        bv_omega
        refine WC.ok (c_lplus (T := T) (by omega) (Vb.rs (k := 1) (hs.2.2.bq.mono (N' := 6 ^ 1) (M' := 10 ^ 1) (by decide) (by decide)) (by decide)) ((hsum ps [] (by simp)).rs (by omega))) ?_
        rw [← sumL_add]
        bv_omega
        refine wLt.mk (by rw [List.length_map]; omega) ?_
        bv_omega
        rw [hval] at hstep
        rw [hval, List.map_append]
        exact ⟨_, _, _, rfl, hstep⟩
    | hinge p =>
      show WO (assignT _ (.tup [.str (Str.ofString "hinge"), pl p]) _) _
      bv_omega
      refine wI.f' (by decide) ?_
      bv_omega
      refine wI.t' (by decide) ?_
      bv_omega
      refine wx_gv hw ?_
      bv_omega
      rw [← fr_zero]
      refine WC.ok (c_lgreater (T := T) (by omega) (Vb.rs (k := 1) (zero_vb.mono (Nat.dvd_refl _) (Nat.zero_le _)) (by decide)) (hvr _ hw)) ?_
      bv_omega
      refine wLt.mk (by rw [List.length_map]; omega) ?_
      bv_omega
      rw [hval] at hstep
      rw [hval, List.map_append]
      exact ⟨_, _, _, rfl, hstep⟩
    | ext g ps =>
      show WO (assignT _ (.tup [.str (wMost g), .lst false (ps.map pl)]) _) _
      have hp1 := hw.1
      cases ps with
      | nil => simp at hp1
      | cons p ps =>
        bv_omega
        refine wI.f' (by cases g <;> decide) ?_
        bv_omega
        refine wI.f' (by cases g <;> decide) ?_
        bv_omega
        refine WO.mk (idx_l (x := pl p) (atI_en pl (p :: ps) (k := 0) (by omega) (by rw [List.length_cons]; omega)) rfl) ?_
        bv_omega
        refine wx_gv (hw.2.2.2 p (by simp)) ?_
        bv_omega
        refine ⟨pures_map (f := pl) (xs := p :: ps) fun _ _ => rfl, ?_⟩
        refine w_forl (en := pl) (xs := p :: ps) (fun b q ρ => ∃ t5, ρ = [some N.enc, some (.lst false (pt.map fr)), some (.lst true (vs.map fr)), some (.tup [.str (wMost g), .lst false ((p :: ps).map pl)]), some (fr ((b.map (gv vs)).foldl (if g then mxQ else mnQ) (gv vs p))), t5, none]) ⟨_, rfl⟩ ?_ ?_
        · rintro b y q ρ eb ⟨t5, rfl⟩
          have hy := hw.2.2.2 y (by rw [eb]; simp)
          have hfm : Rs 3000 ((b.map (gv vs)).foldl (if g then mxQ else mnQ) (gv vs p)) := by
            have hmem : ∀ z ∈ gv vs p :: b.map (gv vs), Rs 3000 z := fun z hz => by
              rcases List.mem_cons.mp hz with h | h
              · rw [h]; exact hvr _ (hw.2.2.2 p (by simp))
              · obtain ⟨w, hw', rfl⟩ := List.mem_map.mp h
                exact hvr _ (hw.2.2.2 w (by rw [eb]; simp [hw']))
            cases g
            · exact hmem _ (mnF_mem _ _)
            · exact hmem _ (mxF_mem _ _)
          cases g with
          | true =>
            bv_omega
            refine wI.t' (by decide) ?_
            bv_omega
            refine wx_gv hy ?_
            bv_omega
            refine WC.ok (c_lgreater (T := T) (by omega) hfm (hvr _ hy)) ?_
            bv_omega
            exact ⟨_, by rw [List.map_append, List.foldl_append]; rfl⟩
          | false =>
            bv_omega
            refine wI.f' (by decide) ?_
            bv_omega
            refine wx_gv hy ?_
            bv_omega
            refine WC.ok (c_llesser (T := T) (by omega) hfm (hvr _ hy)) ?_
            bv_omega
            exact ⟨_, by rw [List.map_append, List.foldl_append]; rfl⟩
        · rintro ρ ⟨t5, rfl⟩
          bv_omega
          refine wLt.mk (by rw [List.length_map]; omega) ?_
          bv_omega
          rw [hval] at hstep
          rw [hval, List.map_append]
          have e2 : ((p :: ps).map (gv vs)).foldl (if g = true then mxQ else mnQ) (gv vs p) = valNd vs (.ext g (p :: ps)) := by
            cases g
            · show ((p :: ps).map (gv vs)).foldl mnQ (gv vs p) = mnL ((p :: ps).map (gv vs))
              rw [List.map_cons, List.foldl_cons, mnQ_self]; rfl
            · show ((p :: ps).map (gv vs)).foldl mxQ (gv vs p) = mxL ((p :: ps).map (gv vs))
              rw [List.map_cons, List.foldl_cons, mxQ_self]; rfl
          rw [← e2] at hstep ⊢
          exact ⟨_, _, _, rfl, hstep⟩
  · rintro ρ ⟨t3, t4, t5, rfl, hv⟩
    bv_omega
    exact ⟨rfl, rfl⟩
theorem c_law_outs [Has T "_law_below" f_law_below] [Has T "_law_greater" f_law_greater] [Has T "_law_lesser" f_law_lesser] [Has T "_law_lowest" f_law_lowest] [Has T "_law_outs" f_law_outs] [Has T "_law_plus" f_law_plus] [Has T "_law_summed" f_law_summed] [Has T "_law_times" f_law_times] [Has T "_law_values" f_law_values] {n : Nat} (hn : 9 ≤ n) {N : Net} (h : N.dr) {pt : List Rat} (hp : PtOk N pt) : callN T up0 n "_law_outs" [N.enc, .lst false (pt.map fr)] = some (.ok (.lst false ((N.outv pt).map fr)) .non) := by
  have o4 := h.wf.o4
  refine WC.eq ?_
  (refine w_fn (by omega) rfl ?_; simp only [f_law_outs, List.map_cons, List.map_nil, List.length_cons, List.length_nil, Nat.reduceAdd, Nat.reduceSub, List.reduceReplicate, List.cons_append, List.nil_append, List.append_nil, List.replicate_zero])
  bv_omega
  refine WC.ok (c_law_values (T := T) (by omega) h hp) ?_
  bv_omega
  refine wv_compt pl N.outs (fun p => fr (gv (N.vals pt) p)) rfl ?_ (pures_map fun _ _ => rfl) (by omega) (fun p hq => ?_) ?_
  · bv_omega; exact ⟨rfl, rfl⟩
  · bv_omega
    refine wx_gv (by show p < (valsF N.nodes pt).length; rw [valsF_len, hp.len]; exact h.wf.out p hq) ?_
    bv_omega
    exact ⟨rfl, rfl⟩
  · have e : N.outs.map (fun p => fr (gv (N.vals pt) p)) = (N.outv pt).map fr := by unfold Net.outv; rw [List.map_map]; rfl
    rw [e]
    bv_omega
    exact ⟨rfl, rfl⟩
end

set_option maxHeartbeats 4000000
set_option synthInstance.maxSize 128
set_option synthInstance.maxHeartbeats 20000
mutual
/-- what _law_same goes through -/
def smD : D → Bool
  | .int _ | .non | .bl _ | .str _ => true
  | .tup xs => decide (xs.length ≤ 100000) && smDs xs
  | .lst o xs => !o && decide (xs.length ≤ 100000) && smDs xs
  | _ => false
def smDs : List D → Bool
  | [] => true
  | d :: ds => smD d && smDs ds
end
mutual
theorem smD_pure : ∀ d : D, smD d = true → d.pure = true
  | .int i, _ | .non, _ | .bl _, _ | .str _, _ => rfl
  | .tup xs, h => by
    have h' := Bool.and_eq_true_iff.mp (by simpa [smD] using h : (decide (xs.length ≤ 100000) && smDs xs) = true)
    rw [D.pure]; exact smDs_pure xs h'.2
  | .lst o xs, h => by
    have h' : (o = false ∧ xs.length ≤ 100000) ∧ smDs xs = true := by simpa [smD] using h
    rw [D.pure, h'.1.1, smDs_pure xs h'.2]; rfl
  | .edic, h | .fn _, h | .cls _, h | .exc _ _, h | .scr _, h => by simp [smD] at h
theorem smDs_pure : ∀ ds : List D, smDs ds = true → D.pures ds = true
  | [], _ => rfl
  | d :: ds, h => by
    have h' := Bool.and_eq_true_iff.mp (by simpa [smDs] using h)
    rw [D.pures, smD_pure d h'.1, smDs_pure ds h'.2]; rfl
end
theorem smDs_mem {ds : List D} (h : smDs ds = true) {d : D} (hd : d ∈ ds) : smD d = true := by
  induction ds with
  | nil => cases hd
  | cons a ds ih =>
    rw [smDs, Bool.and_eq_true] at h
    rcases List.mem_cons.mp hd with e | e
    · rw [e]; exact h.1
    · exact ih h.2 e
theorem smDs_of {ds : List D} (h : ∀ d ∈ ds, smD d = true) : smDs ds = true := by
  induction ds with
  | nil => rfl
  | cons a ds ih => rw [smDs, h a List.mem_cons_self, ih fun d hd => h d (List.mem_cons_of_mem _ hd)]; rfl
section
variable {T : Tab}
theorem same_items [Has T "_law_same" f_law_same] {n : Nat} {a : D} {xs : List D} (t : Bool) (ha : a = if t then .tup xs else .lst false xs) (hx : smDs xs = true) (hl : xs.length ≤ 100000) (ih : ∀ x ∈ xs, callN T up0 n "_law_same" [x, x] = some (.ok (.bl true) .non)) {k : D → VI.Env → Prop} {X : String → D → VI.Env → Prop} (h : k (.bl true) [some a, some a, none]) :
    W ((ev (callN T up0 n) (.cmp .Eq (.comp [("at", 2)] (.n 2) (.rng (.bi .len (.cons (.var 1) .nil))) (.not (.call "_law_same" (.cons (.idx (.var 0) (.var 2)) (.cons (.idx (.var 1) (.var 2)) .nil)))) (.var 2)) (.lst .nil))).v [some a, some a, none]) k X := by
  haveI : Pus xs := ⟨smDs_pure xs hx⟩
  have hidx : ∀ (p : Nat), p < xs.length → ∃ x ∈ xs, idxD a (.int (p : Nat)) = some x ∧ x.pure = true := fun p hp => by
    obtain ⟨x, e, hm⟩ := atI_some (xs := xs) (k := (p : Nat)) (by omega) (by omega)
    have hpx := smD_pure x (smDs_mem hx hm)
    refine ⟨x, hm, ?_, hpx⟩
    rw [ha]; cases t
    · exact idx_l e hpx
    · exact idx_tI e hpx
  haveI hpa : Pu a := by rw [ha]; cases t <;> (simp only [if_true, if_false, Bool.false_eq_true]; infer_instance)
  have hit : ∀ {kk : D → VI.Env → Prop}, kk (.tup ((List.range xs.length).map pl)) [some a, some a, none] → W ((ev (callN T up0 n) (.rng (.bi .len (.cons (.var 1) .nil)))).it [some a, some a, none]) kk XF := fun {kk} hk => by
    have e : rangeD 0 ((xs.length : Nat) : Int) = (List.range xs.length).map pl := by rw [rangeD_pl, Int.toNat_natCast]
    rw [ha] at hk ⊢
    cases t <;> (simp only [if_true, if_false, Bool.false_eq_true] at hk ⊢; bv_omega; rw [e]; exact hk)
  bv_omega
  refine wv_compm pl (List.range xs.length) (fun _ => false) pl rfl (hit ⟨rfl, rfl⟩) (pures_map fun _ _ => rfl) (by rw [List.length_range]; omega) (fun p hp => ?_) (fun p hp hf => by cases hf) ?_
  · obtain ⟨x, hm, e, hpx⟩ := hidx p (List.mem_range.mp hp)
    haveI : Pu x := ⟨hpx⟩
    bv_omega
    refine WO.mk e ?_
    bv_omega
    refine WO.mk e ?_
    bv_omega
    refine WC.ok (ih x hm) ?_
    bv_omega
    exact ⟨rfl, rfl⟩
  · have e : (List.range xs.length).filter (fun _ => false) = [] := by simp
    rw [e]
    bv_omega
    refine wo_eq_nil rfl ?_
    exact h
theorem c_same [Has T "_law_same" f_law_same] : ∀ (dd : Nat) (n : Nat) (x : D), dep x ≤ dd → dd + 1 ≤ n → smD x = true → callN T up0 n "_law_same" [x, x] = some (.ok (.bl true) .non)
  | dd, n, x, h1, h2, hs => by
    have hp := smD_pure x hs
    haveI : Pu x := ⟨hp⟩
    refine WC.eq ?_
    (refine w_fn (by omega) rfl ?_; simp only [f_law_same, List.map_cons, List.map_nil, List.length_cons, List.length_nil, Nat.reduceAdd, Nat.reduceSub, List.reduceReplicate, List.cons_append, List.nil_append, List.append_nil, List.replicate_zero])
    cases x with
    | int i => bv_omega; exact ⟨by simp, rfl⟩
    | non => bv_omega; exact ⟨rfl, rfl⟩
    | bl b => 
      cases b
      · bv_omega
        refine wI.f' (by decide) ?_
        bv_omega
        refine wI.t' (by decide) ?_
        bv_omega
        exact ⟨by simp, rfl⟩
      · bv_omega
        refine wI.t' (by decide) ?_
        bv_omega
        exact ⟨by simp, rfl⟩
    | str s => bv_omega; exact ⟨by simp, rfl⟩
    | tup xs =>
      have h' := Bool.and_eq_true_iff.mp (by simpa [smD] using hs : (decide (xs.length ≤ 100000) && smDs xs) = true)
      have hl := of_decide_eq_true h'.1
      have h1' : deps xs + 1 ≤ dd := by rw [dep] at h1; exact h1
      haveI : Pus xs := ⟨smDs_pure xs h'.2⟩
      bv_omega
      refine wI.t' rfl ?_
      bv_omega
      refine wI.t' rfl ?_
      bv_omega
      refine wI.t' (beq_self_eq_true ((xs.length : Nat) : Int)) ?_
      refine same_items (T := T) true rfl h'.2 hl (fun x hx => c_same (dd - 1) (n - 1) x (by have := deps_mem hx; omega) (by omega) (smDs_mem h'.2 hx)) ?_
      bv_omega
      exact ⟨rfl, rfl⟩
    | lst o xs =>
      have h' : (o = false ∧ xs.length ≤ 100000) ∧ smDs xs = true := by simpa [smD] using hs
      obtain ⟨⟨rfl, hl⟩, h2'⟩ := h'
      have h1' : deps xs + 1 ≤ dd := by rw [dep] at h1; exact h1
      haveI : Pus xs := ⟨smDs_pure xs h2'⟩
      bv_omega
      refine wI.t' rfl ?_
      bv_omega
      refine wI.t' rfl ?_
      bv_omega
      refine wI.t' (beq_self_eq_true ((xs.length : Nat) : Int)) ?_
      refine same_items (T := T) false rfl h2' hl (fun x hx => c_same (dd - 1) (n - 1) x (by have := deps_mem hx; omega) (by omega) (smDs_mem h2' hx)) ?_
      bv_omega
      exact ⟨rfl, rfl⟩
    | _ => simp [smD] at hs
end

set_option maxHeartbeats 4000000
set_option synthInstance.maxSize 128
set_option synthInstance.maxHeartbeats 20000
def enumL {α : Type} (k : Nat) : List α → List (Nat × α)
  | [] => []
  | x :: r => (k, x) :: enumL (k + 1) r
theorem enumD_L {α : Type} (en : α → D) (k : Nat) (xs : List α) : enumD k (xs.map en) = (enumL k xs).map fun x => .tup [pl x.1, en x.2] := by
  induction xs generalizing k with
  | nil => rfl
  | cons x r ih => show D.tup [.int (k : Nat), en x] :: enumD (k + 1) (r.map en) = _; rw [ih]; rfl
theorem enumL_mem {α : Type} {k : Nat} {xs : List α} {x : Nat × α} (h : x ∈ enumL k xs) : k ≤ x.1 ∧ xs[x.1 - k]? = some x.2 := by
  induction xs generalizing k with
  | nil => cases h
  | cons a r ih =>
    rcases List.mem_cons.mp h with e | e
    · subst e; simp
    · obtain ⟨h1, h2⟩ := ih e
      refine ⟨by omega, ?_⟩
      rw [show x.1 - k = (x.1 - (k + 1)) + 1 by omega, List.getElem?_cons_succ]; exact h2
theorem enumL_len {α : Type} (k : Nat) (xs : List α) : (enumL k xs).length = xs.length := by
  induction xs generalizing k with
  | nil => rfl
  | cons x r ih => show (enumL (k + 1) r).length + 1 = _; rw [ih]; rfl
/-- the bends, by number -/
def Net.bd (N : Net) : List Nat := ((enumL 0 N.nodes).filter fun x => x.2.bend).map (·.1)
theorem bd_mem {N : Net} {p : Nat} (h : p ∈ N.bd) : ∃ nd, N.nodes[p]? = some nd ∧ nd.bend = true := by
  obtain ⟨x, hx, rfl⟩ := List.mem_map.mp h
  obtain ⟨h1, h2⟩ := List.mem_filter.mp hx
  exact ⟨x.2, (enumL_mem h1).2, h2⟩
theorem bd_len (N : Net) : N.bd.length ≤ N.nodes.length := by
  unfold Net.bd
  rw [List.length_map]
  exact Nat.le_trans (List.length_filter_le _ _) (by rw [enumL_len]; exact Nat.le_refl _)
def Nd.chc : Nd → Nat
  | .sum ps _ => ps.length
  | .hinge _ => 2
  | .ext _ ps => ps.length
def Net.ndAt (N : Net) (p : Nat) : Nd := N.nodes.getD p (.hinge 0)
theorem ndAt_get {N : Net} {p : Nat} (h : p < N.nodes.length) : N.ndAt p = N.nodes[p] := by unfold Net.ndAt; simp [h]
def Net.chs (N : Net) : List Nat := N.bd.map fun p => (N.ndAt p).chc
theorem wx_nd {o : Bool} {N : Net} {p : Nat} {k : D → Prop} (h : p < N.nodes.length) (hk : k (N.ndAt p).enc) : WO (idxD (.lst o (N.nodes.map Nd.enc)) (.int (p : Nat))) k := by
  refine wx_en h ?_
  rw [← ndAt_get h]; exact hk
section
variable {T : Tab} {Γ : Gam} {ρ : VI.Env}
theorem c_bends_of [Has T "bends_of" f_bends_of] {n : Nat} (hn : 1 ≤ n) {N : Net} (hw : N.wf) : callN T up0 n "bends_of" [N.enc] = some (.ok (.lst false (N.bd.map pl)) .non) := by
  have n24 := hw.n24
  refine WC.eq ?_
  (refine w_fn (by omega) rfl ?_; simp only [f_bends_of, List.map_cons, List.map_nil, List.length_cons, List.length_nil, Nat.reduceAdd, Nat.reduceSub, List.reduceReplicate, List.cons_append, List.nil_append, List.append_nil, List.replicate_zero])
  bv_omega
  refine wv_comp2 (fun x => pl x.1) (fun x => x.2.enc) (enumL 0 N.nodes) (fun x => x.2.bend) (fun x => pl x.1) rfl (by decide) ?_ (pures_map fun _ _ => Pu.pu) (by rw [enumL_len]; omega) (fun x hx => ?_) (fun x hx _ => ?_) ?_
  · bv_omega
    exact ⟨by rw [enumD_L], rfl⟩
  · rcases x with ⟨i, nd⟩
    cases nd with
    | sum ps c =>
      show wSet _ _ (some (pl i)) fun ρ => wSet ρ _ (some (.tup [.str (Str.ofString "sum"), .lst false (ps.map pr), fr c])) _
      bv_omega
      exact ⟨rfl, rfl⟩
    | hinge p =>
      show wSet _ _ (some (pl i)) fun ρ => wSet ρ _ (some (.tup [.str (Str.ofString "hinge"), pl p])) _
      bv_omega
      exact ⟨rfl, rfl⟩
    | ext g ps =>
      show wSet _ _ (some (pl i)) fun ρ => wSet ρ _ (some (.tup [.str (wMost g), .lst false (ps.map pl)])) _
      bv_omega
      exact ⟨by cases g <;> rfl, rfl⟩
  · bv_omega
    exact ⟨rfl, rfl⟩
  · have e : (((enumL 0 N.nodes).filter fun x => x.2.bend).map fun x => pl x.1) = N.bd.map pl := by unfold Net.bd; rw [List.map_map]; rfl
    rw [e]
    bv_omega
    exact ⟨rfl, rfl⟩
theorem c_law_bends [Has T "_law_bends" f_law_bends] {n : Nat} (hn : 1 ≤ n) {N : Net} (hw : N.wf) : callN T up0 n "_law_bends" [N.enc] = some (.ok (.lst false (N.bd.map pl)) .non) := by
  have n24 := hw.n24
  refine WC.eq ?_
  (refine w_fn (by omega) rfl ?_; simp only [f_law_bends, List.map_cons, List.map_nil, List.length_cons, List.length_nil, Nat.reduceAdd, Nat.reduceSub, List.reduceReplicate, List.cons_append, List.nil_append, List.append_nil, List.replicate_zero])
  bv_omega
  refine wv_comp2 (fun x => pl x.1) (fun x => x.2.enc) (enumL 0 N.nodes) (fun x => x.2.bend) (fun x => pl x.1) rfl (by decide) ?_ (pures_map fun _ _ => Pu.pu) (by rw [enumL_len]; omega) (fun x hx => ?_) (fun x hx _ => ?_) ?_
  · bv_omega
    exact ⟨by rw [enumD_L], rfl⟩
  · rcases x with ⟨i, nd⟩
    cases nd with
    | sum ps c =>
      show wSet _ _ (some (pl i)) fun ρ => wSet ρ _ (some (.tup [.str (Str.ofString "sum"), .lst false (ps.map pr), fr c])) _
      bv_omega
      exact ⟨rfl, rfl⟩
    | hinge p =>
      show wSet _ _ (some (pl i)) fun ρ => wSet ρ _ (some (.tup [.str (Str.ofString "hinge"), pl p])) _
      bv_omega
      exact ⟨rfl, rfl⟩
    | ext g ps =>
      show wSet _ _ (some (pl i)) fun ρ => wSet ρ _ (some (.tup [.str (wMost g), .lst false (ps.map pl)])) _
      bv_omega
      exact ⟨by cases g <;> rfl, rfl⟩
  · bv_omega
    exact ⟨rfl, rfl⟩
  · have e : (((enumL 0 N.nodes).filter fun x => x.2.bend).map fun x => pl x.1) = N.bd.map pl := by unfold Net.bd; rw [List.map_map]; rfl
    rw [e]
    bv_omega
    exact ⟨rfl, rfl⟩
theorem bd_lt {N : Net} {p : Nat} (h : p ∈ N.bd) : p < N.nodes.length := by
  obtain ⟨nd, e, _⟩ := bd_mem h
  exact (List.getElem?_eq_some_iff.mp e).1
theorem bd_bend {N : Net} {p : Nat} (h : p ∈ N.bd) : (N.ndAt p).bend = true := by
  obtain ⟨nd, e, hb⟩ := bd_mem h
  unfold Net.ndAt
  simp [e, hb]
theorem c_choices_of [Has T "choices_of" f_choices_of] {n : Nat} (hn : 1 ≤ n) {N : Net} {p : Nat} (h : p < N.nodes.length) : callN T up0 n "choices_of" [N.enc, pl p] = some (.ok (.int ((N.ndAt p).chc : Nat)) .non) := by
  refine WC.eq ?_
  (refine w_fn (by omega) rfl ?_; simp only [f_choices_of, List.map_cons, List.map_nil, List.length_cons, List.length_nil, Nat.reduceAdd, Nat.reduceSub, List.reduceReplicate, List.cons_append, List.nil_append, List.append_nil, List.replicate_zero])
  bv_omega
  refine wx_nd h ?_
  cases N.ndAt p with
  | sum ps c =>
    show wSet _ _ (some (.tup [.str (Str.ofString "sum"), .lst false (ps.map pr), fr c])) _
    bv_omega
    refine wI.f' (by decide) ?_
    bv_omega
    exact ⟨by rw [List.length_map]; rfl, rfl⟩
  | hinge p =>
    show wSet _ _ (some (.tup [.str (Str.ofString "hinge"), pl p])) _
    bv_omega
    refine wI.t' (by decide) ?_
    bv_omega
    exact ⟨rfl, rfl⟩
  | ext g ps =>
    show wSet _ _ (some (.tup [.str (wMost g), .lst false (ps.map pl)])) _
    bv_omega
    refine wI.f' (by cases g <;> decide) ?_
    bv_omega
    exact ⟨by rw [List.length_map]; rfl, rfl⟩
theorem c_law_choices [Has T "_law_bends" f_law_bends] [Has T "_law_choices" f_law_choices] {n : Nat} (hn : 2 ≤ n) {N : Net} (hw : N.wf) : callN T up0 n "_law_choices" [N.enc] = some (.ok (.lst false (N.chs.map pl)) .non) := by
  have n24 := hw.n24
  have hbl := bd_len N
  refine WC.eq ?_
  (refine w_fn (by omega) rfl ?_; simp only [f_law_choices, List.map_cons, List.map_nil, List.length_cons, List.length_nil, Nat.reduceAdd, Nat.reduceSub, List.reduceReplicate, List.cons_append, List.nil_append, List.append_nil, List.replicate_zero])
  bv_omega
  (with_reducible refine wv_comp0 (by with_unfolding_all rfl) ?_)
  bv_omega
  refine WC.ok (c_law_bends (T := T) (by omega) hw) ?_
  bv_omega
  refine wCo_m pl N.bd (fun p => pl (N.ndAt p).chc) (pures_map fun _ _ => rfl) (by omega) (fun p hp => ?_) ?_
  · have h := bd_lt hp
    bv_omega
    refine wx_nd h ?_
    have q : ∀ {kk : D → Prop}, kk (N.ndAt p).enc → WO (idxD (.lst false (N.nodes.map Nd.enc)) (.int (p : Nat))) kk := fun hk => wx_nd h hk
    revert q
    cases N.ndAt p with
    | sum ps c =>
      intro q
      bv_omega
      refine wI.f' (by decide) ?_
      bv_omega
      refine q ?_
      bv_omega
      exact ⟨by rw [List.length_map]; rfl, rfl⟩
    | hinge p =>
      intro q
      bv_omega
      refine wI.t' (by decide) ?_
      bv_omega
      exact ⟨rfl, rfl⟩
    | ext g ps =>
      intro q
      bv_omega
      refine wI.f' (by cases g <;> decide) ?_
      bv_omega
      refine q ?_
      bv_omega
      exact ⟨by rw [List.length_map]; rfl, rfl⟩
  · have e : N.bd.map (fun p => pl (N.ndAt p).chc) = N.chs.map pl := by unfold Net.chs; rw [List.map_map]; rfl
    rw [e]
    bv_omega
    exact ⟨rfl, rfl⟩
theorem c_bends [Has T "are_nodes" f_are_nodes] [Has T "are_outs" f_are_outs] [Has T "are_pairs" f_are_pairs] [Has T "are_places" f_are_places] [Has T "bends" f_bends] [Has T "bends_of" f_bends_of] [Has T "check_net" f_check_net] [Has T "common_divisor" f_common_divisor] [Has T "is_fraction" f_is_fraction] [Has T "is_net_by" f_is_net_by] [Has T "is_node" f_is_node] [Has T "is_pair" f_is_pair] [Has T "is_place" f_is_place] [Has T "is_whole" f_is_whole] {n : Nat} (hn : 9 ≤ n) {N : Net} (h : N.dr) : callN T up0 n "bends" [N.enc] = some (.ok (.lst false ((N.bd.map (N.ins + ·)).map pl)) .non) := by
  obtain ⟨n, rfl⟩ : ∃ k, n = k + 9 := ⟨n - 9, by omega⟩
  have n24 := h.wf.n24
  have hbl := bd_len N
  have hk := (Ok.net h.wf h.sm (by decide)).ok
  have hc := c_check_net (T := T) n N.enc hk
  rw [isNet_enc h.wf] at hc
  refine WC.eq ?_
  (refine w_fn (by omega) rfl ?_; simp only [f_bends, List.map_cons, List.map_nil, List.length_cons, List.length_nil, Nat.reduceAdd, Nat.reduceSub, List.reduceReplicate, List.cons_append, List.nil_append, List.append_nil, List.replicate_zero])
  rw [show n + 9 - 1 = n + 8 from rfl]
  bv_omega
  refine WC.ok hc ?_
  bv_omega
  (with_reducible refine wv_comp0 (by with_unfolding_all rfl) ?_)
  bv_omega
  refine WC.ok (c_bends_of (T := T) (by omega) h.wf) ?_
  bv_omega
  refine wCo_m pl N.bd (fun p => pl (N.ins + p)) (pures_map fun _ _ => rfl) (by omega) (fun p hp => ?_) ?_
  · bv_omega
    exact ⟨by rw [show ((N.ins : Nat) : Int) + (p : Nat) = ((N.ins + p : Nat) : Int) by omega], rfl⟩
  · have e : N.bd.map (fun p => pl (N.ins + p)) = (N.bd.map (N.ins + ·)).map pl := by rw [List.map_map]; rfl
    rw [e]
    bv_omega
    exact ⟨rfl, rfl⟩
theorem c_choices [Has T "are_nodes" f_are_nodes] [Has T "are_outs" f_are_outs] [Has T "are_pairs" f_are_pairs] [Has T "are_places" f_are_places] [Has T "bends_of" f_bends_of] [Has T "check_net" f_check_net] [Has T "choices" f_choices] [Has T "choices_of" f_choices_of] [Has T "common_divisor" f_common_divisor] [Has T "is_fraction" f_is_fraction] [Has T "is_net_by" f_is_net_by] [Has T "is_node" f_is_node] [Has T "is_pair" f_is_pair] [Has T "is_place" f_is_place] [Has T "is_whole" f_is_whole] {n : Nat} (hn : 9 ≤ n) {N : Net} (h : N.dr) : callN T up0 n "choices" [N.enc] = some (.ok (.lst false (N.chs.map pl)) .non) := by
  obtain ⟨n, rfl⟩ : ∃ k, n = k + 9 := ⟨n - 9, by omega⟩
  have n24 := h.wf.n24
  have hbl := bd_len N
  have hk := (Ok.net h.wf h.sm (by decide)).ok
  have hc := c_check_net (T := T) n N.enc hk
  rw [isNet_enc h.wf] at hc
  refine WC.eq ?_
  (refine w_fn (by omega) rfl ?_; simp only [f_choices, List.map_cons, List.map_nil, List.length_cons, List.length_nil, Nat.reduceAdd, Nat.reduceSub, List.reduceReplicate, List.cons_append, List.nil_append, List.append_nil, List.replicate_zero])
  rw [show n + 9 - 1 = n + 8 from rfl]
  bv_omega
  refine WC.ok hc ?_
  bv_omega
  (with_reducible refine wv_comp0 (by with_unfolding_all rfl) ?_)
  bv_omega
  refine WC.ok (c_bends_of (T := T) (by omega) h.wf) ?_
  bv_omega
  refine wCo_m pl N.bd (fun p => pl (N.ndAt p).chc) (pures_map fun _ _ => rfl) (by omega) (fun p hp => ?_) ?_
  · bv_omega
    refine WC.ok (c_choices_of (T := T) (by omega) (bd_lt hp)) ?_
    bv_omega
    exact ⟨rfl, rfl⟩
  · have e : N.bd.map (fun p => pl (N.ndAt p).chc) = N.chs.map pl := by unfold Net.chs; rw [List.map_map]; rfl
    rw [e]
    bv_omega
    exact ⟨rfl, rfl⟩
theorem c_check_point [Has T "are_fractions" f_are_fractions] [Has T "check_point" f_check_point] [Has T "common_divisor" f_common_divisor] [Has T "is_fraction" f_is_fraction] [Has T "is_point_by" f_is_point_by] [Has T "is_whole" f_is_whole] (n : Nat) {N : Net} {v : D} (h : okD v = true) : callN T up0 (n + 5) "check_point" [N.enc, v] = if isPoint N.ins v then some (.ok .non .non) else some (.ex "InvalidPoint" v) := by
  haveI : Pu v := ⟨okD_pure v h⟩
  have c1 := c_is_point_by (T := T) (n) v N.ins h
  cases hp : isPoint N.ins v with
  | true =>
    refine WC.eq ?_
    (refine w_fn (by omega) rfl ?_; simp only [f_check_point, List.map_cons, List.map_nil, List.length_cons, List.length_nil, Nat.reduceAdd, Nat.reduceSub, List.reduceReplicate, List.cons_append, List.nil_append, List.append_nil, List.replicate_zero])
    rw [show n + 5 - 1 = n + 4 from rfl]
    bv_omega
    refine WC.ok c1 ?_
    rw [hp]
    bv_omega
    exact ⟨rfl, rfl⟩
  | false =>
    refine WC.eqx ?_
    (refine w_fn (by omega) rfl ?_; simp only [f_check_point, List.map_cons, List.map_nil, List.length_cons, List.length_nil, Nat.reduceAdd, Nat.reduceSub, List.reduceReplicate, List.cons_append, List.nil_append, List.append_nil, List.replicate_zero])
    rw [show n + 5 - 1 = n + 4 from rfl]
    bv_omega
    refine WC.ok c1 ?_
    rw [hp]
    bv_omega
    exact ⟨Pu.pu, rfl, rfl⟩
theorem isPoint_fr {pt : List Rat} {m : Nat} (h : pt.length = m) : isPoint (m : Int) (.lst false (pt.map fr)) = true := by
  show ((((pt.map fr).length : Nat) : Int) == (m : Int) && (pt.map fr).all isFrac) = true
  have e : (pt.map fr).all isFrac = true := by
    rw [List.all_eq_true]
    intro d hd
    obtain ⟨q, _, rfl⟩ := List.mem_map.mp hd
    exact isFrac_fr q
  rw [e, List.length_map, h]; simp
/-- a point of small numbers -/
def PtSm (pt : List Rat) : Prop := ∀ q ∈ pt, q.num.natAbs < 100000000 ∧ q.den < 100000000
theorem pt_ok {pt : List Rat} (h : PtSm pt) (hl : pt.length ≤ 100) : Ok 7000 6 (.lst false (pt.map fr)) := by
  have kq : Oks 6900 5 (pt.map fr) := (Oks.map fun x hx => Ok.fr (dp := 4) (h x hx).1 (h x hx).2).mono (by omega) (Nat.le_refl _)
  exact (kq.lst (by rw [List.length_map]; omega)).mono (by omega) (Nat.le_refl _)
theorem c_values_at [Has T "are_fractions" f_are_fractions] [Has T "are_nodes" f_are_nodes] [Has T "are_outs" f_are_outs] [Has T "are_pairs" f_are_pairs] [Has T "are_places" f_are_places] [Has T "check_net" f_check_net] [Has T "check_point" f_check_point] [Has T "common_divisor" f_common_divisor] [Has T "greater" f_greater] [Has T "greatest_of" f_greatest_of] [Has T "is_fraction" f_is_fraction] [Has T "is_less" f_is_less] [Has T "is_net_by" f_is_net_by] [Has T "is_node" f_is_node] [Has T "is_pair" f_is_pair] [Has T "is_place" f_is_place] [Has T "is_point_by" f_is_point_by] [Has T "is_whole" f_is_whole] [Has T "least_of" f_least_of] [Has T "lesser" f_lesser] [Has T "lowest" f_lowest] [Has T "node_value" f_node_value] [Has T "plus" f_plus] [Has T "times" f_times] [Has T "values_at" f_values_at] [Has T "values_by" f_values_by] {n : Nat} (hn : 9 ≤ n) {N : Net} (h : N.dr) {pt : List Rat} (hp : PtOk N pt) (hs : PtSm pt) : callN T up0 n "values_at" [N.enc, .lst false (pt.map fr)] = some (.ok (.lst true ((N.vals pt).map fr)) .non) := by
  obtain ⟨n, rfl⟩ : ∃ k, n = k + 9 := ⟨n - 9, by omega⟩
  have i4 := h.wf.i4
  have hc := c_check_net (T := T) n N.enc (Ok.net h.wf h.sm (by decide)).ok
  rw [isNet_enc h.wf] at hc
  have hcp := c_check_point (T := T) (n + 3) (N := N) (pt_ok hs (by rw [hp.len]; omega)).ok
  rw [isPoint_fr hp.len] at hcp
  refine WC.eq ?_
  (refine w_fn (by omega) rfl ?_; simp only [f_values_at, List.map_cons, List.map_nil, List.length_cons, List.length_nil, Nat.reduceAdd, Nat.reduceSub, List.reduceReplicate, List.cons_append, List.nil_append, List.append_nil, List.replicate_zero])
  rw [show n + 9 - 1 = n + 8 from rfl]
  bv_omega
  refine WC.ok hc ?_
  bv_omega
  refine WC.ok hcp ?_
  bv_omega
  refine WC.ok (c_values_by (T := T) (by omega) h hp) ?_
  bv_omega
  exact ⟨rfl, rfl⟩
theorem c_outs_at [Has T "are_fractions" f_are_fractions] [Has T "are_nodes" f_are_nodes] [Has T "are_outs" f_are_outs] [Has T "are_pairs" f_are_pairs] [Has T "are_places" f_are_places] [Has T "check_net" f_check_net] [Has T "check_point" f_check_point] [Has T "common_divisor" f_common_divisor] [Has T "greater" f_greater] [Has T "greatest_of" f_greatest_of] [Has T "is_fraction" f_is_fraction] [Has T "is_less" f_is_less] [Has T "is_net_by" f_is_net_by] [Has T "is_node" f_is_node] [Has T "is_pair" f_is_pair] [Has T "is_place" f_is_place] [Has T "is_point_by" f_is_point_by] [Has T "is_whole" f_is_whole] [Has T "least_of" f_least_of] [Has T "lesser" f_lesser] [Has T "lowest" f_lowest] [Has T "node_value" f_node_value] [Has T "outs_at" f_outs_at] [Has T "outs_by" f_outs_by] [Has T "plus" f_plus] [Has T "times" f_times] [Has T "values_by" f_values_by] {n : Nat} (hn : 10 ≤ n) {N : Net} (h : N.dr) {pt : List Rat} (hp : PtOk N pt) (hs : PtSm pt) : callN T up0 n "outs_at" [N.enc, .lst false (pt.map fr)] = some (.ok (.lst false ((N.outv pt).map fr)) .non) := by
  obtain ⟨n, rfl⟩ : ∃ k, n = k + 9 := ⟨n - 9, by omega⟩
  have i4 := h.wf.i4
  have hc := c_check_net (T := T) n N.enc (Ok.net h.wf h.sm (by decide)).ok
  rw [isNet_enc h.wf] at hc
  have hcp := c_check_point (T := T) (n + 3) (N := N) (pt_ok hs (by rw [hp.len]; omega)).ok
  rw [isPoint_fr hp.len] at hcp
  refine WC.eq ?_
  (refine w_fn (by omega) rfl ?_; simp only [f_outs_at, List.map_cons, List.map_nil, List.length_cons, List.length_nil, Nat.reduceAdd, Nat.reduceSub, List.reduceReplicate, List.cons_append, List.nil_append, List.append_nil, List.replicate_zero])
  rw [show n + 9 - 1 = n + 8 from rfl]
  bv_omega
  refine WC.ok hc ?_
  bv_omega
  refine WC.ok hcp ?_
  bv_omega
  refine WC.ok (c_outs_by (T := T) (by omega) h hp) ?_
  bv_omega
  exact ⟨rfl, rfl⟩
/-- a refused net -/
theorem c_values_at_net [Has T "are_nodes" f_are_nodes] [Has T "are_outs" f_are_outs] [Has T "are_pairs" f_are_pairs] [Has T "are_places" f_are_places] [Has T "check_net" f_check_net] [Has T "common_divisor" f_common_divisor] [Has T "is_fraction" f_is_fraction] [Has T "is_net_by" f_is_net_by] [Has T "is_node" f_is_node] [Has T "is_pair" f_is_pair] [Has T "is_place" f_is_place] [Has T "is_whole" f_is_whole] [Has T "values_at" f_values_at] {n : Nat} (hn : 9 ≤ n) {v w : D} (hv : okD v = true) (hz : isNet v = false) [Pu w] : callN T up0 n "values_at" [v, w] = some (.ex "InvalidNet" v) := by
  obtain ⟨n, rfl⟩ : ∃ k, n = k + 9 := ⟨n - 9, by omega⟩
  haveI : Pu v := ⟨okD_pure v hv⟩
  have hc := c_check_net (T := T) n v hv
  rw [hz] at hc
  refine WC.eqx ?_
  (refine w_fn (by omega) rfl ?_; simp only [f_values_at, List.map_cons, List.map_nil, List.length_cons, List.length_nil, Nat.reduceAdd, Nat.reduceSub, List.reduceReplicate, List.cons_append, List.nil_append, List.append_nil, List.replicate_zero])
  rw [show n + 9 - 1 = n + 8 from rfl]
  bv_omega
  refine WC.ex hc ?_
  bv_omega
  exact ⟨rfl, rfl⟩
theorem c_outs_at_net [Has T "are_nodes" f_are_nodes] [Has T "are_outs" f_are_outs] [Has T "are_pairs" f_are_pairs] [Has T "are_places" f_are_places] [Has T "check_net" f_check_net] [Has T "common_divisor" f_common_divisor] [Has T "is_fraction" f_is_fraction] [Has T "is_net_by" f_is_net_by] [Has T "is_node" f_is_node] [Has T "is_pair" f_is_pair] [Has T "is_place" f_is_place] [Has T "is_whole" f_is_whole] [Has T "outs_at" f_outs_at] {n : Nat} (hn : 9 ≤ n) {v w : D} (hv : okD v = true) (hz : isNet v = false) [Pu w] : callN T up0 n "outs_at" [v, w] = some (.ex "InvalidNet" v) := by
  obtain ⟨n, rfl⟩ : ∃ k, n = k + 9 := ⟨n - 9, by omega⟩
  haveI : Pu v := ⟨okD_pure v hv⟩
  have hc := c_check_net (T := T) n v hv
  rw [hz] at hc
  refine WC.eqx ?_
  (refine w_fn (by omega) rfl ?_; simp only [f_outs_at, List.map_cons, List.map_nil, List.length_cons, List.length_nil, Nat.reduceAdd, Nat.reduceSub, List.reduceReplicate, List.cons_append, List.nil_append, List.append_nil, List.replicate_zero])
  rw [show n + 9 - 1 = n + 8 from rfl]
  bv_omega
  refine WC.ex hc ?_
  bv_omega
  exact ⟨rfl, rfl⟩
/-- a refused point -/
theorem c_values_at_pt [Has T "are_fractions" f_are_fractions] [Has T "are_nodes" f_are_nodes] [Has T "are_outs" f_are_outs] [Has T "are_pairs" f_are_pairs] [Has T "are_places" f_are_places] [Has T "check_net" f_check_net] [Has T "check_point" f_check_point] [Has T "common_divisor" f_common_divisor] [Has T "is_fraction" f_is_fraction] [Has T "is_net_by" f_is_net_by] [Has T "is_node" f_is_node] [Has T "is_pair" f_is_pair] [Has T "is_place" f_is_place] [Has T "is_point_by" f_is_point_by] [Has T "is_whole" f_is_whole] [Has T "values_at" f_values_at] {n : Nat} (hn : 9 ≤ n) {N : Net} (h : N.dr) {w : D} (hv : okD w = true) (hz : isPoint N.ins w = false) : callN T up0 n "values_at" [N.enc, w] = some (.ex "InvalidPoint" w) := by
  obtain ⟨n, rfl⟩ : ∃ k, n = k + 9 := ⟨n - 9, by omega⟩
  haveI : Pu w := ⟨okD_pure w hv⟩
  have hc := c_check_net (T := T) n N.enc (Ok.net h.wf h.sm (by decide)).ok
  rw [isNet_enc h.wf] at hc
  have hcp := c_check_point (T := T) (n + 3) (N := N) hv
  rw [hz] at hcp
  refine WC.eqx ?_
  (refine w_fn (by omega) rfl ?_; simp only [f_values_at, List.map_cons, List.map_nil, List.length_cons, List.length_nil, Nat.reduceAdd, Nat.reduceSub, List.reduceReplicate, List.cons_append, List.nil_append, List.append_nil, List.replicate_zero])
  rw [show n + 9 - 1 = n + 8 from rfl]
  bv_omega
  refine WC.ok hc ?_
  bv_omega
  refine WC.ex hcp ?_
  bv_omega
  exact ⟨rfl, rfl⟩
theorem c_outs_at_pt [Has T "are_fractions" f_are_fractions] [Has T "are_nodes" f_are_nodes] [Has T "are_outs" f_are_outs] [Has T "are_pairs" f_are_pairs] [Has T "are_places" f_are_places] [Has T "check_net" f_check_net] [Has T "check_point" f_check_point] [Has T "common_divisor" f_common_divisor] [Has T "is_fraction" f_is_fraction] [Has T "is_net_by" f_is_net_by] [Has T "is_node" f_is_node] [Has T "is_pair" f_is_pair] [Has T "is_place" f_is_place] [Has T "is_point_by" f_is_point_by] [Has T "is_whole" f_is_whole] [Has T "outs_at" f_outs_at] {n : Nat} (hn : 9 ≤ n) {N : Net} (h : N.dr) {w : D} (hv : okD w = true) (hz : isPoint N.ins w = false) : callN T up0 n "outs_at" [N.enc, w] = some (.ex "InvalidPoint" w) := by
  obtain ⟨n, rfl⟩ : ∃ k, n = k + 9 := ⟨n - 9, by omega⟩
  haveI : Pu w := ⟨okD_pure w hv⟩
  have hc := c_check_net (T := T) n N.enc (Ok.net h.wf h.sm (by decide)).ok
  rw [isNet_enc h.wf] at hc
  have hcp := c_check_point (T := T) (n + 3) (N := N) hv
  rw [hz] at hcp
  refine WC.eqx ?_
  (refine w_fn (by omega) rfl ?_; simp only [f_outs_at, List.map_cons, List.map_nil, List.length_cons, List.length_nil, Nat.reduceAdd, Nat.reduceSub, List.reduceReplicate, List.cons_append, List.nil_append, List.append_nil, List.replicate_zero])
  rw [show n + 9 - 1 = n + 8 from rfl]
  bv_omega
  refine WC.ok hc ?_
  bv_omega
  refine WC.ex hcp ?_
  bv_omega
  exact ⟨rfl, rfl⟩
end

set_option maxHeartbeats 4000000
set_option synthInstance.maxSize 100000
set_option synthInstance.maxHeartbeats 400000
theorem pusT {ds : List D} [h : Pus ds] : D.pures (tupOf (.tup ds)) = true := h.pus
theorem Ok.bl {b : Bool} {dp : Nat} : Ok 8 dp (.bl b) := ⟨rfl, rfl, Nat.zero_le _, Nat.le_refl _⟩
theorem Ok.non {dp : Nat} : Ok 8 dp .non := ⟨rfl, rfl, Nat.zero_le _, Nat.le_refl _⟩
theorem Ok.range {j : Int} {dp : Nat} (h : j ≤ 100) : Ok 3300 (dp + 1) (.lst false (rangeD 0 j)) := by
  rw [rangeD_pl]
  have q : Oks ((List.range j.toNat).length * (30 + 2)) dp ((List.range j.toNat).map VI.pl) := Oks.map fun x hx => Ok.pl (by have := List.mem_range.mp hx; omega)
  have q1 := q.lst (by rw [List.length_map, List.length_range]; omega)
  exact q1.mono (by rw [List.length_range]; omega) (Nat.le_refl _)
theorem Oks.mem {z dp : Nat} {ds : List D} (h : Oks z dp ds) {d : D} (hd : d ∈ ds) : Ok z dp d := by
  induction ds generalizing z with
  | nil => cases hd
  | cons a ds ih =>
    have i1 := h.ok; have i2 := h.lay; have i3 := h.dep; have i4 := h.z
    rw [okDs, Bool.and_eq_true] at i1
    rw [layDs, Bool.and_eq_true] at i2
    rw [deps] at i3
    rw [zDs] at i4
    rcases List.mem_cons.mp hd with e | e
    · subst e; exact ⟨i1.1, i2.1, by omega, by omega⟩
    · exact (ih (z := z) ⟨i1.2, i2.2, by omega, by omega⟩ e)
theorem Oks.of {z dp : Nat} {ds : List D} (h : ∀ d ∈ ds, Ok z dp d) : Oks (ds.length * (z + 2)) dp ds := by
  have := Oks.map (en := fun d : D => d) h
  rwa [List.map_id'] at this
/-- all of them -/
structure AP (z dp : Nat) (ds : List D) : Prop where
  all : ∀ d ∈ ds, Ok z dp d
theorem AP.nil {z dp : Nat} : AP z dp [] := ⟨fun _ h => absurd h List.not_mem_nil⟩
theorem AP.cons {z z' dp : Nat} {d : D} {ds : List D} (h1 : Ok z' dp d) (h0 : z' ≤ z) (h2 : AP z dp ds) : AP z dp (d :: ds) := ⟨fun x hx => by
  rcases List.mem_cons.mp hx with e | e
  · rw [e]; exact h1.mono h0 (Nat.le_refl _)
  · exact h2.all x e⟩
theorem AP.append {z dp : Nat} {a b : List D} (h1 : AP z dp a) (h2 : AP z dp b) : AP z dp (a ++ b) := ⟨fun x hx => (List.mem_append.mp hx).elim (h1.all x) (h2.all x)⟩
theorem Nd.parts (nd : Nd) : ∃ xs a l, nd.enc = .tup xs ∧ xs.length ≤ 3 ∧ atI xs 0 = some a ∧ atI xs (-1) = some l ∧ a ∈ xs ∧ l ∈ xs := by
  cases nd with
  | sum ps c => exact ⟨_, _, _, rfl, by simp, rfl, rfl, by simp, by simp⟩
  | hinge p => exact ⟨_, _, _, rfl, by simp, rfl, rfl, by simp, by simp⟩
  | ext g ps => exact ⟨_, _, _, rfl, by simp, rfl, rfl, by simp, by simp⟩
theorem Oks.untup {z dp : Nat} {xs : List D} (h : Ok z (dp + 1) (.tup xs)) : Oks z dp xs := by
  have i1 := h.ok; have i2 := h.lay; have i3 := h.dep; have i4 := h.z
  rw [okD] at i1
  rw [layD] at i2
  rw [VI.dep] at i3
  rw [zD] at i4
  exact ⟨i1, i2, by omega, by omega⟩
theorem Oks.sub {z dp : Nat} {a b : List D} (h : Oks z dp (a ++ b)) : Oks z dp a ∧ Oks z dp b := by
  induction a generalizing z with
  | nil => exact ⟨Oks.nil.mono (Nat.zero_le _) (Nat.le_refl _), h⟩
  | cons x a ih =>
    have i1 := h.ok; have i2 := h.lay; have i3 := h.dep; have i4 := h.z
    rw [List.cons_append, okDs, Bool.and_eq_true] at i1
    rw [List.cons_append, layDs, Bool.and_eq_true] at i2
    rw [List.cons_append, deps] at i3
    rw [List.cons_append, zDs] at i4
    have q := ih (z := z - (zD x + 2)) ⟨i1.2, i2.2, by omega, by omega⟩
    exact ⟨(Oks.cons ⟨i1.1, i2.1, by omega, Nat.le_refl _⟩ q.1).mono (by omega) (Nat.le_refl _), q.2.mono (by omega) (Nat.le_refl _)⟩
theorem AP.pus {z dp : Nat} {ds : List D} (h : AP z dp ds) : Pus ds := ⟨pures_of fun d hd => okD_pure d (h.all d hd).ok⟩
theorem AP.of {z dp : Nat} {ds : List D} (h : Oks z dp ds) : AP z dp ds := ⟨fun _ hd => h.mem hd⟩
theorem wo_addg {o1 o2 : Bool} {N z dp : Nat} {xs ys : List D} {k : D → Prop} (hx : AP z dp xs) (hy : AP z dp ys) (hl : xs.length + ys.length ≤ N) (hN : N ≤ 10000) (h : ∀ zs, AP z dp zs → zs.length ≤ N → Pus zs → k (.lst true zs)) : WO (binD .Add (.lst o1 xs) (.lst o2 ys)) k :=
  haveI := hx.pus; haveI := hy.pus
  wo_addl (by rw [sizeLine_eq]; omega) (h _ (hx.append hy) (by rw [List.length_append]; exact hl) inferInstance)
theorem Ok.str' {x : Str} (h : x.length ≤ 10) (h2 : PyData.strOk x = true) {dp : Nat} : Ok 102 dp (.str x) := (Ok.str (by omega) h2).mono (by omega) (Nat.le_refl _)
/-- all of them, or {} -/
structure AE (z dp : Nat) (ds : List D) : Prop where
  all : ∀ d ∈ ds, d = .edic ∨ Ok z dp d
theorem AE.nil {z dp : Nat} : AE z dp [] := ⟨fun _ h => absurd h List.not_mem_nil⟩
theorem AE.cons {z z' dp : Nat} {d : D} {ds : List D} (h1 : Ok z' dp d) (h0 : z' ≤ z) (h2 : AE z dp ds) : AE z dp (d :: ds) := ⟨fun x hx => by
  rcases List.mem_cons.mp hx with e | e
  · rw [e]; exact .inr (h1.mono h0 (Nat.le_refl _))
  · exact h2.all x e⟩
theorem AE.consE {z dp : Nat} {ds : List D} (h2 : AE z dp ds) : AE z dp (.edic :: ds) := ⟨fun x hx => by
  rcases List.mem_cons.mp hx with e | e
  · exact .inl e
  · exact h2.all x e⟩
theorem AE.append {z dp : Nat} {a b : List D} (h1 : AE z dp a) (h2 : AE z dp b) : AE z dp (a ++ b) := ⟨fun x hx => (List.mem_append.mp hx).elim (h1.all x) (h2.all x)⟩
theorem AE.pus {z dp : Nat} {ds : List D} (h : AE z dp ds) : Pus ds := ⟨pures_of fun d hd => by
  rcases h.all d hd with e | e
  · rw [e]; rfl
  · exact okD_pure d e.ok⟩
theorem wo_adde {o1 o2 : Bool} {N z dp : Nat} {xs ys : List D} {k : D → Prop} (hx : AE z dp xs) (hy : AE z dp ys) (hl : xs.length + ys.length ≤ N) (hN : N ≤ 10000) (h : ∀ zs, AE z dp zs → zs.length ≤ N → Pus zs → k (.lst true zs)) : WO (binD .Add (.lst o1 xs) (.lst o2 ys)) k :=
  haveI := hx.pus; haveI := hy.pus
  wo_addl (by rw [sizeLine_eq]; omega) (h _ (hx.append hy) (by rw [List.length_append]; exact hl) inferInstance)
instance (n : Nat) (x : D) [h : Pu x] : Pus (List.replicate n x) := ⟨pures_of fun d hd => by rw [(List.mem_replicate.mp hd).2]; exact h.pu⟩
theorem Ok.rep {n : Int} {z dp : Nat} {x : D} (h0 : Ok z dp x) (h : n ≤ 30) : Ok (30 * (z + 2) + 3) (dp + 1) (.lst false (List.replicate n.toNat x)) := by
  have q := Oks.of (ds := List.replicate n.toNat x) (z := z) (dp := dp) fun d hd => by rw [(List.mem_replicate.mp hd).2]; exact h0
  rw [List.length_replicate] at q
  have q1 := q.lst (by rw [List.length_replicate]; omega)
  exact q1.mono (Nat.add_le_add_right (Nat.mul_le_mul_right _ (by omega)) _) (Nat.le_refl _)
theorem cut3 {α : Type} (a b c : α) (q : List α) : cut (a :: b :: c :: q) none (some 3) = [a, b, c] := by rw [cut_take _ (by decide)]; rfl

set_option maxHeartbeats 4000000
set_option synthInstance.maxSize 100000
set_option synthInstance.maxHeartbeats 400000
/-- a value that is refused: small, and not by the test -/
structure Bad (t : D → Bool) (d : D) : Prop where
  no : t d = false
  ok : d = .edic ∨ Ok 1000000 30 d
def Bads (t : D → Bool) (ds : List D) : Prop := ∀ d ∈ ds, Bad t d
theorem Bads.nil {t : D → Bool} : Bads t [] := fun _ h => absurd h List.not_mem_nil
theorem Bads.cons {t : D → Bool} {d : D} {ds : List D} (h1 : t d = false) {z : Nat} (h2 : Ok z 30 d) (h3 : z ≤ 1000000) (h : Bads t ds) : Bads t (d :: ds) := fun x hx => by
  rcases List.mem_cons.mp hx with e | e
  · rw [e]; exact ⟨h1, .inr (h2.mono h3 (Nat.le_refl _))⟩
  · exact h x e
theorem Bads.consE {t : D → Bool} {ds : List D} (h1 : t .edic = false) (h : Bads t ds) : Bads t (.edic :: ds) := fun x hx => by
  rcases List.mem_cons.mp hx with e | e
  · rw [e]; exact ⟨h1, .inl rfl⟩
  · exact h x e
theorem Bad.rp {t : D → Bool} {d : D} (h : Bad t d) : rpOK d := by
  rcases h.ok with e | e
  · exact .inl e
  · exact (e.mono (Nat.le_refl _) (by decide)).rp (by decide)
theorem Bad.okD {t : D → Bool} {d : D} (h : Bad t d) : okD d = true := by
  rcases h.ok with e | e
  · rw [e]; rfl
  · exact e.ok
theorem isPoint_rep {m n : Int} {o : Bool} {x : D} (hx : isFrac x = false) (h : 0 < n) : isPoint m (.lst o (List.replicate n.toNat x)) = false := by
  show ((((List.replicate n.toNat x).length : Nat) : Int) == m && (List.replicate n.toNat x).all isFrac) = false
  obtain ⟨k, hk⟩ : ∃ k, n.toNat = k + 1 := ⟨n.toNat - 1, by omega⟩
  rw [hk, List.replicate_succ, List.all_cons, hx]; simp
section
variable {T : Tab}
/-- the inner loop: both calls refuse -/
theorem c_refused_right [Has T "_law_refused_right" f_law_refused_right] [Has T "are_fractions" f_are_fractions] [Has T "are_nodes" f_are_nodes] [Has T "are_outs" f_are_outs] [Has T "are_pairs" f_are_pairs] [Has T "are_places" f_are_places] [Has T "check_net" f_check_net] [Has T "check_point" f_check_point] [Has T "common_divisor" f_common_divisor] [Has T "is_fraction" f_is_fraction] [Has T "is_net_by" f_is_net_by] [Has T "is_node" f_is_node] [Has T "is_pair" f_is_pair] [Has T "is_place" f_is_place] [Has T "is_point_by" f_is_point_by] [Has T "is_whole" f_is_whole] [Has T "outs_at" f_outs_at] [Has T "values_at" f_values_at] {n : Nat} (hn : 20 ≤ n) {N : Net} (h : N.dr) {pt : List Rat} (hl : pt.length = N.ins) (hs : PtSm pt) : callN T up0 n "_law_refused_right" [N.enc, .lst false (pt.map fr)] = some (.ok (.bl true) .non) := by
  have hN := Ok.net h.wf h.sm (by decide)
  have i1 := h.wf.i1; have i4 := h.wf.i4
  have hpt := pt_ok hs (by omega)
  have hlm : (pt.map fr).length = N.ins := by rw [List.length_map]; exact hl
  have kn1 : Ok 20000 6 (.lst false (N.nodes.map Nd.enc)) := by
    have q := Oks.untup hN
    exact (q.mem (by simp)).mono (Nat.le_refl _) (Nat.le_refl _)
  have ko1 : Ok 20000 6 (.lst false (N.outs.map pl)) := (Oks.untup hN).mem (by simp)
  refine WC.eq ?_
  (refine w_fn (by omega) rfl ?_; simp only [f_law_refused_right, List.map_cons, List.map_nil, List.length_cons, List.length_nil, Nat.reduceAdd, Nat.reduceSub, List.reduceReplicate, List.cons_append, List.nil_append, List.append_nil, List.replicate_zero])
  (repeat (first | fail | with_reducible refine wo_mulr (by omega) (by omega) ?_))
  rw [cut3]
  (repeat (first | fail | with_reducible refine wo_mulr (by omega) (by omega) ?_))
  refine ⟨pusT, ?_⟩
  refine w_for (B := fun _ => True) (fun ds ρ => Bads isNet ds ∧ ∃ t2 t3 t4, ρ = [some N.enc, some (.lst false (pt.map fr)), t2, t3, t4, none]) ⟨?_, none, none, none, rfl⟩ ?_ ?_
  · refine Bads.cons rfl Ok.non (by decide) ?_
    refine Bads.cons rfl (Oks.tup Oks.nil) (by decide) ?_
    refine Bads.cons rfl (((Oks.untup hN).lst (by simp)).mono (Nat.le_refl _) (by decide)) (by decide) ?_
    refine Bads.cons rfl (Oks.tup (Oks.cons (Ok.str' (by decide +kernel) (by decide +kernel)) (Oks.cons (Ok.int (i := (N.ins : Nat)) (by omega)) (Oks.cons (kn1.mono (Nat.le_refl _) (show 6 ≤ 29 by decide)) Oks.nil)))) (by decide) ?_
    refine Bads.cons (z := 1000) (by decide +kernel) (Ok.mono (z := _) (by (repeat (first | exact AP.nil | exact Oks.nil | exact Ok.mono (by assumption) (Nat.le_refl _) (by omega) | apply AP.cons | apply Oks.cons | apply Oks.tup | (apply Oks.lst; case hl => simp) | exact Ok.bl | exact Ok.non | exact Ok.int (by omega) | exact Ok.range (by omega) | exact Ok.str' (by decide +kernel) (by decide +kernel) | exact Nat.le_of_ble_eq_true rfl | omega)) : Ok _ 30 _) ?_ (Nat.le_refl _)) (by decide) ?_
    · exact Nat.le_of_ble_eq_true rfl
    refine Bads.cons (z := 1000) (by decide +kernel) (Ok.mono (z := _) (by (repeat (first | exact AP.nil | exact Oks.nil | exact Ok.mono (by assumption) (Nat.le_refl _) (by omega) | apply AP.cons | apply Oks.cons | apply Oks.tup | (apply Oks.lst; case hl => simp) | exact Ok.bl | exact Ok.non | exact Ok.int (by omega) | exact Ok.range (by omega) | exact Ok.str' (by decide +kernel) (by decide +kernel) | exact Nat.le_of_ble_eq_true rfl | omega)) : Ok _ 30 _) ?_ (Nat.le_refl _)) (by decide) ?_
    · exact Nat.le_of_ble_eq_true rfl
    exact Bads.cons rfl (Ok.str' (by decide +kernel) (by decide +kernel)) (by decide) Bads.nil
  · rintro w r ρ ⟨hb, t2, t3, t4, rfl⟩
    have hw := hb w List.mem_cons_self
    haveI : Pu w := ⟨okD_pure _ hw.okD⟩
    (repeat (first | fail | with_reducible refine wo_mulr (by omega) (by omega) ?_))
    refine ⟨rfl, ?_⟩
    refine w_for (B := fun _ => True) (fun ds ρ => (∀ d ∈ ds, d = .fn "values_at" ∨ d = .fn "outs_at") ∧ ∃ t3 t4, ρ = [some N.enc, some (.lst false (pt.map fr)), some w, t3, t4, none]) ⟨fun d hd => by
      rcases List.mem_cons.mp hd with e | hd
      · exact .inl e
      · exact .inr (List.mem_singleton.mp hd), _, _, rfl⟩ ?_ ?_
    · rintro d r2 ρ ⟨hd, t3, t4, rfl⟩
      rcases hd d List.mem_cons_self with rfl | rfl
      · (repeat (first | fail | with_reducible refine wo_mulr (by omega) (by omega) ?_))
        refine WC.ex (c_values_at_net (T := T) (by omega) hw.okD hw.no) ?_
        (repeat (first | fail | with_reducible refine wo_mulr (by omega) (by omega) ?_))
        refine wb_repr hw.rp ?_
        (repeat (first | fail | with_reducible refine wo_mulr (by omega) (by omega) ?_))
        refine wb_repr hw.rp ?_
        (repeat (first | fail | with_reducible refine wo_mulr (by omega) (by omega) ?_))
        refine wI.t' (beq_self_eq_true _) ?_
        (repeat (first | fail | with_reducible refine wo_mulr (by omega) (by omega) ?_))
        exact ⟨fun d hd' => hd d (List.mem_cons_of_mem _ hd'), _, _, rfl⟩
      · (repeat (first | fail | with_reducible refine wo_mulr (by omega) (by omega) ?_))
        refine WC.ex (c_outs_at_net (T := T) (by omega) hw.okD hw.no) ?_
        (repeat (first | fail | with_reducible refine wo_mulr (by omega) (by omega) ?_))
        refine wb_repr hw.rp ?_
        (repeat (first | fail | with_reducible refine wo_mulr (by omega) (by omega) ?_))
        refine wb_repr hw.rp ?_
        (repeat (first | fail | with_reducible refine wo_mulr (by omega) (by omega) ?_))
        refine wI.t' (beq_self_eq_true _) ?_
        (repeat (first | fail | with_reducible refine wo_mulr (by omega) (by omega) ?_))
        exact ⟨fun d hd' => hd d (List.mem_cons_of_mem _ hd'), _, _, rfl⟩
    · rintro ρ ⟨_, t3, t4, rfl⟩
      (repeat (first | fail | with_reducible refine wo_mulr (by omega) (by omega) ?_))
      exact ⟨fun d hd => hb d (List.mem_cons_of_mem _ hd), _, _, _, rfl⟩
  · rintro ρ ⟨_, t2, t3, t4, rfl⟩
    (repeat (first | fail | with_reducible refine wo_mulr (by omega) (by omega) ?_))
    rw [cut_drop _ (by decide), ← List.map_drop, show (1 : Int).toNat = 1 from rfl]
    (repeat (first | fail | with_reducible refine wo_mulr (by omega) (by omega) ?_))
    refine wo_addl (by simp [sizeLine_eq]; omega) ?_
    (repeat (first | fail | with_reducible refine wo_mulr (by omega) (by omega) ?_))
    have hp0 : Oks 7000 29 (pt.map fr) := (Oks.map fun x hx => Ok.fr (dp := 28) (hs x hx).1 (hs x hx).2).mono (by omega) (Nat.le_refl _)
    have hd0 : Oks 7000 29 ((pt.drop 1).map fr) := by
      have e : pt.map fr = (pt.take 1).map fr ++ (pt.drop 1).map fr := by rw [← List.map_append, List.take_append_drop]
      rw [e] at hp0
      exact hp0.sub.2
    refine ⟨pusT, ?_⟩
    refine w_for (B := fun _ => True) (fun ds ρ => Bads (isPoint N.ins) ds ∧ ∃ t2 t3 t4, ρ = [some N.enc, some (.lst false (pt.map fr)), t2, t3, t4, none]) ⟨?_, t2, t3, t4, rfl⟩ ?_ ?_
    · refine Bads.cons rfl Ok.non (by decide) ?_
      refine Bads.cons rfl hp0.tup (by decide) ?_
      refine Bads.cons ?_ (hd0.lst (by rw [List.length_map, List.length_drop]; omega)) (by decide) ?_
      · show (((((pt.drop 1).map fr).length : Nat) : Int) == (N.ins : Int) && ((pt.drop 1).map fr).all isFrac) = false
        have : ((((pt.drop 1).map fr).length : Nat) : Int) ≠ (N.ins : Int) := by rw [List.length_map, List.length_drop]; omega
        rw [beq_eq_false_iff_ne.mpr this]; rfl
      refine Bads.cons ?_ ((hp0.append (Oks.cons (Oks.tup (Oks.cons (Ok.int (i := 0) (by decide)) (Oks.cons (Ok.int (i := 1) (by decide)) Oks.nil))) Oks.nil)).lst (by simp; omega)) (by decide) ?_
      · show ((((pt.map fr ++ [D.tup [.int 0, .int 1]]).length : Nat) : Int) == (N.ins : Int) && (pt.map fr ++ [D.tup [.int 0, .int 1]]).all isFrac) = false
        have : (((pt.map fr ++ [D.tup [.int 0, .int 1]]).length : Nat) : Int) ≠ (N.ins : Int) := by simp; omega
        rw [beq_eq_false_iff_ne.mpr this]; rfl
      refine Bads.cons ?_ (Ok.rep (Ok.int (i := 1) (by decide)) (by simp; omega)) (by decide) ?_
      · exact isPoint_rep rfl (by omega)
      refine Bads.cons ?_ (Ok.rep (Oks.tup (Oks.cons (Ok.int (i := 2) (by decide)) (Oks.cons (Ok.int (i := 4) (by decide)) Oks.nil))) (by simp; omega)) (by decide) ?_
      · exact isPoint_rep (by decide) (by omega)
      exact Bads.consE rfl Bads.nil
    · rintro w r ρ ⟨hb, t2, t3, t4, rfl⟩
      have hw := hb w List.mem_cons_self
      haveI : Pu w := ⟨okD_pure _ hw.okD⟩
      (repeat (first | fail | with_reducible refine wo_mulr (by omega) (by omega) ?_))
      refine ⟨rfl, ?_⟩
      refine w_for (B := fun _ => True) (fun ds ρ => (∀ d ∈ ds, d = .fn "values_at" ∨ d = .fn "outs_at") ∧ ∃ t3 t4, ρ = [some N.enc, some (.lst false (pt.map fr)), some w, t3, t4, none]) ⟨fun d hd => by
        rcases List.mem_cons.mp hd with e | hd
        · exact .inl e
        · exact .inr (List.mem_singleton.mp hd), _, _, rfl⟩ ?_ ?_
      · rintro d r2 ρ ⟨hd, t3, t4, rfl⟩
        rcases hd d List.mem_cons_self with rfl | rfl
        · (repeat (first | fail | with_reducible refine wo_mulr (by omega) (by omega) ?_))
          refine WC.ex (c_values_at_pt (T := T) (by omega) h hw.okD hw.no) ?_
          (repeat (first | fail | with_reducible refine wo_mulr (by omega) (by omega) ?_))
          refine wb_repr hw.rp ?_
          (repeat (first | fail | with_reducible refine wo_mulr (by omega) (by omega) ?_))
          refine wb_repr hw.rp ?_
          (repeat (first | fail | with_reducible refine wo_mulr (by omega) (by omega) ?_))
          refine wI.t' (beq_self_eq_true _) ?_
          (repeat (first | fail | with_reducible refine wo_mulr (by omega) (by omega) ?_))
          exact ⟨fun d hd' => hd d (List.mem_cons_of_mem _ hd'), _, _, rfl⟩
        · (repeat (first | fail | with_reducible refine wo_mulr (by omega) (by omega) ?_))
          refine WC.ex (c_outs_at_pt (T := T) (by omega) h hw.okD hw.no) ?_
          (repeat (first | fail | with_reducible refine wo_mulr (by omega) (by omega) ?_))
          refine wb_repr hw.rp ?_
          (repeat (first | fail | with_reducible refine wo_mulr (by omega) (by omega) ?_))
          refine wb_repr hw.rp ?_
          (repeat (first | fail | with_reducible refine wo_mulr (by omega) (by omega) ?_))
          refine wI.t' (beq_self_eq_true _) ?_
          (repeat (first | fail | with_reducible refine wo_mulr (by omega) (by omega) ?_))
          exact ⟨fun d hd' => hd d (List.mem_cons_of_mem _ hd'), _, _, rfl⟩
      · rintro ρ ⟨_, t3, t4, rfl⟩
        (repeat (first | fail | with_reducible refine wo_mulr (by omega) (by omega) ?_))
        exact ⟨fun d hd => hb d (List.mem_cons_of_mem _ hd), _, _, _, rfl⟩
    · rintro ρ ⟨_, t2, t3, t4, rfl⟩
      (repeat (first | fail | with_reducible refine wo_mulr (by omega) (by omega) ?_))
      exact ⟨rfl, rfl⟩
end

set_option maxHeartbeats 4000000
set_option synthInstance.maxSize 128
set_option synthInstance.maxHeartbeats 20000
section
variable {T : Tab}
theorem c_cell [Has T "_law_cell" f_law_cell] {n : Nat} (hn : 1 ≤ n) {ns : List Int} {i : Int} (h0 : 0 ≤ i) : ∃ z, callN T up0 n "_law_cell" [.scr ns, .int i] = some (.ok (.int z) .non) ∧ (z ∈ ns ∨ 0 ≤ z ∧ z < 1000003) := by
  by_cases h : i < ns.length
  · have hl : i.toNat < ns.length := by omega
    refine ⟨ns[i.toNat], WC.eq ?_, .inl (List.getElem_mem hl)⟩
    (refine w_fn (by omega) rfl ?_; simp only [f_law_cell, List.map_cons, List.map_nil, List.length_cons, List.length_nil, Nat.reduceAdd, Nat.reduceSub, List.reduceReplicate, List.cons_append, List.nil_append, List.append_nil, List.replicate_zero])
    (repeat (first | fail | with_reducible refine wo_mulr (by omega) (by omega) ?_))
    refine wI.dec (fun _ => ?_) (fun h' => absurd h h')
    (repeat (first | fail | with_reducible refine wo_mulr (by omega) (by omega) ?_))
    refine WO.mk (a := .int ns[i.toNat]) ?_ ?_
    · show (atI ns i).map D.int = _
      unfold atI ixN
      rw [if_pos h0, if_pos h]
      simp [hl]
    · (repeat (first | fail | with_reducible refine wo_mulr (by omega) (by omega) ?_)); exact ⟨rfl, rfl⟩
  · refine ⟨((ns.take 1).sum) % 1000003, WC.eq ?_, .inr ⟨Int.emod_nonneg _ (by decide), Int.emod_lt_of_pos _ (by decide)⟩⟩
    (refine w_fn (by omega) rfl ?_; simp only [f_law_cell, List.map_cons, List.map_nil, List.length_cons, List.length_nil, Nat.reduceAdd, Nat.reduceSub, List.reduceReplicate, List.cons_append, List.nil_append, List.append_nil, List.replicate_zero])
    (repeat (first | fail | with_reducible refine wo_mulr (by omega) (by omega) ?_))
    refine wI.dec (fun h' => absurd h' h) (fun _ => ?_)
    (repeat (first | fail | with_reducible refine wo_mulr (by omega) (by omega) ?_))
    rw [cut_take _ (by decide), show (1 : Int).toNat = 1 from rfl]
    refine WO.mk (a := .int (ns.take 1).sum) ?_ ?_
    · show (intsOf ((ns.take 1).map D.int)).map _ = _
      rw [intsOf_map]; rfl
    · (repeat (first | fail | with_reducible refine wo_mulr (by omega) (by omega) ?_))
      refine wo_mod (by decide) ?_
      (repeat (first | fail | with_reducible refine wo_mulr (by omega) (by omega) ?_))
      exact ⟨rfl, rfl⟩
theorem bin_pow {i j : Int} (h0 : 0 ≤ j) (h : (i.natAbs.log2 + 1) * j.toNat ≤ 134217728) : binD .Pow (.int i) (.int j) = some (.int (i ^ j.toNat)) := if_pos ⟨h0, h⟩
theorem c_gen [Has T "_law_cell" f_law_cell] [Has T "_law_generator" f_law_generator] {n : Nat} (hn : 2 ≤ n) {ns : List Int} {i : Int} (h0 : 0 ≤ i) (h1 : i < 100) : ∃ g : Gn, callN T up0 n "_law_generator" [.scr ns, .int i] = some (.ok g.d .non) ∧ g.ok 900000000 := by
  obtain ⟨z, e, _⟩ := c_cell (T := T) (n := n - 1) (by omega) (ns := ns) h0
  refine ⟨⟨(if (0 : Int) > z - 10 ^ 18 then 0 else z - 10 ^ 18) % (10 ^ 60) ^ 10, z % 2147483647, 1000 * i⟩, WC.eq ?_, ?_⟩
  · (refine w_fn (by omega) rfl ?_; simp only [f_law_generator, List.map_cons, List.map_nil, List.length_cons, List.length_nil, Nat.reduceAdd, Nat.reduceSub, List.reduceReplicate, List.cons_append, List.nil_append, List.append_nil, List.replicate_zero])
    (repeat (first | fail | with_reducible refine wo_mulr (by omega) (by omega) ?_))
    refine WC.ok e ?_
    (repeat (first | fail | with_reducible refine wo_mulr (by omega) (by omega) ?_))
    refine WO.mk (bin_pow (by decide) (by decide)) ?_
    (repeat (first | fail | with_reducible refine wo_mulr (by omega) (by omega) ?_))
    refine WO.mk (bin_pow (by decide) (by decide)) ?_
    (repeat (first | fail | with_reducible refine wo_mulr (by omega) (by omega) ?_))
    refine WO.mk (bin_pow (by decide) (by decide +kernel)) ?_
    (repeat (first | fail | with_reducible refine wo_mulr (by omega) (by omega) ?_))
    refine wo_mod (by decide +kernel) ?_
    (repeat (first | fail | with_reducible refine wo_mulr (by omega) (by omega) ?_))
    refine wo_mod (by decide) ?_
    (repeat (first | fail | with_reducible refine wo_mulr (by omega) (by omega) ?_))
    refine wo_mul (by have := log2_lt' (x := i.natAbs) (b := 20) (by omega); have : (1000 : Int).natAbs.log2 = 9 := by decide
                      omega) ?_
    (repeat (first | fail | with_reducible refine wo_mulr (by omega) (by omega) ?_))
    exact ⟨rfl, rfl⟩
  · exact ⟨Int.emod_nonneg _ (by decide +kernel), Int.emod_nonneg _ (by decide), Int.emod_lt_of_pos _ (by decide), by show 0 ≤ 1000 * i; omega, by show 1000 * i + 900000000 < _; omega⟩
end

set_option maxHeartbeats 4000000
set_option synthInstance.maxSize 100000
set_option synthInstance.maxHeartbeats 400000
theorem sm_frs {o : Bool} {vs : List Rat} (h : vs.length ≤ 100000) : smDs (vs.map fr) = true := smDs_of fun d hd => by
  obtain ⟨q, _, rfl⟩ := List.mem_map.mp hd
  rfl
theorem sm_pls {ps : List Nat} : smDs (ps.map pl) = true := smDs_of fun d hd => by
  obtain ⟨q, _, rfl⟩ := List.mem_map.mp hd
  rfl
theorem dep_frs (vs : List Rat) : deps (vs.map fr) ≤ 1 := by
  induction vs with
  | nil => exact Nat.zero_le _
  | cons v r ih => rw [List.map_cons, deps]; exact Nat.max_le.mpr ⟨Nat.le_refl _, ih⟩
theorem dep_pls (vs : List Nat) : deps (vs.map pl) ≤ 1 := by
  induction vs with
  | nil => exact Nat.zero_le _
  | cons v r ih => rw [List.map_cons, deps]; exact Nat.max_le.mpr ⟨Nat.zero_le _, ih⟩
/-- a list that _law_same takes -/
theorem sm_lst {xs : List D} (h : smDs xs = true) (hl : xs.length ≤ 100000) : smD (.lst false xs) = true := by
  rw [smD, h, decide_eq_true hl]; rfl
theorem fr_int (z : Int) : fr (z : Rat) = .tup [.int z, .int 1] := by
  show D.tup [.int (z : Rat).num, .int (((z : Rat).den : Nat) : Int)] = _
  rw [Rat.num_intCast, Rat.den_intCast]; rfl
theorem fs_int {z : Int} {b : Nat} (h : z.natAbs ≤ b) : Fs b (z : Rat) := ⟨by rw [Rat.num_intCast]; exact h, by rw [Rat.den_intCast]; decide⟩
theorem fs_pt {N : Net} {pt : List Rat} (hl : pt.length = N.ins) (h : ∀ q ∈ pt, Fs 4 q) : PtOk N pt := ⟨hl, fun q hq => (h q hq).bq.mono (by decide) (by decide)⟩
theorem fs_sm {pt : List Rat} (h : ∀ q ∈ pt, Fs 4 q) : PtSm pt := fun q hq => ⟨by have := (h q hq).1; omega, by have := (h q hq).2; omega⟩
section
variable {T : Tab}
theorem c_same2 [Has T "_law_same" f_law_same] {n : Nat} (hn : 8 ≤ n) {a b : D} (ha : smD a = true) (hb : smD b = true) (da : dep a ≤ 3) (db : dep b ≤ 3) : callN T up0 n "_law_same" [.lst false [a, b], .lst false [a, b]] = some (.ok (.bl true) .non) := by
  refine c_same (T := T) 4 n _ ?_ (by omega) ?_
  · rw [dep, deps, deps, deps]; omega
  · rw [smD, smDs, smDs, smDs, ha, hb]; rfl
theorem c_same4 [Has T "_law_same" f_law_same] {n : Nat} (hn : 8 ≤ n) {a b c d : D} (ha : smD a = true) (hb : smD b = true) (hc : smD c = true) (hd : smD d = true) (da : dep a ≤ 3) (db : dep b ≤ 3) (dc : dep c ≤ 3) (dd : dep d ≤ 3) : callN T up0 n "_law_same" [.lst false [a, b, c, d], .lst false [a, b, c, d]] = some (.ok (.bl true) .non) := by
  refine c_same (T := T) 4 n _ ?_ (by omega) ?_
  · rw [dep, deps, deps, deps, deps, deps]; omega
  · rw [smD, smDs, smDs, smDs, smDs, smDs, ha, hb, hc, hd]; rfl
theorem c_law_k02 [Has T "_law_below" f_law_below] [Has T "_law_bends" f_law_bends] [Has T "_law_cell" f_law_cell] [Has T "_law_choices" f_law_choices] [Has T "_law_drawn_order" f_law_drawn_order] [Has T "_law_fraction" f_law_fraction] [Has T "_law_generator" f_law_generator] [Has T "_law_greater" f_law_greater] [Has T "_law_hash" f_law_hash] [Has T "_law_lesser" f_law_lesser] [Has T "_law_lowest" f_law_lowest] [Has T "_law_net" f_law_net] [Has T "_law_outs" f_law_outs] [Has T "_law_pick" f_law_pick] [Has T "_law_plus" f_law_plus] [Has T "_law_point" f_law_point] [Has T "_law_random" f_law_random] [Has T "_law_refused_right" f_law_refused_right] [Has T "_law_same" f_law_same] [Has T "_law_some_places" f_law_some_places] [Has T "_law_sum_node" f_law_sum_node] [Has T "_law_summed" f_law_summed] [Has T "_law_times" f_law_times] [Has T "_law_values" f_law_values] [Has T "are_fractions" f_are_fractions] [Has T "are_nodes" f_are_nodes] [Has T "are_outs" f_are_outs] [Has T "are_pairs" f_are_pairs] [Has T "are_places" f_are_places] [Has T "bends" f_bends] [Has T "bends_of" f_bends_of] [Has T "check_net" f_check_net] [Has T "check_point" f_check_point] [Has T "choices" f_choices] [Has T "choices_of" f_choices_of] [Has T "common_divisor" f_common_divisor] [Has T "greater" f_greater] [Has T "greatest_of" f_greatest_of] [Has T "is_fraction" f_is_fraction] [Has T "is_less" f_is_less] [Has T "is_net_by" f_is_net_by] [Has T "is_node" f_is_node] [Has T "is_pair" f_is_pair] [Has T "is_place" f_is_place] [Has T "is_point_by" f_is_point_by] [Has T "is_whole" f_is_whole] [Has T "law" f_law_2] [Has T "least_of" f_least_of] [Has T "lesser" f_lesser] [Has T "lowest" f_lowest] [Has T "node_value" f_node_value] [Has T "outs_at" f_outs_at] [Has T "outs_by" f_outs_by] [Has T "plus" f_plus] [Has T "times" f_times] [Has T "values_at" f_values_at] [Has T "values_by" f_values_by] {n : Nat} (hn : 40 ≤ n) {ns : List Int} : callN T up0 n "law" [.scr ns] = some (.ok (.bl true) .non) := by
  refine WC.eq ?_
  (refine w_fn (by omega) rfl ?_; simp only [f_law_2, List.map_cons, List.map_nil, List.length_cons, List.length_nil, Nat.reduceAdd, Nat.reduceSub, List.reduceReplicate, List.cons_append, List.nil_append, List.append_nil, List.replicate_zero])
  (repeat (first | fail | with_reducible refine wo_mulr (by omega) (by omega) ?_))
  refine ⟨pures_rangeD _ _, ?_⟩
  refine w_forr (fun t ρ => ∃ t1 t2 t3 t4 t5 t6 t7 t8 t9 t10 t11 t12, ρ = [some (.scr ns), t1, t2, t3, t4, t5, t6, t7, t8, t9, t10, t11, t12, none]) (by decide) ⟨_, _, _, _, _, _, _, _, _, _, _, _, rfl⟩ ?_ ?_
  · rintro t ρ h0 h1 ⟨t1, t2, t3, t4, t5, t6, t7, t8, t9, t10, t11, t12, rfl⟩
    obtain ⟨g, eg, hg⟩ := c_gen (T := T) (n := n - 1) (by omega) (ns := ns) h0 (by omega)
    (repeat (first | fail | with_reducible refine wo_mulr (by omega) (by omega) ?_))
    refine WC.ok eg ?_
    (repeat (first | fail | with_reducible refine wo_mulr (by omega) (by omega) ?_))
    refine (c_random (T := T) (by omega) (m := 899999999) hg (by decide) (by decide)).use ?_
    rintro _ g1 ⟨r, rfl, r0, r1⟩ hg1
    obtain ⟨r, rfl⟩ : ∃ r' : Nat, r = r' := ⟨r.toNat, by omega⟩
    (repeat (first | fail | with_reducible refine wo_mulr (by omega) (by omega) ?_))
    rw [show (1 : Int) + (r : Nat) = ((1 + r : Nat) : Int) by omega]
    refine (c_net (T := T) (by omega) (m := 800000000) (most := 10) (bends := 6) (by omega) (by omega) (by decide) (by decide) (by decide) (hg1.mono (by decide))).use ?_
    rintro _ g2 ⟨N, rfl, hw, n1, n2, n3, n4, n5, n6⟩ hg2
    have h : N.dr := ⟨hw, n4⟩
    have hN := Ok.net hw n4 (by decide)
    have hNr : rpOK N.enc := (hN.mono (Nat.le_refl _) (by decide)).rp (by decide)
    have i4 := hw.i4; have i1 := hw.i1
    have hbl := bd_len N
    (repeat (first | fail | with_reducible refine wo_mulr (by omega) (by omega) ?_))
    refine wb_repr hNr ?_
    (repeat (first | fail | with_reducible refine wo_mulr (by omega) (by omega) ?_))
    (with_reducible refine wv_comp0 (by with_unfolding_all rfl) ?_)
    (repeat (first | fail | with_reducible refine wo_mulr (by omega) (by omega) ?_))
    refine WC.ok (c_law_bends (T := T) (by omega) hw) ?_
    (repeat (first | fail | with_reducible refine wo_mulr (by omega) (by omega) ?_))
    refine wCo_m pl N.bd (fun p => pl (N.ins + p)) (pures_map fun _ _ => rfl) (by omega) (fun p hp => ?_) ?_
    · (repeat (first | fail | with_reducible refine wo_mulr (by omega) (by omega) ?_))
      exact ⟨by rw [show ((N.ins : Nat) : Int) + (p : Nat) = ((N.ins + p : Nat) : Int) by omega], rfl⟩
    have e1 : N.bd.map (fun p => pl (N.ins + p)) = (N.bd.map (N.ins + ·)).map pl := by rw [List.map_map]; rfl
    rw [e1]
    (repeat (first | fail | with_reducible refine wo_mulr (by omega) (by omega) ?_))
    refine WC.ok (c_law_choices (T := T) (by omega) hw) ?_
    (repeat (first | fail | with_reducible refine wo_mulr (by omega) (by omega) ?_))
    refine WC.ok (c_bends (T := T) (by omega) h) ?_
    (repeat (first | fail | with_reducible refine wo_mulr (by omega) (by omega) ?_))
    refine WC.ok (c_bends (T := T) (by omega) h) ?_
    (repeat (first | fail | with_reducible refine wo_mulr (by omega) (by omega) ?_))
    refine WC.ok (c_choices (T := T) (by omega) h) ?_
    (repeat (first | fail | with_reducible refine wo_mulr (by omega) (by omega) ?_))
    refine WC.ok (c_choices (T := T) (by omega) h) ?_
    (repeat (first | fail | with_reducible refine wo_mulr (by omega) (by omega) ?_))
    have lb : ((N.bd.map (N.ins + ·)).map pl).length ≤ 100000 := by rw [List.length_map, List.length_map]; omega
    have lc : (N.chs.map pl).length ≤ 100000 := by unfold Net.chs; rw [List.length_map, List.length_map]; omega
    have sb := sm_lst (sm_pls (ps := N.bd.map (N.ins + ·))) lb
    have sc := sm_lst (sm_pls (ps := N.chs)) lc
    have db : dep (.lst false ((N.bd.map (N.ins + ·)).map pl)) ≤ 3 := by rw [dep]; have := dep_pls (N.bd.map (N.ins + ·)); omega
    have dc : dep (.lst false (N.chs.map pl)) ≤ 3 := by rw [dep]; have := dep_pls N.chs; omega
    refine WC.ok (c_same4 (T := T) (by omega) sb sb sc sc db db dc dc) ?_
    (repeat (first | fail | with_reducible refine wo_mulr (by omega) (by omega) ?_))
    refine ⟨pures_rangeD _ _, ?_⟩
    refine w_forr (fun t ρ => ∃ g3 : Gn, ∃ t1 t4 t6 t7 t8 t9 t10 t11 t12, ρ = [some (.scr ns), t1, some g3.d, some N.enc, t4, some (.str (rp N.enc)), t6, t7, t8, t9, t10, t11, t12, none] ∧ g3.ok (1000 + 1000 * (6 - t.toNat)) ∧ (0 < t → ∃ pt : List Rat, t8 = some (.lst false (pt.map fr)) ∧ pt.length = N.ins ∧ ∀ q ∈ pt, Fs 4 q)) (by decide) ⟨g2, _, _, _, _, _, _, _, _, _, rfl, hg2.mono (by decide), fun z => absurd z (by decide)⟩ ?_ ?_
    · rintro t' ρ h0' h1' ⟨g3, t1, t4, t6, t7, t8, t9, t10, t11, t12, rfl, hg3, _⟩
      (repeat (first | fail | with_reducible refine wo_mulr (by omega) (by omega) ?_))
      refine wI.dec (fun hc => ?p1) (fun hc => ?p2)
      case' p1 =>
        (with_reducible refine wv_comp0 (by with_unfolding_all rfl) ?_)
        (repeat (first | fail | with_reducible refine wo_mulr (by omega) (by omega) ?_))
        refine wCo_r (fun u acc ρ => ∃ qs : List Rat, ∃ g5 : Gn, ∃ t13, ρ = [some (.scr ns), t1, some g5.d, some N.enc, some (.int t'), some (.str (rp N.enc)), t6, t7, t8, t9, t10, t11, t12, t13] ∧ acc = qs.map fr ∧ qs.length = u.toNat ∧ (∀ q ∈ qs, Fs 4 q) ∧ g5.ok (1000 + 1000 * (6 - (t' + 1).toNat) + (10 - u.toNat))) (by omega) ?i0 ?i1 ?i2
      case i0 =>
        (repeat (first | fail | with_reducible refine wo_mulr (by omega) (by omega) ?_))
        exact ⟨[], g3, none, rfl, rfl, rfl, fun _ h => absurd h List.not_mem_nil, hg3.mono (by simp; omega)⟩
      case i1 =>
        rintro u acc ρ u0 u1 ⟨qs, g5, t13, rfl, rfl, q1, q2, hg5⟩
        (repeat (first | fail | with_reducible refine wo_mulr (by omega) (by omega) ?_))
        refine (c_random (T := T) (by omega) (m := 1000 + 1000 * (6 - (t' + 1).toNat) + (10 - (u + 1).toNat)) (hg5.mono (by omega)) (by omega) (by omega)).use ?_
        rintro _ g6 ⟨z, rfl, z0, z1⟩ hg6
        (repeat (first | fail | with_reducible refine wo_mulr (by omega) (by omega) ?_))
        refine wLt.mk (by rw [List.length_map]; omega) ?_
        rw [← fr_int]
        exact ⟨qs ++ [((z - 1 : Int) : Rat)], g6, _, rfl, by rw [List.map_append]; rfl, by rw [List.length_append, q1]; simp; omega, fun x hx => by
          rcases List.mem_append.mp hx with h | h
          · exact q2 x h
          · rw [List.mem_singleton] at h; subst h; exact fs_int (by omega), hg6⟩
      case' i2 =>
        rintro acc ρ ⟨pt, g4, t13, rfl, rfl, hl', hf, hg4⟩
        have hl : pt.length = N.ins := by rw [hl']; omega
        replace hg4 := hg4.mono (k := 1000 + 1000 * (6 - (t' + 1).toNat)) (by omega)
        (repeat (first | fail | with_reducible refine wo_mulr (by omega) (by omega) ?_))
      case' p2 =>
        (repeat (first | fail | with_reducible refine wo_mulr (by omega) (by omega) ?_))
        refine (c_point (T := T) (by omega) (by omega) (m := 1000 + 1000 * (6 - (t' + 1).toNat)) (most := 4) (hg3.mono (by omega)) (by decide)).use ?_
        rintro _ g4 ⟨pt, rfl, hl, hf⟩ hg4
        (repeat (first | fail | with_reducible refine wo_mulr (by omega) (by omega) ?_))
      all_goals
        have hp := fs_pt hl hf
        have hs := fs_sm hf
        have hpt := pt_ok hs (by omega)
        have hpr : rpOK (.lst false (pt.map fr)) := (hpt.mono (Nat.le_refl _) (by decide)).rp (by decide)
        have hvl : (N.vals pt).length ≤ 100000 := by show (valsF N.nodes pt).length ≤ _; rw [valsF_len]; have := hw.n24; omega
        have hol : (N.outv pt).length ≤ 100000 := by unfold Net.outv; rw [List.length_map]; have := hw.o4; omega
        have sv : smD (.lst false ((N.vals pt).map fr)) = true := sm_lst (sm_frs (o := true) hvl) (by rw [List.length_map]; exact hvl)
        have so : smD (.lst false ((N.outv pt).map fr)) = true := sm_lst (sm_frs (o := true) hol) (by rw [List.length_map]; exact hol)
        have dv : dep (.lst false ((N.vals pt).map fr)) ≤ 3 := by rw [dep]; have := dep_frs (N.vals pt); omega
        have dv2 : dep (.lst false ((N.outv pt).map fr)) ≤ 3 := by rw [dep]; have := dep_frs (N.outv pt); omega
        refine WC.ok (c_law_values (T := T) (by omega) h hp) ?_
        (repeat (first | fail | with_reducible refine wo_mulr (by omega) (by omega) ?_))
        refine WC.ok (c_law_outs (T := T) (by omega) h hp) ?_
        (repeat (first | fail | with_reducible refine wo_mulr (by omega) (by omega) ?_))
        refine wb_repr hpr ?_
        (repeat (first | fail | with_reducible refine wo_mulr (by omega) (by omega) ?_))
        refine WC.ok (c_values_at (T := T) (by omega) h hp hs) ?_
        (repeat (first | fail | with_reducible refine wo_mulr (by omega) (by omega) ?_))
        refine WC.ok (c_values_at (T := T) (by omega) h hp hs) ?_
        (repeat (first | fail | with_reducible refine wo_mulr (by omega) (by omega) ?_))
        refine ⟨Pu.pu, WC.ok (c_same2 (T := T) (by omega) sv sv dv dv) ⟨⟨rfl, rfl⟩, ?_⟩⟩
        (repeat (first | fail | with_reducible refine wo_mulr (by omega) (by omega) ?_))
        refine WC.ok (c_outs_at (T := T) (by omega) h hp hs) ?_
        (repeat (first | fail | with_reducible refine wo_mulr (by omega) (by omega) ?_))
        refine WC.ok (c_outs_at (T := T) (by omega) h hp hs) ?_
        (repeat (first | fail | with_reducible refine wo_mulr (by omega) (by omega) ?_))
        refine WC.ok (c_same2 (T := T) (by omega) so so dv2 dv2) ?_
        (repeat (first | fail | with_reducible refine wo_mulr (by omega) (by omega) ?_))
        refine wLt.mk (by rw [List.length_map]; omega) ?_
        (repeat (first | fail | with_reducible refine wo_mulr (by omega) (by omega) ?_))
        refine WC.ok (c_values_at (T := T) (by omega) h hp hs) ?_
        (repeat (first | fail | with_reducible refine wo_mulr (by omega) (by omega) ?_))
        refine WC.ok (c_same (T := T) 3 (n - 1) _ dv (by omega) sv) ?_
        (repeat (first | fail | with_reducible refine wo_mulr (by omega) (by omega) ?_))
        refine wb_repr hpr ?_
        (repeat (first | fail | with_reducible refine wo_mulr (by omega) (by omega) ?_))
        refine wI.t' (beq_self_eq_true _) ?_
        (repeat (first | fail | with_reducible refine wo_mulr (by omega) (by omega) ?_))
        refine wb_repr hNr ?_
        (repeat (first | fail | with_reducible refine wo_mulr (by omega) (by omega) ?_))
        refine wI.t' (beq_self_eq_true _) ?_
        (repeat (first | fail | with_reducible refine wo_mulr (by omega) (by omega) ?_))
        exact ⟨g4, _, _, _, _, _, _, _, _, _, rfl, hg4, fun _ => ⟨pt, rfl, hl, hf⟩⟩
    · rintro ρ ⟨g3, t1, t4, t6, t7, t8, t9, t10, t11, t12, rfl, hg3, ht⟩
      obtain ⟨pt, rfl, hl, hf⟩ := ht (by decide)
      (repeat (first | fail | with_reducible refine wo_mulr (by omega) (by omega) ?_))
      refine WC.ok (c_refused_right (T := T) (by omega) h hl (fs_sm hf)) ?_
      (repeat (first | fail | with_reducible refine wo_mulr (by omega) (by omega) ?_))
      exact ⟨_, _, _, _, _, _, _, _, _, _, _, _, rfl⟩
  · rintro ρ ⟨t1, t2, t3, t4, t5, t6, t7, t8, t9, t10, t11, t12, rfl⟩
    (repeat (first | fail | with_reducible refine wo_mulr (by omega) (by omega) ?_))
    exact ⟨rfl, rfl⟩
end

end VI

set_option maxHeartbeats 0
set_option synthInstance.maxSize 128
set_option synthInstance.maxHeartbeats 20000
namespace K
open PySem PySem.Spec PyProof.Rows L2 VI He
def lv : Nat := 60
theorem main_fn (ns : List Int) (h1 : ns.length ≤ 63) (h2 : ∀ z ∈ ns, Builtin.Int.intBits z ≤ 1048576) : ∃ io, callN (tabOf fs) (upOf "NetError") lv "law" [.scr ns] = some (.ok (.bl true) io) := ⟨_, c_law_k02 (by decide)⟩
def ipos (n : Nat) : Pos := match n with
  | 0 => ⟨5, 8, 5, 13⟩ | 1 => ⟨5, 8, 5, 15⟩ | 2 => ⟨5, 8, 5, 24⟩ | 3 => ⟨5, 25, 5, 30⟩ | 4 => ⟨5, 8, 5, 31⟩ | 5 => ⟨5, 8, 5, 31⟩ | 6 => ⟨6, 8, 6, 12⟩ | 7 => ⟨6, 8, 6, 18⟩ | 8 => ⟨6, 21, 6, 26⟩ | _ => ⟨6, 8, 6, 26⟩
end K
open PySem PySem.W PySem.Calls PyProof.Rows
theorem PySem.Challenge.cw_wishkept_k02_whole_values_of_nets_holds : PySem.Challenge.rw_wishkept_k02_whole_values_of_nets.Holds := by
  w_on; o_law
  refine HandSHeadRun.head_any (r := K.RW0) (q := view K.RW0.prog [67]) (H := K.hk) (ob := K.ob) (M := 20000) (loose := K.loose)
    (d := HandSHeadRun.topDef K.RW0.prog 67) (kwd := []) K.ob_eq (by kernel_rfl) (fun s => by kernel_rfl) K.run (by kernel_rfl) (by kernel_rfl) (by kernel_rfl) (by rfl) (by first | assumption | decide +kernel) (by decide +kernel)
    ⟨rfl, rfl, rfl, rfl, rfl, by decide +kernel⟩ ?hw ?hc
  case hw => w_witness2
  case hc => exact VI.endV (x := "script") (pos := K.ipos) (lv := K.lv) rfl (by kernel_rfl) ⟨rfl, by decide, by decide⟩ (by kernel_rfl) rfl rfl K.cf_ok K.b_all (by decide +kernel) rfl rfl rfl rfl rfl K.main_fn
